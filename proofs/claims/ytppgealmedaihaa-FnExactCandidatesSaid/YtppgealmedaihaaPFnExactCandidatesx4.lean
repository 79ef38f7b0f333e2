-- The printed functions of one law and their contracts, over contracts of this session's own (hand.py).
import Derived.Test.YtppgealmedaihaaPFnExactCandidatesx0
import Derived.Test.YtppgealmedaihaaPFnExactCandidatesx3
namespace Go.Proofs.Ytppgealmedaihaa.PFnExactCandidates
open Go.RowKit Go.Proofs.YtppgealmedaihaaW.PrintWords Go.Proofs.YtppgealmedaihaaW.PrintLast Go.Proofs.YtppgealmedaihaaW.PrintMore Go.Proofs.Ytppgealmedaihaa.Short
attribute [local go_sem] max2_int min2_int max_two min_two max_three min_three max_four min_four   -- for this text's walks alone
set_option linter.unusedVariables false
set_option linter.unusedSimpArgs false

/-! ### spec_WhyNot: function 175 -/
mutual
def spec_WhyNot.j0 : Nat → Bool → Int → Int → List Int → Int → Int → List Int → Int → Int → Int → Int → Int → Int → Int → Int → Int → Int → Option (ByteArray)
 | 0, _, _, _, _, _, _, _, _, _, _, _, _, _, _, _, _, _ => none
 | k + 1, x5, x197000, x197001, x197002, x197003, x197004, x197005, x197006, x197007, x198000, x198001, x198002, x198003, x198004, x198005, x198006, x198007 => if x5 = true then (some (⟨#[105, 110, 118, 97, 108, 105, 100]⟩ : ByteArray)) else (if x197001 = x198001 then (if (x197002.length : Int) > 0 then ((spec_l8Has.f k x197002 x198002).bind fun t200 => (spec_WhyNot.j1 k (!t200) x197000 x197001 x197002 x197003 x197004 x197005 x197006 x197007 x198000 x198001 x198002 x198003 x198004 x198005 x198006 x198007)) else (spec_WhyNot.j1 k false x197000 x197001 x197002 x197003 x197004 x197005 x197006 x197007 x198000 x198001 x198002 x198003 x198004 x198005 x198006 x198007)) else (some (⟨#[107, 105, 110, 100]⟩ : ByteArray)))
def spec_WhyNot.j1 : Nat → Bool → Int → Int → List Int → Int → Int → List Int → Int → Int → Int → Int → Int → Int → Int → Int → Int → Int → Option (ByteArray)
 | 0, _, _, _, _, _, _, _, _, _, _, _, _, _, _, _, _, _ => none
 | k + 1, x21, x197000, x197001, x197002, x197003, x197004, x197005, x197006, x197007, x198000, x198001, x198002, x198003, x198004, x198005, x198006, x198007 => if x21 = true then (some (⟨#[99, 111, 108, 111, 117, 114]⟩ : ByteArray)) else ((spec_l1In.f x198003 x197003 x197004).bind fun t201 => (if t201 = true then (if (x197005.length : Int) > 0 then ((spec_l8Has.f k x197005 x198005).bind fun t202 => (spec_WhyNot.j2 k (!t202) x197000 x197001 x197002 x197003 x197004 x197005 x197006 x197007 x198000 x198001 x198002 x198003 x198004 x198005 x198006 x198007)) else (spec_WhyNot.j2 k false x197000 x197001 x197002 x197003 x197004 x197005 x197006 x197007 x198000 x198001 x198002 x198003 x198004 x198005 x198006 x198007)) else (some (⟨#[115, 105, 122, 101]⟩ : ByteArray))))
def spec_WhyNot.j2 : Nat → Bool → Int → Int → List Int → Int → Int → List Int → Int → Int → Int → Int → Int → Int → Int → Int → Int → Int → Option (ByteArray)
 | 0, _, _, _, _, _, _, _, _, _, _, _, _, _, _, _, _, _ => none
 | k + 1, x45, x197000, x197001, x197002, x197003, x197004, x197005, x197006, x197007, x198000, x198001, x198002, x198003, x198004, x198005, x198006, x198007 => if x45 = true then (some (⟨#[112, 108, 97, 99, 101]⟩ : ByteArray)) else (if x198006 < x197006 then (some (⟨#[116, 105, 109, 101]⟩ : ByteArray)) else (some (⟨#[]⟩ : ByteArray)))
end
def spec_WhyNot.f (k : Nat) (a0_0 : Int) (a0_1 : Int) (l0_2 : List Int) (a0_3 : Int) (a0_4 : Int) (l0_5 : List Int) (a0_6 : Int) (a0_7 : Int) (a1_0 : Int) (a1_1 : Int) (a1_2 : Int) (a1_3 : Int) (a1_4 : Int) (a1_5 : Int) (a1_6 : Int) (a1_7 : Int) : Option (ByteArray) := (spec_IsReport.f k a0_0 a0_1 l0_2 a0_3 a0_4 l0_5 a0_6 a0_7).bind fun t198 => (if t198 = true then ((spec_IsFind.f a1_0 a1_1 a1_2 a1_3 a1_4 a1_5 a1_6 a1_7).bind fun t199 => (spec_WhyNot.j0 k (!t199) a0_0 a0_1 l0_2 a0_3 a0_4 l0_5 a0_6 a0_7 a1_0 a1_1 a1_2 a1_3 a1_4 a1_5 a1_6 a1_7)) else (spec_WhyNot.j0 k true a0_0 a0_1 l0_2 a0_3 a0_4 l0_5 a0_6 a0_7 a1_0 a1_1 a1_2 a1_3 a1_4 a1_5 a1_6 a1_7))
theorem spec_WhyNot.mono_l : ∀ k, (∀ y0 y1 y2 y3 y4 y5 y6 y7 y8 y9 y10 y11 y12 y13 y14 y15 y16, LeO (spec_WhyNot.j0 k y0 y1 y2 y3 y4 y5 y6 y7 y8 y9 y10 y11 y12 y13 y14 y15 y16) (spec_WhyNot.j0 (k + 1) y0 y1 y2 y3 y4 y5 y6 y7 y8 y9 y10 y11 y12 y13 y14 y15 y16)) ∧ (∀ y0 y1 y2 y3 y4 y5 y6 y7 y8 y9 y10 y11 y12 y13 y14 y15 y16, LeO (spec_WhyNot.j1 k y0 y1 y2 y3 y4 y5 y6 y7 y8 y9 y10 y11 y12 y13 y14 y15 y16) (spec_WhyNot.j1 (k + 1) y0 y1 y2 y3 y4 y5 y6 y7 y8 y9 y10 y11 y12 y13 y14 y15 y16)) ∧ (∀ y0 y1 y2 y3 y4 y5 y6 y7 y8 y9 y10 y11 y12 y13 y14 y15 y16, LeO (spec_WhyNot.j2 k y0 y1 y2 y3 y4 y5 y6 y7 y8 y9 y10 y11 y12 y13 y14 y15 y16) (spec_WhyNot.j2 (k + 1) y0 y1 y2 y3 y4 y5 y6 y7 y8 y9 y10 y11 y12 y13 y14 y15 y16))
 | 0 => ⟨fun _ _ _ _ _ _ _ _ _ _ _ _ _ _ _ _ _ r h => by simp [spec_WhyNot.j0] at h, fun _ _ _ _ _ _ _ _ _ _ _ _ _ _ _ _ _ r h => by simp [spec_WhyNot.j1] at h, fun _ _ _ _ _ _ _ _ _ _ _ _ _ _ _ _ _ r h => by simp [spec_WhyNot.j2] at h⟩
 | k + 1 => by
  obtain ⟨ih0, ih1, ih2⟩ := spec_WhyNot.mono_l k; refine ⟨?_, ?_, ?_⟩; all_goals (intros; (first | unfold spec_WhyNot.j0 | unfold spec_WhyNot.j1 | unfold spec_WhyNot.j2); repeat' first | (with_reducible exact ih0 _ _ _ _ _ _ _ _ _ _ _ _ _ _ _ _ _) | (with_reducible exact ih1 _ _ _ _ _ _ _ _ _ _ _ _ _ _ _ _ _) | (with_reducible exact ih2 _ _ _ _ _ _ _ _ _ _ _ _ _ _ _ _ _) | (with_reducible exact spec_IsReport.mono _ _ _ _ _ _ _ _ _) | (with_reducible exact spec_l8Has.mono _ _ _) | (with_reducible exact LeO.refl _) | (with_reducible exact LeO.none _) | (with_reducible refine LeO.ite ?_ ?_) | (with_reducible refine LeO.bind ?_ (fun _ => ?_)) | exact ih0 _ _ _ _ _ _ _ _ _ _ _ _ _ _ _ _ _ | exact ih1 _ _ _ _ _ _ _ _ _ _ _ _ _ _ _ _ _ | exact ih2 _ _ _ _ _ _ _ _ _ _ _ _ _ _ _ _ _ | exact spec_IsReport.mono _ _ _ _ _ _ _ _ _ | exact spec_l8Has.mono _ _ _ | exact LeO.none _ | refine LeO.ite ?_ ?_ | refine LeO.bind ?_ (fun _ => ?_))
theorem spec_WhyNot.mono : ∀ a0 a1 a2 a3 a4 a5 a6 a7 a8 a9 a10 a11 a12 a13 a14 a15 k, LeO (spec_WhyNot.f k a0 a1 a2 a3 a4 a5 a6 a7 a8 a9 a10 a11 a12 a13 a14 a15) (spec_WhyNot.f (k + 1) a0 a1 a2 a3 a4 a5 a6 a7 a8 a9 a10 a11 a12 a13 a14 a15) := by
 intro a0 a1 a2 a3 a4 a5 a6 a7 a8 a9 a10 a11 a12 a13 a14 a15 k; obtain ⟨ih0, ih1, ih2⟩ := spec_WhyNot.mono_l k; unfold spec_WhyNot.f
 repeat' first
   | (with_reducible exact ih0 _ _ _ _ _ _ _ _ _ _ _ _ _ _ _ _ _)
   | (with_reducible exact ih1 _ _ _ _ _ _ _ _ _ _ _ _ _ _ _ _ _)
   | (with_reducible exact ih2 _ _ _ _ _ _ _ _ _ _ _ _ _ _ _ _ _)
   | (with_reducible exact spec_IsReport.mono _ _ _ _ _ _ _ _ _)
   | (with_reducible exact spec_l8Has.mono _ _ _)
   | (with_reducible exact LeO.refl _)
   | (with_reducible exact LeO.none _)
   | (with_reducible refine LeO.ite ?_ ?_)
   | (with_reducible refine LeO.bind ?_ (fun _ => ?_))
   | exact ih0 _ _ _ _ _ _ _ _ _ _ _ _ _ _ _ _ _
   | exact ih1 _ _ _ _ _ _ _ _ _ _ _ _ _ _ _ _ _
   | exact ih2 _ _ _ _ _ _ _ _ _ _ _ _ _ _ _ _ _
   | exact spec_IsReport.mono _ _ _ _ _ _ _ _ _
   | exact spec_l8Has.mono _ _ _
   | exact LeO.none _
   | refine LeO.ite ?_ ?_
   | refine LeO.bind ?_ (fun _ => ?_)
set_option maxHeartbeats 8000000 in
set_option maxRecDepth 100000 in
theorem spec_WhyNot.calls (k : Nat) (a0_0 : Int) (a0_1 : Int) (A0_2 : Option Addr) (c0_2 : Nat) (l0_2 : List Int) (a0_3 : Int) (a0_4 : Int) (A0_5 : Option Addr) (c0_5 : Nat) (l0_5 : List Int) (a0_6 : Int) (a0_7 : Int) (a1_0 : Int) (a1_1 : Int) (a1_2 : Int) (a1_3 : Int) (a1_4 : Int) (a1_5 : Int) (a1_6 : Int) (a1_7 : Int) (r : ByteArray) (w : World) (hr0_2 : Kd.C (Kd.int .i64) w A0_2 l0_2.length l0_2) (hc0_2 : l0_2.length ≤ c0_2) (hr0_5 : Kd.C (Kd.int .i64) w A0_5 l0_5.length l0_5) (hc0_5 : l0_5.length ≤ c0_5) (h : spec_WhyNot.f k a0_0 a0_1 l0_2 a0_3 a0_4 l0_5 a0_6 a0_7 a1_0 a1_1 a1_2 a1_3 a1_4 a1_5 a1_6 a1_7 = some r) :
  Calls Try.prog 175 #[.agg #[.int .i64 a0_0, .int .i64 a0_1, .slice A0_2 l0_2.length c0_2, .int .i64 a0_3, .int .i64 a0_4, .slice A0_5 l0_5.length c0_5, .int .i64 a0_6, .int .i64 a0_7], .agg #[.int .i64 a1_0, .int .i64 a1_1, .int .i64 a1_2, .int .i64 a1_3, .int .i64 a1_4, .int .i64 a1_5, .int .i64 a1_6, .int .i64 a1_7]] w fun e w' => e = .returned (.string r) ∧ Below w.heap.size w w' := by
 have hu44 := Try.underlying44; have hu98 := Try.underlying98; have HR0_2 := Aside0.mk hr0_2; have HC0_2 := Aside0.mk hc0_2; clear hr0_2 hc0_2; have HR0_5 := Aside0.mk hr0_5; have HC0_5 := Aside0.mk hc0_5; clear hr0_5 hc0_5; have HB := aM (Below.refl w.heap.size w); have H : ((spec_IsReport.f k a0_0 a0_1 l0_2 a0_3 a0_4 l0_5 a0_6 a0_7).bind fun t198 => (if t198 = true then ((spec_IsFind.f a1_0 a1_1 a1_2 a1_3 a1_4 a1_5 a1_6 a1_7).bind fun t199 => (spec_WhyNot.j0 k (!t199) a0_0 a0_1 l0_2 a0_3 a0_4 l0_5 a0_6 a0_7 a1_0 a1_1 a1_2 a1_3 a1_4 a1_5 a1_6 a1_7)) else (spec_WhyNot.j0 k true a0_0 a0_1 l0_2 a0_3 a0_4 l0_5 a0_6 a0_7 a1_0 a1_1 a1_2 a1_3 a1_4 a1_5 a1_6 a1_7))) = some r := h; clear h; have HC3 := Aside0.mk H; clear H; go_enter Try.func175, Try.ntmps175; go_upto_region 1 with (first | ((with_reducible refine gate_dst (N := 2) rfl ?_); refine bx 2 #[.int .i64 a0_0, .int .i64 a0_1, .slice A0_2 l0_2.length c0_2, .int .i64 a0_3, .int .i64 a0_4, .slice A0_5 l0_5.length c0_5, .int .i64 a0_6, .int .i64 a0_7] 44 ?_; intro gb196 hg w4 hbox hb; have BK196 := aM hbox; have GW196 := aM ((by rw [hg]; exact (below_size (qB HB)) : w.heap.size ≤ gb196)); have GE196 := aM ((by rw [hg]; exact (below_size (qB HB)) : w.heap.size ≤ gb196)); replace HB := aM (below_step (qB HB) hb); clear hb hbox hg) | ((with_reducible refine gate_dst (N := 3) rfl ?_); refine bx 3 #[.int .i64 a1_0, .int .i64 a1_1, .int .i64 a1_2, .int .i64 a1_3, .int .i64 a1_4, .int .i64 a1_5, .int .i64 a1_6, .int .i64 a1_7] 98 ?_; intro gb197 hg w5 hbox hb; have BK197 := aM hbox; have GW197 := aM ((by rw [hg]; exact (below_size (tB1 GE196)) : w.heap.size ≤ gb197)); have GE197 := aM ((by rw [hg]; exact (below_size (tB1 GE196)) : w.heap.size ≤ gb197)); replace HB := aM (below_step (tB1 GE196) hb); have NB196_197 := aM ((by rw [hg]; exact Nat.ne_of_lt (blk_lt (qK BK196)) : gb196 ≠ gb197)); have NB197_196 := aM ((by rw [hg]; exact Nat.ne_of_gt (blk_lt (qK BK196)) : gb197 ≠ gb196)); replace BK196 := aM (blk_below (qK BK196) hb); clear hb hbox hg))
 (try simp only [Act.put, sA, sZ, sS]); go_cut [5] (fun v5 wc => ∃ (kq : Nat) (x5_2 : Bool), v5 = .bool x5_2 ∧ Aside0 (spec_WhyNot.j0 kq x5_2 a0_0 a0_1 l0_2 a0_3 a0_4 l0_5 a0_6 a0_7 a1_0 a1_1 a1_2 a1_3 a1_4 a1_5 a1_6 a1_7 = some r) ∧ Aside0 (kq ≤ k) ∧ Aside0 (wc.heap[gb196]? = some (.cells #[.int .i64 a0_0, .int .i64 a0_1, (.slice A0_2 l0_2.length c0_2), .int .i64 a0_3, .int .i64 a0_4, (.slice A0_5 l0_5.length c0_5), .int .i64 a0_6, .int .i64 a0_7] 44 (0, 0))) ∧ Aside0 (wc.heap[gb197]? = some (.cells #[.int .i64 a1_0, .int .i64 a1_1, .int .i64 a1_2, .int .i64 a1_3, .int .i64 a1_4, .int .i64 a1_5, .int .i64 a1_6, .int .i64 a1_7] 98 (0, 0))) ∧ Aside0 (Below w.heap.size w wc))
 case first =>
  have H := HC3.out; clear HC3; replace H := Option.bind_eq_some_iff.mp H; obtain ⟨t198, A60, H⟩ := H; have A6 := Aside0.mk A60; clear A60; by_cases c7 : t198 = true
  ·subst c7; rw [if_pos rfl] at H; replace H := Option.bind_eq_some_iff.mp H; obtain ⟨t199, A80, H⟩ := H; have A8 := Aside0.mk A80; clear A80; have H' := Aside0.mk H; clear H; have hnb9 := NB196_197.out; have hnc9 := NB197_196.out; have hcz10_0 : w5.cell? ⟨gb196, 0, none⟩ = some (.int .i64 a0_0) := cC BK196 0; have hcz10_1 : w5.cell? ⟨gb196, 1, none⟩ = some (.int .i64 a0_1) := cC BK196 1; have hcz10_2 : w5.cell? ⟨gb196, 2, none⟩ = some (.slice A0_2 l0_2.length c0_2) := cC BK196 2; have hcz10_3 : w5.cell? ⟨gb196, 3, none⟩ = some (.int .i64 a0_3) := cC BK196 3; have hcz10_4 : w5.cell? ⟨gb196, 4, none⟩ = some (.int .i64 a0_4) := cC BK196 4; have hcz10_5 : w5.cell? ⟨gb196, 5, none⟩ = some (.slice A0_5 l0_5.length c0_5) := cC BK196 5; have hcz10_6 : w5.cell? ⟨gb196, 6, none⟩ = some (.int .i64 a0_6) := cC BK196 6; have hcz10_7 : w5.cell? ⟨gb196, 7, none⟩ = some (.int .i64 a0_7) := cC BK196 7; have hfz10_0 := blk_frozen BK196.out 0; have hfz10_1 := blk_frozen BK196.out 1; have hfz10_2 := blk_frozen BK196.out 2; have hfz10_3 := blk_frozen BK196.out 3; have hfz10_4 := blk_frozen BK196.out 4; have hfz10_5 := blk_frozen BK196.out 5; have hfz10_6 := blk_frozen BK196.out 6; have hfz10_7 := blk_frozen BK196.out 7; go_wp2_with (first | ((with_reducible refine gate_callee (f := 104) rfl ?_); refine gl 7 Try.func104 #[.agg #[.int .i64 a0_0, .int .i64 a0_1, .slice A0_2 l0_2.length c0_2, .int .i64 a0_3, .int .i64 a0_4, .slice A0_5 l0_5.length c0_5, .int .i64 a0_6, .int .i64 a0_7]] ?_; (with_reducible refine (spec_IsReport.calls k a0_0 a0_1 _ _ l0_2 a0_3 a0_4 _ _ l0_5 a0_6 a0_7 true _ ?side1 ?side2 ?side3 ?side4 A6.out).mono ?_); (case side1 => exact qC (Kd.C_below HR0_2.out HB.out)); (case side2 => exact HC0_2.out); (case side3 => exact qC (Kd.C_below HR0_5.out HB.out)); (case side4 => exact HC0_5.out); rintro e w11 ⟨rfl, hb⟩; refine ⟨_, rfl, ?_⟩; replace BK196 := aM (blk_below (qK BK196) hb); replace BK197 := aM (blk_below (qK BK197) hb); replace HB := aM (below_step (tB2 GE196 GE197) hb); (try clear hb); (try clear hb2); (try clear hk); (try clear hi); obtain ⟨hcz12_0, hcz12_1, hcz12_2, hcz12_3, hcz12_4, hcz12_5, hcz12_6, hcz12_7⟩ := cz8 BK197; obtain ⟨hfz12_0, hfz12_1, hfz12_2, hfz12_3, hfz12_4, hfz12_5, hfz12_6, hfz12_7⟩ := fz8 BK197) | (go_at_call 181; (with_reducible refine (spec_IsFind.calls a1_0 a1_1 a1_2 a1_3 a1_4 a1_5 a1_6 a1_7 t199 _ A8.out).mono ?_); rintro e w13 ⟨rfl, hb⟩; replace BK196 := aM (blk_below (qK BK196) hb); replace BK197 := aM (blk_below (qK BK197) hb); replace HB := aM (below_step (tB2 GE196 GE197) hb); (try clear hb); (try clear hb2); (try clear hk); (try clear hi))); go_meet
   case rel => exact ⟨_, (!t199), tS, H', ⟨by first | omega | exact Nat.le_refl _⟩, ⟨tK BK196⟩, ⟨tK BK197⟩, ⟨tB2 GE196 GE197⟩⟩
  ·replace c7 := Bool.eq_false_iff.mpr c7; subst c7; rw [if_neg ff_] at H; have H' := Aside0.mk H; clear H; have hnb14 := NB196_197.out; have hnc14 := NB197_196.out; have hcz15_0 : w5.cell? ⟨gb196, 0, none⟩ = some (.int .i64 a0_0) := cC BK196 0; have hcz15_1 : w5.cell? ⟨gb196, 1, none⟩ = some (.int .i64 a0_1) := cC BK196 1; have hcz15_2 : w5.cell? ⟨gb196, 2, none⟩ = some (.slice A0_2 l0_2.length c0_2) := cC BK196 2; have hcz15_3 : w5.cell? ⟨gb196, 3, none⟩ = some (.int .i64 a0_3) := cC BK196 3; have hcz15_4 : w5.cell? ⟨gb196, 4, none⟩ = some (.int .i64 a0_4) := cC BK196 4; have hcz15_5 : w5.cell? ⟨gb196, 5, none⟩ = some (.slice A0_5 l0_5.length c0_5) := cC BK196 5; have hcz15_6 : w5.cell? ⟨gb196, 6, none⟩ = some (.int .i64 a0_6) := cC BK196 6; have hcz15_7 : w5.cell? ⟨gb196, 7, none⟩ = some (.int .i64 a0_7) := cC BK196 7; have hfz15_0 := blk_frozen BK196.out 0; have hfz15_1 := blk_frozen BK196.out 1; have hfz15_2 := blk_frozen BK196.out 2; have hfz15_3 := blk_frozen BK196.out 3; have hfz15_4 := blk_frozen BK196.out 4; have hfz15_5 := blk_frozen BK196.out 5; have hfz15_6 := blk_frozen BK196.out 6; have hfz15_7 := blk_frozen BK196.out 7; go_wp2_with (first | ((with_reducible refine gate_callee (f := 104) rfl ?_); refine gl 7 Try.func104 #[.agg #[.int .i64 a0_0, .int .i64 a0_1, .slice A0_2 l0_2.length c0_2, .int .i64 a0_3, .int .i64 a0_4, .slice A0_5 l0_5.length c0_5, .int .i64 a0_6, .int .i64 a0_7]] ?_; (with_reducible refine (spec_IsReport.calls k a0_0 a0_1 _ _ l0_2 a0_3 a0_4 _ _ l0_5 a0_6 a0_7 false _ ?side1 ?side2 ?side3 ?side4 A6.out).mono ?_); (case side1 => exact qC (Kd.C_below HR0_2.out HB.out)); (case side2 => exact HC0_2.out); (case side3 => exact qC (Kd.C_below HR0_5.out HB.out)); (case side4 => exact HC0_5.out); rintro e w16 ⟨rfl, hb⟩; refine ⟨_, rfl, ?_⟩; replace BK196 := aM (blk_below (qK BK196) hb); replace BK197 := aM (blk_below (qK BK197) hb); replace HB := aM (below_step (tB2 GE196 GE197) hb); (try clear hb); (try clear hb2); (try clear hk); (try clear hi))); go_meet
   case rel => exact ⟨_, (true), tS, H', ⟨by first | omega | exact Nat.le_refl _⟩, ⟨tK BK196⟩, ⟨tK BK197⟩, ⟨tB2 GE196 GE197⟩⟩
 case rest =>
  clear HC3; try clear c1
  try clear p2
  try clear c7
  try clear c9
  try clear c10
  try clear c14
  try clear hcz10_0
  try clear hcz10_1
  try clear hcz10_2
  try clear hcz10_3
  try clear hcz10_4
  try clear hcz10_5
  try clear hcz10_6
  try clear hcz10_7
  try clear hcz12_0
  try clear hcz12_1
  try clear hcz12_2
  try clear hcz12_3
  try clear hcz12_4
  try clear hcz12_5
  try clear hcz12_6
  try clear hcz12_7
  try clear hcz15_0
  try clear hcz15_1
  try clear hcz15_2
  try clear hcz15_3
  try clear hcz15_4
  try clear hcz15_5
  try clear hcz15_6
  try clear hcz15_7
  try clear hfz10_0
  try clear hfz10_1
  try clear hfz10_2
  try clear hfz10_3
  try clear hfz10_4
  try clear hfz10_5
  try clear hfz10_6
  try clear hfz10_7
  try clear hfz12_0
  try clear hfz12_1
  try clear hfz12_2
  try clear hfz12_3
  try clear hfz12_4
  try clear hfz12_5
  try clear hfz12_6
  try clear hfz12_7
  try clear hfz15_0
  try clear hfz15_1
  try clear hfz15_2
  try clear hfz15_3
  try clear hfz15_4
  try clear hfz15_5
  try clear hfz15_6
  try clear hfz15_7
  obtain ⟨kq, x5_2, rfl, HA, HJ2, BK196, BK197, HB⟩ := hcut; cases kq with
  | zero => exact absurd HA.out (by simp [spec_WhyNot.j0])
  | succ kj2 =>
   have H := HA.out; clear HA; simp only [spec_WhyNot.j0] at H; by_cases c17 : x5_2 = true
   ·subst c17; rw [if_pos rfl] at H; obtain rfl := Option.some.inj H; go_wp2; go_ret; exact ⟨tE, tB2 GE196 GE197⟩
   ·replace c17 := Bool.eq_false_iff.mpr c17; subst c17; rw [if_neg ff_] at H; by_cases c18 : a0_1 = a1_1
    ·rw [if_pos c18] at H; have c18b0 : (a0_1 == a1_1) = true := beq_iff_eq.mpr c18; have c18b1 : (a0_1 != a1_1) = false := bne_eq_false_iff_eq.mpr c18; clear c18; have HC19 := Aside0.mk H; clear H; have hnb20 := NB196_197.out; have hnc20 := NB197_196.out; have hcz21_0 : wc.cell? ⟨gb196, 0, none⟩ = some (.int .i64 a0_0) := cC BK196 0; have hcz21_1 : wc.cell? ⟨gb196, 1, none⟩ = some (.int .i64 a0_1) := cC BK196 1; have hcz21_2 : wc.cell? ⟨gb196, 2, none⟩ = some (.slice A0_2 l0_2.length c0_2) := cC BK196 2; have hcz21_3 : wc.cell? ⟨gb196, 3, none⟩ = some (.int .i64 a0_3) := cC BK196 3; have hcz21_4 : wc.cell? ⟨gb196, 4, none⟩ = some (.int .i64 a0_4) := cC BK196 4; have hcz21_5 : wc.cell? ⟨gb196, 5, none⟩ = some (.slice A0_5 l0_5.length c0_5) := cC BK196 5; have hcz21_6 : wc.cell? ⟨gb196, 6, none⟩ = some (.int .i64 a0_6) := cC BK196 6; have hcz21_7 : wc.cell? ⟨gb196, 7, none⟩ = some (.int .i64 a0_7) := cC BK196 7; have hfz21_0 := blk_frozen BK196.out 0; have hfz21_1 := blk_frozen BK196.out 1; have hfz21_2 := blk_frozen BK196.out 2; have hfz21_3 := blk_frozen BK196.out 3; have hfz21_4 := blk_frozen BK196.out 4; have hfz21_5 := blk_frozen BK196.out 5; have hfz21_6 := blk_frozen BK196.out 6; have hfz21_7 := blk_frozen BK196.out 7; have hcz22_0 : wc.cell? ⟨gb197, 0, none⟩ = some (.int .i64 a1_0) := cC BK197 0; have hcz22_1 : wc.cell? ⟨gb197, 1, none⟩ = some (.int .i64 a1_1) := cC BK197 1; have hcz22_2 : wc.cell? ⟨gb197, 2, none⟩ = some (.int .i64 a1_2) := cC BK197 2; have hcz22_3 : wc.cell? ⟨gb197, 3, none⟩ = some (.int .i64 a1_3) := cC BK197 3; have hcz22_4 : wc.cell? ⟨gb197, 4, none⟩ = some (.int .i64 a1_4) := cC BK197 4; have hcz22_5 : wc.cell? ⟨gb197, 5, none⟩ = some (.int .i64 a1_5) := cC BK197 5; have hcz22_6 : wc.cell? ⟨gb197, 6, none⟩ = some (.int .i64 a1_6) := cC BK197 6; have hcz22_7 : wc.cell? ⟨gb197, 7, none⟩ = some (.int .i64 a1_7) := cC BK197 7; have hfz22_0 := blk_frozen BK197.out 0; have hfz22_1 := blk_frozen BK197.out 1; have hfz22_2 := blk_frozen BK197.out 2; have hfz22_3 := blk_frozen BK197.out 3; have hfz22_4 := blk_frozen BK197.out 4; have hfz22_5 := blk_frozen BK197.out 5; have hfz22_6 := blk_frozen BK197.out 6; have hfz22_7 := blk_frozen BK197.out 7; go_upto_region 5 with (fail)
     go_cut [21] (fun v21 wc => ∃ (kq : Nat) (x21_18 : Bool), v21 = .bool x21_18 ∧ Aside0 (spec_WhyNot.j1 kq x21_18 a0_0 a0_1 l0_2 a0_3 a0_4 l0_5 a0_6 a0_7 a1_0 a1_1 a1_2 a1_3 a1_4 a1_5 a1_6 a1_7 = some r) ∧ Aside0 (kq ≤ kj2) ∧ Aside0 (wc.heap[gb196]? = some (.cells #[.int .i64 a0_0, .int .i64 a0_1, (.slice A0_2 l0_2.length c0_2), .int .i64 a0_3, .int .i64 a0_4, (.slice A0_5 l0_5.length c0_5), .int .i64 a0_6, .int .i64 a0_7] 44 (0, 0))) ∧ Aside0 (wc.heap[gb197]? = some (.cells #[.int .i64 a1_0, .int .i64 a1_1, .int .i64 a1_2, .int .i64 a1_3, .int .i64 a1_4, .int .i64 a1_5, .int .i64 a1_6, .int .i64 a1_7] 98 (0, 0))) ∧ Aside0 (Below w.heap.size w wc))
     case first =>
      have H := HC19.out; clear HC19; by_cases c23 : (l0_2.length : Int) > 0
      ·rw [if_pos c23] at H; have c23b0 : decide (0 < (l0_2.length : Int)) = true := decide_eq_true c23; have c23b1 : decide (0 < l0_2.length) = true := decide_eq_true (by omega); clear c23; (first | rw [c23b0] | (simp only [i64_w, i32_w]; rw [c23b0]) | skip); replace H := Option.bind_eq_some_iff.mp H; obtain ⟨t200, A240, H⟩ := H; have A24 := Aside0.mk A240; clear A240; have H' := Aside0.mk H; clear H; have hnb25 := NB196_197.out; have hnc25 := NB197_196.out; have hcz26_0 : wc.cell? ⟨gb196, 0, none⟩ = some (.int .i64 a0_0) := cC BK196 0; have hcz26_1 : wc.cell? ⟨gb196, 1, none⟩ = some (.int .i64 a0_1) := cC BK196 1; have hcz26_2 : wc.cell? ⟨gb196, 2, none⟩ = some (.slice A0_2 l0_2.length c0_2) := cC BK196 2; have hcz26_3 : wc.cell? ⟨gb196, 3, none⟩ = some (.int .i64 a0_3) := cC BK196 3; have hcz26_4 : wc.cell? ⟨gb196, 4, none⟩ = some (.int .i64 a0_4) := cC BK196 4; have hcz26_5 : wc.cell? ⟨gb196, 5, none⟩ = some (.slice A0_5 l0_5.length c0_5) := cC BK196 5; have hcz26_6 : wc.cell? ⟨gb196, 6, none⟩ = some (.int .i64 a0_6) := cC BK196 6; have hcz26_7 : wc.cell? ⟨gb196, 7, none⟩ = some (.int .i64 a0_7) := cC BK196 7; have hfz26_0 := blk_frozen BK196.out 0; have hfz26_1 := blk_frozen BK196.out 1; have hfz26_2 := blk_frozen BK196.out 2; have hfz26_3 := blk_frozen BK196.out 3; have hfz26_4 := blk_frozen BK196.out 4; have hfz26_5 := blk_frozen BK196.out 5; have hfz26_6 := blk_frozen BK196.out 6; have hfz26_7 := blk_frozen BK196.out 7; have hcz27_0 : wc.cell? ⟨gb197, 0, none⟩ = some (.int .i64 a1_0) := cC BK197 0; have hcz27_1 : wc.cell? ⟨gb197, 1, none⟩ = some (.int .i64 a1_1) := cC BK197 1; have hcz27_2 : wc.cell? ⟨gb197, 2, none⟩ = some (.int .i64 a1_2) := cC BK197 2; have hcz27_3 : wc.cell? ⟨gb197, 3, none⟩ = some (.int .i64 a1_3) := cC BK197 3; have hcz27_4 : wc.cell? ⟨gb197, 4, none⟩ = some (.int .i64 a1_4) := cC BK197 4; have hcz27_5 : wc.cell? ⟨gb197, 5, none⟩ = some (.int .i64 a1_5) := cC BK197 5; have hcz27_6 : wc.cell? ⟨gb197, 6, none⟩ = some (.int .i64 a1_6) := cC BK197 6; have hcz27_7 : wc.cell? ⟨gb197, 7, none⟩ = some (.int .i64 a1_7) := cC BK197 7; have hfz27_0 := blk_frozen BK197.out 0; have hfz27_1 := blk_frozen BK197.out 1; have hfz27_2 := blk_frozen BK197.out 2; have hfz27_3 := blk_frozen BK197.out 3; have hfz27_4 := blk_frozen BK197.out 4; have hfz27_5 := blk_frozen BK197.out 5; have hfz27_6 := blk_frozen BK197.out 6; have hfz27_7 := blk_frozen BK197.out 7; go_wp2_with (first | (go_at_call 160; (with_reducible refine (spec_l8Has.calls kj2 _ _ l0_2 a1_2 t200 _ ?side1 ?side2 A24.out).mono ?_); (case side1 => exact qC (Kd.C_below HR0_2.out HB.out)); (case side2 => exact HC0_2.out); rintro e w' ⟨rfl, ⟨nd, rfl⟩⟩)); go_meet
       case rel => exact ⟨_, (!t200), tS, H', ⟨by have := HJ2.out; first | omega | exact Nat.le_refl _⟩, ⟨tK BK196⟩, ⟨tK BK197⟩, ⟨tB2 GE196 GE197⟩⟩
      ·rw [if_neg c23] at H; have c23b0 : decide (0 < (l0_2.length : Int)) = false := decide_eq_false c23; have c23b1 : decide (0 < l0_2.length) = false := decide_eq_false (by omega); clear c23; (first | rw [c23b0] | (simp only [i64_w, i32_w]; rw [c23b0]) | skip); have H' := Aside0.mk H; clear H; have hnb28 := NB196_197.out; have hnc28 := NB197_196.out; have hcz29_0 : wc.cell? ⟨gb196, 0, none⟩ = some (.int .i64 a0_0) := cC BK196 0; have hcz29_1 : wc.cell? ⟨gb196, 1, none⟩ = some (.int .i64 a0_1) := cC BK196 1; have hcz29_2 : wc.cell? ⟨gb196, 2, none⟩ = some (.slice A0_2 l0_2.length c0_2) := cC BK196 2; have hcz29_3 : wc.cell? ⟨gb196, 3, none⟩ = some (.int .i64 a0_3) := cC BK196 3; have hcz29_4 : wc.cell? ⟨gb196, 4, none⟩ = some (.int .i64 a0_4) := cC BK196 4; have hcz29_5 : wc.cell? ⟨gb196, 5, none⟩ = some (.slice A0_5 l0_5.length c0_5) := cC BK196 5; have hcz29_6 : wc.cell? ⟨gb196, 6, none⟩ = some (.int .i64 a0_6) := cC BK196 6; have hcz29_7 : wc.cell? ⟨gb196, 7, none⟩ = some (.int .i64 a0_7) := cC BK196 7; have hfz29_0 := blk_frozen BK196.out 0; have hfz29_1 := blk_frozen BK196.out 1; have hfz29_2 := blk_frozen BK196.out 2; have hfz29_3 := blk_frozen BK196.out 3; have hfz29_4 := blk_frozen BK196.out 4; have hfz29_5 := blk_frozen BK196.out 5; have hfz29_6 := blk_frozen BK196.out 6; have hfz29_7 := blk_frozen BK196.out 7; go_wp2; go_meet
       case rel => exact ⟨_, (false), tS, H', ⟨by have := HJ2.out; first | omega | exact Nat.le_refl _⟩, ⟨tK BK196⟩, ⟨tK BK197⟩, ⟨tB2 GE196 GE197⟩⟩
     case rest =>
      clear HC19; try clear c1
      try clear c2
      try clear p2
      try clear c7
      try clear c9
      try clear c10
      try clear c14
      try clear c17
      try clear c18
      try clear c18b0
      try clear c18b1
      try clear c20
      try clear c23
      try clear c23b0
      try clear c23b1
      try clear c25
      try clear c28
      try clear hcz10_0
      try clear hcz10_1
      try clear hcz10_2
      try clear hcz10_3
      try clear hcz10_4
      try clear hcz10_5
      try clear hcz10_6
      try clear hcz10_7
      try clear hcz12_0
      try clear hcz12_1
      try clear hcz12_2
      try clear hcz12_3
      try clear hcz12_4
      try clear hcz12_5
      try clear hcz12_6
      try clear hcz12_7
      try clear hcz15_0
      try clear hcz15_1
      try clear hcz15_2
      try clear hcz15_3
      try clear hcz15_4
      try clear hcz15_5
      try clear hcz15_6
      try clear hcz15_7
      try clear hcz21_0
      try clear hcz21_1
      try clear hcz21_2
      try clear hcz21_3
      try clear hcz21_4
      try clear hcz21_5
      try clear hcz21_6
      try clear hcz21_7
      try clear hcz22_0
      try clear hcz22_1
      try clear hcz22_2
      try clear hcz22_3
      try clear hcz22_4
      try clear hcz22_5
      try clear hcz22_6
      try clear hcz22_7
      try clear hcz26_0
      try clear hcz26_1
      try clear hcz26_2
      try clear hcz26_3
      try clear hcz26_4
      try clear hcz26_5
      try clear hcz26_6
      try clear hcz26_7
      try clear hcz27_0
      try clear hcz27_1
      try clear hcz27_2
      try clear hcz27_3
      try clear hcz27_4
      try clear hcz27_5
      try clear hcz27_6
      try clear hcz27_7
      try clear hcz29_0
      try clear hcz29_1
      try clear hcz29_2
      try clear hcz29_3
      try clear hcz29_4
      try clear hcz29_5
      try clear hcz29_6
      try clear hcz29_7
      try clear hfz10_0
      try clear hfz10_1
      try clear hfz10_2
      try clear hfz10_3
      try clear hfz10_4
      try clear hfz10_5
      try clear hfz10_6
      try clear hfz10_7
      try clear hfz12_0
      try clear hfz12_1
      try clear hfz12_2
      try clear hfz12_3
      try clear hfz12_4
      try clear hfz12_5
      try clear hfz12_6
      try clear hfz12_7
      try clear hfz15_0
      try clear hfz15_1
      try clear hfz15_2
      try clear hfz15_3
      try clear hfz15_4
      try clear hfz15_5
      try clear hfz15_6
      try clear hfz15_7
      try clear hfz21_0
      try clear hfz21_1
      try clear hfz21_2
      try clear hfz21_3
      try clear hfz21_4
      try clear hfz21_5
      try clear hfz21_6
      try clear hfz21_7
      try clear hfz22_0
      try clear hfz22_1
      try clear hfz22_2
      try clear hfz22_3
      try clear hfz22_4
      try clear hfz22_5
      try clear hfz22_6
      try clear hfz22_7
      try clear hfz26_0
      try clear hfz26_1
      try clear hfz26_2
      try clear hfz26_3
      try clear hfz26_4
      try clear hfz26_5
      try clear hfz26_6
      try clear hfz26_7
      try clear hfz27_0
      try clear hfz27_1
      try clear hfz27_2
      try clear hfz27_3
      try clear hfz27_4
      try clear hfz27_5
      try clear hfz27_6
      try clear hfz27_7
      try clear hfz29_0
      try clear hfz29_1
      try clear hfz29_2
      try clear hfz29_3
      try clear hfz29_4
      try clear hfz29_5
      try clear hfz29_6
      try clear hfz29_7
      try clear p2
      obtain ⟨kq, x21_18, rfl, HA, HJ18, BK196, BK197, HB⟩ := hcut; cases kq with
      | zero => exact absurd HA.out (by simp [spec_WhyNot.j1])
      | succ kj18 =>
       have H := HA.out; clear HA; simp only [spec_WhyNot.j1] at H; by_cases c30 : x21_18 = true
       ·subst c30; rw [if_pos rfl] at H; obtain rfl := Option.some.inj H; go_wp2; go_ret; exact ⟨tE, tB2 GE196 GE197⟩
       ·replace c30 := Bool.eq_false_iff.mpr c30; subst c30; rw [if_neg ff_] at H; replace H := Option.bind_eq_some_iff.mp H; obtain ⟨t201, A310, H⟩ := H; have A31 := Aside0.mk A310; clear A310; by_cases c32 : t201 = true
        ·subst c32; rw [if_pos rfl] at H; have HC33 := Aside0.mk H; clear H; have hnb34 := NB197_196.out; have hnc34 := NB196_197.out; have hcz35_0 : wc.cell? ⟨gb197, 0, none⟩ = some (.int .i64 a1_0) := cC BK197 0; have hcz35_1 : wc.cell? ⟨gb197, 1, none⟩ = some (.int .i64 a1_1) := cC BK197 1; have hcz35_2 : wc.cell? ⟨gb197, 2, none⟩ = some (.int .i64 a1_2) := cC BK197 2; have hcz35_3 : wc.cell? ⟨gb197, 3, none⟩ = some (.int .i64 a1_3) := cC BK197 3; have hcz35_4 : wc.cell? ⟨gb197, 4, none⟩ = some (.int .i64 a1_4) := cC BK197 4; have hcz35_5 : wc.cell? ⟨gb197, 5, none⟩ = some (.int .i64 a1_5) := cC BK197 5; have hcz35_6 : wc.cell? ⟨gb197, 6, none⟩ = some (.int .i64 a1_6) := cC BK197 6; have hcz35_7 : wc.cell? ⟨gb197, 7, none⟩ = some (.int .i64 a1_7) := cC BK197 7; have hfz35_0 := blk_frozen BK197.out 0; have hfz35_1 := blk_frozen BK197.out 1; have hfz35_2 := blk_frozen BK197.out 2; have hfz35_3 := blk_frozen BK197.out 3; have hfz35_4 := blk_frozen BK197.out 4; have hfz35_5 := blk_frozen BK197.out 5; have hfz35_6 := blk_frozen BK197.out 6; have hfz35_7 := blk_frozen BK197.out 7; have hcz36_0 : wc.cell? ⟨gb196, 0, none⟩ = some (.int .i64 a0_0) := cC BK196 0; have hcz36_1 : wc.cell? ⟨gb196, 1, none⟩ = some (.int .i64 a0_1) := cC BK196 1; have hcz36_2 : wc.cell? ⟨gb196, 2, none⟩ = some (.slice A0_2 l0_2.length c0_2) := cC BK196 2; have hcz36_3 : wc.cell? ⟨gb196, 3, none⟩ = some (.int .i64 a0_3) := cC BK196 3; have hcz36_4 : wc.cell? ⟨gb196, 4, none⟩ = some (.int .i64 a0_4) := cC BK196 4; have hcz36_5 : wc.cell? ⟨gb196, 5, none⟩ = some (.slice A0_5 l0_5.length c0_5) := cC BK196 5; have hcz36_6 : wc.cell? ⟨gb196, 6, none⟩ = some (.int .i64 a0_6) := cC BK196 6; have hcz36_7 : wc.cell? ⟨gb196, 7, none⟩ = some (.int .i64 a0_7) := cC BK196 7; have hfz36_0 := blk_frozen BK196.out 0; have hfz36_1 := blk_frozen BK196.out 1; have hfz36_2 := blk_frozen BK196.out 2; have hfz36_3 := blk_frozen BK196.out 3; have hfz36_4 := blk_frozen BK196.out 4; have hfz36_5 := blk_frozen BK196.out 5; have hfz36_6 := blk_frozen BK196.out 6; have hfz36_7 := blk_frozen BK196.out 7; go_upto_region 9 with (first | ((with_reducible refine gate_callee (f := 151) rfl ?_); refine gl 43 Try.func151 #[.int .i64 a1_3, .int .i64 a0_3, .int .i64 a0_4] ?_; (with_reducible refine (spec_l1In.calls a1_3 a0_3 a0_4 true _ A31.out).mono ?_); rintro e w' ⟨rfl, ⟨nd, rfl⟩⟩; refine ⟨_, rfl, ?_⟩))
         (try simp only [Act.put, sA, sZ, sS]); go_cut [45] (fun v45 wc => ∃ (kq : Nat) (x45_32 : Bool), v45 = .bool x45_32 ∧ Aside0 (spec_WhyNot.j2 kq x45_32 a0_0 a0_1 l0_2 a0_3 a0_4 l0_5 a0_6 a0_7 a1_0 a1_1 a1_2 a1_3 a1_4 a1_5 a1_6 a1_7 = some r) ∧ Aside0 (kq ≤ kj18) ∧ Aside0 (wc.heap[gb196]? = some (.cells #[.int .i64 a0_0, .int .i64 a0_1, (.slice A0_2 l0_2.length c0_2), .int .i64 a0_3, .int .i64 a0_4, (.slice A0_5 l0_5.length c0_5), .int .i64 a0_6, .int .i64 a0_7] 44 (0, 0))) ∧ Aside0 (wc.heap[gb197]? = some (.cells #[.int .i64 a1_0, .int .i64 a1_1, .int .i64 a1_2, .int .i64 a1_3, .int .i64 a1_4, .int .i64 a1_5, .int .i64 a1_6, .int .i64 a1_7] 98 (0, 0))) ∧ Aside0 (Below w.heap.size w wc))
         case first =>
          have H := HC33.out; clear HC33; by_cases c37 : (l0_5.length : Int) > 0
          ·rw [if_pos c37] at H; have c37b0 : decide (0 < (l0_5.length : Int)) = true := decide_eq_true c37; have c37b1 : decide (0 < l0_5.length) = true := decide_eq_true (by omega); clear c37; (first | rw [c37b0] | (simp only [i64_w, i32_w]; rw [c37b0]) | skip); replace H := Option.bind_eq_some_iff.mp H; obtain ⟨t202, A380, H⟩ := H; have A38 := Aside0.mk A380; clear A380; have H' := Aside0.mk H; clear H; have hnb39 := NB196_197.out; have hnc39 := NB197_196.out; have hcz40_0 : wc.cell? ⟨gb196, 0, none⟩ = some (.int .i64 a0_0) := cC BK196 0; have hcz40_1 : wc.cell? ⟨gb196, 1, none⟩ = some (.int .i64 a0_1) := cC BK196 1; have hcz40_2 : wc.cell? ⟨gb196, 2, none⟩ = some (.slice A0_2 l0_2.length c0_2) := cC BK196 2; have hcz40_3 : wc.cell? ⟨gb196, 3, none⟩ = some (.int .i64 a0_3) := cC BK196 3; have hcz40_4 : wc.cell? ⟨gb196, 4, none⟩ = some (.int .i64 a0_4) := cC BK196 4; have hcz40_5 : wc.cell? ⟨gb196, 5, none⟩ = some (.slice A0_5 l0_5.length c0_5) := cC BK196 5; have hcz40_6 : wc.cell? ⟨gb196, 6, none⟩ = some (.int .i64 a0_6) := cC BK196 6; have hcz40_7 : wc.cell? ⟨gb196, 7, none⟩ = some (.int .i64 a0_7) := cC BK196 7; have hfz40_0 := blk_frozen BK196.out 0; have hfz40_1 := blk_frozen BK196.out 1; have hfz40_2 := blk_frozen BK196.out 2; have hfz40_3 := blk_frozen BK196.out 3; have hfz40_4 := blk_frozen BK196.out 4; have hfz40_5 := blk_frozen BK196.out 5; have hfz40_6 := blk_frozen BK196.out 6; have hfz40_7 := blk_frozen BK196.out 7; have hcz41_0 : wc.cell? ⟨gb197, 0, none⟩ = some (.int .i64 a1_0) := cC BK197 0; have hcz41_1 : wc.cell? ⟨gb197, 1, none⟩ = some (.int .i64 a1_1) := cC BK197 1; have hcz41_2 : wc.cell? ⟨gb197, 2, none⟩ = some (.int .i64 a1_2) := cC BK197 2; have hcz41_3 : wc.cell? ⟨gb197, 3, none⟩ = some (.int .i64 a1_3) := cC BK197 3; have hcz41_4 : wc.cell? ⟨gb197, 4, none⟩ = some (.int .i64 a1_4) := cC BK197 4; have hcz41_5 : wc.cell? ⟨gb197, 5, none⟩ = some (.int .i64 a1_5) := cC BK197 5; have hcz41_6 : wc.cell? ⟨gb197, 6, none⟩ = some (.int .i64 a1_6) := cC BK197 6; have hcz41_7 : wc.cell? ⟨gb197, 7, none⟩ = some (.int .i64 a1_7) := cC BK197 7; have hfz41_0 := blk_frozen BK197.out 0; have hfz41_1 := blk_frozen BK197.out 1; have hfz41_2 := blk_frozen BK197.out 2; have hfz41_3 := blk_frozen BK197.out 3; have hfz41_4 := blk_frozen BK197.out 4; have hfz41_5 := blk_frozen BK197.out 5; have hfz41_6 := blk_frozen BK197.out 6; have hfz41_7 := blk_frozen BK197.out 7; go_wp2_with (first | (go_at_call 160; (with_reducible refine (spec_l8Has.calls kj18 _ _ l0_5 a1_5 t202 _ ?side1 ?side2 A38.out).mono ?_); (case side1 => exact qC (Kd.C_below HR0_5.out HB.out)); (case side2 => exact HC0_5.out); rintro e w' ⟨rfl, ⟨nd, rfl⟩⟩)); go_meet
           case rel => exact ⟨_, (!t202), tS, H', ⟨by have := HJ2.out; have := HJ18.out; first | omega | exact Nat.le_refl _⟩, ⟨tK BK196⟩, ⟨tK BK197⟩, ⟨tB2 GE196 GE197⟩⟩
          ·rw [if_neg c37] at H; have c37b0 : decide (0 < (l0_5.length : Int)) = false := decide_eq_false c37; have c37b1 : decide (0 < l0_5.length) = false := decide_eq_false (by omega); clear c37; (first | rw [c37b0] | (simp only [i64_w, i32_w]; rw [c37b0]) | skip); have H' := Aside0.mk H; clear H; have hnb42 := NB196_197.out; have hnc42 := NB197_196.out; have hcz43_0 : wc.cell? ⟨gb196, 0, none⟩ = some (.int .i64 a0_0) := cC BK196 0; have hcz43_1 : wc.cell? ⟨gb196, 1, none⟩ = some (.int .i64 a0_1) := cC BK196 1; have hcz43_2 : wc.cell? ⟨gb196, 2, none⟩ = some (.slice A0_2 l0_2.length c0_2) := cC BK196 2; have hcz43_3 : wc.cell? ⟨gb196, 3, none⟩ = some (.int .i64 a0_3) := cC BK196 3; have hcz43_4 : wc.cell? ⟨gb196, 4, none⟩ = some (.int .i64 a0_4) := cC BK196 4; have hcz43_5 : wc.cell? ⟨gb196, 5, none⟩ = some (.slice A0_5 l0_5.length c0_5) := cC BK196 5; have hcz43_6 : wc.cell? ⟨gb196, 6, none⟩ = some (.int .i64 a0_6) := cC BK196 6; have hcz43_7 : wc.cell? ⟨gb196, 7, none⟩ = some (.int .i64 a0_7) := cC BK196 7; have hfz43_0 := blk_frozen BK196.out 0; have hfz43_1 := blk_frozen BK196.out 1; have hfz43_2 := blk_frozen BK196.out 2; have hfz43_3 := blk_frozen BK196.out 3; have hfz43_4 := blk_frozen BK196.out 4; have hfz43_5 := blk_frozen BK196.out 5; have hfz43_6 := blk_frozen BK196.out 6; have hfz43_7 := blk_frozen BK196.out 7; go_wp2; go_meet
           case rel => exact ⟨_, (false), tS, H', ⟨by have := HJ2.out; have := HJ18.out; first | omega | exact Nat.le_refl _⟩, ⟨tK BK196⟩, ⟨tK BK197⟩, ⟨tB2 GE196 GE197⟩⟩
         case rest =>
          clear HC33; try clear c1
          try clear c2
          try clear p2
          try clear c3
          try clear c4
          try clear c7
          try clear c9
          try clear c10
          try clear c14
          try clear c15
          try clear c17
          try clear c18
          try clear c18b0
          try clear c18b1
          try clear c20
          try clear c23
          try clear c23b0
          try clear c23b1
          try clear c25
          try clear c28
          try clear c30
          try clear c32
          try clear c34
          try clear c37
          try clear c37b0
          try clear c37b1
          try clear c39
          try clear c42
          try clear hcz10_0
          try clear hcz10_1
          try clear hcz10_2
          try clear hcz10_3
          try clear hcz10_4
          try clear hcz10_5
          try clear hcz10_6
          try clear hcz10_7
          try clear hcz12_0
          try clear hcz12_1
          try clear hcz12_2
          try clear hcz12_3
          try clear hcz12_4
          try clear hcz12_5
          try clear hcz12_6
          try clear hcz12_7
          try clear hcz15_0
          try clear hcz15_1
          try clear hcz15_2
          try clear hcz15_3
          try clear hcz15_4
          try clear hcz15_5
          try clear hcz15_6
          try clear hcz15_7
          try clear hcz21_0
          try clear hcz21_1
          try clear hcz21_2
          try clear hcz21_3
          try clear hcz21_4
          try clear hcz21_5
          try clear hcz21_6
          try clear hcz21_7
          try clear hcz22_0
          try clear hcz22_1
          try clear hcz22_2
          try clear hcz22_3
          try clear hcz22_4
          try clear hcz22_5
          try clear hcz22_6
          try clear hcz22_7
          try clear hcz26_0
          try clear hcz26_1
          try clear hcz26_2
          try clear hcz26_3
          try clear hcz26_4
          try clear hcz26_5
          try clear hcz26_6
          try clear hcz26_7
          try clear hcz27_0
          try clear hcz27_1
          try clear hcz27_2
          try clear hcz27_3
          try clear hcz27_4
          try clear hcz27_5
          try clear hcz27_6
          try clear hcz27_7
          try clear hcz29_0
          try clear hcz29_1
          try clear hcz29_2
          try clear hcz29_3
          try clear hcz29_4
          try clear hcz29_5
          try clear hcz29_6
          try clear hcz29_7
          try clear hcz35_0
          try clear hcz35_1
          try clear hcz35_2
          try clear hcz35_3
          try clear hcz35_4
          try clear hcz35_5
          try clear hcz35_6
          try clear hcz35_7
          try clear hcz36_0
          try clear hcz36_1
          try clear hcz36_2
          try clear hcz36_3
          try clear hcz36_4
          try clear hcz36_5
          try clear hcz36_6
          try clear hcz36_7
          try clear hcz40_0
          try clear hcz40_1
          try clear hcz40_2
          try clear hcz40_3
          try clear hcz40_4
          try clear hcz40_5
          try clear hcz40_6
          try clear hcz40_7
          try clear hcz41_0
          try clear hcz41_1
          try clear hcz41_2
          try clear hcz41_3
          try clear hcz41_4
          try clear hcz41_5
          try clear hcz41_6
          try clear hcz41_7
          try clear hcz43_0
          try clear hcz43_1
          try clear hcz43_2
          try clear hcz43_3
          try clear hcz43_4
          try clear hcz43_5
          try clear hcz43_6
          try clear hcz43_7
          try clear hfz10_0
          try clear hfz10_1
          try clear hfz10_2
          try clear hfz10_3
          try clear hfz10_4
          try clear hfz10_5
          try clear hfz10_6
          try clear hfz10_7
          try clear hfz12_0
          try clear hfz12_1
          try clear hfz12_2
          try clear hfz12_3
          try clear hfz12_4
          try clear hfz12_5
          try clear hfz12_6
          try clear hfz12_7
          try clear hfz15_0
          try clear hfz15_1
          try clear hfz15_2
          try clear hfz15_3
          try clear hfz15_4
          try clear hfz15_5
          try clear hfz15_6
          try clear hfz15_7
          try clear hfz21_0
          try clear hfz21_1
          try clear hfz21_2
          try clear hfz21_3
          try clear hfz21_4
          try clear hfz21_5
          try clear hfz21_6
          try clear hfz21_7
          try clear hfz22_0
          try clear hfz22_1
          try clear hfz22_2
          try clear hfz22_3
          try clear hfz22_4
          try clear hfz22_5
          try clear hfz22_6
          try clear hfz22_7
          try clear hfz26_0
          try clear hfz26_1
          try clear hfz26_2
          try clear hfz26_3
          try clear hfz26_4
          try clear hfz26_5
          try clear hfz26_6
          try clear hfz26_7
          try clear hfz27_0
          try clear hfz27_1
          try clear hfz27_2
          try clear hfz27_3
          try clear hfz27_4
          try clear hfz27_5
          try clear hfz27_6
          try clear hfz27_7
          try clear hfz29_0
          try clear hfz29_1
          try clear hfz29_2
          try clear hfz29_3
          try clear hfz29_4
          try clear hfz29_5
          try clear hfz29_6
          try clear hfz29_7
          try clear hfz35_0
          try clear hfz35_1
          try clear hfz35_2
          try clear hfz35_3
          try clear hfz35_4
          try clear hfz35_5
          try clear hfz35_6
          try clear hfz35_7
          try clear hfz36_0
          try clear hfz36_1
          try clear hfz36_2
          try clear hfz36_3
          try clear hfz36_4
          try clear hfz36_5
          try clear hfz36_6
          try clear hfz36_7
          try clear hfz40_0
          try clear hfz40_1
          try clear hfz40_2
          try clear hfz40_3
          try clear hfz40_4
          try clear hfz40_5
          try clear hfz40_6
          try clear hfz40_7
          try clear hfz41_0
          try clear hfz41_1
          try clear hfz41_2
          try clear hfz41_3
          try clear hfz41_4
          try clear hfz41_5
          try clear hfz41_6
          try clear hfz41_7
          try clear hfz43_0
          try clear hfz43_1
          try clear hfz43_2
          try clear hfz43_3
          try clear hfz43_4
          try clear hfz43_5
          try clear hfz43_6
          try clear hfz43_7
          try clear p2
          obtain ⟨kq, x45_32, rfl, HA, HJ32, BK196, BK197, HB⟩ := hcut; cases kq with
          | zero => exact absurd HA.out (by simp [spec_WhyNot.j2])
          | succ kj32 =>
           have H := HA.out; clear HA; simp only [spec_WhyNot.j2] at H; by_cases c44 : x45_32 = true
           ·subst c44; rw [if_pos rfl] at H; obtain rfl := Option.some.inj H; go_wp2; go_ret; exact ⟨tE, tB2 GE196 GE197⟩
           ·replace c44 := Bool.eq_false_iff.mpr c44; subst c44; rw [if_neg ff_] at H; by_cases c45 : a1_6 < a0_6
            ·rw [if_pos c45] at H; have c45b0 : decide (a1_6 < a0_6) = true := decide_eq_true c45; clear c45; obtain rfl := Option.some.inj H; have hnb46 := NB197_196.out; have hnc46 := NB196_197.out; have hcz47_0 : wc.cell? ⟨gb197, 0, none⟩ = some (.int .i64 a1_0) := cC BK197 0; have hcz47_1 : wc.cell? ⟨gb197, 1, none⟩ = some (.int .i64 a1_1) := cC BK197 1; have hcz47_2 : wc.cell? ⟨gb197, 2, none⟩ = some (.int .i64 a1_2) := cC BK197 2; have hcz47_3 : wc.cell? ⟨gb197, 3, none⟩ = some (.int .i64 a1_3) := cC BK197 3; have hcz47_4 : wc.cell? ⟨gb197, 4, none⟩ = some (.int .i64 a1_4) := cC BK197 4; have hcz47_5 : wc.cell? ⟨gb197, 5, none⟩ = some (.int .i64 a1_5) := cC BK197 5; have hcz47_6 : wc.cell? ⟨gb197, 6, none⟩ = some (.int .i64 a1_6) := cC BK197 6; have hcz47_7 : wc.cell? ⟨gb197, 7, none⟩ = some (.int .i64 a1_7) := cC BK197 7; have hfz47_0 := blk_frozen BK197.out 0; have hfz47_1 := blk_frozen BK197.out 1; have hfz47_2 := blk_frozen BK197.out 2; have hfz47_3 := blk_frozen BK197.out 3; have hfz47_4 := blk_frozen BK197.out 4; have hfz47_5 := blk_frozen BK197.out 5; have hfz47_6 := blk_frozen BK197.out 6; have hfz47_7 := blk_frozen BK197.out 7; have hcz48_0 : wc.cell? ⟨gb196, 0, none⟩ = some (.int .i64 a0_0) := cC BK196 0; have hcz48_1 : wc.cell? ⟨gb196, 1, none⟩ = some (.int .i64 a0_1) := cC BK196 1; have hcz48_2 : wc.cell? ⟨gb196, 2, none⟩ = some (.slice A0_2 l0_2.length c0_2) := cC BK196 2; have hcz48_3 : wc.cell? ⟨gb196, 3, none⟩ = some (.int .i64 a0_3) := cC BK196 3; have hcz48_4 : wc.cell? ⟨gb196, 4, none⟩ = some (.int .i64 a0_4) := cC BK196 4; have hcz48_5 : wc.cell? ⟨gb196, 5, none⟩ = some (.slice A0_5 l0_5.length c0_5) := cC BK196 5; have hcz48_6 : wc.cell? ⟨gb196, 6, none⟩ = some (.int .i64 a0_6) := cC BK196 6; have hcz48_7 : wc.cell? ⟨gb196, 7, none⟩ = some (.int .i64 a0_7) := cC BK196 7; have hfz48_0 := blk_frozen BK196.out 0; have hfz48_1 := blk_frozen BK196.out 1; have hfz48_2 := blk_frozen BK196.out 2; have hfz48_3 := blk_frozen BK196.out 3; have hfz48_4 := blk_frozen BK196.out 4; have hfz48_5 := blk_frozen BK196.out 5; have hfz48_6 := blk_frozen BK196.out 6; have hfz48_7 := blk_frozen BK196.out 7; go_wp2; go_ret; exact ⟨tE, tB2 GE196 GE197⟩
            ·rw [if_neg c45] at H; have c45b0 : decide (a1_6 < a0_6) = false := decide_eq_false c45; clear c45; obtain rfl := Option.some.inj H; have hnb49 := NB197_196.out; have hnc49 := NB196_197.out; have hcz50_0 : wc.cell? ⟨gb197, 0, none⟩ = some (.int .i64 a1_0) := cC BK197 0; have hcz50_1 : wc.cell? ⟨gb197, 1, none⟩ = some (.int .i64 a1_1) := cC BK197 1; have hcz50_2 : wc.cell? ⟨gb197, 2, none⟩ = some (.int .i64 a1_2) := cC BK197 2; have hcz50_3 : wc.cell? ⟨gb197, 3, none⟩ = some (.int .i64 a1_3) := cC BK197 3; have hcz50_4 : wc.cell? ⟨gb197, 4, none⟩ = some (.int .i64 a1_4) := cC BK197 4; have hcz50_5 : wc.cell? ⟨gb197, 5, none⟩ = some (.int .i64 a1_5) := cC BK197 5; have hcz50_6 : wc.cell? ⟨gb197, 6, none⟩ = some (.int .i64 a1_6) := cC BK197 6; have hcz50_7 : wc.cell? ⟨gb197, 7, none⟩ = some (.int .i64 a1_7) := cC BK197 7; have hfz50_0 := blk_frozen BK197.out 0; have hfz50_1 := blk_frozen BK197.out 1; have hfz50_2 := blk_frozen BK197.out 2; have hfz50_3 := blk_frozen BK197.out 3; have hfz50_4 := blk_frozen BK197.out 4; have hfz50_5 := blk_frozen BK197.out 5; have hfz50_6 := blk_frozen BK197.out 6; have hfz50_7 := blk_frozen BK197.out 7; have hcz51_0 : wc.cell? ⟨gb196, 0, none⟩ = some (.int .i64 a0_0) := cC BK196 0; have hcz51_1 : wc.cell? ⟨gb196, 1, none⟩ = some (.int .i64 a0_1) := cC BK196 1; have hcz51_2 : wc.cell? ⟨gb196, 2, none⟩ = some (.slice A0_2 l0_2.length c0_2) := cC BK196 2; have hcz51_3 : wc.cell? ⟨gb196, 3, none⟩ = some (.int .i64 a0_3) := cC BK196 3; have hcz51_4 : wc.cell? ⟨gb196, 4, none⟩ = some (.int .i64 a0_4) := cC BK196 4; have hcz51_5 : wc.cell? ⟨gb196, 5, none⟩ = some (.slice A0_5 l0_5.length c0_5) := cC BK196 5; have hcz51_6 : wc.cell? ⟨gb196, 6, none⟩ = some (.int .i64 a0_6) := cC BK196 6; have hcz51_7 : wc.cell? ⟨gb196, 7, none⟩ = some (.int .i64 a0_7) := cC BK196 7; have hfz51_0 := blk_frozen BK196.out 0; have hfz51_1 := blk_frozen BK196.out 1; have hfz51_2 := blk_frozen BK196.out 2; have hfz51_3 := blk_frozen BK196.out 3; have hfz51_4 := blk_frozen BK196.out 4; have hfz51_5 := blk_frozen BK196.out 5; have hfz51_6 := blk_frozen BK196.out 6; have hfz51_7 := blk_frozen BK196.out 7; go_wp2; go_ret; exact ⟨tE, tB2 GE196 GE197⟩
        ·replace c32 := Bool.eq_false_iff.mpr c32; subst c32; rw [if_neg ff_] at H; obtain rfl := Option.some.inj H; have hnb52 := NB197_196.out; have hnc52 := NB196_197.out; have hcz53_0 : wc.cell? ⟨gb197, 0, none⟩ = some (.int .i64 a1_0) := cC BK197 0; have hcz53_1 : wc.cell? ⟨gb197, 1, none⟩ = some (.int .i64 a1_1) := cC BK197 1; have hcz53_2 : wc.cell? ⟨gb197, 2, none⟩ = some (.int .i64 a1_2) := cC BK197 2; have hcz53_3 : wc.cell? ⟨gb197, 3, none⟩ = some (.int .i64 a1_3) := cC BK197 3; have hcz53_4 : wc.cell? ⟨gb197, 4, none⟩ = some (.int .i64 a1_4) := cC BK197 4; have hcz53_5 : wc.cell? ⟨gb197, 5, none⟩ = some (.int .i64 a1_5) := cC BK197 5; have hcz53_6 : wc.cell? ⟨gb197, 6, none⟩ = some (.int .i64 a1_6) := cC BK197 6; have hcz53_7 : wc.cell? ⟨gb197, 7, none⟩ = some (.int .i64 a1_7) := cC BK197 7; have hfz53_0 := blk_frozen BK197.out 0; have hfz53_1 := blk_frozen BK197.out 1; have hfz53_2 := blk_frozen BK197.out 2; have hfz53_3 := blk_frozen BK197.out 3; have hfz53_4 := blk_frozen BK197.out 4; have hfz53_5 := blk_frozen BK197.out 5; have hfz53_6 := blk_frozen BK197.out 6; have hfz53_7 := blk_frozen BK197.out 7; have hcz54_0 : wc.cell? ⟨gb196, 0, none⟩ = some (.int .i64 a0_0) := cC BK196 0; have hcz54_1 : wc.cell? ⟨gb196, 1, none⟩ = some (.int .i64 a0_1) := cC BK196 1; have hcz54_2 : wc.cell? ⟨gb196, 2, none⟩ = some (.slice A0_2 l0_2.length c0_2) := cC BK196 2; have hcz54_3 : wc.cell? ⟨gb196, 3, none⟩ = some (.int .i64 a0_3) := cC BK196 3; have hcz54_4 : wc.cell? ⟨gb196, 4, none⟩ = some (.int .i64 a0_4) := cC BK196 4; have hcz54_5 : wc.cell? ⟨gb196, 5, none⟩ = some (.slice A0_5 l0_5.length c0_5) := cC BK196 5; have hcz54_6 : wc.cell? ⟨gb196, 6, none⟩ = some (.int .i64 a0_6) := cC BK196 6; have hcz54_7 : wc.cell? ⟨gb196, 7, none⟩ = some (.int .i64 a0_7) := cC BK196 7; have hfz54_0 := blk_frozen BK196.out 0; have hfz54_1 := blk_frozen BK196.out 1; have hfz54_2 := blk_frozen BK196.out 2; have hfz54_3 := blk_frozen BK196.out 3; have hfz54_4 := blk_frozen BK196.out 4; have hfz54_5 := blk_frozen BK196.out 5; have hfz54_6 := blk_frozen BK196.out 6; have hfz54_7 := blk_frozen BK196.out 7; go_wp2_with (first | ((with_reducible refine gate_callee (f := 151) rfl ?_); refine gl 43 Try.func151 #[.int .i64 a1_3, .int .i64 a0_3, .int .i64 a0_4] ?_; (with_reducible refine (spec_l1In.calls a1_3 a0_3 a0_4 false _ A31.out).mono ?_); rintro e w' ⟨rfl, ⟨nd, rfl⟩⟩; refine ⟨_, rfl, ?_⟩)); go_ret; exact ⟨tE, tB2 GE196 GE197⟩
    ·rw [if_neg c18] at H; have c18b0 : (a0_1 == a1_1) = false := beq_eq_false_iff_ne.mpr c18; have c18b1 : (a0_1 != a1_1) = true := bne_iff_ne.mpr c18; obtain rfl := Option.some.inj H; have hnb55 := NB196_197.out; have hnc55 := NB197_196.out; have hcz56_0 : wc.cell? ⟨gb196, 0, none⟩ = some (.int .i64 a0_0) := cC BK196 0; have hcz56_1 : wc.cell? ⟨gb196, 1, none⟩ = some (.int .i64 a0_1) := cC BK196 1; have hcz56_2 : wc.cell? ⟨gb196, 2, none⟩ = some (.slice A0_2 l0_2.length c0_2) := cC BK196 2; have hcz56_3 : wc.cell? ⟨gb196, 3, none⟩ = some (.int .i64 a0_3) := cC BK196 3; have hcz56_4 : wc.cell? ⟨gb196, 4, none⟩ = some (.int .i64 a0_4) := cC BK196 4; have hcz56_5 : wc.cell? ⟨gb196, 5, none⟩ = some (.slice A0_5 l0_5.length c0_5) := cC BK196 5; have hcz56_6 : wc.cell? ⟨gb196, 6, none⟩ = some (.int .i64 a0_6) := cC BK196 6; have hcz56_7 : wc.cell? ⟨gb196, 7, none⟩ = some (.int .i64 a0_7) := cC BK196 7; have hfz56_0 := blk_frozen BK196.out 0; have hfz56_1 := blk_frozen BK196.out 1; have hfz56_2 := blk_frozen BK196.out 2; have hfz56_3 := blk_frozen BK196.out 3; have hfz56_4 := blk_frozen BK196.out 4; have hfz56_5 := blk_frozen BK196.out 5; have hfz56_6 := blk_frozen BK196.out 6; have hfz56_7 := blk_frozen BK196.out 7; have hcz57_0 : wc.cell? ⟨gb197, 0, none⟩ = some (.int .i64 a1_0) := cC BK197 0; have hcz57_1 : wc.cell? ⟨gb197, 1, none⟩ = some (.int .i64 a1_1) := cC BK197 1; have hcz57_2 : wc.cell? ⟨gb197, 2, none⟩ = some (.int .i64 a1_2) := cC BK197 2; have hcz57_3 : wc.cell? ⟨gb197, 3, none⟩ = some (.int .i64 a1_3) := cC BK197 3; have hcz57_4 : wc.cell? ⟨gb197, 4, none⟩ = some (.int .i64 a1_4) := cC BK197 4; have hcz57_5 : wc.cell? ⟨gb197, 5, none⟩ = some (.int .i64 a1_5) := cC BK197 5; have hcz57_6 : wc.cell? ⟨gb197, 6, none⟩ = some (.int .i64 a1_6) := cC BK197 6; have hcz57_7 : wc.cell? ⟨gb197, 7, none⟩ = some (.int .i64 a1_7) := cC BK197 7; have hfz57_0 := blk_frozen BK197.out 0; have hfz57_1 := blk_frozen BK197.out 1; have hfz57_2 := blk_frozen BK197.out 2; have hfz57_3 := blk_frozen BK197.out 3; have hfz57_4 := blk_frozen BK197.out 4; have hfz57_5 := blk_frozen BK197.out 5; have hfz57_6 := blk_frozen BK197.out 6; have hfz57_7 := blk_frozen BK197.out 7; go_wp2; go_ret; exact ⟨tE, tB2 GE196 GE197⟩

end Go.Proofs.Ytppgealmedaihaa.PFnExactCandidates
