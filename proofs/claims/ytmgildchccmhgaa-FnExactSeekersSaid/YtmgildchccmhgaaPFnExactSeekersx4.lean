-- The printed functions of one law and their contracts, over contracts of this session's own (hand.py).
import Derived.Test.YtmgildchccmhgaaPFnExactSeekersx0
import Derived.Test.YtmgildchccmhgaaPFnExactSeekersx1
import Derived.Test.YtmgildchccmhgaaPFnExactSeekersx3
namespace Go.Proofs.Ytmgildchccmhgaa.PFnExactSeekers
open Go.RowKit Go.Proofs.YtmgildchccmhgaaW.PrintWords Go.Proofs.YtmgildchccmhgaaW.PrintLast Go.Proofs.YtmgildchccmhgaaW.PrintMore Go.Proofs.Ytmgildchccmhgaa.Short
attribute [local go_sem] max2_int min2_int max_two min_two max_three min_three max_four min_four   -- for this text's walks alone
set_option linter.unusedVariables false
set_option linter.unusedSimpArgs false

/-! ### spec_WhyNot: function 24 -/
mutual
def spec_WhyNot.j0 : Nat → Bool → Int → Int → List Int → Int → Int → List Int → Int → Int → Int → Int → Int → Int → Int → Int → Int → Int → Option (ByteArray)
 | 0, _, _, _, _, _, _, _, _, _, _, _, _, _, _, _, _, _ => none
 | k + 1, x5, aa, J, D, ab, ac, ad, ae, af, ag, L, Y, ah, ai, aj, ak, al => if x5 = true then (some (⟨#[105, 110, 118, 97, 108, 105, 100]⟩ : ByteArray)) else (if J = L then (if (D.length : Int) > 0 then ((spec_l8Has.f k D Y).bind fun am => (spec_WhyNot.j1 k (!am) aa J D ab ac ad ae af ag L Y ah ai aj ak al)) else (spec_WhyNot.j1 k false aa J D ab ac ad ae af ag L Y ah ai aj ak al)) else (some (⟨#[107, 105, 110, 100]⟩ : ByteArray)))
def spec_WhyNot.j1 : Nat → Bool → Int → Int → List Int → Int → Int → List Int → Int → Int → Int → Int → Int → Int → Int → Int → Int → Int → Option (ByteArray)
 | 0, _, _, _, _, _, _, _, _, _, _, _, _, _, _, _, _, _ => none
 | k + 1, am, ab, ac, ad, J, L, D, ae, af, ag, ah, ai, Y, aj, aa, ak, al => if am = true then (some (⟨#[99, 111, 108, 111, 117, 114]⟩ : ByteArray)) else ((spec_l1In.f Y J L).bind fun ao => (if ao = true then (if (D.length : Int) > 0 then ((spec_l8Has.f k D aa).bind fun ap => (spec_WhyNot.j2 k (!ap) ab ac ad J L D ae af ag ah ai Y aj aa ak al)) else (spec_WhyNot.j2 k false ab ac ad J L D ae af ag ah ai Y aj aa ak al)) else (some (⟨#[115, 105, 122, 101]⟩ : ByteArray))))
def spec_WhyNot.j2 : Nat → Bool → Int → Int → List Int → Int → Int → List Int → Int → Int → Int → Int → Int → Int → Int → Int → Int → Int → Option (ByteArray)
 | 0, _, _, _, _, _, _, _, _, _, _, _, _, _, _, _, _, _ => none
 | k + 1, D, Y, aa, ab, ac, ad, ae, J, af, ag, ah, ai, aj, ak, al, L, am => if D = true then (some (⟨#[112, 108, 97, 99, 101]⟩ : ByteArray)) else (if L < J then (some (⟨#[116, 105, 109, 101]⟩ : ByteArray)) else (some (⟨#[]⟩ : ByteArray)))
end
def spec_WhyNot.f (k : Nat) (a0_0 : Int) (a0_1 : Int) (l0_2 : List Int) (a0_3 : Int) (a0_4 : Int) (l0_5 : List Int) (a0_6 : Int) (a0_7 : Int) (a1_0 : Int) (a1_1 : Int) (a1_2 : Int) (a1_3 : Int) (a1_4 : Int) (a1_5 : Int) (a1_6 : Int) (a1_7 : Int) : Option (ByteArray) := (spec_IsReport.f k a0_0 a0_1 l0_2 a0_3 a0_4 l0_5 a0_6 a0_7).bind fun D => (if D = true then ((spec_IsFind.f a1_0 a1_1 a1_2 a1_3 a1_4 a1_5 a1_6 a1_7).bind fun J => (spec_WhyNot.j0 k (!J) a0_0 a0_1 l0_2 a0_3 a0_4 l0_5 a0_6 a0_7 a1_0 a1_1 a1_2 a1_3 a1_4 a1_5 a1_6 a1_7)) else (spec_WhyNot.j0 k true a0_0 a0_1 l0_2 a0_3 a0_4 l0_5 a0_6 a0_7 a1_0 a1_1 a1_2 a1_3 a1_4 a1_5 a1_6 a1_7))
theorem spec_WhyNot.mono_l : ∀ k, (∀ y0 y1 y2 y3 y4 y5 y6 y7 y8 y9 y10 y11 y12 y13 y14 y15 y16, LeO (spec_WhyNot.j0 k y0 y1 y2 y3 y4 y5 y6 y7 y8 y9 y10 y11 y12 y13 y14 y15 y16) (spec_WhyNot.j0 (k + 1) y0 y1 y2 y3 y4 y5 y6 y7 y8 y9 y10 y11 y12 y13 y14 y15 y16)) ∧ (∀ y0 y1 y2 y3 y4 y5 y6 y7 y8 y9 y10 y11 y12 y13 y14 y15 y16, LeO (spec_WhyNot.j1 k y0 y1 y2 y3 y4 y5 y6 y7 y8 y9 y10 y11 y12 y13 y14 y15 y16) (spec_WhyNot.j1 (k + 1) y0 y1 y2 y3 y4 y5 y6 y7 y8 y9 y10 y11 y12 y13 y14 y15 y16)) ∧ (∀ y0 y1 y2 y3 y4 y5 y6 y7 y8 y9 y10 y11 y12 y13 y14 y15 y16, LeO (spec_WhyNot.j2 k y0 y1 y2 y3 y4 y5 y6 y7 y8 y9 y10 y11 y12 y13 y14 y15 y16) (spec_WhyNot.j2 (k + 1) y0 y1 y2 y3 y4 y5 y6 y7 y8 y9 y10 y11 y12 y13 y14 y15 y16))
 | 0 => ⟨fun _ _ _ _ _ _ _ _ _ _ _ _ _ _ _ _ _ r h => by simp [spec_WhyNot.j0] at h, fun _ _ _ _ _ _ _ _ _ _ _ _ _ _ _ _ _ r h => by simp [spec_WhyNot.j1] at h, fun _ _ _ _ _ _ _ _ _ _ _ _ _ _ _ _ _ r h => by simp [spec_WhyNot.j2] at h⟩
 | k + 1 => by
  obtain ⟨ih0, ih1, ih2⟩ := spec_WhyNot.mono_l k; refine ⟨?_, ?_, ?_⟩; all_goals (intros; (first | unfold spec_WhyNot.j0 | unfold spec_WhyNot.j1 | unfold spec_WhyNot.j2); repeat' first | (with_reducible exact ih0 _ _ _ _ _ _ _ _ _ _ _ _ _ _ _ _ _) | (with_reducible exact ih1 _ _ _ _ _ _ _ _ _ _ _ _ _ _ _ _ _) | (with_reducible exact ih2 _ _ _ _ _ _ _ _ _ _ _ _ _ _ _ _ _) | (with_reducible exact spec_IsReport.mono _ _ _ _ _ _ _ _ _) | (with_reducible exact spec_l8Has.mono _ _ _) | (with_reducible exact LeO.refl _) | (with_reducible exact LeO.none _) | (with_reducible refine LeO.ite ?_ ?_) | (with_reducible refine LeO.bind ?_ (fun _ => ?_)) | exact ih0 _ _ _ _ _ _ _ _ _ _ _ _ _ _ _ _ _ | exact ih1 _ _ _ _ _ _ _ _ _ _ _ _ _ _ _ _ _ | exact ih2 _ _ _ _ _ _ _ _ _ _ _ _ _ _ _ _ _ | exact spec_IsReport.mono _ _ _ _ _ _ _ _ _ | exact spec_l8Has.mono _ _ _ | exact LeO.none _ | refine LeO.ite ?_ ?_ | refine LeO.bind ?_ (fun _ => ?_))
theorem spec_WhyNot.mono : ∀ a0 a1 a2 a3 a4 a5 a6 a7 a8 a9 a10 a11 a12 a13 a14 a15 k, LeO (spec_WhyNot.f k a0 a1 a2 a3 a4 a5 a6 a7 a8 a9 a10 a11 a12 a13 a14 a15) (spec_WhyNot.f (k + 1) a0 a1 a2 a3 a4 a5 a6 a7 a8 a9 a10 a11 a12 a13 a14 a15) := by
 intro a0 a1 a2 a3 a4 a5 a6 a7 a8 a9 a10 a11 a12 a13 a14 a15 k; obtain ⟨ih0, ih1, ih2⟩ := spec_WhyNot.mono_l k; unfold spec_WhyNot.f
 repeat' first
   | (with_reducible exact ih0 _ _ _ _ _ _ _ _ _ _ _ _ _ _ _ _ _)
   | (with_reducible exact ih1 _ _ _ _ _ _ _ _ _ _ _ _ _ _ _ _ _)
   | (with_reducible exact ih2 _ _ _ _ _ _ _ _ _ _ _ _ _ _ _ _ _)
   | (with_reducible exact spec_IsReport.mono _ _ _ _ _ _ _ _ _)
   | (with_reducible exact spec_l8Has.mono _ _ _)
   | (with_reducible exact LeO.refl _)
   | (with_reducible exact LeO.none _)
   | (with_reducible refine LeO.ite ?_ ?_)
   | (with_reducible refine LeO.bind ?_ (fun _ => ?_))
   | exact ih0 _ _ _ _ _ _ _ _ _ _ _ _ _ _ _ _ _
   | exact ih1 _ _ _ _ _ _ _ _ _ _ _ _ _ _ _ _ _
   | exact ih2 _ _ _ _ _ _ _ _ _ _ _ _ _ _ _ _ _
   | exact spec_IsReport.mono _ _ _ _ _ _ _ _ _
   | exact spec_l8Has.mono _ _ _
   | exact LeO.none _
   | refine LeO.ite ?_ ?_
   | refine LeO.bind ?_ (fun _ => ?_)
set_option maxHeartbeats 8000000 in
set_option maxRecDepth 100000 in
theorem spec_WhyNot.calls (k : Nat) (a0_0 : Int) (a0_1 : Int) (A0_2 : Option Addr) (c0_2 : Nat) (l0_2 : List Int) (a0_3 : Int) (a0_4 : Int) (A0_5 : Option Addr) (c0_5 : Nat) (l0_5 : List Int) (a0_6 : Int) (a0_7 : Int) (a1_0 : Int) (a1_1 : Int) (a1_2 : Int) (a1_3 : Int) (a1_4 : Int) (a1_5 : Int) (a1_6 : Int) (a1_7 : Int) (r : ByteArray) (w : World) (hr0_2 : Kd.C (Kd.int .i64) w A0_2 l0_2.length l0_2) (hc0_2 : l0_2.length ≤ c0_2) (hr0_5 : Kd.C (Kd.int .i64) w A0_5 l0_5.length l0_5) (hc0_5 : l0_5.length ≤ c0_5) (h : spec_WhyNot.f k a0_0 a0_1 l0_2 a0_3 a0_4 l0_5 a0_6 a0_7 a1_0 a1_1 a1_2 a1_3 a1_4 a1_5 a1_6 a1_7 = some r) :
  Calls Try.prog 24 #[.agg #[.int .i64 a0_0, .int .i64 a0_1, .slice A0_2 l0_2.length c0_2, .int .i64 a0_3, .int .i64 a0_4, .slice A0_5 l0_5.length c0_5, .int .i64 a0_6, .int .i64 a0_7], .agg #[.int .i64 a1_0, .int .i64 a1_1, .int .i64 a1_2, .int .i64 a1_3, .int .i64 a1_4, .int .i64 a1_5, .int .i64 a1_6, .int .i64 a1_7]] w fun e w' => e = .returned (.string r) ∧ Below w.heap.size w w' := by
 have hu50 := Try.underlying50; have hu32 := Try.underlying32; have ay := Aside0.mk hr0_2; have az := Aside0.mk hc0_2; clear hr0_2 hc0_2; have aA := Aside0.mk hr0_5; have aC := Aside0.mk hc0_5; clear hr0_5 hc0_5; have HB := aM (Below.refl w.heap.size w); have H : ((spec_IsReport.f k a0_0 a0_1 l0_2 a0_3 a0_4 l0_5 a0_6 a0_7).bind fun aD => (if aD = true then ((spec_IsFind.f a1_0 a1_1 a1_2 a1_3 a1_4 a1_5 a1_6 a1_7).bind fun aq => (spec_WhyNot.j0 k (!aq) a0_0 a0_1 l0_2 a0_3 a0_4 l0_5 a0_6 a0_7 a1_0 a1_1 a1_2 a1_3 a1_4 a1_5 a1_6 a1_7)) else (spec_WhyNot.j0 k true a0_0 a0_1 l0_2 a0_3 a0_4 l0_5 a0_6 a0_7 a1_0 a1_1 a1_2 a1_3 a1_4 a1_5 a1_6 a1_7))) = some r := h; clear h; have aE := Aside0.mk H; clear H; go_enter Try.func24, Try.ntmps24; go_upto_region 1 with (first | ((with_reducible refine gate_dst (N := 2) rfl ?_); refine bx 2 #[.int .i64 a0_0, .int .i64 a0_1, .slice A0_2 l0_2.length c0_2, .int .i64 a0_3, .int .i64 a0_4, .slice A0_5 l0_5.length c0_5, .int .i64 a0_6, .int .i64 a0_7] 50 ?_; intro L hg w4 hbox hb; have D := aM hbox; have ft := aM ((by rw [hg]; exact (below_size (qB HB)) : w.heap.size ≤ L)); have aa := aM ((by rw [hg]; exact (below_size (qB HB)) : w.heap.size ≤ L)); replace HB := aM (below_step (qB HB) hb); clear hb hbox hg) | ((with_reducible refine gate_dst (N := 3) rfl ?_); refine bx 3 #[.int .i64 a1_0, .int .i64 a1_1, .int .i64 a1_2, .int .i64 a1_3, .int .i64 a1_4, .int .i64 a1_5, .int .i64 a1_6, .int .i64 a1_7] 32 ?_; intro Y hg w5 hbox hb; have J := aM hbox; have fu := aM ((by rw [hg]; exact (below_size (tB1 aa)) : w.heap.size ≤ Y)); have ac := aM ((by rw [hg]; exact (below_size (tB1 aa)) : w.heap.size ≤ Y)); replace HB := aM (below_step (tB1 aa) hb); have ad := aM ((by rw [hg]; exact Nat.ne_of_lt (blk_lt (qK D)) : L ≠ Y)); have ae := aM ((by rw [hg]; exact Nat.ne_of_gt (blk_lt (qK D)) : Y ≠ L)); replace D := aM (blk_below (qK D) hb); clear hb hbox hg))
 (try simp only [Act.put, sA, sZ, sS]); go_cut [5] (fun v5 wc => ∃ (kq : Nat) (ar : Bool), v5 = .bool ar ∧ Aside0 (spec_WhyNot.j0 kq ar a0_0 a0_1 l0_2 a0_3 a0_4 l0_5 a0_6 a0_7 a1_0 a1_1 a1_2 a1_3 a1_4 a1_5 a1_6 a1_7 = some r) ∧ Aside0 (kq ≤ k) ∧ Aside0 (wc.heap[L]? = some (.cells #[.int .i64 a0_0, .int .i64 a0_1, (.slice A0_2 l0_2.length c0_2), .int .i64 a0_3, .int .i64 a0_4, (.slice A0_5 l0_5.length c0_5), .int .i64 a0_6, .int .i64 a0_7] 50 (0, 0))) ∧ Aside0 (wc.heap[Y]? = some (.cells #[.int .i64 a1_0, .int .i64 a1_1, .int .i64 a1_2, .int .i64 a1_3, .int .i64 a1_4, .int .i64 a1_5, .int .i64 a1_6, .int .i64 a1_7] 32 (0, 0))) ∧ Aside0 (Below w.heap.size w wc))
 case first =>
  have H := aE.out; clear aE; replace H := Option.bind_eq_some_iff.mp H; obtain ⟨aD, bQ, H⟩ := H; have A6 := Aside0.mk bQ; clear bQ; by_cases c7 : aD = true
  ·subst c7; rw [if_pos rfl] at H; replace H := Option.bind_eq_some_iff.mp H; obtain ⟨aq, bU, H⟩ := H; have A8 := Aside0.mk bU; clear bU; have H' := Aside0.mk H; clear H; have fv := ad.out; have fw := ae.out; have aG : w5.cell? ⟨L, 0, none⟩ = some (.int .i64 a0_0) := cC D 0; have aH : w5.cell? ⟨L, 1, none⟩ = some (.int .i64 a0_1) := cC D 1; have aI : w5.cell? ⟨L, 2, none⟩ = some (.slice A0_2 l0_2.length c0_2) := cC D 2; have aJ : w5.cell? ⟨L, 3, none⟩ = some (.int .i64 a0_3) := cC D 3; have aK : w5.cell? ⟨L, 4, none⟩ = some (.int .i64 a0_4) := cC D 4; have aN : w5.cell? ⟨L, 5, none⟩ = some (.slice A0_5 l0_5.length c0_5) := cC D 5; have aP : w5.cell? ⟨L, 6, none⟩ = some (.int .i64 a0_6) := cC D 6; have aQ : w5.cell? ⟨L, 7, none⟩ = some (.int .i64 a0_7) := cC D 7; have aT := blk_frozen D.out 0; have aU := blk_frozen D.out 1; have aV := blk_frozen D.out 2; have aW := blk_frozen D.out 3; have aX := blk_frozen D.out 4; have aY := blk_frozen D.out 5; have aZ := blk_frozen D.out 6; have a_ := blk_frozen D.out 7; go_wp2_with (first | ((with_reducible refine gate_callee (f := 23) rfl ?_); refine gl 7 Try.func23 #[.agg #[.int .i64 a0_0, .int .i64 a0_1, .slice A0_2 l0_2.length c0_2, .int .i64 a0_3, .int .i64 a0_4, .slice A0_5 l0_5.length c0_5, .int .i64 a0_6, .int .i64 a0_7]] ?_; (with_reducible refine (spec_IsReport.calls k a0_0 a0_1 _ _ l0_2 a0_3 a0_4 _ _ l0_5 a0_6 a0_7 true _ ?side1 ?side2 ?side3 ?side4 A6.out).mono ?_); (case side1 => exact qC (Kd.C_below ay.out HB.out)); (case side2 => exact az.out); (case side3 => exact qC (Kd.C_below aA.out HB.out)); (case side4 => exact aC.out); rintro e fx ⟨rfl, hb⟩; refine ⟨_, rfl, ?_⟩; replace D := aM (blk_below (qK D) hb); replace J := aM (blk_below (qK J) hb); replace HB := aM (below_step (tB2 aa ac) hb); (try clear hb); (try clear hb2); (try clear hk); (try clear hi); obtain ⟨ba, bb, bc, bd, be, bf, bg, bh⟩ := cz8 J; obtain ⟨bi, bj, bk, bl, bm, bn, bo, bp⟩ := fz8 J) | (go_at_call 33; (with_reducible refine (spec_IsFind.calls a1_0 a1_1 a1_2 a1_3 a1_4 a1_5 a1_6 a1_7 aq _ A8.out).mono ?_); rintro e fy ⟨rfl, hb⟩; replace D := aM (blk_below (qK D) hb); replace J := aM (blk_below (qK J) hb); replace HB := aM (below_step (tB2 aa ac) hb); (try clear hb); (try clear hb2); (try clear hk); (try clear hi))); go_meet
   case rel => exact ⟨_, (!aq), tS, H', ⟨by first | omega | exact Nat.le_refl _⟩, ⟨tK D⟩, ⟨tK J⟩, ⟨tB2 aa ac⟩⟩
  ·replace c7 := Bool.eq_false_iff.mpr c7; subst c7; rw [if_neg ff_] at H; have H' := Aside0.mk H; clear H; have fz := ad.out; have fA := ae.out; have bq : w5.cell? ⟨L, 0, none⟩ = some (.int .i64 a0_0) := cC D 0; have br : w5.cell? ⟨L, 1, none⟩ = some (.int .i64 a0_1) := cC D 1; have bs : w5.cell? ⟨L, 2, none⟩ = some (.slice A0_2 l0_2.length c0_2) := cC D 2; have bt : w5.cell? ⟨L, 3, none⟩ = some (.int .i64 a0_3) := cC D 3; have bu : w5.cell? ⟨L, 4, none⟩ = some (.int .i64 a0_4) := cC D 4; have bv : w5.cell? ⟨L, 5, none⟩ = some (.slice A0_5 l0_5.length c0_5) := cC D 5; have bw : w5.cell? ⟨L, 6, none⟩ = some (.int .i64 a0_6) := cC D 6; have bz : w5.cell? ⟨L, 7, none⟩ = some (.int .i64 a0_7) := cC D 7; have bB := blk_frozen D.out 0; have bC := blk_frozen D.out 1; have bE := blk_frozen D.out 2; have bF := blk_frozen D.out 3; have bG := blk_frozen D.out 4; have bH := blk_frozen D.out 5; have bI := blk_frozen D.out 6; have bJ := blk_frozen D.out 7; go_wp2_with (first | ((with_reducible refine gate_callee (f := 23) rfl ?_); refine gl 7 Try.func23 #[.agg #[.int .i64 a0_0, .int .i64 a0_1, .slice A0_2 l0_2.length c0_2, .int .i64 a0_3, .int .i64 a0_4, .slice A0_5 l0_5.length c0_5, .int .i64 a0_6, .int .i64 a0_7]] ?_; (with_reducible refine (spec_IsReport.calls k a0_0 a0_1 _ _ l0_2 a0_3 a0_4 _ _ l0_5 a0_6 a0_7 false _ ?side1 ?side2 ?side3 ?side4 A6.out).mono ?_); (case side1 => exact qC (Kd.C_below ay.out HB.out)); (case side2 => exact az.out); (case side3 => exact qC (Kd.C_below aA.out HB.out)); (case side4 => exact aC.out); rintro e fB ⟨rfl, hb⟩; refine ⟨_, rfl, ?_⟩; replace D := aM (blk_below (qK D) hb); replace J := aM (blk_below (qK J) hb); replace HB := aM (below_step (tB2 aa ac) hb); (try clear hb); (try clear hb2); (try clear hk); (try clear hi))); go_meet
   case rel => exact ⟨_, (true), tS, H', ⟨by first | omega | exact Nat.le_refl _⟩, ⟨tK D⟩, ⟨tK J⟩, ⟨tB2 aa ac⟩⟩
 case rest =>
  clear aE; try clear c1
  try clear c2
  try clear p2
  try clear c7
  try clear c9
  try clear bZ
  try clear aG
  try clear aH
  try clear aI
  try clear aJ
  try clear aK
  try clear aN
  try clear aP
  try clear aQ
  try clear ba
  try clear bb
  try clear bc
  try clear bd
  try clear be
  try clear bf
  try clear bg
  try clear bh
  try clear bq
  try clear br
  try clear bs
  try clear bt
  try clear bu
  try clear bv
  try clear bw
  try clear bz
  try clear aT
  try clear aU
  try clear aV
  try clear aW
  try clear aX
  try clear aY
  try clear aZ
  try clear a_
  try clear bi
  try clear bj
  try clear bk
  try clear bl
  try clear bm
  try clear bn
  try clear bo
  try clear bp
  try clear bB
  try clear bC
  try clear bE
  try clear bF
  try clear bG
  try clear bH
  try clear bI
  try clear bJ
  obtain ⟨kq, ar, rfl, HA, au, D, J, HB⟩ := hcut; cases kq with
  | zero => exact absurd HA.out (by simp [spec_WhyNot.j0])
  | succ b0 =>
   have H := HA.out; clear HA; simp only [spec_WhyNot.j0] at H; by_cases ak : ar = true
   ·subst ak; rw [if_pos rfl] at H; obtain rfl := Option.some.inj H; go_wp2; go_ret; exact ⟨tE, tB2 aa ac⟩
   ·replace ak := Bool.eq_false_iff.mpr ak; subst ak; rw [if_neg ff_] at H; by_cases af : a0_1 = a1_1
    ·rw [if_pos af] at H; have bK : (a0_1 == a1_1) = true := beq_iff_eq.mpr af; have bL : (a0_1 != a1_1) = false := bne_eq_false_iff_eq.mpr af; clear af; have bM := Aside0.mk H; clear H; have fC := ad.out; have fD := ae.out; have b1 : wc.cell? ⟨L, 0, none⟩ = some (.int .i64 a0_0) := cC D 0; have b2 : wc.cell? ⟨L, 1, none⟩ = some (.int .i64 a0_1) := cC D 1; have b3 : wc.cell? ⟨L, 2, none⟩ = some (.slice A0_2 l0_2.length c0_2) := cC D 2; have b4 : wc.cell? ⟨L, 3, none⟩ = some (.int .i64 a0_3) := cC D 3; have b5 : wc.cell? ⟨L, 4, none⟩ = some (.int .i64 a0_4) := cC D 4; have b6 : wc.cell? ⟨L, 5, none⟩ = some (.slice A0_5 l0_5.length c0_5) := cC D 5; have b7 : wc.cell? ⟨L, 6, none⟩ = some (.int .i64 a0_6) := cC D 6; have b8 : wc.cell? ⟨L, 7, none⟩ = some (.int .i64 a0_7) := cC D 7; have b9 := blk_frozen D.out 0; have b_ := blk_frozen D.out 1; have ca := blk_frozen D.out 2; have cc := blk_frozen D.out 3; have cd := blk_frozen D.out 4; have ce := blk_frozen D.out 5; have cf := blk_frozen D.out 6; have cg := blk_frozen D.out 7; have ch : wc.cell? ⟨Y, 0, none⟩ = some (.int .i64 a1_0) := cC J 0; have ci : wc.cell? ⟨Y, 1, none⟩ = some (.int .i64 a1_1) := cC J 1; have cj : wc.cell? ⟨Y, 2, none⟩ = some (.int .i64 a1_2) := cC J 2; have ck : wc.cell? ⟨Y, 3, none⟩ = some (.int .i64 a1_3) := cC J 3; have cl : wc.cell? ⟨Y, 4, none⟩ = some (.int .i64 a1_4) := cC J 4; have cm : wc.cell? ⟨Y, 5, none⟩ = some (.int .i64 a1_5) := cC J 5; have cn : wc.cell? ⟨Y, 6, none⟩ = some (.int .i64 a1_6) := cC J 6; have co : wc.cell? ⟨Y, 7, none⟩ = some (.int .i64 a1_7) := cC J 7; have cp := blk_frozen J.out 0; have cq := blk_frozen J.out 1; have cr := blk_frozen J.out 2; have ct := blk_frozen J.out 3; have cu := blk_frozen J.out 4; have cw := blk_frozen J.out 5; have cx := blk_frozen J.out 6; have cy := blk_frozen J.out 7; go_upto_region 5 with (fail)
     go_cut [21] (fun dM wc => ∃ (kq : Nat) (av : Bool), dM = .bool av ∧ Aside0 (spec_WhyNot.j1 kq av a0_0 a0_1 l0_2 a0_3 a0_4 l0_5 a0_6 a0_7 a1_0 a1_1 a1_2 a1_3 a1_4 a1_5 a1_6 a1_7 = some r) ∧ Aside0 (kq ≤ b0) ∧ Aside0 (wc.heap[L]? = some (.cells #[.int .i64 a0_0, .int .i64 a0_1, (.slice A0_2 l0_2.length c0_2), .int .i64 a0_3, .int .i64 a0_4, (.slice A0_5 l0_5.length c0_5), .int .i64 a0_6, .int .i64 a0_7] 50 (0, 0))) ∧ Aside0 (wc.heap[Y]? = some (.cells #[.int .i64 a1_0, .int .i64 a1_1, .int .i64 a1_2, .int .i64 a1_3, .int .i64 a1_4, .int .i64 a1_5, .int .i64 a1_6, .int .i64 a1_7] 32 (0, 0))) ∧ Aside0 (Below w.heap.size w wc))
     case first =>
      have H := bM.out; clear bM; by_cases ag : (l0_2.length : Int) > 0
      ·rw [if_pos ag] at H; have ai : decide (0 < (l0_2.length : Int)) = true := decide_eq_true ag; have bO : decide (0 < l0_2.length) = true := decide_eq_true (by omega); clear ag; (first | rw [ai] | (simp only [i64_w, i32_w]; rw [ai]) | skip); replace H := Option.bind_eq_some_iff.mp H; obtain ⟨cz, cA, H⟩ := H; have dN := Aside0.mk cA; clear cA; have H' := Aside0.mk H; clear H; have fE := ad.out; have fF := ae.out; have cD : wc.cell? ⟨L, 0, none⟩ = some (.int .i64 a0_0) := cC D 0; have cE : wc.cell? ⟨L, 1, none⟩ = some (.int .i64 a0_1) := cC D 1; have cF : wc.cell? ⟨L, 2, none⟩ = some (.slice A0_2 l0_2.length c0_2) := cC D 2; have cG : wc.cell? ⟨L, 3, none⟩ = some (.int .i64 a0_3) := cC D 3; have cH : wc.cell? ⟨L, 4, none⟩ = some (.int .i64 a0_4) := cC D 4; have cI : wc.cell? ⟨L, 5, none⟩ = some (.slice A0_5 l0_5.length c0_5) := cC D 5; have cJ : wc.cell? ⟨L, 6, none⟩ = some (.int .i64 a0_6) := cC D 6; have cK : wc.cell? ⟨L, 7, none⟩ = some (.int .i64 a0_7) := cC D 7; have cL := blk_frozen D.out 0; have cM := blk_frozen D.out 1; have cN := blk_frozen D.out 2; have cO := blk_frozen D.out 3; have cP := blk_frozen D.out 4; have cQ := blk_frozen D.out 5; have cR := blk_frozen D.out 6; have cS := blk_frozen D.out 7; have cT : wc.cell? ⟨Y, 0, none⟩ = some (.int .i64 a1_0) := cC J 0; have cU : wc.cell? ⟨Y, 1, none⟩ = some (.int .i64 a1_1) := cC J 1; have cV : wc.cell? ⟨Y, 2, none⟩ = some (.int .i64 a1_2) := cC J 2; have cW : wc.cell? ⟨Y, 3, none⟩ = some (.int .i64 a1_3) := cC J 3; have cX : wc.cell? ⟨Y, 4, none⟩ = some (.int .i64 a1_4) := cC J 4; have cY : wc.cell? ⟨Y, 5, none⟩ = some (.int .i64 a1_5) := cC J 5; have cZ : wc.cell? ⟨Y, 6, none⟩ = some (.int .i64 a1_6) := cC J 6; have c_ : wc.cell? ⟨Y, 7, none⟩ = some (.int .i64 a1_7) := cC J 7; have da := blk_frozen J.out 0; have db := blk_frozen J.out 1; have dd := blk_frozen J.out 2; have de := blk_frozen J.out 3; have df := blk_frozen J.out 4; have dg := blk_frozen J.out 5; have dh := blk_frozen J.out 6; have di := blk_frozen J.out 7; go_wp2_with (first | (go_at_call 34; (with_reducible refine (spec_l8Has.calls b0 _ _ l0_2 a1_2 cz _ ?side1 ?side2 dN.out).mono ?_); (case side1 => exact qC (Kd.C_below ay.out HB.out)); (case side2 => exact az.out); rintro e w' ⟨rfl, ⟨nd, rfl⟩⟩)); go_meet
       case rel => exact ⟨_, (!cz), tS, H', ⟨by have := au.out; first | omega | exact Nat.le_refl _⟩, ⟨tK D⟩, ⟨tK J⟩, ⟨tB2 aa ac⟩⟩
      ·rw [if_neg ag] at H; have ai : decide (0 < (l0_2.length : Int)) = false := decide_eq_false ag; have bO : decide (0 < l0_2.length) = false := decide_eq_false (by omega); clear ag; (first | rw [ai] | (simp only [i64_w, i32_w]; rw [ai]) | skip); have H' := Aside0.mk H; clear H; have fG := ad.out; have fH := ae.out; have dj : wc.cell? ⟨L, 0, none⟩ = some (.int .i64 a0_0) := cC D 0; have dk : wc.cell? ⟨L, 1, none⟩ = some (.int .i64 a0_1) := cC D 1; have dl : wc.cell? ⟨L, 2, none⟩ = some (.slice A0_2 l0_2.length c0_2) := cC D 2; have dm : wc.cell? ⟨L, 3, none⟩ = some (.int .i64 a0_3) := cC D 3; have dn : wc.cell? ⟨L, 4, none⟩ = some (.int .i64 a0_4) := cC D 4; have dp : wc.cell? ⟨L, 5, none⟩ = some (.slice A0_5 l0_5.length c0_5) := cC D 5; have dq : wc.cell? ⟨L, 6, none⟩ = some (.int .i64 a0_6) := cC D 6; have dr : wc.cell? ⟨L, 7, none⟩ = some (.int .i64 a0_7) := cC D 7; have dt := blk_frozen D.out 0; have du := blk_frozen D.out 1; have dv := blk_frozen D.out 2; have dw := blk_frozen D.out 3; have dx := blk_frozen D.out 4; have dy := blk_frozen D.out 5; have dz := blk_frozen D.out 6; have dA := blk_frozen D.out 7; go_wp2; go_meet
       case rel => exact ⟨_, (false), tS, H', ⟨by have := au.out; first | omega | exact Nat.le_refl _⟩, ⟨tK D⟩, ⟨tK J⟩, ⟨tB2 aa ac⟩⟩
     case rest =>
      clear bM; try clear c1
      try clear c2
      try clear p2
      try clear c7
      try clear c9
      try clear bZ
      try clear ak
      try clear af
      try clear bK
      try clear bL
      try clear dO
      try clear ag
      try clear ai
      try clear bO
      try clear dP
      try clear dQ
      try clear dS
      try clear aG
      try clear aH
      try clear aI
      try clear aJ
      try clear aK
      try clear aN
      try clear aP
      try clear aQ
      try clear ba
      try clear bb
      try clear bc
      try clear bd
      try clear be
      try clear bf
      try clear bg
      try clear bh
      try clear bq
      try clear br
      try clear bs
      try clear bt
      try clear bu
      try clear bv
      try clear bw
      try clear bz
      try clear b1
      try clear b2
      try clear b3
      try clear b4
      try clear b5
      try clear b6
      try clear b7
      try clear b8
      try clear ch
      try clear ci
      try clear cj
      try clear ck
      try clear cl
      try clear cm
      try clear cn
      try clear co
      try clear cD
      try clear cE
      try clear cF
      try clear cG
      try clear cH
      try clear cI
      try clear cJ
      try clear cK
      try clear cT
      try clear cU
      try clear cV
      try clear cW
      try clear cX
      try clear cY
      try clear cZ
      try clear c_
      try clear dj
      try clear dk
      try clear dl
      try clear dm
      try clear dn
      try clear dp
      try clear dq
      try clear dr
      try clear aT
      try clear aU
      try clear aV
      try clear aW
      try clear aX
      try clear aY
      try clear aZ
      try clear a_
      try clear bi
      try clear bj
      try clear bk
      try clear bl
      try clear bm
      try clear bn
      try clear bo
      try clear bp
      try clear bB
      try clear bC
      try clear bE
      try clear bF
      try clear bG
      try clear bH
      try clear bI
      try clear bJ
      try clear b9
      try clear b_
      try clear ca
      try clear cc
      try clear cd
      try clear ce
      try clear cf
      try clear cg
      try clear cp
      try clear cq
      try clear cr
      try clear ct
      try clear cu
      try clear cw
      try clear cx
      try clear cy
      try clear cL
      try clear cM
      try clear cN
      try clear cO
      try clear cP
      try clear cQ
      try clear cR
      try clear cS
      try clear da
      try clear db
      try clear dd
      try clear de
      try clear df
      try clear dg
      try clear dh
      try clear di
      try clear dt
      try clear du
      try clear dv
      try clear dw
      try clear dx
      try clear dy
      try clear dz
      try clear dA
      try clear p2
      obtain ⟨kq, av, rfl, HA, dC, D, J, HB⟩ := hcut; cases kq with
      | zero => exact absurd HA.out (by simp [spec_WhyNot.j1])
      | succ dD =>
       have H := HA.out; clear HA; simp only [spec_WhyNot.j1] at H; by_cases ao : av = true
       ·subst ao; rw [if_pos rfl] at H; obtain rfl := Option.some.inj H; go_wp2; go_ret; exact ⟨tE, tB2 aa ac⟩
       ·replace ao := Bool.eq_false_iff.mpr ao; subst ao; rw [if_neg ff_] at H; replace H := Option.bind_eq_some_iff.mp H; obtain ⟨dU, dE, H⟩ := H; have dF := Aside0.mk dE; clear dE; by_cases ap : dU = true
        ·subst ap; rw [if_pos rfl] at H; have bP := Aside0.mk H; clear H; have fI := ae.out; have fJ := ad.out; have dV : wc.cell? ⟨Y, 0, none⟩ = some (.int .i64 a1_0) := cC J 0; have dW : wc.cell? ⟨Y, 1, none⟩ = some (.int .i64 a1_1) := cC J 1; have dX : wc.cell? ⟨Y, 2, none⟩ = some (.int .i64 a1_2) := cC J 2; have dY : wc.cell? ⟨Y, 3, none⟩ = some (.int .i64 a1_3) := cC J 3; have dZ : wc.cell? ⟨Y, 4, none⟩ = some (.int .i64 a1_4) := cC J 4; have d0 : wc.cell? ⟨Y, 5, none⟩ = some (.int .i64 a1_5) := cC J 5; have d1 : wc.cell? ⟨Y, 6, none⟩ = some (.int .i64 a1_6) := cC J 6; have d2 : wc.cell? ⟨Y, 7, none⟩ = some (.int .i64 a1_7) := cC J 7; have d3 := blk_frozen J.out 0; have d4 := blk_frozen J.out 1; have d5 := blk_frozen J.out 2; have d6 := blk_frozen J.out 3; have d7 := blk_frozen J.out 4; have d8 := blk_frozen J.out 5; have d9 := blk_frozen J.out 6; have d_ := blk_frozen J.out 7; have ea : wc.cell? ⟨L, 0, none⟩ = some (.int .i64 a0_0) := cC D 0; have eb : wc.cell? ⟨L, 1, none⟩ = some (.int .i64 a0_1) := cC D 1; have ec : wc.cell? ⟨L, 2, none⟩ = some (.slice A0_2 l0_2.length c0_2) := cC D 2; have ed : wc.cell? ⟨L, 3, none⟩ = some (.int .i64 a0_3) := cC D 3; have ee : wc.cell? ⟨L, 4, none⟩ = some (.int .i64 a0_4) := cC D 4; have ef : wc.cell? ⟨L, 5, none⟩ = some (.slice A0_5 l0_5.length c0_5) := cC D 5; have eh : wc.cell? ⟨L, 6, none⟩ = some (.int .i64 a0_6) := cC D 6; have ei : wc.cell? ⟨L, 7, none⟩ = some (.int .i64 a0_7) := cC D 7; have ej := blk_frozen D.out 0; have ek := blk_frozen D.out 1; have el := blk_frozen D.out 2; have em := blk_frozen D.out 3; have en := blk_frozen D.out 4; have ep := blk_frozen D.out 5; have er := blk_frozen D.out 6; have es := blk_frozen D.out 7; go_upto_region 9 with (first | ((with_reducible refine gate_callee (f := 30) rfl ?_); refine gl 43 Try.func30 #[.int .i64 a1_3, .int .i64 a0_3, .int .i64 a0_4] ?_; (with_reducible refine (spec_l1In.calls a1_3 a0_3 a0_4 true _ dF.out).mono ?_); rintro e w' ⟨rfl, ⟨nd, rfl⟩⟩; refine ⟨_, rfl, ?_⟩))
         (try simp only [Act.put, sA, sZ, sS]); go_cut [45] (fun et wc => ∃ (kq : Nat) (aw : Bool), et = .bool aw ∧ Aside0 (spec_WhyNot.j2 kq aw a0_0 a0_1 l0_2 a0_3 a0_4 l0_5 a0_6 a0_7 a1_0 a1_1 a1_2 a1_3 a1_4 a1_5 a1_6 a1_7 = some r) ∧ Aside0 (kq ≤ dD) ∧ Aside0 (wc.heap[L]? = some (.cells #[.int .i64 a0_0, .int .i64 a0_1, (.slice A0_2 l0_2.length c0_2), .int .i64 a0_3, .int .i64 a0_4, (.slice A0_5 l0_5.length c0_5), .int .i64 a0_6, .int .i64 a0_7] 50 (0, 0))) ∧ Aside0 (wc.heap[Y]? = some (.cells #[.int .i64 a1_0, .int .i64 a1_1, .int .i64 a1_2, .int .i64 a1_3, .int .i64 a1_4, .int .i64 a1_5, .int .i64 a1_6, .int .i64 a1_7] 32 (0, 0))) ∧ Aside0 (Below w.heap.size w wc))
         case first =>
          have H := bP.out; clear bP; by_cases aj : (l0_5.length : Int) > 0
          ·rw [if_pos aj] at H; have al : decide (0 < (l0_5.length : Int)) = true := decide_eq_true aj; have dG : decide (0 < l0_5.length) = true := decide_eq_true (by omega); clear aj; (first | rw [al] | (simp only [i64_w, i32_w]; rw [al]) | skip); replace H := Option.bind_eq_some_iff.mp H; obtain ⟨dH, dI, H⟩ := H; have eu := Aside0.mk dI; clear dI; have H' := Aside0.mk H; clear H; have fK := ad.out; have fL := ae.out; have ev : wc.cell? ⟨L, 0, none⟩ = some (.int .i64 a0_0) := cC D 0; have ew : wc.cell? ⟨L, 1, none⟩ = some (.int .i64 a0_1) := cC D 1; have ex : wc.cell? ⟨L, 2, none⟩ = some (.slice A0_2 l0_2.length c0_2) := cC D 2; have ey : wc.cell? ⟨L, 3, none⟩ = some (.int .i64 a0_3) := cC D 3; have ez : wc.cell? ⟨L, 4, none⟩ = some (.int .i64 a0_4) := cC D 4; have eA : wc.cell? ⟨L, 5, none⟩ = some (.slice A0_5 l0_5.length c0_5) := cC D 5; have eB : wc.cell? ⟨L, 6, none⟩ = some (.int .i64 a0_6) := cC D 6; have eC : wc.cell? ⟨L, 7, none⟩ = some (.int .i64 a0_7) := cC D 7; have eD := blk_frozen D.out 0; have eE := blk_frozen D.out 1; have eF := blk_frozen D.out 2; have eG := blk_frozen D.out 3; have eH := blk_frozen D.out 4; have eI := blk_frozen D.out 5; have eJ := blk_frozen D.out 6; have eK := blk_frozen D.out 7; have eL : wc.cell? ⟨Y, 0, none⟩ = some (.int .i64 a1_0) := cC J 0; have eM : wc.cell? ⟨Y, 1, none⟩ = some (.int .i64 a1_1) := cC J 1; have eN : wc.cell? ⟨Y, 2, none⟩ = some (.int .i64 a1_2) := cC J 2; have eO : wc.cell? ⟨Y, 3, none⟩ = some (.int .i64 a1_3) := cC J 3; have eP : wc.cell? ⟨Y, 4, none⟩ = some (.int .i64 a1_4) := cC J 4; have eQ : wc.cell? ⟨Y, 5, none⟩ = some (.int .i64 a1_5) := cC J 5; have eR : wc.cell? ⟨Y, 6, none⟩ = some (.int .i64 a1_6) := cC J 6; have eS : wc.cell? ⟨Y, 7, none⟩ = some (.int .i64 a1_7) := cC J 7; have eT := blk_frozen J.out 0; have eU := blk_frozen J.out 1; have eV := blk_frozen J.out 2; have eW := blk_frozen J.out 3; have eX := blk_frozen J.out 4; have eY := blk_frozen J.out 5; have eZ := blk_frozen J.out 6; have e7 := blk_frozen J.out 7; go_wp2_with (first | (go_at_call 34; (with_reducible refine (spec_l8Has.calls dD _ _ l0_5 a1_5 dH _ ?side1 ?side2 eu.out).mono ?_); (case side1 => exact qC (Kd.C_below aA.out HB.out)); (case side2 => exact aC.out); rintro e w' ⟨rfl, ⟨nd, rfl⟩⟩)); go_meet
           case rel => exact ⟨_, (!dH), tS, H', ⟨by have := au.out; have := dC.out; first | omega | exact Nat.le_refl _⟩, ⟨tK D⟩, ⟨tK J⟩, ⟨tB2 aa ac⟩⟩
          ·rw [if_neg aj] at H; have al : decide (0 < (l0_5.length : Int)) = false := decide_eq_false aj; have dG : decide (0 < l0_5.length) = false := decide_eq_false (by omega); clear aj; (first | rw [al] | (simp only [i64_w, i32_w]; rw [al]) | skip); have H' := Aside0.mk H; clear H; have fM := ad.out; have fN := ae.out; have e8 : wc.cell? ⟨L, 0, none⟩ = some (.int .i64 a0_0) := cC D 0; have e9 : wc.cell? ⟨L, 1, none⟩ = some (.int .i64 a0_1) := cC D 1; have fa : wc.cell? ⟨L, 2, none⟩ = some (.slice A0_2 l0_2.length c0_2) := cC D 2; have fb : wc.cell? ⟨L, 3, none⟩ = some (.int .i64 a0_3) := cC D 3; have fc : wc.cell? ⟨L, 4, none⟩ = some (.int .i64 a0_4) := cC D 4; have fd : wc.cell? ⟨L, 5, none⟩ = some (.slice A0_5 l0_5.length c0_5) := cC D 5; have fe : wc.cell? ⟨L, 6, none⟩ = some (.int .i64 a0_6) := cC D 6; have ff : wc.cell? ⟨L, 7, none⟩ = some (.int .i64 a0_7) := cC D 7; have fg := blk_frozen D.out 0; have fh := blk_frozen D.out 1; have fi := blk_frozen D.out 2; have fj := blk_frozen D.out 3; have fk := blk_frozen D.out 4; have fl := blk_frozen D.out 5; have fm := blk_frozen D.out 6; have fo := blk_frozen D.out 7; go_wp2; go_meet
           case rel => exact ⟨_, (false), tS, H', ⟨by have := au.out; have := dC.out; first | omega | exact Nat.le_refl _⟩, ⟨tK D⟩, ⟨tK J⟩, ⟨tB2 aa ac⟩⟩
         case rest =>
          clear bP; try clear c1
          try clear c2
          try clear p2
          try clear c3
          try clear c4
          try clear c7
          try clear c9
          try clear bZ
          try clear ak
          try clear af
          try clear bK
          try clear bL
          try clear dO
          try clear ag
          try clear ai
          try clear bO
          try clear dP
          try clear dQ
          try clear dS
          try clear ao
          try clear ap
          try clear fQ
          try clear aj
          try clear al
          try clear dG
          try clear fR
          try clear fS
          try clear aG
          try clear aH
          try clear aI
          try clear aJ
          try clear aK
          try clear aN
          try clear aP
          try clear aQ
          try clear ba
          try clear bb
          try clear bc
          try clear bd
          try clear be
          try clear bf
          try clear bg
          try clear bh
          try clear bq
          try clear br
          try clear bs
          try clear bt
          try clear bu
          try clear bv
          try clear bw
          try clear bz
          try clear b1
          try clear b2
          try clear b3
          try clear b4
          try clear b5
          try clear b6
          try clear b7
          try clear b8
          try clear ch
          try clear ci
          try clear cj
          try clear ck
          try clear cl
          try clear cm
          try clear cn
          try clear co
          try clear cD
          try clear cE
          try clear cF
          try clear cG
          try clear cH
          try clear cI
          try clear cJ
          try clear cK
          try clear cT
          try clear cU
          try clear cV
          try clear cW
          try clear cX
          try clear cY
          try clear cZ
          try clear c_
          try clear dj
          try clear dk
          try clear dl
          try clear dm
          try clear dn
          try clear dp
          try clear dq
          try clear dr
          try clear dV
          try clear dW
          try clear dX
          try clear dY
          try clear dZ
          try clear d0
          try clear d1
          try clear d2
          try clear ea
          try clear eb
          try clear ec
          try clear ed
          try clear ee
          try clear ef
          try clear eh
          try clear ei
          try clear ev
          try clear ew
          try clear ex
          try clear ey
          try clear ez
          try clear eA
          try clear eB
          try clear eC
          try clear eL
          try clear eM
          try clear eN
          try clear eO
          try clear eP
          try clear eQ
          try clear eR
          try clear eS
          try clear e8
          try clear e9
          try clear fa
          try clear fb
          try clear fc
          try clear fd
          try clear fe
          try clear ff
          try clear aT
          try clear aU
          try clear aV
          try clear aW
          try clear aX
          try clear aY
          try clear aZ
          try clear a_
          try clear bi
          try clear bj
          try clear bk
          try clear bl
          try clear bm
          try clear bn
          try clear bo
          try clear bp
          try clear bB
          try clear bC
          try clear bE
          try clear bF
          try clear bG
          try clear bH
          try clear bI
          try clear bJ
          try clear b9
          try clear b_
          try clear ca
          try clear cc
          try clear cd
          try clear ce
          try clear cf
          try clear cg
          try clear cp
          try clear cq
          try clear cr
          try clear ct
          try clear cu
          try clear cw
          try clear cx
          try clear cy
          try clear cL
          try clear cM
          try clear cN
          try clear cO
          try clear cP
          try clear cQ
          try clear cR
          try clear cS
          try clear da
          try clear db
          try clear dd
          try clear de
          try clear df
          try clear dg
          try clear dh
          try clear di
          try clear dt
          try clear du
          try clear dv
          try clear dw
          try clear dx
          try clear dy
          try clear dz
          try clear dA
          try clear d3
          try clear d4
          try clear d5
          try clear d6
          try clear d7
          try clear d8
          try clear d9
          try clear d_
          try clear ej
          try clear ek
          try clear el
          try clear em
          try clear en
          try clear ep
          try clear er
          try clear es
          try clear eD
          try clear eE
          try clear eF
          try clear eG
          try clear eH
          try clear eI
          try clear eJ
          try clear eK
          try clear eT
          try clear eU
          try clear eV
          try clear eW
          try clear eX
          try clear eY
          try clear eZ
          try clear e7
          try clear fg
          try clear fh
          try clear fi
          try clear fj
          try clear fk
          try clear fl
          try clear fm
          try clear fo
          try clear p2
          obtain ⟨kq, aw, rfl, HA, fT, D, J, HB⟩ := hcut; cases kq with
          | zero => exact absurd HA.out (by simp [spec_WhyNot.j2])
          | succ fU =>
           have H := HA.out; clear HA; simp only [spec_WhyNot.j2] at H; by_cases ax : aw = true
           ·subst ax; rw [if_pos rfl] at H; obtain rfl := Option.some.inj H; go_wp2; go_ret; exact ⟨tE, tB2 aa ac⟩
           ·replace ax := Bool.eq_false_iff.mpr ax; subst ax; rw [if_neg ff_] at H; by_cases am : a1_6 < a0_6
            ·rw [if_pos am] at H; have fp : decide (a1_6 < a0_6) = true := decide_eq_true am; clear am; obtain rfl := Option.some.inj H; have fV := ae.out; have fW := ad.out; have fX : wc.cell? ⟨Y, 0, none⟩ = some (.int .i64 a1_0) := cC J 0; have fY : wc.cell? ⟨Y, 1, none⟩ = some (.int .i64 a1_1) := cC J 1; have fZ : wc.cell? ⟨Y, 2, none⟩ = some (.int .i64 a1_2) := cC J 2; have f8 : wc.cell? ⟨Y, 3, none⟩ = some (.int .i64 a1_3) := cC J 3; have f9 : wc.cell? ⟨Y, 4, none⟩ = some (.int .i64 a1_4) := cC J 4; have f_ : wc.cell? ⟨Y, 5, none⟩ = some (.int .i64 a1_5) := cC J 5; have ga : wc.cell? ⟨Y, 6, none⟩ = some (.int .i64 a1_6) := cC J 6; have gb : wc.cell? ⟨Y, 7, none⟩ = some (.int .i64 a1_7) := cC J 7; have gc := blk_frozen J.out 0; have gd := blk_frozen J.out 1; have ge := blk_frozen J.out 2; have gf := blk_frozen J.out 3; have gh := blk_frozen J.out 4; have gi := blk_frozen J.out 5; have gj := blk_frozen J.out 6; have gk := blk_frozen J.out 7; have gm : wc.cell? ⟨L, 0, none⟩ = some (.int .i64 a0_0) := cC D 0; have gn : wc.cell? ⟨L, 1, none⟩ = some (.int .i64 a0_1) := cC D 1; have gp : wc.cell? ⟨L, 2, none⟩ = some (.slice A0_2 l0_2.length c0_2) := cC D 2; have gq : wc.cell? ⟨L, 3, none⟩ = some (.int .i64 a0_3) := cC D 3; have gr : wc.cell? ⟨L, 4, none⟩ = some (.int .i64 a0_4) := cC D 4; have gs : wc.cell? ⟨L, 5, none⟩ = some (.slice A0_5 l0_5.length c0_5) := cC D 5; have gt : wc.cell? ⟨L, 6, none⟩ = some (.int .i64 a0_6) := cC D 6; have gu : wc.cell? ⟨L, 7, none⟩ = some (.int .i64 a0_7) := cC D 7; have gv := blk_frozen D.out 0; have gw := blk_frozen D.out 1; have gx := blk_frozen D.out 2; have gA := blk_frozen D.out 3; have gB := blk_frozen D.out 4; have gC := blk_frozen D.out 5; have gD := blk_frozen D.out 6; have gE := blk_frozen D.out 7; go_wp2; go_ret; exact ⟨tE, tB2 aa ac⟩
            ·rw [if_neg am] at H; have fp : decide (a1_6 < a0_6) = false := decide_eq_false am; clear am; obtain rfl := Option.some.inj H; have gF := ae.out; have gG := ad.out; have gH : wc.cell? ⟨Y, 0, none⟩ = some (.int .i64 a1_0) := cC J 0; have gI : wc.cell? ⟨Y, 1, none⟩ = some (.int .i64 a1_1) := cC J 1; have gJ : wc.cell? ⟨Y, 2, none⟩ = some (.int .i64 a1_2) := cC J 2; have gK : wc.cell? ⟨Y, 3, none⟩ = some (.int .i64 a1_3) := cC J 3; have gL : wc.cell? ⟨Y, 4, none⟩ = some (.int .i64 a1_4) := cC J 4; have gM : wc.cell? ⟨Y, 5, none⟩ = some (.int .i64 a1_5) := cC J 5; have gN : wc.cell? ⟨Y, 6, none⟩ = some (.int .i64 a1_6) := cC J 6; have gO : wc.cell? ⟨Y, 7, none⟩ = some (.int .i64 a1_7) := cC J 7; have gP := blk_frozen J.out 0; have gQ := blk_frozen J.out 1; have gR := blk_frozen J.out 2; have gS := blk_frozen J.out 3; have gT := blk_frozen J.out 4; have gU := blk_frozen J.out 5; have gV := blk_frozen J.out 6; have gW := blk_frozen J.out 7; have gX : wc.cell? ⟨L, 0, none⟩ = some (.int .i64 a0_0) := cC D 0; have gY : wc.cell? ⟨L, 1, none⟩ = some (.int .i64 a0_1) := cC D 1; have gZ : wc.cell? ⟨L, 2, none⟩ = some (.slice A0_2 l0_2.length c0_2) := cC D 2; have g0 : wc.cell? ⟨L, 3, none⟩ = some (.int .i64 a0_3) := cC D 3; have g1 : wc.cell? ⟨L, 4, none⟩ = some (.int .i64 a0_4) := cC D 4; have g8 : wc.cell? ⟨L, 5, none⟩ = some (.slice A0_5 l0_5.length c0_5) := cC D 5; have g9 : wc.cell? ⟨L, 6, none⟩ = some (.int .i64 a0_6) := cC D 6; have g_ : wc.cell? ⟨L, 7, none⟩ = some (.int .i64 a0_7) := cC D 7; have hJ := blk_frozen D.out 0; have hO := blk_frozen D.out 1; have hP := blk_frozen D.out 2; have hU := blk_frozen D.out 3; have hV := blk_frozen D.out 4; have hW := blk_frozen D.out 5; have hY := blk_frozen D.out 6; have hZ := blk_frozen D.out 7; go_wp2; go_ret; exact ⟨tE, tB2 aa ac⟩
        ·replace ap := Bool.eq_false_iff.mpr ap; subst ap; rw [if_neg ff_] at H; obtain rfl := Option.some.inj H; have h8 := ae.out; have h9 := ad.out; have ia : wc.cell? ⟨Y, 0, none⟩ = some (.int .i64 a1_0) := cC J 0; have ib : wc.cell? ⟨Y, 1, none⟩ = some (.int .i64 a1_1) := cC J 1; have ic : wc.cell? ⟨Y, 2, none⟩ = some (.int .i64 a1_2) := cC J 2; have ie : wc.cell? ⟨Y, 3, none⟩ = some (.int .i64 a1_3) := cC J 3; have ig : wc.cell? ⟨Y, 4, none⟩ = some (.int .i64 a1_4) := cC J 4; have ii : wc.cell? ⟨Y, 5, none⟩ = some (.int .i64 a1_5) := cC J 5; have ij : wc.cell? ⟨Y, 6, none⟩ = some (.int .i64 a1_6) := cC J 6; have ik : wc.cell? ⟨Y, 7, none⟩ = some (.int .i64 a1_7) := cC J 7; have il := blk_frozen J.out 0; have im := blk_frozen J.out 1; have io := blk_frozen J.out 2; have ip := blk_frozen J.out 3; have iq := blk_frozen J.out 4; have ir := blk_frozen J.out 5; have iu := blk_frozen J.out 6; have iv := blk_frozen J.out 7; have iw : wc.cell? ⟨L, 0, none⟩ = some (.int .i64 a0_0) := cC D 0; have ix : wc.cell? ⟨L, 1, none⟩ = some (.int .i64 a0_1) := cC D 1; have iy : wc.cell? ⟨L, 2, none⟩ = some (.slice A0_2 l0_2.length c0_2) := cC D 2; have iz : wc.cell? ⟨L, 3, none⟩ = some (.int .i64 a0_3) := cC D 3; have iA : wc.cell? ⟨L, 4, none⟩ = some (.int .i64 a0_4) := cC D 4; have iB : wc.cell? ⟨L, 5, none⟩ = some (.slice A0_5 l0_5.length c0_5) := cC D 5; have iC : wc.cell? ⟨L, 6, none⟩ = some (.int .i64 a0_6) := cC D 6; have iD : wc.cell? ⟨L, 7, none⟩ = some (.int .i64 a0_7) := cC D 7; have iE := blk_frozen D.out 0; have iF := blk_frozen D.out 1; have iG := blk_frozen D.out 2; have iH := blk_frozen D.out 3; have iI := blk_frozen D.out 4; have iJ := blk_frozen D.out 5; have iK := blk_frozen D.out 6; have iL := blk_frozen D.out 7; go_wp2_with (first | ((with_reducible refine gate_callee (f := 30) rfl ?_); refine gl 43 Try.func30 #[.int .i64 a1_3, .int .i64 a0_3, .int .i64 a0_4] ?_; (with_reducible refine (spec_l1In.calls a1_3 a0_3 a0_4 false _ dF.out).mono ?_); rintro e w' ⟨rfl, ⟨nd, rfl⟩⟩; refine ⟨_, rfl, ?_⟩)); go_ret; exact ⟨tE, tB2 aa ac⟩
    ·rw [if_neg af] at H; have bK : (a0_1 == a1_1) = false := beq_eq_false_iff_ne.mpr af; have bL : (a0_1 != a1_1) = true := bne_iff_ne.mpr af; obtain rfl := Option.some.inj H; have iM := ad.out; have iN := ae.out; have iO : wc.cell? ⟨L, 0, none⟩ = some (.int .i64 a0_0) := cC D 0; have iP : wc.cell? ⟨L, 1, none⟩ = some (.int .i64 a0_1) := cC D 1; have iQ : wc.cell? ⟨L, 2, none⟩ = some (.slice A0_2 l0_2.length c0_2) := cC D 2; have iR : wc.cell? ⟨L, 3, none⟩ = some (.int .i64 a0_3) := cC D 3; have iS : wc.cell? ⟨L, 4, none⟩ = some (.int .i64 a0_4) := cC D 4; have iT : wc.cell? ⟨L, 5, none⟩ = some (.slice A0_5 l0_5.length c0_5) := cC D 5; have iU : wc.cell? ⟨L, 6, none⟩ = some (.int .i64 a0_6) := cC D 6; have iV : wc.cell? ⟨L, 7, none⟩ = some (.int .i64 a0_7) := cC D 7; have iW := blk_frozen D.out 0; have iX := blk_frozen D.out 1; have iY := blk_frozen D.out 2; have iZ := blk_frozen D.out 3; have i1 := blk_frozen D.out 4; have i2 := blk_frozen D.out 5; have i3 := blk_frozen D.out 6; have i4 := blk_frozen D.out 7; have i5 : wc.cell? ⟨Y, 0, none⟩ = some (.int .i64 a1_0) := cC J 0; have i6 : wc.cell? ⟨Y, 1, none⟩ = some (.int .i64 a1_1) := cC J 1; have i7 : wc.cell? ⟨Y, 2, none⟩ = some (.int .i64 a1_2) := cC J 2; have i8 : wc.cell? ⟨Y, 3, none⟩ = some (.int .i64 a1_3) := cC J 3; have i9 : wc.cell? ⟨Y, 4, none⟩ = some (.int .i64 a1_4) := cC J 4; have i_ : wc.cell? ⟨Y, 5, none⟩ = some (.int .i64 a1_5) := cC J 5; have ja : wc.cell? ⟨Y, 6, none⟩ = some (.int .i64 a1_6) := cC J 6; have jb : wc.cell? ⟨Y, 7, none⟩ = some (.int .i64 a1_7) := cC J 7; have jc := blk_frozen J.out 0; have jd := blk_frozen J.out 1; have je := blk_frozen J.out 2; have jf := blk_frozen J.out 3; have jg := blk_frozen J.out 4; have jh := blk_frozen J.out 5; have ji := blk_frozen J.out 6; have jj := blk_frozen J.out 7; go_wp2; go_ret; exact ⟨tE, tB2 aa ac⟩

end Go.Proofs.Ytmgildchccmhgaa.PFnExactSeekers
