-- The printed functions of one law and their contracts, over contracts of this session's own (hand.py).
import Derived.Test.YtppgealmedaihaaPFnTrialsx0
import Derived.Test.YtppgealmedaihaaPFnTrialsx4
import Derived.Test.YtppgealmedaihaaPFnTrialsx9
namespace Go.Proofs.Ytppgealmedaihaa.PFnTrials
open Go.RowKit Go.Proofs.YtppgealmedaihaaW.PrintWords Go.Proofs.YtppgealmedaihaaW.PrintLast Go.Proofs.YtppgealmedaihaaW.PrintMore Go.Proofs.Ytppgealmedaihaa.Short
attribute [local go_sem] max2_int min2_int max_two min_two max_three min_three max_four min_four   -- for this text's walks alone
set_option linter.unusedVariables false
set_option linter.unusedSimpArgs false

/-! ### spec_DrawAnswerAll: function 46 -/
def spec_DrawAnswerAll.l0 : Nat → List (S62) → List Int → Int → Int → Int → Int → Int → List Int → Int → Int → Option ((List (S62)) × Int × Int × Int × Int × List Int)
 | 0, _, _, _, _, _, _, _, _, _, _ => none
 | k + 1, x5, x8, x9, x408000, x408001, x408002, x408003, x412000, x412001, x412002 => if x9 > 0 then ((spec_l1Below.f x412000 x412001 x412002 9).bind fun bt418 => (if x8.length < 17592186044416 then (spec_DrawAnswerAll.l0 k x5 (x8 ++ [bt418.1]) (wrap64 (x9 - 1)) x408000 x408001 x408002 x408003 x412000 bt418.2.1 bt418.2.2) else (none))) else (some (x5, x408000, x408001, x408002, x408003, x8))
def spec_DrawAnswerAll.f (k : Nat) (l0 : List Int) : Option ((List (S62)) × Int × Int × Int × Int × List Int) := (spec_DrawTrialState.f k l0).bind fun bt400 => ((spec_l1New.f k l0).bind fun bt408 => ((spec_l1Below.f bt408.1 bt408.2.1 bt408.2.2 6).bind fun bt415 => (spec_DrawAnswerAll.l0 k bt400.1 (([] : List Int)) bt415.1 bt400.2.1 bt400.2.2.1 bt400.2.2.2.1 bt400.2.2.2.2 bt408.1 bt415.2.1 bt415.2.2)))
theorem spec_DrawAnswerAll.mono_l : ∀ k, (∀ y0 y1 y2 y3 y4 y5 y6 y7 y8 y9, LeO (spec_DrawAnswerAll.l0 k y0 y1 y2 y3 y4 y5 y6 y7 y8 y9) (spec_DrawAnswerAll.l0 (k + 1) y0 y1 y2 y3 y4 y5 y6 y7 y8 y9))
 | 0 => fun _ _ _ _ _ _ _ _ _ _ r h => by simp [spec_DrawAnswerAll.l0] at h
 | k + 1 => by
  have ih0 := spec_DrawAnswerAll.mono_l k
  ·intro y0 y1 y2 y3 y4 y5 y6 y7 y8 y9
   unfold spec_DrawAnswerAll.l0
   repeat' first
   | (with_reducible exact ih0 _ _ _ _ _ _ _ _ _ _)
   | (with_reducible exact spec_DrawTrialState.mono _ _)
   | (with_reducible exact spec_l1New.mono _ _)
   | (with_reducible exact LeO.refl _)
   | (with_reducible exact LeO.none _)
   | (with_reducible refine LeO.ite ?_ ?_)
   | (with_reducible refine LeO.bind ?_ (fun _ => ?_))
   | exact ih0 _ _ _ _ _ _ _ _ _ _
   | exact spec_DrawTrialState.mono _ _
   | exact spec_l1New.mono _ _
   | exact LeO.none _
   | refine LeO.ite ?_ ?_
   | refine LeO.bind ?_ (fun _ => ?_)
theorem spec_DrawAnswerAll.mono : ∀ a0 k, LeO (spec_DrawAnswerAll.f k a0) (spec_DrawAnswerAll.f (k + 1) a0) := by
 intro a0 k
 have ih0 := spec_DrawAnswerAll.mono_l k
 unfold spec_DrawAnswerAll.f
 repeat' first
   | (with_reducible exact ih0 _ _ _ _ _ _ _ _ _ _)
   | (with_reducible exact spec_DrawTrialState.mono _ _)
   | (with_reducible exact spec_l1New.mono _ _)
   | (with_reducible exact LeO.refl _)
   | (with_reducible exact LeO.none _)
   | (with_reducible refine LeO.ite ?_ ?_)
   | (with_reducible refine LeO.bind ?_ (fun _ => ?_))
   | exact ih0 _ _ _ _ _ _ _ _ _ _
   | exact spec_DrawTrialState.mono _ _
   | exact spec_l1New.mono _ _
   | exact LeO.none _
   | refine LeO.ite ?_ ?_
   | refine LeO.bind ?_ (fun _ => ?_)
set_option maxHeartbeats 8000000 in
set_option maxRecDepth 100000 in
theorem spec_DrawAnswerAll.calls (k : Nat) (A0 : Option Addr) (c0 : Nat) (l0 : List Int) (r1 : List (S62)) (r2 : Int) (r3 : Int) (r4 : Int) (r5 : Int) (r6 : List Int) (w : World) (hr0 : Kd.C (Kd.int .u8) w A0 l0.length l0) (hc0 : l0.length ≤ c0) (h : spec_DrawAnswerAll.f k l0 = some (r1, r2, r3, r4, r5, r6)) :
  Calls Try.prog 46 #[.slice A0 l0.length c0] w fun e w' => ∃ v0_ v5_ : Value, e = .returned (.tuple #[v0_, .agg #[.int .i64 r2, .int .i64 r3, .int .i64 r4, .int .i64 r5], v5_]) ∧ Kd.R k62 62 w' w.heap.size (fun _ => True) v0_ r1 ∧ Kd.R (Kd.int .i64) 3 w' w.heap.size (fun _ => True) v5_ r6 ∧ Below w.heap.size w w' := by
 have hu27 := Try.underlying27
 have HR0 := Aside0.mk hr0
 have HC0 := Aside0.mk hc0
 clear hr0 hc0
 have HB := Aside0.mk (Below.refl w.heap.size w)
 have H : ((spec_DrawTrialState.f k l0).bind fun bt400 => ((spec_l1New.f k l0).bind fun bt408 => ((spec_l1Below.f bt408.1 bt408.2.1 bt408.2.2 6).bind fun bt415 => (spec_DrawAnswerAll.l0 k bt400.1 (([] : List Int)) bt415.1 bt400.2.1 bt400.2.2.1 bt400.2.2.2.1 bt400.2.2.2.2 bt408.1 bt415.2.1 bt415.2.2)))) = some (r1, r2, r3, r4, r5, r6) := h
 clear h
 replace H := Option.bind_eq_some_iff.mp H
 obtain ⟨⟨t400, t403, t404, t405, t406⟩, A20, H⟩ := H
 replace H : ((spec_l1New.f k l0).bind fun bt408 => ((spec_l1Below.f bt408.1 bt408.2.1 bt408.2.2 6).bind fun bt415 => (spec_DrawAnswerAll.l0 k t400 (([] : List Int)) bt415.1 t403 t404 t405 t406 bt408.1 bt415.2.1 bt415.2.2))) = some (r1, r2, r3, r4, r5, r6) := H
 have A2 := Aside0.mk A20
 clear A20
 replace H := Option.bind_eq_some_iff.mp H
 obtain ⟨⟨t408, t409, t410⟩, A30, H⟩ := H
 replace H : ((spec_l1Below.f t408 t409 t410 6).bind fun bt415 => (spec_DrawAnswerAll.l0 k t400 (([] : List Int)) bt415.1 t403 t404 t405 t406 t408 bt415.2.1 bt415.2.2)) = some (r1, r2, r3, r4, r5, r6) := H
 have A3 := Aside0.mk A30
 clear A30
 obtain ⟨y412, hy412⟩ : ∃ y_ : List Int, y_ = (([] : List Int)) := ⟨_, rfl⟩
 replace H : ((spec_l1Below.f t408 t409 t410 6).bind fun bt415 => (spec_DrawAnswerAll.l0 k t400 y412 bt415.1 t403 t404 t405 t406 t408 bt415.2.1 bt415.2.2)) = some (r1, r2, r3, r4, r5, r6) := by first | (rw [hy412]; with_reducible exact H) | (have H2_ := (Option.bind_some _ _).symm.trans H; rw [hy412]; with_reducible exact H2_) | (have H2_ := (Option.bind_some _ _).symm.trans H; with_reducible exact H2_) | with_reducible exact H | (rw [hy412]; exact H) | exact H
 have Ny412 := Aside0.mk hy412
 clear hy412
 replace H := Option.bind_eq_some_iff.mp H
 obtain ⟨⟨t415, t416, t417⟩, A40, H⟩ := H
 replace H : (spec_DrawAnswerAll.l0 k t400 y412 t415 t403 t404 t405 t406 t408 t416 t417) = some (r1, r2, r3, r4, r5, r6) := H
 have A4 := Aside0.mk A40
 clear A40
 have H' := Aside0.mk H
 clear H
 go_enter Try.func46, Try.ntmps46
 go_wp2_with (first | ((with_reducible refine gate_dst (N := 3) rfl ?_); refine box_event ?hg (N := 3) ?hd (cs := #[.int .i64 0, .int .i64 0, .int .i64 0, .int .i64 0]) (t := 27) ?hr ?_; (case hd => rfl); (case hg => rfl); (case hr => first | (go_simp; done) | (go_simp; rfl)); intro gb399 hg w5 hbox hb; have n0_ := Aside0.mk (below_step (qB HB) hb); have n1_ := Aside0.mk (hbox); have n2_ := Aside0.mk ((by rw [hg]; exact (below_size (qB HB)) : w.heap.size ≤ gb399)); have n3_ := Aside0.mk ((by rw [hg]; exact (below_size (qB HB)) : w.heap.size ≤ gb399)); clear HB; have HB := n0_; have BK399 := n1_; have GW399 := n2_; have GE399 := n3_; clear n0_ n1_ n2_ n3_; clear hb hbox hg) | ((with_reducible refine gate_callee (f := 118) rfl ?_); refine goesL_ (some 12) rfl rfl Try.func118 (by kernel_rfl) rfl #[.slice A0 l0.length c0] rfl (by (try simp only [mA, mC, mN]); first | done | rfl | (simp only [lD, lT]; rfl)) ?_; (with_reducible refine (spec_DrawTrialState.calls k _ _ l0 t400 t403 t404 t405 t406 _ ?side1 ?side2 A2.out).mono ?_); (case side1 => exact qC (Kd.C_below HR0.out HB.out)); (case side2 => exact HC0.out); rintro e w6 ⟨v401, rfl, ho0, hb⟩; refine ⟨_, rfl, ?_⟩; have n0_ := Aside0.mk (Kd.R_lower ho0 (below_size (by repeat first | (with_reducible first | exact HB.out | apply bA | apply bN | apply bD | refine bS ?_ GE399.out) | exact HB.out))); have n1_ := Aside0.mk (blk_below (qK BK399) hb); have n2_ := Aside0.mk (below_step (by repeat first | (with_reducible first | exact HB.out | apply bA | apply bN | apply bD | refine bS ?_ GE399.out) | exact HB.out) hb); clear BK399; clear HB; have HO402 := n0_; have BK399 := n1_; have HB := n2_; clear n0_ n1_ n2_; (try clear hb); (try clear hb2); (try clear hk); (try clear hi); (try clear ho0)) | ((with_reducible refine gate_dst (N := 6) rfl ?_); refine box_event ?hg (N := 6) ?hd (cs := #[.int .i64 0, .int .i64 0, .int .i64 0, .int .i64 0]) (t := 27) ?hr ?_; (case hd => rfl); (case hg => rfl); (case hr => first | (go_simp; done) | (go_simp; rfl)); intro gb407 hg w7 hbox hb; have n0_ := Aside0.mk (Kd.R_below (qR HO402) hb); have n1_ := Aside0.mk (blk_below (qK BK399) hb); have n2_ := Aside0.mk (below_step (by repeat first | (with_reducible first | exact HB.out | apply bA | apply bN | apply bD | refine bS ?_ GE399.out) | exact HB.out) hb); have n3_ := Aside0.mk (hbox); have n4_ := Aside0.mk ((by rw [hg]; exact (below_size (by repeat first | (with_reducible first | exact HB.out | apply bA | apply bN | apply bD | refine bS ?_ GE399.out) | exact HB.out)) : w.heap.size ≤ gb407)); have n5_ := Aside0.mk ((by rw [hg]; exact (below_size (by repeat first | (with_reducible first | exact HB.out | apply bA | apply bN | apply bD | refine bS ?_ GE399.out) | exact HB.out)) : w.heap.size ≤ gb407)); have n6_ := Aside0.mk ((by rw [hg]; exact Nat.ne_of_lt (blk_lt (qK BK399)) : gb399 ≠ gb407)); have n7_ := Aside0.mk ((by rw [hg]; exact Nat.ne_of_gt (blk_lt (qK BK399)) : gb407 ≠ gb399)); clear HO402; clear BK399; clear HB; have HO402 := n0_; have BK399 := n1_; have HB := n2_; have BK407 := n3_; have GW407 := n4_; have GE407 := n5_; have NB399_407 := n6_; have NB407_399 := n7_; clear n0_ n1_ n2_ n3_ n4_ n5_ n6_ n7_; clear hb hbox hg; have hnb8 := NB407_399.out; have hnc8 := NB399_407.out; have hcz9_0 : w7.cell? ⟨gb407, 0, none⟩ = some (.int .i64 0) := cC BK407 0; have hcz9_1 : w7.cell? ⟨gb407, 1, none⟩ = some (.int .i64 0) := cC BK407 1; have hcz9_2 : w7.cell? ⟨gb407, 2, none⟩ = some (.int .i64 0) := cC BK407 2; have hcz9_3 : w7.cell? ⟨gb407, 3, none⟩ = some (.int .i64 0) := cC BK407 3; have hfz9_0 := blk_frozen BK407.out 0; have hfz9_1 := blk_frozen BK407.out 1; have hfz9_2 := blk_frozen BK407.out 2; have hfz9_3 := blk_frozen BK407.out 3) | ((with_reducible refine gate_callee (f := 110) rfl ?_); refine goesL_ (some 16) rfl rfl Try.func110 (by kernel_rfl) rfl #[.slice A0 l0.length c0] rfl (by (try simp only [mA, mC, mN]); first | done | rfl | (simp only [lD, lT]; rfl)) ?_; (with_reducible refine (spec_l1New.calls k _ _ l0 t408 t409 t410 w _ ?side1 ?side2 ?side3 A3.out).mono ?_); (case side1 => repeat (first | (with_reducible first | exact HB.out | apply bA | apply bN | apply bD | refine bS ?_ GE399.out | refine bS ?_ GE407.out) | exact HB.out)); (case side2 => exact HR0.out); (case side3 => exact HC0.out); rintro e w10 ⟨g411, rfl, hi, hb, hb2⟩; refine ⟨_, rfl, ?_⟩; have n0_ := Aside0.mk (Kd.R_below (by (with_reducible repeat first | apply rA | apply rN | apply rD); exact (far4 HO402 BK407)) hb2); have n1_ := Aside0.mk (blk_below (g := gb399) (o := .cells #[.int .i64 0, .int .i64 0, .int .i64 0, .int .i64 0] 27 (0, 0)) (by (with_reducible repeat first | refine kN ?_ _ | refine kD ?_ | refine kA ?_ _); exact blk4 BK399.out NB399_407) hb2); have n2_ := Aside0.mk (blk_below (g := gb407) (o := .cells #[.int .i64 t403, .int .i64 t404, .int .i64 t405, .int .i64 t406] 27 (0, 0)) (by (with_reducible repeat first | refine kN ?_ _ | refine kD ?_ | refine kA ?_ _); refine blk_put (cs := #[.int .i64 t403, .int .i64 t404, .int .i64 t405, .int .i64 0]) ?_ 3 _ rfl; (with_reducible repeat first | refine kN ?_ _ | refine kD ?_ | refine kA ?_ _); refine blk_put (cs := #[.int .i64 t403, .int .i64 t404, .int .i64 0, .int .i64 0]) ?_ 2 _ rfl; (with_reducible repeat first | refine kN ?_ _ | refine kD ?_ | refine kA ?_ _); refine blk_put (cs := #[.int .i64 t403, .int .i64 0, .int .i64 0, .int .i64 0]) ?_ 1 _ rfl; (with_reducible repeat first | refine kN ?_ _ | refine kD ?_ | refine kA ?_ _); refine blk_put (cs := #[.int .i64 0, .int .i64 0, .int .i64 0, .int .i64 0]) ?_ 0 _ rfl; (with_reducible repeat first | refine kN ?_ _ | refine kD ?_ | refine kA ?_ _); exact BK407.out) hb2); have n3_ := Aside0.mk (hb); have n4_ := Aside0.mk (hi); have n5_ := Aside0.mk (IsS189.ne_blk hi (blk_below (g := gb399) (o := .cells #[.int .i64 0, .int .i64 0, .int .i64 0, .int .i64 0] 27 (0, 0)) (by (with_reducible repeat first | refine kN ?_ _ | refine kD ?_ | refine kA ?_ _); exact blk4 BK399.out NB399_407) hb2) (by decide)); have n6_ := Aside0.mk (Ne.symm (IsS189.ne_blk hi (blk_below (g := gb399) (o := .cells #[.int .i64 0, .int .i64 0, .int .i64 0, .int .i64 0] 27 (0, 0)) (by (with_reducible repeat first | refine kN ?_ _ | refine kD ?_ | refine kA ?_ _); exact blk4 BK399.out NB399_407) hb2) (by decide))); have n7_ := Aside0.mk (IsS189.ne_blk hi (blk_below (g := gb407) (o := .cells #[.int .i64 t403, .int .i64 t404, .int .i64 t405, .int .i64 t406] 27 (0, 0)) (by (with_reducible repeat first | refine kN ?_ _ | refine kD ?_ | refine kA ?_ _); refine blk_put (cs := #[.int .i64 t403, .int .i64 t404, .int .i64 t405, .int .i64 0]) ?_ 3 _ rfl; (with_reducible repeat first | refine kN ?_ _ | refine kD ?_ | refine kA ?_ _); refine blk_put (cs := #[.int .i64 t403, .int .i64 t404, .int .i64 0, .int .i64 0]) ?_ 2 _ rfl; (with_reducible repeat first | refine kN ?_ _ | refine kD ?_ | refine kA ?_ _); refine blk_put (cs := #[.int .i64 t403, .int .i64 0, .int .i64 0, .int .i64 0]) ?_ 1 _ rfl; (with_reducible repeat first | refine kN ?_ _ | refine kD ?_ | refine kA ?_ _); refine blk_put (cs := #[.int .i64 0, .int .i64 0, .int .i64 0, .int .i64 0]) ?_ 0 _ rfl; (with_reducible repeat first | refine kN ?_ _ | refine kD ?_ | refine kA ?_ _); exact BK407.out) hb2) (by decide)); have n8_ := Aside0.mk (Ne.symm (IsS189.ne_blk hi (blk_below (g := gb407) (o := .cells #[.int .i64 t403, .int .i64 t404, .int .i64 t405, .int .i64 t406] 27 (0, 0)) (by (with_reducible repeat first | refine kN ?_ _ | refine kD ?_ | refine kA ?_ _); refine blk_put (cs := #[.int .i64 t403, .int .i64 t404, .int .i64 t405, .int .i64 0]) ?_ 3 _ rfl; (with_reducible repeat first | refine kN ?_ _ | refine kD ?_ | refine kA ?_ _); refine blk_put (cs := #[.int .i64 t403, .int .i64 t404, .int .i64 0, .int .i64 0]) ?_ 2 _ rfl; (with_reducible repeat first | refine kN ?_ _ | refine kD ?_ | refine kA ?_ _); refine blk_put (cs := #[.int .i64 t403, .int .i64 0, .int .i64 0, .int .i64 0]) ?_ 1 _ rfl; (with_reducible repeat first | refine kN ?_ _ | refine kD ?_ | refine kA ?_ _); refine blk_put (cs := #[.int .i64 0, .int .i64 0, .int .i64 0, .int .i64 0]) ?_ 0 _ rfl; (with_reducible repeat first | refine kN ?_ _ | refine kD ?_ | refine kA ?_ _); exact BK407.out) hb2) (by decide))); clear HO402; clear BK399; clear BK407; clear HB; have HO402 := n0_; have BK399 := n1_; have BK407 := n2_; have HB := n3_; have HI411 := n4_; have NB411_399 := n5_; have NB399_411 := n6_; have NB411_407 := n7_; have NB407_411 := n8_; clear n0_ n1_ n2_ n3_ n4_ n5_ n6_ n7_ n8_; (try clear hb); (try clear hb2); (try clear hk); (try clear hi)) | ((with_reducible refine gate_dst (N := 17) rfl ?_); refine Kd.R_lit (Kd.int .i64) _ 3 ?hg (N := 17) ?hd (xs := ([] : List Int)) (inner := []) (ok := fun _ => True) (okp := fun _ => True) ?hr ?hp (fun _ hk => hk) trivial (Below.refl _ _) (Nat.le_refl _) (by simp) ?_; (case hd => rfl); (case hg => rfl); (case hr => first | (go_simp; done) | (go_simp; rfl)); (case hp => exact (Reps.none _ _)); intro v413 w11 ho12 hb hg_ hnew_; clear hg_ hnew_; (first | rw [← Ny412.out] at ho12 | (simp only [Int.reduceToNat] at ho12; rw [← Ny412.out] at ho12)); have n0_ := Aside0.mk (Kd.R_below (qR HO402) hb); have n1_ := Aside0.mk (Kd.R_lower ho12 (below_size (by repeat (first | (with_reducible first | exact HB.out | apply bA | apply bN | apply bD | refine bS ?_ (IsS189.ge HI411.out) | refine bS ?_ GE399.out | refine bS ?_ GE407.out) | exact HB.out)))); have n2_ := Aside0.mk (blk_below (qK BK399) hb); have n3_ := Aside0.mk (blk_below (qK BK407) hb); have n4_ := Aside0.mk (IsS189.below (by repeat (first | (with_reducible first | exact HI411.out | apply IsS189.alloc | apply IsS189.drewN | apply IsS189.drew | apply IsS189.set_1 | apply IsS189.set_2 | refine IsS189.far ?_ NB411_399.out _ | refine IsS189.far ?_ NB411_407.out _) | exact HI411.out)) hb); have n5_ := Aside0.mk (below_step (by repeat (first | (with_reducible first | exact HB.out | apply bA | apply bN | apply bD | refine bS ?_ (IsS189.ge HI411.out) | refine bS ?_ GE399.out | refine bS ?_ GE407.out) | exact HB.out)) hb); clear HO402; clear BK399; clear BK407; clear HI411; clear HB; have HO402 := n0_; have HO414 := n1_; have BK399 := n2_; have BK407 := n3_; have HI411 := n4_; have HB := n5_; clear n0_ n1_ n2_ n3_ n4_ n5_; clear hb ho12) | ((with_reducible refine gate_callee (f := 112) rfl ?_); refine goesL_ (some 19) rfl rfl Try.func112 (by kernel_rfl) rfl #[.pointer (some ⟨g411, 0, none⟩), .int .i64 6] rfl (by (try simp only [mA, mC, mN]); first | done | rfl | (simp only [lD, lT]; rfl)) ?_; (with_reducible refine (spec_l1Below.calls g411 t408 t409 t410 6 t415 t416 t417 w _ ?side1 ?side2 A4.out).mono ?_); (case side1 => repeat (first | (with_reducible first | exact HI411.out | apply IsS189.alloc | apply IsS189.drewN | apply IsS189.drew | apply IsS189.set_1 | apply IsS189.set_2 | refine IsS189.far ?_ NB411_399.out _ | refine IsS189.far ?_ NB411_407.out _) | exact HI411.out)); (case side2 => repeat (first | (with_reducible first | exact HB.out | apply bA | apply bN | apply bD | refine bS ?_ (IsS189.ge HI411.out) | refine bS ?_ GE399.out | refine bS ?_ GE407.out) | exact HB.out)); rintro e w13 ⟨rfl, hi, hb, hk⟩; refine ⟨_, rfl, ?_⟩; have n0_ := Aside0.mk (KeepBut.blk hk (g' := gb399) (o := .cells #[.int .i64 0, .int .i64 0, .int .i64 0, .int .i64 0] 27 (0, 0)) (qK BK399) NB399_411.out (by simp)); have n1_ := Aside0.mk (Kd.R_mono (Kd.R_keep (IsS189.apart (show IsS189 w _ g411 t408 t409 t410 from by repeat (first | (with_reducible first | exact HI411.out | apply IsS189.alloc | apply IsS189.drewN | apply IsS189.drew | apply IsS189.set_1 | apply IsS189.set_2 | refine IsS189.far ?_ NB411_399.out _ | refine IsS189.far ?_ NB411_407.out _) | exact HI411.out)) (qR HO402) (by decide)) hk (fun _ h => h.2)) (fun _ h => h.1)); have n2_ := Aside0.mk (KeepBut.blk hk (g' := gb407) (o := .cells #[.int .i64 t403, .int .i64 t404, .int .i64 t405, .int .i64 t406] 27 (0, 0)) (qK BK407) NB407_411.out (by simp)); have n3_ := Aside0.mk (Kd.R_mono (Kd.R_keep (IsS189.apart (show IsS189 w _ g411 t408 t409 t410 from by repeat (first | (with_reducible first | exact HI411.out | apply IsS189.alloc | apply IsS189.drewN | apply IsS189.drew | apply IsS189.set_1 | apply IsS189.set_2 | refine IsS189.far ?_ NB411_399.out _ | refine IsS189.far ?_ NB411_407.out _) | exact HI411.out)) (qR HO414) (by decide)) hk (fun _ h => h.2)) (fun _ h => h.1)); have n4_ := Aside0.mk (hb); have n5_ := Aside0.mk (hi); clear BK399; clear HO402; clear BK407; clear HO414; clear HB; clear HI411; have BK399 := n0_; have HO402 := n1_; have BK407 := n2_; have HO414 := n3_; have HB := n4_; have HI411 := n5_; clear n0_ n1_ n2_ n3_ n4_ n5_; (try clear hb); (try clear hb2); (try clear hk); (try clear hi)))
 go_loopg [8, 9] k (fun kq v8 v9 w' => ∃ (x8_1 : List Int) (x9_1 : Int) (x412001_1 : Int) (x412002_1 : Int), v9 = .int .i64 x9_1 ∧ Aside0 (spec_DrawAnswerAll.l0 kq t400 x8_1 x9_1 t403 t404 t405 t406 t408 x412001_1 x412002_1 = some (r1, r2, r3, r4, r5, r6)) ∧ Aside0 (kq ≤ k) ∧ Aside0 (Kd.R k62 62 w' w.heap.size (fun _ => True) v401 t400) ∧ Aside0 (Kd.R (Kd.int .i64) 3 w' w.heap.size (fun _ => True) v8 x8_1) ∧ Aside0 (w'.heap[gb399]? = some (.cells #[.int .i64 0, .int .i64 0, .int .i64 0, .int .i64 0] 27 (0, 0))) ∧ Aside0 (w'.heap[gb407]? = some (.cells #[.int .i64 t403, .int .i64 t404, .int .i64 t405, .int .i64 t406] 27 (0, 0))) ∧ Aside0 (IsS189 w w' g411 t408 x412001_1 x412002_1) ∧ Aside0 (Below w.heap.size w w'))
 case atStart => exact ⟨(y412), (t415), (t416), (t417), (by first | rfl | (simp; done) | (simp [*]; done)), H', ⟨Nat.le_refl _⟩, ⟨by (with_reducible repeat first | apply rA | apply rN | apply rD); exact HO402.out⟩, ⟨by (with_reducible repeat first | apply rA | apply rN | apply rD); exact HO414.out⟩, ⟨by (with_reducible repeat first | refine kN ?_ _ | refine kD ?_ | refine kA ?_ _); exact BK399.out⟩, ⟨by (with_reducible repeat first | refine kN ?_ _ | refine kD ?_ | refine kA ?_ _); exact BK407.out⟩, ⟨by repeat (first | (with_reducible first | exact HI411.out | apply IsS189.alloc | apply IsS189.drewN | apply IsS189.drew | apply IsS189.set_1 | apply IsS189.set_2 | refine IsS189.far ?_ NB411_399.out _ | refine IsS189.far ?_ NB411_407.out _) | exact HI411.out)⟩, ⟨by repeat (first | (with_reducible first | exact HB.out | apply bA | apply bN | apply bD | refine bS ?_ (IsS189.ge HI411.out) | refine bS ?_ GE399.out | refine bS ?_ GE407.out) | exact HB.out)⟩⟩
 case round =>
  clear H'
  try clear c1
  try clear p2
  try clear c4
  try clear c8
  try clear c11
  try clear hcz9_0
  try clear hcz9_1
  try clear hcz9_2
  try clear hcz9_3
  try clear hfz9_0
  try clear hfz9_1
  try clear hfz9_2
  try clear hfz9_3
  obtain ⟨x8_1, x9_1, x412001_1, x412002_1, rfl, HA, HK1, HO_5, HO_8, BK399, BK407, HI411, HB⟩ := hrel
  cases gk with
  | zero => exact absurd HA.out (by simp [spec_DrawAnswerAll.l0])
  | succ k1 =>
   have H := HA.out
   clear HA
   simp only [spec_DrawAnswerAll.l0] at H
   by_cases c14 : x9_1 > 0
   ·rw [if_pos c14] at H
    have c14b0 : decide (0 < x9_1) = true := decide_eq_true c14
    clear c14
    replace H := Option.bind_eq_some_iff.mp H
    obtain ⟨⟨t418, t419, t420⟩, A150, H⟩ := H
    replace H : (if x8_1.length < 17592186044416 then (spec_DrawAnswerAll.l0 k1 t400 (x8_1 ++ [t418]) (wrap64 (x9_1 - 1)) t403 t404 t405 t406 t408 t419 t420) else (none)) = some (r1, r2, r3, r4, r5, r6) := H
    have A15 := Aside0.mk A150
    clear A150
    by_cases c16 : x8_1.length < 17592186044416
    ·rw [if_pos c16] at H
     have LMc16 := Aside0.mk c16
     clear c16
     obtain ⟨y421, hy421⟩ : ∃ y_ : List Int, y_ = (x8_1 ++ [t418]) := ⟨_, rfl⟩
     replace H : (spec_DrawAnswerAll.l0 k1 t400 y421 (wrap64 (x9_1 - 1)) t403 t404 t405 t406 t408 t419 t420) = some (r1, r2, r3, r4, r5, r6) := by first | (rw [hy421]; with_reducible exact H) | (have H2_ := (Option.bind_some _ _).symm.trans H; rw [hy421]; with_reducible exact H2_) | (have H2_ := (Option.bind_some _ _).symm.trans H; with_reducible exact H2_) | with_reducible exact H | (rw [hy421]; exact H) | exact H
     have Ny421 := Aside0.mk hy421
     clear hy421
     have H' := Aside0.mk H
     clear H
     go_wp2_with (first | ((with_reducible refine gate_callee (f := 112) rfl ?_); refine goesL_ (some 26) rfl rfl Try.func112 (by kernel_rfl) rfl #[.pointer (some ⟨g411, 0, none⟩), .int .i64 9] rfl (by (try simp only [mA, mC, mN]); first | done | rfl | (simp only [lD, lT]; rfl)) ?_; (with_reducible refine (spec_l1Below.calls g411 t408 x412001_1 x412002_1 9 t418 t419 t420 w _ ?side1 ?side2 A15.out).mono ?_); (case side1 => repeat (first | (with_reducible first | exact HI411.out | apply IsS189.alloc | apply IsS189.drewN | apply IsS189.drew | apply IsS189.set_1 | apply IsS189.set_2 | refine IsS189.far ?_ NB411_399.out _ | refine IsS189.far ?_ NB411_407.out _) | exact HI411.out)); (case side2 => repeat (first | (with_reducible first | exact HB.out | apply bA | apply bN | apply bD | refine bS ?_ (IsS189.ge HI411.out) | refine bS ?_ GE399.out | refine bS ?_ GE407.out) | exact HB.out)); rintro e w17 ⟨rfl, hi, hb, hk⟩; refine ⟨_, rfl, ?_⟩; have n0_ := Aside0.mk (Kd.R_mono (Kd.R_keep (IsS189.apart (show IsS189 w _ g411 t408 x412001_1 x412002_1 from by repeat (first | (with_reducible first | exact HI411.out | apply IsS189.alloc | apply IsS189.drewN | apply IsS189.drew | apply IsS189.set_1 | apply IsS189.set_2 | refine IsS189.far ?_ NB411_399.out _ | refine IsS189.far ?_ NB411_407.out _) | exact HI411.out)) (qR HO_5) (by decide)) hk (fun _ h => h.2)) (fun _ h => h.1)); have n1_ := Aside0.mk (Kd.R_mono (Kd.R_keep (IsS189.apart (show IsS189 w _ g411 t408 x412001_1 x412002_1 from by repeat (first | (with_reducible first | exact HI411.out | apply IsS189.alloc | apply IsS189.drewN | apply IsS189.drew | apply IsS189.set_1 | apply IsS189.set_2 | refine IsS189.far ?_ NB411_399.out _ | refine IsS189.far ?_ NB411_407.out _) | exact HI411.out)) (qR HO_8) (by decide)) hk (fun _ h => h.2)) (fun _ h => h.1)); have n2_ := Aside0.mk (KeepBut.blk hk (g' := gb399) (o := .cells #[.int .i64 0, .int .i64 0, .int .i64 0, .int .i64 0] 27 (0, 0)) (qK BK399) NB399_411.out (by simp)); have n3_ := Aside0.mk (KeepBut.blk hk (g' := gb407) (o := .cells #[.int .i64 t403, .int .i64 t404, .int .i64 t405, .int .i64 t406] 27 (0, 0)) (qK BK407) NB407_411.out (by simp)); have n4_ := Aside0.mk (hb); have n5_ := Aside0.mk (hi); clear HO_5; clear HO_8; clear BK399; clear BK407; clear HB; clear HI411; have HO_5 := n0_; have HO_8 := n1_; have BK399 := n2_; have BK407 := n3_; have HB := n4_; have HI411 := n5_; clear n0_ n1_ n2_ n3_ n4_ n5_; (try clear hb); (try clear hb2); (try clear hk); (try clear hi)) | ((with_reducible refine gate_builtin (b := .append) (xs := #[.tmp 24, .tmp 27]) rfl ?_); at_builtin; refine Kd.R_append (Kd.int .i64) (w0 := w) w.heap.size rfl (.tmp 24) (.tmp 27) 25 3 (.int .i64 0) 8 rfl Try.underlying25 info3 rfl (by decide) (by omega) u8 x8_1 t418 [.int .i64 t418] (fun _ => True) (fun _ => False) rfl rfl ?aP (fun _ hk => hk.elim) ?aF ?aO ?aB ?aS ?aL ?_; (case aP => exact rfl); (case aB => exact (by repeat (first | (with_reducible first | exact HB.out | apply bA | apply bN | apply bD | refine bS ?_ (IsS189.ge HI411.out) | refine bS ?_ GE399.out | refine bS ?_ GE407.out) | exact HB.out))); (case aF => exact (fun _ _ => trivial)); (case aO => exact (qR HO_8)); (case aS => exact (below_size (by repeat (first | (with_reducible first | exact HB.out | apply bA | apply bN | apply bD | refine bS ?_ (IsS189.ge HI411.out) | refine bS ?_ GE399.out | refine bS ?_ GE407.out) | exact HB.out)))); (case aL => have := LMc16.out; omega); intro v422 w18 ho hb hg hat; rw [← Ny421.out] at ho; have n0_ := Aside0.mk (Kd.R_over' (qR HO_5) (Kd.R_typed (qR HO_8)) (by decide) hg); have n1_ := Aside0.mk (blk_grown (qK BK399) hg (Kd.R_ne HO_8.out BK399.out (by decide))); have n2_ := Aside0.mk (blk_grown (qK BK407) hg (Kd.R_ne HO_8.out BK407.out (by decide))); have n3_ := Aside0.mk (IsS189.grown (by repeat (first | (with_reducible first | exact HI411.out | apply IsS189.alloc | apply IsS189.drewN | apply IsS189.drew | apply IsS189.set_1 | apply IsS189.set_2 | refine IsS189.far ?_ NB411_399.out _ | refine IsS189.far ?_ NB411_407.out _) | exact HI411.out)) hg (IsS189.own_ne HI411.out HO_8.out (by decide))); have n4_ := Aside0.mk (hb); have n5_ := Aside0.mk (ho); clear HO_5; clear BK399; clear BK407; clear HI411; clear HB; clear HO_8; have HO_5 := n0_; have BK399 := n1_; have BK407 := n2_; have HI411 := n3_; have HB := n4_; have HO423 := n5_; clear n0_ n1_ n2_ n3_ n4_ n5_; clear ho hb hg hat))
     go_roundg k1
     case measure => have := HK1.out; omega
     case rel => exact ⟨(y421), (wrap64 (x9_1 - 1)), (t419), (t420), (by first | rfl | (simp; done) | (simp [*]; done)), H', ⟨by have := HK1.out; omega⟩, ⟨by (with_reducible repeat first | apply rA | apply rN | apply rD); exact HO_5.out⟩, ⟨by (with_reducible repeat first | apply rA | apply rN | apply rD); exact HO423.out⟩, ⟨by (with_reducible repeat first | refine kN ?_ _ | refine kD ?_ | refine kA ?_ _); exact BK399.out⟩, ⟨by (with_reducible repeat first | refine kN ?_ _ | refine kD ?_ | refine kA ?_ _); exact BK407.out⟩, ⟨by repeat (first | (with_reducible first | exact HI411.out | apply IsS189.alloc | apply IsS189.drewN | apply IsS189.drew | apply IsS189.set_1 | apply IsS189.set_2 | refine IsS189.far ?_ NB411_399.out _ | refine IsS189.far ?_ NB411_407.out _) | exact HI411.out)⟩, ⟨by repeat (first | (with_reducible first | exact HB.out | apply bA | apply bN | apply bD | refine bS ?_ (IsS189.ge HI411.out) | refine bS ?_ GE399.out | refine bS ?_ GE407.out) | exact HB.out)⟩⟩
    ·rw [if_neg c16] at H
     exact absurd H (by simp)
   ·rw [if_neg c14] at H
    have c14b0 : decide (0 < x9_1) = false := decide_eq_false c14
    clear c14
    simp only [Option.some.injEq, Prod.mk.injEq] at H
    obtain ⟨rfl, rfl, rfl, rfl, rfl, rfl⟩ := H
    try go_wp2
    have n0_ := Aside0.mk (Kd.R_drew HO_5.out)
    have n1_ := Aside0.mk (Kd.R_drew HO_8.out)
    have n2_ := Aside0.mk (blk_drew BK399.out)
    have n3_ := Aside0.mk (blk_drew BK407.out)
    have n4_ := Aside0.mk (IsS189.drew HI411.out)
    have n5_ := Aside0.mk (below_drew1 HB.out)
    clear HO_5
    clear HO_8
    clear BK399
    clear BK407
    clear HI411
    clear HB
    have HO_5 := n0_
    have HO_8 := n1_
    have BK399 := n2_
    have BK407 := n3_
    have HI411 := n4_
    have HB := n5_
    clear n0_ n1_ n2_ n3_ n4_ n5_
    refine start_ (n := 6) (S := fun w' => w'.cell? ⟨gb407, 0, none⟩ = some (.int .i64 t403) ∧ w'.cell? ⟨gb407, 1, none⟩ = some (.int .i64 t404) ∧ w'.cell? ⟨gb407, 2, none⟩ = some (.int .i64 t405) ∧ w'.cell? ⟨gb407, 3, none⟩ = some (.int .i64 t406)) (ds := []) (bR [0, 6]) (by kernel_rfl) rfl rfl ⟨cC BK407 0, cC BK407 1, cC BK407 2, cC BK407 3⟩ (fun hHeld => ?_)
    generalize wr.drew = w19 at HO_5 HO_8 BK399 BK407 HI411 HB hHeld ⊢
    refine pure_ (i := 0) (N := some 29) (v := ?_) (a' := ?_) (bR [1, 5]) rfl rfl (by kernel_rfl) (fun _ _ _ h => h) (Or.inl ⟨by rfl, ?_⟩) ?_ ?_
    rotate_left; (intro w'; go_simp; with_reducible rfl); rotate_left; (simp only [Act.put, sA, sZ, sS, i64_w]; rfl)
    refine pure_ (i := 2) (N := some 31) (v := ?_) (a' := ?_) (bR [1, 1, 1, 3]) rfl rfl (by kernel_rfl) (fun _ _ _ h => h) (Or.inl ⟨by rfl, ?_⟩) ?_ ?_
    rotate_left; (intro w'; go_simp; with_reducible rfl); rotate_left; (simp only [Act.put, sA, sZ, sS, i64_w]; rfl)
    refine pure_ (i := 3) (N := some 2) (v := ?_) (a' := ?_) (bR [1, 1, 2, 2]) rfl rfl (by kernel_rfl) (fun _ _ _ h => h) (Or.inl ⟨by rfl, ?_⟩) ?_ ?_
    rotate_left; (intro w'; go_simp; with_reducible rfl); rotate_left; (simp only [Act.put, sA, sZ, sS, i64_w]; rfl)
    refine take_ (i := 1) (N := some 30) (v := ?_) (a' := ?_) (bR [4, 2]) rfl rfl (by kernel_rfl) (fun _ _ _ h => h) (Or.inl ⟨by rfl, ?_⟩) hHeld ?_ ?_
    rotate_left; (rintro w' ⟨s0, s1, s2, s3⟩; go_simp; with_reducible rfl); rotate_left; (simp only [Act.put, sA, sZ, sS, i64_w]; rfl)
    refine one_ (i := 4) (N := none) (bR [5, 1]) rfl rfl (by kernel_rfl) (by decide) (fun K hK => ?_)
    have hs20 : w19.cell? ⟨gb399, 0, none⟩ = some (.int .i64 0) := cC BK399 0
    have hfs20 := blk_frozen BK399.out 0
    have hns20_1 := NB407_399.out
    have hms20_1 := NB399_407.out
    have hs21 : w19.cell? ⟨gb399, 1, none⟩ = some (.int .i64 0) := cC BK399 1
    have hfs21 := blk_frozen BK399.out 1
    have hns21_1 := NB407_399.out
    have hms21_1 := NB399_407.out
    have hs22 : w19.cell? ⟨gb399, 2, none⟩ = some (.int .i64 0) := cC BK399 2
    have hfs22 := blk_frozen BK399.out 2
    have hns22_1 := NB407_399.out
    have hms22_1 := NB399_407.out
    have hs23 : w19.cell? ⟨gb399, 3, none⟩ = some (.int .i64 0) := cC BK399 3
    have hfs23 := blk_frozen BK399.out 3
    have hns23_1 := NB407_399.out
    have hms23_1 := NB399_407.out
    refine skip_ (w1 := ?_) (by rfl) rfl ?_ ?_
    rotate_left
    ·go_simp
     rfl
    refine hK.out _ _ ⟨((cell_far (p := ⟨gb399, _, none⟩) NB407_399.out _).trans (((cell_far (p := ⟨gb399, _, none⟩) NB407_399.out _).trans (((cell_far (p := ⟨gb399, _, none⟩) NB407_399.out _).trans (((cell_far (p := ⟨gb399, _, none⟩) NB407_399.out _).trans (hHeld.1)))))))), ((cell_far (p := ⟨gb399, _, none⟩) NB407_399.out _).trans (((cell_far (p := ⟨gb399, _, none⟩) NB407_399.out _).trans (((cell_far (p := ⟨gb399, _, none⟩) NB407_399.out _).trans (((cell_far (p := ⟨gb399, _, none⟩) NB407_399.out _).trans (hHeld.2.1)))))))), ((cell_far (p := ⟨gb399, _, none⟩) NB407_399.out _).trans (((cell_far (p := ⟨gb399, _, none⟩) NB407_399.out _).trans (((cell_far (p := ⟨gb399, _, none⟩) NB407_399.out _).trans (((cell_far (p := ⟨gb399, _, none⟩) NB407_399.out _).trans (hHeld.2.2.1)))))))), ((cell_far (p := ⟨gb399, _, none⟩) NB407_399.out _).trans (((cell_far (p := ⟨gb399, _, none⟩) NB407_399.out _).trans (((cell_far (p := ⟨gb399, _, none⟩) NB407_399.out _).trans (((cell_far (p := ⟨gb399, _, none⟩) NB407_399.out _).trans (hHeld.2.2.2))))))))⟩ (fun hHeld => ?_)
    clear hK K
    refine pure_ (i := 5) (N := some 4) (v := ?_) (a' := ?_) (bR [6]) rfl rfl (by kernel_rfl) (fun _ _ _ h => h) (Or.inl ⟨by rfl, ?_⟩) ?_ ?_
    rotate_left; (intro w'; go_simp; with_reducible rfl); rotate_left; (simp only [Act.put, sA, sZ, sS, i64_w]; rfl)
    refine done_ (by kernel_rfl) ?_
    try go_wp2
    refine bodyPost_ret (results_list (rs := [.tmp 2, .cell 3 27, .tmp 4]) rfl (by simp) (.tmp (.cell gb399 27 #[.int .i64 t403, .int .i64 t404, .int .i64 t405, .int .i64 t406] (0, 0) _ rfl (by (with_reducible repeat first | refine kN ?_ _ | refine kD ?_ | refine kA ?_ _); refine blk_put (cs := #[.int .i64 t403, .int .i64 t404, .int .i64 t405, .int .i64 0]) ?_ 3 _ rfl; (with_reducible repeat first | refine kN ?_ _ | refine kD ?_ | refine kA ?_ _); refine blk_put (cs := #[.int .i64 t403, .int .i64 t404, .int .i64 0, .int .i64 0]) ?_ 2 _ rfl; (with_reducible repeat first | refine kN ?_ _ | refine kD ?_ | refine kA ?_ _); refine blk_put (cs := #[.int .i64 t403, .int .i64 0, .int .i64 0, .int .i64 0]) ?_ 1 _ rfl; (with_reducible repeat first | refine kN ?_ _ | refine kD ?_ | refine kA ?_ _); refine blk_put (cs := #[.int .i64 0, .int .i64 0, .int .i64 0, .int .i64 0]) ?_ 0 _ rfl; (with_reducible repeat first | refine kN ?_ _ | refine kD ?_ | refine kA ?_ _); exact BK399.out) Try.underlying27 rfl (by kernel_rfl) (.tmp .nil)))) rfl ?_
    exact ⟨_, _, by first | rfl | (simp [errW_none, errW_some] <;> rfl) | (simp [*, errW_none, errW_some] <;> rfl), by (with_reducible repeat first | apply rA | apply rN | apply rD); exact Kd.R_mono (Kd.R_far (p := ⟨gb399, 3, none⟩) (Kd.R_far (p := ⟨gb399, 2, none⟩) (Kd.R_far (p := ⟨gb399, 1, none⟩) (Kd.R_far (p := ⟨gb399, 0, none⟩) (Kd.R_types HO_5.out BK399.out (by decide)) (fun _ hk => hk.2) (.int .i64 t403)) (fun _ hk => hk.2) (.int .i64 t404)) (fun _ hk => hk.2) (.int .i64 t405)) (fun _ hk => hk.2) (.int .i64 t406)) (fun _ hk => trivial), by (with_reducible repeat first | apply rA | apply rN | apply rD); exact Kd.R_mono (Kd.R_far (p := ⟨gb399, 3, none⟩) (Kd.R_far (p := ⟨gb399, 2, none⟩) (Kd.R_far (p := ⟨gb399, 1, none⟩) (Kd.R_far (p := ⟨gb399, 0, none⟩) (Kd.R_types HO_8.out BK399.out (by decide)) (fun _ hk => hk.2) (.int .i64 t403)) (fun _ hk => hk.2) (.int .i64 t404)) (fun _ hk => hk.2) (.int .i64 t405)) (fun _ hk => hk.2) (.int .i64 t406)) (fun _ hk => trivial), by repeat (first | (with_reducible first | exact HB.out | apply bA | apply bN | apply bD | refine bS ?_ (IsS189.ge HI411.out) | refine bS ?_ GE399.out | refine bS ?_ GE407.out) | exact HB.out)⟩

end Go.Proofs.Ytppgealmedaihaa.PFnTrials
