-- The printed functions of one law and their contracts, over contracts of this session's own (hand.py).
import Derived.Test.YtkfalbaklodnjaaPFnShelvesx0
import Derived.Test.YtkfalbaklodnjaaPFnShelvesx2
import Derived.Test.YtkfalbaklodnjaaPFnShelvesx6
namespace Go.Proofs.Ytkfalbaklodnjaa.PFnShelves
open Go.RowKit Go.Proofs.YtkfalbaklodnjaaW.PrintWords Go.Proofs.YtkfalbaklodnjaaW.PrintLast Go.Proofs.YtkfalbaklodnjaaW.PrintMore Go.Proofs.Ytkfalbaklodnjaa.Short
attribute [local go_sem] max2_int min2_int max_two min_two max_three min_three max_four min_four   -- for this text's walks alone
set_option linter.unusedVariables false
set_option linter.unusedSimpArgs false

/-! ### spec_DrawSlotOf: function 139 -/
def spec_DrawSlotOf.f (k : Nat) (l0 : List Int) : Option ((List (S78)) × Int) := (spec_l1New.f k l0).bind fun bt350 => ((spec_l14Any.f k bt350.1 bt350.2.1 bt350.2.2).bind fun bt354 => ((spec_l1Below.f bt350.1 bt354.2.1 bt354.2.2 (bt354.1.length : Int)).bind fun bt359 => (if 0 ≤ bt359.1 then (if bt359.1 < (bt354.1.length : Int) then ((spec_l1Int.f bt350.1 bt359.2.1 bt359.2.2 (([0, (rd_T78 bt354.1 bt359.1).f2, (rd_T78 bt354.1 bt359.1).f2, 7] : List Int))).bind fun bt367 => (some (bt354.1, bt367.1))) else (none)) else (none))))
theorem spec_DrawSlotOf.mono : ∀ a0 k, LeO (spec_DrawSlotOf.f k a0) (spec_DrawSlotOf.f (k + 1) a0) := by
 intro a0 k
 unfold spec_DrawSlotOf.f
 repeat' first
   | (with_reducible exact spec_l14Any.mono _ _ _ _)
   | (with_reducible exact spec_l1New.mono _ _)
   | (with_reducible exact LeO.refl _)
   | (with_reducible exact LeO.none _)
   | (with_reducible refine LeO.ite ?_ ?_)
   | (with_reducible refine LeO.bind ?_ (fun _ => ?_))
   | exact spec_l14Any.mono _ _ _ _
   | exact spec_l1New.mono _ _
   | exact LeO.none _
   | refine LeO.ite ?_ ?_
   | refine LeO.bind ?_ (fun _ => ?_)
def spec_DrawSlotOf.T4 : Bool × List (List Nat × List Nat) := (true, [([], []), ([], []), ([], []), ([], []), ([2, 3], [2, 3]), ([4], [4]), ([5], [5]), ([], []), ([], []), ([7, 8], [7, 8]), ([9], [9]), ([10], [10]), ([6, 11], [6, 11]), ([1, 12], [1, 12]), ([0, 13, 0], [0]), ([13, 14, 0, 1, 2, 3, 4, 5, 6, 7, 8, 9, 10, 11, 12, 13, 14], [13])])
def spec_DrawSlotOf.B4 : List Nat := [0, 0, 0, 0, 12, 28, 60, 0, 0, 384, 896, 1920, 4092, 8190, 16383, 32767]
theorem spec_DrawSlotOf.tab4 : rtab .any (opsOf Try.f139 4) = spec_DrawSlotOf.T4 := by kernel_rfl
theorem spec_DrawSlotOf.bits4 : waitsOk spec_DrawSlotOf.T4.2 spec_DrawSlotOf.B4 = true := by kernel_rfl
set_option maxHeartbeats 8000000 in
set_option maxRecDepth 100000 in
theorem spec_DrawSlotOf.calls (k : Nat) (A0 : Option Addr) (c0 : Nat) (l0 : List Int) (r1 : List (S78)) (r2 : Int) (w : World) (hr0 : Kd.C (Kd.int .u8) w A0 l0.length l0) (hc0 : l0.length ≤ c0) (h : spec_DrawSlotOf.f k l0 = some (r1, r2)) :
  Calls Try.prog 139 #[.slice A0 l0.length c0] w fun e w' => ∃ v0_ : Value, e = .returned (.tuple #[v0_, .int .i64 r2]) ∧ Kd.R k78 78 w' w.heap.size (fun _ => True) v0_ r1 ∧ Below w.heap.size w w' := by
 have HR0 := Aside0.mk hr0
 have HC0 := Aside0.mk hc0
 clear hr0 hc0
 have HB := Aside0.mk (Below.refl w.heap.size w)
 have H : ((spec_l1New.f k l0).bind fun bt350 => ((spec_l14Any.f k bt350.1 bt350.2.1 bt350.2.2).bind fun bt354 => ((spec_l1Below.f bt350.1 bt354.2.1 bt354.2.2 (bt354.1.length : Int)).bind fun bt359 => (if 0 ≤ bt359.1 then (if bt359.1 < (bt354.1.length : Int) then ((spec_l1Int.f bt350.1 bt359.2.1 bt359.2.2 (([0, (rd_T78 bt354.1 bt359.1).f2, (rd_T78 bt354.1 bt359.1).f2, 7] : List Int))).bind fun bt367 => (some (bt354.1, bt367.1))) else (none)) else (none))))) = some (r1, r2) := h
 clear h
 replace H := Option.bind_eq_some_iff.mp H
 obtain ⟨⟨t350, t351, t352⟩, A20, H⟩ := H
 replace H : ((spec_l14Any.f k t350 t351 t352).bind fun bt354 => ((spec_l1Below.f t350 bt354.2.1 bt354.2.2 (bt354.1.length : Int)).bind fun bt359 => (if 0 ≤ bt359.1 then (if bt359.1 < (bt354.1.length : Int) then ((spec_l1Int.f t350 bt359.2.1 bt359.2.2 (([0, (rd_T78 bt354.1 bt359.1).f2, (rd_T78 bt354.1 bt359.1).f2, 7] : List Int))).bind fun bt367 => (some (bt354.1, bt367.1))) else (none)) else (none)))) = some (r1, r2) := H
 have A2 := Aside0.mk A20
 clear A20
 replace H := Option.bind_eq_some_iff.mp H
 obtain ⟨⟨t354, t357, t358⟩, A30, H⟩ := H
 replace H : ((spec_l1Below.f t350 t357 t358 (t354.length : Int)).bind fun bt359 => (if 0 ≤ bt359.1 then (if bt359.1 < (t354.length : Int) then ((spec_l1Int.f t350 bt359.2.1 bt359.2.2 (([0, (rd_T78 t354 bt359.1).f2, (rd_T78 t354 bt359.1).f2, 7] : List Int))).bind fun bt367 => (some (t354, bt367.1))) else (none)) else (none))) = some (r1, r2) := H
 have A3 := Aside0.mk A30
 clear A30
 replace H := Option.bind_eq_some_iff.mp H
 obtain ⟨⟨t359, t360, t361⟩, A40, H⟩ := H
 replace H : (if 0 ≤ t359 then (if t359 < (t354.length : Int) then ((spec_l1Int.f t350 t360 t361 (([0, (rd_T78 t354 t359).f2, (rd_T78 t354 t359).f2, 7] : List Int))).bind fun bt367 => (some (t354, bt367.1))) else (none)) else (none)) = some (r1, r2) := H
 have A4 := Aside0.mk A40
 clear A40
 by_cases c5 : 0 ≤ t359
 ·rw [if_pos c5] at H
  have c5b0 : decide (0 ≤ t359) = true := decide_eq_true c5
  clear c5
  by_cases c6 : t359 < (t354.length : Int)
  ·rw [if_pos c6] at H
   have c6b0 : decide (t359 < (t354.length : Int)) = true := decide_eq_true c6
   clear c6
   obtain ⟨y364, hy364⟩ : ∃ y_ : List Int, y_ = (([0, (rd_T78 t354 t359).f2, (rd_T78 t354 t359).f2, 7] : List Int)) := ⟨_, rfl⟩
   replace H : ((spec_l1Int.f t350 t360 t361 y364).bind fun bt367 => (some (t354, bt367.1))) = some (r1, r2) := by first | (rw [hy364]; with_reducible exact H) | (have H2_ := (Option.bind_some _ _).symm.trans H; rw [hy364]; with_reducible exact H2_) | (have H2_ := (Option.bind_some _ _).symm.trans H; with_reducible exact H2_) | with_reducible exact H | (rw [hy364]; exact H) | exact H
   have Ny364 := Aside0.mk hy364
   clear hy364
   replace H := Option.bind_eq_some_iff.mp H
   obtain ⟨⟨t367, t368, t369⟩, A70, H⟩ := H
   replace H : (some (t354, t367)) = some (r1, r2) := H
   have A7 := Aside0.mk A70
   clear A70
   simp only [Option.some.injEq, Prod.mk.injEq] at H
   obtain ⟨rfl, rfl⟩ := H
   go_enter Try.func139, Try.ntmps139
   try go_wp2_with (first | ((with_reducible refine gate_callee (f := 132) rfl ?_); refine goesL_ (some 8) rfl rfl Try.func132 (by kernel_rfl) rfl #[.slice A0 l0.length c0] rfl (by (try simp only [mA, mC, mN]); first | done | rfl | (simp only [lD, lT]; rfl)) ?_; (with_reducible refine (spec_l1New.calls k _ _ l0 t350 t351 t352 w _ ?side1 ?side2 ?side3 A2.out).mono ?_); (case side1 => repeat (first | (with_reducible first | exact HB.out | apply below_alloc | apply pw_below_drewN | apply below_drew1) | exact HB.out)); (case side2 => exact HR0.out); (case side3 => exact HC0.out); rintro e w8 ⟨g353, rfl, hi, hb, hb2⟩; refine ⟨_, rfl, ?_⟩; have n0_ := Aside0.mk (hb); have n1_ := Aside0.mk (hi); clear HB; have HB := n0_; have HI353 := n1_; clear n0_ n1_; (try clear hb); (try clear hb2); (try clear hk); (try clear hi)) | ((with_reducible refine gate_callee (f := 133) rfl ?_); refine goesL_ (some 10) rfl rfl Try.func133 (by kernel_rfl) rfl #[.pointer (some ⟨g353, 0, none⟩)] rfl (by (try simp only [mA, mC, mN]); first | done | rfl | (simp only [lD, lT]; rfl)) ?_; (with_reducible refine (spec_l14Any.calls k g353 t350 t351 t352 t354 t357 t358 w _ ?side1 ?side2 A3.out).mono ?_); (case side1 => repeat (first | (with_reducible first | exact HI353.out | apply IsS202.alloc | apply IsS202.drewN | apply IsS202.drew | apply IsS202.set_1 | apply IsS202.set_2) | exact HI353.out)); (case side2 => repeat (first | (with_reducible first | exact HB.out | apply below_alloc | apply pw_below_drewN | apply below_drew1 | refine below_set ?_ (IsS202.ge HI353.out)) | exact HB.out)); rintro e w9 ⟨v355, rfl, ho0, hi, hb, hk⟩; refine ⟨_, rfl, ?_⟩; have n0_ := Aside0.mk (Kd.R_lower ho0 (below_size (by repeat (first | (with_reducible first | exact HB.out | apply below_alloc | apply pw_below_drewN | apply below_drew1 | refine below_set ?_ (IsS202.ge HI353.out)) | exact HB.out)))); have n1_ := Aside0.mk (hb); have n2_ := Aside0.mk (hi); clear HB; clear HI353; have HO356 := n0_; have HB := n1_; have HI353 := n2_; clear n0_ n1_ n2_; (try clear hb); (try clear hb2); (try clear hk); (try clear hi); (try clear ho0); obtain ⟨Ao10, co10, eo10⟩ := Kd.R_slice HO356.out; subst eo10) | ((with_reducible refine gate_callee (f := 173) rfl ?_); refine goesL_ (some 14) rfl rfl Try.func173 (by kernel_rfl) rfl #[.pointer (some ⟨g353, 0, none⟩), .int .i64 (t354.length : Int)] rfl (by (try simp only [mA, mC, mN]); first | done | rfl | (simp only [lD, lT]; rfl)) ?_; (with_reducible refine (spec_l1Below.calls g353 t350 t357 t358 (t354.length : Int) t359 t360 t361 w _ ?side1 ?side2 A4.out).mono ?_); (case side1 => repeat (first | (with_reducible first | exact HI353.out | apply IsS202.alloc | apply IsS202.drewN | apply IsS202.drew | apply IsS202.set_1 | apply IsS202.set_2) | exact HI353.out)); (case side2 => repeat (first | (with_reducible first | exact HB.out | apply below_alloc | apply pw_below_drewN | apply below_drew1 | refine below_set ?_ (IsS202.ge HI353.out)) | exact HB.out)); rintro e w11 ⟨rfl, hi, hb, hk⟩; refine ⟨_, rfl, ?_⟩; have n0_ := Aside0.mk (Kd.R_mono (Kd.R_keep (IsS202.apart (show IsS202 w _ g353 t350 t357 t358 from by repeat (first | (with_reducible first | exact HI353.out | apply IsS202.alloc | apply IsS202.drewN | apply IsS202.drew | apply IsS202.set_1 | apply IsS202.set_2) | exact HI353.out)) (qR HO356) (by decide)) hk (fun _ h => h.2)) (fun _ h => h.1)); have n1_ := Aside0.mk (hb); have n2_ := Aside0.mk (hi); clear HO356; clear HB; clear HI353; have HO356 := n0_; have HB := n1_; have HI353 := n2_; clear n0_ n1_ n2_; (try clear hb); (try clear hb2); (try clear hk); (try clear hi)))
   have n0_ := Aside0.mk (Kd.R_drew HO356.out)
   have n1_ := Aside0.mk (IsS202.drew HI353.out)
   have n2_ := Aside0.mk (below_drew1 HB.out)
   clear HO356
   clear HI353
   clear HB
   have HO356 := n0_
   have HI353 := n1_
   have HB := n2_
   clear n0_ n1_ n2_
   have p362 : 0 ≤ (t359 : Int) := of_decide_eq_true ‹_›
   have q362 : t359 < (t354.length : Int) := of_decide_eq_true ‹_›
   obtain ⟨ad362, e362, hx362_0, hx362_1, hx362_2⟩ := at_T78 (Kd.R_reads' HO356.out).2.2 t359 p362 q362
   cases e362
   replace p362 := eq_true p362
   replace q362 := eq_true q362
   have p363 : 0 ≤ (t359 : Int) := of_decide_eq_true ‹_›
   have q363 : t359 < (t354.length : Int) := of_decide_eq_true ‹_›
   obtain ⟨ad363, e363, hx363_0, hx363_1, hx363_2⟩ := at_T78 (Kd.R_reads' HO356.out).2.2 t359 p363 q363
   obtain rfl : ad362 = ad363 := (by injection e363)
   replace p363 := eq_true p363
   replace q363 := eq_true q363
   refine start_ (n := 16) (S := fun w' => w'.cell? (ad362.add ((t359).toNat * 3)) = some (.int .i64 ((rd_T78 t354 t359).f0)) ∧ w'.cell? ⟨(ad362.add ((t359).toNat * 3)).block, (ad362.add ((t359).toNat * 3)).off + 1, none⟩ = some (.int .i64 ((rd_T78 t354 t359).f1)) ∧ w'.cell? ⟨(ad362.add ((t359).toNat * 3)).block, (ad362.add ((t359).toNat * 3)).off + 2, none⟩ = some (.int .i64 ((rd_T78 t354 t359).f2)) ∧ w'.cell? (ad362.add ((t359).toNat * 3)) = some (.int .i64 ((rd_T78 t354 t359).f0)) ∧ w'.cell? ⟨(ad362.add ((t359).toNat * 3)).block, (ad362.add ((t359).toNat * 3)).off + 1, none⟩ = some (.int .i64 ((rd_T78 t354 t359).f1)) ∧ w'.cell? ⟨(ad362.add ((t359).toNat * 3)).block, (ad362.add ((t359).toNat * 3)).off + 2, none⟩ = some (.int .i64 ((rd_T78 t354 t359).f2))) (ds := []) (bR [0, 16]) (by kernel_rfl) rfl rfl ⟨hx362_0, hx362_1, hx362_2, hx363_0, hx363_1, hx363_2⟩ (fun hHeld => ?_); refine with_tabW spec_DrawSlotOf.tab4 spec_DrawSlotOf.bits4 (fun HT_ HW_ => ?_)
   generalize w11.drew = w12 at HO356 HI353 HB hx362_0 hx362_1 hx362_2 hx363_0 hx363_1 hx363_2 hHeld ⊢
   refine pP 0 15 (bR [1, 15]) rfl rfl HT_ ?_
   refine pP 1 16 (bR [2, 14]) rfl rfl HT_ ?_
   refine pP 2 17 (bR [3, 13]) rfl rfl HT_ ?_
   refine pP 3 18 (bR [4, 12]) rfl rfl HT_ ?_
   refine pP 4 19 (bR [5, 11]) rfl rfl HT_ ?_
   refine pP 5 20 (bR [6, 10]) rfl rfl HT_ ?_
   refine pP 7 22 (bR [6, 1, 1, 8]) rfl rfl HT_ ?_
   refine pP 8 23 (bR [6, 1, 2, 7]) rfl rfl HT_ ?_
   refine pP 9 24 (bR [6, 1, 3, 6]) rfl rfl HT_ ?_
   refine pP 10 25 (bR [6, 1, 4, 5]) rfl rfl HT_ ?_
   refine take_ (i := 6) (N := some 21) (v := ?_) (a' := ?_) (bR [11, 5]) rfl rfl (take_ofW HT_.out HW_.out (by kernel_rfl)) (fun _ _ _ h => h) (Or.inl ⟨by rfl, ?_⟩) hHeld ?_ ?_
   rotate_left; (rintro w' ⟨s0, s1, s2, s3, s4, s5⟩; go_simp; with_reducible rfl); rotate_left; (simp only [Act.put, sA, sZ, sS, i64_w]; rfl)
   refine take_ (i := 11) (N := some 26) (v := ?_) (a' := ?_) (bR [12, 4]) rfl rfl (take_ofW HT_.out HW_.out (by kernel_rfl)) (fun _ _ _ h => h) (Or.inl ⟨by rfl, ?_⟩) hHeld ?_ ?_
   rotate_left; (rintro w' ⟨s0, s1, s2, s3, s4, s5⟩; go_simp; with_reducible rfl); rotate_left; (simp only [Act.put, sA, sZ, sS, i64_w]; rfl)
   refine one_ (i := 12) (N := some 27) (bR [13, 3]) rfl rfl (one_of HT_.out (by kernel_rfl)) (by decide) (fun K hK => ?_)
   refine Kd.R_lit_step (Kd.int .i64) _ 3 ?hg (N := 27) ?hd (xs := ([0, (rd_T78 t354 t359).f2, (rd_T78 t354 t359).f2, 7] : List Int)) (inner := [.int .i64 0, .int .i64 ((rd_T78 t354 t359).f2), .int .i64 ((rd_T78 t354 t359).f2), .int .i64 7]) (ok := fun _ => True) (okp := fun _ => True) ?hr ?hp (fun _ hk => hk) trivial (Below.refl _ _) (Nat.le_refl _) (by simp) ?_; (case hd => rfl); (case hg => rfl); (case hr => first | (go_simp; done) | (go_simp; rfl)); (case hp => exact (Reps.one (show Kd.M (Kd.int .i64) _ _ _ 0 [.int .i64 0] from rfl) (Reps.one (show Kd.M (Kd.int .i64) _ _ _ ((rd_T78 t354 t359).f2) [.int .i64 ((rd_T78 t354 t359).f2)] from rfl) (Reps.one (show Kd.M (Kd.int .i64) _ _ _ ((rd_T78 t354 t359).f2) [.int .i64 ((rd_T78 t354 t359).f2)] from rfl) (Reps.one (show Kd.M (Kd.int .i64) _ _ _ 7 [.int .i64 7] from rfl) (Reps.none _ _))))))
   intro v365 w13 ho14 hb hg_ hnew_
   have HS0_ := (hb.cell (World.block_lt_of_cell? _ _ (hHeld.1))).trans (hHeld.1)
   have HS1_ := (hb.cell (World.block_lt_of_cell? _ _ (hHeld.2.1))).trans (hHeld.2.1)
   have HS2_ := (hb.cell (World.block_lt_of_cell? _ _ (hHeld.2.2.1))).trans (hHeld.2.2.1)
   have HS3_ := (hb.cell (World.block_lt_of_cell? _ _ (hHeld.2.2.2.1))).trans (hHeld.2.2.2.1)
   have HS4_ := (hb.cell (World.block_lt_of_cell? _ _ (hHeld.2.2.2.2.1))).trans (hHeld.2.2.2.2.1)
   have HS5_ := (hb.cell (World.block_lt_of_cell? _ _ (hHeld.2.2.2.2.2))).trans (hHeld.2.2.2.2.2)
   clear hg_ hnew_
   (first | rw [← Ny364.out] at ho14 | (simp only [Int.reduceToNat] at ho14; rw [← Ny364.out] at ho14))
   have n0_ := Aside0.mk (Kd.R_below (qR HO356) hb)
   have n1_ := Aside0.mk (Kd.R_lower ho14 (below_size (by repeat (first | (with_reducible first | exact HB.out | apply below_alloc | apply pw_below_drewN | apply below_drew1 | refine below_set ?_ (IsS202.ge HI353.out)) | exact HB.out))))
   have n2_ := Aside0.mk (IsS202.below (by repeat (first | (with_reducible first | exact HI353.out | apply IsS202.alloc | apply IsS202.drewN | apply IsS202.drew | apply IsS202.set_1 | apply IsS202.set_2) | exact HI353.out)) hb)
   have n3_ := Aside0.mk (below_step (by repeat (first | (with_reducible first | exact HB.out | apply below_alloc | apply pw_below_drewN | apply below_drew1 | refine below_set ?_ (IsS202.ge HI353.out)) | exact HB.out)) hb)
   clear HO356
   clear HI353
   clear HB
   have HO356 := n0_
   have HO366 := n1_
   have HI353 := n2_
   have HB := n3_
   clear n0_ n1_ n2_ n3_
   clear hb ho14
   obtain ⟨Ao15, co15, eo15⟩ := Kd.R_slice HO366.out
   (first | subst eo15 | (injection eo15 with f1_ f2_ f3_; have f4_ := f1_.symm; have f5_ := f3_.symm; clear f1_ f2_ f3_; subst f4_; subst f5_))
   refine hK.out _ _ ⟨HS0_, HS1_, HS2_, HS3_, HS4_, HS5_⟩ (fun hHeld => ?_)
   clear hK K
   refine norm_ (a' := ?_) ?_ ?_
   rotate_left
   ·show Act.put _ (some 27) _ = _
    simp only [Act.put, sA, sZ, sS, i64_w]
    rfl
   refine one_ (i := 13) (N := some 28) (bR [14, 2]) rfl rfl (one_of HT_.out (by kernel_rfl)) (by decide) (fun K hK => ?_)
   refine goes_ Try.func170 (by kernel_rfl) rfl #[.pointer (some ⟨g353, 0, none⟩), .slice Ao15 y364.length co15] (by rfl) rfl rfl (by (try simp only [mA, mC, mN]); first | done | rfl | (simp only [lD, lT]; rfl)) ?_
   with_reducible refine (spec_l1Int.calls g353 t350 t360 t361 _ _ y364 t367 t368 t369 w _ ?side1 ?side2 ?side3 ?side4 ?side5 A7.out).mono ?_
   (case side1 => repeat (first | (with_reducible first | exact HI353.out | apply IsS202.alloc | apply IsS202.drewN | apply IsS202.drew | apply IsS202.set_1 | apply IsS202.set_2) | exact HI353.out))
   (case side2 => repeat (first | (with_reducible first | exact HB.out | apply below_alloc | apply pw_below_drewN | apply below_drew1 | refine below_set ?_ (IsS202.ge HI353.out)) | exact HB.out))
   (case side3 => repeat (first | exact (Kd.R_reads' HO366.out).2.2 | (with_reducible refine Kd.C_alloc ?_ _) | (with_reducible refine Kd.C_drewN ?_ _) | (with_reducible refine Kd.C_drew ?_)))
   (case side4 => exact (Kd.R_reads' HO366.out).2.1)
   (case side5 => exact far_slice (IsS202.own_ne HI353.out HO366.out (by decide)))
   rintro e w16 ⟨rfl, hi, hb, hk⟩
   have HS0_ := keep_cell hk (hHeld.1) (by first | (rw [add_block]; exact Kd.own_blk (IsS202.own_ne HI353.out HO356.out (by decide))) | (show (Addr.add _ _).block ≠ _; rw [add_block]; exact Kd.own_blk (IsS202.own_ne HI353.out HO356.out (by decide))) | exact Kd.own_blk (IsS202.own_ne HI353.out HO356.out (by decide)))
   have HS1_ := keep_cell hk (hHeld.2.1) (by first | (rw [add_block]; exact Kd.own_blk (IsS202.own_ne HI353.out HO356.out (by decide))) | (show (Addr.add _ _).block ≠ _; rw [add_block]; exact Kd.own_blk (IsS202.own_ne HI353.out HO356.out (by decide))) | exact Kd.own_blk (IsS202.own_ne HI353.out HO356.out (by decide)))
   have HS2_ := keep_cell hk (hHeld.2.2.1) (by first | (rw [add_block]; exact Kd.own_blk (IsS202.own_ne HI353.out HO356.out (by decide))) | (show (Addr.add _ _).block ≠ _; rw [add_block]; exact Kd.own_blk (IsS202.own_ne HI353.out HO356.out (by decide))) | exact Kd.own_blk (IsS202.own_ne HI353.out HO356.out (by decide)))
   have HS3_ := keep_cell hk (hHeld.2.2.2.1) (by first | (rw [add_block]; exact Kd.own_blk (IsS202.own_ne HI353.out HO356.out (by decide))) | (show (Addr.add _ _).block ≠ _; rw [add_block]; exact Kd.own_blk (IsS202.own_ne HI353.out HO356.out (by decide))) | exact Kd.own_blk (IsS202.own_ne HI353.out HO356.out (by decide)))
   have HS4_ := keep_cell hk (hHeld.2.2.2.2.1) (by first | (rw [add_block]; exact Kd.own_blk (IsS202.own_ne HI353.out HO356.out (by decide))) | (show (Addr.add _ _).block ≠ _; rw [add_block]; exact Kd.own_blk (IsS202.own_ne HI353.out HO356.out (by decide))) | exact Kd.own_blk (IsS202.own_ne HI353.out HO356.out (by decide)))
   have HS5_ := keep_cell hk (hHeld.2.2.2.2.2) (by first | (rw [add_block]; exact Kd.own_blk (IsS202.own_ne HI353.out HO356.out (by decide))) | (show (Addr.add _ _).block ≠ _; rw [add_block]; exact Kd.own_blk (IsS202.own_ne HI353.out HO356.out (by decide))) | exact Kd.own_blk (IsS202.own_ne HI353.out HO356.out (by decide)))
   refine ⟨_, rfl, ?_⟩
   have n0_ := Aside0.mk (Kd.R_mono (Kd.R_keep (IsS202.apart (show IsS202 w _ g353 t350 t360 t361 from by repeat (first | (with_reducible first | exact HI353.out | apply IsS202.alloc | apply IsS202.drewN | apply IsS202.drew | apply IsS202.set_1 | apply IsS202.set_2) | exact HI353.out)) (qR HO356) (by decide)) hk (fun _ h => h.2)) (fun _ h => h.1))
   have n1_ := Aside0.mk (Kd.R_mono (Kd.R_keep (IsS202.apart (show IsS202 w _ g353 t350 t360 t361 from by repeat (first | (with_reducible first | exact HI353.out | apply IsS202.alloc | apply IsS202.drewN | apply IsS202.drew | apply IsS202.set_1 | apply IsS202.set_2) | exact HI353.out)) (qR HO366) (by decide)) hk (fun _ h => h.2)) (fun _ h => h.1))
   have n2_ := Aside0.mk (hb)
   have n3_ := Aside0.mk (hi)
   clear HO356
   clear HO366
   clear HB
   clear HI353
   have HO356 := n0_
   have HO366 := n1_
   have HB := n2_
   have HI353 := n3_
   clear n0_ n1_ n2_ n3_
   (try clear hb)
   (try clear hb2)
   (try clear hk)
   (try clear hi)
   refine hK.out _ _ ⟨HS0_, HS1_, HS2_, HS3_, HS4_, HS5_⟩ (fun hHeld => ?_)
   clear hK K
   refine norm_ (a' := ?_) ?_ ?_
   rotate_left
   ·show Act.put _ (some 28) _ = _
    simp only [Act.put, sA, sZ, sS, i64_w]
    rfl
   refine pP 14 2 (bR [15, 1]) rfl rfl HT_ ?_
   refine pP 15 3 (bR [16]) rfl rfl HT_ ?_
   refine done_ (done_of HT_.out (by kernel_rfl)) ?_
   try go_wp2
   go_ret2
   exact ⟨_, by first | rfl | (simp [errW_none, errW_some] <;> rfl) | (simp [*, errW_none, errW_some] <;> rfl), by (with_reducible repeat (first | apply Kd.R_alloc | apply Kd.R_drewN | apply Kd.R_drew)); exact HO356.out, by repeat (first | (with_reducible first | exact HB.out | apply below_alloc | apply pw_below_drewN | apply below_drew1 | refine below_set ?_ (IsS202.ge HI353.out)) | exact HB.out)⟩
  ·rw [if_neg c6] at H
   exact absurd H (by simp)
 ·rw [if_neg c5] at H
  exact absurd H (by simp)

/-! ### spec_DrawTakeOut: function 54 -/
def spec_DrawTakeOut.f (k : Nat) (l0 : List Int) : Option ((List (S78)) × Int) := (spec_DrawSlotOf.f k l0).bind fun bt370 => (some (bt370.1, bt370.2))
theorem spec_DrawTakeOut.mono : ∀ a0 k, LeO (spec_DrawTakeOut.f k a0) (spec_DrawTakeOut.f (k + 1) a0) := by
 intro a0 k
 unfold spec_DrawTakeOut.f
 repeat' first
   | (with_reducible exact spec_DrawSlotOf.mono _ _)
   | (with_reducible exact LeO.refl _)
   | (with_reducible exact LeO.none _)
   | (with_reducible refine LeO.ite ?_ ?_)
   | (with_reducible refine LeO.bind ?_ (fun _ => ?_))
   | exact spec_DrawSlotOf.mono _ _
   | exact LeO.none _
   | refine LeO.ite ?_ ?_
   | refine LeO.bind ?_ (fun _ => ?_)
set_option maxHeartbeats 8000000 in
set_option maxRecDepth 100000 in
theorem spec_DrawTakeOut.calls (k : Nat) (A0 : Option Addr) (c0 : Nat) (l0 : List Int) (r1 : List (S78)) (r2 : Int) (w : World) (hr0 : Kd.C (Kd.int .u8) w A0 l0.length l0) (hc0 : l0.length ≤ c0) (h : spec_DrawTakeOut.f k l0 = some (r1, r2)) :
  Calls Try.prog 54 #[.slice A0 l0.length c0] w fun e w' => ∃ v0_ : Value, e = .returned (.tuple #[v0_, .int .i64 r2]) ∧ Kd.R k78 78 w' w.heap.size (fun _ => True) v0_ r1 ∧ Below w.heap.size w w' := by
 have HR0 := Aside0.mk hr0
 have HC0 := Aside0.mk hc0
 clear hr0 hc0
 have HB := Aside0.mk (Below.refl w.heap.size w)
 have H : ((spec_DrawSlotOf.f k l0).bind fun bt370 => (some (bt370.1, bt370.2))) = some (r1, r2) := h
 clear h
 replace H := Option.bind_eq_some_iff.mp H
 obtain ⟨⟨t370, t371⟩, A20, H⟩ := H
 replace H : (some (t370, t371)) = some (r1, r2) := H
 have A2 := Aside0.mk A20
 clear A20
 simp only [Option.some.injEq, Prod.mk.injEq] at H
 obtain ⟨rfl, rfl⟩ := H
 go_enter Try.func54, Try.ntmps54
 go_wp2_with (first | ((with_reducible refine gate_callee (f := 139) rfl ?_); refine goesL_ (some 5) rfl rfl Try.func139 (by kernel_rfl) rfl #[.slice A0 l0.length c0] rfl (by (try simp only [mA, mC, mN]); first | done | rfl | (simp only [lD, lT]; rfl)) ?_; (with_reducible refine (spec_DrawSlotOf.calls k _ _ l0 t370 t371 _ ?side1 ?side2 A2.out).mono ?_); (case side1 => repeat (first | exact HR0.out | (with_reducible refine Kd.C_alloc ?_ _) | (with_reducible refine Kd.C_drewN ?_ _) | (with_reducible refine Kd.C_drew ?_))); (case side2 => exact HC0.out); rintro e w3 ⟨v372, rfl, ho0, hb⟩; refine ⟨_, rfl, ?_⟩; have n0_ := Aside0.mk (Kd.R_lower ho0 (below_size (qB HB))); have n1_ := Aside0.mk (below_step (qB HB) hb); clear HB; have HO373 := n0_; have HB := n1_; clear n0_ n1_; (try clear hb); (try clear hb2); (try clear hk); (try clear hi); (try clear ho0)))
 go_ret2
 exact ⟨_, by first | rfl | (simp [errW_none, errW_some] <;> rfl) | (simp [*, errW_none, errW_some] <;> rfl), by (with_reducible repeat (first | apply Kd.R_alloc | apply Kd.R_drewN | apply Kd.R_drew)); exact HO373.out, by repeat (first | (with_reducible first | exact HB.out | apply below_alloc | apply pw_below_drewN | apply below_drew1) | exact HB.out)⟩

end Go.Proofs.Ytkfalbaklodnjaa.PFnShelves
