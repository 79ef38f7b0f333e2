-- The printed functions of one law and their contracts, over contracts of this session's own (hand.py).
import Derived.Test.YtkfalbaklodnjaaPFnShelvesx0
import Derived.Test.YtkfalbaklodnjaaPFnShelvesx2
import Derived.Test.YtkfalbaklodnjaaPFnShelvesx3
import Derived.Test.YtkfalbaklodnjaaPFnShelvesx4
namespace Go.Proofs.Ytkfalbaklodnjaa.PFnShelves
open Go.RowKit Go.Proofs.YtkfalbaklodnjaaW.PrintWords Go.Proofs.YtkfalbaklodnjaaW.PrintLast Go.Proofs.YtkfalbaklodnjaaW.PrintMore Go.Proofs.Ytkfalbaklodnjaa.Short
attribute [local go_sem] max2_int min2_int max_two min_two max_three min_three max_four min_four   -- for this text's walks alone
set_option linter.unusedVariables false
set_option linter.unusedSimpArgs false

/-! ### spec_PutAway: function 121 -/
mutual
def spec_PutAway.j0 : Nat → List (S78) → Int → Bool → Int → Int → Int → Int → Int → Option ((List (S78)) × Bool)
 | 0, _, _, _, _, _, _, _, _ => none
 | k + 1, x6, x7, x34, x146000, x146001, x146002, x146003, x146004 => if x34 = true then (some (x6, false)) else (spec_PutAway.l0 k x6 x7 0 x146000 x146001 x146002 x146003 x146004)
def spec_PutAway.l0 : Nat → List (S78) → Int → Int → Int → Int → Int → Int → Int → Option ((List (S78)) × Bool)
 | 0, _, _, _, _, _, _, _, _ => none
 | k + 1, x6, x7, x8, x146000, x146001, x146002, x146003, x146004 => if x8 < (x6.length : Int) then (if 0 ≤ x8 then (if ((rd_T78 x6 x8).f0) = x7 then (spec_PutAway.l0 k (x6.set (x8 : Int).toNat (⟨(rd_T78 x6 x8).f0, (rd_T78 x6 x8).f1, x146000⟩ : S78)) x7 (wrap64 (x8 + 1)) x146000 x146001 x146002 x146003 x146004) else (spec_PutAway.l0 k x6 x7 (wrap64 (x8 + 1)) x146000 x146001 x146002 x146003 x146004)) else (none)) else (some (x6, true))
end
def spec_PutAway.f (k : Nat) (l0 : List (S78)) (a1_0 : Int) (a1_1 : Int) (a1_2 : Int) (a1_3 : Int) (a1_4 : Int) : Option ((List (S78)) × Bool) := (some (([] : List (S78)) : List (S78))).bind fun y146 => (if y146.length + l0.length < 5864062014805 then ((some (y146 ++ l0 : List (S78))).bind fun y149 => ((spec_SmallestFree.f k l0 a1_3).bind fun t152 => ((spec_AreSlots.f k l0).bind fun t153 => (if t153 = true then ((spec_IsThing.f a1_0 a1_1 a1_2 a1_3 a1_4).bind fun t154 => (if t154 = true then (if t152 = 0 then (spec_PutAway.j0 k y149 t152 true a1_0 a1_1 a1_2 a1_3 a1_4) else ((spec_SlotOf.f k l0 a1_0).bind fun t155 => (spec_PutAway.j0 k y149 t152 (t155 != 0) a1_0 a1_1 a1_2 a1_3 a1_4))) else (spec_PutAway.j0 k y149 t152 true a1_0 a1_1 a1_2 a1_3 a1_4))) else (spec_PutAway.j0 k y149 t152 true a1_0 a1_1 a1_2 a1_3 a1_4))))) else (none))
theorem spec_PutAway.mono_l : ∀ k, (∀ y0 y1 y2 y3 y4 y5 y6 y7, LeO (spec_PutAway.j0 k y0 y1 y2 y3 y4 y5 y6 y7) (spec_PutAway.j0 (k + 1) y0 y1 y2 y3 y4 y5 y6 y7)) ∧ (∀ y0 y1 y2 y3 y4 y5 y6 y7, LeO (spec_PutAway.l0 k y0 y1 y2 y3 y4 y5 y6 y7) (spec_PutAway.l0 (k + 1) y0 y1 y2 y3 y4 y5 y6 y7))
 | 0 => ⟨fun _ _ _ _ _ _ _ _ r h => by simp [spec_PutAway.j0] at h, fun _ _ _ _ _ _ _ _ r h => by simp [spec_PutAway.l0] at h⟩
 | k + 1 => by
  obtain ⟨ih0, ih1⟩ := spec_PutAway.mono_l k
  refine ⟨?_, ?_⟩
  ·intro y0 y1 y2 y3 y4 y5 y6 y7
   unfold spec_PutAway.j0
   repeat' first
   | (with_reducible exact ih0 _ _ _ _ _ _ _ _)
   | (with_reducible exact ih1 _ _ _ _ _ _ _ _)
   | (with_reducible exact spec_AreSlots.mono _ _)
   | (with_reducible exact spec_SlotOf.mono _ _ _)
   | (with_reducible exact spec_SmallestFree.mono _ _ _)
   | (with_reducible exact LeO.refl _)
   | (with_reducible exact LeO.none _)
   | (with_reducible refine LeO.ite ?_ ?_)
   | (with_reducible refine LeO.bind ?_ (fun _ => ?_))
   | exact ih0 _ _ _ _ _ _ _ _
   | exact ih1 _ _ _ _ _ _ _ _
   | exact spec_AreSlots.mono _ _
   | exact spec_SlotOf.mono _ _ _
   | exact spec_SmallestFree.mono _ _ _
   | exact LeO.none _
   | refine LeO.ite ?_ ?_
   | refine LeO.bind ?_ (fun _ => ?_)
  ·intro y0 y1 y2 y3 y4 y5 y6 y7
   unfold spec_PutAway.l0
   repeat' first
   | (with_reducible exact ih0 _ _ _ _ _ _ _ _)
   | (with_reducible exact ih1 _ _ _ _ _ _ _ _)
   | (with_reducible exact spec_AreSlots.mono _ _)
   | (with_reducible exact spec_SlotOf.mono _ _ _)
   | (with_reducible exact spec_SmallestFree.mono _ _ _)
   | (with_reducible exact LeO.refl _)
   | (with_reducible exact LeO.none _)
   | (with_reducible refine LeO.ite ?_ ?_)
   | (with_reducible refine LeO.bind ?_ (fun _ => ?_))
   | exact ih0 _ _ _ _ _ _ _ _
   | exact ih1 _ _ _ _ _ _ _ _
   | exact spec_AreSlots.mono _ _
   | exact spec_SlotOf.mono _ _ _
   | exact spec_SmallestFree.mono _ _ _
   | exact LeO.none _
   | refine LeO.ite ?_ ?_
   | refine LeO.bind ?_ (fun _ => ?_)
theorem spec_PutAway.mono : ∀ a0 a1 a2 a3 a4 a5 k, LeO (spec_PutAway.f k a0 a1 a2 a3 a4 a5) (spec_PutAway.f (k + 1) a0 a1 a2 a3 a4 a5) := by
 intro a0 a1 a2 a3 a4 a5 k
 obtain ⟨ih0, ih1⟩ := spec_PutAway.mono_l k
 unfold spec_PutAway.f
 repeat' first
   | (with_reducible exact ih0 _ _ _ _ _ _ _ _)
   | (with_reducible exact ih1 _ _ _ _ _ _ _ _)
   | (with_reducible exact spec_AreSlots.mono _ _)
   | (with_reducible exact spec_SlotOf.mono _ _ _)
   | (with_reducible exact spec_SmallestFree.mono _ _ _)
   | (with_reducible exact LeO.refl _)
   | (with_reducible exact LeO.none _)
   | (with_reducible refine LeO.ite ?_ ?_)
   | (with_reducible refine LeO.bind ?_ (fun _ => ?_))
   | exact ih0 _ _ _ _ _ _ _ _
   | exact ih1 _ _ _ _ _ _ _ _
   | exact spec_AreSlots.mono _ _
   | exact spec_SlotOf.mono _ _ _
   | exact spec_SmallestFree.mono _ _ _
   | exact LeO.none _
   | refine LeO.ite ?_ ?_
   | refine LeO.bind ?_ (fun _ => ?_)
set_option maxHeartbeats 8000000 in
set_option maxRecDepth 100000 in
theorem spec_PutAway.calls (k : Nat) (A0 : Option Addr) (c0 : Nat) (l0 : List (S78)) (a1_0 : Int) (a1_1 : Int) (a1_2 : Int) (a1_3 : Int) (a1_4 : Int) (r1 : List (S78)) (r2 : Bool) (w : World) (hr0 : Kd.C k78 w A0 l0.length l0) (hc0 : l0.length ≤ c0) (h : spec_PutAway.f k l0 a1_0 a1_1 a1_2 a1_3 a1_4 = some (r1, r2)) :
  Calls Try.prog 121 #[.slice A0 l0.length c0, .agg #[.int .i64 a1_0, .int .i64 a1_1, .int .i64 a1_2, .int .i64 a1_3, .int .i64 a1_4]] w fun e w' => ∃ v0_ : Value, e = .returned (.tuple #[v0_, .bool r2]) ∧ Kd.R k78 78 w' w.heap.size (fun _ => True) v0_ r1 ∧ Below w.heap.size w w' := by
 have hu69 := Try.underlying69
 have HR0 := Aside0.mk hr0
 have HC0 := Aside0.mk hc0
 clear hr0 hc0
 have HB := Aside0.mk (Below.refl w.heap.size w)
 have H : ((some (([] : List (S78)) : List (S78))).bind fun y146 => (if y146.length + l0.length < 5864062014805 then ((some (y146 ++ l0 : List (S78))).bind fun y149 => ((spec_SmallestFree.f k l0 a1_3).bind fun t152 => ((spec_AreSlots.f k l0).bind fun t153 => (if t153 = true then ((spec_IsThing.f a1_0 a1_1 a1_2 a1_3 a1_4).bind fun t154 => (if t154 = true then (if t152 = 0 then (spec_PutAway.j0 k y149 t152 true a1_0 a1_1 a1_2 a1_3 a1_4) else ((spec_SlotOf.f k l0 a1_0).bind fun t155 => (spec_PutAway.j0 k y149 t152 (t155 != 0) a1_0 a1_1 a1_2 a1_3 a1_4))) else (spec_PutAway.j0 k y149 t152 true a1_0 a1_1 a1_2 a1_3 a1_4))) else (spec_PutAway.j0 k y149 t152 true a1_0 a1_1 a1_2 a1_3 a1_4))))) else (none))) = some (r1, r2) := h
 clear h
 obtain ⟨y146, hy146⟩ : ∃ y_ : List (S78), y_ = (([] : List (S78))) := ⟨_, rfl⟩
 replace H : (if y146.length + l0.length < 5864062014805 then ((some (y146 ++ l0 : List (S78))).bind fun y149 => ((spec_SmallestFree.f k l0 a1_3).bind fun t152 => ((spec_AreSlots.f k l0).bind fun t153 => (if t153 = true then ((spec_IsThing.f a1_0 a1_1 a1_2 a1_3 a1_4).bind fun t154 => (if t154 = true then (if t152 = 0 then (spec_PutAway.j0 k y149 t152 true a1_0 a1_1 a1_2 a1_3 a1_4) else ((spec_SlotOf.f k l0 a1_0).bind fun t155 => (spec_PutAway.j0 k y149 t152 (t155 != 0) a1_0 a1_1 a1_2 a1_3 a1_4))) else (spec_PutAway.j0 k y149 t152 true a1_0 a1_1 a1_2 a1_3 a1_4))) else (spec_PutAway.j0 k y149 t152 true a1_0 a1_1 a1_2 a1_3 a1_4))))) else (none)) = some (r1, r2) := by first | (rw [hy146]; with_reducible exact H) | (have H2_ := (Option.bind_some _ _).symm.trans H; rw [hy146]; with_reducible exact H2_) | (have H2_ := (Option.bind_some _ _).symm.trans H; with_reducible exact H2_) | with_reducible exact H | (rw [hy146]; exact H) | exact H
 have Ny146 := Aside0.mk hy146
 clear hy146
 by_cases c3 : y146.length + l0.length < 5864062014805
 ·rw [if_pos c3] at H
  have LMc3 := Aside0.mk c3
  clear c3
  obtain ⟨y149, hy149⟩ : ∃ y_ : List (S78), y_ = (y146 ++ l0) := ⟨_, rfl⟩
  replace H : ((spec_SmallestFree.f k l0 a1_3).bind fun t152 => ((spec_AreSlots.f k l0).bind fun t153 => (if t153 = true then ((spec_IsThing.f a1_0 a1_1 a1_2 a1_3 a1_4).bind fun t154 => (if t154 = true then (if t152 = 0 then (spec_PutAway.j0 k y149 t152 true a1_0 a1_1 a1_2 a1_3 a1_4) else ((spec_SlotOf.f k l0 a1_0).bind fun t155 => (spec_PutAway.j0 k y149 t152 (t155 != 0) a1_0 a1_1 a1_2 a1_3 a1_4))) else (spec_PutAway.j0 k y149 t152 true a1_0 a1_1 a1_2 a1_3 a1_4))) else (spec_PutAway.j0 k y149 t152 true a1_0 a1_1 a1_2 a1_3 a1_4)))) = some (r1, r2) := by first | (rw [hy149]; with_reducible exact H) | (have H2_ := (Option.bind_some _ _).symm.trans H; rw [hy149]; with_reducible exact H2_) | (have H2_ := (Option.bind_some _ _).symm.trans H; with_reducible exact H2_) | with_reducible exact H | (rw [hy149]; exact H) | exact H
  have Ny149 := Aside0.mk hy149
  clear hy149
  replace H := Option.bind_eq_some_iff.mp H
  obtain ⟨t152, A40, H⟩ := H
  replace H : ((spec_AreSlots.f k l0).bind fun t153 => (if t153 = true then ((spec_IsThing.f a1_0 a1_1 a1_2 a1_3 a1_4).bind fun t154 => (if t154 = true then (if t152 = 0 then (spec_PutAway.j0 k y149 t152 true a1_0 a1_1 a1_2 a1_3 a1_4) else ((spec_SlotOf.f k l0 a1_0).bind fun t155 => (spec_PutAway.j0 k y149 t152 (t155 != 0) a1_0 a1_1 a1_2 a1_3 a1_4))) else (spec_PutAway.j0 k y149 t152 true a1_0 a1_1 a1_2 a1_3 a1_4))) else (spec_PutAway.j0 k y149 t152 true a1_0 a1_1 a1_2 a1_3 a1_4))) = some (r1, r2) := H
  have A4 := Aside0.mk A40
  clear A40
  have HC5 := Aside0.mk H
  clear H
  go_enter Try.func121, Try.ntmps121
  go_upto_region 3 with (first | ((with_reducible refine gate_dst (N := 3) rfl ?_); refine box_event ?hg (N := 3) ?hd (cs := #[.int .i64 a1_0, .int .i64 a1_1, .int .i64 a1_2, .int .i64 a1_3, .int .i64 a1_4]) (t := 69) ?hr ?_; (case hd => rfl); (case hg => rfl); (case hr => first | (go_simp; done) | (go_simp; rfl)); intro gb145 hg w6 hbox hb; have n0_ := Aside0.mk (below_step (qB HB) hb); have n1_ := Aside0.mk (hbox); have n2_ := Aside0.mk ((by rw [hg]; exact (below_size (qB HB)) : w.heap.size ≤ gb145)); have n3_ := Aside0.mk ((by rw [hg]; exact (below_size (qB HB)) : w.heap.size ≤ gb145)); clear HB; have HB := n0_; have BK145 := n1_; have GW145 := n2_; have GE145 := n3_; clear n0_ n1_ n2_ n3_; clear hb hbox hg) | ((with_reducible refine gate_dst (N := 9) rfl ?_); refine Kd.R_lit k78 _ 78 ?hg (N := 9) ?hd (xs := ([] : List (S78))) (inner := []) (ok := fun _ => True) (okp := fun _ => True) ?hr ?hp (fun _ hk => hk) trivial (Below.refl _ _) (Nat.le_refl _) (by simp) ?_; (case hd => rfl); (case hg => rfl); (case hr => first | (go_simp; done) | (go_simp; rfl)); (case hp => exact (Reps.none _ _)); intro v147 w7 ho8 hb hg_ hnew_; clear hg_ hnew_; (first | rw [← Ny146.out] at ho8 | (simp only [Int.reduceToNat] at ho8; rw [← Ny146.out] at ho8)); have n0_ := Aside0.mk (Kd.R_lower ho8 (below_size (by repeat first | (with_reducible first | exact HB.out | apply bA | apply bN | apply bD | refine bS ?_ GE145.out) | exact HB.out))); have n1_ := Aside0.mk (blk_below (qK BK145) hb); have n2_ := Aside0.mk (below_step (by repeat first | (with_reducible first | exact HB.out | apply bA | apply bN | apply bD | refine bS ?_ GE145.out) | exact HB.out) hb); clear BK145; clear HB; have HO148 := n0_; have BK145 := n1_; have HB := n2_; clear n0_ n1_ n2_; clear hb ho8) | ((with_reducible refine gate_builtin (b := .append) (xs := #[.tmp 9, .tmp 10]) rfl ?_); at_builtin; refine Kd.R_append_rows k78 (w0 := w) w.heap.size rfl (.tmp 9) (.tmp 10) 54 78 (.agg #[(.int .i64 0), (.int .i64 0), (.int .i64 0)]) 24 rfl Try.underlying54 info78 rfl (by decide) (by omega) v147 y146 l0 _ _ _ (fun _ => True) (fun _ => False) rfl rfl ?aO ?aR (fun _ _ h => h) (fun _ h => h.elim) ?aF ?aB ?aS ?aL ?_; (case aR => exact qC (Kd.C_below HR0.out HB.out)); (case aB => exact (by repeat first | (with_reducible first | exact HB.out | apply bA | apply bN | apply bD | refine bS ?_ GE145.out) | exact HB.out)); (case aF => exact (fun _ _ => trivial)); (case aO => exact (qR HO148)); (case aS => exact (below_size (by repeat first | (with_reducible first | exact HB.out | apply bA | apply bN | apply bD | refine bS ?_ GE145.out) | exact HB.out))); (case aL => have := LMc3.out; omega); intro v150 w9 ho hb hg hat; rw [← Ny149.out] at ho; have n0_ := Aside0.mk (blk_grown (qK BK145) hg (Kd.R_ne HO148.out BK145.out (by decide))); have n1_ := Aside0.mk (hb); have n2_ := Aside0.mk (ho); clear BK145; clear HB; clear HO148; have BK145 := n0_; have HB := n1_; have HO151 := n2_; clear n0_ n1_ n2_; clear ho hb hg hat; have hcz10_0 : w9.cell? ⟨gb145, 0, none⟩ = some (.int .i64 a1_0) := cC BK145 0; have hcz10_1 : w9.cell? ⟨gb145, 1, none⟩ = some (.int .i64 a1_1) := cC BK145 1; have hcz10_2 : w9.cell? ⟨gb145, 2, none⟩ = some (.int .i64 a1_2) := cC BK145 2; have hcz10_3 : w9.cell? ⟨gb145, 3, none⟩ = some (.int .i64 a1_3) := cC BK145 3; have hcz10_4 : w9.cell? ⟨gb145, 4, none⟩ = some (.int .i64 a1_4) := cC BK145 4; have hfz10_0 := blk_frozen BK145.out 0; have hfz10_1 := blk_frozen BK145.out 1; have hfz10_2 := blk_frozen BK145.out 2; have hfz10_3 := blk_frozen BK145.out 3; have hfz10_4 := blk_frozen BK145.out 4) | ((with_reducible refine gate_callee (f := 182) rfl ?_); refine goesL_ (some 15) rfl rfl Try.func182 (by kernel_rfl) rfl #[.slice A0 l0.length c0, .int .i64 a1_3] rfl (by (try simp only [mA, mC, mN]); first | done | rfl | (simp only [lD, lT]; rfl)) ?_; (with_reducible refine (spec_SmallestFree.calls k _ _ l0 a1_3 t152 _ ?side1 ?side2 A4.out).mono ?_); (case side1 => exact qC (Kd.C_below HR0.out HB.out)); (case side2 => exact HC0.out); rintro e w' ⟨rfl, ⟨nd, rfl⟩⟩; refine ⟨_, rfl, ?_⟩))
  (try simp only [Act.put, sA, sZ, sS])
  go_cut [34] (fun v34 wc => ∃ (kq : Nat) (x34_4 : Bool), v34 = .bool x34_4 ∧ Aside0 (spec_PutAway.j0 kq y149 t152 x34_4 a1_0 a1_1 a1_2 a1_3 a1_4 = some (r1, r2)) ∧ Aside0 (kq ≤ k) ∧ Aside0 (Kd.R k78 78 wc w.heap.size (fun _ => True) v150 y149) ∧ Aside0 (wc.heap[gb145]? = some (.cells #[.int .i64 a1_0, .int .i64 a1_1, .int .i64 a1_2, .int .i64 a1_3, .int .i64 a1_4] 69 (0, 0))) ∧ Aside0 (Below w.heap.size w wc))
  case first =>
   have H := HC5.out
   clear HC5
   replace H := Option.bind_eq_some_iff.mp H
   obtain ⟨t153, A110, H⟩ := H
   replace H : (if t153 = true then ((spec_IsThing.f a1_0 a1_1 a1_2 a1_3 a1_4).bind fun t154 => (if t154 = true then (if t152 = 0 then (spec_PutAway.j0 k y149 t152 true a1_0 a1_1 a1_2 a1_3 a1_4) else ((spec_SlotOf.f k l0 a1_0).bind fun t155 => (spec_PutAway.j0 k y149 t152 (t155 != 0) a1_0 a1_1 a1_2 a1_3 a1_4))) else (spec_PutAway.j0 k y149 t152 true a1_0 a1_1 a1_2 a1_3 a1_4))) else (spec_PutAway.j0 k y149 t152 true a1_0 a1_1 a1_2 a1_3 a1_4)) = some (r1, r2) := H
   have A11 := Aside0.mk A110
   clear A110
   by_cases c12 : t153 = true
   ·subst c12
    have H1 : ((spec_IsThing.f a1_0 a1_1 a1_2 a1_3 a1_4).bind fun t154 => (if t154 = true then (if t152 = 0 then (spec_PutAway.j0 k y149 t152 true a1_0 a1_1 a1_2 a1_3 a1_4) else ((spec_SlotOf.f k l0 a1_0).bind fun t155 => (spec_PutAway.j0 k y149 t152 (t155 != 0) a1_0 a1_1 a1_2 a1_3 a1_4))) else (spec_PutAway.j0 k y149 t152 true a1_0 a1_1 a1_2 a1_3 a1_4))) = some (r1, r2) := by rw [if_pos rfl] at H; exact H
    clear H
    have H := H1
    clear H1
    replace H := Option.bind_eq_some_iff.mp H
    obtain ⟨t154, A130, H⟩ := H
    replace H : (if t154 = true then (if t152 = 0 then (spec_PutAway.j0 k y149 t152 true a1_0 a1_1 a1_2 a1_3 a1_4) else ((spec_SlotOf.f k l0 a1_0).bind fun t155 => (spec_PutAway.j0 k y149 t152 (t155 != 0) a1_0 a1_1 a1_2 a1_3 a1_4))) else (spec_PutAway.j0 k y149 t152 true a1_0 a1_1 a1_2 a1_3 a1_4)) = some (r1, r2) := H
    have A13 := Aside0.mk A130
    clear A130
    by_cases c14 : t154 = true
    ·subst c14
     have H1 : (if t152 = 0 then (spec_PutAway.j0 k y149 t152 true a1_0 a1_1 a1_2 a1_3 a1_4) else ((spec_SlotOf.f k l0 a1_0).bind fun t155 => (spec_PutAway.j0 k y149 t152 (t155 != 0) a1_0 a1_1 a1_2 a1_3 a1_4))) = some (r1, r2) := by rw [if_pos rfl] at H; exact H
     clear H
     have H := H1
     clear H1
     by_cases c15 : t152 = 0
     ·rw [if_pos c15] at H
      have c15b0 : (t152 == 0) = true := beq_iff_eq.mpr c15
      have c15b1 : (t152 != 0) = false := bne_eq_false_iff_eq.mpr c15
      clear c15
      (first | rw [c15b0] | (simp only [i64_w, i32_w]; rw [c15b0]) | skip)
      have H' := Aside0.mk H
      clear H
      go_wp2_with (first | ((with_reducible refine gate_callee (f := 119) rfl ?_); refine goesL_ (some 17) rfl rfl Try.func119 (by kernel_rfl) rfl #[.slice A0 l0.length c0] rfl (by (try simp only [mA, mC, mN]); first | done | rfl | (simp only [lD, lT]; rfl)) ?_; (with_reducible refine (spec_AreSlots.calls k _ _ l0 true _ ?side1 ?side2 A11.out).mono ?_); (case side1 => exact qC (Kd.C_below HR0.out HB.out)); (case side2 => exact HC0.out); rintro e w16 ⟨rfl, hb⟩; refine ⟨_, rfl, ?_⟩; have n0_ := Aside0.mk (Kd.R_below (qR HO151) hb); have n1_ := Aside0.mk (blk_below (qK BK145) hb); have n2_ := Aside0.mk (below_step (by repeat first | (with_reducible first | exact HB.out | apply bA | apply bN | apply bD | refine bS ?_ GE145.out) | exact HB.out) hb); clear HO151; clear BK145; clear HB; have HO151 := n0_; have BK145 := n1_; have HB := n2_; clear n0_ n1_ n2_; (try clear hb); (try clear hb2); (try clear hk); (try clear hi); have hcz17_0 : w16.cell? ⟨gb145, 0, none⟩ = some (.int .i64 a1_0) := cC BK145 0; have hcz17_1 : w16.cell? ⟨gb145, 1, none⟩ = some (.int .i64 a1_1) := cC BK145 1; have hcz17_2 : w16.cell? ⟨gb145, 2, none⟩ = some (.int .i64 a1_2) := cC BK145 2; have hcz17_3 : w16.cell? ⟨gb145, 3, none⟩ = some (.int .i64 a1_3) := cC BK145 3; have hcz17_4 : w16.cell? ⟨gb145, 4, none⟩ = some (.int .i64 a1_4) := cC BK145 4; have hfz17_0 := blk_frozen BK145.out 0; have hfz17_1 := blk_frozen BK145.out 1; have hfz17_2 := blk_frozen BK145.out 2; have hfz17_3 := blk_frozen BK145.out 3; have hfz17_4 := blk_frozen BK145.out 4) | (go_at_call 181; (with_reducible refine (spec_IsThing.calls a1_0 a1_1 a1_2 a1_3 a1_4 true _ A13.out).mono ?_); rintro e w18 ⟨rfl, hb⟩; have n0_ := Aside0.mk (Kd.R_below (qR HO151) hb); have n1_ := Aside0.mk (blk_below (qK BK145) hb); have n2_ := Aside0.mk (below_step (by repeat first | (with_reducible first | exact HB.out | apply bA | apply bN | apply bD | refine bS ?_ GE145.out) | exact HB.out) hb); clear HO151; clear BK145; clear HB; have HO151 := n0_; have BK145 := n1_; have HB := n2_; clear n0_ n1_ n2_; (try clear hb); (try clear hb2); (try clear hk); (try clear hi)))
      go_meet
      case rel => exact ⟨_, (true), (by first | rfl | (simp; done) | (simp [*]; done)), H', ⟨by first | omega | exact Nat.le_refl _⟩, ⟨by (with_reducible repeat first | apply rA | apply rN | apply rD); exact HO151.out⟩, ⟨by (with_reducible repeat first | refine kN ?_ _ | refine kD ?_ | refine kA ?_ _); exact BK145.out⟩, ⟨by repeat (first | (with_reducible first | exact HB.out | apply bA | apply bN | apply bD | refine bS ?_ GE145.out) | exact HB.out)⟩⟩
     ·rw [if_neg c15] at H
      have c15b0 : (t152 == 0) = false := beq_eq_false_iff_ne.mpr c15
      have c15b1 : (t152 != 0) = true := bne_iff_ne.mpr c15
      (first | rw [c15b0] | (simp only [i64_w, i32_w]; rw [c15b0]) | skip)
      replace H := Option.bind_eq_some_iff.mp H
      obtain ⟨t155, A190, H⟩ := H
      replace H : (spec_PutAway.j0 k y149 t152 (t155 != 0) a1_0 a1_1 a1_2 a1_3 a1_4) = some (r1, r2) := H
      have A19 := Aside0.mk A190
      clear A190
      have H' := Aside0.mk H
      clear H
      go_wp2_with (first | ((with_reducible refine gate_callee (f := 119) rfl ?_); refine goesL_ (some 17) rfl rfl Try.func119 (by kernel_rfl) rfl #[.slice A0 l0.length c0] rfl (by (try simp only [mA, mC, mN]); first | done | rfl | (simp only [lD, lT]; rfl)) ?_; (with_reducible refine (spec_AreSlots.calls k _ _ l0 true _ ?side1 ?side2 A11.out).mono ?_); (case side1 => exact qC (Kd.C_below HR0.out HB.out)); (case side2 => exact HC0.out); rintro e w20 ⟨rfl, hb⟩; refine ⟨_, rfl, ?_⟩; have n0_ := Aside0.mk (Kd.R_below (qR HO151) hb); have n1_ := Aside0.mk (blk_below (qK BK145) hb); have n2_ := Aside0.mk (below_step (by repeat first | (with_reducible first | exact HB.out | apply bA | apply bN | apply bD | refine bS ?_ GE145.out) | exact HB.out) hb); clear HO151; clear BK145; clear HB; have HO151 := n0_; have BK145 := n1_; have HB := n2_; clear n0_ n1_ n2_; (try clear hb); (try clear hb2); (try clear hk); (try clear hi); have hcz21_0 : w20.cell? ⟨gb145, 0, none⟩ = some (.int .i64 a1_0) := cC BK145 0; have hcz21_1 : w20.cell? ⟨gb145, 1, none⟩ = some (.int .i64 a1_1) := cC BK145 1; have hcz21_2 : w20.cell? ⟨gb145, 2, none⟩ = some (.int .i64 a1_2) := cC BK145 2; have hcz21_3 : w20.cell? ⟨gb145, 3, none⟩ = some (.int .i64 a1_3) := cC BK145 3; have hcz21_4 : w20.cell? ⟨gb145, 4, none⟩ = some (.int .i64 a1_4) := cC BK145 4; have hfz21_0 := blk_frozen BK145.out 0; have hfz21_1 := blk_frozen BK145.out 1; have hfz21_2 := blk_frozen BK145.out 2; have hfz21_3 := blk_frozen BK145.out 3; have hfz21_4 := blk_frozen BK145.out 4) | (go_at_call 181; (with_reducible refine (spec_IsThing.calls a1_0 a1_1 a1_2 a1_3 a1_4 true _ A13.out).mono ?_); rintro e w22 ⟨rfl, hb⟩; have n0_ := Aside0.mk (Kd.R_below (qR HO151) hb); have n1_ := Aside0.mk (blk_below (qK BK145) hb); have n2_ := Aside0.mk (below_step (by repeat first | (with_reducible first | exact HB.out | apply bA | apply bN | apply bD | refine bS ?_ GE145.out) | exact HB.out) hb); clear HO151; clear BK145; clear HB; have HO151 := n0_; have BK145 := n1_; have HB := n2_; clear n0_ n1_ n2_; (try clear hb); (try clear hb2); (try clear hk); (try clear hi); have hcz23_0 : w22.cell? ⟨gb145, 0, none⟩ = some (.int .i64 a1_0) := cC BK145 0; have hcz23_1 : w22.cell? ⟨gb145, 1, none⟩ = some (.int .i64 a1_1) := cC BK145 1; have hcz23_2 : w22.cell? ⟨gb145, 2, none⟩ = some (.int .i64 a1_2) := cC BK145 2; have hcz23_3 : w22.cell? ⟨gb145, 3, none⟩ = some (.int .i64 a1_3) := cC BK145 3; have hcz23_4 : w22.cell? ⟨gb145, 4, none⟩ = some (.int .i64 a1_4) := cC BK145 4; have hfz23_0 := blk_frozen BK145.out 0; have hfz23_1 := blk_frozen BK145.out 1; have hfz23_2 := blk_frozen BK145.out 2; have hfz23_3 := blk_frozen BK145.out 3; have hfz23_4 := blk_frozen BK145.out 4) | (go_at_call 131; (with_reducible refine (spec_SlotOf.calls k _ _ l0 a1_0 t155 _ ?side1 ?side2 A19.out).mono ?_); (case side1 => exact qC (Kd.C_below HR0.out HB.out)); (case side2 => exact HC0.out); rintro e w' ⟨rfl, ⟨nd, rfl⟩⟩))
      go_meet
      case rel => exact ⟨_, ((t155 != 0)), (by first | rfl | (simp; done) | (simp [*]; done)), H', ⟨by first | omega | exact Nat.le_refl _⟩, ⟨by (with_reducible repeat first | apply rA | apply rN | apply rD); exact HO151.out⟩, ⟨by (with_reducible repeat first | refine kN ?_ _ | refine kD ?_ | refine kA ?_ _); exact BK145.out⟩, ⟨by repeat (first | (with_reducible first | exact HB.out | apply bA | apply bN | apply bD | refine bS ?_ GE145.out) | exact HB.out)⟩⟩
    ·replace c14 := Bool.eq_false_iff.mpr c14
     subst c14
     have H1 : (spec_PutAway.j0 k y149 t152 true a1_0 a1_1 a1_2 a1_3 a1_4) = some (r1, r2) := by rw [if_neg (show ¬ (false = true) by decide)] at H; exact H
     clear H
     have H := H1
     clear H1
     have H' := Aside0.mk H
     clear H
     go_wp2_with (first | ((with_reducible refine gate_callee (f := 119) rfl ?_); refine goesL_ (some 17) rfl rfl Try.func119 (by kernel_rfl) rfl #[.slice A0 l0.length c0] rfl (by (try simp only [mA, mC, mN]); first | done | rfl | (simp only [lD, lT]; rfl)) ?_; (with_reducible refine (spec_AreSlots.calls k _ _ l0 true _ ?side1 ?side2 A11.out).mono ?_); (case side1 => exact qC (Kd.C_below HR0.out HB.out)); (case side2 => exact HC0.out); rintro e w24 ⟨rfl, hb⟩; refine ⟨_, rfl, ?_⟩; have n0_ := Aside0.mk (Kd.R_below (qR HO151) hb); have n1_ := Aside0.mk (blk_below (qK BK145) hb); have n2_ := Aside0.mk (below_step (by repeat first | (with_reducible first | exact HB.out | apply bA | apply bN | apply bD | refine bS ?_ GE145.out) | exact HB.out) hb); clear HO151; clear BK145; clear HB; have HO151 := n0_; have BK145 := n1_; have HB := n2_; clear n0_ n1_ n2_; (try clear hb); (try clear hb2); (try clear hk); (try clear hi); have hcz25_0 : w24.cell? ⟨gb145, 0, none⟩ = some (.int .i64 a1_0) := cC BK145 0; have hcz25_1 : w24.cell? ⟨gb145, 1, none⟩ = some (.int .i64 a1_1) := cC BK145 1; have hcz25_2 : w24.cell? ⟨gb145, 2, none⟩ = some (.int .i64 a1_2) := cC BK145 2; have hcz25_3 : w24.cell? ⟨gb145, 3, none⟩ = some (.int .i64 a1_3) := cC BK145 3; have hcz25_4 : w24.cell? ⟨gb145, 4, none⟩ = some (.int .i64 a1_4) := cC BK145 4; have hfz25_0 := blk_frozen BK145.out 0; have hfz25_1 := blk_frozen BK145.out 1; have hfz25_2 := blk_frozen BK145.out 2; have hfz25_3 := blk_frozen BK145.out 3; have hfz25_4 := blk_frozen BK145.out 4) | (go_at_call 181; (with_reducible refine (spec_IsThing.calls a1_0 a1_1 a1_2 a1_3 a1_4 false _ A13.out).mono ?_); rintro e w26 ⟨rfl, hb⟩; have n0_ := Aside0.mk (Kd.R_below (qR HO151) hb); have n1_ := Aside0.mk (blk_below (qK BK145) hb); have n2_ := Aside0.mk (below_step (by repeat first | (with_reducible first | exact HB.out | apply bA | apply bN | apply bD | refine bS ?_ GE145.out) | exact HB.out) hb); clear HO151; clear BK145; clear HB; have HO151 := n0_; have BK145 := n1_; have HB := n2_; clear n0_ n1_ n2_; (try clear hb); (try clear hb2); (try clear hk); (try clear hi)))
     go_meet
     case rel => exact ⟨_, (true), (by first | rfl | (simp; done) | (simp [*]; done)), H', ⟨by first | omega | exact Nat.le_refl _⟩, ⟨by (with_reducible repeat first | apply rA | apply rN | apply rD); exact HO151.out⟩, ⟨by (with_reducible repeat first | refine kN ?_ _ | refine kD ?_ | refine kA ?_ _); exact BK145.out⟩, ⟨by repeat (first | (with_reducible first | exact HB.out | apply bA | apply bN | apply bD | refine bS ?_ GE145.out) | exact HB.out)⟩⟩
   ·replace c12 := Bool.eq_false_iff.mpr c12
    subst c12
    have H1 : (spec_PutAway.j0 k y149 t152 true a1_0 a1_1 a1_2 a1_3 a1_4) = some (r1, r2) := by rw [if_neg (show ¬ (false = true) by decide)] at H; exact H
    clear H
    have H := H1
    clear H1
    have H' := Aside0.mk H
    clear H
    go_wp2_with (first | ((with_reducible refine gate_callee (f := 119) rfl ?_); refine goesL_ (some 17) rfl rfl Try.func119 (by kernel_rfl) rfl #[.slice A0 l0.length c0] rfl (by (try simp only [mA, mC, mN]); first | done | rfl | (simp only [lD, lT]; rfl)) ?_; (with_reducible refine (spec_AreSlots.calls k _ _ l0 false _ ?side1 ?side2 A11.out).mono ?_); (case side1 => exact qC (Kd.C_below HR0.out HB.out)); (case side2 => exact HC0.out); rintro e w27 ⟨rfl, hb⟩; refine ⟨_, rfl, ?_⟩; have n0_ := Aside0.mk (Kd.R_below (qR HO151) hb); have n1_ := Aside0.mk (blk_below (qK BK145) hb); have n2_ := Aside0.mk (below_step (by repeat first | (with_reducible first | exact HB.out | apply bA | apply bN | apply bD | refine bS ?_ GE145.out) | exact HB.out) hb); clear HO151; clear BK145; clear HB; have HO151 := n0_; have BK145 := n1_; have HB := n2_; clear n0_ n1_ n2_; (try clear hb); (try clear hb2); (try clear hk); (try clear hi)))
    go_meet
    case rel => exact ⟨_, (true), (by first | rfl | (simp; done) | (simp [*]; done)), H', ⟨by first | omega | exact Nat.le_refl _⟩, ⟨by (with_reducible repeat first | apply rA | apply rN | apply rD); exact HO151.out⟩, ⟨by (with_reducible repeat first | refine kN ?_ _ | refine kD ?_ | refine kA ?_ _); exact BK145.out⟩, ⟨by repeat (first | (with_reducible first | exact HB.out | apply bA | apply bN | apply bD | refine bS ?_ GE145.out) | exact HB.out)⟩⟩
  case rest =>
   clear HC5
   try clear c1
   try clear p2
   try clear c3
   try clear c11
   try clear c12
   try clear c14
   try clear c15
   try clear c15b0
   try clear c15b1
   try clear c18
   try clear hcz10_0
   try clear hcz10_1
   try clear hcz10_2
   try clear hcz10_3
   try clear hcz10_4
   try clear hcz17_0
   try clear hcz17_1
   try clear hcz17_2
   try clear hcz17_3
   try clear hcz17_4
   try clear hcz21_0
   try clear hcz21_1
   try clear hcz21_2
   try clear hcz21_3
   try clear hcz21_4
   try clear hcz23_0
   try clear hcz23_1
   try clear hcz23_2
   try clear hcz23_3
   try clear hcz23_4
   try clear hcz25_0
   try clear hcz25_1
   try clear hcz25_2
   try clear hcz25_3
   try clear hcz25_4
   try clear hfz10_0
   try clear hfz10_1
   try clear hfz10_2
   try clear hfz10_3
   try clear hfz10_4
   try clear hfz17_0
   try clear hfz17_1
   try clear hfz17_2
   try clear hfz17_3
   try clear hfz17_4
   try clear hfz21_0
   try clear hfz21_1
   try clear hfz21_2
   try clear hfz21_3
   try clear hfz21_4
   try clear hfz23_0
   try clear hfz23_1
   try clear hfz23_2
   try clear hfz23_3
   try clear hfz23_4
   try clear hfz25_0
   try clear hfz25_1
   try clear hfz25_2
   try clear hfz25_3
   try clear hfz25_4
   obtain ⟨kq, x34_4, rfl, HA, HJ4, HO_6, BK145, HB⟩ := hcut
   cases kq with
   | zero => exact absurd HA.out (by simp [spec_PutAway.j0])
   | succ kj4 =>
    have H := HA.out
    clear HA
    simp only [spec_PutAway.j0] at H
    by_cases c28 : x34_4 = true
    ·subst c28
     have H1 : (some (y149, false)) = some (r1, r2) := by rw [if_pos rfl] at H; exact H
     clear H
     have H := H1
     clear H1
     simp only [Option.some.injEq, Prod.mk.injEq] at H
     obtain ⟨rfl, rfl⟩ := H
     go_wp2
     go_ret2
     exact ⟨_, by first | rfl | (simp [errW_none, errW_some] <;> rfl) | (simp [*, errW_none, errW_some] <;> rfl), by (with_reducible repeat first | apply rA | apply rN | apply rD); exact HO_6.out, by repeat (first | (with_reducible first | exact HB.out | apply bA | apply bN | apply bD | refine bS ?_ GE145.out) | exact HB.out)⟩
    ·replace c28 := Bool.eq_false_iff.mpr c28
     subst c28
     have H1 : (spec_PutAway.l0 kj4 y149 t152 0 a1_0 a1_1 a1_2 a1_3 a1_4) = some (r1, r2) := by rw [if_neg (show ¬ (false = true) by decide)] at H; exact H
     clear H
     have H := H1
     clear H1
     have H' := Aside0.mk H
     clear H
     go_wp2
     go_loopg [8] kj4 (fun kq v8 w' => ∃ (x6_2 : List (S78)) (x8_2 : Int), v8 = .int .i64 x8_2 ∧ Aside0 (spec_PutAway.l0 kq x6_2 t152 x8_2 a1_0 a1_1 a1_2 a1_3 a1_4 = some (r1, r2)) ∧ Aside0 (kq ≤ kj4) ∧ Aside0 (Kd.R k78 78 w' w.heap.size (fun _ => True) v150 x6_2) ∧ Aside0 (w'.heap[gb145]? = some (.cells #[.int .i64 a1_0, .int .i64 a1_1, .int .i64 a1_2, .int .i64 a1_3, .int .i64 a1_4] 69 (0, 0))) ∧ Aside0 (Below w.heap.size w w'))
     case atStart => exact ⟨(y149), (0), (by first | rfl | (simp; done) | (simp [*]; done)), H', ⟨Nat.le_refl _⟩, ⟨by (with_reducible repeat first | apply rA | apply rN | apply rD); exact HO_6.out⟩, ⟨by (with_reducible repeat first | refine kN ?_ _ | refine kD ?_ | refine kA ?_ _); exact BK145.out⟩, ⟨by repeat (first | (with_reducible first | exact HB.out | apply bA | apply bN | apply bD | refine bS ?_ GE145.out) | exact HB.out)⟩⟩
     case round =>
      clear H'
      try clear c1
      try clear c2
      try clear p2
      try clear c3
      try clear c11
      try clear c12
      try clear c14
      try clear c15
      try clear c15b0
      try clear c15b1
      try clear c18
      try clear c28
      try clear hcz10_0
      try clear hcz10_1
      try clear hcz10_2
      try clear hcz10_3
      try clear hcz10_4
      try clear hcz17_0
      try clear hcz17_1
      try clear hcz17_2
      try clear hcz17_3
      try clear hcz17_4
      try clear hcz21_0
      try clear hcz21_1
      try clear hcz21_2
      try clear hcz21_3
      try clear hcz21_4
      try clear hcz23_0
      try clear hcz23_1
      try clear hcz23_2
      try clear hcz23_3
      try clear hcz23_4
      try clear hcz25_0
      try clear hcz25_1
      try clear hcz25_2
      try clear hcz25_3
      try clear hcz25_4
      try clear hfz10_0
      try clear hfz10_1
      try clear hfz10_2
      try clear hfz10_3
      try clear hfz10_4
      try clear hfz17_0
      try clear hfz17_1
      try clear hfz17_2
      try clear hfz17_3
      try clear hfz17_4
      try clear hfz21_0
      try clear hfz21_1
      try clear hfz21_2
      try clear hfz21_3
      try clear hfz21_4
      try clear hfz23_0
      try clear hfz23_1
      try clear hfz23_2
      try clear hfz23_3
      try clear hfz23_4
      try clear hfz25_0
      try clear hfz25_1
      try clear hfz25_2
      try clear hfz25_3
      try clear hfz25_4
      try clear p2
      obtain ⟨x6_2, x8_2, rfl, HA, HK2, HO_6, BK145, HB⟩ := hrel
      cases gk with
      | zero => exact absurd HA.out (by simp [spec_PutAway.l0])
      | succ k2 =>
       have H := HA.out
       clear HA
       simp only [spec_PutAway.l0] at H
       by_cases c29 : x8_2 < (x6_2.length : Int)
       ·rw [if_pos c29] at H
        have c29b0 : decide (x8_2 < (x6_2.length : Int)) = true := decide_eq_true c29
        clear c29
        by_cases c30 : 0 ≤ x8_2
        ·rw [if_pos c30] at H
         have c30b0 : decide (0 ≤ x8_2) = true := decide_eq_true c30
         clear c30
         by_cases c31 : ((rd_T78 x6_2 x8_2).f0) = t152
         ·rw [if_pos c31] at H
          have c31b0 : (((rd_T78 x6_2 x8_2).f0) == t152) = true := beq_iff_eq.mpr c31
          have c31b1 : (((rd_T78 x6_2 x8_2).f0) != t152) = false := bne_eq_false_iff_eq.mpr c31
          clear c31
          obtain ⟨y157, hy157⟩ : ∃ y_ : List (S78), y_ = (x6_2.set (x8_2 : Int).toNat (⟨(rd_T78 x6_2 x8_2).f0, (rd_T78 x6_2 x8_2).f1, a1_0⟩ : S78)) := ⟨_, rfl⟩
          replace H : (spec_PutAway.l0 k2 y157 t152 (wrap64 (x8_2 + 1)) a1_0 a1_1 a1_2 a1_3 a1_4) = some (r1, r2) := by first | (rw [hy157]; with_reducible exact H) | (have H2_ := (Option.bind_some _ _).symm.trans H; rw [hy157]; with_reducible exact H2_) | (have H2_ := (Option.bind_some _ _).symm.trans H; with_reducible exact H2_) | with_reducible exact H | (rw [hy157]; exact H) | exact H
          have Ny157 := Aside0.mk hy157
          clear hy157
          have H' := Aside0.mk H
          clear H
          obtain ⟨Ao33, co33, eo33⟩ := Kd.R_slice HO_6.out
          subst eo33
          have p156 : 0 ≤ (x8_2 : Int) := of_decide_eq_true ‹_›
          have q156 : x8_2 < (x6_2.length : Int) := of_decide_eq_true ‹_›
          obtain ⟨ad156, e156, hx156_0, hx156_1, hx156_2⟩ := at_T78 (Kd.R_reads' HO_6.out).2.2 x8_2 p156 q156
          cases e156
          replace p156 := eq_true p156
          replace q156 := eq_true q156
          have hcz34_0 : wr.cell? ⟨gb145, 0, none⟩ = some (.int .i64 a1_0) := cC BK145 0
          have hcz34_1 : wr.cell? ⟨gb145, 1, none⟩ = some (.int .i64 a1_1) := cC BK145 1
          have hcz34_2 : wr.cell? ⟨gb145, 2, none⟩ = some (.int .i64 a1_2) := cC BK145 2
          have hcz34_3 : wr.cell? ⟨gb145, 3, none⟩ = some (.int .i64 a1_3) := cC BK145 3
          have hcz34_4 : wr.cell? ⟨gb145, 4, none⟩ = some (.int .i64 a1_4) := cC BK145 4
          have hfz34_0 := blk_frozen BK145.out 0
          have hfz34_1 := blk_frozen BK145.out 1
          have hfz34_2 := blk_frozen BK145.out 2
          have hfz34_3 := blk_frozen BK145.out 3
          have hfz34_4 := blk_frozen BK145.out 4
          have p32 : 0 ≤ (x8_2 : Int) := of_decide_eq_true ‹_›
          have q32 : (x8_2 : Int) < ((x6_2.length : Int) : Int) := of_decide_eq_true ‹_›
          obtain ⟨go32, co32, eo32, gb32, gl32, cl32, HG32⟩ := Kd.R_form HO_6.out (by omega)
          (first | cases eo32 | (injection eo32 with ea_ en_ ec_; (first | subst ea_ | (injection ea_ with ea_; subst ea_)); subst ec_; clear en_))
          have GB32 := Aside0.mk gb32
          have GG32 := Aside0.mk HG32
          clear gb32 gl32 HG32
          (first | simp only [add_plain] at hx156_0 | skip)
          (first | simp only [add_plain] at hx156_1 | skip)
          (first | simp only [add_plain] at hx156_2 | skip)
          obtain ⟨ce32, hcl32, hM32, hcc32, hfr32⟩ := Kd.R_elem HO_6.out z78 (x8_2 : Int) p32 q32
          obtain rfl := k78_openM hM32
          have hx32_0 : wr.cell? ⟨go32, (x8_2 : Int).toNat * 3, none⟩ = some (.int .i64 ((rd_T78 x6_2 x8_2).f0)) := hcc32 0 _ rfl
          have hx32_1 : wr.cell? ⟨go32, (x8_2 : Int).toNat * 3 + 1, none⟩ = some (.int .i64 ((rd_T78 x6_2 x8_2).f1)) := hcc32 1 _ rfl
          have hx32_2 : wr.cell? ⟨go32, (x8_2 : Int).toNat * 3 + 2, none⟩ = some (.int .i64 ((rd_T78 x6_2 x8_2).f2)) := hcc32 2 _ rfl
          have hf32_0 : wr.frozen? ⟨go32, (x8_2 : Int).toNat * 3, none⟩ = false := hfr32 0
          have hf32_1 : wr.frozen? ⟨go32, (x8_2 : Int).toNat * 3 + 1, none⟩ = false := hfr32 1
          have hf32_2 : wr.frozen? ⟨go32, (x8_2 : Int).toNat * 3 + 2, none⟩ = false := hfr32 2
          clear hcl32 hcc32 hfr32 hM32
          replace p32 := eq_true p32
          replace q32 := eq_true q32
          have HX35 := Aside0.mk (show Kd.R k78 78 wr w.heap.size (fun _ => True) (.slice (some ⟨go32, 0, none⟩) x6_2.length co33) x6_2 from (qR HO_6))
          obtain ⟨ce35, hcl35, hM35, hcc35, hfr35⟩ := Kd.R_elem HX35.out z78 (x8_2 : Int) (of_decide_eq_true ‹_›) (by have h_ : (x8_2 : Int) < ((x6_2.length : Int) : Int) := of_decide_eq_true ‹_›; first | exact h_ | (have e_ := (Kd.R_reads' HO_6.out).1; omega) | simpa using h_)
          obtain rfl := k78_openM hM35
          have HP35 := Kd.R_seg HX35.out (x8_2 : Int) (of_decide_eq_true ‹_›) (by have h_ : (x8_2 : Int) < ((x6_2.length : Int) : Int) := of_decide_eq_true ‹_›; first | exact h_ | (have e_ := (Kd.R_reads' HO_6.out).1; omega) | simpa using h_) (seg := [.int .i64 a1_0]) (j := 2) hcl35 hcc35 (show 3 ≤ 3 from by decide) (x' := (⟨(rd_T78 x6_2 x8_2).f0, (rd_T78 x6_2 x8_2).f1, a1_0⟩ : S78)) (k78_mkM _ _ _ (⟨(rd_T78 x6_2 x8_2).f0, (rd_T78 x6_2 x8_2).f1, a1_0⟩ : S78) ) (fun _ hk => hk)
          have hx35_2 := hcc35 2 _ rfl
          (try simp only [show (k78).sz = 3 from rfl, Nat.mul_one, Nat.add_zero] at hx35_2)
          have hf35_2 := hfr35 2
          (try simp only [show (k78).sz = 3 from rfl, Nat.mul_one, Nat.add_zero] at hf35_2)
          clear hcl35 hcc35 hfr35 hM35
          go_wp2_with (first | ((with_reducible refine gate_store (t := 3) (p := 54) rfl ?_); refine store_event (t := 3) (p := 54) (v := ?vo_w36) (w1 := (wr.setCell ⟨go32, (x8_2 : Int).toNat * 3 + 2, none⟩ (.int .i64 a1_0))) ?hg ?ho ?hn ?hr ?_; (case ho => rfl); (case hg => rfl); (case hn => rfl); (case hr => first | (go_simp; done) | (go_simp; rfl)); intro w36 hw; have hg : wr.grownBy w36 (some go32) := (by rw [hw]; exact HP35.2); have hp_ : Kd.R k78 78 w36 w.heap.size (fun _ => True) (.slice (some ⟨go32, 0, none⟩) x6_2.length co33) y157 := (by rw [hw, Ny157.out]; exact HP35.1); clear HP35; have n0_ := Aside0.mk (hp_); have n1_ := Aside0.mk (blk_grown (qK BK145) hg (Kd.R_ne HO_6.out BK145.out (by decide))); have n2_ := Aside0.mk ((by rw [hw]; exact below_set (HB.out) GB32.out : Below w.heap.size w w36)); clear HO_6; clear BK145; clear HB; have HO_6 := n0_; have BK145 := n1_; have HB := n2_; clear n0_ n1_ n2_; clear hg hw hp_))
          go_roundg k2
          case measure => have := HJ4.out; have := HK2.out; omega
          case rel => exact ⟨(y157), (wrap64 (x8_2 + 1)), (by first | rfl | (simp; done) | (simp [*]; done)), H', ⟨by have := HJ4.out; have := HK2.out; omega⟩, ⟨by (with_reducible repeat first | apply rA | apply rN | apply rD); exact HO_6.out⟩, ⟨by (with_reducible repeat first | refine kN ?_ _ | refine kD ?_ | refine kA ?_ _); exact BK145.out⟩, ⟨by repeat (first | (with_reducible first | exact HB.out | apply bA | apply bN | apply bD | refine bS ?_ GE145.out) | exact HB.out)⟩⟩
         ·rw [if_neg c31] at H
          have c31b0 : (((rd_T78 x6_2 x8_2).f0) == t152) = false := beq_eq_false_iff_ne.mpr c31
          have c31b1 : (((rd_T78 x6_2 x8_2).f0) != t152) = true := bne_iff_ne.mpr c31
          have H' := Aside0.mk H
          clear H
          obtain ⟨Ao37, co37, eo37⟩ := Kd.R_slice HO_6.out
          subst eo37
          have p156 : 0 ≤ (x8_2 : Int) := of_decide_eq_true ‹_›
          have q156 : x8_2 < (x6_2.length : Int) := of_decide_eq_true ‹_›
          obtain ⟨ad156, e156, hx156_0, hx156_1, hx156_2⟩ := at_T78 (Kd.R_reads' HO_6.out).2.2 x8_2 p156 q156
          cases e156
          replace p156 := eq_true p156
          replace q156 := eq_true q156
          go_wp2
          go_roundg k2
          case measure => have := HJ4.out; have := HK2.out; omega
          case rel => exact ⟨(x6_2), (wrap64 (x8_2 + 1)), (by first | rfl | (simp; done) | (simp [*]; done)), H', ⟨by have := HJ4.out; have := HK2.out; omega⟩, ⟨by (with_reducible repeat first | apply rA | apply rN | apply rD); exact HO_6.out⟩, ⟨by (with_reducible repeat first | refine kN ?_ _ | refine kD ?_ | refine kA ?_ _); exact BK145.out⟩, ⟨by repeat (first | (with_reducible first | exact HB.out | apply bA | apply bN | apply bD | refine bS ?_ GE145.out) | exact HB.out)⟩⟩
        ·rw [if_neg c30] at H
         exact absurd H (by simp)
       ·rw [if_neg c29] at H
        have c29b0 : decide (x8_2 < (x6_2.length : Int)) = false := decide_eq_false c29
        clear c29
        simp only [Option.some.injEq, Prod.mk.injEq] at H
        obtain ⟨rfl, rfl⟩ := H
        obtain ⟨Ao38, co38, eo38⟩ := Kd.R_slice HO_6.out
        subst eo38
        go_wp2
        go_ret2
        exact ⟨_, by first | rfl | (simp [errW_none, errW_some] <;> rfl) | (simp [*, errW_none, errW_some] <;> rfl), by (with_reducible repeat first | apply rA | apply rN | apply rD); exact HO_6.out, by repeat (first | (with_reducible first | exact HB.out | apply bA | apply bN | apply bD | refine bS ?_ GE145.out) | exact HB.out)⟩
 ·rw [if_neg c3] at H
  exact absurd H (by simp)

/-! ### spec_l4Draw: function 187 -/
def spec_l4Draw.f (s0_0 : List Int) (s0_1 : Int) (s0_2 : Int) (a1 : Int) : Option (Int × Int × Int × Int × Int × Int × Int) := (spec_l1Below.f s0_0 s0_1 s0_2 8).bind fun bt159 => ((spec_l1Below.f s0_0 bt159.2.1 bt159.2.2 8).bind fun bt162 => ((spec_l1Below.f s0_0 bt162.2.1 bt162.2.2 20).bind fun bt165 => ((spec_l1Below.f s0_0 bt165.2.1 bt165.2.2 500).bind fun bt168 => (some (a1, wrap64 (1 + bt159.1), bt162.1, wrap64 (1 + bt165.1), wrap64 (10 * bt168.1), bt168.2.1, bt168.2.2)))))
set_option maxHeartbeats 8000000 in
set_option maxRecDepth 100000 in
theorem spec_l4Draw.calls (g : Nat) (s0_0 : List Int) (s0_1 : Int) (s0_2 : Int) (a1 : Int) (r1 : Int) (r2 : Int) (r3 : Int) (r4 : Int) (r5 : Int) (r6 : Int) (r7 : Int) (w0 w : World) (hI : IsS202 w0 w g s0_0 s0_1 s0_2) (hB : Below w0.heap.size w0 w) (h : spec_l4Draw.f s0_0 s0_1 s0_2 a1 = some (r1, r2, r3, r4, r5, r6, r7)) :
  Calls Try.prog 187 #[.pointer (some ⟨g, 0, none⟩), .int .i64 a1] w fun e w' => e = .returned (.agg #[.int .i64 r1, .int .i64 r2, .int .i64 r3, .int .i64 r4, .int .i64 r5]) ∧ IsS202 w0 w' g s0_0 r6 r7 ∧ Below w0.heap.size w0 w' ∧ KeepBut w w' g none := by
 have hu69 := Try.underlying69
 have HI0 := Aside0.mk hI
 have HK := Aside0.mk (KeepBut.refl w g none)
 have HL := Aside0.mk hB.size
 clear hI
 have HW0 := Aside0.mk hB.size
 have HB := Aside0.mk hB
 clear hB
 have H : ((spec_l1Below.f s0_0 s0_1 s0_2 8).bind fun bt159 => ((spec_l1Below.f s0_0 bt159.2.1 bt159.2.2 8).bind fun bt162 => ((spec_l1Below.f s0_0 bt162.2.1 bt162.2.2 20).bind fun bt165 => ((spec_l1Below.f s0_0 bt165.2.1 bt165.2.2 500).bind fun bt168 => (some (a1, wrap64 (1 + bt159.1), bt162.1, wrap64 (1 + bt165.1), wrap64 (10 * bt168.1), bt168.2.1, bt168.2.2)))))) = some (r1, r2, r3, r4, r5, r6, r7) := h
 clear h
 replace H := Option.bind_eq_some_iff.mp H
 obtain ⟨⟨t159, t160, t161⟩, A30, H⟩ := H
 replace H : ((spec_l1Below.f s0_0 t160 t161 8).bind fun bt162 => ((spec_l1Below.f s0_0 bt162.2.1 bt162.2.2 20).bind fun bt165 => ((spec_l1Below.f s0_0 bt165.2.1 bt165.2.2 500).bind fun bt168 => (some (a1, wrap64 (1 + t159), bt162.1, wrap64 (1 + bt165.1), wrap64 (10 * bt168.1), bt168.2.1, bt168.2.2))))) = some (r1, r2, r3, r4, r5, r6, r7) := H
 have A3 := Aside0.mk A30
 clear A30
 replace H := Option.bind_eq_some_iff.mp H
 obtain ⟨⟨t162, t163, t164⟩, A40, H⟩ := H
 replace H : ((spec_l1Below.f s0_0 t163 t164 20).bind fun bt165 => ((spec_l1Below.f s0_0 bt165.2.1 bt165.2.2 500).bind fun bt168 => (some (a1, wrap64 (1 + t159), t162, wrap64 (1 + bt165.1), wrap64 (10 * bt168.1), bt168.2.1, bt168.2.2)))) = some (r1, r2, r3, r4, r5, r6, r7) := H
 have A4 := Aside0.mk A40
 clear A40
 replace H := Option.bind_eq_some_iff.mp H
 obtain ⟨⟨t165, t166, t167⟩, A50, H⟩ := H
 replace H : ((spec_l1Below.f s0_0 t166 t167 500).bind fun bt168 => (some (a1, wrap64 (1 + t159), t162, wrap64 (1 + t165), wrap64 (10 * bt168.1), bt168.2.1, bt168.2.2))) = some (r1, r2, r3, r4, r5, r6, r7) := H
 have A5 := Aside0.mk A50
 clear A50
 replace H := Option.bind_eq_some_iff.mp H
 obtain ⟨⟨t168, t169, t170⟩, A60, H⟩ := H
 replace H : (some (a1, wrap64 (1 + t159), t162, wrap64 (1 + t165), wrap64 (10 * t168), t169, t170)) = some (r1, r2, r3, r4, r5, r6, r7) := H
 have A6 := Aside0.mk A60
 clear A60
 simp only [Option.some.injEq, Prod.mk.injEq] at H
 obtain ⟨rfl, rfl, rfl, rfl, rfl, rfl, rfl⟩ := H
 go_enter Try.func187, Try.ntmps187
 go_wp2_with (first | ((with_reducible refine gate_dst (N := 4) rfl ?_); refine box_event ?hg (N := 4) ?hd (cs := #[.int .i64 0, .int .i64 0, .int .i64 0, .int .i64 0, .int .i64 0]) (t := 69) ?hr ?_; (case hd => rfl); (case hg => rfl); (case hr => first | (go_simp; done) | (go_simp; rfl)); intro gb158 hg w7 hbox hb; have n0_ := Aside0.mk (IsS202.below (by repeat (first | (with_reducible first | exact HI0.out | apply IsS202.alloc | apply IsS202.drewN | apply IsS202.drew | apply IsS202.set_1 | apply IsS202.set_2) | exact HI0.out)) hb); have n1_ := Aside0.mk (KeepBut.trans (by repeat (first | (with_reducible first | exact HK.out | apply KeepBut.set_ | apply keep_drewN | apply keep_drew | apply keep_alloc) | exact HK.out)) (KeepBut.of_below hb g none) (.inl rfl)); have n2_ := Aside0.mk (below_step (by repeat (first | (with_reducible first | exact HB.out | apply bA | apply bN | apply bD | refine bS ?_ (IsS202.ge HI0.out)) | exact HB.out)) hb); have n3_ := Aside0.mk (hbox); have n4_ := Aside0.mk ((by rw [hg]; exact (keep_size (w := w) (g := g) (row := none) (by repeat (first | (with_reducible first | exact HK.out | apply KeepBut.set_ | apply keep_drewN | apply keep_drew | apply keep_alloc) | exact HK.out))) : w.heap.size ≤ gb158)); have n5_ := Aside0.mk ((Nat.le_trans HW0.out (by rw [hg]; exact (keep_size (w := w) (g := g) (row := none) (by repeat (first | (with_reducible first | exact HK.out | apply KeepBut.set_ | apply keep_drewN | apply keep_drew | apply keep_alloc) | exact HK.out))) : w.heap.size ≤ gb158) : w0.heap.size ≤ gb158)); have n6_ := Aside0.mk ((by rw [hg]; exact Nat.ne_of_lt (IsS202.lt (show IsS202 w0 _ g s0_0 s0_1 s0_2 from by repeat (first | (with_reducible first | exact HI0.out | apply IsS202.alloc | apply IsS202.drewN | apply IsS202.drew | apply IsS202.set_1 | apply IsS202.set_2) | exact HI0.out))) : g ≠ gb158)); have n7_ := Aside0.mk ((by rw [hg]; exact Nat.ne_of_gt (IsS202.lt (show IsS202 w0 _ g s0_0 s0_1 s0_2 from by repeat (first | (with_reducible first | exact HI0.out | apply IsS202.alloc | apply IsS202.drewN | apply IsS202.drew | apply IsS202.set_1 | apply IsS202.set_2) | exact HI0.out))) : gb158 ≠ g)); clear HI0; clear HK; clear HB; have HI0 := n0_; have HK := n1_; have HB := n2_; have BK158 := n3_; have GW158 := n4_; have GE158 := n5_; have NB0_158 := n6_; have NB158_0 := n7_; clear n0_ n1_ n2_ n3_ n4_ n5_ n6_ n7_; clear hb hbox hg) | ((with_reducible refine gate_callee (f := 173) rfl ?_); refine goesL_ (some 7) rfl rfl Try.func173 (by kernel_rfl) rfl #[.pointer (some ⟨g, 0, none⟩), .int .i64 8] rfl (by (try simp only [mA, mC, mN]); first | done | rfl | (simp only [lD, lT]; rfl)) ?_; (with_reducible refine (spec_l1Below.calls g s0_0 s0_1 s0_2 8 t159 t160 t161 w0 _ ?side1 ?side2 A3.out).mono ?_); (case side1 => repeat (first | (with_reducible first | exact HI0.out | apply IsS202.alloc | apply IsS202.drewN | apply IsS202.drew | apply IsS202.set_1 | apply IsS202.set_2 | refine IsS202.far ?_ NB0_158.out _) | exact HI0.out)); (case side2 => repeat (first | (with_reducible first | exact HB.out | apply bA | apply bN | apply bD | refine bS ?_ (IsS202.ge HI0.out) | refine bS ?_ GE158.out) | exact HB.out)); rintro e w8 ⟨rfl, hi, hb, hk⟩; refine ⟨_, rfl, ?_⟩; have n0_ := Aside0.mk (KeepBut.blk hk (g' := gb158) (o := .cells #[.int .i64 0, .int .i64 0, .int .i64 0, .int .i64 0, .int .i64 0] 69 (0, 0)) (qK BK158) NB158_0.out (by simp)); have n1_ := Aside0.mk (KeepBut.trans (by repeat (first | (with_reducible first | exact HK.out | apply KeepBut.set_ | apply keep_drewN | apply keep_drew | apply keep_alloc | refine keep_far ?_ GW158.out _) | exact HK.out)) hk (.inl rfl)); have n2_ := Aside0.mk (hb); have n3_ := Aside0.mk (hi); clear BK158; clear HK; clear HB; clear HI0; have BK158 := n0_; have HK := n1_; have HB := n2_; have HI0 := n3_; clear n0_ n1_ n2_ n3_; (try clear hb); (try clear hb2); (try clear hk); (try clear hi)) | ((with_reducible refine gate_callee (f := 173) rfl ?_); refine goesL_ (some 10) rfl rfl Try.func173 (by kernel_rfl) rfl #[.pointer (some ⟨g, 0, none⟩), .int .i64 8] rfl (by (try simp only [mA, mC, mN]); first | done | rfl | (simp only [lD, lT]; rfl)) ?_; (with_reducible refine (spec_l1Below.calls g s0_0 t160 t161 8 t162 t163 t164 w0 _ ?side1 ?side2 A4.out).mono ?_); (case side1 => repeat (first | (with_reducible first | exact HI0.out | apply IsS202.alloc | apply IsS202.drewN | apply IsS202.drew | apply IsS202.set_1 | apply IsS202.set_2 | refine IsS202.far ?_ NB0_158.out _) | exact HI0.out)); (case side2 => repeat (first | (with_reducible first | exact HB.out | apply bA | apply bN | apply bD | refine bS ?_ (IsS202.ge HI0.out) | refine bS ?_ GE158.out) | exact HB.out)); rintro e w9 ⟨rfl, hi, hb, hk⟩; refine ⟨_, rfl, ?_⟩; have n0_ := Aside0.mk (KeepBut.blk hk (g' := gb158) (o := .cells #[.int .i64 0, .int .i64 0, .int .i64 0, .int .i64 0, .int .i64 0] 69 (0, 0)) (qK BK158) NB158_0.out (by simp)); have n1_ := Aside0.mk (KeepBut.trans (by repeat (first | (with_reducible first | exact HK.out | apply KeepBut.set_ | apply keep_drewN | apply keep_drew | apply keep_alloc | refine keep_far ?_ GW158.out _) | exact HK.out)) hk (.inl rfl)); have n2_ := Aside0.mk (hb); have n3_ := Aside0.mk (hi); clear BK158; clear HK; clear HB; clear HI0; have BK158 := n0_; have HK := n1_; have HB := n2_; have HI0 := n3_; clear n0_ n1_ n2_ n3_; (try clear hb); (try clear hb2); (try clear hk); (try clear hi)) | ((with_reducible refine gate_callee (f := 173) rfl ?_); refine goesL_ (some 12) rfl rfl Try.func173 (by kernel_rfl) rfl #[.pointer (some ⟨g, 0, none⟩), .int .i64 20] rfl (by (try simp only [mA, mC, mN]); first | done | rfl | (simp only [lD, lT]; rfl)) ?_; (with_reducible refine (spec_l1Below.calls g s0_0 t163 t164 20 t165 t166 t167 w0 _ ?side1 ?side2 A5.out).mono ?_); (case side1 => repeat (first | (with_reducible first | exact HI0.out | apply IsS202.alloc | apply IsS202.drewN | apply IsS202.drew | apply IsS202.set_1 | apply IsS202.set_2 | refine IsS202.far ?_ NB0_158.out _) | exact HI0.out)); (case side2 => repeat (first | (with_reducible first | exact HB.out | apply bA | apply bN | apply bD | refine bS ?_ (IsS202.ge HI0.out) | refine bS ?_ GE158.out) | exact HB.out)); rintro e w10 ⟨rfl, hi, hb, hk⟩; refine ⟨_, rfl, ?_⟩; have n0_ := Aside0.mk (KeepBut.blk hk (g' := gb158) (o := .cells #[.int .i64 0, .int .i64 0, .int .i64 0, .int .i64 0, .int .i64 0] 69 (0, 0)) (qK BK158) NB158_0.out (by simp)); have n1_ := Aside0.mk (KeepBut.trans (by repeat (first | (with_reducible first | exact HK.out | apply KeepBut.set_ | apply keep_drewN | apply keep_drew | apply keep_alloc | refine keep_far ?_ GW158.out _) | exact HK.out)) hk (.inl rfl)); have n2_ := Aside0.mk (hb); have n3_ := Aside0.mk (hi); clear BK158; clear HK; clear HB; clear HI0; have BK158 := n0_; have HK := n1_; have HB := n2_; have HI0 := n3_; clear n0_ n1_ n2_ n3_; (try clear hb); (try clear hb2); (try clear hk); (try clear hi)) | ((with_reducible refine gate_callee (f := 173) rfl ?_); refine goesL_ (some 15) rfl rfl Try.func173 (by kernel_rfl) rfl #[.pointer (some ⟨g, 0, none⟩), .int .i64 500] rfl (by (try simp only [mA, mC, mN]); first | done | rfl | (simp only [lD, lT]; rfl)) ?_; (with_reducible refine (spec_l1Below.calls g s0_0 t166 t167 500 t168 t169 t170 w0 _ ?side1 ?side2 A6.out).mono ?_); (case side1 => repeat (first | (with_reducible first | exact HI0.out | apply IsS202.alloc | apply IsS202.drewN | apply IsS202.drew | apply IsS202.set_1 | apply IsS202.set_2 | refine IsS202.far ?_ NB0_158.out _) | exact HI0.out)); (case side2 => repeat (first | (with_reducible first | exact HB.out | apply bA | apply bN | apply bD | refine bS ?_ (IsS202.ge HI0.out) | refine bS ?_ GE158.out) | exact HB.out)); rintro e w11 ⟨rfl, hi, hb, hk⟩; refine ⟨_, rfl, ?_⟩; have n0_ := Aside0.mk (KeepBut.blk hk (g' := gb158) (o := .cells #[.int .i64 0, .int .i64 0, .int .i64 0, .int .i64 0, .int .i64 0] 69 (0, 0)) (qK BK158) NB158_0.out (by simp)); have n1_ := Aside0.mk (KeepBut.trans (by repeat (first | (with_reducible first | exact HK.out | apply KeepBut.set_ | apply keep_drewN | apply keep_drew | apply keep_alloc | refine keep_far ?_ GW158.out _) | exact HK.out)) hk (.inl rfl)); have n2_ := Aside0.mk (hb); have n3_ := Aside0.mk (hi); clear BK158; clear HK; clear HB; clear HI0; have BK158 := n0_; have HK := n1_; have HB := n2_; have HI0 := n3_; clear n0_ n1_ n2_ n3_; (try clear hb); (try clear hb2); (try clear hk); (try clear hi); have hnb12 := NB158_0.out; have hnc12 := NB0_158.out; have hcz13_0 : w11.cell? ⟨gb158, 0, none⟩ = some (.int .i64 0) := cC BK158 0; have hcz13_1 : w11.cell? ⟨gb158, 1, none⟩ = some (.int .i64 0) := cC BK158 1; have hcz13_2 : w11.cell? ⟨gb158, 2, none⟩ = some (.int .i64 0) := cC BK158 2; have hcz13_3 : w11.cell? ⟨gb158, 3, none⟩ = some (.int .i64 0) := cC BK158 3; have hcz13_4 : w11.cell? ⟨gb158, 4, none⟩ = some (.int .i64 0) := cC BK158 4; have hfz13_0 := blk_frozen BK158.out 0; have hfz13_1 := blk_frozen BK158.out 1; have hfz13_2 := blk_frozen BK158.out 2; have hfz13_3 := blk_frozen BK158.out 3; have hfz13_4 := blk_frozen BK158.out 4))
 refine bodyPost_ret (results_cell_row rfl _ _ gb158 69 #[.int .i64 a1, .int .i64 (wrap64 (1 + t159)), .int .i64 t162, .int .i64 (wrap64 (1 + t165)), .int .i64 (wrap64 (10 * t168))] (0, 0) _ rfl (by (with_reducible repeat first | refine kN ?_ _ | refine kD ?_ | refine kA ?_ _); refine blk_put (cs := #[.int .i64 a1, .int .i64 (wrap64 (1 + t159)), .int .i64 t162, .int .i64 (wrap64 (1 + t165)), .int .i64 0]) ?_ 4 _ rfl; (with_reducible repeat first | refine kN ?_ _ | refine kD ?_ | refine kA ?_ _); refine blk_put (cs := #[.int .i64 a1, .int .i64 (wrap64 (1 + t159)), .int .i64 t162, .int .i64 0, .int .i64 0]) ?_ 3 _ rfl; (with_reducible repeat first | refine kN ?_ _ | refine kD ?_ | refine kA ?_ _); refine blk_put (cs := #[.int .i64 a1, .int .i64 (wrap64 (1 + t159)), .int .i64 0, .int .i64 0, .int .i64 0]) ?_ 2 _ rfl; (with_reducible repeat first | refine kN ?_ _ | refine kD ?_ | refine kA ?_ _); refine blk_put (cs := #[.int .i64 a1, .int .i64 0, .int .i64 0, .int .i64 0, .int .i64 0]) ?_ 1 _ rfl; (with_reducible repeat first | refine kN ?_ _ | refine kD ?_ | refine kA ?_ _); refine blk_put (cs := #[.int .i64 0, .int .i64 0, .int .i64 0, .int .i64 0, .int .i64 0]) ?_ 0 _ rfl; (with_reducible repeat first | refine kN ?_ _ | refine kD ?_ | refine kA ?_ _); exact BK158.out) Try.underlying69 rfl (by kernel_rfl)) rfl ?_
 exact ⟨by first | rfl | (simp [errW_none, errW_some] <;> rfl) | (simp [*, errW_none, errW_some] <;> rfl), by repeat (first | (with_reducible first | exact HI0.out | apply IsS202.alloc | apply IsS202.drewN | apply IsS202.drew | apply IsS202.set_1 | apply IsS202.set_2 | refine IsS202.far ?_ NB0_158.out _) | exact HI0.out), by repeat (first | (with_reducible first | exact HB.out | apply bA | apply bN | apply bD | refine bS ?_ (IsS202.ge HI0.out) | refine bS ?_ GE158.out) | exact HB.out), by repeat (first | (with_reducible first | exact HK.out | apply KeepBut.set_ | apply keep_drewN | apply keep_drew | apply keep_alloc | refine keep_far ?_ GW158.out _) | exact HK.out)⟩

/-! ### spec_l14Draw: function 185 -/
mutual
def spec_l14Draw.l0 : Nat → List (S78) → Int → List Int → Int → Int → Option ((List (S78)) × Int × Int)
 | 0, _, _, _, _, _ => none
 | k + 1, x3, x4, x1000, x1001, x1002 => (spec_l1Below.f x1000 x1001 x1002 7).bind fun bt174 => (if x4 ≤ (wrap64 (2 + bt174.1)) then ((spec_l1Below.f x1000 bt174.2.1 bt174.2.2 6).bind fun bt177 => (if x3.length < 5864062014805 then (spec_l14Draw.l0 k (x3 ++ [(⟨x4, wrap64 (5 * (wrap64 (1 + bt177.1))), 0⟩ : S78)]) (wrap64 (x4 + 1)) x1000 bt177.2.1 bt177.2.2) else (none))) else ((spec_l1Below.f x1000 bt174.2.1 bt174.2.2 5).bind fun bt183 => (spec_l14Draw.l1 k x3 bt183.1 x1000 bt183.2.1 bt183.2.2)))
def spec_l14Draw.l1 : Nat → List (S78) → Int → List Int → Int → Int → Option ((List (S78)) × Int × Int)
 | 0, _, _, _, _, _ => none
 | k + 1, x3, x5, x1000, x1001, x1002 => if x5 > 0 then ((spec_l1Below.f x1000 x1001 x1002 20).bind fun bt186 => ((spec_l4Draw.f x1000 bt186.2.1 bt186.2.2 (wrap64 (1 + bt186.1))).bind fun bt189 => ((spec_PutAway.f k x3 bt189.1 bt189.2.1 bt189.2.2.1 bt189.2.2.2.1 bt189.2.2.2.2.1).bind fun bt196 => (spec_l14Draw.l1 k bt196.1 (wrap64 (x5 - 1)) x1000 bt189.2.2.2.2.2.1 bt189.2.2.2.2.2.2)))) else (some (x3, x1001, x1002))
end
def spec_l14Draw.f (k : Nat) (s0_0 : List Int) (s0_1 : Int) (s0_2 : Int) : Option ((List (S78)) × Int × Int) := spec_l14Draw.l0 k (([] : List (S78))) 1 s0_0 s0_1 s0_2
theorem spec_l14Draw.mono_l : ∀ k, (∀ y0 y1 y2 y3 y4, LeO (spec_l14Draw.l0 k y0 y1 y2 y3 y4) (spec_l14Draw.l0 (k + 1) y0 y1 y2 y3 y4)) ∧ (∀ y0 y1 y2 y3 y4, LeO (spec_l14Draw.l1 k y0 y1 y2 y3 y4) (spec_l14Draw.l1 (k + 1) y0 y1 y2 y3 y4))
 | 0 => ⟨fun _ _ _ _ _ r h => by simp [spec_l14Draw.l0] at h, fun _ _ _ _ _ r h => by simp [spec_l14Draw.l1] at h⟩
 | k + 1 => by
  obtain ⟨ih0, ih1⟩ := spec_l14Draw.mono_l k
  refine ⟨?_, ?_⟩
  ·intro y0 y1 y2 y3 y4
   unfold spec_l14Draw.l0
   repeat' first
   | (with_reducible exact ih0 _ _ _ _ _)
   | (with_reducible exact ih1 _ _ _ _ _)
   | (with_reducible exact spec_PutAway.mono _ _ _ _ _ _ _)
   | (with_reducible exact LeO.refl _)
   | (with_reducible exact LeO.none _)
   | (with_reducible refine LeO.ite ?_ ?_)
   | (with_reducible refine LeO.bind ?_ (fun _ => ?_))
   | exact ih0 _ _ _ _ _
   | exact ih1 _ _ _ _ _
   | exact spec_PutAway.mono _ _ _ _ _ _ _
   | exact LeO.none _
   | refine LeO.ite ?_ ?_
   | refine LeO.bind ?_ (fun _ => ?_)
  ·intro y0 y1 y2 y3 y4
   unfold spec_l14Draw.l1
   repeat' first
   | (with_reducible exact ih0 _ _ _ _ _)
   | (with_reducible exact ih1 _ _ _ _ _)
   | (with_reducible exact spec_PutAway.mono _ _ _ _ _ _ _)
   | (with_reducible exact LeO.refl _)
   | (with_reducible exact LeO.none _)
   | (with_reducible refine LeO.ite ?_ ?_)
   | (with_reducible refine LeO.bind ?_ (fun _ => ?_))
   | exact ih0 _ _ _ _ _
   | exact ih1 _ _ _ _ _
   | exact spec_PutAway.mono _ _ _ _ _ _ _
   | exact LeO.none _
   | refine LeO.ite ?_ ?_
   | refine LeO.bind ?_ (fun _ => ?_)
theorem spec_l14Draw.mono : ∀ a0 a1 a2 k, LeO (spec_l14Draw.f k a0 a1 a2) (spec_l14Draw.f (k + 1) a0 a1 a2) := by
 intro a0 a1 a2 k
 obtain ⟨ih0, ih1⟩ := spec_l14Draw.mono_l k
 unfold spec_l14Draw.f
 repeat' first
   | (with_reducible exact ih0 _ _ _ _ _)
   | (with_reducible exact ih1 _ _ _ _ _)
   | (with_reducible exact spec_PutAway.mono _ _ _ _ _ _ _)
   | (with_reducible exact LeO.refl _)
   | (with_reducible exact LeO.none _)
   | (with_reducible refine LeO.ite ?_ ?_)
   | (with_reducible refine LeO.bind ?_ (fun _ => ?_))
   | exact ih0 _ _ _ _ _
   | exact ih1 _ _ _ _ _
   | exact spec_PutAway.mono _ _ _ _ _ _ _
   | exact LeO.none _
   | refine LeO.ite ?_ ?_
   | refine LeO.bind ?_ (fun _ => ?_)
set_option maxHeartbeats 8000000 in
set_option maxRecDepth 100000 in
theorem spec_l14Draw.calls (k : Nat) (g : Nat) (s0_0 : List Int) (s0_1 : Int) (s0_2 : Int) (r1 : List (S78)) (r2 : Int) (r3 : Int) (w0 w : World) (hI : IsS202 w0 w g s0_0 s0_1 s0_2) (hB : Below w0.heap.size w0 w) (h : spec_l14Draw.f k s0_0 s0_1 s0_2 = some (r1, r2, r3)) :
  Calls Try.prog 185 #[.pointer (some ⟨g, 0, none⟩)] w fun e w' => ∃ v0_ : Value, e = .returned (v0_) ∧ Kd.R k78 78 w' w.heap.size (fun _ => True) v0_ r1 ∧ IsS202 w0 w' g s0_0 r2 r3 ∧ Below w0.heap.size w0 w' ∧ KeepBut w w' g none := by
 have hu78 := Try.underlying78
 have HI0 := Aside0.mk hI
 have HK := Aside0.mk (KeepBut.refl w g none)
 have HL := Aside0.mk hB.size
 clear hI
 have HW0 := Aside0.mk hB.size
 have HB := Aside0.mk hB
 clear hB
 have H : (spec_l14Draw.l0 k (([] : List (S78))) 1 s0_0 s0_1 s0_2) = some (r1, r2, r3) := h
 clear h
 obtain ⟨y171, hy171⟩ : ∃ y_ : List (S78), y_ = (([] : List (S78))) := ⟨_, rfl⟩
 replace H : (spec_l14Draw.l0 k y171 1 s0_0 s0_1 s0_2) = some (r1, r2, r3) := by first | (rw [hy171]; with_reducible exact H) | (have H2_ := (Option.bind_some _ _).symm.trans H; rw [hy171]; with_reducible exact H2_) | (have H2_ := (Option.bind_some _ _).symm.trans H; with_reducible exact H2_) | with_reducible exact H | (rw [hy171]; exact H) | exact H
 have Ny171 := Aside0.mk hy171
 clear hy171
 have H' := Aside0.mk H
 clear H
 go_enter Try.func185, Try.ntmps185
 go_wp2_with (first | ((with_reducible refine gate_dst (N := 6) rfl ?_); refine Kd.R_lit k78 _ 78 ?hg (N := 6) ?hd (xs := ([] : List (S78))) (inner := []) (ok := fun _ => True) (okp := fun _ => True) ?hr ?hp (fun _ hk => hk) trivial (Below.refl _ _) (Nat.le_refl _) (by simp) ?_; (case hd => rfl); (case hg => rfl); (case hr => first | (go_simp; done) | (go_simp; rfl)); (case hp => exact (Reps.none _ _)); intro v172 w2 ho3 hb hg_ hnew_; clear hg_ hnew_; (first | rw [← Ny171.out] at ho3 | (simp only [Int.reduceToNat] at ho3; rw [← Ny171.out] at ho3)); have n0_ := Aside0.mk (Kd.R_lower ho3 (keep_size (w := w) (g := g) (row := none) (by repeat (first | (with_reducible first | exact HK.out | apply KeepBut.set_ | apply keep_drewN | apply keep_drew | apply keep_alloc) | exact HK.out)))); have n1_ := Aside0.mk (IsS202.below (by repeat (first | (with_reducible first | exact HI0.out | apply IsS202.alloc | apply IsS202.drewN | apply IsS202.drew | apply IsS202.set_1 | apply IsS202.set_2) | exact HI0.out)) hb); have n2_ := Aside0.mk (KeepBut.trans (by repeat (first | (with_reducible first | exact HK.out | apply KeepBut.set_ | apply keep_drewN | apply keep_drew | apply keep_alloc) | exact HK.out)) (KeepBut.of_below hb g none) (.inl rfl)); have n3_ := Aside0.mk (below_step (by repeat (first | (with_reducible first | exact HB.out | apply bA | apply bN | apply bD | refine bS ?_ (IsS202.ge HI0.out)) | exact HB.out)) hb); clear HI0; clear HK; clear HB; have HO173 := n0_; have HI0 := n1_; have HK := n2_; have HB := n3_; clear n0_ n1_ n2_ n3_; clear hb ho3))
 go_loopg [3, 4] k (fun kq v3 v4 w' => ∃ (x3_1 : List (S78)) (x4_1 : Int) (x1001_1 : Int) (x1002_1 : Int), v4 = .int .i64 x4_1 ∧ Aside0 (spec_l14Draw.l0 kq x3_1 x4_1 s0_0 x1001_1 x1002_1 = some (r1, r2, r3)) ∧ Aside0 (kq ≤ k) ∧ Aside0 (Kd.R k78 78 w' w.heap.size (fun _ => True) v3 x3_1) ∧ Aside0 (IsS202 w0 w' g s0_0 x1001_1 x1002_1) ∧ Aside0 (KeepBut w w' g none) ∧ Aside0 (Below w0.heap.size w0 w'))
 case atStart => exact ⟨(y171), (1), (s0_1), (s0_2), (by first | rfl | (simp; done) | (simp [*]; done)), H', ⟨Nat.le_refl _⟩, ⟨by (with_reducible repeat first | apply rA | apply rN | apply rD); exact HO173.out⟩, ⟨by repeat (first | (with_reducible first | exact HI0.out | apply IsS202.alloc | apply IsS202.drewN | apply IsS202.drew | apply IsS202.set_1 | apply IsS202.set_2) | exact HI0.out)⟩, ⟨by repeat (first | (with_reducible first | exact HK.out | apply KeepBut.set_ | apply keep_drewN | apply keep_drew | apply keep_alloc) | exact HK.out)⟩, ⟨by repeat (first | (with_reducible first | exact HB.out | apply bA | apply bN | apply bD | refine bS ?_ (IsS202.ge HI0.out)) | exact HB.out)⟩⟩
 case round =>
  clear H'
  try clear c1
  try clear p2
  obtain ⟨x3_1, x4_1, x1001_1, x1002_1, rfl, HA, HK1, HO_3, HI0, HK, HB⟩ := hrel
  cases gk with
  | zero => exact absurd HA.out (by simp [spec_l14Draw.l0])
  | succ k1 =>
   have H := HA.out
   clear HA
   simp only [spec_l14Draw.l0] at H
   replace H := Option.bind_eq_some_iff.mp H
   obtain ⟨⟨t174, t175, t176⟩, A40, H⟩ := H
   replace H : (if x4_1 ≤ (wrap64 (2 + t174)) then ((spec_l1Below.f s0_0 t175 t176 6).bind fun bt177 => (if x3_1.length < 5864062014805 then (spec_l14Draw.l0 k1 (x3_1 ++ [(⟨x4_1, wrap64 (5 * (wrap64 (1 + bt177.1))), 0⟩ : S78)]) (wrap64 (x4_1 + 1)) s0_0 bt177.2.1 bt177.2.2) else (none))) else ((spec_l1Below.f s0_0 t175 t176 5).bind fun bt183 => (spec_l14Draw.l1 k1 x3_1 bt183.1 s0_0 bt183.2.1 bt183.2.2))) = some (r1, r2, r3) := H
   have A4 := Aside0.mk A40
   clear A40
   by_cases c5 : x4_1 ≤ (wrap64 (2 + t174))
   ·rw [if_pos c5] at H
    have c5b0 : decide (x4_1 ≤ (wrap64 (2 + t174))) = true := decide_eq_true c5
    clear c5
    replace H := Option.bind_eq_some_iff.mp H
    obtain ⟨⟨t177, t178, t179⟩, A60, H⟩ := H
    replace H : (if x3_1.length < 5864062014805 then (spec_l14Draw.l0 k1 (x3_1 ++ [(⟨x4_1, wrap64 (5 * (wrap64 (1 + t177))), 0⟩ : S78)]) (wrap64 (x4_1 + 1)) s0_0 t178 t179) else (none)) = some (r1, r2, r3) := H
    have A6 := Aside0.mk A60
    clear A60
    by_cases c7 : x3_1.length < 5864062014805
    ·rw [if_pos c7] at H
     have LMc7 := Aside0.mk c7
     clear c7
     obtain ⟨y180, hy180⟩ : ∃ y_ : List (S78), y_ = (x3_1 ++ [(⟨x4_1, wrap64 (5 * (wrap64 (1 + t177))), 0⟩ : S78)]) := ⟨_, rfl⟩
     replace H : (spec_l14Draw.l0 k1 y180 (wrap64 (x4_1 + 1)) s0_0 t178 t179) = some (r1, r2, r3) := by first | (rw [hy180]; with_reducible exact H) | (have H2_ := (Option.bind_some _ _).symm.trans H; rw [hy180]; with_reducible exact H2_) | (have H2_ := (Option.bind_some _ _).symm.trans H; with_reducible exact H2_) | with_reducible exact H | (rw [hy180]; exact H) | exact H
     have Ny180 := Aside0.mk hy180
     clear hy180
     have H' := Aside0.mk H
     clear H
     go_wp2_with (first | ((with_reducible refine gate_callee (f := 173) rfl ?_); refine goesL_ (some 9) rfl rfl Try.func173 (by kernel_rfl) rfl #[.pointer (some ⟨g, 0, none⟩), .int .i64 7] rfl (by (try simp only [mA, mC, mN]); first | done | rfl | (simp only [lD, lT]; rfl)) ?_; (with_reducible refine (spec_l1Below.calls g s0_0 x1001_1 x1002_1 7 t174 t175 t176 w0 _ ?side1 ?side2 A4.out).mono ?_); (case side1 => repeat (first | (with_reducible first | exact HI0.out | apply IsS202.alloc | apply IsS202.drewN | apply IsS202.drew | apply IsS202.set_1 | apply IsS202.set_2) | exact HI0.out)); (case side2 => repeat (first | (with_reducible first | exact HB.out | apply bA | apply bN | apply bD | refine bS ?_ (IsS202.ge HI0.out)) | exact HB.out)); rintro e w8 ⟨rfl, hi, hb, hk⟩; refine ⟨_, rfl, ?_⟩; have n0_ := Aside0.mk (Kd.R_mono (Kd.R_keep (IsS202.apart (show IsS202 w0 _ g s0_0 x1001_1 x1002_1 from by repeat (first | (with_reducible first | exact HI0.out | apply IsS202.alloc | apply IsS202.drewN | apply IsS202.drew | apply IsS202.set_1 | apply IsS202.set_2) | exact HI0.out)) (qR HO_3) (by decide)) hk (fun _ h => h.2)) (fun _ h => h.1)); have n1_ := Aside0.mk (KeepBut.trans (by repeat (first | (with_reducible first | exact HK.out | apply KeepBut.set_ | apply keep_drewN | apply keep_drew | apply keep_alloc) | exact HK.out)) hk (.inl rfl)); have n2_ := Aside0.mk (hb); have n3_ := Aside0.mk (hi); clear HO_3; clear HK; clear HB; clear HI0; have HO_3 := n0_; have HK := n1_; have HB := n2_; have HI0 := n3_; clear n0_ n1_ n2_ n3_; (try clear hb); (try clear hb2); (try clear hk); (try clear hi)) | ((with_reducible refine gate_callee (f := 173) rfl ?_); refine goesL_ (some 17) rfl rfl Try.func173 (by kernel_rfl) rfl #[.pointer (some ⟨g, 0, none⟩), .int .i64 6] rfl (by (try simp only [mA, mC, mN]); first | done | rfl | (simp only [lD, lT]; rfl)) ?_; (with_reducible refine (spec_l1Below.calls g s0_0 t175 t176 6 t177 t178 t179 w0 _ ?side1 ?side2 A6.out).mono ?_); (case side1 => repeat (first | (with_reducible first | exact HI0.out | apply IsS202.alloc | apply IsS202.drewN | apply IsS202.drew | apply IsS202.set_1 | apply IsS202.set_2) | exact HI0.out)); (case side2 => repeat (first | (with_reducible first | exact HB.out | apply bA | apply bN | apply bD | refine bS ?_ (IsS202.ge HI0.out)) | exact HB.out)); rintro e w9 ⟨rfl, hi, hb, hk⟩; refine ⟨_, rfl, ?_⟩; have n0_ := Aside0.mk (Kd.R_mono (Kd.R_keep (IsS202.apart (show IsS202 w0 _ g s0_0 t175 t176 from by repeat (first | (with_reducible first | exact HI0.out | apply IsS202.alloc | apply IsS202.drewN | apply IsS202.drew | apply IsS202.set_1 | apply IsS202.set_2) | exact HI0.out)) (qR HO_3) (by decide)) hk (fun _ h => h.2)) (fun _ h => h.1)); have n1_ := Aside0.mk (KeepBut.trans (by repeat (first | (with_reducible first | exact HK.out | apply KeepBut.set_ | apply keep_drewN | apply keep_drew | apply keep_alloc) | exact HK.out)) hk (.inl rfl)); have n2_ := Aside0.mk (hb); have n3_ := Aside0.mk (hi); clear HO_3; clear HK; clear HB; clear HI0; have HO_3 := n0_; have HK := n1_; have HB := n2_; have HI0 := n3_; clear n0_ n1_ n2_ n3_; (try clear hb); (try clear hb2); (try clear hk); (try clear hi)) | ((with_reducible refine gate_builtin (b := .append) (xs := #[.tmp 14, .tmp 21]) rfl ?_); at_builtin; refine Kd.R_append k78 w.heap.size rfl (.tmp 14) (.tmp 21) 54 78 (.agg #[(.int .i64 0), (.int .i64 0), (.int .i64 0)]) 24 rfl Try.underlying54 info78 rfl (by decide) (by omega) u3 x3_1 (⟨x4_1, wrap64 (5 * (wrap64 (1 + t177))), 0⟩ : S78) [.int .i64 x4_1, .int .i64 (wrap64 (5 * (wrap64 (1 + t177)))), .int .i64 0] (fun _ => True) (fun _ => False) rfl rfl ?aP (fun _ hk => hk.elim) ?aF ?aO (Below.refl _ _) ?aS ?aL ?_; (case aP => exact k78_mkM _ _ _ (⟨x4_1, wrap64 (5 * (wrap64 (1 + t177))), 0⟩ : S78)); (case aF => exact (fun _ _ => trivial)); (case aO => exact (qR HO_3)); (case aS => exact (keep_size (w := w) (g := g) (row := none) (by repeat (first | (with_reducible first | exact HK.out | apply KeepBut.set_ | apply keep_drewN | apply keep_drew | apply keep_alloc) | exact HK.out)))); (case aL => have := LMc7.out; omega); intro v181 w10 ho hb hg hat; rw [← Ny180.out] at ho; have n0_ := Aside0.mk (IsS202.grown (by repeat (first | (with_reducible first | exact HI0.out | apply IsS202.alloc | apply IsS202.drewN | apply IsS202.drew | apply IsS202.set_1 | apply IsS202.set_2) | exact HI0.out)) hg (IsS202.own_ne HI0.out HO_3.out (by decide))); have n1_ := Aside0.mk (below_weaken (by repeat (first | (with_reducible first | exact HB.out | apply bA | apply bN | apply bD | refine bS ?_ (IsS202.ge HI0.out)) | exact HB.out)) HL.out hb); have n2_ := Aside0.mk (KeepBut.trans (by repeat (first | (with_reducible first | exact HK.out | apply KeepBut.set_ | apply keep_drewN | apply keep_drew | apply keep_alloc) | exact HK.out)) (KeepBut.of_grown hg g) (Kd.R_base2 HO_3.out)); have n3_ := Aside0.mk (ho); clear HI0; clear HB; clear HK; clear HO_3; have HI0 := n0_; have HB := n1_; have HK := n2_; have HO182 := n3_; clear n0_ n1_ n2_ n3_; clear ho hb hg hat))
     go_roundg k1
     case measure => have := HK1.out; omega
     case rel => exact ⟨(y180), (wrap64 (x4_1 + 1)), (t178), (t179), (by first | rfl | (simp; done) | (simp [*]; done)), H', ⟨by have := HK1.out; omega⟩, ⟨by (with_reducible repeat first | apply rA | apply rN | apply rD); exact HO182.out⟩, ⟨by repeat (first | (with_reducible first | exact HI0.out | apply IsS202.alloc | apply IsS202.drewN | apply IsS202.drew | apply IsS202.set_1 | apply IsS202.set_2) | exact HI0.out)⟩, ⟨by repeat (first | (with_reducible first | exact HK.out | apply KeepBut.set_ | apply keep_drewN | apply keep_drew | apply keep_alloc) | exact HK.out)⟩, ⟨by repeat (first | (with_reducible first | exact HB.out | apply bA | apply bN | apply bD | refine bS ?_ (IsS202.ge HI0.out)) | exact HB.out)⟩⟩
    ·rw [if_neg c7] at H
     exact absurd H (by simp)
   ·rw [if_neg c5] at H
    have c5b0 : decide (x4_1 ≤ (wrap64 (2 + t174))) = false := decide_eq_false c5
    clear c5
    replace H := Option.bind_eq_some_iff.mp H
    obtain ⟨⟨t183, t184, t185⟩, A110, H⟩ := H
    replace H : (spec_l14Draw.l1 k1 x3_1 t183 s0_0 t184 t185) = some (r1, r2, r3) := H
    have A11 := Aside0.mk A110
    clear A110
    have H' := Aside0.mk H
    clear H
    go_wp2_with (first | ((with_reducible refine gate_callee (f := 173) rfl ?_); refine goesL_ (some 9) rfl rfl Try.func173 (by kernel_rfl) rfl #[.pointer (some ⟨g, 0, none⟩), .int .i64 7] rfl (by (try simp only [mA, mC, mN]); first | done | rfl | (simp only [lD, lT]; rfl)) ?_; (with_reducible refine (spec_l1Below.calls g s0_0 x1001_1 x1002_1 7 t174 t175 t176 w0 _ ?side1 ?side2 A4.out).mono ?_); (case side1 => repeat (first | (with_reducible first | exact HI0.out | apply IsS202.alloc | apply IsS202.drewN | apply IsS202.drew | apply IsS202.set_1 | apply IsS202.set_2) | exact HI0.out)); (case side2 => repeat (first | (with_reducible first | exact HB.out | apply bA | apply bN | apply bD | refine bS ?_ (IsS202.ge HI0.out)) | exact HB.out)); rintro e w12 ⟨rfl, hi, hb, hk⟩; refine ⟨_, rfl, ?_⟩; have n0_ := Aside0.mk (Kd.R_mono (Kd.R_keep (IsS202.apart (show IsS202 w0 _ g s0_0 x1001_1 x1002_1 from by repeat (first | (with_reducible first | exact HI0.out | apply IsS202.alloc | apply IsS202.drewN | apply IsS202.drew | apply IsS202.set_1 | apply IsS202.set_2) | exact HI0.out)) (qR HO_3) (by decide)) hk (fun _ h => h.2)) (fun _ h => h.1)); have n1_ := Aside0.mk (KeepBut.trans (by repeat (first | (with_reducible first | exact HK.out | apply KeepBut.set_ | apply keep_drewN | apply keep_drew | apply keep_alloc) | exact HK.out)) hk (.inl rfl)); have n2_ := Aside0.mk (hb); have n3_ := Aside0.mk (hi); clear HO_3; clear HK; clear HB; clear HI0; have HO_3 := n0_; have HK := n1_; have HB := n2_; have HI0 := n3_; clear n0_ n1_ n2_ n3_; (try clear hb); (try clear hb2); (try clear hk); (try clear hi)) | ((with_reducible refine gate_callee (f := 173) rfl ?_); refine goesL_ (some 24) rfl rfl Try.func173 (by kernel_rfl) rfl #[.pointer (some ⟨g, 0, none⟩), .int .i64 5] rfl (by (try simp only [mA, mC, mN]); first | done | rfl | (simp only [lD, lT]; rfl)) ?_; (with_reducible refine (spec_l1Below.calls g s0_0 t175 t176 5 t183 t184 t185 w0 _ ?side1 ?side2 A11.out).mono ?_); (case side1 => repeat (first | (with_reducible first | exact HI0.out | apply IsS202.alloc | apply IsS202.drewN | apply IsS202.drew | apply IsS202.set_1 | apply IsS202.set_2) | exact HI0.out)); (case side2 => repeat (first | (with_reducible first | exact HB.out | apply bA | apply bN | apply bD | refine bS ?_ (IsS202.ge HI0.out)) | exact HB.out)); rintro e w13 ⟨rfl, hi, hb, hk⟩; refine ⟨_, rfl, ?_⟩; have n0_ := Aside0.mk (Kd.R_mono (Kd.R_keep (IsS202.apart (show IsS202 w0 _ g s0_0 t175 t176 from by repeat (first | (with_reducible first | exact HI0.out | apply IsS202.alloc | apply IsS202.drewN | apply IsS202.drew | apply IsS202.set_1 | apply IsS202.set_2) | exact HI0.out)) (qR HO_3) (by decide)) hk (fun _ h => h.2)) (fun _ h => h.1)); have n1_ := Aside0.mk (KeepBut.trans (by repeat (first | (with_reducible first | exact HK.out | apply KeepBut.set_ | apply keep_drewN | apply keep_drew | apply keep_alloc) | exact HK.out)) hk (.inl rfl)); have n2_ := Aside0.mk (hb); have n3_ := Aside0.mk (hi); clear HO_3; clear HK; clear HB; clear HI0; have HO_3 := n0_; have HK := n1_; have HB := n2_; have HI0 := n3_; clear n0_ n1_ n2_ n3_; (try clear hb); (try clear hb2); (try clear hk); (try clear hi)))
    go_loopg [3, 5] k1 (fun kq v3 v5 w' => ∃ (x3_2 : List (S78)) (x5_2 : Int) (x1001_2 : Int) (x1002_2 : Int), v5 = .int .i64 x5_2 ∧ Aside0 (spec_l14Draw.l1 kq x3_2 x5_2 s0_0 x1001_2 x1002_2 = some (r1, r2, r3)) ∧ Aside0 (kq ≤ k1) ∧ Aside0 (Kd.R k78 78 w' w.heap.size (fun _ => True) v3 x3_2) ∧ Aside0 (IsS202 w0 w' g s0_0 x1001_2 x1002_2) ∧ Aside0 (KeepBut w w' g none) ∧ Aside0 (Below w0.heap.size w0 w'))
    case atStart => exact ⟨(x3_1), (t183), (t184), (t185), (by first | rfl | (simp; done) | (simp [*]; done)), H', ⟨Nat.le_refl _⟩, ⟨by (with_reducible repeat first | apply rA | apply rN | apply rD); exact HO_3.out⟩, ⟨by repeat (first | (with_reducible first | exact HI0.out | apply IsS202.alloc | apply IsS202.drewN | apply IsS202.drew | apply IsS202.set_1 | apply IsS202.set_2) | exact HI0.out)⟩, ⟨by repeat (first | (with_reducible first | exact HK.out | apply KeepBut.set_ | apply keep_drewN | apply keep_drew | apply keep_alloc) | exact HK.out)⟩, ⟨by repeat (first | (with_reducible first | exact HB.out | apply bA | apply bN | apply bD | refine bS ?_ (IsS202.ge HI0.out)) | exact HB.out)⟩⟩
    case round =>
     clear H'
     try clear c1
     try clear p2
     try clear c5
     try clear c5b0
     try clear p6
     try clear c7
     try clear p2
     obtain ⟨x3_2, x5_2, x1001_2, x1002_2, rfl, HA, HK2, HO_3, HI0, HK, HB⟩ := hrel
     cases gk with
     | zero => exact absurd HA.out (by simp [spec_l14Draw.l1])
     | succ k2 =>
      have H := HA.out
      clear HA
      simp only [spec_l14Draw.l1] at H
      by_cases c14 : x5_2 > 0
      ·rw [if_pos c14] at H
       have c14b0 : decide (0 < x5_2) = true := decide_eq_true c14
       clear c14
       replace H := Option.bind_eq_some_iff.mp H
       obtain ⟨⟨t186, t187, t188⟩, A150, H⟩ := H
       replace H : ((spec_l4Draw.f s0_0 t187 t188 (wrap64 (1 + t186))).bind fun bt189 => ((spec_PutAway.f k2 x3_2 bt189.1 bt189.2.1 bt189.2.2.1 bt189.2.2.2.1 bt189.2.2.2.2.1).bind fun bt196 => (spec_l14Draw.l1 k2 bt196.1 (wrap64 (x5_2 - 1)) s0_0 bt189.2.2.2.2.2.1 bt189.2.2.2.2.2.2))) = some (r1, r2, r3) := H
       have A15 := Aside0.mk A150
       clear A150
       replace H := Option.bind_eq_some_iff.mp H
       obtain ⟨⟨t189, t190, t191, t192, t193, t194, t195⟩, A160, H⟩ := H
       replace H : ((spec_PutAway.f k2 x3_2 t189 t190 t191 t192 t193).bind fun bt196 => (spec_l14Draw.l1 k2 bt196.1 (wrap64 (x5_2 - 1)) s0_0 t194 t195)) = some (r1, r2, r3) := H
       have A16 := Aside0.mk A160
       clear A160
       replace H := Option.bind_eq_some_iff.mp H
       obtain ⟨⟨t196, t199⟩, A170, H⟩ := H
       replace H : (spec_l14Draw.l1 k2 t196 (wrap64 (x5_2 - 1)) s0_0 t194 t195) = some (r1, r2, r3) := H
       have A17 := Aside0.mk A170
       clear A170
       have H' := Aside0.mk H
       clear H
       go_wp2_with (first | ((with_reducible refine gate_callee (f := 173) rfl ?_); refine goesL_ (some 33) rfl rfl Try.func173 (by kernel_rfl) rfl #[.pointer (some ⟨g, 0, none⟩), .int .i64 20] rfl (by (try simp only [mA, mC, mN]); first | done | rfl | (simp only [lD, lT]; rfl)) ?_; (with_reducible refine (spec_l1Below.calls g s0_0 x1001_2 x1002_2 20 t186 t187 t188 w0 _ ?side1 ?side2 A15.out).mono ?_); (case side1 => repeat (first | (with_reducible first | exact HI0.out | apply IsS202.alloc | apply IsS202.drewN | apply IsS202.drew | apply IsS202.set_1 | apply IsS202.set_2) | exact HI0.out)); (case side2 => repeat (first | (with_reducible first | exact HB.out | apply bA | apply bN | apply bD | refine bS ?_ (IsS202.ge HI0.out)) | exact HB.out)); rintro e w18 ⟨rfl, hi, hb, hk⟩; refine ⟨_, rfl, ?_⟩; have n0_ := Aside0.mk (Kd.R_mono (Kd.R_keep (IsS202.apart (show IsS202 w0 _ g s0_0 x1001_2 x1002_2 from by repeat (first | (with_reducible first | exact HI0.out | apply IsS202.alloc | apply IsS202.drewN | apply IsS202.drew | apply IsS202.set_1 | apply IsS202.set_2) | exact HI0.out)) (qR HO_3) (by decide)) hk (fun _ h => h.2)) (fun _ h => h.1)); have n1_ := Aside0.mk (KeepBut.trans (by repeat (first | (with_reducible first | exact HK.out | apply KeepBut.set_ | apply keep_drewN | apply keep_drew | apply keep_alloc) | exact HK.out)) hk (.inl rfl)); have n2_ := Aside0.mk (hb); have n3_ := Aside0.mk (hi); clear HO_3; clear HK; clear HB; clear HI0; have HO_3 := n0_; have HK := n1_; have HB := n2_; have HI0 := n3_; clear n0_ n1_ n2_ n3_; (try clear hb); (try clear hb2); (try clear hk); (try clear hi)) | ((with_reducible refine gate_callee (f := 187) rfl ?_); refine goesL_ (some 35) rfl rfl Try.func187 (by kernel_rfl) rfl #[.pointer (some ⟨g, 0, none⟩), .int .i64 (wrap64 (1 + t186))] rfl (by (try simp only [mA, mC, mN]); first | done | rfl | (simp only [lD, lT]; rfl)) ?_; (with_reducible refine (spec_l4Draw.calls g s0_0 t187 t188 (wrap64 (1 + t186)) t189 t190 t191 t192 t193 t194 t195 w0 _ ?side1 ?side2 A16.out).mono ?_); (case side1 => repeat (first | (with_reducible first | exact HI0.out | apply IsS202.alloc | apply IsS202.drewN | apply IsS202.drew | apply IsS202.set_1 | apply IsS202.set_2) | exact HI0.out)); (case side2 => repeat (first | (with_reducible first | exact HB.out | apply bA | apply bN | apply bD | refine bS ?_ (IsS202.ge HI0.out)) | exact HB.out)); rintro e w19 ⟨rfl, hi, hb, hk⟩; refine ⟨_, rfl, ?_⟩; have n0_ := Aside0.mk (Kd.R_mono (Kd.R_keep (IsS202.apart (show IsS202 w0 _ g s0_0 t187 t188 from by repeat (first | (with_reducible first | exact HI0.out | apply IsS202.alloc | apply IsS202.drewN | apply IsS202.drew | apply IsS202.set_1 | apply IsS202.set_2) | exact HI0.out)) (qR HO_3) (by decide)) hk (fun _ h => h.2)) (fun _ h => h.1)); have n1_ := Aside0.mk (KeepBut.trans (by repeat (first | (with_reducible first | exact HK.out | apply KeepBut.set_ | apply keep_drewN | apply keep_drew | apply keep_alloc) | exact HK.out)) hk (.inl rfl)); have n2_ := Aside0.mk (hb); have n3_ := Aside0.mk (hi); clear HO_3; clear HK; clear HB; clear HI0; have HO_3 := n0_; have HK := n1_; have HB := n2_; have HI0 := n3_; clear n0_ n1_ n2_ n3_; (try clear hb); (try clear hb2); (try clear hk); (try clear hi); obtain ⟨Ao20, co20, eo20⟩ := Kd.R_slice HO_3.out; subst eo20) | ((with_reducible refine gate_callee (f := 121) rfl ?_); refine goesL_ (some 36) rfl rfl Try.func121 (by kernel_rfl) rfl #[.slice Ao20 x3_2.length co20, .agg #[.int .i64 t189, .int .i64 t190, .int .i64 t191, .int .i64 t192, .int .i64 t193]] rfl (by (try simp only [mA, mC, mN]); first | done | rfl | (simp only [lD, lT]; rfl)) ?_; (with_reducible refine (spec_PutAway.calls k2 _ _ x3_2 t189 t190 t191 t192 t193 t196 t199 _ ?side1 ?side2 A17.out).mono ?_); (case side1 => repeat (first | exact (Kd.R_reads' HO_3.out).2.2 | (with_reducible refine Kd.C_alloc ?_ _) | (with_reducible refine Kd.C_drewN ?_ _) | (with_reducible refine Kd.C_drew ?_))); (case side2 => exact (Kd.R_reads' HO_3.out).2.1); rintro e w21 ⟨v197, rfl, ho0, hb⟩; refine ⟨_, rfl, ?_⟩; have n0_ := Aside0.mk (Kd.R_elder' (qR HO_3) (Kd.R_base ho0) hb); have n1_ := Aside0.mk (Kd.R_lower (Kd.R_new' ho0 (Kd.R_lt (qR HO_3))) (keep_size (w := w) (g := g) (row := none) (by repeat (first | (with_reducible first | exact HK.out | apply KeepBut.set_ | apply keep_drewN | apply keep_drew | apply keep_alloc) | exact HK.out)))); have n2_ := Aside0.mk (IsS202.below (by repeat (first | (with_reducible first | exact HI0.out | apply IsS202.alloc | apply IsS202.drewN | apply IsS202.drew | apply IsS202.set_1 | apply IsS202.set_2) | exact HI0.out)) hb); have n3_ := Aside0.mk (KeepBut.trans (by repeat (first | (with_reducible first | exact HK.out | apply KeepBut.set_ | apply keep_drewN | apply keep_drew | apply keep_alloc) | exact HK.out)) (KeepBut.of_below hb g none) (.inl rfl)); have n4_ := Aside0.mk (below_step (by repeat (first | (with_reducible first | exact HB.out | apply bA | apply bN | apply bD | refine bS ?_ (IsS202.ge HI0.out)) | exact HB.out)) hb); clear HO_3; clear HI0; clear HK; clear HB; have HO_3 := n0_; have HO198 := n1_; have HI0 := n2_; have HK := n3_; have HB := n4_; clear n0_ n1_ n2_ n3_ n4_; (try clear hb); (try clear hb2); (try clear hk); (try clear hi); (try clear ho0)))
       go_roundg k2
       case measure => have := HK1.out; have := HK2.out; omega
       case rel => exact ⟨(t196), (wrap64 (x5_2 - 1)), (t194), (t195), (by first | rfl | (simp; done) | (simp [*]; done)), H', ⟨by have := HK1.out; have := HK2.out; omega⟩, ⟨by (with_reducible repeat first | apply rA | apply rN | apply rD); exact Kd.R_mono HO198.out (fun _ hk => trivial)⟩, ⟨by repeat (first | (with_reducible first | exact HI0.out | apply IsS202.alloc | apply IsS202.drewN | apply IsS202.drew | apply IsS202.set_1 | apply IsS202.set_2) | exact HI0.out)⟩, ⟨by repeat (first | (with_reducible first | exact HK.out | apply KeepBut.set_ | apply keep_drewN | apply keep_drew | apply keep_alloc) | exact HK.out)⟩, ⟨by repeat (first | (with_reducible first | exact HB.out | apply bA | apply bN | apply bD | refine bS ?_ (IsS202.ge HI0.out)) | exact HB.out)⟩⟩
      ·rw [if_neg c14] at H
       have c14b0 : decide (0 < x5_2) = false := decide_eq_false c14
       clear c14
       simp only [Option.some.injEq, Prod.mk.injEq] at H
       obtain ⟨rfl, rfl, rfl⟩ := H
       go_wp2
       go_ret
       exact ⟨_, by first | rfl | (simp [errW_none, errW_some] <;> rfl) | (simp [*, errW_none, errW_some] <;> rfl), by (with_reducible repeat first | apply rA | apply rN | apply rD); exact HO_3.out, by repeat (first | (with_reducible first | exact HI0.out | apply IsS202.alloc | apply IsS202.drewN | apply IsS202.drew | apply IsS202.set_1 | apply IsS202.set_2) | exact HI0.out), by repeat (first | (with_reducible first | exact HB.out | apply bA | apply bN | apply bD | refine bS ?_ (IsS202.ge HI0.out)) | exact HB.out), by repeat (first | (with_reducible first | exact HK.out | apply KeepBut.set_ | apply keep_drewN | apply keep_drew | apply keep_alloc) | exact HK.out)⟩

/-! ### spec_l4Raw: function 186 -/
def spec_l4Raw.f (s0_0 : List Int) (s0_1 : Int) (s0_2 : Int) : Option (Int × Int × Int) := (spec_l1Int.f s0_0 s0_1 s0_2 (([(-1), 0, 8, 50, 51, 1000, 9223372036854775807, (-9223372036854775808)] : List Int))).bind fun bt203 => (some (bt203.1, bt203.2.1, bt203.2.2))
set_option maxHeartbeats 8000000 in
set_option maxRecDepth 100000 in
theorem spec_l4Raw.calls (g : Nat) (s0_0 : List Int) (s0_1 : Int) (s0_2 : Int) (r1 : Int) (r2 : Int) (r3 : Int) (w0 w : World) (hI : IsS202 w0 w g s0_0 s0_1 s0_2) (hB : Below w0.heap.size w0 w) (h : spec_l4Raw.f s0_0 s0_1 s0_2 = some (r1, r2, r3)) :
  Calls Try.prog 186 #[.pointer (some ⟨g, 0, none⟩)] w fun e w' => e = .returned (.int .i64 r1) ∧ IsS202 w0 w' g s0_0 r2 r3 ∧ Below w0.heap.size w0 w' ∧ KeepBut w w' g none := by
 have HI0 := Aside0.mk hI
 have HK := Aside0.mk (KeepBut.refl w g none)
 have HL := Aside0.mk hB.size
 clear hI
 have HW0 := Aside0.mk hB.size
 have HB := Aside0.mk hB
 clear hB
 have H : ((spec_l1Int.f s0_0 s0_1 s0_2 (([(-1), 0, 8, 50, 51, 1000, 9223372036854775807, (-9223372036854775808)] : List Int))).bind fun bt203 => (some (bt203.1, bt203.2.1, bt203.2.2))) = some (r1, r2, r3) := h
 clear h
 obtain ⟨y200, hy200⟩ : ∃ y_ : List Int, y_ = (([(-1), 0, 8, 50, 51, 1000, 9223372036854775807, (-9223372036854775808)] : List Int)) := ⟨_, rfl⟩
 replace H : ((spec_l1Int.f s0_0 s0_1 s0_2 y200).bind fun bt203 => (some (bt203.1, bt203.2.1, bt203.2.2))) = some (r1, r2, r3) := by first | (rw [hy200]; with_reducible exact H) | (have H2_ := (Option.bind_some _ _).symm.trans H; rw [hy200]; with_reducible exact H2_) | (have H2_ := (Option.bind_some _ _).symm.trans H; with_reducible exact H2_) | with_reducible exact H | (rw [hy200]; exact H) | exact H
 have Ny200 := Aside0.mk hy200
 clear hy200
 replace H := Option.bind_eq_some_iff.mp H
 obtain ⟨⟨t203, t204, t205⟩, A20, H⟩ := H
 replace H : (some (t203, t204, t205)) = some (r1, r2, r3) := H
 have A2 := Aside0.mk A20
 clear A20
 simp only [Option.some.injEq, Prod.mk.injEq] at H
 obtain ⟨rfl, rfl, rfl⟩ := H
 go_enter Try.func186, Try.ntmps186
 go_wp2_with (first | ((with_reducible refine gate_dst (N := 4) rfl ?_); refine Kd.R_lit (Kd.int .i64) _ 3 ?hg (N := 4) ?hd (xs := ([(-1), 0, 8, 50, 51, 1000, 9223372036854775807, (-9223372036854775808)] : List Int)) (inner := [.int .i64 (-1), .int .i64 0, .int .i64 8, .int .i64 50, .int .i64 51, .int .i64 1000, .int .i64 9223372036854775807, .int .i64 (-9223372036854775808)]) (ok := fun _ => True) (okp := fun _ => True) ?hr ?hp (fun _ hk => hk) trivial (Below.refl _ _) (Nat.le_refl _) (by simp) ?_; (case hd => rfl); (case hg => rfl); (case hr => first | (go_simp; done) | (go_simp; rfl)); (case hp => exact (Reps.one (show Kd.M (Kd.int .i64) _ _ _ (-1) [.int .i64 (-1)] from rfl) (Reps.one (show Kd.M (Kd.int .i64) _ _ _ 0 [.int .i64 0] from rfl) (Reps.one (show Kd.M (Kd.int .i64) _ _ _ 8 [.int .i64 8] from rfl) (Reps.one (show Kd.M (Kd.int .i64) _ _ _ 50 [.int .i64 50] from rfl) (Reps.one (show Kd.M (Kd.int .i64) _ _ _ 51 [.int .i64 51] from rfl) (Reps.one (show Kd.M (Kd.int .i64) _ _ _ 1000 [.int .i64 1000] from rfl) (Reps.one (show Kd.M (Kd.int .i64) _ _ _ 9223372036854775807 [.int .i64 9223372036854775807] from rfl) (Reps.one (show Kd.M (Kd.int .i64) _ _ _ (-9223372036854775808) [.int .i64 (-9223372036854775808)] from rfl) (Reps.none _ _)))))))))); intro v201 w3 ho4 hb hg_ hnew_; clear hg_ hnew_; (first | rw [← Ny200.out] at ho4 | (simp only [Int.reduceToNat] at ho4; rw [← Ny200.out] at ho4)); have n0_ := Aside0.mk (Kd.R_lower ho4 (keep_size (w := w) (g := g) (row := none) (by repeat (first | (with_reducible first | exact HK.out | apply KeepBut.set_ | apply keep_drewN | apply keep_drew | apply keep_alloc) | exact HK.out)))); have n1_ := Aside0.mk (IsS202.below (by repeat (first | (with_reducible first | exact HI0.out | apply IsS202.alloc | apply IsS202.drewN | apply IsS202.drew | apply IsS202.set_1 | apply IsS202.set_2) | exact HI0.out)) hb); have n2_ := Aside0.mk (KeepBut.trans (by repeat (first | (with_reducible first | exact HK.out | apply KeepBut.set_ | apply keep_drewN | apply keep_drew | apply keep_alloc) | exact HK.out)) (KeepBut.of_below hb g none) (.inl rfl)); have n3_ := Aside0.mk (below_step (by repeat (first | (with_reducible first | exact HB.out | apply bA | apply bN | apply bD | refine bS ?_ (IsS202.ge HI0.out)) | exact HB.out)) hb); clear HI0; clear HK; clear HB; have HO202 := n0_; have HI0 := n1_; have HK := n2_; have HB := n3_; clear n0_ n1_ n2_ n3_; clear hb ho4; obtain ⟨Ao5, co5, eo5⟩ := Kd.R_slice HO202.out; subst eo5) | ((with_reducible refine gate_callee (f := 170) rfl ?_); refine goesL_ (some 5) rfl rfl Try.func170 (by kernel_rfl) rfl #[.pointer (some ⟨g, 0, none⟩), .slice Ao5 y200.length co5] rfl (by (try simp only [mA, mC, mN]); first | done | rfl | (simp only [lD, lT]; rfl)) ?_; (with_reducible refine (spec_l1Int.calls g s0_0 s0_1 s0_2 _ _ y200 t203 t204 t205 w0 _ ?side1 ?side2 ?side3 ?side4 ?side5 A2.out).mono ?_); (case side1 => repeat (first | (with_reducible first | exact HI0.out | apply IsS202.alloc | apply IsS202.drewN | apply IsS202.drew | apply IsS202.set_1 | apply IsS202.set_2) | exact HI0.out)); (case side2 => repeat (first | (with_reducible first | exact HB.out | apply bA | apply bN | apply bD | refine bS ?_ (IsS202.ge HI0.out)) | exact HB.out)); (case side3 => repeat (first | exact (Kd.R_reads' HO202.out).2.2 | (with_reducible refine Kd.C_alloc ?_ _) | (with_reducible refine Kd.C_drewN ?_ _) | (with_reducible refine Kd.C_drew ?_))); (case side4 => exact (Kd.R_reads' HO202.out).2.1); (case side5 => exact far_slice (IsS202.own_ne HI0.out HO202.out (by decide))); rintro e w6 ⟨rfl, hi, hb, hk⟩; refine ⟨_, rfl, ?_⟩; have n0_ := Aside0.mk (Kd.R_mono (Kd.R_keep (IsS202.apart (show IsS202 w0 _ g s0_0 s0_1 s0_2 from by repeat (first | (with_reducible first | exact HI0.out | apply IsS202.alloc | apply IsS202.drewN | apply IsS202.drew | apply IsS202.set_1 | apply IsS202.set_2) | exact HI0.out)) (qR HO202) (by decide)) hk (fun _ h => h.2)) (fun _ h => h.1)); have n1_ := Aside0.mk (KeepBut.trans (by repeat (first | (with_reducible first | exact HK.out | apply KeepBut.set_ | apply keep_drewN | apply keep_drew | apply keep_alloc) | exact HK.out)) hk (.inl rfl)); have n2_ := Aside0.mk (hb); have n3_ := Aside0.mk (hi); clear HO202; clear HK; clear HB; clear HI0; have HO202 := n0_; have HK := n1_; have HB := n2_; have HI0 := n3_; clear n0_ n1_ n2_ n3_; (try clear hb); (try clear hb2); (try clear hk); (try clear hi)))
 go_ret
 exact ⟨by first | rfl | (simp [errW_none, errW_some] <;> rfl) | (simp [*, errW_none, errW_some] <;> rfl), by repeat (first | (with_reducible first | exact HI0.out | apply IsS202.alloc | apply IsS202.drewN | apply IsS202.drew | apply IsS202.set_1 | apply IsS202.set_2) | exact HI0.out), by repeat (first | (with_reducible first | exact HB.out | apply bA | apply bN | apply bD | refine bS ?_ (IsS202.ge HI0.out)) | exact HB.out), by repeat (first | (with_reducible first | exact HK.out | apply KeepBut.set_ | apply keep_drewN | apply keep_drew | apply keep_alloc) | exact HK.out)⟩

end Go.Proofs.Ytkfalbaklodnjaa.PFnShelves
