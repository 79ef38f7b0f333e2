-- The printed functions of one law and their contracts, over contracts of this session's own (hand.py).
import Derived.Test.YtkfalbaklodnjaaPFnShelvesx0
import Derived.Test.YtkfalbaklodnjaaPFnShelvesx6
namespace Go.Proofs.Ytkfalbaklodnjaa.PFnShelves
open Go.RowKit Go.Proofs.YtkfalbaklodnjaaW.PrintWords Go.Proofs.YtkfalbaklodnjaaW.PrintLast Go.Proofs.YtkfalbaklodnjaaW.PrintMore Go.Proofs.Ytkfalbaklodnjaa.Short
attribute [local go_sem] max2_int min2_int max_two min_two max_three min_three max_four min_four   -- for this text's walks alone
set_option linter.unusedVariables false
set_option linter.unusedSimpArgs false

/-! ### impl_AreSlots: function 51 -/
def impl_AreSlots.l0 : Nat → List (S78) → List (S78) → Int → Int → Option (Bool)
 | 0, _, _, _, _ => none
 | k + 1, x0, x8, x9, x10 => if x10 < x9 then (if 0 ≤ x10 then (if x10 < (x8.length : Int) then ((impl_InRange.f ((rd_T78 x8 x10).f0) 1 99).bind fun t300 => (if t300 = true then (if x10 > 0 then (if 0 ≤ (wrap64 (x10 - 1)) then (if (wrap64 (x10 - 1)) < (x0.length : Int) then (if ((rd_T78 x8 x10).f0) ≤ ((rd_T78 x0 (wrap64 (x10 - 1))).f0) then (some false) else ((impl_InRange.f ((rd_T78 x8 x10).f1) 1 50).bind fun t302 => (if t302 = true then ((impl_InRange.f ((rd_T78 x8 x10).f2) 0 999).bind fun t303 => (if t303 = true then (if x10 ≤ (x0.length : Int) then ((impl_SlotOf.f (x0.take (x10 : Int).toNat) ((rd_T78 x8 x10).f2)).bind fun t308 => (if t308 = 0 then (impl_AreSlots.l0 k x0 x8 x9 (wrap64 (x10 + 1))) else (some false))) else (none)) else (some false))) else (some false)))) else (none)) else (none)) else ((impl_InRange.f ((rd_T78 x8 x10).f1) 1 50).bind fun t309 => (if t309 = true then ((impl_InRange.f ((rd_T78 x8 x10).f2) 0 999).bind fun t310 => (if t310 = true then (if x10 ≤ (x0.length : Int) then ((impl_SlotOf.f (x0.take (x10 : Int).toNat) ((rd_T78 x8 x10).f2)).bind fun t315 => (if t315 = 0 then (impl_AreSlots.l0 k x0 x8 x9 (wrap64 (x10 + 1))) else (some false))) else (none)) else (some false))) else (some false)))) else (some false))) else (none)) else (none)) else (some true)
def impl_AreSlots.f (k : Nat) (l0 : List (S78)) : Option (Bool) := if (l0.length : Int) > 30 then (some false) else (impl_AreSlots.l0 k l0 l0 (l0.length : Int) 0)
theorem impl_AreSlots.mono_l : ∀ k, (∀ y0 y1 y2 y3, LeO (impl_AreSlots.l0 k y0 y1 y2 y3) (impl_AreSlots.l0 (k + 1) y0 y1 y2 y3))
 | 0 => fun _ _ _ _ r h => by simp [impl_AreSlots.l0] at h
 | k + 1 => by
  have ih0 := impl_AreSlots.mono_l k
  ·intro y0 y1 y2 y3
   unfold impl_AreSlots.l0
   repeat' first
   | (with_reducible exact ih0 _ _ _ _)
   | (with_reducible exact LeO.refl _)
   | (with_reducible exact LeO.none _)
   | (with_reducible refine LeO.ite ?_ ?_)
   | (with_reducible refine LeO.bind ?_ (fun _ => ?_))
   | exact ih0 _ _ _ _
   | exact LeO.none _
   | refine LeO.ite ?_ ?_
   | refine LeO.bind ?_ (fun _ => ?_)
theorem impl_AreSlots.mono : ∀ a0 k, LeO (impl_AreSlots.f k a0) (impl_AreSlots.f (k + 1) a0) := by
 intro a0 k
 have ih0 := impl_AreSlots.mono_l k
 unfold impl_AreSlots.f
 repeat' first
   | (with_reducible exact ih0 _ _ _ _)
   | (with_reducible exact LeO.refl _)
   | (with_reducible exact LeO.none _)
   | (with_reducible refine LeO.ite ?_ ?_)
   | (with_reducible refine LeO.bind ?_ (fun _ => ?_))
   | exact ih0 _ _ _ _
   | exact LeO.none _
   | refine LeO.ite ?_ ?_
   | refine LeO.bind ?_ (fun _ => ?_)
def impl_AreSlots.T6 : Bool × List (List Nat × List Nat) := (true, [([], []), ([0], [0]), ([1], [1]), ([2], [2]), ([3, 2], [3]), ([4], [4]), ([5, 4], [4, 5]), ([6, 4, 4], [4, 6]), ([7], [7]), ([8, 7], [7, 8]), ([7], [7]), ([7], [7]), ([11, 7], [7, 11]), ([10, 12, 7], [7, 10, 12]), ([13, 7], [7, 13]), ([14, 7], [7, 14]), ([9, 15, 7], [7, 9, 15]), ([7, 16, 4], [4, 7, 16]), ([4, 17], [4, 17]), ([18, 7], [18]), ([19], [19]), ([20, 19], [19, 20]), ([21, 19, 19], [19, 21]), ([22, 19], [19, 22]), ([19, 23], [19, 23]), ([24, 22], [24]), ([25], [25]), ([26, 25], [25, 26]), ([27, 25, 25], [25, 27]), ([28, 25], [25, 28]), ([25, 29], [25, 29]), ([30, 28], [30]), ([31], [31]), ([31], [31]), ([32, 33, 31], [31, 32, 33]), ([31], [31]), ([35, 31], [31, 35]), ([34, 36, 31, 31], [31, 34, 36]), ([37, 31], [31, 37]), ([31, 38], [31, 38])])
def impl_AreSlots.B6 : List Nat := [0, 1, 3, 7, 15, 31, 63, 127, 255, 511, 255, 255, 2303, 7423, 15615, 31999, 65535, 131071, 262143, 524287, 1048575, 2097151, 4194303, 8388607, 16777215, 33554431, 67108863, 134217727, 268435455, 536870911, 1073741823, 2147483647, 4294967295, 4294967295, 17179869183, 4294967295, 38654705663, 137438953471, 274877906943, 549755813887]
theorem impl_AreSlots.tab6 : rtab .any (opsOf Try.f51 6) = impl_AreSlots.T6 := by kernel_rfl
theorem impl_AreSlots.bits6 : waitsOk impl_AreSlots.T6.2 impl_AreSlots.B6 = true := by kernel_rfl
set_option maxHeartbeats 8000000 in
set_option maxRecDepth 100000 in
theorem impl_AreSlots.calls (k : Nat) (A0 : Option Addr) (c0 : Nat) (l0 : List (S78)) (r : Bool) (w : World) (hr0 : Kd.C k78 w A0 l0.length l0) (hc0 : l0.length ≤ c0) (h : impl_AreSlots.f k l0 = some r) :
  Calls Try.prog 51 #[.slice A0 l0.length c0] w fun e w' => e = .returned (.bool r) ∧ Below w.heap.size w w' := by
 have hu78 := Try.underlying78
 have HR0 := Aside0.mk hr0
 have HC0 := Aside0.mk hc0
 clear hr0 hc0
 have HB := Aside0.mk (Below.refl w.heap.size w)
 have H : (if (l0.length : Int) > 30 then (some false) else (impl_AreSlots.l0 k l0 l0 (l0.length : Int) 0)) = some r := h
 clear h
 by_cases c2 : (l0.length : Int) > 30
 ·rw [if_pos c2] at H
  have c2b0 : decide (30 < (l0.length : Int)) = true := decide_eq_true c2
  have c2b1 : decide (30 < l0.length) = true := decide_eq_true (by omega)
  clear c2
  obtain rfl := Option.some.inj H
  go_enter Try.func51, Try.ntmps51
  go_wp2
  go_ret
  exact ⟨by first | rfl | (simp [errW_none, errW_some] <;> rfl) | (simp [*, errW_none, errW_some] <;> rfl), by repeat (first | (with_reducible first | exact HB.out | apply bA | apply bN | apply bD) | exact HB.out)⟩
 ·rw [if_neg c2] at H
  have c2b0 : decide (30 < (l0.length : Int)) = false := decide_eq_false c2
  have c2b1 : decide (30 < l0.length) = false := decide_eq_false (by omega)
  clear c2
  have H' := Aside0.mk H
  clear H
  go_enter Try.func51, Try.ntmps51
  go_wp2
  go_loopg [10] k (fun kq v10 w' => ∃ (x10_1 : Int), v10 = .int .i64 x10_1 ∧ Aside0 (impl_AreSlots.l0 kq l0 l0 (l0.length : Int) x10_1 = some r) ∧ Aside0 (kq ≤ k) ∧ Aside0 (Below w.heap.size w w'))
  case atStart => exact ⟨(0), (by first | rfl | (simp; done) | (simp [*]; done)), H', ⟨Nat.le_refl _⟩, ⟨by repeat (first | (with_reducible first | exact HB.out | apply bA | apply bN | apply bD) | exact HB.out)⟩⟩
  case round =>
   clear H'
   try clear c2
   try clear c2b0
   try clear c2b1
   try clear p2
   obtain ⟨x10_1, rfl, HA, HK1, HB⟩ := hrel
   cases gk with
   | zero => exact absurd HA.out (by simp [impl_AreSlots.l0])
   | succ k1 =>
    have H := HA.out
    clear HA
    simp only [impl_AreSlots.l0] at H
    by_cases c3 : x10_1 < (l0.length : Int)
    ·rw [if_pos c3] at H
     have c3b0 : decide (x10_1 < (l0.length : Int)) = true := decide_eq_true c3
     clear c3
     by_cases c4 : 0 ≤ x10_1
     ·rw [if_pos c4] at H
      have c4b0 : decide (0 ≤ x10_1) = true := decide_eq_true c4
      clear c4
      by_cases c5 : x10_1 < (l0.length : Int)
      ·rw [if_pos c5] at H
       have c5b0 : decide (x10_1 < (l0.length : Int)) = true := decide_eq_true c5
       clear c5
       replace H := Option.bind_eq_some_iff.mp H
       obtain ⟨t300, A60, H⟩ := H
       replace H : (if t300 = true then (if x10_1 > 0 then (if 0 ≤ (wrap64 (x10_1 - 1)) then (if (wrap64 (x10_1 - 1)) < (l0.length : Int) then (if ((rd_T78 l0 x10_1).f0) ≤ ((rd_T78 l0 (wrap64 (x10_1 - 1))).f0) then (some false) else ((impl_InRange.f ((rd_T78 l0 x10_1).f1) 1 50).bind fun t302 => (if t302 = true then ((impl_InRange.f ((rd_T78 l0 x10_1).f2) 0 999).bind fun t303 => (if t303 = true then (if x10_1 ≤ (l0.length : Int) then ((impl_SlotOf.f (l0.take (x10_1 : Int).toNat) ((rd_T78 l0 x10_1).f2)).bind fun t308 => (if t308 = 0 then (impl_AreSlots.l0 k1 l0 l0 (l0.length : Int) (wrap64 (x10_1 + 1))) else (some false))) else (none)) else (some false))) else (some false)))) else (none)) else (none)) else ((impl_InRange.f ((rd_T78 l0 x10_1).f1) 1 50).bind fun t309 => (if t309 = true then ((impl_InRange.f ((rd_T78 l0 x10_1).f2) 0 999).bind fun t310 => (if t310 = true then (if x10_1 ≤ (l0.length : Int) then ((impl_SlotOf.f (l0.take (x10_1 : Int).toNat) ((rd_T78 l0 x10_1).f2)).bind fun t315 => (if t315 = 0 then (impl_AreSlots.l0 k1 l0 l0 (l0.length : Int) (wrap64 (x10_1 + 1))) else (some false))) else (none)) else (some false))) else (some false)))) else (some false)) = some r := H
       have A6 := Aside0.mk A60
       clear A60
       by_cases c7 : t300 = true
       ·subst c7
        have H1 : (if x10_1 > 0 then (if 0 ≤ (wrap64 (x10_1 - 1)) then (if (wrap64 (x10_1 - 1)) < (l0.length : Int) then (if ((rd_T78 l0 x10_1).f0) ≤ ((rd_T78 l0 (wrap64 (x10_1 - 1))).f0) then (some false) else ((impl_InRange.f ((rd_T78 l0 x10_1).f1) 1 50).bind fun t302 => (if t302 = true then ((impl_InRange.f ((rd_T78 l0 x10_1).f2) 0 999).bind fun t303 => (if t303 = true then (if x10_1 ≤ (l0.length : Int) then ((impl_SlotOf.f (l0.take (x10_1 : Int).toNat) ((rd_T78 l0 x10_1).f2)).bind fun t308 => (if t308 = 0 then (impl_AreSlots.l0 k1 l0 l0 (l0.length : Int) (wrap64 (x10_1 + 1))) else (some false))) else (none)) else (some false))) else (some false)))) else (none)) else (none)) else ((impl_InRange.f ((rd_T78 l0 x10_1).f1) 1 50).bind fun t309 => (if t309 = true then ((impl_InRange.f ((rd_T78 l0 x10_1).f2) 0 999).bind fun t310 => (if t310 = true then (if x10_1 ≤ (l0.length : Int) then ((impl_SlotOf.f (l0.take (x10_1 : Int).toNat) ((rd_T78 l0 x10_1).f2)).bind fun t315 => (if t315 = 0 then (impl_AreSlots.l0 k1 l0 l0 (l0.length : Int) (wrap64 (x10_1 + 1))) else (some false))) else (none)) else (some false))) else (some false)))) = some r := by rw [if_pos rfl] at H; exact H
        clear H
        have H := H1
        clear H1
        by_cases c8 : x10_1 > 0
        ·rw [if_pos c8] at H
         have c8b0 : decide (0 < x10_1) = true := decide_eq_true c8
         clear c8
         obtain ⟨ji9, hji9⟩ : ∃ j_ : Int, (wrap64 (x10_1 - 1)) = j_ := ⟨_, rfl⟩
         replace H : (if 0 ≤ (ji9) then (if (ji9) < (l0.length : Int) then (if ((rd_T78 l0 x10_1).f0) ≤ ((rd_T78 l0 (ji9)).f0) then (some false) else ((impl_InRange.f ((rd_T78 l0 x10_1).f1) 1 50).bind fun t302 => (if t302 = true then ((impl_InRange.f ((rd_T78 l0 x10_1).f2) 0 999).bind fun t303 => (if t303 = true then (if x10_1 ≤ (l0.length : Int) then ((impl_SlotOf.f (l0.take (x10_1 : Int).toNat) ((rd_T78 l0 x10_1).f2)).bind fun t308 => (if t308 = 0 then (impl_AreSlots.l0 k1 l0 l0 (l0.length : Int) (wrap64 (x10_1 + 1))) else (some false))) else (none)) else (some false))) else (some false)))) else (none)) else (none)) = some r := by first | (rw [hji9] at H; exact H) | (simp only [hji9] at H ⊢; exact H)
         (try rw [hji9] at A6)
         have hji9w : (IntKind.i64.wrap (x10_1 - 1)) = ji9 := (i64_w _).trans hji9
         by_cases c10 : 0 ≤ (ji9)
         ·rw [if_pos c10] at H
          have c10b0 : decide (0 ≤ (ji9)) = true := decide_eq_true c10
          clear c10
          by_cases c11 : (ji9) < (l0.length : Int)
          ·rw [if_pos c11] at H
           have c11b0 : decide ((ji9) < (l0.length : Int)) = true := decide_eq_true c11
           clear c11
           by_cases c12 : ((rd_T78 l0 x10_1).f0) ≤ ((rd_T78 l0 (ji9)).f0)
           ·rw [if_pos c12] at H
            have c12b0 : decide (((rd_T78 l0 x10_1).f0) ≤ ((rd_T78 l0 (ji9)).f0)) = true := decide_eq_true c12
            clear c12
            obtain rfl := Option.some.inj H
            have p298 : 0 ≤ (x10_1 : Int) := of_decide_eq_true ‹_›
            have q298 : x10_1 < (l0.length : Int) := of_decide_eq_true ‹_›
            obtain ⟨ad298, e298, hx298_0, hx298_1, hx298_2⟩ := at_T78 HR0.out x10_1 p298 q298
            cases e298
            replace hx298_0 := (HB.out.cell (World.block_lt_of_cell? w _ hx298_0)).trans hx298_0
            replace hx298_1 := (HB.out.cell (World.block_lt_of_cell? w _ hx298_1)).trans hx298_1
            replace hx298_2 := (HB.out.cell (World.block_lt_of_cell? w _ hx298_2)).trans hx298_2
            replace p298 := eq_true p298
            replace q298 := eq_true q298
            try go_wp2_with (first | ((with_reducible refine gate_dst (N := 4) rfl ?_); refine box_event ?hg (N := 4) ?hd (cs := #[.int .i64 0, .int .i64 0, .int .i64 0]) (t := 78) ?hr ?_; (case hd => rfl); (case hg => rfl); (case hr => first | (go_simp; done) | (go_simp; rfl)); intro gb299 hg w13 hbox hb; have n0_ := Aside0.mk (below_step (qB HB) hb); have n1_ := Aside0.mk (hbox); have n2_ := Aside0.mk ((by rw [hg]; exact (below_size (qB HB)) : w.heap.size ≤ gb299)); have n3_ := Aside0.mk ((by rw [hg]; exact (below_size (qB HB)) : w.heap.size ≤ gb299)); clear HB; have HB := n0_; have BK299 := n1_; have GW299 := n2_; have GE299 := n3_; clear n0_ n1_ n2_ n3_; clear hb hbox hg; have hcz14_0 : w13.cell? ⟨gb299, 0, none⟩ = some (.int .i64 0) := cC BK299 0; have hcz14_1 : w13.cell? ⟨gb299, 1, none⟩ = some (.int .i64 0) := cC BK299 1; have hcz14_2 : w13.cell? ⟨gb299, 2, none⟩ = some (.int .i64 0) := cC BK299 2; have hfz14_0 := blk_frozen BK299.out 0; have hfz14_1 := blk_frozen BK299.out 1; have hfz14_2 := blk_frozen BK299.out 2))
            have n0_ : Aside0 ((((w13.setCell ⟨gb299, 0, none⟩ (.int .i64 ((rd_T78 l0 x10_1).f0))).setCell ⟨gb299, 1, none⟩ (.int .i64 ((rd_T78 l0 x10_1).f1))).setCell ⟨gb299, 2, none⟩ (.int .i64 ((rd_T78 l0 x10_1).f2))).heap[gb299]? = some (.cells #[.int .i64 ((rd_T78 l0 x10_1).f0), .int .i64 ((rd_T78 l0 x10_1).f1), .int .i64 ((rd_T78 l0 x10_1).f2)] 78 (0, 0))) := ⟨by (with_reducible repeat first | refine kN ?_ _ | refine kD ?_ | refine kA ?_ _); refine blk_put (cs := #[.int .i64 ((rd_T78 l0 x10_1).f0), .int .i64 ((rd_T78 l0 x10_1).f1), .int .i64 0]) ?_ 2 _ rfl; (with_reducible repeat first | refine kN ?_ _ | refine kD ?_ | refine kA ?_ _); refine blk_put (cs := #[.int .i64 ((rd_T78 l0 x10_1).f0), .int .i64 0, .int .i64 0]) ?_ 1 _ rfl; (with_reducible repeat first | refine kN ?_ _ | refine kD ?_ | refine kA ?_ _); refine blk_put (cs := #[.int .i64 0, .int .i64 0, .int .i64 0]) ?_ 0 _ rfl; (with_reducible repeat first | refine kN ?_ _ | refine kD ?_ | refine kA ?_ _); exact BK299.out⟩
            have n1_ : Aside0 (Below w.heap.size w (((w13.setCell ⟨gb299, 0, none⟩ (.int .i64 ((rd_T78 l0 x10_1).f0))).setCell ⟨gb299, 1, none⟩ (.int .i64 ((rd_T78 l0 x10_1).f1))).setCell ⟨gb299, 2, none⟩ (.int .i64 ((rd_T78 l0 x10_1).f2)))) := ⟨by repeat (first | (with_reducible first | exact HB.out | apply bA | apply bN | apply bD | refine bS ?_ GE299.out) | exact HB.out)⟩
            (try clear BK299)
            (try clear HB)
            generalize (((w13.setCell ⟨gb299, 0, none⟩ (.int .i64 ((rd_T78 l0 x10_1).f0))).setCell ⟨gb299, 1, none⟩ (.int .i64 ((rd_T78 l0 x10_1).f1))).setCell ⟨gb299, 2, none⟩ (.int .i64 ((rd_T78 l0 x10_1).f2))) = w15 at n0_ n1_ ⊢
            have BK299 := n0_
            have HB := n1_
            clear n0_ n1_
            have n0_ := Aside0.mk (blk_drew BK299.out)
            have n1_ := Aside0.mk (below_drew1 HB.out)
            clear BK299
            clear HB
            have BK299 := n0_
            have HB := n1_
            clear n0_ n1_
            have p301 : 0 ≤ ((ji9) : Int) := of_decide_eq_true ‹_›
            have q301 : (ji9) < (l0.length : Int) := of_decide_eq_true ‹_›
            obtain ⟨ad301, e301, hx301_0, hx301_1, hx301_2⟩ := at_T78 HR0.out (ji9) p301 q301
            have hw301_2 := hx301_2
            have hw301_1 := hx301_1
            have hw301_0 := hx301_0
            obtain rfl : ad298 = ad301 := (by injection e301)
            replace hx301_0 := (HB.out.cell (World.block_lt_of_cell? w _ hx301_0)).trans hx301_0
            replace hx301_1 := (HB.out.cell (World.block_lt_of_cell? w _ hx301_1)).trans hx301_1
            replace hx301_2 := (HB.out.cell (World.block_lt_of_cell? w _ hx301_2)).trans hx301_2
            replace p301 := eq_true p301
            replace q301 := eq_true q301
            refine start_ (n := 40) (S := fun w' => w'.cell? ⟨gb299, 0, none⟩ = some (.int .i64 ((rd_T78 l0 x10_1).f0)) ∧ w'.cell? ⟨gb299, 1, none⟩ = some (.int .i64 ((rd_T78 l0 x10_1).f1)) ∧ w'.cell? ⟨gb299, 2, none⟩ = some (.int .i64 ((rd_T78 l0 x10_1).f2)) ∧ w'.cell? (ad298.add (((ji9)).toNat * 3)) = some (.int .i64 ((rd_T78 l0 (ji9)).f0)) ∧ w'.cell? ⟨(ad298.add (((ji9)).toNat * 3)).block, (ad298.add (((ji9)).toNat * 3)).off + 1, none⟩ = some (.int .i64 ((rd_T78 l0 (ji9)).f1)) ∧ w'.cell? ⟨(ad298.add (((ji9)).toNat * 3)).block, (ad298.add (((ji9)).toNat * 3)).off + 2, none⟩ = some (.int .i64 ((rd_T78 l0 (ji9)).f2))) (ds := []) (bR [0, 40]) (by kernel_rfl) rfl rfl ⟨cC BK299 0, cC BK299 1, cC BK299 2, ((HB.out.cell (World.block_lt_of_cell? w _ hw301_0)).trans hw301_0), ((HB.out.cell (World.block_lt_of_cell? w _ hw301_1)).trans hw301_1), ((HB.out.cell (World.block_lt_of_cell? w _ hw301_2)).trans hw301_2)⟩ (fun hHeld => ?_); refine with_tabW impl_AreSlots.tab6 impl_AreSlots.bits6 (fun HT_ HW_ => ?_)
            generalize w15.drew = w16 at BK299 HB hx301_0 hx301_1 hx301_2 hHeld ⊢
            refine pP 0 15 (bR [1, 39]) rfl rfl HT_ ?_
            refine take_ (i := 1) (N := some 16) (v := ?_) (a' := ?_) (bR [2, 38]) rfl rfl (take_ofW HT_.out HW_.out (by kernel_rfl)) (fun _ _ _ h => h) (Or.inl ⟨by rfl, ?_⟩) hHeld ?_ ?_
            rotate_left; (rintro w' ⟨s0, s1, s2, s3, s4, s5⟩; go_simp; with_reducible rfl); rotate_left; (simp only [Act.put, sA, sZ, sS, i64_w]; rfl)
            refine one_ (i := 2) (N := some 17) (bR [3, 37]) rfl rfl (one_of HT_.out (by kernel_rfl)) (by decide) (fun K hK => ?_)
            refine goes_ Try.func138 (by kernel_rfl) rfl #[.int .i64 ((rd_T78 l0 x10_1).f0), .int .i64 1, .int .i64 99] (by rfl) rfl rfl (by (try simp only [mA, mC, mN]); first | done | rfl | (simp only [lD, lT]; rfl)) ?_
            with_reducible refine (impl_InRange.calls ((rd_T78 l0 x10_1).f0) 1 99 true _ A6.out).mono ?_
            rintro e w' ⟨rfl, ⟨nd, rfl⟩⟩
            refine ⟨_, rfl, ?_⟩
            refine hK.out _ _ ⟨cC BK299 0, cC BK299 1, cC BK299 2, ((HB.out.cell (World.block_lt_of_cell? w _ hw301_0)).trans hw301_0), ((HB.out.cell (World.block_lt_of_cell? w _ hw301_1)).trans hw301_1), ((HB.out.cell (World.block_lt_of_cell? w _ hw301_2)).trans hw301_2)⟩ (fun hHeld => ?_)
            clear hK K
            refine norm_ (a' := ?_) ?_ ?_
            rotate_left
            ·show Act.put _ (some 17) _ = _
             simp only [Act.put, sA, sZ, sS, i64_w]
             rfl
            refine pP 3 18 (bR [4, 36]) rfl rfl HT_ ?_
            refine pP 4 19 (bR [5, 35]) rfl rfl HT_ ?_
            refine pP 5 20 (bR [6, 34]) rfl rfl HT_ ?_
            refine pP 6 21 (bR [7, 33]) rfl rfl HT_ ?_
            refine pP 7 22 (bR [8, 32]) rfl rfl HT_ ?_
            refine pP 8 23 (bR [9, 31]) rfl rfl HT_ ?_
            refine pP 10 25 (bR [9, 1, 1, 29]) rfl rfl HT_ ?_
            refine pP 11 26 (bR [9, 1, 2, 28]) rfl rfl HT_ ?_
            refine pP 12 27 (bR [9, 1, 3, 27]) rfl rfl HT_ ?_
            refine pP 13 28 (bR [9, 1, 4, 26]) rfl rfl HT_ ?_
            refine pP 14 29 (bR [9, 1, 5, 25]) rfl rfl HT_ ?_
            refine take_ (i := 9) (N := some 24) (v := ?_) (a' := ?_) (bR [15, 25]) rfl rfl (take_ofW HT_.out HW_.out (by kernel_rfl)) (fun _ _ _ h => h) (Or.inl ⟨by rfl, ?_⟩) hHeld ?_ ?_
            rotate_left; (rintro w' ⟨s0, s1, s2, s3, s4, s5⟩; go_simp; with_reducible rfl); rotate_left; (simp only [Act.put, sA, sZ, sS, i64_w]; rfl)
            refine take_ (i := 15) (N := some 30) (v := ?_) (a' := ?_) (bR [16, 24]) rfl rfl (take_ofW HT_.out HW_.out (by kernel_rfl)) (fun _ _ _ h => h) (Or.inl ⟨by rfl, ?_⟩) hHeld ?_ ?_
            rotate_left; (rintro w' ⟨s0, s1, s2, s3, s4, s5⟩; go_simp; with_reducible rfl); rotate_left; (simp only [Act.put, sA, sZ, sS, i64_w]; rfl)
            refine pP 16 31 (bR [17, 23]) rfl rfl HT_ ?_
            refine pP 17 32 (bR [18, 22]) rfl rfl HT_ ?_
            refine pP 18 33 (bR [19, 21]) rfl rfl HT_ ?_
            refine pP 19 34 (bR [20, 20]) rfl rfl HT_ ?_
            refine pU 20 35 (bR [21, 19]) rfl rfl HT_ ?_
            refine pU 21 36 (bR [22, 18]) rfl rfl HT_ ?_
            refine pU 22 37 (bR [23, 17]) rfl rfl HT_ ?_
            refine pU 23 38 (bR [24, 16]) rfl rfl HT_ ?_
            refine pP 24 39 (bR [25, 15]) rfl rfl HT_ ?_
            refine pP 25 40 (bR [26, 14]) rfl rfl HT_ ?_
            refine pU 26 41 (bR [27, 13]) rfl rfl HT_ ?_
            refine pU 27 42 (bR [28, 12]) rfl rfl HT_ ?_
            refine pU 28 43 (bR [29, 11]) rfl rfl HT_ ?_
            refine pU 29 44 (bR [30, 10]) rfl rfl HT_ ?_
            refine pP 30 45 (bR [31, 9]) rfl rfl HT_ ?_
            refine pP 31 46 (bR [32, 8]) rfl rfl HT_ ?_
            refine pU 32 47 (bR [33, 7]) rfl rfl HT_ ?_
            refine pU 33 48 (bR [34, 6]) rfl rfl HT_ ?_
            refine pU 34 49 (bR [35, 5]) rfl rfl HT_ ?_
            refine pU 35 50 (bR [36, 4]) rfl rfl HT_ ?_
            refine pU 36 51 (bR [37, 3]) rfl rfl HT_ ?_
            refine pU 37 52 (bR [38, 2]) rfl rfl HT_ ?_
            refine pU 38 53 (bR [39, 1]) rfl rfl HT_ ?_
            refine pP 39 54 (bR [40]) rfl rfl HT_ ?_
            refine done_ (done_of HT_.out (by kernel_rfl)) ?_
            try go_wp2
            go_ret
            exact ⟨by first | rfl | (simp [errW_none, errW_some] <;> rfl) | (simp only [← hji9]; first | rfl | (simp [errW_none, errW_some] <;> rfl)) | (simp [*, errW_none, errW_some] <;> rfl), by repeat (first | (with_reducible first | exact HB.out | apply bA | apply bN | apply bD | refine bS ?_ GE299.out) | exact HB.out)⟩
           ·rw [if_neg c12] at H
            have c12b0 : decide (((rd_T78 l0 x10_1).f0) ≤ ((rd_T78 l0 (ji9)).f0)) = false := decide_eq_false c12
            clear c12
            replace H := Option.bind_eq_some_iff.mp H
            obtain ⟨t302, A170, H⟩ := H
            replace H : (if t302 = true then ((impl_InRange.f ((rd_T78 l0 x10_1).f2) 0 999).bind fun t303 => (if t303 = true then (if x10_1 ≤ (l0.length : Int) then ((impl_SlotOf.f (l0.take (x10_1 : Int).toNat) ((rd_T78 l0 x10_1).f2)).bind fun t308 => (if t308 = 0 then (impl_AreSlots.l0 k1 l0 l0 (l0.length : Int) (wrap64 (x10_1 + 1))) else (some false))) else (none)) else (some false))) else (some false)) = some r := H
            have A17 := Aside0.mk A170
            clear A170
            by_cases c18 : t302 = true
            ·subst c18
             have H1 : ((impl_InRange.f ((rd_T78 l0 x10_1).f2) 0 999).bind fun t303 => (if t303 = true then (if x10_1 ≤ (l0.length : Int) then ((impl_SlotOf.f (l0.take (x10_1 : Int).toNat) ((rd_T78 l0 x10_1).f2)).bind fun t308 => (if t308 = 0 then (impl_AreSlots.l0 k1 l0 l0 (l0.length : Int) (wrap64 (x10_1 + 1))) else (some false))) else (none)) else (some false))) = some r := by rw [if_pos rfl] at H; exact H
             clear H
             have H := H1
             clear H1
             replace H := Option.bind_eq_some_iff.mp H
             obtain ⟨t303, A190, H⟩ := H
             replace H : (if t303 = true then (if x10_1 ≤ (l0.length : Int) then ((impl_SlotOf.f (l0.take (x10_1 : Int).toNat) ((rd_T78 l0 x10_1).f2)).bind fun t308 => (if t308 = 0 then (impl_AreSlots.l0 k1 l0 l0 (l0.length : Int) (wrap64 (x10_1 + 1))) else (some false))) else (none)) else (some false)) = some r := H
             have A19 := Aside0.mk A190
             clear A190
             by_cases c20 : t303 = true
             ·subst c20
              have H1 : (if x10_1 ≤ (l0.length : Int) then ((impl_SlotOf.f (l0.take (x10_1 : Int).toNat) ((rd_T78 l0 x10_1).f2)).bind fun t308 => (if t308 = 0 then (impl_AreSlots.l0 k1 l0 l0 (l0.length : Int) (wrap64 (x10_1 + 1))) else (some false))) else (none)) = some r := by rw [if_pos rfl] at H; exact H
              clear H
              have H := H1
              clear H1
              have c21b0 := eq_true (of_decide_eq_true ‹_› : 0 ≤ x10_1)
              by_cases c22 : x10_1 ≤ (l0.length : Int)
              ·rw [if_pos c22] at H
               have c22b0 := eq_true c22
               have c22b1 : decide (x10_1 ≤ (l0.length : Int)) = true := decide_eq_true c22
               clear c22
               obtain ⟨y304, hy304⟩ : ∃ y_ : List (S78), y_ = (l0.take (x10_1 : Int).toNat) := ⟨_, rfl⟩
               replace H : ((impl_SlotOf.f y304 ((rd_T78 l0 x10_1).f2)).bind fun t308 => (if t308 = 0 then (impl_AreSlots.l0 k1 l0 l0 (l0.length : Int) (wrap64 (x10_1 + 1))) else (some false))) = some r := by first | (rw [hy304]; with_reducible exact H) | (have H2_ := (Option.bind_some _ _).symm.trans H; rw [hy304]; with_reducible exact H2_) | (have H2_ := (Option.bind_some _ _).symm.trans H; with_reducible exact H2_) | with_reducible exact H | (rw [hy304]; exact H) | exact H
               have Ny304 := Aside0.mk hy304
               clear hy304
               replace H := Option.bind_eq_some_iff.mp H
               obtain ⟨t308, A230, H⟩ := H
               replace H : (if t308 = 0 then (impl_AreSlots.l0 k1 l0 l0 (l0.length : Int) (wrap64 (x10_1 + 1))) else (some false)) = some r := H
               have A23 := Aside0.mk A230
               clear A230
               by_cases c24 : t308 = 0
               ·rw [if_pos c24] at H
                have c24b0 : (t308 == 0) = true := beq_iff_eq.mpr c24
                have c24b1 : (t308 != 0) = false := bne_eq_false_iff_eq.mpr c24
                clear c24
                have H' := Aside0.mk H
                clear H
                have p298 : 0 ≤ (x10_1 : Int) := of_decide_eq_true ‹_›
                have q298 : x10_1 < (l0.length : Int) := of_decide_eq_true ‹_›
                obtain ⟨ad298, e298, hx298_0, hx298_1, hx298_2⟩ := at_T78 HR0.out x10_1 p298 q298
                cases e298
                replace hx298_0 := (HB.out.cell (World.block_lt_of_cell? w _ hx298_0)).trans hx298_0
                replace hx298_1 := (HB.out.cell (World.block_lt_of_cell? w _ hx298_1)).trans hx298_1
                replace hx298_2 := (HB.out.cell (World.block_lt_of_cell? w _ hx298_2)).trans hx298_2
                replace p298 := eq_true p298
                replace q298 := eq_true q298
                try go_wp2_with (first | ((with_reducible refine gate_dst (N := 4) rfl ?_); refine box_event ?hg (N := 4) ?hd (cs := #[.int .i64 0, .int .i64 0, .int .i64 0]) (t := 78) ?hr ?_; (case hd => rfl); (case hg => rfl); (case hr => first | (go_simp; done) | (go_simp; rfl)); intro gb299 hg w25 hbox hb; have n0_ := Aside0.mk (below_step (qB HB) hb); have n1_ := Aside0.mk (hbox); have n2_ := Aside0.mk ((by rw [hg]; exact (below_size (qB HB)) : w.heap.size ≤ gb299)); have n3_ := Aside0.mk ((by rw [hg]; exact (below_size (qB HB)) : w.heap.size ≤ gb299)); clear HB; have HB := n0_; have BK299 := n1_; have GW299 := n2_; have GE299 := n3_; clear n0_ n1_ n2_ n3_; clear hb hbox hg; have hcz26_0 : w25.cell? ⟨gb299, 0, none⟩ = some (.int .i64 0) := cC BK299 0; have hcz26_1 : w25.cell? ⟨gb299, 1, none⟩ = some (.int .i64 0) := cC BK299 1; have hcz26_2 : w25.cell? ⟨gb299, 2, none⟩ = some (.int .i64 0) := cC BK299 2; have hfz26_0 := blk_frozen BK299.out 0; have hfz26_1 := blk_frozen BK299.out 1; have hfz26_2 := blk_frozen BK299.out 2))
                have n0_ : Aside0 ((((w25.setCell ⟨gb299, 0, none⟩ (.int .i64 ((rd_T78 l0 x10_1).f0))).setCell ⟨gb299, 1, none⟩ (.int .i64 ((rd_T78 l0 x10_1).f1))).setCell ⟨gb299, 2, none⟩ (.int .i64 ((rd_T78 l0 x10_1).f2))).heap[gb299]? = some (.cells #[.int .i64 ((rd_T78 l0 x10_1).f0), .int .i64 ((rd_T78 l0 x10_1).f1), .int .i64 ((rd_T78 l0 x10_1).f2)] 78 (0, 0))) := ⟨by (with_reducible repeat first | refine kN ?_ _ | refine kD ?_ | refine kA ?_ _); refine blk_put (cs := #[.int .i64 ((rd_T78 l0 x10_1).f0), .int .i64 ((rd_T78 l0 x10_1).f1), .int .i64 0]) ?_ 2 _ rfl; (with_reducible repeat first | refine kN ?_ _ | refine kD ?_ | refine kA ?_ _); refine blk_put (cs := #[.int .i64 ((rd_T78 l0 x10_1).f0), .int .i64 0, .int .i64 0]) ?_ 1 _ rfl; (with_reducible repeat first | refine kN ?_ _ | refine kD ?_ | refine kA ?_ _); refine blk_put (cs := #[.int .i64 0, .int .i64 0, .int .i64 0]) ?_ 0 _ rfl; (with_reducible repeat first | refine kN ?_ _ | refine kD ?_ | refine kA ?_ _); exact BK299.out⟩
                have n1_ : Aside0 (Below w.heap.size w (((w25.setCell ⟨gb299, 0, none⟩ (.int .i64 ((rd_T78 l0 x10_1).f0))).setCell ⟨gb299, 1, none⟩ (.int .i64 ((rd_T78 l0 x10_1).f1))).setCell ⟨gb299, 2, none⟩ (.int .i64 ((rd_T78 l0 x10_1).f2)))) := ⟨by repeat (first | (with_reducible first | exact HB.out | apply bA | apply bN | apply bD | refine bS ?_ GE299.out) | exact HB.out)⟩
                (try clear BK299)
                (try clear HB)
                generalize (((w25.setCell ⟨gb299, 0, none⟩ (.int .i64 ((rd_T78 l0 x10_1).f0))).setCell ⟨gb299, 1, none⟩ (.int .i64 ((rd_T78 l0 x10_1).f1))).setCell ⟨gb299, 2, none⟩ (.int .i64 ((rd_T78 l0 x10_1).f2))) = w27 at n0_ n1_ ⊢
                have BK299 := n0_
                have HB := n1_
                clear n0_ n1_
                have n0_ := Aside0.mk (blk_drew BK299.out)
                have n1_ := Aside0.mk (below_drew1 HB.out)
                clear BK299
                clear HB
                have BK299 := n0_
                have HB := n1_
                clear n0_ n1_
                have p301 : 0 ≤ ((ji9) : Int) := of_decide_eq_true ‹_›
                have q301 : (ji9) < (l0.length : Int) := of_decide_eq_true ‹_›
                obtain ⟨ad301, e301, hx301_0, hx301_1, hx301_2⟩ := at_T78 HR0.out (ji9) p301 q301
                have hw301_2 := hx301_2
                have hw301_1 := hx301_1
                have hw301_0 := hx301_0
                obtain rfl : ad298 = ad301 := (by injection e301)
                replace hx301_0 := (HB.out.cell (World.block_lt_of_cell? w _ hx301_0)).trans hx301_0
                replace hx301_1 := (HB.out.cell (World.block_lt_of_cell? w _ hx301_1)).trans hx301_1
                replace hx301_2 := (HB.out.cell (World.block_lt_of_cell? w _ hx301_2)).trans hx301_2
                replace p301 := eq_true p301
                replace q301 := eq_true q301
                refine start_ (n := 40) (S := fun w' => w'.cell? ⟨gb299, 0, none⟩ = some (.int .i64 ((rd_T78 l0 x10_1).f0)) ∧ w'.cell? ⟨gb299, 1, none⟩ = some (.int .i64 ((rd_T78 l0 x10_1).f1)) ∧ w'.cell? ⟨gb299, 2, none⟩ = some (.int .i64 ((rd_T78 l0 x10_1).f2)) ∧ w'.cell? (ad298.add (((ji9)).toNat * 3)) = some (.int .i64 ((rd_T78 l0 (ji9)).f0)) ∧ w'.cell? ⟨(ad298.add (((ji9)).toNat * 3)).block, (ad298.add (((ji9)).toNat * 3)).off + 1, none⟩ = some (.int .i64 ((rd_T78 l0 (ji9)).f1)) ∧ w'.cell? ⟨(ad298.add (((ji9)).toNat * 3)).block, (ad298.add (((ji9)).toNat * 3)).off + 2, none⟩ = some (.int .i64 ((rd_T78 l0 (ji9)).f2))) (ds := []) (bR [0, 40]) (by kernel_rfl) rfl rfl ⟨cC BK299 0, cC BK299 1, cC BK299 2, ((HB.out.cell (World.block_lt_of_cell? w _ hw301_0)).trans hw301_0), ((HB.out.cell (World.block_lt_of_cell? w _ hw301_1)).trans hw301_1), ((HB.out.cell (World.block_lt_of_cell? w _ hw301_2)).trans hw301_2)⟩ (fun hHeld => ?_); refine with_tabW impl_AreSlots.tab6 impl_AreSlots.bits6 (fun HT_ HW_ => ?_)
                generalize w27.drew = w28 at BK299 HB hx301_0 hx301_1 hx301_2 hHeld ⊢
                refine pP 0 15 (bR [1, 39]) rfl rfl HT_ ?_
                refine take_ (i := 1) (N := some 16) (v := ?_) (a' := ?_) (bR [2, 38]) rfl rfl (take_ofW HT_.out HW_.out (by kernel_rfl)) (fun _ _ _ h => h) (Or.inl ⟨by rfl, ?_⟩) hHeld ?_ ?_
                rotate_left; (rintro w' ⟨s0, s1, s2, s3, s4, s5⟩; go_simp; with_reducible rfl); rotate_left; (simp only [Act.put, sA, sZ, sS, i64_w]; rfl)
                refine one_ (i := 2) (N := some 17) (bR [3, 37]) rfl rfl (one_of HT_.out (by kernel_rfl)) (by decide) (fun K hK => ?_)
                refine goes_ Try.func138 (by kernel_rfl) rfl #[.int .i64 ((rd_T78 l0 x10_1).f0), .int .i64 1, .int .i64 99] (by rfl) rfl rfl (by (try simp only [mA, mC, mN]); first | done | rfl | (simp only [lD, lT]; rfl)) ?_
                with_reducible refine (impl_InRange.calls ((rd_T78 l0 x10_1).f0) 1 99 true _ A6.out).mono ?_
                rintro e w' ⟨rfl, ⟨nd, rfl⟩⟩
                refine ⟨_, rfl, ?_⟩
                refine hK.out _ _ ⟨cC BK299 0, cC BK299 1, cC BK299 2, ((HB.out.cell (World.block_lt_of_cell? w _ hw301_0)).trans hw301_0), ((HB.out.cell (World.block_lt_of_cell? w _ hw301_1)).trans hw301_1), ((HB.out.cell (World.block_lt_of_cell? w _ hw301_2)).trans hw301_2)⟩ (fun hHeld => ?_)
                clear hK K
                refine norm_ (a' := ?_) ?_ ?_
                rotate_left
                ·show Act.put _ (some 17) _ = _
                 simp only [Act.put, sA, sZ, sS, i64_w]
                 rfl
                refine pP 3 18 (bR [4, 36]) rfl rfl HT_ ?_
                refine pP 4 19 (bR [5, 35]) rfl rfl HT_ ?_
                refine pP 5 20 (bR [6, 34]) rfl rfl HT_ ?_
                refine pP 6 21 (bR [7, 33]) rfl rfl HT_ ?_
                refine pP 7 22 (bR [8, 32]) rfl rfl HT_ ?_
                refine pP 8 23 (bR [9, 31]) rfl rfl HT_ ?_
                refine pP 10 25 (bR [9, 1, 1, 29]) rfl rfl HT_ ?_
                refine pP 11 26 (bR [9, 1, 2, 28]) rfl rfl HT_ ?_
                refine pP 12 27 (bR [9, 1, 3, 27]) rfl rfl HT_ ?_
                refine pP 13 28 (bR [9, 1, 4, 26]) rfl rfl HT_ ?_
                refine pP 14 29 (bR [9, 1, 5, 25]) rfl rfl HT_ ?_
                refine take_ (i := 9) (N := some 24) (v := ?_) (a' := ?_) (bR [15, 25]) rfl rfl (take_ofW HT_.out HW_.out (by kernel_rfl)) (fun _ _ _ h => h) (Or.inl ⟨by rfl, ?_⟩) hHeld ?_ ?_
                rotate_left; (rintro w' ⟨s0, s1, s2, s3, s4, s5⟩; go_simp; with_reducible rfl); rotate_left; (simp only [Act.put, sA, sZ, sS, i64_w]; rfl)
                refine take_ (i := 15) (N := some 30) (v := ?_) (a' := ?_) (bR [16, 24]) rfl rfl (take_ofW HT_.out HW_.out (by kernel_rfl)) (fun _ _ _ h => h) (Or.inl ⟨by rfl, ?_⟩) hHeld ?_ ?_
                rotate_left; (rintro w' ⟨s0, s1, s2, s3, s4, s5⟩; go_simp; with_reducible rfl); rotate_left; (simp only [Act.put, sA, sZ, sS, i64_w]; rfl)
                refine pP 16 31 (bR [17, 23]) rfl rfl HT_ ?_
                refine pP 17 32 (bR [18, 22]) rfl rfl HT_ ?_
                refine pP 18 33 (bR [19, 21]) rfl rfl HT_ ?_
                refine pP 19 34 (bR [20, 20]) rfl rfl HT_ ?_
                refine pP 20 35 (bR [21, 19]) rfl rfl HT_ ?_
                refine take_ (i := 21) (N := some 36) (v := ?_) (a' := ?_) (bR [22, 18]) rfl rfl (take_ofW HT_.out HW_.out (by kernel_rfl)) (fun _ _ _ h => h) (Or.inl ⟨by rfl, ?_⟩) hHeld ?_ ?_
                rotate_left; (rintro w' ⟨s0, s1, s2, s3, s4, s5⟩; go_simp; with_reducible rfl); rotate_left; (simp only [Act.put, sA, sZ, sS, i64_w]; rfl)
                refine one_ (i := 22) (N := some 37) (bR [23, 17]) rfl rfl (one_of HT_.out (by kernel_rfl)) (by decide) (fun K hK => ?_)
                refine goes_ Try.func138 (by kernel_rfl) rfl #[.int .i64 ((rd_T78 l0 x10_1).f1), .int .i64 1, .int .i64 50] (by rfl) rfl rfl (by (try simp only [mA, mC, mN]); first | done | rfl | (simp only [lD, lT]; rfl)) ?_
                with_reducible refine (impl_InRange.calls ((rd_T78 l0 x10_1).f1) 1 50 true _ A17.out).mono ?_
                rintro e w' ⟨rfl, ⟨nd, rfl⟩⟩
                refine ⟨_, rfl, ?_⟩
                refine hK.out _ _ ⟨cC BK299 0, cC BK299 1, cC BK299 2, ((HB.out.cell (World.block_lt_of_cell? w _ hw301_0)).trans hw301_0), ((HB.out.cell (World.block_lt_of_cell? w _ hw301_1)).trans hw301_1), ((HB.out.cell (World.block_lt_of_cell? w _ hw301_2)).trans hw301_2)⟩ (fun hHeld => ?_)
                clear hK K
                refine norm_ (a' := ?_) ?_ ?_
                rotate_left
                ·show Act.put _ (some 37) _ = _
                 simp only [Act.put, sA, sZ, sS, i64_w]
                 rfl
                refine pP 23 38 (bR [24, 16]) rfl rfl HT_ ?_
                refine pP 24 39 (bR [25, 15]) rfl rfl HT_ ?_
                refine pP 25 40 (bR [26, 14]) rfl rfl HT_ ?_
                refine pP 26 41 (bR [27, 13]) rfl rfl HT_ ?_
                refine take_ (i := 27) (N := some 42) (v := ?_) (a' := ?_) (bR [28, 12]) rfl rfl (take_ofW HT_.out HW_.out (by kernel_rfl)) (fun _ _ _ h => h) (Or.inl ⟨by rfl, ?_⟩) hHeld ?_ ?_
                rotate_left; (rintro w' ⟨s0, s1, s2, s3, s4, s5⟩; go_simp; with_reducible rfl); rotate_left; (simp only [Act.put, sA, sZ, sS, i64_w]; rfl)
                refine one_ (i := 28) (N := some 43) (bR [29, 11]) rfl rfl (one_of HT_.out (by kernel_rfl)) (by decide) (fun K hK => ?_)
                refine goes_ Try.func138 (by kernel_rfl) rfl #[.int .i64 ((rd_T78 l0 x10_1).f2), .int .i64 0, .int .i64 999] (by rfl) rfl rfl (by (try simp only [mA, mC, mN]); first | done | rfl | (simp only [lD, lT]; rfl)) ?_
                with_reducible refine (impl_InRange.calls ((rd_T78 l0 x10_1).f2) 0 999 true _ A19.out).mono ?_
                rintro e w' ⟨rfl, ⟨nd, rfl⟩⟩
                refine ⟨_, rfl, ?_⟩
                have q29 : (x10_1 : Int) ≤ ((l0.length : Int) : Int) := of_decide_eq_true ‹_›
                obtain ⟨i029, hi029, _, hsz29, _⟩ := info_parts info78
                have hroom29 : l0.length ≤ c0 := HC0.out
                have hC29 : Kd.C k78 _ (some ad298) l0.length l0 := HR0.out
                have hcut29 := cut_to (P := Try.prog) 54 78 .i64 Try.underlying54 hi029 (some ad298) l0.length c0 x10_1 (of_decide_eq_true ‹_›) q29 hroom29
                have hr29 := Kd.C_take (m := (x10_1 : Int).toNat) hC29 (by omega)
                have hy29 : y304.length = (x10_1 : Int).toNat := (by rw [Ny304.out, List.length_take]; omega)
                rw [← Ny304.out] at hr29
                rw [← hy29] at hcut29
                have HR307 := Aside0.mk hr29
                have HC307 := Aside0.mk (show y304.length ≤ c0 from by omega)
                clear hr29 hC29 hroom29 hi029 hsz29
                have KY29 := Aside0.mk hy29
                clear hy29
                replace q29 := eq_true q29
                refine hK.out _ _ ⟨cC BK299 0, cC BK299 1, cC BK299 2, ((HB.out.cell (World.block_lt_of_cell? w _ hw301_0)).trans hw301_0), ((HB.out.cell (World.block_lt_of_cell? w _ hw301_1)).trans hw301_1), ((HB.out.cell (World.block_lt_of_cell? w _ hw301_2)).trans hw301_2)⟩ (fun hHeld => ?_)
                clear hK K
                refine norm_ (a' := ?_) ?_ ?_
                rotate_left
                ·show Act.put _ (some 43) _ = _
                 simp only [Act.put, sA, sZ, sS, i64_w]
                 rfl
                refine pP 29 44 (bR [30, 10]) rfl rfl HT_ ?_
                refine pP 30 45 (bR [31, 9]) rfl rfl HT_ ?_
                refine pP 31 46 (bR [32, 8]) rfl rfl HT_ ?_
                refine pP 32 47 (bR [33, 7]) rfl rfl HT_ ?_
                refine pP 33 48 (bR [34, 6]) rfl rfl HT_ ?_
                refine pP 34 49 (bR [35, 5]) rfl rfl HT_ ?_
                refine pP 35 50 (bR [36, 4]) rfl rfl HT_ ?_
                refine take_ (i := 36) (N := some 51) (v := ?_) (a' := ?_) (bR [37, 3]) rfl rfl (take_ofW HT_.out HW_.out (by kernel_rfl)) (fun _ _ _ h => h) (Or.inl ⟨by rfl, ?_⟩) hHeld ?_ ?_
                rotate_left; (rintro w' ⟨s0, s1, s2, s3, s4, s5⟩; go_simp; with_reducible rfl); rotate_left; (simp only [Act.put, sA, sZ, sS, i64_w]; rfl)
                refine one_ (i := 37) (N := some 52) (bR [38, 2]) rfl rfl (one_of HT_.out (by kernel_rfl)) (by decide) (fun K hK => ?_)
                refine goes_ Try.func49 (by kernel_rfl) rfl #[.slice (some ad298) y304.length c0, .int .i64 ((rd_T78 l0 x10_1).f2)] (by rfl) rfl rfl (by (try simp only [mA, mC, mN]); first | done | rfl | (simp only [lD, lT]; rfl)) ?_
                with_reducible refine (impl_SlotOf.calls _ _ y304 ((rd_T78 l0 x10_1).f2) t308 _ ?side1 ?side2 A23.out).mono ?_
                (case side1 => repeat (first | exact (Kd.C_below HR307.out (by repeat first | (with_reducible first | exact HB.out | apply bA | apply bN | apply bD | refine bS ?_ GE299.out) | exact HB.out)) | (with_reducible refine Kd.C_alloc ?_ _) | (with_reducible refine Kd.C_drewN ?_ _) | (with_reducible refine Kd.C_drew ?_)))
                (case side2 => exact HC307.out)
                rintro e w30 ⟨rfl, hb⟩
                refine ⟨_, rfl, ?_⟩
                have n0_ := Aside0.mk (blk_below (qK BK299) hb)
                have n1_ := Aside0.mk (below_step (by repeat first | (with_reducible first | exact HB.out | apply bA | apply bN | apply bD | refine bS ?_ GE299.out) | exact HB.out) hb)
                clear BK299
                clear HB
                have BK299 := n0_
                have HB := n1_
                clear n0_ n1_
                (try clear hb)
                (try clear hb2)
                (try clear hk)
                (try clear hi)
                refine hK.out _ _ ⟨cC BK299 0, cC BK299 1, cC BK299 2, ((HB.out.cell (World.block_lt_of_cell? w _ hw301_0)).trans hw301_0), ((HB.out.cell (World.block_lt_of_cell? w _ hw301_1)).trans hw301_1), ((HB.out.cell (World.block_lt_of_cell? w _ hw301_2)).trans hw301_2)⟩ (fun hHeld => ?_)
                clear hK K
                refine norm_ (a' := ?_) ?_ ?_
                rotate_left
                ·show Act.put _ (some 52) _ = _
                 simp only [Act.put, sA, sZ, sS, i64_w]
                 rfl
                refine pP 38 53 (bR [39, 1]) rfl rfl HT_ ?_
                refine pP 39 54 (bR [40]) rfl rfl HT_ ?_
                refine done_ (done_of HT_.out (by kernel_rfl)) ?_
                try go_wp2
                go_roundg k1
                case measure => have := HK1.out; omega
                case rel => exact ⟨(wrap64 (x10_1 + 1)), (by first | rfl | (simp; done) | (simp [*]; done)), H', ⟨by have := HK1.out; omega⟩, ⟨by repeat (first | (with_reducible first | exact HB.out | apply bA | apply bN | apply bD | refine bS ?_ GE299.out) | exact HB.out)⟩⟩
               ·rw [if_neg c24] at H
                have c24b0 : (t308 == 0) = false := beq_eq_false_iff_ne.mpr c24
                have c24b1 : (t308 != 0) = true := bne_iff_ne.mpr c24
                obtain rfl := Option.some.inj H
                have p298 : 0 ≤ (x10_1 : Int) := of_decide_eq_true ‹_›
                have q298 : x10_1 < (l0.length : Int) := of_decide_eq_true ‹_›
                obtain ⟨ad298, e298, hx298_0, hx298_1, hx298_2⟩ := at_T78 HR0.out x10_1 p298 q298
                cases e298
                replace hx298_0 := (HB.out.cell (World.block_lt_of_cell? w _ hx298_0)).trans hx298_0
                replace hx298_1 := (HB.out.cell (World.block_lt_of_cell? w _ hx298_1)).trans hx298_1
                replace hx298_2 := (HB.out.cell (World.block_lt_of_cell? w _ hx298_2)).trans hx298_2
                replace p298 := eq_true p298
                replace q298 := eq_true q298
                try go_wp2_with (first | ((with_reducible refine gate_dst (N := 4) rfl ?_); refine box_event ?hg (N := 4) ?hd (cs := #[.int .i64 0, .int .i64 0, .int .i64 0]) (t := 78) ?hr ?_; (case hd => rfl); (case hg => rfl); (case hr => first | (go_simp; done) | (go_simp; rfl)); intro gb299 hg w31 hbox hb; have n0_ := Aside0.mk (below_step (qB HB) hb); have n1_ := Aside0.mk (hbox); have n2_ := Aside0.mk ((by rw [hg]; exact (below_size (qB HB)) : w.heap.size ≤ gb299)); have n3_ := Aside0.mk ((by rw [hg]; exact (below_size (qB HB)) : w.heap.size ≤ gb299)); clear HB; have HB := n0_; have BK299 := n1_; have GW299 := n2_; have GE299 := n3_; clear n0_ n1_ n2_ n3_; clear hb hbox hg; have hcz32_0 : w31.cell? ⟨gb299, 0, none⟩ = some (.int .i64 0) := cC BK299 0; have hcz32_1 : w31.cell? ⟨gb299, 1, none⟩ = some (.int .i64 0) := cC BK299 1; have hcz32_2 : w31.cell? ⟨gb299, 2, none⟩ = some (.int .i64 0) := cC BK299 2; have hfz32_0 := blk_frozen BK299.out 0; have hfz32_1 := blk_frozen BK299.out 1; have hfz32_2 := blk_frozen BK299.out 2))
                have n0_ : Aside0 ((((w31.setCell ⟨gb299, 0, none⟩ (.int .i64 ((rd_T78 l0 x10_1).f0))).setCell ⟨gb299, 1, none⟩ (.int .i64 ((rd_T78 l0 x10_1).f1))).setCell ⟨gb299, 2, none⟩ (.int .i64 ((rd_T78 l0 x10_1).f2))).heap[gb299]? = some (.cells #[.int .i64 ((rd_T78 l0 x10_1).f0), .int .i64 ((rd_T78 l0 x10_1).f1), .int .i64 ((rd_T78 l0 x10_1).f2)] 78 (0, 0))) := ⟨by (with_reducible repeat first | refine kN ?_ _ | refine kD ?_ | refine kA ?_ _); refine blk_put (cs := #[.int .i64 ((rd_T78 l0 x10_1).f0), .int .i64 ((rd_T78 l0 x10_1).f1), .int .i64 0]) ?_ 2 _ rfl; (with_reducible repeat first | refine kN ?_ _ | refine kD ?_ | refine kA ?_ _); refine blk_put (cs := #[.int .i64 ((rd_T78 l0 x10_1).f0), .int .i64 0, .int .i64 0]) ?_ 1 _ rfl; (with_reducible repeat first | refine kN ?_ _ | refine kD ?_ | refine kA ?_ _); refine blk_put (cs := #[.int .i64 0, .int .i64 0, .int .i64 0]) ?_ 0 _ rfl; (with_reducible repeat first | refine kN ?_ _ | refine kD ?_ | refine kA ?_ _); exact BK299.out⟩
                have n1_ : Aside0 (Below w.heap.size w (((w31.setCell ⟨gb299, 0, none⟩ (.int .i64 ((rd_T78 l0 x10_1).f0))).setCell ⟨gb299, 1, none⟩ (.int .i64 ((rd_T78 l0 x10_1).f1))).setCell ⟨gb299, 2, none⟩ (.int .i64 ((rd_T78 l0 x10_1).f2)))) := ⟨by repeat (first | (with_reducible first | exact HB.out | apply bA | apply bN | apply bD | refine bS ?_ GE299.out) | exact HB.out)⟩
                (try clear BK299)
                (try clear HB)
                generalize (((w31.setCell ⟨gb299, 0, none⟩ (.int .i64 ((rd_T78 l0 x10_1).f0))).setCell ⟨gb299, 1, none⟩ (.int .i64 ((rd_T78 l0 x10_1).f1))).setCell ⟨gb299, 2, none⟩ (.int .i64 ((rd_T78 l0 x10_1).f2))) = w33 at n0_ n1_ ⊢
                have BK299 := n0_
                have HB := n1_
                clear n0_ n1_
                have n0_ := Aside0.mk (blk_drew BK299.out)
                have n1_ := Aside0.mk (below_drew1 HB.out)
                clear BK299
                clear HB
                have BK299 := n0_
                have HB := n1_
                clear n0_ n1_
                have p301 : 0 ≤ ((ji9) : Int) := of_decide_eq_true ‹_›
                have q301 : (ji9) < (l0.length : Int) := of_decide_eq_true ‹_›
                obtain ⟨ad301, e301, hx301_0, hx301_1, hx301_2⟩ := at_T78 HR0.out (ji9) p301 q301
                have hw301_2 := hx301_2
                have hw301_1 := hx301_1
                have hw301_0 := hx301_0
                obtain rfl : ad298 = ad301 := (by injection e301)
                replace hx301_0 := (HB.out.cell (World.block_lt_of_cell? w _ hx301_0)).trans hx301_0
                replace hx301_1 := (HB.out.cell (World.block_lt_of_cell? w _ hx301_1)).trans hx301_1
                replace hx301_2 := (HB.out.cell (World.block_lt_of_cell? w _ hx301_2)).trans hx301_2
                replace p301 := eq_true p301
                replace q301 := eq_true q301
                refine start_ (n := 40) (S := fun w' => w'.cell? ⟨gb299, 0, none⟩ = some (.int .i64 ((rd_T78 l0 x10_1).f0)) ∧ w'.cell? ⟨gb299, 1, none⟩ = some (.int .i64 ((rd_T78 l0 x10_1).f1)) ∧ w'.cell? ⟨gb299, 2, none⟩ = some (.int .i64 ((rd_T78 l0 x10_1).f2)) ∧ w'.cell? (ad298.add (((ji9)).toNat * 3)) = some (.int .i64 ((rd_T78 l0 (ji9)).f0)) ∧ w'.cell? ⟨(ad298.add (((ji9)).toNat * 3)).block, (ad298.add (((ji9)).toNat * 3)).off + 1, none⟩ = some (.int .i64 ((rd_T78 l0 (ji9)).f1)) ∧ w'.cell? ⟨(ad298.add (((ji9)).toNat * 3)).block, (ad298.add (((ji9)).toNat * 3)).off + 2, none⟩ = some (.int .i64 ((rd_T78 l0 (ji9)).f2))) (ds := []) (bR [0, 40]) (by kernel_rfl) rfl rfl ⟨cC BK299 0, cC BK299 1, cC BK299 2, ((HB.out.cell (World.block_lt_of_cell? w _ hw301_0)).trans hw301_0), ((HB.out.cell (World.block_lt_of_cell? w _ hw301_1)).trans hw301_1), ((HB.out.cell (World.block_lt_of_cell? w _ hw301_2)).trans hw301_2)⟩ (fun hHeld => ?_); refine with_tabW impl_AreSlots.tab6 impl_AreSlots.bits6 (fun HT_ HW_ => ?_)
                generalize w33.drew = w34 at BK299 HB hx301_0 hx301_1 hx301_2 hHeld ⊢
                refine pP 0 15 (bR [1, 39]) rfl rfl HT_ ?_
                refine take_ (i := 1) (N := some 16) (v := ?_) (a' := ?_) (bR [2, 38]) rfl rfl (take_ofW HT_.out HW_.out (by kernel_rfl)) (fun _ _ _ h => h) (Or.inl ⟨by rfl, ?_⟩) hHeld ?_ ?_
                rotate_left; (rintro w' ⟨s0, s1, s2, s3, s4, s5⟩; go_simp; with_reducible rfl); rotate_left; (simp only [Act.put, sA, sZ, sS, i64_w]; rfl)
                refine one_ (i := 2) (N := some 17) (bR [3, 37]) rfl rfl (one_of HT_.out (by kernel_rfl)) (by decide) (fun K hK => ?_)
                refine goes_ Try.func138 (by kernel_rfl) rfl #[.int .i64 ((rd_T78 l0 x10_1).f0), .int .i64 1, .int .i64 99] (by rfl) rfl rfl (by (try simp only [mA, mC, mN]); first | done | rfl | (simp only [lD, lT]; rfl)) ?_
                with_reducible refine (impl_InRange.calls ((rd_T78 l0 x10_1).f0) 1 99 true _ A6.out).mono ?_
                rintro e w' ⟨rfl, ⟨nd, rfl⟩⟩
                refine ⟨_, rfl, ?_⟩
                refine hK.out _ _ ⟨cC BK299 0, cC BK299 1, cC BK299 2, ((HB.out.cell (World.block_lt_of_cell? w _ hw301_0)).trans hw301_0), ((HB.out.cell (World.block_lt_of_cell? w _ hw301_1)).trans hw301_1), ((HB.out.cell (World.block_lt_of_cell? w _ hw301_2)).trans hw301_2)⟩ (fun hHeld => ?_)
                clear hK K
                refine norm_ (a' := ?_) ?_ ?_
                rotate_left
                ·show Act.put _ (some 17) _ = _
                 simp only [Act.put, sA, sZ, sS, i64_w]
                 rfl
                refine pP 3 18 (bR [4, 36]) rfl rfl HT_ ?_
                refine pP 4 19 (bR [5, 35]) rfl rfl HT_ ?_
                refine pP 5 20 (bR [6, 34]) rfl rfl HT_ ?_
                refine pP 6 21 (bR [7, 33]) rfl rfl HT_ ?_
                refine pP 7 22 (bR [8, 32]) rfl rfl HT_ ?_
                refine pP 8 23 (bR [9, 31]) rfl rfl HT_ ?_
                refine pP 10 25 (bR [9, 1, 1, 29]) rfl rfl HT_ ?_
                refine pP 11 26 (bR [9, 1, 2, 28]) rfl rfl HT_ ?_
                refine pP 12 27 (bR [9, 1, 3, 27]) rfl rfl HT_ ?_
                refine pP 13 28 (bR [9, 1, 4, 26]) rfl rfl HT_ ?_
                refine pP 14 29 (bR [9, 1, 5, 25]) rfl rfl HT_ ?_
                refine take_ (i := 9) (N := some 24) (v := ?_) (a' := ?_) (bR [15, 25]) rfl rfl (take_ofW HT_.out HW_.out (by kernel_rfl)) (fun _ _ _ h => h) (Or.inl ⟨by rfl, ?_⟩) hHeld ?_ ?_
                rotate_left; (rintro w' ⟨s0, s1, s2, s3, s4, s5⟩; go_simp; with_reducible rfl); rotate_left; (simp only [Act.put, sA, sZ, sS, i64_w]; rfl)
                refine take_ (i := 15) (N := some 30) (v := ?_) (a' := ?_) (bR [16, 24]) rfl rfl (take_ofW HT_.out HW_.out (by kernel_rfl)) (fun _ _ _ h => h) (Or.inl ⟨by rfl, ?_⟩) hHeld ?_ ?_
                rotate_left; (rintro w' ⟨s0, s1, s2, s3, s4, s5⟩; go_simp; with_reducible rfl); rotate_left; (simp only [Act.put, sA, sZ, sS, i64_w]; rfl)
                refine pP 16 31 (bR [17, 23]) rfl rfl HT_ ?_
                refine pP 17 32 (bR [18, 22]) rfl rfl HT_ ?_
                refine pP 18 33 (bR [19, 21]) rfl rfl HT_ ?_
                refine pP 19 34 (bR [20, 20]) rfl rfl HT_ ?_
                refine pP 20 35 (bR [21, 19]) rfl rfl HT_ ?_
                refine take_ (i := 21) (N := some 36) (v := ?_) (a' := ?_) (bR [22, 18]) rfl rfl (take_ofW HT_.out HW_.out (by kernel_rfl)) (fun _ _ _ h => h) (Or.inl ⟨by rfl, ?_⟩) hHeld ?_ ?_
                rotate_left; (rintro w' ⟨s0, s1, s2, s3, s4, s5⟩; go_simp; with_reducible rfl); rotate_left; (simp only [Act.put, sA, sZ, sS, i64_w]; rfl)
                refine one_ (i := 22) (N := some 37) (bR [23, 17]) rfl rfl (one_of HT_.out (by kernel_rfl)) (by decide) (fun K hK => ?_)
                refine goes_ Try.func138 (by kernel_rfl) rfl #[.int .i64 ((rd_T78 l0 x10_1).f1), .int .i64 1, .int .i64 50] (by rfl) rfl rfl (by (try simp only [mA, mC, mN]); first | done | rfl | (simp only [lD, lT]; rfl)) ?_
                with_reducible refine (impl_InRange.calls ((rd_T78 l0 x10_1).f1) 1 50 true _ A17.out).mono ?_
                rintro e w' ⟨rfl, ⟨nd, rfl⟩⟩
                refine ⟨_, rfl, ?_⟩
                refine hK.out _ _ ⟨cC BK299 0, cC BK299 1, cC BK299 2, ((HB.out.cell (World.block_lt_of_cell? w _ hw301_0)).trans hw301_0), ((HB.out.cell (World.block_lt_of_cell? w _ hw301_1)).trans hw301_1), ((HB.out.cell (World.block_lt_of_cell? w _ hw301_2)).trans hw301_2)⟩ (fun hHeld => ?_)
                clear hK K
                refine norm_ (a' := ?_) ?_ ?_
                rotate_left
                ·show Act.put _ (some 37) _ = _
                 simp only [Act.put, sA, sZ, sS, i64_w]
                 rfl
                refine pP 23 38 (bR [24, 16]) rfl rfl HT_ ?_
                refine pP 24 39 (bR [25, 15]) rfl rfl HT_ ?_
                refine pP 25 40 (bR [26, 14]) rfl rfl HT_ ?_
                refine pP 26 41 (bR [27, 13]) rfl rfl HT_ ?_
                refine take_ (i := 27) (N := some 42) (v := ?_) (a' := ?_) (bR [28, 12]) rfl rfl (take_ofW HT_.out HW_.out (by kernel_rfl)) (fun _ _ _ h => h) (Or.inl ⟨by rfl, ?_⟩) hHeld ?_ ?_
                rotate_left; (rintro w' ⟨s0, s1, s2, s3, s4, s5⟩; go_simp; with_reducible rfl); rotate_left; (simp only [Act.put, sA, sZ, sS, i64_w]; rfl)
                refine one_ (i := 28) (N := some 43) (bR [29, 11]) rfl rfl (one_of HT_.out (by kernel_rfl)) (by decide) (fun K hK => ?_)
                refine goes_ Try.func138 (by kernel_rfl) rfl #[.int .i64 ((rd_T78 l0 x10_1).f2), .int .i64 0, .int .i64 999] (by rfl) rfl rfl (by (try simp only [mA, mC, mN]); first | done | rfl | (simp only [lD, lT]; rfl)) ?_
                with_reducible refine (impl_InRange.calls ((rd_T78 l0 x10_1).f2) 0 999 true _ A19.out).mono ?_
                rintro e w' ⟨rfl, ⟨nd, rfl⟩⟩
                refine ⟨_, rfl, ?_⟩
                have q35 : (x10_1 : Int) ≤ ((l0.length : Int) : Int) := of_decide_eq_true ‹_›
                obtain ⟨i035, hi035, _, hsz35, _⟩ := info_parts info78
                have hroom35 : l0.length ≤ c0 := HC0.out
                have hC35 : Kd.C k78 _ (some ad298) l0.length l0 := HR0.out
                have hcut35 := cut_to (P := Try.prog) 54 78 .i64 Try.underlying54 hi035 (some ad298) l0.length c0 x10_1 (of_decide_eq_true ‹_›) q35 hroom35
                have hr35 := Kd.C_take (m := (x10_1 : Int).toNat) hC35 (by omega)
                have hy35 : y304.length = (x10_1 : Int).toNat := (by rw [Ny304.out, List.length_take]; omega)
                rw [← Ny304.out] at hr35
                rw [← hy35] at hcut35
                have HR307 := Aside0.mk hr35
                have HC307 := Aside0.mk (show y304.length ≤ c0 from by omega)
                clear hr35 hC35 hroom35 hi035 hsz35
                have KY35 := Aside0.mk hy35
                clear hy35
                replace q35 := eq_true q35
                refine hK.out _ _ ⟨cC BK299 0, cC BK299 1, cC BK299 2, ((HB.out.cell (World.block_lt_of_cell? w _ hw301_0)).trans hw301_0), ((HB.out.cell (World.block_lt_of_cell? w _ hw301_1)).trans hw301_1), ((HB.out.cell (World.block_lt_of_cell? w _ hw301_2)).trans hw301_2)⟩ (fun hHeld => ?_)
                clear hK K
                refine norm_ (a' := ?_) ?_ ?_
                rotate_left
                ·show Act.put _ (some 43) _ = _
                 simp only [Act.put, sA, sZ, sS, i64_w]
                 rfl
                refine pP 29 44 (bR [30, 10]) rfl rfl HT_ ?_
                refine pP 30 45 (bR [31, 9]) rfl rfl HT_ ?_
                refine pP 31 46 (bR [32, 8]) rfl rfl HT_ ?_
                refine pP 32 47 (bR [33, 7]) rfl rfl HT_ ?_
                refine pP 33 48 (bR [34, 6]) rfl rfl HT_ ?_
                refine pP 34 49 (bR [35, 5]) rfl rfl HT_ ?_
                refine pP 35 50 (bR [36, 4]) rfl rfl HT_ ?_
                refine take_ (i := 36) (N := some 51) (v := ?_) (a' := ?_) (bR [37, 3]) rfl rfl (take_ofW HT_.out HW_.out (by kernel_rfl)) (fun _ _ _ h => h) (Or.inl ⟨by rfl, ?_⟩) hHeld ?_ ?_
                rotate_left; (rintro w' ⟨s0, s1, s2, s3, s4, s5⟩; go_simp; with_reducible rfl); rotate_left; (simp only [Act.put, sA, sZ, sS, i64_w]; rfl)
                refine one_ (i := 37) (N := some 52) (bR [38, 2]) rfl rfl (one_of HT_.out (by kernel_rfl)) (by decide) (fun K hK => ?_)
                refine goes_ Try.func49 (by kernel_rfl) rfl #[.slice (some ad298) y304.length c0, .int .i64 ((rd_T78 l0 x10_1).f2)] (by rfl) rfl rfl (by (try simp only [mA, mC, mN]); first | done | rfl | (simp only [lD, lT]; rfl)) ?_
                with_reducible refine (impl_SlotOf.calls _ _ y304 ((rd_T78 l0 x10_1).f2) t308 _ ?side1 ?side2 A23.out).mono ?_
                (case side1 => repeat (first | exact (Kd.C_below HR307.out (by repeat first | (with_reducible first | exact HB.out | apply bA | apply bN | apply bD | refine bS ?_ GE299.out) | exact HB.out)) | (with_reducible refine Kd.C_alloc ?_ _) | (with_reducible refine Kd.C_drewN ?_ _) | (with_reducible refine Kd.C_drew ?_)))
                (case side2 => exact HC307.out)
                rintro e w36 ⟨rfl, hb⟩
                refine ⟨_, rfl, ?_⟩
                have n0_ := Aside0.mk (blk_below (qK BK299) hb)
                have n1_ := Aside0.mk (below_step (by repeat first | (with_reducible first | exact HB.out | apply bA | apply bN | apply bD | refine bS ?_ GE299.out) | exact HB.out) hb)
                clear BK299
                clear HB
                have BK299 := n0_
                have HB := n1_
                clear n0_ n1_
                (try clear hb)
                (try clear hb2)
                (try clear hk)
                (try clear hi)
                refine hK.out _ _ ⟨cC BK299 0, cC BK299 1, cC BK299 2, ((HB.out.cell (World.block_lt_of_cell? w _ hw301_0)).trans hw301_0), ((HB.out.cell (World.block_lt_of_cell? w _ hw301_1)).trans hw301_1), ((HB.out.cell (World.block_lt_of_cell? w _ hw301_2)).trans hw301_2)⟩ (fun hHeld => ?_)
                clear hK K
                refine norm_ (a' := ?_) ?_ ?_
                rotate_left
                ·show Act.put _ (some 52) _ = _
                 simp only [Act.put, sA, sZ, sS, i64_w]
                 rfl
                refine pP 38 53 (bR [39, 1]) rfl rfl HT_ ?_
                refine pP 39 54 (bR [40]) rfl rfl HT_ ?_
                refine done_ (done_of HT_.out (by kernel_rfl)) ?_
                try go_wp2
                go_ret
                exact ⟨by first | rfl | (simp [errW_none, errW_some] <;> rfl) | (simp only [← hji9]; first | rfl | (simp [errW_none, errW_some] <;> rfl)) | (simp [*, errW_none, errW_some] <;> rfl), by repeat (first | (with_reducible first | exact HB.out | apply bA | apply bN | apply bD | refine bS ?_ GE299.out) | exact HB.out)⟩
              ·rw [if_neg c22] at H
               exact absurd H (by simp)
             ·replace c20 := Bool.eq_false_iff.mpr c20
              subst c20
              have H1 : (some false) = some r := by rw [if_neg (show ¬ (false = true) by decide)] at H; exact H
              clear H
              have H := H1
              clear H1
              obtain rfl := Option.some.inj H
              have p298 : 0 ≤ (x10_1 : Int) := of_decide_eq_true ‹_›
              have q298 : x10_1 < (l0.length : Int) := of_decide_eq_true ‹_›
              obtain ⟨ad298, e298, hx298_0, hx298_1, hx298_2⟩ := at_T78 HR0.out x10_1 p298 q298
              cases e298
              replace hx298_0 := (HB.out.cell (World.block_lt_of_cell? w _ hx298_0)).trans hx298_0
              replace hx298_1 := (HB.out.cell (World.block_lt_of_cell? w _ hx298_1)).trans hx298_1
              replace hx298_2 := (HB.out.cell (World.block_lt_of_cell? w _ hx298_2)).trans hx298_2
              replace p298 := eq_true p298
              replace q298 := eq_true q298
              try go_wp2_with (first | ((with_reducible refine gate_dst (N := 4) rfl ?_); refine box_event ?hg (N := 4) ?hd (cs := #[.int .i64 0, .int .i64 0, .int .i64 0]) (t := 78) ?hr ?_; (case hd => rfl); (case hg => rfl); (case hr => first | (go_simp; done) | (go_simp; rfl)); intro gb299 hg w37 hbox hb; have n0_ := Aside0.mk (below_step (qB HB) hb); have n1_ := Aside0.mk (hbox); have n2_ := Aside0.mk ((by rw [hg]; exact (below_size (qB HB)) : w.heap.size ≤ gb299)); have n3_ := Aside0.mk ((by rw [hg]; exact (below_size (qB HB)) : w.heap.size ≤ gb299)); clear HB; have HB := n0_; have BK299 := n1_; have GW299 := n2_; have GE299 := n3_; clear n0_ n1_ n2_ n3_; clear hb hbox hg; have hcz38_0 : w37.cell? ⟨gb299, 0, none⟩ = some (.int .i64 0) := cC BK299 0; have hcz38_1 : w37.cell? ⟨gb299, 1, none⟩ = some (.int .i64 0) := cC BK299 1; have hcz38_2 : w37.cell? ⟨gb299, 2, none⟩ = some (.int .i64 0) := cC BK299 2; have hfz38_0 := blk_frozen BK299.out 0; have hfz38_1 := blk_frozen BK299.out 1; have hfz38_2 := blk_frozen BK299.out 2))
              have n0_ : Aside0 ((((w37.setCell ⟨gb299, 0, none⟩ (.int .i64 ((rd_T78 l0 x10_1).f0))).setCell ⟨gb299, 1, none⟩ (.int .i64 ((rd_T78 l0 x10_1).f1))).setCell ⟨gb299, 2, none⟩ (.int .i64 ((rd_T78 l0 x10_1).f2))).heap[gb299]? = some (.cells #[.int .i64 ((rd_T78 l0 x10_1).f0), .int .i64 ((rd_T78 l0 x10_1).f1), .int .i64 ((rd_T78 l0 x10_1).f2)] 78 (0, 0))) := ⟨by (with_reducible repeat first | refine kN ?_ _ | refine kD ?_ | refine kA ?_ _); refine blk_put (cs := #[.int .i64 ((rd_T78 l0 x10_1).f0), .int .i64 ((rd_T78 l0 x10_1).f1), .int .i64 0]) ?_ 2 _ rfl; (with_reducible repeat first | refine kN ?_ _ | refine kD ?_ | refine kA ?_ _); refine blk_put (cs := #[.int .i64 ((rd_T78 l0 x10_1).f0), .int .i64 0, .int .i64 0]) ?_ 1 _ rfl; (with_reducible repeat first | refine kN ?_ _ | refine kD ?_ | refine kA ?_ _); refine blk_put (cs := #[.int .i64 0, .int .i64 0, .int .i64 0]) ?_ 0 _ rfl; (with_reducible repeat first | refine kN ?_ _ | refine kD ?_ | refine kA ?_ _); exact BK299.out⟩
              have n1_ : Aside0 (Below w.heap.size w (((w37.setCell ⟨gb299, 0, none⟩ (.int .i64 ((rd_T78 l0 x10_1).f0))).setCell ⟨gb299, 1, none⟩ (.int .i64 ((rd_T78 l0 x10_1).f1))).setCell ⟨gb299, 2, none⟩ (.int .i64 ((rd_T78 l0 x10_1).f2)))) := ⟨by repeat (first | (with_reducible first | exact HB.out | apply bA | apply bN | apply bD | refine bS ?_ GE299.out) | exact HB.out)⟩
              (try clear BK299)
              (try clear HB)
              generalize (((w37.setCell ⟨gb299, 0, none⟩ (.int .i64 ((rd_T78 l0 x10_1).f0))).setCell ⟨gb299, 1, none⟩ (.int .i64 ((rd_T78 l0 x10_1).f1))).setCell ⟨gb299, 2, none⟩ (.int .i64 ((rd_T78 l0 x10_1).f2))) = w39 at n0_ n1_ ⊢
              have BK299 := n0_
              have HB := n1_
              clear n0_ n1_
              have n0_ := Aside0.mk (blk_drew BK299.out)
              have n1_ := Aside0.mk (below_drew1 HB.out)
              clear BK299
              clear HB
              have BK299 := n0_
              have HB := n1_
              clear n0_ n1_
              have p301 : 0 ≤ ((ji9) : Int) := of_decide_eq_true ‹_›
              have q301 : (ji9) < (l0.length : Int) := of_decide_eq_true ‹_›
              obtain ⟨ad301, e301, hx301_0, hx301_1, hx301_2⟩ := at_T78 HR0.out (ji9) p301 q301
              have hw301_2 := hx301_2
              have hw301_1 := hx301_1
              have hw301_0 := hx301_0
              obtain rfl : ad298 = ad301 := (by injection e301)
              replace hx301_0 := (HB.out.cell (World.block_lt_of_cell? w _ hx301_0)).trans hx301_0
              replace hx301_1 := (HB.out.cell (World.block_lt_of_cell? w _ hx301_1)).trans hx301_1
              replace hx301_2 := (HB.out.cell (World.block_lt_of_cell? w _ hx301_2)).trans hx301_2
              replace p301 := eq_true p301
              replace q301 := eq_true q301
              refine start_ (n := 40) (S := fun w' => w'.cell? ⟨gb299, 0, none⟩ = some (.int .i64 ((rd_T78 l0 x10_1).f0)) ∧ w'.cell? ⟨gb299, 1, none⟩ = some (.int .i64 ((rd_T78 l0 x10_1).f1)) ∧ w'.cell? ⟨gb299, 2, none⟩ = some (.int .i64 ((rd_T78 l0 x10_1).f2)) ∧ w'.cell? (ad298.add (((ji9)).toNat * 3)) = some (.int .i64 ((rd_T78 l0 (ji9)).f0)) ∧ w'.cell? ⟨(ad298.add (((ji9)).toNat * 3)).block, (ad298.add (((ji9)).toNat * 3)).off + 1, none⟩ = some (.int .i64 ((rd_T78 l0 (ji9)).f1)) ∧ w'.cell? ⟨(ad298.add (((ji9)).toNat * 3)).block, (ad298.add (((ji9)).toNat * 3)).off + 2, none⟩ = some (.int .i64 ((rd_T78 l0 (ji9)).f2))) (ds := []) (bR [0, 40]) (by kernel_rfl) rfl rfl ⟨cC BK299 0, cC BK299 1, cC BK299 2, ((HB.out.cell (World.block_lt_of_cell? w _ hw301_0)).trans hw301_0), ((HB.out.cell (World.block_lt_of_cell? w _ hw301_1)).trans hw301_1), ((HB.out.cell (World.block_lt_of_cell? w _ hw301_2)).trans hw301_2)⟩ (fun hHeld => ?_); refine with_tabW impl_AreSlots.tab6 impl_AreSlots.bits6 (fun HT_ HW_ => ?_)
              generalize w39.drew = w40 at BK299 HB hx301_0 hx301_1 hx301_2 hHeld ⊢
              refine pP 0 15 (bR [1, 39]) rfl rfl HT_ ?_
              refine take_ (i := 1) (N := some 16) (v := ?_) (a' := ?_) (bR [2, 38]) rfl rfl (take_ofW HT_.out HW_.out (by kernel_rfl)) (fun _ _ _ h => h) (Or.inl ⟨by rfl, ?_⟩) hHeld ?_ ?_
              rotate_left; (rintro w' ⟨s0, s1, s2, s3, s4, s5⟩; go_simp; with_reducible rfl); rotate_left; (simp only [Act.put, sA, sZ, sS, i64_w]; rfl)
              refine one_ (i := 2) (N := some 17) (bR [3, 37]) rfl rfl (one_of HT_.out (by kernel_rfl)) (by decide) (fun K hK => ?_)
              refine goes_ Try.func138 (by kernel_rfl) rfl #[.int .i64 ((rd_T78 l0 x10_1).f0), .int .i64 1, .int .i64 99] (by rfl) rfl rfl (by (try simp only [mA, mC, mN]); first | done | rfl | (simp only [lD, lT]; rfl)) ?_
              with_reducible refine (impl_InRange.calls ((rd_T78 l0 x10_1).f0) 1 99 true _ A6.out).mono ?_
              rintro e w' ⟨rfl, ⟨nd, rfl⟩⟩
              refine ⟨_, rfl, ?_⟩
              refine hK.out _ _ ⟨cC BK299 0, cC BK299 1, cC BK299 2, ((HB.out.cell (World.block_lt_of_cell? w _ hw301_0)).trans hw301_0), ((HB.out.cell (World.block_lt_of_cell? w _ hw301_1)).trans hw301_1), ((HB.out.cell (World.block_lt_of_cell? w _ hw301_2)).trans hw301_2)⟩ (fun hHeld => ?_)
              clear hK K
              refine norm_ (a' := ?_) ?_ ?_
              rotate_left
              ·show Act.put _ (some 17) _ = _
               simp only [Act.put, sA, sZ, sS, i64_w]
               rfl
              refine pP 3 18 (bR [4, 36]) rfl rfl HT_ ?_
              refine pP 4 19 (bR [5, 35]) rfl rfl HT_ ?_
              refine pP 5 20 (bR [6, 34]) rfl rfl HT_ ?_
              refine pP 6 21 (bR [7, 33]) rfl rfl HT_ ?_
              refine pP 7 22 (bR [8, 32]) rfl rfl HT_ ?_
              refine pP 8 23 (bR [9, 31]) rfl rfl HT_ ?_
              refine pP 10 25 (bR [9, 1, 1, 29]) rfl rfl HT_ ?_
              refine pP 11 26 (bR [9, 1, 2, 28]) rfl rfl HT_ ?_
              refine pP 12 27 (bR [9, 1, 3, 27]) rfl rfl HT_ ?_
              refine pP 13 28 (bR [9, 1, 4, 26]) rfl rfl HT_ ?_
              refine pP 14 29 (bR [9, 1, 5, 25]) rfl rfl HT_ ?_
              refine take_ (i := 9) (N := some 24) (v := ?_) (a' := ?_) (bR [15, 25]) rfl rfl (take_ofW HT_.out HW_.out (by kernel_rfl)) (fun _ _ _ h => h) (Or.inl ⟨by rfl, ?_⟩) hHeld ?_ ?_
              rotate_left; (rintro w' ⟨s0, s1, s2, s3, s4, s5⟩; go_simp; with_reducible rfl); rotate_left; (simp only [Act.put, sA, sZ, sS, i64_w]; rfl)
              refine take_ (i := 15) (N := some 30) (v := ?_) (a' := ?_) (bR [16, 24]) rfl rfl (take_ofW HT_.out HW_.out (by kernel_rfl)) (fun _ _ _ h => h) (Or.inl ⟨by rfl, ?_⟩) hHeld ?_ ?_
              rotate_left; (rintro w' ⟨s0, s1, s2, s3, s4, s5⟩; go_simp; with_reducible rfl); rotate_left; (simp only [Act.put, sA, sZ, sS, i64_w]; rfl)
              refine pP 16 31 (bR [17, 23]) rfl rfl HT_ ?_
              refine pP 17 32 (bR [18, 22]) rfl rfl HT_ ?_
              refine pP 18 33 (bR [19, 21]) rfl rfl HT_ ?_
              refine pP 19 34 (bR [20, 20]) rfl rfl HT_ ?_
              refine pP 20 35 (bR [21, 19]) rfl rfl HT_ ?_
              refine take_ (i := 21) (N := some 36) (v := ?_) (a' := ?_) (bR [22, 18]) rfl rfl (take_ofW HT_.out HW_.out (by kernel_rfl)) (fun _ _ _ h => h) (Or.inl ⟨by rfl, ?_⟩) hHeld ?_ ?_
              rotate_left; (rintro w' ⟨s0, s1, s2, s3, s4, s5⟩; go_simp; with_reducible rfl); rotate_left; (simp only [Act.put, sA, sZ, sS, i64_w]; rfl)
              refine one_ (i := 22) (N := some 37) (bR [23, 17]) rfl rfl (one_of HT_.out (by kernel_rfl)) (by decide) (fun K hK => ?_)
              refine goes_ Try.func138 (by kernel_rfl) rfl #[.int .i64 ((rd_T78 l0 x10_1).f1), .int .i64 1, .int .i64 50] (by rfl) rfl rfl (by (try simp only [mA, mC, mN]); first | done | rfl | (simp only [lD, lT]; rfl)) ?_
              with_reducible refine (impl_InRange.calls ((rd_T78 l0 x10_1).f1) 1 50 true _ A17.out).mono ?_
              rintro e w' ⟨rfl, ⟨nd, rfl⟩⟩
              refine ⟨_, rfl, ?_⟩
              refine hK.out _ _ ⟨cC BK299 0, cC BK299 1, cC BK299 2, ((HB.out.cell (World.block_lt_of_cell? w _ hw301_0)).trans hw301_0), ((HB.out.cell (World.block_lt_of_cell? w _ hw301_1)).trans hw301_1), ((HB.out.cell (World.block_lt_of_cell? w _ hw301_2)).trans hw301_2)⟩ (fun hHeld => ?_)
              clear hK K
              refine norm_ (a' := ?_) ?_ ?_
              rotate_left
              ·show Act.put _ (some 37) _ = _
               simp only [Act.put, sA, sZ, sS, i64_w]
               rfl
              refine pP 23 38 (bR [24, 16]) rfl rfl HT_ ?_
              refine pP 24 39 (bR [25, 15]) rfl rfl HT_ ?_
              refine pP 25 40 (bR [26, 14]) rfl rfl HT_ ?_
              refine pP 26 41 (bR [27, 13]) rfl rfl HT_ ?_
              refine take_ (i := 27) (N := some 42) (v := ?_) (a' := ?_) (bR [28, 12]) rfl rfl (take_ofW HT_.out HW_.out (by kernel_rfl)) (fun _ _ _ h => h) (Or.inl ⟨by rfl, ?_⟩) hHeld ?_ ?_
              rotate_left; (rintro w' ⟨s0, s1, s2, s3, s4, s5⟩; go_simp; with_reducible rfl); rotate_left; (simp only [Act.put, sA, sZ, sS, i64_w]; rfl)
              refine one_ (i := 28) (N := some 43) (bR [29, 11]) rfl rfl (one_of HT_.out (by kernel_rfl)) (by decide) (fun K hK => ?_)
              refine goes_ Try.func138 (by kernel_rfl) rfl #[.int .i64 ((rd_T78 l0 x10_1).f2), .int .i64 0, .int .i64 999] (by rfl) rfl rfl (by (try simp only [mA, mC, mN]); first | done | rfl | (simp only [lD, lT]; rfl)) ?_
              with_reducible refine (impl_InRange.calls ((rd_T78 l0 x10_1).f2) 0 999 false _ A19.out).mono ?_
              rintro e w' ⟨rfl, ⟨nd, rfl⟩⟩
              refine ⟨_, rfl, ?_⟩
              refine hK.out _ _ ⟨cC BK299 0, cC BK299 1, cC BK299 2, ((HB.out.cell (World.block_lt_of_cell? w _ hw301_0)).trans hw301_0), ((HB.out.cell (World.block_lt_of_cell? w _ hw301_1)).trans hw301_1), ((HB.out.cell (World.block_lt_of_cell? w _ hw301_2)).trans hw301_2)⟩ (fun hHeld => ?_)
              clear hK K
              refine norm_ (a' := ?_) ?_ ?_
              rotate_left
              ·show Act.put _ (some 43) _ = _
               simp only [Act.put, sA, sZ, sS, i64_w]
               rfl
              refine pP 29 44 (bR [30, 10]) rfl rfl HT_ ?_
              refine pP 30 45 (bR [31, 9]) rfl rfl HT_ ?_
              refine pP 31 46 (bR [32, 8]) rfl rfl HT_ ?_
              refine pU 32 47 (bR [33, 7]) rfl rfl HT_ ?_
              refine pU 33 48 (bR [34, 6]) rfl rfl HT_ ?_
              refine pU 34 49 (bR [35, 5]) rfl rfl HT_ ?_
              refine pU 35 50 (bR [36, 4]) rfl rfl HT_ ?_
              refine pU 36 51 (bR [37, 3]) rfl rfl HT_ ?_
              refine pU 37 52 (bR [38, 2]) rfl rfl HT_ ?_
              refine pU 38 53 (bR [39, 1]) rfl rfl HT_ ?_
              refine pP 39 54 (bR [40]) rfl rfl HT_ ?_
              refine done_ (done_of HT_.out (by kernel_rfl)) ?_
              try go_wp2
              go_ret
              exact ⟨by first | rfl | (simp [errW_none, errW_some] <;> rfl) | (simp only [← hji9]; first | rfl | (simp [errW_none, errW_some] <;> rfl)) | (simp [*, errW_none, errW_some] <;> rfl), by repeat (first | (with_reducible first | exact HB.out | apply bA | apply bN | apply bD | refine bS ?_ GE299.out) | exact HB.out)⟩
            ·replace c18 := Bool.eq_false_iff.mpr c18
             subst c18
             have H1 : (some false) = some r := by rw [if_neg (show ¬ (false = true) by decide)] at H; exact H
             clear H
             have H := H1
             clear H1
             obtain rfl := Option.some.inj H
             have p298 : 0 ≤ (x10_1 : Int) := of_decide_eq_true ‹_›
             have q298 : x10_1 < (l0.length : Int) := of_decide_eq_true ‹_›
             obtain ⟨ad298, e298, hx298_0, hx298_1, hx298_2⟩ := at_T78 HR0.out x10_1 p298 q298
             cases e298
             replace hx298_0 := (HB.out.cell (World.block_lt_of_cell? w _ hx298_0)).trans hx298_0
             replace hx298_1 := (HB.out.cell (World.block_lt_of_cell? w _ hx298_1)).trans hx298_1
             replace hx298_2 := (HB.out.cell (World.block_lt_of_cell? w _ hx298_2)).trans hx298_2
             replace p298 := eq_true p298
             replace q298 := eq_true q298
             try go_wp2_with (first | ((with_reducible refine gate_dst (N := 4) rfl ?_); refine box_event ?hg (N := 4) ?hd (cs := #[.int .i64 0, .int .i64 0, .int .i64 0]) (t := 78) ?hr ?_; (case hd => rfl); (case hg => rfl); (case hr => first | (go_simp; done) | (go_simp; rfl)); intro gb299 hg w41 hbox hb; have n0_ := Aside0.mk (below_step (qB HB) hb); have n1_ := Aside0.mk (hbox); have n2_ := Aside0.mk ((by rw [hg]; exact (below_size (qB HB)) : w.heap.size ≤ gb299)); have n3_ := Aside0.mk ((by rw [hg]; exact (below_size (qB HB)) : w.heap.size ≤ gb299)); clear HB; have HB := n0_; have BK299 := n1_; have GW299 := n2_; have GE299 := n3_; clear n0_ n1_ n2_ n3_; clear hb hbox hg; have hcz42_0 : w41.cell? ⟨gb299, 0, none⟩ = some (.int .i64 0) := cC BK299 0; have hcz42_1 : w41.cell? ⟨gb299, 1, none⟩ = some (.int .i64 0) := cC BK299 1; have hcz42_2 : w41.cell? ⟨gb299, 2, none⟩ = some (.int .i64 0) := cC BK299 2; have hfz42_0 := blk_frozen BK299.out 0; have hfz42_1 := blk_frozen BK299.out 1; have hfz42_2 := blk_frozen BK299.out 2))
             have n0_ : Aside0 ((((w41.setCell ⟨gb299, 0, none⟩ (.int .i64 ((rd_T78 l0 x10_1).f0))).setCell ⟨gb299, 1, none⟩ (.int .i64 ((rd_T78 l0 x10_1).f1))).setCell ⟨gb299, 2, none⟩ (.int .i64 ((rd_T78 l0 x10_1).f2))).heap[gb299]? = some (.cells #[.int .i64 ((rd_T78 l0 x10_1).f0), .int .i64 ((rd_T78 l0 x10_1).f1), .int .i64 ((rd_T78 l0 x10_1).f2)] 78 (0, 0))) := ⟨by (with_reducible repeat first | refine kN ?_ _ | refine kD ?_ | refine kA ?_ _); refine blk_put (cs := #[.int .i64 ((rd_T78 l0 x10_1).f0), .int .i64 ((rd_T78 l0 x10_1).f1), .int .i64 0]) ?_ 2 _ rfl; (with_reducible repeat first | refine kN ?_ _ | refine kD ?_ | refine kA ?_ _); refine blk_put (cs := #[.int .i64 ((rd_T78 l0 x10_1).f0), .int .i64 0, .int .i64 0]) ?_ 1 _ rfl; (with_reducible repeat first | refine kN ?_ _ | refine kD ?_ | refine kA ?_ _); refine blk_put (cs := #[.int .i64 0, .int .i64 0, .int .i64 0]) ?_ 0 _ rfl; (with_reducible repeat first | refine kN ?_ _ | refine kD ?_ | refine kA ?_ _); exact BK299.out⟩
             have n1_ : Aside0 (Below w.heap.size w (((w41.setCell ⟨gb299, 0, none⟩ (.int .i64 ((rd_T78 l0 x10_1).f0))).setCell ⟨gb299, 1, none⟩ (.int .i64 ((rd_T78 l0 x10_1).f1))).setCell ⟨gb299, 2, none⟩ (.int .i64 ((rd_T78 l0 x10_1).f2)))) := ⟨by repeat (first | (with_reducible first | exact HB.out | apply bA | apply bN | apply bD | refine bS ?_ GE299.out) | exact HB.out)⟩
             (try clear BK299)
             (try clear HB)
             generalize (((w41.setCell ⟨gb299, 0, none⟩ (.int .i64 ((rd_T78 l0 x10_1).f0))).setCell ⟨gb299, 1, none⟩ (.int .i64 ((rd_T78 l0 x10_1).f1))).setCell ⟨gb299, 2, none⟩ (.int .i64 ((rd_T78 l0 x10_1).f2))) = w43 at n0_ n1_ ⊢
             have BK299 := n0_
             have HB := n1_
             clear n0_ n1_
             have n0_ := Aside0.mk (blk_drew BK299.out)
             have n1_ := Aside0.mk (below_drew1 HB.out)
             clear BK299
             clear HB
             have BK299 := n0_
             have HB := n1_
             clear n0_ n1_
             have p301 : 0 ≤ ((ji9) : Int) := of_decide_eq_true ‹_›
             have q301 : (ji9) < (l0.length : Int) := of_decide_eq_true ‹_›
             obtain ⟨ad301, e301, hx301_0, hx301_1, hx301_2⟩ := at_T78 HR0.out (ji9) p301 q301
             have hw301_2 := hx301_2
             have hw301_1 := hx301_1
             have hw301_0 := hx301_0
             obtain rfl : ad298 = ad301 := (by injection e301)
             replace hx301_0 := (HB.out.cell (World.block_lt_of_cell? w _ hx301_0)).trans hx301_0
             replace hx301_1 := (HB.out.cell (World.block_lt_of_cell? w _ hx301_1)).trans hx301_1
             replace hx301_2 := (HB.out.cell (World.block_lt_of_cell? w _ hx301_2)).trans hx301_2
             replace p301 := eq_true p301
             replace q301 := eq_true q301
             refine start_ (n := 40) (S := fun w' => w'.cell? ⟨gb299, 0, none⟩ = some (.int .i64 ((rd_T78 l0 x10_1).f0)) ∧ w'.cell? ⟨gb299, 1, none⟩ = some (.int .i64 ((rd_T78 l0 x10_1).f1)) ∧ w'.cell? ⟨gb299, 2, none⟩ = some (.int .i64 ((rd_T78 l0 x10_1).f2)) ∧ w'.cell? (ad298.add (((ji9)).toNat * 3)) = some (.int .i64 ((rd_T78 l0 (ji9)).f0)) ∧ w'.cell? ⟨(ad298.add (((ji9)).toNat * 3)).block, (ad298.add (((ji9)).toNat * 3)).off + 1, none⟩ = some (.int .i64 ((rd_T78 l0 (ji9)).f1)) ∧ w'.cell? ⟨(ad298.add (((ji9)).toNat * 3)).block, (ad298.add (((ji9)).toNat * 3)).off + 2, none⟩ = some (.int .i64 ((rd_T78 l0 (ji9)).f2))) (ds := []) (bR [0, 40]) (by kernel_rfl) rfl rfl ⟨cC BK299 0, cC BK299 1, cC BK299 2, ((HB.out.cell (World.block_lt_of_cell? w _ hw301_0)).trans hw301_0), ((HB.out.cell (World.block_lt_of_cell? w _ hw301_1)).trans hw301_1), ((HB.out.cell (World.block_lt_of_cell? w _ hw301_2)).trans hw301_2)⟩ (fun hHeld => ?_); refine with_tabW impl_AreSlots.tab6 impl_AreSlots.bits6 (fun HT_ HW_ => ?_)
             generalize w43.drew = w44 at BK299 HB hx301_0 hx301_1 hx301_2 hHeld ⊢
             refine pP 0 15 (bR [1, 39]) rfl rfl HT_ ?_
             refine take_ (i := 1) (N := some 16) (v := ?_) (a' := ?_) (bR [2, 38]) rfl rfl (take_ofW HT_.out HW_.out (by kernel_rfl)) (fun _ _ _ h => h) (Or.inl ⟨by rfl, ?_⟩) hHeld ?_ ?_
             rotate_left; (rintro w' ⟨s0, s1, s2, s3, s4, s5⟩; go_simp; with_reducible rfl); rotate_left; (simp only [Act.put, sA, sZ, sS, i64_w]; rfl)
             refine one_ (i := 2) (N := some 17) (bR [3, 37]) rfl rfl (one_of HT_.out (by kernel_rfl)) (by decide) (fun K hK => ?_)
             refine goes_ Try.func138 (by kernel_rfl) rfl #[.int .i64 ((rd_T78 l0 x10_1).f0), .int .i64 1, .int .i64 99] (by rfl) rfl rfl (by (try simp only [mA, mC, mN]); first | done | rfl | (simp only [lD, lT]; rfl)) ?_
             with_reducible refine (impl_InRange.calls ((rd_T78 l0 x10_1).f0) 1 99 true _ A6.out).mono ?_
             rintro e w' ⟨rfl, ⟨nd, rfl⟩⟩
             refine ⟨_, rfl, ?_⟩
             refine hK.out _ _ ⟨cC BK299 0, cC BK299 1, cC BK299 2, ((HB.out.cell (World.block_lt_of_cell? w _ hw301_0)).trans hw301_0), ((HB.out.cell (World.block_lt_of_cell? w _ hw301_1)).trans hw301_1), ((HB.out.cell (World.block_lt_of_cell? w _ hw301_2)).trans hw301_2)⟩ (fun hHeld => ?_)
             clear hK K
             refine norm_ (a' := ?_) ?_ ?_
             rotate_left
             ·show Act.put _ (some 17) _ = _
              simp only [Act.put, sA, sZ, sS, i64_w]
              rfl
             refine pP 3 18 (bR [4, 36]) rfl rfl HT_ ?_
             refine pP 4 19 (bR [5, 35]) rfl rfl HT_ ?_
             refine pP 5 20 (bR [6, 34]) rfl rfl HT_ ?_
             refine pP 6 21 (bR [7, 33]) rfl rfl HT_ ?_
             refine pP 7 22 (bR [8, 32]) rfl rfl HT_ ?_
             refine pP 8 23 (bR [9, 31]) rfl rfl HT_ ?_
             refine pP 10 25 (bR [9, 1, 1, 29]) rfl rfl HT_ ?_
             refine pP 11 26 (bR [9, 1, 2, 28]) rfl rfl HT_ ?_
             refine pP 12 27 (bR [9, 1, 3, 27]) rfl rfl HT_ ?_
             refine pP 13 28 (bR [9, 1, 4, 26]) rfl rfl HT_ ?_
             refine pP 14 29 (bR [9, 1, 5, 25]) rfl rfl HT_ ?_
             refine take_ (i := 9) (N := some 24) (v := ?_) (a' := ?_) (bR [15, 25]) rfl rfl (take_ofW HT_.out HW_.out (by kernel_rfl)) (fun _ _ _ h => h) (Or.inl ⟨by rfl, ?_⟩) hHeld ?_ ?_
             rotate_left; (rintro w' ⟨s0, s1, s2, s3, s4, s5⟩; go_simp; with_reducible rfl); rotate_left; (simp only [Act.put, sA, sZ, sS, i64_w]; rfl)
             refine take_ (i := 15) (N := some 30) (v := ?_) (a' := ?_) (bR [16, 24]) rfl rfl (take_ofW HT_.out HW_.out (by kernel_rfl)) (fun _ _ _ h => h) (Or.inl ⟨by rfl, ?_⟩) hHeld ?_ ?_
             rotate_left; (rintro w' ⟨s0, s1, s2, s3, s4, s5⟩; go_simp; with_reducible rfl); rotate_left; (simp only [Act.put, sA, sZ, sS, i64_w]; rfl)
             refine pP 16 31 (bR [17, 23]) rfl rfl HT_ ?_
             refine pP 17 32 (bR [18, 22]) rfl rfl HT_ ?_
             refine pP 18 33 (bR [19, 21]) rfl rfl HT_ ?_
             refine pP 19 34 (bR [20, 20]) rfl rfl HT_ ?_
             refine pP 20 35 (bR [21, 19]) rfl rfl HT_ ?_
             refine take_ (i := 21) (N := some 36) (v := ?_) (a' := ?_) (bR [22, 18]) rfl rfl (take_ofW HT_.out HW_.out (by kernel_rfl)) (fun _ _ _ h => h) (Or.inl ⟨by rfl, ?_⟩) hHeld ?_ ?_
             rotate_left; (rintro w' ⟨s0, s1, s2, s3, s4, s5⟩; go_simp; with_reducible rfl); rotate_left; (simp only [Act.put, sA, sZ, sS, i64_w]; rfl)
             refine one_ (i := 22) (N := some 37) (bR [23, 17]) rfl rfl (one_of HT_.out (by kernel_rfl)) (by decide) (fun K hK => ?_)
             refine goes_ Try.func138 (by kernel_rfl) rfl #[.int .i64 ((rd_T78 l0 x10_1).f1), .int .i64 1, .int .i64 50] (by rfl) rfl rfl (by (try simp only [mA, mC, mN]); first | done | rfl | (simp only [lD, lT]; rfl)) ?_
             with_reducible refine (impl_InRange.calls ((rd_T78 l0 x10_1).f1) 1 50 false _ A17.out).mono ?_
             rintro e w' ⟨rfl, ⟨nd, rfl⟩⟩
             refine ⟨_, rfl, ?_⟩
             refine hK.out _ _ ⟨cC BK299 0, cC BK299 1, cC BK299 2, ((HB.out.cell (World.block_lt_of_cell? w _ hw301_0)).trans hw301_0), ((HB.out.cell (World.block_lt_of_cell? w _ hw301_1)).trans hw301_1), ((HB.out.cell (World.block_lt_of_cell? w _ hw301_2)).trans hw301_2)⟩ (fun hHeld => ?_)
             clear hK K
             refine norm_ (a' := ?_) ?_ ?_
             rotate_left
             ·show Act.put _ (some 37) _ = _
              simp only [Act.put, sA, sZ, sS, i64_w]
              rfl
             refine pP 23 38 (bR [24, 16]) rfl rfl HT_ ?_
             refine pP 24 39 (bR [25, 15]) rfl rfl HT_ ?_
             refine pP 25 40 (bR [26, 14]) rfl rfl HT_ ?_
             refine pU 26 41 (bR [27, 13]) rfl rfl HT_ ?_
             refine pU 27 42 (bR [28, 12]) rfl rfl HT_ ?_
             refine pU 28 43 (bR [29, 11]) rfl rfl HT_ ?_
             refine pU 29 44 (bR [30, 10]) rfl rfl HT_ ?_
             refine pP 30 45 (bR [31, 9]) rfl rfl HT_ ?_
             refine pP 31 46 (bR [32, 8]) rfl rfl HT_ ?_
             refine pU 32 47 (bR [33, 7]) rfl rfl HT_ ?_
             refine pU 33 48 (bR [34, 6]) rfl rfl HT_ ?_
             refine pU 34 49 (bR [35, 5]) rfl rfl HT_ ?_
             refine pU 35 50 (bR [36, 4]) rfl rfl HT_ ?_
             refine pU 36 51 (bR [37, 3]) rfl rfl HT_ ?_
             refine pU 37 52 (bR [38, 2]) rfl rfl HT_ ?_
             refine pU 38 53 (bR [39, 1]) rfl rfl HT_ ?_
             refine pP 39 54 (bR [40]) rfl rfl HT_ ?_
             refine done_ (done_of HT_.out (by kernel_rfl)) ?_
             try go_wp2
             go_ret
             exact ⟨by first | rfl | (simp [errW_none, errW_some] <;> rfl) | (simp only [← hji9]; first | rfl | (simp [errW_none, errW_some] <;> rfl)) | (simp [*, errW_none, errW_some] <;> rfl), by repeat (first | (with_reducible first | exact HB.out | apply bA | apply bN | apply bD | refine bS ?_ GE299.out) | exact HB.out)⟩
          ·rw [if_neg c11] at H
           exact absurd H (by simp)
         ·rw [if_neg c10] at H
          exact absurd H (by simp)
        ·rw [if_neg c8] at H
         have c8b0 : decide (0 < x10_1) = false := decide_eq_false c8
         clear c8
         replace H := Option.bind_eq_some_iff.mp H
         obtain ⟨t309, A450, H⟩ := H
         replace H : (if t309 = true then ((impl_InRange.f ((rd_T78 l0 x10_1).f2) 0 999).bind fun t310 => (if t310 = true then (if x10_1 ≤ (l0.length : Int) then ((impl_SlotOf.f (l0.take (x10_1 : Int).toNat) ((rd_T78 l0 x10_1).f2)).bind fun t315 => (if t315 = 0 then (impl_AreSlots.l0 k1 l0 l0 (l0.length : Int) (wrap64 (x10_1 + 1))) else (some false))) else (none)) else (some false))) else (some false)) = some r := H
         have A45 := Aside0.mk A450
         clear A450
         by_cases c46 : t309 = true
         ·subst c46
          have H1 : ((impl_InRange.f ((rd_T78 l0 x10_1).f2) 0 999).bind fun t310 => (if t310 = true then (if x10_1 ≤ (l0.length : Int) then ((impl_SlotOf.f (l0.take (x10_1 : Int).toNat) ((rd_T78 l0 x10_1).f2)).bind fun t315 => (if t315 = 0 then (impl_AreSlots.l0 k1 l0 l0 (l0.length : Int) (wrap64 (x10_1 + 1))) else (some false))) else (none)) else (some false))) = some r := by rw [if_pos rfl] at H; exact H
          clear H
          have H := H1
          clear H1
          replace H := Option.bind_eq_some_iff.mp H
          obtain ⟨t310, A470, H⟩ := H
          replace H : (if t310 = true then (if x10_1 ≤ (l0.length : Int) then ((impl_SlotOf.f (l0.take (x10_1 : Int).toNat) ((rd_T78 l0 x10_1).f2)).bind fun t315 => (if t315 = 0 then (impl_AreSlots.l0 k1 l0 l0 (l0.length : Int) (wrap64 (x10_1 + 1))) else (some false))) else (none)) else (some false)) = some r := H
          have A47 := Aside0.mk A470
          clear A470
          by_cases c48 : t310 = true
          ·subst c48
           have H1 : (if x10_1 ≤ (l0.length : Int) then ((impl_SlotOf.f (l0.take (x10_1 : Int).toNat) ((rd_T78 l0 x10_1).f2)).bind fun t315 => (if t315 = 0 then (impl_AreSlots.l0 k1 l0 l0 (l0.length : Int) (wrap64 (x10_1 + 1))) else (some false))) else (none)) = some r := by rw [if_pos rfl] at H; exact H
           clear H
           have H := H1
           clear H1
           have c49b0 := eq_true (of_decide_eq_true ‹_› : 0 ≤ x10_1)
           by_cases c50 : x10_1 ≤ (l0.length : Int)
           ·rw [if_pos c50] at H
            have c50b0 := eq_true c50
            have c50b1 : decide (x10_1 ≤ (l0.length : Int)) = true := decide_eq_true c50
            clear c50
            obtain ⟨y311, hy311⟩ : ∃ y_ : List (S78), y_ = (l0.take (x10_1 : Int).toNat) := ⟨_, rfl⟩
            replace H : ((impl_SlotOf.f y311 ((rd_T78 l0 x10_1).f2)).bind fun t315 => (if t315 = 0 then (impl_AreSlots.l0 k1 l0 l0 (l0.length : Int) (wrap64 (x10_1 + 1))) else (some false))) = some r := by first | (rw [hy311]; with_reducible exact H) | (have H2_ := (Option.bind_some _ _).symm.trans H; rw [hy311]; with_reducible exact H2_) | (have H2_ := (Option.bind_some _ _).symm.trans H; with_reducible exact H2_) | with_reducible exact H | (rw [hy311]; exact H) | exact H
            have Ny311 := Aside0.mk hy311
            clear hy311
            replace H := Option.bind_eq_some_iff.mp H
            obtain ⟨t315, A510, H⟩ := H
            replace H : (if t315 = 0 then (impl_AreSlots.l0 k1 l0 l0 (l0.length : Int) (wrap64 (x10_1 + 1))) else (some false)) = some r := H
            have A51 := Aside0.mk A510
            clear A510
            by_cases c52 : t315 = 0
            ·rw [if_pos c52] at H
             have c52b0 : (t315 == 0) = true := beq_iff_eq.mpr c52
             have c52b1 : (t315 != 0) = false := bne_eq_false_iff_eq.mpr c52
             clear c52
             have H' := Aside0.mk H
             clear H
             have p298 : 0 ≤ (x10_1 : Int) := of_decide_eq_true ‹_›
             have q298 : x10_1 < (l0.length : Int) := of_decide_eq_true ‹_›
             obtain ⟨ad298, e298, hx298_0, hx298_1, hx298_2⟩ := at_T78 HR0.out x10_1 p298 q298
             cases e298
             replace hx298_0 := (HB.out.cell (World.block_lt_of_cell? w _ hx298_0)).trans hx298_0
             replace hx298_1 := (HB.out.cell (World.block_lt_of_cell? w _ hx298_1)).trans hx298_1
             replace hx298_2 := (HB.out.cell (World.block_lt_of_cell? w _ hx298_2)).trans hx298_2
             replace p298 := eq_true p298
             replace q298 := eq_true q298
             try go_wp2_with (first | ((with_reducible refine gate_dst (N := 4) rfl ?_); refine box_event ?hg (N := 4) ?hd (cs := #[.int .i64 0, .int .i64 0, .int .i64 0]) (t := 78) ?hr ?_; (case hd => rfl); (case hg => rfl); (case hr => first | (go_simp; done) | (go_simp; rfl)); intro gb299 hg w53 hbox hb; have n0_ := Aside0.mk (below_step (qB HB) hb); have n1_ := Aside0.mk (hbox); have n2_ := Aside0.mk ((by rw [hg]; exact (below_size (qB HB)) : w.heap.size ≤ gb299)); have n3_ := Aside0.mk ((by rw [hg]; exact (below_size (qB HB)) : w.heap.size ≤ gb299)); clear HB; have HB := n0_; have BK299 := n1_; have GW299 := n2_; have GE299 := n3_; clear n0_ n1_ n2_ n3_; clear hb hbox hg; have hcz54_0 : w53.cell? ⟨gb299, 0, none⟩ = some (.int .i64 0) := cC BK299 0; have hcz54_1 : w53.cell? ⟨gb299, 1, none⟩ = some (.int .i64 0) := cC BK299 1; have hcz54_2 : w53.cell? ⟨gb299, 2, none⟩ = some (.int .i64 0) := cC BK299 2; have hfz54_0 := blk_frozen BK299.out 0; have hfz54_1 := blk_frozen BK299.out 1; have hfz54_2 := blk_frozen BK299.out 2))
             have n0_ : Aside0 ((((w53.setCell ⟨gb299, 0, none⟩ (.int .i64 ((rd_T78 l0 x10_1).f0))).setCell ⟨gb299, 1, none⟩ (.int .i64 ((rd_T78 l0 x10_1).f1))).setCell ⟨gb299, 2, none⟩ (.int .i64 ((rd_T78 l0 x10_1).f2))).heap[gb299]? = some (.cells #[.int .i64 ((rd_T78 l0 x10_1).f0), .int .i64 ((rd_T78 l0 x10_1).f1), .int .i64 ((rd_T78 l0 x10_1).f2)] 78 (0, 0))) := ⟨by (with_reducible repeat first | refine kN ?_ _ | refine kD ?_ | refine kA ?_ _); refine blk_put (cs := #[.int .i64 ((rd_T78 l0 x10_1).f0), .int .i64 ((rd_T78 l0 x10_1).f1), .int .i64 0]) ?_ 2 _ rfl; (with_reducible repeat first | refine kN ?_ _ | refine kD ?_ | refine kA ?_ _); refine blk_put (cs := #[.int .i64 ((rd_T78 l0 x10_1).f0), .int .i64 0, .int .i64 0]) ?_ 1 _ rfl; (with_reducible repeat first | refine kN ?_ _ | refine kD ?_ | refine kA ?_ _); refine blk_put (cs := #[.int .i64 0, .int .i64 0, .int .i64 0]) ?_ 0 _ rfl; (with_reducible repeat first | refine kN ?_ _ | refine kD ?_ | refine kA ?_ _); exact BK299.out⟩
             have n1_ : Aside0 (Below w.heap.size w (((w53.setCell ⟨gb299, 0, none⟩ (.int .i64 ((rd_T78 l0 x10_1).f0))).setCell ⟨gb299, 1, none⟩ (.int .i64 ((rd_T78 l0 x10_1).f1))).setCell ⟨gb299, 2, none⟩ (.int .i64 ((rd_T78 l0 x10_1).f2)))) := ⟨by repeat (first | (with_reducible first | exact HB.out | apply bA | apply bN | apply bD | refine bS ?_ GE299.out) | exact HB.out)⟩
             (try clear BK299)
             (try clear HB)
             generalize (((w53.setCell ⟨gb299, 0, none⟩ (.int .i64 ((rd_T78 l0 x10_1).f0))).setCell ⟨gb299, 1, none⟩ (.int .i64 ((rd_T78 l0 x10_1).f1))).setCell ⟨gb299, 2, none⟩ (.int .i64 ((rd_T78 l0 x10_1).f2))) = w55 at n0_ n1_ ⊢
             have BK299 := n0_
             have HB := n1_
             clear n0_ n1_
             have n0_ := Aside0.mk (blk_drew BK299.out)
             have n1_ := Aside0.mk (below_drew1 HB.out)
             clear BK299
             clear HB
             have BK299 := n0_
             have HB := n1_
             clear n0_ n1_
             refine start_ (n := 40) (S := fun w' => w'.cell? ⟨gb299, 0, none⟩ = some (.int .i64 ((rd_T78 l0 x10_1).f0)) ∧ w'.cell? ⟨gb299, 1, none⟩ = some (.int .i64 ((rd_T78 l0 x10_1).f1)) ∧ w'.cell? ⟨gb299, 2, none⟩ = some (.int .i64 ((rd_T78 l0 x10_1).f2))) (ds := []) (bR [0, 40]) (by kernel_rfl) rfl rfl ⟨cC BK299 0, cC BK299 1, cC BK299 2⟩ (fun hHeld => ?_); refine with_tabW impl_AreSlots.tab6 impl_AreSlots.bits6 (fun HT_ HW_ => ?_)
             generalize w55.drew = w56 at BK299 HB hHeld ⊢
             refine pP 0 15 (bR [1, 39]) rfl rfl HT_ ?_
             refine take_ (i := 1) (N := some 16) (v := ?_) (a' := ?_) (bR [2, 38]) rfl rfl (take_ofW HT_.out HW_.out (by kernel_rfl)) (fun _ _ _ h => h) (Or.inl ⟨by rfl, ?_⟩) hHeld ?_ ?_
             rotate_left; (rintro w' ⟨s0, s1, s2⟩; go_simp; with_reducible rfl); rotate_left; (simp only [Act.put, sA, sZ, sS, i64_w]; rfl)
             refine one_ (i := 2) (N := some 17) (bR [3, 37]) rfl rfl (one_of HT_.out (by kernel_rfl)) (by decide) (fun K hK => ?_)
             refine goes_ Try.func138 (by kernel_rfl) rfl #[.int .i64 ((rd_T78 l0 x10_1).f0), .int .i64 1, .int .i64 99] (by rfl) rfl rfl (by (try simp only [mA, mC, mN]); first | done | rfl | (simp only [lD, lT]; rfl)) ?_
             with_reducible refine (impl_InRange.calls ((rd_T78 l0 x10_1).f0) 1 99 true _ A6.out).mono ?_
             rintro e w' ⟨rfl, ⟨nd, rfl⟩⟩
             refine ⟨_, rfl, ?_⟩
             refine hK.out _ _ ⟨cC BK299 0, cC BK299 1, cC BK299 2⟩ (fun hHeld => ?_)
             clear hK K
             refine norm_ (a' := ?_) ?_ ?_
             rotate_left
             ·show Act.put _ (some 17) _ = _
              simp only [Act.put, sA, sZ, sS, i64_w]
              rfl
             refine pP 3 18 (bR [4, 36]) rfl rfl HT_ ?_
             refine pP 4 19 (bR [5, 35]) rfl rfl HT_ ?_
             refine pP 5 20 (bR [6, 34]) rfl rfl HT_ ?_
             refine pP 6 21 (bR [7, 33]) rfl rfl HT_ ?_
             refine pP 7 22 (bR [8, 32]) rfl rfl HT_ ?_
             refine pU 8 23 (bR [9, 31]) rfl rfl HT_ ?_
             refine pU 9 24 (bR [10, 30]) rfl rfl HT_ ?_
             refine pU 10 25 (bR [11, 29]) rfl rfl HT_ ?_
             refine pU 11 26 (bR [12, 28]) rfl rfl HT_ ?_
             refine pU 12 27 (bR [13, 27]) rfl rfl HT_ ?_
             refine pU 13 28 (bR [14, 26]) rfl rfl HT_ ?_
             refine pU 14 29 (bR [15, 25]) rfl rfl HT_ ?_
             refine pU 15 30 (bR [16, 24]) rfl rfl HT_ ?_
             refine pU 16 31 (bR [17, 23]) rfl rfl HT_ ?_
             refine pP 17 32 (bR [18, 22]) rfl rfl HT_ ?_
             refine pP 18 33 (bR [19, 21]) rfl rfl HT_ ?_
             refine pP 19 34 (bR [20, 20]) rfl rfl HT_ ?_
             refine pP 20 35 (bR [21, 19]) rfl rfl HT_ ?_
             refine take_ (i := 21) (N := some 36) (v := ?_) (a' := ?_) (bR [22, 18]) rfl rfl (take_ofW HT_.out HW_.out (by kernel_rfl)) (fun _ _ _ h => h) (Or.inl ⟨by rfl, ?_⟩) hHeld ?_ ?_
             rotate_left; (rintro w' ⟨s0, s1, s2⟩; go_simp; with_reducible rfl); rotate_left; (simp only [Act.put, sA, sZ, sS, i64_w]; rfl)
             refine one_ (i := 22) (N := some 37) (bR [23, 17]) rfl rfl (one_of HT_.out (by kernel_rfl)) (by decide) (fun K hK => ?_)
             refine goes_ Try.func138 (by kernel_rfl) rfl #[.int .i64 ((rd_T78 l0 x10_1).f1), .int .i64 1, .int .i64 50] (by rfl) rfl rfl (by (try simp only [mA, mC, mN]); first | done | rfl | (simp only [lD, lT]; rfl)) ?_
             with_reducible refine (impl_InRange.calls ((rd_T78 l0 x10_1).f1) 1 50 true _ A45.out).mono ?_
             rintro e w' ⟨rfl, ⟨nd, rfl⟩⟩
             refine ⟨_, rfl, ?_⟩
             refine hK.out _ _ ⟨cC BK299 0, cC BK299 1, cC BK299 2⟩ (fun hHeld => ?_)
             clear hK K
             refine norm_ (a' := ?_) ?_ ?_
             rotate_left
             ·show Act.put _ (some 37) _ = _
              simp only [Act.put, sA, sZ, sS, i64_w]
              rfl
             refine pP 23 38 (bR [24, 16]) rfl rfl HT_ ?_
             refine pP 24 39 (bR [25, 15]) rfl rfl HT_ ?_
             refine pP 25 40 (bR [26, 14]) rfl rfl HT_ ?_
             refine pP 26 41 (bR [27, 13]) rfl rfl HT_ ?_
             refine take_ (i := 27) (N := some 42) (v := ?_) (a' := ?_) (bR [28, 12]) rfl rfl (take_ofW HT_.out HW_.out (by kernel_rfl)) (fun _ _ _ h => h) (Or.inl ⟨by rfl, ?_⟩) hHeld ?_ ?_
             rotate_left; (rintro w' ⟨s0, s1, s2⟩; go_simp; with_reducible rfl); rotate_left; (simp only [Act.put, sA, sZ, sS, i64_w]; rfl)
             refine one_ (i := 28) (N := some 43) (bR [29, 11]) rfl rfl (one_of HT_.out (by kernel_rfl)) (by decide) (fun K hK => ?_)
             refine goes_ Try.func138 (by kernel_rfl) rfl #[.int .i64 ((rd_T78 l0 x10_1).f2), .int .i64 0, .int .i64 999] (by rfl) rfl rfl (by (try simp only [mA, mC, mN]); first | done | rfl | (simp only [lD, lT]; rfl)) ?_
             with_reducible refine (impl_InRange.calls ((rd_T78 l0 x10_1).f2) 0 999 true _ A47.out).mono ?_
             rintro e w' ⟨rfl, ⟨nd, rfl⟩⟩
             refine ⟨_, rfl, ?_⟩
             have q57 : (x10_1 : Int) ≤ ((l0.length : Int) : Int) := of_decide_eq_true ‹_›
             obtain ⟨i057, hi057, _, hsz57, _⟩ := info_parts info78
             have hroom57 : l0.length ≤ c0 := HC0.out
             have hC57 : Kd.C k78 _ (some ad298) l0.length l0 := HR0.out
             have hcut57 := cut_to (P := Try.prog) 54 78 .i64 Try.underlying54 hi057 (some ad298) l0.length c0 x10_1 (of_decide_eq_true ‹_›) q57 hroom57
             have hr57 := Kd.C_take (m := (x10_1 : Int).toNat) hC57 (by omega)
             have hy57 : y311.length = (x10_1 : Int).toNat := (by rw [Ny311.out, List.length_take]; omega)
             rw [← Ny311.out] at hr57
             rw [← hy57] at hcut57
             have HR314 := Aside0.mk hr57
             have HC314 := Aside0.mk (show y311.length ≤ c0 from by omega)
             clear hr57 hC57 hroom57 hi057 hsz57
             have KY57 := Aside0.mk hy57
             clear hy57
             replace q57 := eq_true q57
             refine hK.out _ _ ⟨cC BK299 0, cC BK299 1, cC BK299 2⟩ (fun hHeld => ?_)
             clear hK K
             refine norm_ (a' := ?_) ?_ ?_
             rotate_left
             ·show Act.put _ (some 43) _ = _
              simp only [Act.put, sA, sZ, sS, i64_w]
              rfl
             refine pP 29 44 (bR [30, 10]) rfl rfl HT_ ?_
             refine pP 30 45 (bR [31, 9]) rfl rfl HT_ ?_
             refine pP 31 46 (bR [32, 8]) rfl rfl HT_ ?_
             refine pP 32 47 (bR [33, 7]) rfl rfl HT_ ?_
             refine pP 33 48 (bR [34, 6]) rfl rfl HT_ ?_
             refine pP 34 49 (bR [35, 5]) rfl rfl HT_ ?_
             refine pP 35 50 (bR [36, 4]) rfl rfl HT_ ?_
             refine take_ (i := 36) (N := some 51) (v := ?_) (a' := ?_) (bR [37, 3]) rfl rfl (take_ofW HT_.out HW_.out (by kernel_rfl)) (fun _ _ _ h => h) (Or.inl ⟨by rfl, ?_⟩) hHeld ?_ ?_
             rotate_left; (rintro w' ⟨s0, s1, s2⟩; go_simp; with_reducible rfl); rotate_left; (simp only [Act.put, sA, sZ, sS, i64_w]; rfl)
             refine one_ (i := 37) (N := some 52) (bR [38, 2]) rfl rfl (one_of HT_.out (by kernel_rfl)) (by decide) (fun K hK => ?_)
             refine goes_ Try.func49 (by kernel_rfl) rfl #[.slice (some ad298) y311.length c0, .int .i64 ((rd_T78 l0 x10_1).f2)] (by rfl) rfl rfl (by (try simp only [mA, mC, mN]); first | done | rfl | (simp only [lD, lT]; rfl)) ?_
             with_reducible refine (impl_SlotOf.calls _ _ y311 ((rd_T78 l0 x10_1).f2) t315 _ ?side1 ?side2 A51.out).mono ?_
             (case side1 => repeat (first | exact (Kd.C_below HR314.out (by repeat first | (with_reducible first | exact HB.out | apply bA | apply bN | apply bD | refine bS ?_ GE299.out) | exact HB.out)) | (with_reducible refine Kd.C_alloc ?_ _) | (with_reducible refine Kd.C_drewN ?_ _) | (with_reducible refine Kd.C_drew ?_)))
             (case side2 => exact HC314.out)
             rintro e w58 ⟨rfl, hb⟩
             refine ⟨_, rfl, ?_⟩
             have n0_ := Aside0.mk (blk_below (qK BK299) hb)
             have n1_ := Aside0.mk (below_step (by repeat first | (with_reducible first | exact HB.out | apply bA | apply bN | apply bD | refine bS ?_ GE299.out) | exact HB.out) hb)
             clear BK299
             clear HB
             have BK299 := n0_
             have HB := n1_
             clear n0_ n1_
             (try clear hb)
             (try clear hb2)
             (try clear hk)
             (try clear hi)
             refine hK.out _ _ ⟨cC BK299 0, cC BK299 1, cC BK299 2⟩ (fun hHeld => ?_)
             clear hK K
             refine norm_ (a' := ?_) ?_ ?_
             rotate_left
             ·show Act.put _ (some 52) _ = _
              simp only [Act.put, sA, sZ, sS, i64_w]
              rfl
             refine pP 38 53 (bR [39, 1]) rfl rfl HT_ ?_
             refine pP 39 54 (bR [40]) rfl rfl HT_ ?_
             refine done_ (done_of HT_.out (by kernel_rfl)) ?_
             try go_wp2
             go_roundg k1
             case measure => have := HK1.out; omega
             case rel => exact ⟨(wrap64 (x10_1 + 1)), (by first | rfl | (simp; done) | (simp [*]; done)), H', ⟨by have := HK1.out; omega⟩, ⟨by repeat (first | (with_reducible first | exact HB.out | apply bA | apply bN | apply bD | refine bS ?_ GE299.out) | exact HB.out)⟩⟩
            ·rw [if_neg c52] at H
             have c52b0 : (t315 == 0) = false := beq_eq_false_iff_ne.mpr c52
             have c52b1 : (t315 != 0) = true := bne_iff_ne.mpr c52
             obtain rfl := Option.some.inj H
             have p298 : 0 ≤ (x10_1 : Int) := of_decide_eq_true ‹_›
             have q298 : x10_1 < (l0.length : Int) := of_decide_eq_true ‹_›
             obtain ⟨ad298, e298, hx298_0, hx298_1, hx298_2⟩ := at_T78 HR0.out x10_1 p298 q298
             cases e298
             replace hx298_0 := (HB.out.cell (World.block_lt_of_cell? w _ hx298_0)).trans hx298_0
             replace hx298_1 := (HB.out.cell (World.block_lt_of_cell? w _ hx298_1)).trans hx298_1
             replace hx298_2 := (HB.out.cell (World.block_lt_of_cell? w _ hx298_2)).trans hx298_2
             replace p298 := eq_true p298
             replace q298 := eq_true q298
             try go_wp2_with (first | ((with_reducible refine gate_dst (N := 4) rfl ?_); refine box_event ?hg (N := 4) ?hd (cs := #[.int .i64 0, .int .i64 0, .int .i64 0]) (t := 78) ?hr ?_; (case hd => rfl); (case hg => rfl); (case hr => first | (go_simp; done) | (go_simp; rfl)); intro gb299 hg w59 hbox hb; have n0_ := Aside0.mk (below_step (qB HB) hb); have n1_ := Aside0.mk (hbox); have n2_ := Aside0.mk ((by rw [hg]; exact (below_size (qB HB)) : w.heap.size ≤ gb299)); have n3_ := Aside0.mk ((by rw [hg]; exact (below_size (qB HB)) : w.heap.size ≤ gb299)); clear HB; have HB := n0_; have BK299 := n1_; have GW299 := n2_; have GE299 := n3_; clear n0_ n1_ n2_ n3_; clear hb hbox hg; have hcz60_0 : w59.cell? ⟨gb299, 0, none⟩ = some (.int .i64 0) := cC BK299 0; have hcz60_1 : w59.cell? ⟨gb299, 1, none⟩ = some (.int .i64 0) := cC BK299 1; have hcz60_2 : w59.cell? ⟨gb299, 2, none⟩ = some (.int .i64 0) := cC BK299 2; have hfz60_0 := blk_frozen BK299.out 0; have hfz60_1 := blk_frozen BK299.out 1; have hfz60_2 := blk_frozen BK299.out 2))
             have n0_ : Aside0 ((((w59.setCell ⟨gb299, 0, none⟩ (.int .i64 ((rd_T78 l0 x10_1).f0))).setCell ⟨gb299, 1, none⟩ (.int .i64 ((rd_T78 l0 x10_1).f1))).setCell ⟨gb299, 2, none⟩ (.int .i64 ((rd_T78 l0 x10_1).f2))).heap[gb299]? = some (.cells #[.int .i64 ((rd_T78 l0 x10_1).f0), .int .i64 ((rd_T78 l0 x10_1).f1), .int .i64 ((rd_T78 l0 x10_1).f2)] 78 (0, 0))) := ⟨by (with_reducible repeat first | refine kN ?_ _ | refine kD ?_ | refine kA ?_ _); refine blk_put (cs := #[.int .i64 ((rd_T78 l0 x10_1).f0), .int .i64 ((rd_T78 l0 x10_1).f1), .int .i64 0]) ?_ 2 _ rfl; (with_reducible repeat first | refine kN ?_ _ | refine kD ?_ | refine kA ?_ _); refine blk_put (cs := #[.int .i64 ((rd_T78 l0 x10_1).f0), .int .i64 0, .int .i64 0]) ?_ 1 _ rfl; (with_reducible repeat first | refine kN ?_ _ | refine kD ?_ | refine kA ?_ _); refine blk_put (cs := #[.int .i64 0, .int .i64 0, .int .i64 0]) ?_ 0 _ rfl; (with_reducible repeat first | refine kN ?_ _ | refine kD ?_ | refine kA ?_ _); exact BK299.out⟩
             have n1_ : Aside0 (Below w.heap.size w (((w59.setCell ⟨gb299, 0, none⟩ (.int .i64 ((rd_T78 l0 x10_1).f0))).setCell ⟨gb299, 1, none⟩ (.int .i64 ((rd_T78 l0 x10_1).f1))).setCell ⟨gb299, 2, none⟩ (.int .i64 ((rd_T78 l0 x10_1).f2)))) := ⟨by repeat (first | (with_reducible first | exact HB.out | apply bA | apply bN | apply bD | refine bS ?_ GE299.out) | exact HB.out)⟩
             (try clear BK299)
             (try clear HB)
             generalize (((w59.setCell ⟨gb299, 0, none⟩ (.int .i64 ((rd_T78 l0 x10_1).f0))).setCell ⟨gb299, 1, none⟩ (.int .i64 ((rd_T78 l0 x10_1).f1))).setCell ⟨gb299, 2, none⟩ (.int .i64 ((rd_T78 l0 x10_1).f2))) = w61 at n0_ n1_ ⊢
             have BK299 := n0_
             have HB := n1_
             clear n0_ n1_
             have n0_ := Aside0.mk (blk_drew BK299.out)
             have n1_ := Aside0.mk (below_drew1 HB.out)
             clear BK299
             clear HB
             have BK299 := n0_
             have HB := n1_
             clear n0_ n1_
             refine start_ (n := 40) (S := fun w' => w'.cell? ⟨gb299, 0, none⟩ = some (.int .i64 ((rd_T78 l0 x10_1).f0)) ∧ w'.cell? ⟨gb299, 1, none⟩ = some (.int .i64 ((rd_T78 l0 x10_1).f1)) ∧ w'.cell? ⟨gb299, 2, none⟩ = some (.int .i64 ((rd_T78 l0 x10_1).f2))) (ds := []) (bR [0, 40]) (by kernel_rfl) rfl rfl ⟨cC BK299 0, cC BK299 1, cC BK299 2⟩ (fun hHeld => ?_); refine with_tabW impl_AreSlots.tab6 impl_AreSlots.bits6 (fun HT_ HW_ => ?_)
             generalize w61.drew = w62 at BK299 HB hHeld ⊢
             refine pP 0 15 (bR [1, 39]) rfl rfl HT_ ?_
             refine take_ (i := 1) (N := some 16) (v := ?_) (a' := ?_) (bR [2, 38]) rfl rfl (take_ofW HT_.out HW_.out (by kernel_rfl)) (fun _ _ _ h => h) (Or.inl ⟨by rfl, ?_⟩) hHeld ?_ ?_
             rotate_left; (rintro w' ⟨s0, s1, s2⟩; go_simp; with_reducible rfl); rotate_left; (simp only [Act.put, sA, sZ, sS, i64_w]; rfl)
             refine one_ (i := 2) (N := some 17) (bR [3, 37]) rfl rfl (one_of HT_.out (by kernel_rfl)) (by decide) (fun K hK => ?_)
             refine goes_ Try.func138 (by kernel_rfl) rfl #[.int .i64 ((rd_T78 l0 x10_1).f0), .int .i64 1, .int .i64 99] (by rfl) rfl rfl (by (try simp only [mA, mC, mN]); first | done | rfl | (simp only [lD, lT]; rfl)) ?_
             with_reducible refine (impl_InRange.calls ((rd_T78 l0 x10_1).f0) 1 99 true _ A6.out).mono ?_
             rintro e w' ⟨rfl, ⟨nd, rfl⟩⟩
             refine ⟨_, rfl, ?_⟩
             refine hK.out _ _ ⟨cC BK299 0, cC BK299 1, cC BK299 2⟩ (fun hHeld => ?_)
             clear hK K
             refine norm_ (a' := ?_) ?_ ?_
             rotate_left
             ·show Act.put _ (some 17) _ = _
              simp only [Act.put, sA, sZ, sS, i64_w]
              rfl
             refine pP 3 18 (bR [4, 36]) rfl rfl HT_ ?_
             refine pP 4 19 (bR [5, 35]) rfl rfl HT_ ?_
             refine pP 5 20 (bR [6, 34]) rfl rfl HT_ ?_
             refine pP 6 21 (bR [7, 33]) rfl rfl HT_ ?_
             refine pP 7 22 (bR [8, 32]) rfl rfl HT_ ?_
             refine pU 8 23 (bR [9, 31]) rfl rfl HT_ ?_
             refine pU 9 24 (bR [10, 30]) rfl rfl HT_ ?_
             refine pU 10 25 (bR [11, 29]) rfl rfl HT_ ?_
             refine pU 11 26 (bR [12, 28]) rfl rfl HT_ ?_
             refine pU 12 27 (bR [13, 27]) rfl rfl HT_ ?_
             refine pU 13 28 (bR [14, 26]) rfl rfl HT_ ?_
             refine pU 14 29 (bR [15, 25]) rfl rfl HT_ ?_
             refine pU 15 30 (bR [16, 24]) rfl rfl HT_ ?_
             refine pU 16 31 (bR [17, 23]) rfl rfl HT_ ?_
             refine pP 17 32 (bR [18, 22]) rfl rfl HT_ ?_
             refine pP 18 33 (bR [19, 21]) rfl rfl HT_ ?_
             refine pP 19 34 (bR [20, 20]) rfl rfl HT_ ?_
             refine pP 20 35 (bR [21, 19]) rfl rfl HT_ ?_
             refine take_ (i := 21) (N := some 36) (v := ?_) (a' := ?_) (bR [22, 18]) rfl rfl (take_ofW HT_.out HW_.out (by kernel_rfl)) (fun _ _ _ h => h) (Or.inl ⟨by rfl, ?_⟩) hHeld ?_ ?_
             rotate_left; (rintro w' ⟨s0, s1, s2⟩; go_simp; with_reducible rfl); rotate_left; (simp only [Act.put, sA, sZ, sS, i64_w]; rfl)
             refine one_ (i := 22) (N := some 37) (bR [23, 17]) rfl rfl (one_of HT_.out (by kernel_rfl)) (by decide) (fun K hK => ?_)
             refine goes_ Try.func138 (by kernel_rfl) rfl #[.int .i64 ((rd_T78 l0 x10_1).f1), .int .i64 1, .int .i64 50] (by rfl) rfl rfl (by (try simp only [mA, mC, mN]); first | done | rfl | (simp only [lD, lT]; rfl)) ?_
             with_reducible refine (impl_InRange.calls ((rd_T78 l0 x10_1).f1) 1 50 true _ A45.out).mono ?_
             rintro e w' ⟨rfl, ⟨nd, rfl⟩⟩
             refine ⟨_, rfl, ?_⟩
             refine hK.out _ _ ⟨cC BK299 0, cC BK299 1, cC BK299 2⟩ (fun hHeld => ?_)
             clear hK K
             refine norm_ (a' := ?_) ?_ ?_
             rotate_left
             ·show Act.put _ (some 37) _ = _
              simp only [Act.put, sA, sZ, sS, i64_w]
              rfl
             refine pP 23 38 (bR [24, 16]) rfl rfl HT_ ?_
             refine pP 24 39 (bR [25, 15]) rfl rfl HT_ ?_
             refine pP 25 40 (bR [26, 14]) rfl rfl HT_ ?_
             refine pP 26 41 (bR [27, 13]) rfl rfl HT_ ?_
             refine take_ (i := 27) (N := some 42) (v := ?_) (a' := ?_) (bR [28, 12]) rfl rfl (take_ofW HT_.out HW_.out (by kernel_rfl)) (fun _ _ _ h => h) (Or.inl ⟨by rfl, ?_⟩) hHeld ?_ ?_
             rotate_left; (rintro w' ⟨s0, s1, s2⟩; go_simp; with_reducible rfl); rotate_left; (simp only [Act.put, sA, sZ, sS, i64_w]; rfl)
             refine one_ (i := 28) (N := some 43) (bR [29, 11]) rfl rfl (one_of HT_.out (by kernel_rfl)) (by decide) (fun K hK => ?_)
             refine goes_ Try.func138 (by kernel_rfl) rfl #[.int .i64 ((rd_T78 l0 x10_1).f2), .int .i64 0, .int .i64 999] (by rfl) rfl rfl (by (try simp only [mA, mC, mN]); first | done | rfl | (simp only [lD, lT]; rfl)) ?_
             with_reducible refine (impl_InRange.calls ((rd_T78 l0 x10_1).f2) 0 999 true _ A47.out).mono ?_
             rintro e w' ⟨rfl, ⟨nd, rfl⟩⟩
             refine ⟨_, rfl, ?_⟩
             have q63 : (x10_1 : Int) ≤ ((l0.length : Int) : Int) := of_decide_eq_true ‹_›
             obtain ⟨i063, hi063, _, hsz63, _⟩ := info_parts info78
             have hroom63 : l0.length ≤ c0 := HC0.out
             have hC63 : Kd.C k78 _ (some ad298) l0.length l0 := HR0.out
             have hcut63 := cut_to (P := Try.prog) 54 78 .i64 Try.underlying54 hi063 (some ad298) l0.length c0 x10_1 (of_decide_eq_true ‹_›) q63 hroom63
             have hr63 := Kd.C_take (m := (x10_1 : Int).toNat) hC63 (by omega)
             have hy63 : y311.length = (x10_1 : Int).toNat := (by rw [Ny311.out, List.length_take]; omega)
             rw [← Ny311.out] at hr63
             rw [← hy63] at hcut63
             have HR314 := Aside0.mk hr63
             have HC314 := Aside0.mk (show y311.length ≤ c0 from by omega)
             clear hr63 hC63 hroom63 hi063 hsz63
             have KY63 := Aside0.mk hy63
             clear hy63
             replace q63 := eq_true q63
             refine hK.out _ _ ⟨cC BK299 0, cC BK299 1, cC BK299 2⟩ (fun hHeld => ?_)
             clear hK K
             refine norm_ (a' := ?_) ?_ ?_
             rotate_left
             ·show Act.put _ (some 43) _ = _
              simp only [Act.put, sA, sZ, sS, i64_w]
              rfl
             refine pP 29 44 (bR [30, 10]) rfl rfl HT_ ?_
             refine pP 30 45 (bR [31, 9]) rfl rfl HT_ ?_
             refine pP 31 46 (bR [32, 8]) rfl rfl HT_ ?_
             refine pP 32 47 (bR [33, 7]) rfl rfl HT_ ?_
             refine pP 33 48 (bR [34, 6]) rfl rfl HT_ ?_
             refine pP 34 49 (bR [35, 5]) rfl rfl HT_ ?_
             refine pP 35 50 (bR [36, 4]) rfl rfl HT_ ?_
             refine take_ (i := 36) (N := some 51) (v := ?_) (a' := ?_) (bR [37, 3]) rfl rfl (take_ofW HT_.out HW_.out (by kernel_rfl)) (fun _ _ _ h => h) (Or.inl ⟨by rfl, ?_⟩) hHeld ?_ ?_
             rotate_left; (rintro w' ⟨s0, s1, s2⟩; go_simp; with_reducible rfl); rotate_left; (simp only [Act.put, sA, sZ, sS, i64_w]; rfl)
             refine one_ (i := 37) (N := some 52) (bR [38, 2]) rfl rfl (one_of HT_.out (by kernel_rfl)) (by decide) (fun K hK => ?_)
             refine goes_ Try.func49 (by kernel_rfl) rfl #[.slice (some ad298) y311.length c0, .int .i64 ((rd_T78 l0 x10_1).f2)] (by rfl) rfl rfl (by (try simp only [mA, mC, mN]); first | done | rfl | (simp only [lD, lT]; rfl)) ?_
             with_reducible refine (impl_SlotOf.calls _ _ y311 ((rd_T78 l0 x10_1).f2) t315 _ ?side1 ?side2 A51.out).mono ?_
             (case side1 => repeat (first | exact (Kd.C_below HR314.out (by repeat first | (with_reducible first | exact HB.out | apply bA | apply bN | apply bD | refine bS ?_ GE299.out) | exact HB.out)) | (with_reducible refine Kd.C_alloc ?_ _) | (with_reducible refine Kd.C_drewN ?_ _) | (with_reducible refine Kd.C_drew ?_)))
             (case side2 => exact HC314.out)
             rintro e w64 ⟨rfl, hb⟩
             refine ⟨_, rfl, ?_⟩
             have n0_ := Aside0.mk (blk_below (qK BK299) hb)
             have n1_ := Aside0.mk (below_step (by repeat first | (with_reducible first | exact HB.out | apply bA | apply bN | apply bD | refine bS ?_ GE299.out) | exact HB.out) hb)
             clear BK299
             clear HB
             have BK299 := n0_
             have HB := n1_
             clear n0_ n1_
             (try clear hb)
             (try clear hb2)
             (try clear hk)
             (try clear hi)
             refine hK.out _ _ ⟨cC BK299 0, cC BK299 1, cC BK299 2⟩ (fun hHeld => ?_)
             clear hK K
             refine norm_ (a' := ?_) ?_ ?_
             rotate_left
             ·show Act.put _ (some 52) _ = _
              simp only [Act.put, sA, sZ, sS, i64_w]
              rfl
             refine pP 38 53 (bR [39, 1]) rfl rfl HT_ ?_
             refine pP 39 54 (bR [40]) rfl rfl HT_ ?_
             refine done_ (done_of HT_.out (by kernel_rfl)) ?_
             try go_wp2
             go_ret
             exact ⟨by first | rfl | (simp [errW_none, errW_some] <;> rfl) | (simp [*, errW_none, errW_some] <;> rfl), by repeat (first | (with_reducible first | exact HB.out | apply bA | apply bN | apply bD | refine bS ?_ GE299.out) | exact HB.out)⟩
           ·rw [if_neg c50] at H
            exact absurd H (by simp)
          ·replace c48 := Bool.eq_false_iff.mpr c48
           subst c48
           have H1 : (some false) = some r := by rw [if_neg (show ¬ (false = true) by decide)] at H; exact H
           clear H
           have H := H1
           clear H1
           obtain rfl := Option.some.inj H
           have p298 : 0 ≤ (x10_1 : Int) := of_decide_eq_true ‹_›
           have q298 : x10_1 < (l0.length : Int) := of_decide_eq_true ‹_›
           obtain ⟨ad298, e298, hx298_0, hx298_1, hx298_2⟩ := at_T78 HR0.out x10_1 p298 q298
           cases e298
           replace hx298_0 := (HB.out.cell (World.block_lt_of_cell? w _ hx298_0)).trans hx298_0
           replace hx298_1 := (HB.out.cell (World.block_lt_of_cell? w _ hx298_1)).trans hx298_1
           replace hx298_2 := (HB.out.cell (World.block_lt_of_cell? w _ hx298_2)).trans hx298_2
           replace p298 := eq_true p298
           replace q298 := eq_true q298
           try go_wp2_with (first | ((with_reducible refine gate_dst (N := 4) rfl ?_); refine box_event ?hg (N := 4) ?hd (cs := #[.int .i64 0, .int .i64 0, .int .i64 0]) (t := 78) ?hr ?_; (case hd => rfl); (case hg => rfl); (case hr => first | (go_simp; done) | (go_simp; rfl)); intro gb299 hg w65 hbox hb; have n0_ := Aside0.mk (below_step (qB HB) hb); have n1_ := Aside0.mk (hbox); have n2_ := Aside0.mk ((by rw [hg]; exact (below_size (qB HB)) : w.heap.size ≤ gb299)); have n3_ := Aside0.mk ((by rw [hg]; exact (below_size (qB HB)) : w.heap.size ≤ gb299)); clear HB; have HB := n0_; have BK299 := n1_; have GW299 := n2_; have GE299 := n3_; clear n0_ n1_ n2_ n3_; clear hb hbox hg; have hcz66_0 : w65.cell? ⟨gb299, 0, none⟩ = some (.int .i64 0) := cC BK299 0; have hcz66_1 : w65.cell? ⟨gb299, 1, none⟩ = some (.int .i64 0) := cC BK299 1; have hcz66_2 : w65.cell? ⟨gb299, 2, none⟩ = some (.int .i64 0) := cC BK299 2; have hfz66_0 := blk_frozen BK299.out 0; have hfz66_1 := blk_frozen BK299.out 1; have hfz66_2 := blk_frozen BK299.out 2))
           have n0_ : Aside0 ((((w65.setCell ⟨gb299, 0, none⟩ (.int .i64 ((rd_T78 l0 x10_1).f0))).setCell ⟨gb299, 1, none⟩ (.int .i64 ((rd_T78 l0 x10_1).f1))).setCell ⟨gb299, 2, none⟩ (.int .i64 ((rd_T78 l0 x10_1).f2))).heap[gb299]? = some (.cells #[.int .i64 ((rd_T78 l0 x10_1).f0), .int .i64 ((rd_T78 l0 x10_1).f1), .int .i64 ((rd_T78 l0 x10_1).f2)] 78 (0, 0))) := ⟨by (with_reducible repeat first | refine kN ?_ _ | refine kD ?_ | refine kA ?_ _); refine blk_put (cs := #[.int .i64 ((rd_T78 l0 x10_1).f0), .int .i64 ((rd_T78 l0 x10_1).f1), .int .i64 0]) ?_ 2 _ rfl; (with_reducible repeat first | refine kN ?_ _ | refine kD ?_ | refine kA ?_ _); refine blk_put (cs := #[.int .i64 ((rd_T78 l0 x10_1).f0), .int .i64 0, .int .i64 0]) ?_ 1 _ rfl; (with_reducible repeat first | refine kN ?_ _ | refine kD ?_ | refine kA ?_ _); refine blk_put (cs := #[.int .i64 0, .int .i64 0, .int .i64 0]) ?_ 0 _ rfl; (with_reducible repeat first | refine kN ?_ _ | refine kD ?_ | refine kA ?_ _); exact BK299.out⟩
           have n1_ : Aside0 (Below w.heap.size w (((w65.setCell ⟨gb299, 0, none⟩ (.int .i64 ((rd_T78 l0 x10_1).f0))).setCell ⟨gb299, 1, none⟩ (.int .i64 ((rd_T78 l0 x10_1).f1))).setCell ⟨gb299, 2, none⟩ (.int .i64 ((rd_T78 l0 x10_1).f2)))) := ⟨by repeat (first | (with_reducible first | exact HB.out | apply bA | apply bN | apply bD | refine bS ?_ GE299.out) | exact HB.out)⟩
           (try clear BK299)
           (try clear HB)
           generalize (((w65.setCell ⟨gb299, 0, none⟩ (.int .i64 ((rd_T78 l0 x10_1).f0))).setCell ⟨gb299, 1, none⟩ (.int .i64 ((rd_T78 l0 x10_1).f1))).setCell ⟨gb299, 2, none⟩ (.int .i64 ((rd_T78 l0 x10_1).f2))) = w67 at n0_ n1_ ⊢
           have BK299 := n0_
           have HB := n1_
           clear n0_ n1_
           have n0_ := Aside0.mk (blk_drew BK299.out)
           have n1_ := Aside0.mk (below_drew1 HB.out)
           clear BK299
           clear HB
           have BK299 := n0_
           have HB := n1_
           clear n0_ n1_
           refine start_ (n := 40) (S := fun w' => w'.cell? ⟨gb299, 0, none⟩ = some (.int .i64 ((rd_T78 l0 x10_1).f0)) ∧ w'.cell? ⟨gb299, 1, none⟩ = some (.int .i64 ((rd_T78 l0 x10_1).f1)) ∧ w'.cell? ⟨gb299, 2, none⟩ = some (.int .i64 ((rd_T78 l0 x10_1).f2))) (ds := []) (bR [0, 40]) (by kernel_rfl) rfl rfl ⟨cC BK299 0, cC BK299 1, cC BK299 2⟩ (fun hHeld => ?_); refine with_tabW impl_AreSlots.tab6 impl_AreSlots.bits6 (fun HT_ HW_ => ?_)
           generalize w67.drew = w68 at BK299 HB hHeld ⊢
           refine pP 0 15 (bR [1, 39]) rfl rfl HT_ ?_
           refine take_ (i := 1) (N := some 16) (v := ?_) (a' := ?_) (bR [2, 38]) rfl rfl (take_ofW HT_.out HW_.out (by kernel_rfl)) (fun _ _ _ h => h) (Or.inl ⟨by rfl, ?_⟩) hHeld ?_ ?_
           rotate_left; (rintro w' ⟨s0, s1, s2⟩; go_simp; with_reducible rfl); rotate_left; (simp only [Act.put, sA, sZ, sS, i64_w]; rfl)
           refine one_ (i := 2) (N := some 17) (bR [3, 37]) rfl rfl (one_of HT_.out (by kernel_rfl)) (by decide) (fun K hK => ?_)
           refine goes_ Try.func138 (by kernel_rfl) rfl #[.int .i64 ((rd_T78 l0 x10_1).f0), .int .i64 1, .int .i64 99] (by rfl) rfl rfl (by (try simp only [mA, mC, mN]); first | done | rfl | (simp only [lD, lT]; rfl)) ?_
           with_reducible refine (impl_InRange.calls ((rd_T78 l0 x10_1).f0) 1 99 true _ A6.out).mono ?_
           rintro e w' ⟨rfl, ⟨nd, rfl⟩⟩
           refine ⟨_, rfl, ?_⟩
           refine hK.out _ _ ⟨cC BK299 0, cC BK299 1, cC BK299 2⟩ (fun hHeld => ?_)
           clear hK K
           refine norm_ (a' := ?_) ?_ ?_
           rotate_left
           ·show Act.put _ (some 17) _ = _
            simp only [Act.put, sA, sZ, sS, i64_w]
            rfl
           refine pP 3 18 (bR [4, 36]) rfl rfl HT_ ?_
           refine pP 4 19 (bR [5, 35]) rfl rfl HT_ ?_
           refine pP 5 20 (bR [6, 34]) rfl rfl HT_ ?_
           refine pP 6 21 (bR [7, 33]) rfl rfl HT_ ?_
           refine pP 7 22 (bR [8, 32]) rfl rfl HT_ ?_
           refine pU 8 23 (bR [9, 31]) rfl rfl HT_ ?_
           refine pU 9 24 (bR [10, 30]) rfl rfl HT_ ?_
           refine pU 10 25 (bR [11, 29]) rfl rfl HT_ ?_
           refine pU 11 26 (bR [12, 28]) rfl rfl HT_ ?_
           refine pU 12 27 (bR [13, 27]) rfl rfl HT_ ?_
           refine pU 13 28 (bR [14, 26]) rfl rfl HT_ ?_
           refine pU 14 29 (bR [15, 25]) rfl rfl HT_ ?_
           refine pU 15 30 (bR [16, 24]) rfl rfl HT_ ?_
           refine pU 16 31 (bR [17, 23]) rfl rfl HT_ ?_
           refine pP 17 32 (bR [18, 22]) rfl rfl HT_ ?_
           refine pP 18 33 (bR [19, 21]) rfl rfl HT_ ?_
           refine pP 19 34 (bR [20, 20]) rfl rfl HT_ ?_
           refine pP 20 35 (bR [21, 19]) rfl rfl HT_ ?_
           refine take_ (i := 21) (N := some 36) (v := ?_) (a' := ?_) (bR [22, 18]) rfl rfl (take_ofW HT_.out HW_.out (by kernel_rfl)) (fun _ _ _ h => h) (Or.inl ⟨by rfl, ?_⟩) hHeld ?_ ?_
           rotate_left; (rintro w' ⟨s0, s1, s2⟩; go_simp; with_reducible rfl); rotate_left; (simp only [Act.put, sA, sZ, sS, i64_w]; rfl)
           refine one_ (i := 22) (N := some 37) (bR [23, 17]) rfl rfl (one_of HT_.out (by kernel_rfl)) (by decide) (fun K hK => ?_)
           refine goes_ Try.func138 (by kernel_rfl) rfl #[.int .i64 ((rd_T78 l0 x10_1).f1), .int .i64 1, .int .i64 50] (by rfl) rfl rfl (by (try simp only [mA, mC, mN]); first | done | rfl | (simp only [lD, lT]; rfl)) ?_
           with_reducible refine (impl_InRange.calls ((rd_T78 l0 x10_1).f1) 1 50 true _ A45.out).mono ?_
           rintro e w' ⟨rfl, ⟨nd, rfl⟩⟩
           refine ⟨_, rfl, ?_⟩
           refine hK.out _ _ ⟨cC BK299 0, cC BK299 1, cC BK299 2⟩ (fun hHeld => ?_)
           clear hK K
           refine norm_ (a' := ?_) ?_ ?_
           rotate_left
           ·show Act.put _ (some 37) _ = _
            simp only [Act.put, sA, sZ, sS, i64_w]
            rfl
           refine pP 23 38 (bR [24, 16]) rfl rfl HT_ ?_
           refine pP 24 39 (bR [25, 15]) rfl rfl HT_ ?_
           refine pP 25 40 (bR [26, 14]) rfl rfl HT_ ?_
           refine pP 26 41 (bR [27, 13]) rfl rfl HT_ ?_
           refine take_ (i := 27) (N := some 42) (v := ?_) (a' := ?_) (bR [28, 12]) rfl rfl (take_ofW HT_.out HW_.out (by kernel_rfl)) (fun _ _ _ h => h) (Or.inl ⟨by rfl, ?_⟩) hHeld ?_ ?_
           rotate_left; (rintro w' ⟨s0, s1, s2⟩; go_simp; with_reducible rfl); rotate_left; (simp only [Act.put, sA, sZ, sS, i64_w]; rfl)
           refine one_ (i := 28) (N := some 43) (bR [29, 11]) rfl rfl (one_of HT_.out (by kernel_rfl)) (by decide) (fun K hK => ?_)
           refine goes_ Try.func138 (by kernel_rfl) rfl #[.int .i64 ((rd_T78 l0 x10_1).f2), .int .i64 0, .int .i64 999] (by rfl) rfl rfl (by (try simp only [mA, mC, mN]); first | done | rfl | (simp only [lD, lT]; rfl)) ?_
           with_reducible refine (impl_InRange.calls ((rd_T78 l0 x10_1).f2) 0 999 false _ A47.out).mono ?_
           rintro e w' ⟨rfl, ⟨nd, rfl⟩⟩
           refine ⟨_, rfl, ?_⟩
           refine hK.out _ _ ⟨cC BK299 0, cC BK299 1, cC BK299 2⟩ (fun hHeld => ?_)
           clear hK K
           refine norm_ (a' := ?_) ?_ ?_
           rotate_left
           ·show Act.put _ (some 43) _ = _
            simp only [Act.put, sA, sZ, sS, i64_w]
            rfl
           refine pP 29 44 (bR [30, 10]) rfl rfl HT_ ?_
           refine pP 30 45 (bR [31, 9]) rfl rfl HT_ ?_
           refine pP 31 46 (bR [32, 8]) rfl rfl HT_ ?_
           refine pU 32 47 (bR [33, 7]) rfl rfl HT_ ?_
           refine pU 33 48 (bR [34, 6]) rfl rfl HT_ ?_
           refine pU 34 49 (bR [35, 5]) rfl rfl HT_ ?_
           refine pU 35 50 (bR [36, 4]) rfl rfl HT_ ?_
           refine pU 36 51 (bR [37, 3]) rfl rfl HT_ ?_
           refine pU 37 52 (bR [38, 2]) rfl rfl HT_ ?_
           refine pU 38 53 (bR [39, 1]) rfl rfl HT_ ?_
           refine pP 39 54 (bR [40]) rfl rfl HT_ ?_
           refine done_ (done_of HT_.out (by kernel_rfl)) ?_
           try go_wp2
           go_ret
           exact ⟨by first | rfl | (simp [errW_none, errW_some] <;> rfl) | (simp [*, errW_none, errW_some] <;> rfl), by repeat (first | (with_reducible first | exact HB.out | apply bA | apply bN | apply bD | refine bS ?_ GE299.out) | exact HB.out)⟩
         ·replace c46 := Bool.eq_false_iff.mpr c46
          subst c46
          have H1 : (some false) = some r := by rw [if_neg (show ¬ (false = true) by decide)] at H; exact H
          clear H
          have H := H1
          clear H1
          obtain rfl := Option.some.inj H
          have p298 : 0 ≤ (x10_1 : Int) := of_decide_eq_true ‹_›
          have q298 : x10_1 < (l0.length : Int) := of_decide_eq_true ‹_›
          obtain ⟨ad298, e298, hx298_0, hx298_1, hx298_2⟩ := at_T78 HR0.out x10_1 p298 q298
          cases e298
          replace hx298_0 := (HB.out.cell (World.block_lt_of_cell? w _ hx298_0)).trans hx298_0
          replace hx298_1 := (HB.out.cell (World.block_lt_of_cell? w _ hx298_1)).trans hx298_1
          replace hx298_2 := (HB.out.cell (World.block_lt_of_cell? w _ hx298_2)).trans hx298_2
          replace p298 := eq_true p298
          replace q298 := eq_true q298
          try go_wp2_with (first | ((with_reducible refine gate_dst (N := 4) rfl ?_); refine box_event ?hg (N := 4) ?hd (cs := #[.int .i64 0, .int .i64 0, .int .i64 0]) (t := 78) ?hr ?_; (case hd => rfl); (case hg => rfl); (case hr => first | (go_simp; done) | (go_simp; rfl)); intro gb299 hg w69 hbox hb; have n0_ := Aside0.mk (below_step (qB HB) hb); have n1_ := Aside0.mk (hbox); have n2_ := Aside0.mk ((by rw [hg]; exact (below_size (qB HB)) : w.heap.size ≤ gb299)); have n3_ := Aside0.mk ((by rw [hg]; exact (below_size (qB HB)) : w.heap.size ≤ gb299)); clear HB; have HB := n0_; have BK299 := n1_; have GW299 := n2_; have GE299 := n3_; clear n0_ n1_ n2_ n3_; clear hb hbox hg; have hcz70_0 : w69.cell? ⟨gb299, 0, none⟩ = some (.int .i64 0) := cC BK299 0; have hcz70_1 : w69.cell? ⟨gb299, 1, none⟩ = some (.int .i64 0) := cC BK299 1; have hcz70_2 : w69.cell? ⟨gb299, 2, none⟩ = some (.int .i64 0) := cC BK299 2; have hfz70_0 := blk_frozen BK299.out 0; have hfz70_1 := blk_frozen BK299.out 1; have hfz70_2 := blk_frozen BK299.out 2))
          have n0_ : Aside0 ((((w69.setCell ⟨gb299, 0, none⟩ (.int .i64 ((rd_T78 l0 x10_1).f0))).setCell ⟨gb299, 1, none⟩ (.int .i64 ((rd_T78 l0 x10_1).f1))).setCell ⟨gb299, 2, none⟩ (.int .i64 ((rd_T78 l0 x10_1).f2))).heap[gb299]? = some (.cells #[.int .i64 ((rd_T78 l0 x10_1).f0), .int .i64 ((rd_T78 l0 x10_1).f1), .int .i64 ((rd_T78 l0 x10_1).f2)] 78 (0, 0))) := ⟨by (with_reducible repeat first | refine kN ?_ _ | refine kD ?_ | refine kA ?_ _); refine blk_put (cs := #[.int .i64 ((rd_T78 l0 x10_1).f0), .int .i64 ((rd_T78 l0 x10_1).f1), .int .i64 0]) ?_ 2 _ rfl; (with_reducible repeat first | refine kN ?_ _ | refine kD ?_ | refine kA ?_ _); refine blk_put (cs := #[.int .i64 ((rd_T78 l0 x10_1).f0), .int .i64 0, .int .i64 0]) ?_ 1 _ rfl; (with_reducible repeat first | refine kN ?_ _ | refine kD ?_ | refine kA ?_ _); refine blk_put (cs := #[.int .i64 0, .int .i64 0, .int .i64 0]) ?_ 0 _ rfl; (with_reducible repeat first | refine kN ?_ _ | refine kD ?_ | refine kA ?_ _); exact BK299.out⟩
          have n1_ : Aside0 (Below w.heap.size w (((w69.setCell ⟨gb299, 0, none⟩ (.int .i64 ((rd_T78 l0 x10_1).f0))).setCell ⟨gb299, 1, none⟩ (.int .i64 ((rd_T78 l0 x10_1).f1))).setCell ⟨gb299, 2, none⟩ (.int .i64 ((rd_T78 l0 x10_1).f2)))) := ⟨by repeat (first | (with_reducible first | exact HB.out | apply bA | apply bN | apply bD | refine bS ?_ GE299.out) | exact HB.out)⟩
          (try clear BK299)
          (try clear HB)
          generalize (((w69.setCell ⟨gb299, 0, none⟩ (.int .i64 ((rd_T78 l0 x10_1).f0))).setCell ⟨gb299, 1, none⟩ (.int .i64 ((rd_T78 l0 x10_1).f1))).setCell ⟨gb299, 2, none⟩ (.int .i64 ((rd_T78 l0 x10_1).f2))) = w71 at n0_ n1_ ⊢
          have BK299 := n0_
          have HB := n1_
          clear n0_ n1_
          have n0_ := Aside0.mk (blk_drew BK299.out)
          have n1_ := Aside0.mk (below_drew1 HB.out)
          clear BK299
          clear HB
          have BK299 := n0_
          have HB := n1_
          clear n0_ n1_
          refine start_ (n := 40) (S := fun w' => w'.cell? ⟨gb299, 0, none⟩ = some (.int .i64 ((rd_T78 l0 x10_1).f0)) ∧ w'.cell? ⟨gb299, 1, none⟩ = some (.int .i64 ((rd_T78 l0 x10_1).f1)) ∧ w'.cell? ⟨gb299, 2, none⟩ = some (.int .i64 ((rd_T78 l0 x10_1).f2))) (ds := []) (bR [0, 40]) (by kernel_rfl) rfl rfl ⟨cC BK299 0, cC BK299 1, cC BK299 2⟩ (fun hHeld => ?_); refine with_tabW impl_AreSlots.tab6 impl_AreSlots.bits6 (fun HT_ HW_ => ?_)
          generalize w71.drew = w72 at BK299 HB hHeld ⊢
          refine pP 0 15 (bR [1, 39]) rfl rfl HT_ ?_
          refine take_ (i := 1) (N := some 16) (v := ?_) (a' := ?_) (bR [2, 38]) rfl rfl (take_ofW HT_.out HW_.out (by kernel_rfl)) (fun _ _ _ h => h) (Or.inl ⟨by rfl, ?_⟩) hHeld ?_ ?_
          rotate_left; (rintro w' ⟨s0, s1, s2⟩; go_simp; with_reducible rfl); rotate_left; (simp only [Act.put, sA, sZ, sS, i64_w]; rfl)
          refine one_ (i := 2) (N := some 17) (bR [3, 37]) rfl rfl (one_of HT_.out (by kernel_rfl)) (by decide) (fun K hK => ?_)
          refine goes_ Try.func138 (by kernel_rfl) rfl #[.int .i64 ((rd_T78 l0 x10_1).f0), .int .i64 1, .int .i64 99] (by rfl) rfl rfl (by (try simp only [mA, mC, mN]); first | done | rfl | (simp only [lD, lT]; rfl)) ?_
          with_reducible refine (impl_InRange.calls ((rd_T78 l0 x10_1).f0) 1 99 true _ A6.out).mono ?_
          rintro e w' ⟨rfl, ⟨nd, rfl⟩⟩
          refine ⟨_, rfl, ?_⟩
          refine hK.out _ _ ⟨cC BK299 0, cC BK299 1, cC BK299 2⟩ (fun hHeld => ?_)
          clear hK K
          refine norm_ (a' := ?_) ?_ ?_
          rotate_left
          ·show Act.put _ (some 17) _ = _
           simp only [Act.put, sA, sZ, sS, i64_w]
           rfl
          refine pP 3 18 (bR [4, 36]) rfl rfl HT_ ?_
          refine pP 4 19 (bR [5, 35]) rfl rfl HT_ ?_
          refine pP 5 20 (bR [6, 34]) rfl rfl HT_ ?_
          refine pP 6 21 (bR [7, 33]) rfl rfl HT_ ?_
          refine pP 7 22 (bR [8, 32]) rfl rfl HT_ ?_
          refine pU 8 23 (bR [9, 31]) rfl rfl HT_ ?_
          refine pU 9 24 (bR [10, 30]) rfl rfl HT_ ?_
          refine pU 10 25 (bR [11, 29]) rfl rfl HT_ ?_
          refine pU 11 26 (bR [12, 28]) rfl rfl HT_ ?_
          refine pU 12 27 (bR [13, 27]) rfl rfl HT_ ?_
          refine pU 13 28 (bR [14, 26]) rfl rfl HT_ ?_
          refine pU 14 29 (bR [15, 25]) rfl rfl HT_ ?_
          refine pU 15 30 (bR [16, 24]) rfl rfl HT_ ?_
          refine pU 16 31 (bR [17, 23]) rfl rfl HT_ ?_
          refine pP 17 32 (bR [18, 22]) rfl rfl HT_ ?_
          refine pP 18 33 (bR [19, 21]) rfl rfl HT_ ?_
          refine pP 19 34 (bR [20, 20]) rfl rfl HT_ ?_
          refine pP 20 35 (bR [21, 19]) rfl rfl HT_ ?_
          refine take_ (i := 21) (N := some 36) (v := ?_) (a' := ?_) (bR [22, 18]) rfl rfl (take_ofW HT_.out HW_.out (by kernel_rfl)) (fun _ _ _ h => h) (Or.inl ⟨by rfl, ?_⟩) hHeld ?_ ?_
          rotate_left; (rintro w' ⟨s0, s1, s2⟩; go_simp; with_reducible rfl); rotate_left; (simp only [Act.put, sA, sZ, sS, i64_w]; rfl)
          refine one_ (i := 22) (N := some 37) (bR [23, 17]) rfl rfl (one_of HT_.out (by kernel_rfl)) (by decide) (fun K hK => ?_)
          refine goes_ Try.func138 (by kernel_rfl) rfl #[.int .i64 ((rd_T78 l0 x10_1).f1), .int .i64 1, .int .i64 50] (by rfl) rfl rfl (by (try simp only [mA, mC, mN]); first | done | rfl | (simp only [lD, lT]; rfl)) ?_
          with_reducible refine (impl_InRange.calls ((rd_T78 l0 x10_1).f1) 1 50 false _ A45.out).mono ?_
          rintro e w' ⟨rfl, ⟨nd, rfl⟩⟩
          refine ⟨_, rfl, ?_⟩
          refine hK.out _ _ ⟨cC BK299 0, cC BK299 1, cC BK299 2⟩ (fun hHeld => ?_)
          clear hK K
          refine norm_ (a' := ?_) ?_ ?_
          rotate_left
          ·show Act.put _ (some 37) _ = _
           simp only [Act.put, sA, sZ, sS, i64_w]
           rfl
          refine pP 23 38 (bR [24, 16]) rfl rfl HT_ ?_
          refine pP 24 39 (bR [25, 15]) rfl rfl HT_ ?_
          refine pP 25 40 (bR [26, 14]) rfl rfl HT_ ?_
          refine pU 26 41 (bR [27, 13]) rfl rfl HT_ ?_
          refine pU 27 42 (bR [28, 12]) rfl rfl HT_ ?_
          refine pU 28 43 (bR [29, 11]) rfl rfl HT_ ?_
          refine pU 29 44 (bR [30, 10]) rfl rfl HT_ ?_
          refine pP 30 45 (bR [31, 9]) rfl rfl HT_ ?_
          refine pP 31 46 (bR [32, 8]) rfl rfl HT_ ?_
          refine pU 32 47 (bR [33, 7]) rfl rfl HT_ ?_
          refine pU 33 48 (bR [34, 6]) rfl rfl HT_ ?_
          refine pU 34 49 (bR [35, 5]) rfl rfl HT_ ?_
          refine pU 35 50 (bR [36, 4]) rfl rfl HT_ ?_
          refine pU 36 51 (bR [37, 3]) rfl rfl HT_ ?_
          refine pU 37 52 (bR [38, 2]) rfl rfl HT_ ?_
          refine pU 38 53 (bR [39, 1]) rfl rfl HT_ ?_
          refine pP 39 54 (bR [40]) rfl rfl HT_ ?_
          refine done_ (done_of HT_.out (by kernel_rfl)) ?_
          try go_wp2
          go_ret
          exact ⟨by first | rfl | (simp [errW_none, errW_some] <;> rfl) | (simp [*, errW_none, errW_some] <;> rfl), by repeat (first | (with_reducible first | exact HB.out | apply bA | apply bN | apply bD | refine bS ?_ GE299.out) | exact HB.out)⟩
       ·replace c7 := Bool.eq_false_iff.mpr c7
        subst c7
        have H1 : (some false) = some r := by rw [if_neg (show ¬ (false = true) by decide)] at H; exact H
        clear H
        have H := H1
        clear H1
        obtain rfl := Option.some.inj H
        have p298 : 0 ≤ (x10_1 : Int) := of_decide_eq_true ‹_›
        have q298 : x10_1 < (l0.length : Int) := of_decide_eq_true ‹_›
        obtain ⟨ad298, e298, hx298_0, hx298_1, hx298_2⟩ := at_T78 HR0.out x10_1 p298 q298
        cases e298
        replace hx298_0 := (HB.out.cell (World.block_lt_of_cell? w _ hx298_0)).trans hx298_0
        replace hx298_1 := (HB.out.cell (World.block_lt_of_cell? w _ hx298_1)).trans hx298_1
        replace hx298_2 := (HB.out.cell (World.block_lt_of_cell? w _ hx298_2)).trans hx298_2
        replace p298 := eq_true p298
        replace q298 := eq_true q298
        try go_wp2_with (first | ((with_reducible refine gate_dst (N := 4) rfl ?_); refine box_event ?hg (N := 4) ?hd (cs := #[.int .i64 0, .int .i64 0, .int .i64 0]) (t := 78) ?hr ?_; (case hd => rfl); (case hg => rfl); (case hr => first | (go_simp; done) | (go_simp; rfl)); intro gb299 hg w73 hbox hb; have n0_ := Aside0.mk (below_step (qB HB) hb); have n1_ := Aside0.mk (hbox); have n2_ := Aside0.mk ((by rw [hg]; exact (below_size (qB HB)) : w.heap.size ≤ gb299)); have n3_ := Aside0.mk ((by rw [hg]; exact (below_size (qB HB)) : w.heap.size ≤ gb299)); clear HB; have HB := n0_; have BK299 := n1_; have GW299 := n2_; have GE299 := n3_; clear n0_ n1_ n2_ n3_; clear hb hbox hg; have hcz74_0 : w73.cell? ⟨gb299, 0, none⟩ = some (.int .i64 0) := cC BK299 0; have hcz74_1 : w73.cell? ⟨gb299, 1, none⟩ = some (.int .i64 0) := cC BK299 1; have hcz74_2 : w73.cell? ⟨gb299, 2, none⟩ = some (.int .i64 0) := cC BK299 2; have hfz74_0 := blk_frozen BK299.out 0; have hfz74_1 := blk_frozen BK299.out 1; have hfz74_2 := blk_frozen BK299.out 2))
        have n0_ : Aside0 ((((w73.setCell ⟨gb299, 0, none⟩ (.int .i64 ((rd_T78 l0 x10_1).f0))).setCell ⟨gb299, 1, none⟩ (.int .i64 ((rd_T78 l0 x10_1).f1))).setCell ⟨gb299, 2, none⟩ (.int .i64 ((rd_T78 l0 x10_1).f2))).heap[gb299]? = some (.cells #[.int .i64 ((rd_T78 l0 x10_1).f0), .int .i64 ((rd_T78 l0 x10_1).f1), .int .i64 ((rd_T78 l0 x10_1).f2)] 78 (0, 0))) := ⟨by (with_reducible repeat first | refine kN ?_ _ | refine kD ?_ | refine kA ?_ _); refine blk_put (cs := #[.int .i64 ((rd_T78 l0 x10_1).f0), .int .i64 ((rd_T78 l0 x10_1).f1), .int .i64 0]) ?_ 2 _ rfl; (with_reducible repeat first | refine kN ?_ _ | refine kD ?_ | refine kA ?_ _); refine blk_put (cs := #[.int .i64 ((rd_T78 l0 x10_1).f0), .int .i64 0, .int .i64 0]) ?_ 1 _ rfl; (with_reducible repeat first | refine kN ?_ _ | refine kD ?_ | refine kA ?_ _); refine blk_put (cs := #[.int .i64 0, .int .i64 0, .int .i64 0]) ?_ 0 _ rfl; (with_reducible repeat first | refine kN ?_ _ | refine kD ?_ | refine kA ?_ _); exact BK299.out⟩
        have n1_ : Aside0 (Below w.heap.size w (((w73.setCell ⟨gb299, 0, none⟩ (.int .i64 ((rd_T78 l0 x10_1).f0))).setCell ⟨gb299, 1, none⟩ (.int .i64 ((rd_T78 l0 x10_1).f1))).setCell ⟨gb299, 2, none⟩ (.int .i64 ((rd_T78 l0 x10_1).f2)))) := ⟨by repeat (first | (with_reducible first | exact HB.out | apply bA | apply bN | apply bD | refine bS ?_ GE299.out) | exact HB.out)⟩
        (try clear BK299)
        (try clear HB)
        generalize (((w73.setCell ⟨gb299, 0, none⟩ (.int .i64 ((rd_T78 l0 x10_1).f0))).setCell ⟨gb299, 1, none⟩ (.int .i64 ((rd_T78 l0 x10_1).f1))).setCell ⟨gb299, 2, none⟩ (.int .i64 ((rd_T78 l0 x10_1).f2))) = w75 at n0_ n1_ ⊢
        have BK299 := n0_
        have HB := n1_
        clear n0_ n1_
        have n0_ := Aside0.mk (blk_drew BK299.out)
        have n1_ := Aside0.mk (below_drew1 HB.out)
        clear BK299
        clear HB
        have BK299 := n0_
        have HB := n1_
        clear n0_ n1_
        refine start_ (n := 40) (S := fun w' => w'.cell? ⟨gb299, 0, none⟩ = some (.int .i64 ((rd_T78 l0 x10_1).f0)) ∧ w'.cell? ⟨gb299, 1, none⟩ = some (.int .i64 ((rd_T78 l0 x10_1).f1)) ∧ w'.cell? ⟨gb299, 2, none⟩ = some (.int .i64 ((rd_T78 l0 x10_1).f2))) (ds := []) (bR [0, 40]) (by kernel_rfl) rfl rfl ⟨cC BK299 0, cC BK299 1, cC BK299 2⟩ (fun hHeld => ?_); refine with_tabW impl_AreSlots.tab6 impl_AreSlots.bits6 (fun HT_ HW_ => ?_)
        generalize w75.drew = w76 at BK299 HB hHeld ⊢
        refine pP 0 15 (bR [1, 39]) rfl rfl HT_ ?_
        refine take_ (i := 1) (N := some 16) (v := ?_) (a' := ?_) (bR [2, 38]) rfl rfl (take_ofW HT_.out HW_.out (by kernel_rfl)) (fun _ _ _ h => h) (Or.inl ⟨by rfl, ?_⟩) hHeld ?_ ?_
        rotate_left; (rintro w' ⟨s0, s1, s2⟩; go_simp; with_reducible rfl); rotate_left; (simp only [Act.put, sA, sZ, sS, i64_w]; rfl)
        refine one_ (i := 2) (N := some 17) (bR [3, 37]) rfl rfl (one_of HT_.out (by kernel_rfl)) (by decide) (fun K hK => ?_)
        refine goes_ Try.func138 (by kernel_rfl) rfl #[.int .i64 ((rd_T78 l0 x10_1).f0), .int .i64 1, .int .i64 99] (by rfl) rfl rfl (by (try simp only [mA, mC, mN]); first | done | rfl | (simp only [lD, lT]; rfl)) ?_
        with_reducible refine (impl_InRange.calls ((rd_T78 l0 x10_1).f0) 1 99 false _ A6.out).mono ?_
        rintro e w' ⟨rfl, ⟨nd, rfl⟩⟩
        refine ⟨_, rfl, ?_⟩
        refine hK.out _ _ ⟨cC BK299 0, cC BK299 1, cC BK299 2⟩ (fun hHeld => ?_)
        clear hK K
        refine norm_ (a' := ?_) ?_ ?_
        rotate_left
        ·show Act.put _ (some 17) _ = _
         simp only [Act.put, sA, sZ, sS, i64_w]
         rfl
        refine pP 3 18 (bR [4, 36]) rfl rfl HT_ ?_
        refine pP 4 19 (bR [5, 35]) rfl rfl HT_ ?_
        refine pU 5 20 (bR [6, 34]) rfl rfl HT_ ?_
        refine pU 6 21 (bR [7, 33]) rfl rfl HT_ ?_
        refine pU 7 22 (bR [8, 32]) rfl rfl HT_ ?_
        refine pU 8 23 (bR [9, 31]) rfl rfl HT_ ?_
        refine pU 9 24 (bR [10, 30]) rfl rfl HT_ ?_
        refine pU 10 25 (bR [11, 29]) rfl rfl HT_ ?_
        refine pU 11 26 (bR [12, 28]) rfl rfl HT_ ?_
        refine pU 12 27 (bR [13, 27]) rfl rfl HT_ ?_
        refine pU 13 28 (bR [14, 26]) rfl rfl HT_ ?_
        refine pU 14 29 (bR [15, 25]) rfl rfl HT_ ?_
        refine pU 15 30 (bR [16, 24]) rfl rfl HT_ ?_
        refine pU 16 31 (bR [17, 23]) rfl rfl HT_ ?_
        refine pU 17 32 (bR [18, 22]) rfl rfl HT_ ?_
        refine pP 18 33 (bR [19, 21]) rfl rfl HT_ ?_
        refine pP 19 34 (bR [20, 20]) rfl rfl HT_ ?_
        refine pU 20 35 (bR [21, 19]) rfl rfl HT_ ?_
        refine pU 21 36 (bR [22, 18]) rfl rfl HT_ ?_
        refine pU 22 37 (bR [23, 17]) rfl rfl HT_ ?_
        refine pU 23 38 (bR [24, 16]) rfl rfl HT_ ?_
        refine pP 24 39 (bR [25, 15]) rfl rfl HT_ ?_
        refine pP 25 40 (bR [26, 14]) rfl rfl HT_ ?_
        refine pU 26 41 (bR [27, 13]) rfl rfl HT_ ?_
        refine pU 27 42 (bR [28, 12]) rfl rfl HT_ ?_
        refine pU 28 43 (bR [29, 11]) rfl rfl HT_ ?_
        refine pU 29 44 (bR [30, 10]) rfl rfl HT_ ?_
        refine pP 30 45 (bR [31, 9]) rfl rfl HT_ ?_
        refine pP 31 46 (bR [32, 8]) rfl rfl HT_ ?_
        refine pU 32 47 (bR [33, 7]) rfl rfl HT_ ?_
        refine pU 33 48 (bR [34, 6]) rfl rfl HT_ ?_
        refine pU 34 49 (bR [35, 5]) rfl rfl HT_ ?_
        refine pU 35 50 (bR [36, 4]) rfl rfl HT_ ?_
        refine pU 36 51 (bR [37, 3]) rfl rfl HT_ ?_
        refine pU 37 52 (bR [38, 2]) rfl rfl HT_ ?_
        refine pU 38 53 (bR [39, 1]) rfl rfl HT_ ?_
        refine pP 39 54 (bR [40]) rfl rfl HT_ ?_
        refine done_ (done_of HT_.out (by kernel_rfl)) ?_
        try go_wp2
        go_ret
        exact ⟨by first | rfl | (simp [errW_none, errW_some] <;> rfl) | (simp [*, errW_none, errW_some] <;> rfl), by repeat (first | (with_reducible first | exact HB.out | apply bA | apply bN | apply bD | refine bS ?_ GE299.out) | exact HB.out)⟩
      ·rw [if_neg c5] at H
       exact absurd H (by simp)
     ·rw [if_neg c4] at H
      exact absurd H (by simp)
    ·rw [if_neg c3] at H
     have c3b0 : decide (x10_1 < (l0.length : Int)) = false := decide_eq_false c3
     clear c3
     obtain rfl := Option.some.inj H
     go_wp2
     go_ret
     exact ⟨by first | rfl | (simp [errW_none, errW_some] <;> rfl) | (simp [*, errW_none, errW_some] <;> rfl), by repeat (first | (with_reducible first | exact HB.out | apply bA | apply bN | apply bD) | exact HB.out)⟩

end Go.Proofs.Ytkfalbaklodnjaa.PFnShelves
