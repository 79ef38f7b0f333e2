-- The printed functions of one law and their contracts, over contracts of this session's own (hand.py).
import Derived.Test.YtbbfelgojaioaaaPFnExactPutAwayx0
import Derived.Test.YtbbfelgojaioaaaPFnExactPutAwayx5
namespace Go.Proofs.Ytbbfelgojaioaaa.PFnExactPutAway
open Go.RowKit Go.Proofs.YtbbfelgojaioaaaW.PrintWords Go.Proofs.YtbbfelgojaioaaaW.PrintLast Go.Proofs.YtbbfelgojaioaaaW.PrintMore Go.Proofs.Ytbbfelgojaioaaa.Short
attribute [local go_sem] max2_int min2_int max_two min_two max_three min_three max_four min_four   -- for this text's walks alone
set_option linter.unusedVariables false
set_option linter.unusedSimpArgs false

/-! ### impl_AreSlots: function 59 -/
def impl_AreSlots.l0 : Nat → List (S95) → List (S95) → Int → Int → Option (Bool)
 | 0, _, _, _, _ => none
 | k + 1, x0, x8, x9, x10 => if x10 < x9 then (if 0 ≤ x10 then (if x10 < (x8.length : Int) then ((impl_InRange.f ((rd_T95 x8 x10).f0) 1 99).bind fun t167 => (if t167 = true then (if x10 > 0 then (if 0 ≤ (wrap64 (x10 - 1)) then (if (wrap64 (x10 - 1)) < (x0.length : Int) then (if ((rd_T95 x8 x10).f0) ≤ ((rd_T95 x0 (wrap64 (x10 - 1))).f0) then (some false) else ((impl_InRange.f ((rd_T95 x8 x10).f1) 1 50).bind fun t169 => (if t169 = true then ((impl_InRange.f ((rd_T95 x8 x10).f2) 0 999).bind fun t170 => (if t170 = true then (if x10 ≤ (x0.length : Int) then ((impl_SlotOf.f (x0.take (x10 : Int).toNat) ((rd_T95 x8 x10).f2)).bind fun t175 => (if t175 = 0 then (impl_AreSlots.l0 k x0 x8 x9 (wrap64 (x10 + 1))) else (some false))) else (none)) else (some false))) else (some false)))) else (none)) else (none)) else ((impl_InRange.f ((rd_T95 x8 x10).f1) 1 50).bind fun t176 => (if t176 = true then ((impl_InRange.f ((rd_T95 x8 x10).f2) 0 999).bind fun t177 => (if t177 = true then (if x10 ≤ (x0.length : Int) then ((impl_SlotOf.f (x0.take (x10 : Int).toNat) ((rd_T95 x8 x10).f2)).bind fun t182 => (if t182 = 0 then (impl_AreSlots.l0 k x0 x8 x9 (wrap64 (x10 + 1))) else (some false))) else (none)) else (some false))) else (some false)))) else (some false))) else (none)) else (none)) else (some true)
def impl_AreSlots.f (k : Nat) (l0 : List (S95)) : Option (Bool) := if (l0.length : Int) > 30 then (some false) else (impl_AreSlots.l0 k l0 l0 (l0.length : Int) 0)
theorem impl_AreSlots.mono_l : ∀ k, (∀ y0 y1 y2 y3, LeO (impl_AreSlots.l0 k y0 y1 y2 y3) (impl_AreSlots.l0 (k + 1) y0 y1 y2 y3))
 | 0 => fun _ _ _ _ r h => by simp [impl_AreSlots.l0] at h
 | k + 1 => by
  have ih0 := impl_AreSlots.mono_l k
  ·intro y0 y1 y2 y3
   unfold impl_AreSlots.l0
   repeat' first
   | (with_reducible exact ih0 _ _ _ _)
   | (with_reducible exact LeO.refl _)
   | (with_reducible exact LeO.none _)
   | (with_reducible refine LeO.ite ?_ ?_)
   | (with_reducible refine LeO.bind ?_ (fun _ => ?_))
   | exact ih0 _ _ _ _
   | exact LeO.none _
   | refine LeO.ite ?_ ?_
   | refine LeO.bind ?_ (fun _ => ?_)
theorem impl_AreSlots.mono : ∀ a0 k, LeO (impl_AreSlots.f k a0) (impl_AreSlots.f (k + 1) a0) := by
 intro a0 k
 have ih0 := impl_AreSlots.mono_l k
 unfold impl_AreSlots.f
 repeat' first
   | (with_reducible exact ih0 _ _ _ _)
   | (with_reducible exact LeO.refl _)
   | (with_reducible exact LeO.none _)
   | (with_reducible refine LeO.ite ?_ ?_)
   | (with_reducible refine LeO.bind ?_ (fun _ => ?_))
   | exact ih0 _ _ _ _
   | exact LeO.none _
   | refine LeO.ite ?_ ?_
   | refine LeO.bind ?_ (fun _ => ?_)
def impl_AreSlots.T6 : Bool × List (List Nat × List Nat) := (true, [([], []), ([0], [0]), ([1], [1]), ([2], [2]), ([3, 2], [3]), ([4], [4]), ([5, 4], [4, 5]), ([6, 4, 4], [4, 6]), ([7], [7]), ([8, 7], [7, 8]), ([7], [7]), ([7], [7]), ([11, 7], [7, 11]), ([10, 12, 7], [7, 10, 12]), ([13, 7], [7, 13]), ([14, 7], [7, 14]), ([9, 15, 7], [7, 9, 15]), ([7, 16, 4], [4, 7, 16]), ([4, 17], [4, 17]), ([18, 7], [18]), ([19], [19]), ([20, 19], [19, 20]), ([21, 19, 19], [19, 21]), ([22, 19], [19, 22]), ([19, 23], [19, 23]), ([24, 22], [24]), ([25], [25]), ([26, 25], [25, 26]), ([27, 25, 25], [25, 27]), ([28, 25], [25, 28]), ([25, 29], [25, 29]), ([30, 28], [30]), ([31], [31]), ([31], [31]), ([32, 33, 31], [31, 32, 33]), ([31], [31]), ([35, 31], [31, 35]), ([34, 36, 31, 31], [31, 34, 36]), ([37, 31], [31, 37]), ([31, 38], [31, 38])])
def impl_AreSlots.B6 : List Nat := [0, 1, 3, 7, 15, 31, 63, 127, 255, 511, 255, 255, 2303, 7423, 15615, 31999, 65535, 131071, 262143, 524287, 1048575, 2097151, 4194303, 8388607, 16777215, 33554431, 67108863, 134217727, 268435455, 536870911, 1073741823, 2147483647, 4294967295, 4294967295, 17179869183, 4294967295, 38654705663, 137438953471, 274877906943, 549755813887]
theorem impl_AreSlots.tab6 : rtab .any (opsOf Try.f59 6) = impl_AreSlots.T6 := by kernel_rfl
theorem impl_AreSlots.bits6 : waitsOk impl_AreSlots.T6.2 impl_AreSlots.B6 = true := by kernel_rfl
set_option maxHeartbeats 8000000 in
set_option maxRecDepth 100000 in
theorem impl_AreSlots.calls (k : Nat) (A0 : Option Addr) (c0 : Nat) (l0 : List (S95)) (r : Bool) (w : World) (hr0 : Kd.C k95 w A0 l0.length l0) (hc0 : l0.length ≤ c0) (h : impl_AreSlots.f k l0 = some r) :
  Calls Try.prog 59 #[.slice A0 l0.length c0] w fun e w' => e = .returned (.bool r) ∧ Below w.heap.size w w' := by
 have hu95 := Try.underlying95
 have HR0 := Aside0.mk hr0
 have HC0 := Aside0.mk hc0
 clear hr0 hc0
 have HB := Aside0.mk (Below.refl w.heap.size w)
 have H : (if (l0.length : Int) > 30 then (some false) else (impl_AreSlots.l0 k l0 l0 (l0.length : Int) 0)) = some r := h
 clear h
 by_cases c2 : (l0.length : Int) > 30
 ·rw [if_pos c2] at H
  have c2b0 : decide (30 < (l0.length : Int)) = true := decide_eq_true c2
  have c2b1 : decide (30 < l0.length) = true := decide_eq_true (by omega)
  clear c2
  obtain rfl := Option.some.inj H
  go_enter Try.func59, Try.ntmps59
  go_wp2
  go_ret
  exact ⟨by first | rfl | (simp [errW_none, errW_some] <;> rfl) | (simp [*, errW_none, errW_some] <;> rfl), by repeat (first | (with_reducible first | exact HB.out | apply below_alloc | apply pw_below_drewN | apply below_drew1) | exact HB.out)⟩
 ·rw [if_neg c2] at H
  have c2b0 : decide (30 < (l0.length : Int)) = false := decide_eq_false c2
  have c2b1 : decide (30 < l0.length) = false := decide_eq_false (by omega)
  clear c2
  have H' := Aside0.mk H
  clear H
  go_enter Try.func59, Try.ntmps59
  go_wp2
  go_loopg [10] k (fun kq v10 w' => ∃ (x10_1 : Int), v10 = .int .i64 x10_1 ∧ Aside0 (impl_AreSlots.l0 kq l0 l0 (l0.length : Int) x10_1 = some r) ∧ Aside0 (kq ≤ k) ∧ Aside0 (Below w.heap.size w w'))
  case atStart => exact ⟨(0), (by first | rfl | (simp; done) | (simp [*]; done)), H', ⟨Nat.le_refl _⟩, ⟨by repeat (first | (with_reducible first | exact HB.out | apply below_alloc | apply pw_below_drewN | apply below_drew1) | exact HB.out)⟩⟩
  case round =>
   clear H'
   try clear c2
   try clear c2b0
   try clear c2b1
   try clear p2
   obtain ⟨x10_1, rfl, HA, HK1, HB⟩ := hrel
   cases gk with
   | zero => exact absurd HA.out (by simp [impl_AreSlots.l0])
   | succ k1 =>
    have H := HA.out
    clear HA
    simp only [impl_AreSlots.l0] at H
    by_cases c3 : x10_1 < (l0.length : Int)
    ·rw [if_pos c3] at H
     have c3b0 : decide (x10_1 < (l0.length : Int)) = true := decide_eq_true c3
     clear c3
     by_cases c4 : 0 ≤ x10_1
     ·rw [if_pos c4] at H
      have c4b0 : decide (0 ≤ x10_1) = true := decide_eq_true c4
      clear c4
      by_cases c5 : x10_1 < (l0.length : Int)
      ·rw [if_pos c5] at H
       have c5b0 : decide (x10_1 < (l0.length : Int)) = true := decide_eq_true c5
       clear c5
       replace H := Option.bind_eq_some_iff.mp H
       obtain ⟨t167, A60, H⟩ := H
       replace H : (if t167 = true then (if x10_1 > 0 then (if 0 ≤ (wrap64 (x10_1 - 1)) then (if (wrap64 (x10_1 - 1)) < (l0.length : Int) then (if ((rd_T95 l0 x10_1).f0) ≤ ((rd_T95 l0 (wrap64 (x10_1 - 1))).f0) then (some false) else ((impl_InRange.f ((rd_T95 l0 x10_1).f1) 1 50).bind fun t169 => (if t169 = true then ((impl_InRange.f ((rd_T95 l0 x10_1).f2) 0 999).bind fun t170 => (if t170 = true then (if x10_1 ≤ (l0.length : Int) then ((impl_SlotOf.f (l0.take (x10_1 : Int).toNat) ((rd_T95 l0 x10_1).f2)).bind fun t175 => (if t175 = 0 then (impl_AreSlots.l0 k1 l0 l0 (l0.length : Int) (wrap64 (x10_1 + 1))) else (some false))) else (none)) else (some false))) else (some false)))) else (none)) else (none)) else ((impl_InRange.f ((rd_T95 l0 x10_1).f1) 1 50).bind fun t176 => (if t176 = true then ((impl_InRange.f ((rd_T95 l0 x10_1).f2) 0 999).bind fun t177 => (if t177 = true then (if x10_1 ≤ (l0.length : Int) then ((impl_SlotOf.f (l0.take (x10_1 : Int).toNat) ((rd_T95 l0 x10_1).f2)).bind fun t182 => (if t182 = 0 then (impl_AreSlots.l0 k1 l0 l0 (l0.length : Int) (wrap64 (x10_1 + 1))) else (some false))) else (none)) else (some false))) else (some false)))) else (some false)) = some r := H
       have A6 := Aside0.mk A60
       clear A60
       by_cases c7 : t167 = true
       ·subst c7
        have H1 : (if x10_1 > 0 then (if 0 ≤ (wrap64 (x10_1 - 1)) then (if (wrap64 (x10_1 - 1)) < (l0.length : Int) then (if ((rd_T95 l0 x10_1).f0) ≤ ((rd_T95 l0 (wrap64 (x10_1 - 1))).f0) then (some false) else ((impl_InRange.f ((rd_T95 l0 x10_1).f1) 1 50).bind fun t169 => (if t169 = true then ((impl_InRange.f ((rd_T95 l0 x10_1).f2) 0 999).bind fun t170 => (if t170 = true then (if x10_1 ≤ (l0.length : Int) then ((impl_SlotOf.f (l0.take (x10_1 : Int).toNat) ((rd_T95 l0 x10_1).f2)).bind fun t175 => (if t175 = 0 then (impl_AreSlots.l0 k1 l0 l0 (l0.length : Int) (wrap64 (x10_1 + 1))) else (some false))) else (none)) else (some false))) else (some false)))) else (none)) else (none)) else ((impl_InRange.f ((rd_T95 l0 x10_1).f1) 1 50).bind fun t176 => (if t176 = true then ((impl_InRange.f ((rd_T95 l0 x10_1).f2) 0 999).bind fun t177 => (if t177 = true then (if x10_1 ≤ (l0.length : Int) then ((impl_SlotOf.f (l0.take (x10_1 : Int).toNat) ((rd_T95 l0 x10_1).f2)).bind fun t182 => (if t182 = 0 then (impl_AreSlots.l0 k1 l0 l0 (l0.length : Int) (wrap64 (x10_1 + 1))) else (some false))) else (none)) else (some false))) else (some false)))) = some r := by rw [if_pos rfl] at H; exact H
        clear H
        have H := H1
        clear H1
        by_cases c8 : x10_1 > 0
        ·rw [if_pos c8] at H
         have c8b0 : decide (0 < x10_1) = true := decide_eq_true c8
         clear c8
         obtain ⟨ji9, hji9⟩ : ∃ j_ : Int, (wrap64 (x10_1 - 1)) = j_ := ⟨_, rfl⟩
         replace H : (if 0 ≤ (ji9) then (if (ji9) < (l0.length : Int) then (if ((rd_T95 l0 x10_1).f0) ≤ ((rd_T95 l0 (ji9)).f0) then (some false) else ((impl_InRange.f ((rd_T95 l0 x10_1).f1) 1 50).bind fun t169 => (if t169 = true then ((impl_InRange.f ((rd_T95 l0 x10_1).f2) 0 999).bind fun t170 => (if t170 = true then (if x10_1 ≤ (l0.length : Int) then ((impl_SlotOf.f (l0.take (x10_1 : Int).toNat) ((rd_T95 l0 x10_1).f2)).bind fun t175 => (if t175 = 0 then (impl_AreSlots.l0 k1 l0 l0 (l0.length : Int) (wrap64 (x10_1 + 1))) else (some false))) else (none)) else (some false))) else (some false)))) else (none)) else (none)) = some r := by first | (rw [hji9] at H; exact H) | (simp only [hji9] at H ⊢; exact H)
         (try rw [hji9] at A6)
         have hji9w : (IntKind.i64.wrap (x10_1 - 1)) = ji9 := (i64_w _).trans hji9
         by_cases c10 : 0 ≤ (ji9)
         ·rw [if_pos c10] at H
          have c10b0 : decide (0 ≤ (ji9)) = true := decide_eq_true c10
          clear c10
          by_cases c11 : (ji9) < (l0.length : Int)
          ·rw [if_pos c11] at H
           have c11b0 : decide ((ji9) < (l0.length : Int)) = true := decide_eq_true c11
           clear c11
           by_cases c12 : ((rd_T95 l0 x10_1).f0) ≤ ((rd_T95 l0 (ji9)).f0)
           ·rw [if_pos c12] at H
            have c12b0 : decide (((rd_T95 l0 x10_1).f0) ≤ ((rd_T95 l0 (ji9)).f0)) = true := decide_eq_true c12
            clear c12
            obtain rfl := Option.some.inj H
            have p165 : 0 ≤ (x10_1 : Int) := of_decide_eq_true ‹_›
            have q165 : x10_1 < (l0.length : Int) := of_decide_eq_true ‹_›
            obtain ⟨ad165, e165, hx165_0, hx165_1, hx165_2⟩ := at_T95 HR0.out x10_1 p165 q165
            cases e165
            replace hx165_0 := (HB.out.cell (World.block_lt_of_cell? w _ hx165_0)).trans hx165_0
            replace hx165_1 := (HB.out.cell (World.block_lt_of_cell? w _ hx165_1)).trans hx165_1
            replace hx165_2 := (HB.out.cell (World.block_lt_of_cell? w _ hx165_2)).trans hx165_2
            replace p165 := eq_true p165
            replace q165 := eq_true q165
            try go_wp2_with (first | ((with_reducible refine gate_dst (N := 4) rfl ?_); refine box_event ?hg (N := 4) ?hd (cs := #[.int .i64 0, .int .i64 0, .int .i64 0]) (t := 95) ?hr ?_; (case hd => rfl); (case hg => rfl); (case hr => first | (go_simp; done) | (go_simp; rfl)); intro gb166 hg w13 hbox hb; have n0_ := Aside0.mk (below_step (qB HB) hb); have n1_ := Aside0.mk (hbox); have n2_ := Aside0.mk ((by rw [hg]; exact (below_size (qB HB)) : w.heap.size ≤ gb166)); have n3_ := Aside0.mk ((by rw [hg]; exact (below_size (qB HB)) : w.heap.size ≤ gb166)); clear HB; have HB := n0_; have BK166 := n1_; have GW166 := n2_; have GE166 := n3_; clear n0_ n1_ n2_ n3_; clear hb hbox hg; have hcz14_0 : w13.cell? ⟨gb166, 0, none⟩ = some (.int .i64 0) := (blk_cell BK166.out 0).trans rfl; have hcz14_1 : w13.cell? ⟨gb166, 1, none⟩ = some (.int .i64 0) := (blk_cell BK166.out 1).trans rfl; have hcz14_2 : w13.cell? ⟨gb166, 2, none⟩ = some (.int .i64 0) := (blk_cell BK166.out 2).trans rfl; have hfz14_0 := blk_frozen BK166.out 0; have hfz14_1 := blk_frozen BK166.out 1; have hfz14_2 := blk_frozen BK166.out 2))
            have n0_ : Aside0 ((((w13.setCell ⟨gb166, 0, none⟩ (.int .i64 ((rd_T95 l0 x10_1).f0))).setCell ⟨gb166, 1, none⟩ (.int .i64 ((rd_T95 l0 x10_1).f1))).setCell ⟨gb166, 2, none⟩ (.int .i64 ((rd_T95 l0 x10_1).f2))).heap[gb166]? = some (.cells #[.int .i64 ((rd_T95 l0 x10_1).f0), .int .i64 ((rd_T95 l0 x10_1).f1), .int .i64 ((rd_T95 l0 x10_1).f2)] 95 (0, 0))) := ⟨by (with_reducible repeat (first | refine blk_drewN ?_ _ | refine blk_drew ?_ | refine blk_alloc ?_ _)); refine blk_put (cs := #[.int .i64 ((rd_T95 l0 x10_1).f0), .int .i64 ((rd_T95 l0 x10_1).f1), .int .i64 0]) ?_ 2 _ rfl; (with_reducible repeat (first | refine blk_drewN ?_ _ | refine blk_drew ?_ | refine blk_alloc ?_ _)); refine blk_put (cs := #[.int .i64 ((rd_T95 l0 x10_1).f0), .int .i64 0, .int .i64 0]) ?_ 1 _ rfl; (with_reducible repeat (first | refine blk_drewN ?_ _ | refine blk_drew ?_ | refine blk_alloc ?_ _)); refine blk_put (cs := #[.int .i64 0, .int .i64 0, .int .i64 0]) ?_ 0 _ rfl; (with_reducible repeat (first | refine blk_drewN ?_ _ | refine blk_drew ?_ | refine blk_alloc ?_ _)); exact BK166.out⟩
            have n1_ : Aside0 (Below w.heap.size w (((w13.setCell ⟨gb166, 0, none⟩ (.int .i64 ((rd_T95 l0 x10_1).f0))).setCell ⟨gb166, 1, none⟩ (.int .i64 ((rd_T95 l0 x10_1).f1))).setCell ⟨gb166, 2, none⟩ (.int .i64 ((rd_T95 l0 x10_1).f2)))) := ⟨by repeat (first | (with_reducible first | exact HB.out | apply below_alloc | apply pw_below_drewN | apply below_drew1 | refine below_set ?_ GE166.out) | exact HB.out)⟩
            (try clear BK166)
            (try clear HB)
            generalize (((w13.setCell ⟨gb166, 0, none⟩ (.int .i64 ((rd_T95 l0 x10_1).f0))).setCell ⟨gb166, 1, none⟩ (.int .i64 ((rd_T95 l0 x10_1).f1))).setCell ⟨gb166, 2, none⟩ (.int .i64 ((rd_T95 l0 x10_1).f2))) = w15 at n0_ n1_ ⊢
            have BK166 := n0_
            have HB := n1_
            clear n0_ n1_
            have n0_ := Aside0.mk (blk_drew BK166.out)
            have n1_ := Aside0.mk (below_drew1 HB.out)
            clear BK166
            clear HB
            have BK166 := n0_
            have HB := n1_
            clear n0_ n1_
            have p168 : 0 ≤ ((ji9) : Int) := of_decide_eq_true ‹_›
            have q168 : (ji9) < (l0.length : Int) := of_decide_eq_true ‹_›
            obtain ⟨ad168, e168, hx168_0, hx168_1, hx168_2⟩ := at_T95 HR0.out (ji9) p168 q168
            have hw168_2 := hx168_2
            have hw168_1 := hx168_1
            have hw168_0 := hx168_0
            obtain rfl : ad165 = ad168 := (by injection e168)
            replace hx168_0 := (HB.out.cell (World.block_lt_of_cell? w _ hx168_0)).trans hx168_0
            replace hx168_1 := (HB.out.cell (World.block_lt_of_cell? w _ hx168_1)).trans hx168_1
            replace hx168_2 := (HB.out.cell (World.block_lt_of_cell? w _ hx168_2)).trans hx168_2
            replace p168 := eq_true p168
            replace q168 := eq_true q168
            refine start_ (n := 40) (S := fun w' => w'.cell? ⟨gb166, 0, none⟩ = some (.int .i64 ((rd_T95 l0 x10_1).f0)) ∧ w'.cell? ⟨gb166, 1, none⟩ = some (.int .i64 ((rd_T95 l0 x10_1).f1)) ∧ w'.cell? ⟨gb166, 2, none⟩ = some (.int .i64 ((rd_T95 l0 x10_1).f2)) ∧ w'.cell? (ad165.add (((ji9)).toNat * 3)) = some (.int .i64 ((rd_T95 l0 (ji9)).f0)) ∧ w'.cell? ⟨(ad165.add (((ji9)).toNat * 3)).block, (ad165.add (((ji9)).toNat * 3)).off + 1, none⟩ = some (.int .i64 ((rd_T95 l0 (ji9)).f1)) ∧ w'.cell? ⟨(ad165.add (((ji9)).toNat * 3)).block, (ad165.add (((ji9)).toNat * 3)).off + 2, none⟩ = some (.int .i64 ((rd_T95 l0 (ji9)).f2))) (ds := []) (bR [0, 40]) (by kernel_rfl) rfl rfl ⟨(blk_cell BK166.out 0).trans rfl, (blk_cell BK166.out 1).trans rfl, (blk_cell BK166.out 2).trans rfl, ((HB.out.cell (World.block_lt_of_cell? w _ hw168_0)).trans hw168_0), ((HB.out.cell (World.block_lt_of_cell? w _ hw168_1)).trans hw168_1), ((HB.out.cell (World.block_lt_of_cell? w _ hw168_2)).trans hw168_2)⟩ (fun hHeld => ?_); refine with_tabW impl_AreSlots.tab6 impl_AreSlots.bits6 (fun HT_ HW_ => ?_)
            generalize w15.drew = w16 at BK166 HB hx168_0 hx168_1 hx168_2 hHeld ⊢
            refine pure_ (i := 0) (N := some 15) (v := ?_) (a' := ?_) (bR [1, 39]) rfl rfl (any_of HT_.out (by kernel_rfl)) (fun _ _ _ h => h) (Or.inl ⟨by rfl, ?_⟩) ?_ ?_
            rotate_left; (intro w'; go_simp; with_reducible rfl); rotate_left; (simp only [Act.put, sA, sZ, sS, i64_w]; rfl)
            refine take_ (i := 1) (N := some 16) (v := ?_) (a' := ?_) (bR [2, 38]) rfl rfl (take_ofW HT_.out HW_.out (by kernel_rfl)) (fun _ _ _ h => h) (Or.inl ⟨by rfl, ?_⟩) hHeld ?_ ?_
            rotate_left; (rintro w' ⟨s0, s1, s2, s3, s4, s5⟩; go_simp; with_reducible rfl); rotate_left; (simp only [Act.put, sA, sZ, sS, i64_w]; rfl)
            refine one_ (i := 2) (N := some 17) (bR [3, 37]) rfl rfl (one_of HT_.out (by kernel_rfl)) (by decide) (fun K hK => ?_)
            refine goes_ Try.func109 (by kernel_rfl) rfl #[.int .i64 ((rd_T95 l0 x10_1).f0), .int .i64 1, .int .i64 99] (by rfl) rfl rfl (by (try simp only [mA, mC, mN]); first | done | rfl | (simp only [lD, lT]; rfl)) ?_
            with_reducible refine (impl_InRange.calls ((rd_T95 l0 x10_1).f0) 1 99 true _ A6.out).mono ?_
            rintro e w' ⟨rfl, ⟨nd, rfl⟩⟩
            refine ⟨_, rfl, ?_⟩
            refine hK.out _ _ ⟨(blk_cell BK166.out 0).trans rfl, (blk_cell BK166.out 1).trans rfl, (blk_cell BK166.out 2).trans rfl, ((HB.out.cell (World.block_lt_of_cell? w _ hw168_0)).trans hw168_0), ((HB.out.cell (World.block_lt_of_cell? w _ hw168_1)).trans hw168_1), ((HB.out.cell (World.block_lt_of_cell? w _ hw168_2)).trans hw168_2)⟩ (fun hHeld => ?_)
            clear hK K
            refine norm_ (a' := ?_) ?_ ?_
            rotate_left
            ·show Act.put _ (some 17) _ = _
             simp only [Act.put, sA, sZ, sS, i64_w]
             rfl
            refine pure_ (i := 3) (N := some 18) (v := ?_) (a' := ?_) (bR [4, 36]) rfl rfl (any_of HT_.out (by kernel_rfl)) (fun _ _ _ h => h) (Or.inl ⟨by rfl, ?_⟩) ?_ ?_
            rotate_left; (intro w'; go_simp; with_reducible rfl); rotate_left; (simp only [Act.put, sA, sZ, sS, i64_w]; rfl)
            refine pure_ (i := 4) (N := some 19) (v := ?_) (a' := ?_) (bR [5, 35]) rfl rfl (any_of HT_.out (by kernel_rfl)) (fun _ _ _ h => h) (Or.inl ⟨by rfl, ?_⟩) ?_ ?_
            rotate_left; (intro w'; go_simp; with_reducible rfl); rotate_left; (simp only [Act.put, sA, sZ, sS, i64_w]; rfl)
            refine pure_ (i := 5) (N := some 20) (v := ?_) (a' := ?_) (bR [6, 34]) rfl rfl (any_of HT_.out (by kernel_rfl)) (fun _ _ _ h => h) (Or.inl ⟨by rfl, ?_⟩) ?_ ?_
            rotate_left; (intro w'; go_simp; with_reducible rfl); rotate_left; (simp only [Act.put, sA, sZ, sS, i64_w]; rfl)
            refine pure_ (i := 6) (N := some 21) (v := ?_) (a' := ?_) (bR [7, 33]) rfl rfl (any_of HT_.out (by kernel_rfl)) (fun _ _ _ h => h) (Or.inl ⟨by rfl, ?_⟩) ?_ ?_
            rotate_left; (intro w'; go_simp; with_reducible rfl); rotate_left; (simp only [Act.put, sA, sZ, sS, i64_w]; rfl)
            refine pure_ (i := 7) (N := some 22) (v := ?_) (a' := ?_) (bR [8, 32]) rfl rfl (any_of HT_.out (by kernel_rfl)) (fun _ _ _ h => h) (Or.inl ⟨by rfl, ?_⟩) ?_ ?_
            rotate_left; (intro w'; go_simp; with_reducible rfl); rotate_left; (simp only [Act.put, sA, sZ, sS, i64_w]; rfl)
            refine pure_ (i := 8) (N := some 23) (v := ?_) (a' := ?_) (bR [9, 31]) rfl rfl (any_of HT_.out (by kernel_rfl)) (fun _ _ _ h => h) (Or.inl ⟨by rfl, ?_⟩) ?_ ?_
            rotate_left; (intro w'; go_simp; with_reducible rfl); rotate_left; (simp only [Act.put, sA, sZ, sS, i64_w]; rfl)
            refine pure_ (i := 10) (N := some 25) (v := ?_) (a' := ?_) (bR [9, 1, 1, 29]) rfl rfl (any_of HT_.out (by kernel_rfl)) (fun _ _ _ h => h) (Or.inl ⟨by rfl, ?_⟩) ?_ ?_
            rotate_left; (intro w'; go_simp; with_reducible rfl); rotate_left; (simp only [Act.put, sA, sZ, sS, i64_w]; rfl)
            refine pure_ (i := 11) (N := some 26) (v := ?_) (a' := ?_) (bR [9, 1, 2, 28]) rfl rfl (any_of HT_.out (by kernel_rfl)) (fun _ _ _ h => h) (Or.inl ⟨by rfl, ?_⟩) ?_ ?_
            rotate_left; (intro w'; go_simp; with_reducible rfl); rotate_left; (simp only [Act.put, sA, sZ, sS, i64_w]; rfl)
            refine pure_ (i := 12) (N := some 27) (v := ?_) (a' := ?_) (bR [9, 1, 3, 27]) rfl rfl (any_of HT_.out (by kernel_rfl)) (fun _ _ _ h => h) (Or.inl ⟨by rfl, ?_⟩) ?_ ?_
            rotate_left; (intro w'; go_simp; with_reducible rfl); rotate_left; (simp only [Act.put, sA, sZ, sS, i64_w]; rfl)
            refine pure_ (i := 13) (N := some 28) (v := ?_) (a' := ?_) (bR [9, 1, 4, 26]) rfl rfl (any_of HT_.out (by kernel_rfl)) (fun _ _ _ h => h) (Or.inl ⟨by rfl, ?_⟩) ?_ ?_
            rotate_left; (intro w'; go_simp; with_reducible rfl); rotate_left; (simp only [Act.put, sA, sZ, sS, i64_w]; rfl)
            refine pure_ (i := 14) (N := some 29) (v := ?_) (a' := ?_) (bR [9, 1, 5, 25]) rfl rfl (any_of HT_.out (by kernel_rfl)) (fun _ _ _ h => h) (Or.inl ⟨by rfl, ?_⟩) ?_ ?_
            rotate_left; (intro w'; go_simp; with_reducible rfl); rotate_left; (simp only [Act.put, sA, sZ, sS, i64_w]; rfl)
            refine take_ (i := 9) (N := some 24) (v := ?_) (a' := ?_) (bR [15, 25]) rfl rfl (take_ofW HT_.out HW_.out (by kernel_rfl)) (fun _ _ _ h => h) (Or.inl ⟨by rfl, ?_⟩) hHeld ?_ ?_
            rotate_left; (rintro w' ⟨s0, s1, s2, s3, s4, s5⟩; go_simp; with_reducible rfl); rotate_left; (simp only [Act.put, sA, sZ, sS, i64_w]; rfl)
            refine take_ (i := 15) (N := some 30) (v := ?_) (a' := ?_) (bR [16, 24]) rfl rfl (take_ofW HT_.out HW_.out (by kernel_rfl)) (fun _ _ _ h => h) (Or.inl ⟨by rfl, ?_⟩) hHeld ?_ ?_
            rotate_left; (rintro w' ⟨s0, s1, s2, s3, s4, s5⟩; go_simp; with_reducible rfl); rotate_left; (simp only [Act.put, sA, sZ, sS, i64_w]; rfl)
            refine pure_ (i := 16) (N := some 31) (v := ?_) (a' := ?_) (bR [17, 23]) rfl rfl (any_of HT_.out (by kernel_rfl)) (fun _ _ _ h => h) (Or.inl ⟨by rfl, ?_⟩) ?_ ?_
            rotate_left; (intro w'; go_simp; with_reducible rfl); rotate_left; (simp only [Act.put, sA, sZ, sS, i64_w]; rfl)
            refine pure_ (i := 17) (N := some 32) (v := ?_) (a' := ?_) (bR [18, 22]) rfl rfl (any_of HT_.out (by kernel_rfl)) (fun _ _ _ h => h) (Or.inl ⟨by rfl, ?_⟩) ?_ ?_
            rotate_left; (intro w'; go_simp; with_reducible rfl); rotate_left; (simp only [Act.put, sA, sZ, sS, i64_w]; rfl)
            refine pure_ (i := 18) (N := some 33) (v := ?_) (a' := ?_) (bR [19, 21]) rfl rfl (any_of HT_.out (by kernel_rfl)) (fun _ _ _ h => h) (Or.inl ⟨by rfl, ?_⟩) ?_ ?_
            rotate_left; (intro w'; go_simp; with_reducible rfl); rotate_left; (simp only [Act.put, sA, sZ, sS, i64_w]; rfl)
            refine pure_ (i := 19) (N := some 34) (v := ?_) (a' := ?_) (bR [20, 20]) rfl rfl (any_of HT_.out (by kernel_rfl)) (fun _ _ _ h => h) (Or.inl ⟨by rfl, ?_⟩) ?_ ?_
            rotate_left; (intro w'; go_simp; with_reducible rfl); rotate_left; (simp only [Act.put, sA, sZ, sS, i64_w]; rfl)
            refine pure_ (i := 20) (N := some 35) (v := undef) (a' := ?_) (bR [21, 19]) rfl rfl (any_of HT_.out (by kernel_rfl)) (fun _ _ _ h => h) (Or.inr ⟨by rfl, rfl⟩) ?_ ?_
            rotate_left; (simp only [Act.put, sA, sZ, sS, i64_w]; rfl)
            refine pure_ (i := 21) (N := some 36) (v := undef) (a' := ?_) (bR [22, 18]) rfl rfl (any_of HT_.out (by kernel_rfl)) (fun _ _ _ h => h) (Or.inr ⟨by rfl, rfl⟩) ?_ ?_
            rotate_left; (simp only [Act.put, sA, sZ, sS, i64_w]; rfl)
            refine pure_ (i := 22) (N := some 37) (v := undef) (a' := ?_) (bR [23, 17]) rfl rfl (any_of HT_.out (by kernel_rfl)) (fun _ _ _ h => h) (Or.inr ⟨by rfl, rfl⟩) ?_ ?_
            rotate_left; (simp only [Act.put, sA, sZ, sS, i64_w]; rfl)
            refine pure_ (i := 23) (N := some 38) (v := undef) (a' := ?_) (bR [24, 16]) rfl rfl (any_of HT_.out (by kernel_rfl)) (fun _ _ _ h => h) (Or.inr ⟨by rfl, rfl⟩) ?_ ?_
            rotate_left; (simp only [Act.put, sA, sZ, sS, i64_w]; rfl)
            refine pure_ (i := 24) (N := some 39) (v := ?_) (a' := ?_) (bR [25, 15]) rfl rfl (any_of HT_.out (by kernel_rfl)) (fun _ _ _ h => h) (Or.inl ⟨by rfl, ?_⟩) ?_ ?_
            rotate_left; (intro w'; go_simp; with_reducible rfl); rotate_left; (simp only [Act.put, sA, sZ, sS, i64_w]; rfl)
            refine pure_ (i := 25) (N := some 40) (v := ?_) (a' := ?_) (bR [26, 14]) rfl rfl (any_of HT_.out (by kernel_rfl)) (fun _ _ _ h => h) (Or.inl ⟨by rfl, ?_⟩) ?_ ?_
            rotate_left; (intro w'; go_simp; with_reducible rfl); rotate_left; (simp only [Act.put, sA, sZ, sS, i64_w]; rfl)
            refine pure_ (i := 26) (N := some 41) (v := undef) (a' := ?_) (bR [27, 13]) rfl rfl (any_of HT_.out (by kernel_rfl)) (fun _ _ _ h => h) (Or.inr ⟨by rfl, rfl⟩) ?_ ?_
            rotate_left; (simp only [Act.put, sA, sZ, sS, i64_w]; rfl)
            refine pure_ (i := 27) (N := some 42) (v := undef) (a' := ?_) (bR [28, 12]) rfl rfl (any_of HT_.out (by kernel_rfl)) (fun _ _ _ h => h) (Or.inr ⟨by rfl, rfl⟩) ?_ ?_
            rotate_left; (simp only [Act.put, sA, sZ, sS, i64_w]; rfl)
            refine pure_ (i := 28) (N := some 43) (v := undef) (a' := ?_) (bR [29, 11]) rfl rfl (any_of HT_.out (by kernel_rfl)) (fun _ _ _ h => h) (Or.inr ⟨by rfl, rfl⟩) ?_ ?_
            rotate_left; (simp only [Act.put, sA, sZ, sS, i64_w]; rfl)
            refine pure_ (i := 29) (N := some 44) (v := undef) (a' := ?_) (bR [30, 10]) rfl rfl (any_of HT_.out (by kernel_rfl)) (fun _ _ _ h => h) (Or.inr ⟨by rfl, rfl⟩) ?_ ?_
            rotate_left; (simp only [Act.put, sA, sZ, sS, i64_w]; rfl)
            refine pure_ (i := 30) (N := some 45) (v := ?_) (a' := ?_) (bR [31, 9]) rfl rfl (any_of HT_.out (by kernel_rfl)) (fun _ _ _ h => h) (Or.inl ⟨by rfl, ?_⟩) ?_ ?_
            rotate_left; (intro w'; go_simp; with_reducible rfl); rotate_left; (simp only [Act.put, sA, sZ, sS, i64_w]; rfl)
            refine pure_ (i := 31) (N := some 46) (v := ?_) (a' := ?_) (bR [32, 8]) rfl rfl (any_of HT_.out (by kernel_rfl)) (fun _ _ _ h => h) (Or.inl ⟨by rfl, ?_⟩) ?_ ?_
            rotate_left; (intro w'; go_simp; with_reducible rfl); rotate_left; (simp only [Act.put, sA, sZ, sS, i64_w]; rfl)
            refine pure_ (i := 32) (N := some 47) (v := undef) (a' := ?_) (bR [33, 7]) rfl rfl (any_of HT_.out (by kernel_rfl)) (fun _ _ _ h => h) (Or.inr ⟨by rfl, rfl⟩) ?_ ?_
            rotate_left; (simp only [Act.put, sA, sZ, sS, i64_w]; rfl)
            refine pure_ (i := 33) (N := some 48) (v := undef) (a' := ?_) (bR [34, 6]) rfl rfl (any_of HT_.out (by kernel_rfl)) (fun _ _ _ h => h) (Or.inr ⟨by rfl, rfl⟩) ?_ ?_
            rotate_left; (simp only [Act.put, sA, sZ, sS, i64_w]; rfl)
            refine pure_ (i := 34) (N := some 49) (v := undef) (a' := ?_) (bR [35, 5]) rfl rfl (any_of HT_.out (by kernel_rfl)) (fun _ _ _ h => h) (Or.inr ⟨by rfl, rfl⟩) ?_ ?_
            rotate_left; (simp only [Act.put, sA, sZ, sS, i64_w]; rfl)
            refine pure_ (i := 35) (N := some 50) (v := undef) (a' := ?_) (bR [36, 4]) rfl rfl (any_of HT_.out (by kernel_rfl)) (fun _ _ _ h => h) (Or.inr ⟨by rfl, rfl⟩) ?_ ?_
            rotate_left; (simp only [Act.put, sA, sZ, sS, i64_w]; rfl)
            refine pure_ (i := 36) (N := some 51) (v := undef) (a' := ?_) (bR [37, 3]) rfl rfl (any_of HT_.out (by kernel_rfl)) (fun _ _ _ h => h) (Or.inr ⟨by rfl, rfl⟩) ?_ ?_
            rotate_left; (simp only [Act.put, sA, sZ, sS, i64_w]; rfl)
            refine pure_ (i := 37) (N := some 52) (v := undef) (a' := ?_) (bR [38, 2]) rfl rfl (any_of HT_.out (by kernel_rfl)) (fun _ _ _ h => h) (Or.inr ⟨by rfl, rfl⟩) ?_ ?_
            rotate_left; (simp only [Act.put, sA, sZ, sS, i64_w]; rfl)
            refine pure_ (i := 38) (N := some 53) (v := undef) (a' := ?_) (bR [39, 1]) rfl rfl (any_of HT_.out (by kernel_rfl)) (fun _ _ _ h => h) (Or.inr ⟨by rfl, rfl⟩) ?_ ?_
            rotate_left; (simp only [Act.put, sA, sZ, sS, i64_w]; rfl)
            refine pure_ (i := 39) (N := some 54) (v := ?_) (a' := ?_) (bR [40]) rfl rfl (any_of HT_.out (by kernel_rfl)) (fun _ _ _ h => h) (Or.inl ⟨by rfl, ?_⟩) ?_ ?_
            rotate_left; (intro w'; go_simp; with_reducible rfl); rotate_left; (simp only [Act.put, sA, sZ, sS, i64_w]; rfl)
            refine done_ (done_of HT_.out (by kernel_rfl)) ?_
            try go_wp2
            go_ret
            exact ⟨by first | rfl | (simp [errW_none, errW_some] <;> rfl) | (simp only [← hji9]; first | rfl | (simp [errW_none, errW_some] <;> rfl)) | (simp [*, errW_none, errW_some] <;> rfl), by repeat (first | (with_reducible first | exact HB.out | apply below_alloc | apply pw_below_drewN | apply below_drew1 | refine below_set ?_ GE166.out) | exact HB.out)⟩
           ·rw [if_neg c12] at H
            have c12b0 : decide (((rd_T95 l0 x10_1).f0) ≤ ((rd_T95 l0 (ji9)).f0)) = false := decide_eq_false c12
            clear c12
            replace H := Option.bind_eq_some_iff.mp H
            obtain ⟨t169, A170, H⟩ := H
            replace H : (if t169 = true then ((impl_InRange.f ((rd_T95 l0 x10_1).f2) 0 999).bind fun t170 => (if t170 = true then (if x10_1 ≤ (l0.length : Int) then ((impl_SlotOf.f (l0.take (x10_1 : Int).toNat) ((rd_T95 l0 x10_1).f2)).bind fun t175 => (if t175 = 0 then (impl_AreSlots.l0 k1 l0 l0 (l0.length : Int) (wrap64 (x10_1 + 1))) else (some false))) else (none)) else (some false))) else (some false)) = some r := H
            have A17 := Aside0.mk A170
            clear A170
            by_cases c18 : t169 = true
            ·subst c18
             have H1 : ((impl_InRange.f ((rd_T95 l0 x10_1).f2) 0 999).bind fun t170 => (if t170 = true then (if x10_1 ≤ (l0.length : Int) then ((impl_SlotOf.f (l0.take (x10_1 : Int).toNat) ((rd_T95 l0 x10_1).f2)).bind fun t175 => (if t175 = 0 then (impl_AreSlots.l0 k1 l0 l0 (l0.length : Int) (wrap64 (x10_1 + 1))) else (some false))) else (none)) else (some false))) = some r := by rw [if_pos rfl] at H; exact H
             clear H
             have H := H1
             clear H1
             replace H := Option.bind_eq_some_iff.mp H
             obtain ⟨t170, A190, H⟩ := H
             replace H : (if t170 = true then (if x10_1 ≤ (l0.length : Int) then ((impl_SlotOf.f (l0.take (x10_1 : Int).toNat) ((rd_T95 l0 x10_1).f2)).bind fun t175 => (if t175 = 0 then (impl_AreSlots.l0 k1 l0 l0 (l0.length : Int) (wrap64 (x10_1 + 1))) else (some false))) else (none)) else (some false)) = some r := H
             have A19 := Aside0.mk A190
             clear A190
             by_cases c20 : t170 = true
             ·subst c20
              have H1 : (if x10_1 ≤ (l0.length : Int) then ((impl_SlotOf.f (l0.take (x10_1 : Int).toNat) ((rd_T95 l0 x10_1).f2)).bind fun t175 => (if t175 = 0 then (impl_AreSlots.l0 k1 l0 l0 (l0.length : Int) (wrap64 (x10_1 + 1))) else (some false))) else (none)) = some r := by rw [if_pos rfl] at H; exact H
              clear H
              have H := H1
              clear H1
              have c21b0 := eq_true (of_decide_eq_true ‹_› : 0 ≤ x10_1)
              by_cases c22 : x10_1 ≤ (l0.length : Int)
              ·rw [if_pos c22] at H
               have c22b0 := eq_true c22
               have c22b1 : decide (x10_1 ≤ (l0.length : Int)) = true := decide_eq_true c22
               clear c22
               obtain ⟨y171, hy171⟩ : ∃ y_ : List (S95), y_ = (l0.take (x10_1 : Int).toNat) := ⟨_, rfl⟩
               replace H : ((impl_SlotOf.f y171 ((rd_T95 l0 x10_1).f2)).bind fun t175 => (if t175 = 0 then (impl_AreSlots.l0 k1 l0 l0 (l0.length : Int) (wrap64 (x10_1 + 1))) else (some false))) = some r := by first | (rw [hy171]; with_reducible exact H) | (have H2_ := (Option.bind_some _ _).symm.trans H; rw [hy171]; with_reducible exact H2_) | (have H2_ := (Option.bind_some _ _).symm.trans H; with_reducible exact H2_) | with_reducible exact H | (rw [hy171]; exact H) | exact H
               have Ny171 := Aside0.mk hy171
               clear hy171
               replace H := Option.bind_eq_some_iff.mp H
               obtain ⟨t175, A230, H⟩ := H
               replace H : (if t175 = 0 then (impl_AreSlots.l0 k1 l0 l0 (l0.length : Int) (wrap64 (x10_1 + 1))) else (some false)) = some r := H
               have A23 := Aside0.mk A230
               clear A230
               by_cases c24 : t175 = 0
               ·rw [if_pos c24] at H
                have c24b0 : (t175 == 0) = true := beq_iff_eq.mpr c24
                have c24b1 : (t175 != 0) = false := bne_eq_false_iff_eq.mpr c24
                clear c24
                have H' := Aside0.mk H
                clear H
                have p165 : 0 ≤ (x10_1 : Int) := of_decide_eq_true ‹_›
                have q165 : x10_1 < (l0.length : Int) := of_decide_eq_true ‹_›
                obtain ⟨ad165, e165, hx165_0, hx165_1, hx165_2⟩ := at_T95 HR0.out x10_1 p165 q165
                cases e165
                replace hx165_0 := (HB.out.cell (World.block_lt_of_cell? w _ hx165_0)).trans hx165_0
                replace hx165_1 := (HB.out.cell (World.block_lt_of_cell? w _ hx165_1)).trans hx165_1
                replace hx165_2 := (HB.out.cell (World.block_lt_of_cell? w _ hx165_2)).trans hx165_2
                replace p165 := eq_true p165
                replace q165 := eq_true q165
                try go_wp2_with (first | ((with_reducible refine gate_dst (N := 4) rfl ?_); refine box_event ?hg (N := 4) ?hd (cs := #[.int .i64 0, .int .i64 0, .int .i64 0]) (t := 95) ?hr ?_; (case hd => rfl); (case hg => rfl); (case hr => first | (go_simp; done) | (go_simp; rfl)); intro gb166 hg w25 hbox hb; have n0_ := Aside0.mk (below_step (qB HB) hb); have n1_ := Aside0.mk (hbox); have n2_ := Aside0.mk ((by rw [hg]; exact (below_size (qB HB)) : w.heap.size ≤ gb166)); have n3_ := Aside0.mk ((by rw [hg]; exact (below_size (qB HB)) : w.heap.size ≤ gb166)); clear HB; have HB := n0_; have BK166 := n1_; have GW166 := n2_; have GE166 := n3_; clear n0_ n1_ n2_ n3_; clear hb hbox hg; have hcz26_0 : w25.cell? ⟨gb166, 0, none⟩ = some (.int .i64 0) := (blk_cell BK166.out 0).trans rfl; have hcz26_1 : w25.cell? ⟨gb166, 1, none⟩ = some (.int .i64 0) := (blk_cell BK166.out 1).trans rfl; have hcz26_2 : w25.cell? ⟨gb166, 2, none⟩ = some (.int .i64 0) := (blk_cell BK166.out 2).trans rfl; have hfz26_0 := blk_frozen BK166.out 0; have hfz26_1 := blk_frozen BK166.out 1; have hfz26_2 := blk_frozen BK166.out 2))
                have n0_ : Aside0 ((((w25.setCell ⟨gb166, 0, none⟩ (.int .i64 ((rd_T95 l0 x10_1).f0))).setCell ⟨gb166, 1, none⟩ (.int .i64 ((rd_T95 l0 x10_1).f1))).setCell ⟨gb166, 2, none⟩ (.int .i64 ((rd_T95 l0 x10_1).f2))).heap[gb166]? = some (.cells #[.int .i64 ((rd_T95 l0 x10_1).f0), .int .i64 ((rd_T95 l0 x10_1).f1), .int .i64 ((rd_T95 l0 x10_1).f2)] 95 (0, 0))) := ⟨by (with_reducible repeat (first | refine blk_drewN ?_ _ | refine blk_drew ?_ | refine blk_alloc ?_ _)); refine blk_put (cs := #[.int .i64 ((rd_T95 l0 x10_1).f0), .int .i64 ((rd_T95 l0 x10_1).f1), .int .i64 0]) ?_ 2 _ rfl; (with_reducible repeat (first | refine blk_drewN ?_ _ | refine blk_drew ?_ | refine blk_alloc ?_ _)); refine blk_put (cs := #[.int .i64 ((rd_T95 l0 x10_1).f0), .int .i64 0, .int .i64 0]) ?_ 1 _ rfl; (with_reducible repeat (first | refine blk_drewN ?_ _ | refine blk_drew ?_ | refine blk_alloc ?_ _)); refine blk_put (cs := #[.int .i64 0, .int .i64 0, .int .i64 0]) ?_ 0 _ rfl; (with_reducible repeat (first | refine blk_drewN ?_ _ | refine blk_drew ?_ | refine blk_alloc ?_ _)); exact BK166.out⟩
                have n1_ : Aside0 (Below w.heap.size w (((w25.setCell ⟨gb166, 0, none⟩ (.int .i64 ((rd_T95 l0 x10_1).f0))).setCell ⟨gb166, 1, none⟩ (.int .i64 ((rd_T95 l0 x10_1).f1))).setCell ⟨gb166, 2, none⟩ (.int .i64 ((rd_T95 l0 x10_1).f2)))) := ⟨by repeat (first | (with_reducible first | exact HB.out | apply below_alloc | apply pw_below_drewN | apply below_drew1 | refine below_set ?_ GE166.out) | exact HB.out)⟩
                (try clear BK166)
                (try clear HB)
                generalize (((w25.setCell ⟨gb166, 0, none⟩ (.int .i64 ((rd_T95 l0 x10_1).f0))).setCell ⟨gb166, 1, none⟩ (.int .i64 ((rd_T95 l0 x10_1).f1))).setCell ⟨gb166, 2, none⟩ (.int .i64 ((rd_T95 l0 x10_1).f2))) = w27 at n0_ n1_ ⊢
                have BK166 := n0_
                have HB := n1_
                clear n0_ n1_
                have n0_ := Aside0.mk (blk_drew BK166.out)
                have n1_ := Aside0.mk (below_drew1 HB.out)
                clear BK166
                clear HB
                have BK166 := n0_
                have HB := n1_
                clear n0_ n1_
                have p168 : 0 ≤ ((ji9) : Int) := of_decide_eq_true ‹_›
                have q168 : (ji9) < (l0.length : Int) := of_decide_eq_true ‹_›
                obtain ⟨ad168, e168, hx168_0, hx168_1, hx168_2⟩ := at_T95 HR0.out (ji9) p168 q168
                have hw168_2 := hx168_2
                have hw168_1 := hx168_1
                have hw168_0 := hx168_0
                obtain rfl : ad165 = ad168 := (by injection e168)
                replace hx168_0 := (HB.out.cell (World.block_lt_of_cell? w _ hx168_0)).trans hx168_0
                replace hx168_1 := (HB.out.cell (World.block_lt_of_cell? w _ hx168_1)).trans hx168_1
                replace hx168_2 := (HB.out.cell (World.block_lt_of_cell? w _ hx168_2)).trans hx168_2
                replace p168 := eq_true p168
                replace q168 := eq_true q168
                refine start_ (n := 40) (S := fun w' => w'.cell? ⟨gb166, 0, none⟩ = some (.int .i64 ((rd_T95 l0 x10_1).f0)) ∧ w'.cell? ⟨gb166, 1, none⟩ = some (.int .i64 ((rd_T95 l0 x10_1).f1)) ∧ w'.cell? ⟨gb166, 2, none⟩ = some (.int .i64 ((rd_T95 l0 x10_1).f2)) ∧ w'.cell? (ad165.add (((ji9)).toNat * 3)) = some (.int .i64 ((rd_T95 l0 (ji9)).f0)) ∧ w'.cell? ⟨(ad165.add (((ji9)).toNat * 3)).block, (ad165.add (((ji9)).toNat * 3)).off + 1, none⟩ = some (.int .i64 ((rd_T95 l0 (ji9)).f1)) ∧ w'.cell? ⟨(ad165.add (((ji9)).toNat * 3)).block, (ad165.add (((ji9)).toNat * 3)).off + 2, none⟩ = some (.int .i64 ((rd_T95 l0 (ji9)).f2))) (ds := []) (bR [0, 40]) (by kernel_rfl) rfl rfl ⟨(blk_cell BK166.out 0).trans rfl, (blk_cell BK166.out 1).trans rfl, (blk_cell BK166.out 2).trans rfl, ((HB.out.cell (World.block_lt_of_cell? w _ hw168_0)).trans hw168_0), ((HB.out.cell (World.block_lt_of_cell? w _ hw168_1)).trans hw168_1), ((HB.out.cell (World.block_lt_of_cell? w _ hw168_2)).trans hw168_2)⟩ (fun hHeld => ?_); refine with_tabW impl_AreSlots.tab6 impl_AreSlots.bits6 (fun HT_ HW_ => ?_)
                generalize w27.drew = w28 at BK166 HB hx168_0 hx168_1 hx168_2 hHeld ⊢
                refine pure_ (i := 0) (N := some 15) (v := ?_) (a' := ?_) (bR [1, 39]) rfl rfl (any_of HT_.out (by kernel_rfl)) (fun _ _ _ h => h) (Or.inl ⟨by rfl, ?_⟩) ?_ ?_
                rotate_left; (intro w'; go_simp; with_reducible rfl); rotate_left; (simp only [Act.put, sA, sZ, sS, i64_w]; rfl)
                refine take_ (i := 1) (N := some 16) (v := ?_) (a' := ?_) (bR [2, 38]) rfl rfl (take_ofW HT_.out HW_.out (by kernel_rfl)) (fun _ _ _ h => h) (Or.inl ⟨by rfl, ?_⟩) hHeld ?_ ?_
                rotate_left; (rintro w' ⟨s0, s1, s2, s3, s4, s5⟩; go_simp; with_reducible rfl); rotate_left; (simp only [Act.put, sA, sZ, sS, i64_w]; rfl)
                refine one_ (i := 2) (N := some 17) (bR [3, 37]) rfl rfl (one_of HT_.out (by kernel_rfl)) (by decide) (fun K hK => ?_)
                refine goes_ Try.func109 (by kernel_rfl) rfl #[.int .i64 ((rd_T95 l0 x10_1).f0), .int .i64 1, .int .i64 99] (by rfl) rfl rfl (by (try simp only [mA, mC, mN]); first | done | rfl | (simp only [lD, lT]; rfl)) ?_
                with_reducible refine (impl_InRange.calls ((rd_T95 l0 x10_1).f0) 1 99 true _ A6.out).mono ?_
                rintro e w' ⟨rfl, ⟨nd, rfl⟩⟩
                refine ⟨_, rfl, ?_⟩
                refine hK.out _ _ ⟨(blk_cell BK166.out 0).trans rfl, (blk_cell BK166.out 1).trans rfl, (blk_cell BK166.out 2).trans rfl, ((HB.out.cell (World.block_lt_of_cell? w _ hw168_0)).trans hw168_0), ((HB.out.cell (World.block_lt_of_cell? w _ hw168_1)).trans hw168_1), ((HB.out.cell (World.block_lt_of_cell? w _ hw168_2)).trans hw168_2)⟩ (fun hHeld => ?_)
                clear hK K
                refine norm_ (a' := ?_) ?_ ?_
                rotate_left
                ·show Act.put _ (some 17) _ = _
                 simp only [Act.put, sA, sZ, sS, i64_w]
                 rfl
                refine pure_ (i := 3) (N := some 18) (v := ?_) (a' := ?_) (bR [4, 36]) rfl rfl (any_of HT_.out (by kernel_rfl)) (fun _ _ _ h => h) (Or.inl ⟨by rfl, ?_⟩) ?_ ?_
                rotate_left; (intro w'; go_simp; with_reducible rfl); rotate_left; (simp only [Act.put, sA, sZ, sS, i64_w]; rfl)
                refine pure_ (i := 4) (N := some 19) (v := ?_) (a' := ?_) (bR [5, 35]) rfl rfl (any_of HT_.out (by kernel_rfl)) (fun _ _ _ h => h) (Or.inl ⟨by rfl, ?_⟩) ?_ ?_
                rotate_left; (intro w'; go_simp; with_reducible rfl); rotate_left; (simp only [Act.put, sA, sZ, sS, i64_w]; rfl)
                refine pure_ (i := 5) (N := some 20) (v := ?_) (a' := ?_) (bR [6, 34]) rfl rfl (any_of HT_.out (by kernel_rfl)) (fun _ _ _ h => h) (Or.inl ⟨by rfl, ?_⟩) ?_ ?_
                rotate_left; (intro w'; go_simp; with_reducible rfl); rotate_left; (simp only [Act.put, sA, sZ, sS, i64_w]; rfl)
                refine pure_ (i := 6) (N := some 21) (v := ?_) (a' := ?_) (bR [7, 33]) rfl rfl (any_of HT_.out (by kernel_rfl)) (fun _ _ _ h => h) (Or.inl ⟨by rfl, ?_⟩) ?_ ?_
                rotate_left; (intro w'; go_simp; with_reducible rfl); rotate_left; (simp only [Act.put, sA, sZ, sS, i64_w]; rfl)
                refine pure_ (i := 7) (N := some 22) (v := ?_) (a' := ?_) (bR [8, 32]) rfl rfl (any_of HT_.out (by kernel_rfl)) (fun _ _ _ h => h) (Or.inl ⟨by rfl, ?_⟩) ?_ ?_
                rotate_left; (intro w'; go_simp; with_reducible rfl); rotate_left; (simp only [Act.put, sA, sZ, sS, i64_w]; rfl)
                refine pure_ (i := 8) (N := some 23) (v := ?_) (a' := ?_) (bR [9, 31]) rfl rfl (any_of HT_.out (by kernel_rfl)) (fun _ _ _ h => h) (Or.inl ⟨by rfl, ?_⟩) ?_ ?_
                rotate_left; (intro w'; go_simp; with_reducible rfl); rotate_left; (simp only [Act.put, sA, sZ, sS, i64_w]; rfl)
                refine pure_ (i := 10) (N := some 25) (v := ?_) (a' := ?_) (bR [9, 1, 1, 29]) rfl rfl (any_of HT_.out (by kernel_rfl)) (fun _ _ _ h => h) (Or.inl ⟨by rfl, ?_⟩) ?_ ?_
                rotate_left; (intro w'; go_simp; with_reducible rfl); rotate_left; (simp only [Act.put, sA, sZ, sS, i64_w]; rfl)
                refine pure_ (i := 11) (N := some 26) (v := ?_) (a' := ?_) (bR [9, 1, 2, 28]) rfl rfl (any_of HT_.out (by kernel_rfl)) (fun _ _ _ h => h) (Or.inl ⟨by rfl, ?_⟩) ?_ ?_
                rotate_left; (intro w'; go_simp; with_reducible rfl); rotate_left; (simp only [Act.put, sA, sZ, sS, i64_w]; rfl)
                refine pure_ (i := 12) (N := some 27) (v := ?_) (a' := ?_) (bR [9, 1, 3, 27]) rfl rfl (any_of HT_.out (by kernel_rfl)) (fun _ _ _ h => h) (Or.inl ⟨by rfl, ?_⟩) ?_ ?_
                rotate_left; (intro w'; go_simp; with_reducible rfl); rotate_left; (simp only [Act.put, sA, sZ, sS, i64_w]; rfl)
                refine pure_ (i := 13) (N := some 28) (v := ?_) (a' := ?_) (bR [9, 1, 4, 26]) rfl rfl (any_of HT_.out (by kernel_rfl)) (fun _ _ _ h => h) (Or.inl ⟨by rfl, ?_⟩) ?_ ?_
                rotate_left; (intro w'; go_simp; with_reducible rfl); rotate_left; (simp only [Act.put, sA, sZ, sS, i64_w]; rfl)
                refine pure_ (i := 14) (N := some 29) (v := ?_) (a' := ?_) (bR [9, 1, 5, 25]) rfl rfl (any_of HT_.out (by kernel_rfl)) (fun _ _ _ h => h) (Or.inl ⟨by rfl, ?_⟩) ?_ ?_
                rotate_left; (intro w'; go_simp; with_reducible rfl); rotate_left; (simp only [Act.put, sA, sZ, sS, i64_w]; rfl)
                refine take_ (i := 9) (N := some 24) (v := ?_) (a' := ?_) (bR [15, 25]) rfl rfl (take_ofW HT_.out HW_.out (by kernel_rfl)) (fun _ _ _ h => h) (Or.inl ⟨by rfl, ?_⟩) hHeld ?_ ?_
                rotate_left; (rintro w' ⟨s0, s1, s2, s3, s4, s5⟩; go_simp; with_reducible rfl); rotate_left; (simp only [Act.put, sA, sZ, sS, i64_w]; rfl)
                refine take_ (i := 15) (N := some 30) (v := ?_) (a' := ?_) (bR [16, 24]) rfl rfl (take_ofW HT_.out HW_.out (by kernel_rfl)) (fun _ _ _ h => h) (Or.inl ⟨by rfl, ?_⟩) hHeld ?_ ?_
                rotate_left; (rintro w' ⟨s0, s1, s2, s3, s4, s5⟩; go_simp; with_reducible rfl); rotate_left; (simp only [Act.put, sA, sZ, sS, i64_w]; rfl)
                refine pure_ (i := 16) (N := some 31) (v := ?_) (a' := ?_) (bR [17, 23]) rfl rfl (any_of HT_.out (by kernel_rfl)) (fun _ _ _ h => h) (Or.inl ⟨by rfl, ?_⟩) ?_ ?_
                rotate_left; (intro w'; go_simp; with_reducible rfl); rotate_left; (simp only [Act.put, sA, sZ, sS, i64_w]; rfl)
                refine pure_ (i := 17) (N := some 32) (v := ?_) (a' := ?_) (bR [18, 22]) rfl rfl (any_of HT_.out (by kernel_rfl)) (fun _ _ _ h => h) (Or.inl ⟨by rfl, ?_⟩) ?_ ?_
                rotate_left; (intro w'; go_simp; with_reducible rfl); rotate_left; (simp only [Act.put, sA, sZ, sS, i64_w]; rfl)
                refine pure_ (i := 18) (N := some 33) (v := ?_) (a' := ?_) (bR [19, 21]) rfl rfl (any_of HT_.out (by kernel_rfl)) (fun _ _ _ h => h) (Or.inl ⟨by rfl, ?_⟩) ?_ ?_
                rotate_left; (intro w'; go_simp; with_reducible rfl); rotate_left; (simp only [Act.put, sA, sZ, sS, i64_w]; rfl)
                refine pure_ (i := 19) (N := some 34) (v := ?_) (a' := ?_) (bR [20, 20]) rfl rfl (any_of HT_.out (by kernel_rfl)) (fun _ _ _ h => h) (Or.inl ⟨by rfl, ?_⟩) ?_ ?_
                rotate_left; (intro w'; go_simp; with_reducible rfl); rotate_left; (simp only [Act.put, sA, sZ, sS, i64_w]; rfl)
                refine pure_ (i := 20) (N := some 35) (v := ?_) (a' := ?_) (bR [21, 19]) rfl rfl (any_of HT_.out (by kernel_rfl)) (fun _ _ _ h => h) (Or.inl ⟨by rfl, ?_⟩) ?_ ?_
                rotate_left; (intro w'; go_simp; with_reducible rfl); rotate_left; (simp only [Act.put, sA, sZ, sS, i64_w]; rfl)
                refine take_ (i := 21) (N := some 36) (v := ?_) (a' := ?_) (bR [22, 18]) rfl rfl (take_ofW HT_.out HW_.out (by kernel_rfl)) (fun _ _ _ h => h) (Or.inl ⟨by rfl, ?_⟩) hHeld ?_ ?_
                rotate_left; (rintro w' ⟨s0, s1, s2, s3, s4, s5⟩; go_simp; with_reducible rfl); rotate_left; (simp only [Act.put, sA, sZ, sS, i64_w]; rfl)
                refine one_ (i := 22) (N := some 37) (bR [23, 17]) rfl rfl (one_of HT_.out (by kernel_rfl)) (by decide) (fun K hK => ?_)
                refine goes_ Try.func109 (by kernel_rfl) rfl #[.int .i64 ((rd_T95 l0 x10_1).f1), .int .i64 1, .int .i64 50] (by rfl) rfl rfl (by (try simp only [mA, mC, mN]); first | done | rfl | (simp only [lD, lT]; rfl)) ?_
                with_reducible refine (impl_InRange.calls ((rd_T95 l0 x10_1).f1) 1 50 true _ A17.out).mono ?_
                rintro e w' ⟨rfl, ⟨nd, rfl⟩⟩
                refine ⟨_, rfl, ?_⟩
                refine hK.out _ _ ⟨(blk_cell BK166.out 0).trans rfl, (blk_cell BK166.out 1).trans rfl, (blk_cell BK166.out 2).trans rfl, ((HB.out.cell (World.block_lt_of_cell? w _ hw168_0)).trans hw168_0), ((HB.out.cell (World.block_lt_of_cell? w _ hw168_1)).trans hw168_1), ((HB.out.cell (World.block_lt_of_cell? w _ hw168_2)).trans hw168_2)⟩ (fun hHeld => ?_)
                clear hK K
                refine norm_ (a' := ?_) ?_ ?_
                rotate_left
                ·show Act.put _ (some 37) _ = _
                 simp only [Act.put, sA, sZ, sS, i64_w]
                 rfl
                refine pure_ (i := 23) (N := some 38) (v := ?_) (a' := ?_) (bR [24, 16]) rfl rfl (any_of HT_.out (by kernel_rfl)) (fun _ _ _ h => h) (Or.inl ⟨by rfl, ?_⟩) ?_ ?_
                rotate_left; (intro w'; go_simp; with_reducible rfl); rotate_left; (simp only [Act.put, sA, sZ, sS, i64_w]; rfl)
                refine pure_ (i := 24) (N := some 39) (v := ?_) (a' := ?_) (bR [25, 15]) rfl rfl (any_of HT_.out (by kernel_rfl)) (fun _ _ _ h => h) (Or.inl ⟨by rfl, ?_⟩) ?_ ?_
                rotate_left; (intro w'; go_simp; with_reducible rfl); rotate_left; (simp only [Act.put, sA, sZ, sS, i64_w]; rfl)
                refine pure_ (i := 25) (N := some 40) (v := ?_) (a' := ?_) (bR [26, 14]) rfl rfl (any_of HT_.out (by kernel_rfl)) (fun _ _ _ h => h) (Or.inl ⟨by rfl, ?_⟩) ?_ ?_
                rotate_left; (intro w'; go_simp; with_reducible rfl); rotate_left; (simp only [Act.put, sA, sZ, sS, i64_w]; rfl)
                refine pure_ (i := 26) (N := some 41) (v := ?_) (a' := ?_) (bR [27, 13]) rfl rfl (any_of HT_.out (by kernel_rfl)) (fun _ _ _ h => h) (Or.inl ⟨by rfl, ?_⟩) ?_ ?_
                rotate_left; (intro w'; go_simp; with_reducible rfl); rotate_left; (simp only [Act.put, sA, sZ, sS, i64_w]; rfl)
                refine take_ (i := 27) (N := some 42) (v := ?_) (a' := ?_) (bR [28, 12]) rfl rfl (take_ofW HT_.out HW_.out (by kernel_rfl)) (fun _ _ _ h => h) (Or.inl ⟨by rfl, ?_⟩) hHeld ?_ ?_
                rotate_left; (rintro w' ⟨s0, s1, s2, s3, s4, s5⟩; go_simp; with_reducible rfl); rotate_left; (simp only [Act.put, sA, sZ, sS, i64_w]; rfl)
                refine one_ (i := 28) (N := some 43) (bR [29, 11]) rfl rfl (one_of HT_.out (by kernel_rfl)) (by decide) (fun K hK => ?_)
                refine goes_ Try.func109 (by kernel_rfl) rfl #[.int .i64 ((rd_T95 l0 x10_1).f2), .int .i64 0, .int .i64 999] (by rfl) rfl rfl (by (try simp only [mA, mC, mN]); first | done | rfl | (simp only [lD, lT]; rfl)) ?_
                with_reducible refine (impl_InRange.calls ((rd_T95 l0 x10_1).f2) 0 999 true _ A19.out).mono ?_
                rintro e w' ⟨rfl, ⟨nd, rfl⟩⟩
                refine ⟨_, rfl, ?_⟩
                have q29 : (x10_1 : Int) ≤ ((l0.length : Int) : Int) := of_decide_eq_true ‹_›
                obtain ⟨i029, hi029, _, hsz29, _⟩ := info_parts info95
                have hroom29 : l0.length ≤ c0 := HC0.out
                have hC29 : Kd.C k95 _ (some ad165) l0.length l0 := HR0.out
                have hcut29 := cut_to (P := Try.prog) 35 95 .i64 Try.underlying35 hi029 (some ad165) l0.length c0 x10_1 (of_decide_eq_true ‹_›) q29 hroom29
                have hr29 := Kd.C_take (m := (x10_1 : Int).toNat) hC29 (by omega)
                have hy29 : y171.length = (x10_1 : Int).toNat := (by rw [Ny171.out, List.length_take]; omega)
                rw [← Ny171.out] at hr29
                rw [← hy29] at hcut29
                have HR174 := Aside0.mk hr29
                have HC174 := Aside0.mk (show y171.length ≤ c0 from by omega)
                clear hr29 hC29 hroom29 hi029 hsz29
                have KY29 := Aside0.mk hy29
                clear hy29
                replace q29 := eq_true q29
                refine hK.out _ _ ⟨(blk_cell BK166.out 0).trans rfl, (blk_cell BK166.out 1).trans rfl, (blk_cell BK166.out 2).trans rfl, ((HB.out.cell (World.block_lt_of_cell? w _ hw168_0)).trans hw168_0), ((HB.out.cell (World.block_lt_of_cell? w _ hw168_1)).trans hw168_1), ((HB.out.cell (World.block_lt_of_cell? w _ hw168_2)).trans hw168_2)⟩ (fun hHeld => ?_)
                clear hK K
                refine norm_ (a' := ?_) ?_ ?_
                rotate_left
                ·show Act.put _ (some 43) _ = _
                 simp only [Act.put, sA, sZ, sS, i64_w]
                 rfl
                refine pure_ (i := 29) (N := some 44) (v := ?_) (a' := ?_) (bR [30, 10]) rfl rfl (any_of HT_.out (by kernel_rfl)) (fun _ _ _ h => h) (Or.inl ⟨by rfl, ?_⟩) ?_ ?_
                rotate_left; (intro w'; go_simp; with_reducible rfl); rotate_left; (simp only [Act.put, sA, sZ, sS, i64_w]; rfl)
                refine pure_ (i := 30) (N := some 45) (v := ?_) (a' := ?_) (bR [31, 9]) rfl rfl (any_of HT_.out (by kernel_rfl)) (fun _ _ _ h => h) (Or.inl ⟨by rfl, ?_⟩) ?_ ?_
                rotate_left; (intro w'; go_simp; with_reducible rfl); rotate_left; (simp only [Act.put, sA, sZ, sS, i64_w]; rfl)
                refine pure_ (i := 31) (N := some 46) (v := ?_) (a' := ?_) (bR [32, 8]) rfl rfl (any_of HT_.out (by kernel_rfl)) (fun _ _ _ h => h) (Or.inl ⟨by rfl, ?_⟩) ?_ ?_
                rotate_left; (intro w'; go_simp; with_reducible rfl); rotate_left; (simp only [Act.put, sA, sZ, sS, i64_w]; rfl)
                refine pure_ (i := 32) (N := some 47) (v := ?_) (a' := ?_) (bR [33, 7]) rfl rfl (any_of HT_.out (by kernel_rfl)) (fun _ _ _ h => h) (Or.inl ⟨by rfl, ?_⟩) ?_ ?_
                rotate_left; (intro w'; go_simp; with_reducible rfl); rotate_left; (simp only [Act.put, sA, sZ, sS, i64_w]; rfl)
                refine pure_ (i := 33) (N := some 48) (v := ?_) (a' := ?_) (bR [34, 6]) rfl rfl (any_of HT_.out (by kernel_rfl)) (fun _ _ _ h => h) (Or.inl ⟨by rfl, ?_⟩) ?_ ?_
                rotate_left; (intro w'; go_simp; with_reducible rfl); rotate_left; (simp only [Act.put, sA, sZ, sS, i64_w]; rfl)
                refine pure_ (i := 34) (N := some 49) (v := ?_) (a' := ?_) (bR [35, 5]) rfl rfl (any_of HT_.out (by kernel_rfl)) (fun _ _ _ h => h) (Or.inl ⟨by rfl, ?_⟩) ?_ ?_
                rotate_left; (intro w'; go_simp; with_reducible rfl); rotate_left; (simp only [Act.put, sA, sZ, sS, i64_w]; rfl)
                refine pure_ (i := 35) (N := some 50) (v := ?_) (a' := ?_) (bR [36, 4]) rfl rfl (any_of HT_.out (by kernel_rfl)) (fun _ _ _ h => h) (Or.inl ⟨by rfl, ?_⟩) ?_ ?_
                rotate_left; (intro w'; go_simp; with_reducible rfl); rotate_left; (simp only [Act.put, sA, sZ, sS, i64_w]; rfl)
                refine take_ (i := 36) (N := some 51) (v := ?_) (a' := ?_) (bR [37, 3]) rfl rfl (take_ofW HT_.out HW_.out (by kernel_rfl)) (fun _ _ _ h => h) (Or.inl ⟨by rfl, ?_⟩) hHeld ?_ ?_
                rotate_left; (rintro w' ⟨s0, s1, s2, s3, s4, s5⟩; go_simp; with_reducible rfl); rotate_left; (simp only [Act.put, sA, sZ, sS, i64_w]; rfl)
                refine one_ (i := 37) (N := some 52) (bR [38, 2]) rfl rfl (one_of HT_.out (by kernel_rfl)) (by decide) (fun K hK => ?_)
                refine goes_ Try.func58 (by kernel_rfl) rfl #[.slice (some ad165) y171.length c0, .int .i64 ((rd_T95 l0 x10_1).f2)] (by rfl) rfl rfl (by (try simp only [mA, mC, mN]); first | done | rfl | (simp only [lD, lT]; rfl)) ?_
                with_reducible refine (impl_SlotOf.calls _ _ y171 ((rd_T95 l0 x10_1).f2) t175 _ ?side1 ?side2 A23.out).mono ?_
                (case side1 => repeat (first | exact (Kd.C_below HR174.out (by repeat (first | (with_reducible first | exact HB.out | apply below_alloc | apply pw_below_drewN | apply below_drew1 | refine below_set ?_ GE166.out) | exact HB.out))) | (with_reducible refine Kd.C_alloc ?_ _) | (with_reducible refine Kd.C_drewN ?_ _) | (with_reducible refine Kd.C_drew ?_)))
                (case side2 => exact HC174.out)
                rintro e w30 ⟨rfl, hb⟩
                refine ⟨_, rfl, ?_⟩
                have n0_ := Aside0.mk (blk_below (g := gb166) (o := .cells #[.int .i64 ((rd_T95 l0 x10_1).f0), .int .i64 ((rd_T95 l0 x10_1).f1), .int .i64 ((rd_T95 l0 x10_1).f2)] 95 (0, 0)) (qK BK166) hb)
                have n1_ := Aside0.mk (below_step (by repeat (first | (with_reducible first | exact HB.out | apply below_alloc | apply pw_below_drewN | apply below_drew1 | refine below_set ?_ GE166.out) | exact HB.out)) hb)
                clear BK166
                clear HB
                have BK166 := n0_
                have HB := n1_
                clear n0_ n1_
                (try clear hb)
                (try clear hb2)
                (try clear hk)
                (try clear hi)
                refine hK.out _ _ ⟨(blk_cell BK166.out 0).trans rfl, (blk_cell BK166.out 1).trans rfl, (blk_cell BK166.out 2).trans rfl, ((HB.out.cell (World.block_lt_of_cell? w _ hw168_0)).trans hw168_0), ((HB.out.cell (World.block_lt_of_cell? w _ hw168_1)).trans hw168_1), ((HB.out.cell (World.block_lt_of_cell? w _ hw168_2)).trans hw168_2)⟩ (fun hHeld => ?_)
                clear hK K
                refine norm_ (a' := ?_) ?_ ?_
                rotate_left
                ·show Act.put _ (some 52) _ = _
                 simp only [Act.put, sA, sZ, sS, i64_w]
                 rfl
                refine pure_ (i := 38) (N := some 53) (v := ?_) (a' := ?_) (bR [39, 1]) rfl rfl (any_of HT_.out (by kernel_rfl)) (fun _ _ _ h => h) (Or.inl ⟨by rfl, ?_⟩) ?_ ?_
                rotate_left; (intro w'; go_simp; with_reducible rfl); rotate_left; (simp only [Act.put, sA, sZ, sS, i64_w]; rfl)
                refine pure_ (i := 39) (N := some 54) (v := ?_) (a' := ?_) (bR [40]) rfl rfl (any_of HT_.out (by kernel_rfl)) (fun _ _ _ h => h) (Or.inl ⟨by rfl, ?_⟩) ?_ ?_
                rotate_left; (intro w'; go_simp; with_reducible rfl); rotate_left; (simp only [Act.put, sA, sZ, sS, i64_w]; rfl)
                refine done_ (done_of HT_.out (by kernel_rfl)) ?_
                try go_wp2
                go_roundg k1
                case measure => have := HK1.out; omega
                case rel => exact ⟨(wrap64 (x10_1 + 1)), (by first | rfl | (simp; done) | (simp [*]; done)), H', ⟨by have := HK1.out; omega⟩, ⟨by repeat (first | (with_reducible first | exact HB.out | apply below_alloc | apply pw_below_drewN | apply below_drew1 | refine below_set ?_ GE166.out) | exact HB.out)⟩⟩
               ·rw [if_neg c24] at H
                have c24b0 : (t175 == 0) = false := beq_eq_false_iff_ne.mpr c24
                have c24b1 : (t175 != 0) = true := bne_iff_ne.mpr c24
                obtain rfl := Option.some.inj H
                have p165 : 0 ≤ (x10_1 : Int) := of_decide_eq_true ‹_›
                have q165 : x10_1 < (l0.length : Int) := of_decide_eq_true ‹_›
                obtain ⟨ad165, e165, hx165_0, hx165_1, hx165_2⟩ := at_T95 HR0.out x10_1 p165 q165
                cases e165
                replace hx165_0 := (HB.out.cell (World.block_lt_of_cell? w _ hx165_0)).trans hx165_0
                replace hx165_1 := (HB.out.cell (World.block_lt_of_cell? w _ hx165_1)).trans hx165_1
                replace hx165_2 := (HB.out.cell (World.block_lt_of_cell? w _ hx165_2)).trans hx165_2
                replace p165 := eq_true p165
                replace q165 := eq_true q165
                try go_wp2_with (first | ((with_reducible refine gate_dst (N := 4) rfl ?_); refine box_event ?hg (N := 4) ?hd (cs := #[.int .i64 0, .int .i64 0, .int .i64 0]) (t := 95) ?hr ?_; (case hd => rfl); (case hg => rfl); (case hr => first | (go_simp; done) | (go_simp; rfl)); intro gb166 hg w31 hbox hb; have n0_ := Aside0.mk (below_step (qB HB) hb); have n1_ := Aside0.mk (hbox); have n2_ := Aside0.mk ((by rw [hg]; exact (below_size (qB HB)) : w.heap.size ≤ gb166)); have n3_ := Aside0.mk ((by rw [hg]; exact (below_size (qB HB)) : w.heap.size ≤ gb166)); clear HB; have HB := n0_; have BK166 := n1_; have GW166 := n2_; have GE166 := n3_; clear n0_ n1_ n2_ n3_; clear hb hbox hg; have hcz32_0 : w31.cell? ⟨gb166, 0, none⟩ = some (.int .i64 0) := (blk_cell BK166.out 0).trans rfl; have hcz32_1 : w31.cell? ⟨gb166, 1, none⟩ = some (.int .i64 0) := (blk_cell BK166.out 1).trans rfl; have hcz32_2 : w31.cell? ⟨gb166, 2, none⟩ = some (.int .i64 0) := (blk_cell BK166.out 2).trans rfl; have hfz32_0 := blk_frozen BK166.out 0; have hfz32_1 := blk_frozen BK166.out 1; have hfz32_2 := blk_frozen BK166.out 2))
                have n0_ : Aside0 ((((w31.setCell ⟨gb166, 0, none⟩ (.int .i64 ((rd_T95 l0 x10_1).f0))).setCell ⟨gb166, 1, none⟩ (.int .i64 ((rd_T95 l0 x10_1).f1))).setCell ⟨gb166, 2, none⟩ (.int .i64 ((rd_T95 l0 x10_1).f2))).heap[gb166]? = some (.cells #[.int .i64 ((rd_T95 l0 x10_1).f0), .int .i64 ((rd_T95 l0 x10_1).f1), .int .i64 ((rd_T95 l0 x10_1).f2)] 95 (0, 0))) := ⟨by (with_reducible repeat (first | refine blk_drewN ?_ _ | refine blk_drew ?_ | refine blk_alloc ?_ _)); refine blk_put (cs := #[.int .i64 ((rd_T95 l0 x10_1).f0), .int .i64 ((rd_T95 l0 x10_1).f1), .int .i64 0]) ?_ 2 _ rfl; (with_reducible repeat (first | refine blk_drewN ?_ _ | refine blk_drew ?_ | refine blk_alloc ?_ _)); refine blk_put (cs := #[.int .i64 ((rd_T95 l0 x10_1).f0), .int .i64 0, .int .i64 0]) ?_ 1 _ rfl; (with_reducible repeat (first | refine blk_drewN ?_ _ | refine blk_drew ?_ | refine blk_alloc ?_ _)); refine blk_put (cs := #[.int .i64 0, .int .i64 0, .int .i64 0]) ?_ 0 _ rfl; (with_reducible repeat (first | refine blk_drewN ?_ _ | refine blk_drew ?_ | refine blk_alloc ?_ _)); exact BK166.out⟩
                have n1_ : Aside0 (Below w.heap.size w (((w31.setCell ⟨gb166, 0, none⟩ (.int .i64 ((rd_T95 l0 x10_1).f0))).setCell ⟨gb166, 1, none⟩ (.int .i64 ((rd_T95 l0 x10_1).f1))).setCell ⟨gb166, 2, none⟩ (.int .i64 ((rd_T95 l0 x10_1).f2)))) := ⟨by repeat (first | (with_reducible first | exact HB.out | apply below_alloc | apply pw_below_drewN | apply below_drew1 | refine below_set ?_ GE166.out) | exact HB.out)⟩
                (try clear BK166)
                (try clear HB)
                generalize (((w31.setCell ⟨gb166, 0, none⟩ (.int .i64 ((rd_T95 l0 x10_1).f0))).setCell ⟨gb166, 1, none⟩ (.int .i64 ((rd_T95 l0 x10_1).f1))).setCell ⟨gb166, 2, none⟩ (.int .i64 ((rd_T95 l0 x10_1).f2))) = w33 at n0_ n1_ ⊢
                have BK166 := n0_
                have HB := n1_
                clear n0_ n1_
                have n0_ := Aside0.mk (blk_drew BK166.out)
                have n1_ := Aside0.mk (below_drew1 HB.out)
                clear BK166
                clear HB
                have BK166 := n0_
                have HB := n1_
                clear n0_ n1_
                have p168 : 0 ≤ ((ji9) : Int) := of_decide_eq_true ‹_›
                have q168 : (ji9) < (l0.length : Int) := of_decide_eq_true ‹_›
                obtain ⟨ad168, e168, hx168_0, hx168_1, hx168_2⟩ := at_T95 HR0.out (ji9) p168 q168
                have hw168_2 := hx168_2
                have hw168_1 := hx168_1
                have hw168_0 := hx168_0
                obtain rfl : ad165 = ad168 := (by injection e168)
                replace hx168_0 := (HB.out.cell (World.block_lt_of_cell? w _ hx168_0)).trans hx168_0
                replace hx168_1 := (HB.out.cell (World.block_lt_of_cell? w _ hx168_1)).trans hx168_1
                replace hx168_2 := (HB.out.cell (World.block_lt_of_cell? w _ hx168_2)).trans hx168_2
                replace p168 := eq_true p168
                replace q168 := eq_true q168
                refine start_ (n := 40) (S := fun w' => w'.cell? ⟨gb166, 0, none⟩ = some (.int .i64 ((rd_T95 l0 x10_1).f0)) ∧ w'.cell? ⟨gb166, 1, none⟩ = some (.int .i64 ((rd_T95 l0 x10_1).f1)) ∧ w'.cell? ⟨gb166, 2, none⟩ = some (.int .i64 ((rd_T95 l0 x10_1).f2)) ∧ w'.cell? (ad165.add (((ji9)).toNat * 3)) = some (.int .i64 ((rd_T95 l0 (ji9)).f0)) ∧ w'.cell? ⟨(ad165.add (((ji9)).toNat * 3)).block, (ad165.add (((ji9)).toNat * 3)).off + 1, none⟩ = some (.int .i64 ((rd_T95 l0 (ji9)).f1)) ∧ w'.cell? ⟨(ad165.add (((ji9)).toNat * 3)).block, (ad165.add (((ji9)).toNat * 3)).off + 2, none⟩ = some (.int .i64 ((rd_T95 l0 (ji9)).f2))) (ds := []) (bR [0, 40]) (by kernel_rfl) rfl rfl ⟨(blk_cell BK166.out 0).trans rfl, (blk_cell BK166.out 1).trans rfl, (blk_cell BK166.out 2).trans rfl, ((HB.out.cell (World.block_lt_of_cell? w _ hw168_0)).trans hw168_0), ((HB.out.cell (World.block_lt_of_cell? w _ hw168_1)).trans hw168_1), ((HB.out.cell (World.block_lt_of_cell? w _ hw168_2)).trans hw168_2)⟩ (fun hHeld => ?_); refine with_tabW impl_AreSlots.tab6 impl_AreSlots.bits6 (fun HT_ HW_ => ?_)
                generalize w33.drew = w34 at BK166 HB hx168_0 hx168_1 hx168_2 hHeld ⊢
                refine pure_ (i := 0) (N := some 15) (v := ?_) (a' := ?_) (bR [1, 39]) rfl rfl (any_of HT_.out (by kernel_rfl)) (fun _ _ _ h => h) (Or.inl ⟨by rfl, ?_⟩) ?_ ?_
                rotate_left; (intro w'; go_simp; with_reducible rfl); rotate_left; (simp only [Act.put, sA, sZ, sS, i64_w]; rfl)
                refine take_ (i := 1) (N := some 16) (v := ?_) (a' := ?_) (bR [2, 38]) rfl rfl (take_ofW HT_.out HW_.out (by kernel_rfl)) (fun _ _ _ h => h) (Or.inl ⟨by rfl, ?_⟩) hHeld ?_ ?_
                rotate_left; (rintro w' ⟨s0, s1, s2, s3, s4, s5⟩; go_simp; with_reducible rfl); rotate_left; (simp only [Act.put, sA, sZ, sS, i64_w]; rfl)
                refine one_ (i := 2) (N := some 17) (bR [3, 37]) rfl rfl (one_of HT_.out (by kernel_rfl)) (by decide) (fun K hK => ?_)
                refine goes_ Try.func109 (by kernel_rfl) rfl #[.int .i64 ((rd_T95 l0 x10_1).f0), .int .i64 1, .int .i64 99] (by rfl) rfl rfl (by (try simp only [mA, mC, mN]); first | done | rfl | (simp only [lD, lT]; rfl)) ?_
                with_reducible refine (impl_InRange.calls ((rd_T95 l0 x10_1).f0) 1 99 true _ A6.out).mono ?_
                rintro e w' ⟨rfl, ⟨nd, rfl⟩⟩
                refine ⟨_, rfl, ?_⟩
                refine hK.out _ _ ⟨(blk_cell BK166.out 0).trans rfl, (blk_cell BK166.out 1).trans rfl, (blk_cell BK166.out 2).trans rfl, ((HB.out.cell (World.block_lt_of_cell? w _ hw168_0)).trans hw168_0), ((HB.out.cell (World.block_lt_of_cell? w _ hw168_1)).trans hw168_1), ((HB.out.cell (World.block_lt_of_cell? w _ hw168_2)).trans hw168_2)⟩ (fun hHeld => ?_)
                clear hK K
                refine norm_ (a' := ?_) ?_ ?_
                rotate_left
                ·show Act.put _ (some 17) _ = _
                 simp only [Act.put, sA, sZ, sS, i64_w]
                 rfl
                refine pure_ (i := 3) (N := some 18) (v := ?_) (a' := ?_) (bR [4, 36]) rfl rfl (any_of HT_.out (by kernel_rfl)) (fun _ _ _ h => h) (Or.inl ⟨by rfl, ?_⟩) ?_ ?_
                rotate_left; (intro w'; go_simp; with_reducible rfl); rotate_left; (simp only [Act.put, sA, sZ, sS, i64_w]; rfl)
                refine pure_ (i := 4) (N := some 19) (v := ?_) (a' := ?_) (bR [5, 35]) rfl rfl (any_of HT_.out (by kernel_rfl)) (fun _ _ _ h => h) (Or.inl ⟨by rfl, ?_⟩) ?_ ?_
                rotate_left; (intro w'; go_simp; with_reducible rfl); rotate_left; (simp only [Act.put, sA, sZ, sS, i64_w]; rfl)
                refine pure_ (i := 5) (N := some 20) (v := ?_) (a' := ?_) (bR [6, 34]) rfl rfl (any_of HT_.out (by kernel_rfl)) (fun _ _ _ h => h) (Or.inl ⟨by rfl, ?_⟩) ?_ ?_
                rotate_left; (intro w'; go_simp; with_reducible rfl); rotate_left; (simp only [Act.put, sA, sZ, sS, i64_w]; rfl)
                refine pure_ (i := 6) (N := some 21) (v := ?_) (a' := ?_) (bR [7, 33]) rfl rfl (any_of HT_.out (by kernel_rfl)) (fun _ _ _ h => h) (Or.inl ⟨by rfl, ?_⟩) ?_ ?_
                rotate_left; (intro w'; go_simp; with_reducible rfl); rotate_left; (simp only [Act.put, sA, sZ, sS, i64_w]; rfl)
                refine pure_ (i := 7) (N := some 22) (v := ?_) (a' := ?_) (bR [8, 32]) rfl rfl (any_of HT_.out (by kernel_rfl)) (fun _ _ _ h => h) (Or.inl ⟨by rfl, ?_⟩) ?_ ?_
                rotate_left; (intro w'; go_simp; with_reducible rfl); rotate_left; (simp only [Act.put, sA, sZ, sS, i64_w]; rfl)
                refine pure_ (i := 8) (N := some 23) (v := ?_) (a' := ?_) (bR [9, 31]) rfl rfl (any_of HT_.out (by kernel_rfl)) (fun _ _ _ h => h) (Or.inl ⟨by rfl, ?_⟩) ?_ ?_
                rotate_left; (intro w'; go_simp; with_reducible rfl); rotate_left; (simp only [Act.put, sA, sZ, sS, i64_w]; rfl)
                refine pure_ (i := 10) (N := some 25) (v := ?_) (a' := ?_) (bR [9, 1, 1, 29]) rfl rfl (any_of HT_.out (by kernel_rfl)) (fun _ _ _ h => h) (Or.inl ⟨by rfl, ?_⟩) ?_ ?_
                rotate_left; (intro w'; go_simp; with_reducible rfl); rotate_left; (simp only [Act.put, sA, sZ, sS, i64_w]; rfl)
                refine pure_ (i := 11) (N := some 26) (v := ?_) (a' := ?_) (bR [9, 1, 2, 28]) rfl rfl (any_of HT_.out (by kernel_rfl)) (fun _ _ _ h => h) (Or.inl ⟨by rfl, ?_⟩) ?_ ?_
                rotate_left; (intro w'; go_simp; with_reducible rfl); rotate_left; (simp only [Act.put, sA, sZ, sS, i64_w]; rfl)
                refine pure_ (i := 12) (N := some 27) (v := ?_) (a' := ?_) (bR [9, 1, 3, 27]) rfl rfl (any_of HT_.out (by kernel_rfl)) (fun _ _ _ h => h) (Or.inl ⟨by rfl, ?_⟩) ?_ ?_
                rotate_left; (intro w'; go_simp; with_reducible rfl); rotate_left; (simp only [Act.put, sA, sZ, sS, i64_w]; rfl)
                refine pure_ (i := 13) (N := some 28) (v := ?_) (a' := ?_) (bR [9, 1, 4, 26]) rfl rfl (any_of HT_.out (by kernel_rfl)) (fun _ _ _ h => h) (Or.inl ⟨by rfl, ?_⟩) ?_ ?_
                rotate_left; (intro w'; go_simp; with_reducible rfl); rotate_left; (simp only [Act.put, sA, sZ, sS, i64_w]; rfl)
                refine pure_ (i := 14) (N := some 29) (v := ?_) (a' := ?_) (bR [9, 1, 5, 25]) rfl rfl (any_of HT_.out (by kernel_rfl)) (fun _ _ _ h => h) (Or.inl ⟨by rfl, ?_⟩) ?_ ?_
                rotate_left; (intro w'; go_simp; with_reducible rfl); rotate_left; (simp only [Act.put, sA, sZ, sS, i64_w]; rfl)
                refine take_ (i := 9) (N := some 24) (v := ?_) (a' := ?_) (bR [15, 25]) rfl rfl (take_ofW HT_.out HW_.out (by kernel_rfl)) (fun _ _ _ h => h) (Or.inl ⟨by rfl, ?_⟩) hHeld ?_ ?_
                rotate_left; (rintro w' ⟨s0, s1, s2, s3, s4, s5⟩; go_simp; with_reducible rfl); rotate_left; (simp only [Act.put, sA, sZ, sS, i64_w]; rfl)
                refine take_ (i := 15) (N := some 30) (v := ?_) (a' := ?_) (bR [16, 24]) rfl rfl (take_ofW HT_.out HW_.out (by kernel_rfl)) (fun _ _ _ h => h) (Or.inl ⟨by rfl, ?_⟩) hHeld ?_ ?_
                rotate_left; (rintro w' ⟨s0, s1, s2, s3, s4, s5⟩; go_simp; with_reducible rfl); rotate_left; (simp only [Act.put, sA, sZ, sS, i64_w]; rfl)
                refine pure_ (i := 16) (N := some 31) (v := ?_) (a' := ?_) (bR [17, 23]) rfl rfl (any_of HT_.out (by kernel_rfl)) (fun _ _ _ h => h) (Or.inl ⟨by rfl, ?_⟩) ?_ ?_
                rotate_left; (intro w'; go_simp; with_reducible rfl); rotate_left; (simp only [Act.put, sA, sZ, sS, i64_w]; rfl)
                refine pure_ (i := 17) (N := some 32) (v := ?_) (a' := ?_) (bR [18, 22]) rfl rfl (any_of HT_.out (by kernel_rfl)) (fun _ _ _ h => h) (Or.inl ⟨by rfl, ?_⟩) ?_ ?_
                rotate_left; (intro w'; go_simp; with_reducible rfl); rotate_left; (simp only [Act.put, sA, sZ, sS, i64_w]; rfl)
                refine pure_ (i := 18) (N := some 33) (v := ?_) (a' := ?_) (bR [19, 21]) rfl rfl (any_of HT_.out (by kernel_rfl)) (fun _ _ _ h => h) (Or.inl ⟨by rfl, ?_⟩) ?_ ?_
                rotate_left; (intro w'; go_simp; with_reducible rfl); rotate_left; (simp only [Act.put, sA, sZ, sS, i64_w]; rfl)
                refine pure_ (i := 19) (N := some 34) (v := ?_) (a' := ?_) (bR [20, 20]) rfl rfl (any_of HT_.out (by kernel_rfl)) (fun _ _ _ h => h) (Or.inl ⟨by rfl, ?_⟩) ?_ ?_
                rotate_left; (intro w'; go_simp; with_reducible rfl); rotate_left; (simp only [Act.put, sA, sZ, sS, i64_w]; rfl)
                refine pure_ (i := 20) (N := some 35) (v := ?_) (a' := ?_) (bR [21, 19]) rfl rfl (any_of HT_.out (by kernel_rfl)) (fun _ _ _ h => h) (Or.inl ⟨by rfl, ?_⟩) ?_ ?_
                rotate_left; (intro w'; go_simp; with_reducible rfl); rotate_left; (simp only [Act.put, sA, sZ, sS, i64_w]; rfl)
                refine take_ (i := 21) (N := some 36) (v := ?_) (a' := ?_) (bR [22, 18]) rfl rfl (take_ofW HT_.out HW_.out (by kernel_rfl)) (fun _ _ _ h => h) (Or.inl ⟨by rfl, ?_⟩) hHeld ?_ ?_
                rotate_left; (rintro w' ⟨s0, s1, s2, s3, s4, s5⟩; go_simp; with_reducible rfl); rotate_left; (simp only [Act.put, sA, sZ, sS, i64_w]; rfl)
                refine one_ (i := 22) (N := some 37) (bR [23, 17]) rfl rfl (one_of HT_.out (by kernel_rfl)) (by decide) (fun K hK => ?_)
                refine goes_ Try.func109 (by kernel_rfl) rfl #[.int .i64 ((rd_T95 l0 x10_1).f1), .int .i64 1, .int .i64 50] (by rfl) rfl rfl (by (try simp only [mA, mC, mN]); first | done | rfl | (simp only [lD, lT]; rfl)) ?_
                with_reducible refine (impl_InRange.calls ((rd_T95 l0 x10_1).f1) 1 50 true _ A17.out).mono ?_
                rintro e w' ⟨rfl, ⟨nd, rfl⟩⟩
                refine ⟨_, rfl, ?_⟩
                refine hK.out _ _ ⟨(blk_cell BK166.out 0).trans rfl, (blk_cell BK166.out 1).trans rfl, (blk_cell BK166.out 2).trans rfl, ((HB.out.cell (World.block_lt_of_cell? w _ hw168_0)).trans hw168_0), ((HB.out.cell (World.block_lt_of_cell? w _ hw168_1)).trans hw168_1), ((HB.out.cell (World.block_lt_of_cell? w _ hw168_2)).trans hw168_2)⟩ (fun hHeld => ?_)
                clear hK K
                refine norm_ (a' := ?_) ?_ ?_
                rotate_left
                ·show Act.put _ (some 37) _ = _
                 simp only [Act.put, sA, sZ, sS, i64_w]
                 rfl
                refine pure_ (i := 23) (N := some 38) (v := ?_) (a' := ?_) (bR [24, 16]) rfl rfl (any_of HT_.out (by kernel_rfl)) (fun _ _ _ h => h) (Or.inl ⟨by rfl, ?_⟩) ?_ ?_
                rotate_left; (intro w'; go_simp; with_reducible rfl); rotate_left; (simp only [Act.put, sA, sZ, sS, i64_w]; rfl)
                refine pure_ (i := 24) (N := some 39) (v := ?_) (a' := ?_) (bR [25, 15]) rfl rfl (any_of HT_.out (by kernel_rfl)) (fun _ _ _ h => h) (Or.inl ⟨by rfl, ?_⟩) ?_ ?_
                rotate_left; (intro w'; go_simp; with_reducible rfl); rotate_left; (simp only [Act.put, sA, sZ, sS, i64_w]; rfl)
                refine pure_ (i := 25) (N := some 40) (v := ?_) (a' := ?_) (bR [26, 14]) rfl rfl (any_of HT_.out (by kernel_rfl)) (fun _ _ _ h => h) (Or.inl ⟨by rfl, ?_⟩) ?_ ?_
                rotate_left; (intro w'; go_simp; with_reducible rfl); rotate_left; (simp only [Act.put, sA, sZ, sS, i64_w]; rfl)
                refine pure_ (i := 26) (N := some 41) (v := ?_) (a' := ?_) (bR [27, 13]) rfl rfl (any_of HT_.out (by kernel_rfl)) (fun _ _ _ h => h) (Or.inl ⟨by rfl, ?_⟩) ?_ ?_
                rotate_left; (intro w'; go_simp; with_reducible rfl); rotate_left; (simp only [Act.put, sA, sZ, sS, i64_w]; rfl)
                refine take_ (i := 27) (N := some 42) (v := ?_) (a' := ?_) (bR [28, 12]) rfl rfl (take_ofW HT_.out HW_.out (by kernel_rfl)) (fun _ _ _ h => h) (Or.inl ⟨by rfl, ?_⟩) hHeld ?_ ?_
                rotate_left; (rintro w' ⟨s0, s1, s2, s3, s4, s5⟩; go_simp; with_reducible rfl); rotate_left; (simp only [Act.put, sA, sZ, sS, i64_w]; rfl)
                refine one_ (i := 28) (N := some 43) (bR [29, 11]) rfl rfl (one_of HT_.out (by kernel_rfl)) (by decide) (fun K hK => ?_)
                refine goes_ Try.func109 (by kernel_rfl) rfl #[.int .i64 ((rd_T95 l0 x10_1).f2), .int .i64 0, .int .i64 999] (by rfl) rfl rfl (by (try simp only [mA, mC, mN]); first | done | rfl | (simp only [lD, lT]; rfl)) ?_
                with_reducible refine (impl_InRange.calls ((rd_T95 l0 x10_1).f2) 0 999 true _ A19.out).mono ?_
                rintro e w' ⟨rfl, ⟨nd, rfl⟩⟩
                refine ⟨_, rfl, ?_⟩
                have q35 : (x10_1 : Int) ≤ ((l0.length : Int) : Int) := of_decide_eq_true ‹_›
                obtain ⟨i035, hi035, _, hsz35, _⟩ := info_parts info95
                have hroom35 : l0.length ≤ c0 := HC0.out
                have hC35 : Kd.C k95 _ (some ad165) l0.length l0 := HR0.out
                have hcut35 := cut_to (P := Try.prog) 35 95 .i64 Try.underlying35 hi035 (some ad165) l0.length c0 x10_1 (of_decide_eq_true ‹_›) q35 hroom35
                have hr35 := Kd.C_take (m := (x10_1 : Int).toNat) hC35 (by omega)
                have hy35 : y171.length = (x10_1 : Int).toNat := (by rw [Ny171.out, List.length_take]; omega)
                rw [← Ny171.out] at hr35
                rw [← hy35] at hcut35
                have HR174 := Aside0.mk hr35
                have HC174 := Aside0.mk (show y171.length ≤ c0 from by omega)
                clear hr35 hC35 hroom35 hi035 hsz35
                have KY35 := Aside0.mk hy35
                clear hy35
                replace q35 := eq_true q35
                refine hK.out _ _ ⟨(blk_cell BK166.out 0).trans rfl, (blk_cell BK166.out 1).trans rfl, (blk_cell BK166.out 2).trans rfl, ((HB.out.cell (World.block_lt_of_cell? w _ hw168_0)).trans hw168_0), ((HB.out.cell (World.block_lt_of_cell? w _ hw168_1)).trans hw168_1), ((HB.out.cell (World.block_lt_of_cell? w _ hw168_2)).trans hw168_2)⟩ (fun hHeld => ?_)
                clear hK K
                refine norm_ (a' := ?_) ?_ ?_
                rotate_left
                ·show Act.put _ (some 43) _ = _
                 simp only [Act.put, sA, sZ, sS, i64_w]
                 rfl
                refine pure_ (i := 29) (N := some 44) (v := ?_) (a' := ?_) (bR [30, 10]) rfl rfl (any_of HT_.out (by kernel_rfl)) (fun _ _ _ h => h) (Or.inl ⟨by rfl, ?_⟩) ?_ ?_
                rotate_left; (intro w'; go_simp; with_reducible rfl); rotate_left; (simp only [Act.put, sA, sZ, sS, i64_w]; rfl)
                refine pure_ (i := 30) (N := some 45) (v := ?_) (a' := ?_) (bR [31, 9]) rfl rfl (any_of HT_.out (by kernel_rfl)) (fun _ _ _ h => h) (Or.inl ⟨by rfl, ?_⟩) ?_ ?_
                rotate_left; (intro w'; go_simp; with_reducible rfl); rotate_left; (simp only [Act.put, sA, sZ, sS, i64_w]; rfl)
                refine pure_ (i := 31) (N := some 46) (v := ?_) (a' := ?_) (bR [32, 8]) rfl rfl (any_of HT_.out (by kernel_rfl)) (fun _ _ _ h => h) (Or.inl ⟨by rfl, ?_⟩) ?_ ?_
                rotate_left; (intro w'; go_simp; with_reducible rfl); rotate_left; (simp only [Act.put, sA, sZ, sS, i64_w]; rfl)
                refine pure_ (i := 32) (N := some 47) (v := ?_) (a' := ?_) (bR [33, 7]) rfl rfl (any_of HT_.out (by kernel_rfl)) (fun _ _ _ h => h) (Or.inl ⟨by rfl, ?_⟩) ?_ ?_
                rotate_left; (intro w'; go_simp; with_reducible rfl); rotate_left; (simp only [Act.put, sA, sZ, sS, i64_w]; rfl)
                refine pure_ (i := 33) (N := some 48) (v := ?_) (a' := ?_) (bR [34, 6]) rfl rfl (any_of HT_.out (by kernel_rfl)) (fun _ _ _ h => h) (Or.inl ⟨by rfl, ?_⟩) ?_ ?_
                rotate_left; (intro w'; go_simp; with_reducible rfl); rotate_left; (simp only [Act.put, sA, sZ, sS, i64_w]; rfl)
                refine pure_ (i := 34) (N := some 49) (v := ?_) (a' := ?_) (bR [35, 5]) rfl rfl (any_of HT_.out (by kernel_rfl)) (fun _ _ _ h => h) (Or.inl ⟨by rfl, ?_⟩) ?_ ?_
                rotate_left; (intro w'; go_simp; with_reducible rfl); rotate_left; (simp only [Act.put, sA, sZ, sS, i64_w]; rfl)
                refine pure_ (i := 35) (N := some 50) (v := ?_) (a' := ?_) (bR [36, 4]) rfl rfl (any_of HT_.out (by kernel_rfl)) (fun _ _ _ h => h) (Or.inl ⟨by rfl, ?_⟩) ?_ ?_
                rotate_left; (intro w'; go_simp; with_reducible rfl); rotate_left; (simp only [Act.put, sA, sZ, sS, i64_w]; rfl)
                refine take_ (i := 36) (N := some 51) (v := ?_) (a' := ?_) (bR [37, 3]) rfl rfl (take_ofW HT_.out HW_.out (by kernel_rfl)) (fun _ _ _ h => h) (Or.inl ⟨by rfl, ?_⟩) hHeld ?_ ?_
                rotate_left; (rintro w' ⟨s0, s1, s2, s3, s4, s5⟩; go_simp; with_reducible rfl); rotate_left; (simp only [Act.put, sA, sZ, sS, i64_w]; rfl)
                refine one_ (i := 37) (N := some 52) (bR [38, 2]) rfl rfl (one_of HT_.out (by kernel_rfl)) (by decide) (fun K hK => ?_)
                refine goes_ Try.func58 (by kernel_rfl) rfl #[.slice (some ad165) y171.length c0, .int .i64 ((rd_T95 l0 x10_1).f2)] (by rfl) rfl rfl (by (try simp only [mA, mC, mN]); first | done | rfl | (simp only [lD, lT]; rfl)) ?_
                with_reducible refine (impl_SlotOf.calls _ _ y171 ((rd_T95 l0 x10_1).f2) t175 _ ?side1 ?side2 A23.out).mono ?_
                (case side1 => repeat (first | exact (Kd.C_below HR174.out (by repeat (first | (with_reducible first | exact HB.out | apply below_alloc | apply pw_below_drewN | apply below_drew1 | refine below_set ?_ GE166.out) | exact HB.out))) | (with_reducible refine Kd.C_alloc ?_ _) | (with_reducible refine Kd.C_drewN ?_ _) | (with_reducible refine Kd.C_drew ?_)))
                (case side2 => exact HC174.out)
                rintro e w36 ⟨rfl, hb⟩
                refine ⟨_, rfl, ?_⟩
                have n0_ := Aside0.mk (blk_below (g := gb166) (o := .cells #[.int .i64 ((rd_T95 l0 x10_1).f0), .int .i64 ((rd_T95 l0 x10_1).f1), .int .i64 ((rd_T95 l0 x10_1).f2)] 95 (0, 0)) (qK BK166) hb)
                have n1_ := Aside0.mk (below_step (by repeat (first | (with_reducible first | exact HB.out | apply below_alloc | apply pw_below_drewN | apply below_drew1 | refine below_set ?_ GE166.out) | exact HB.out)) hb)
                clear BK166
                clear HB
                have BK166 := n0_
                have HB := n1_
                clear n0_ n1_
                (try clear hb)
                (try clear hb2)
                (try clear hk)
                (try clear hi)
                refine hK.out _ _ ⟨(blk_cell BK166.out 0).trans rfl, (blk_cell BK166.out 1).trans rfl, (blk_cell BK166.out 2).trans rfl, ((HB.out.cell (World.block_lt_of_cell? w _ hw168_0)).trans hw168_0), ((HB.out.cell (World.block_lt_of_cell? w _ hw168_1)).trans hw168_1), ((HB.out.cell (World.block_lt_of_cell? w _ hw168_2)).trans hw168_2)⟩ (fun hHeld => ?_)
                clear hK K
                refine norm_ (a' := ?_) ?_ ?_
                rotate_left
                ·show Act.put _ (some 52) _ = _
                 simp only [Act.put, sA, sZ, sS, i64_w]
                 rfl
                refine pure_ (i := 38) (N := some 53) (v := ?_) (a' := ?_) (bR [39, 1]) rfl rfl (any_of HT_.out (by kernel_rfl)) (fun _ _ _ h => h) (Or.inl ⟨by rfl, ?_⟩) ?_ ?_
                rotate_left; (intro w'; go_simp; with_reducible rfl); rotate_left; (simp only [Act.put, sA, sZ, sS, i64_w]; rfl)
                refine pure_ (i := 39) (N := some 54) (v := ?_) (a' := ?_) (bR [40]) rfl rfl (any_of HT_.out (by kernel_rfl)) (fun _ _ _ h => h) (Or.inl ⟨by rfl, ?_⟩) ?_ ?_
                rotate_left; (intro w'; go_simp; with_reducible rfl); rotate_left; (simp only [Act.put, sA, sZ, sS, i64_w]; rfl)
                refine done_ (done_of HT_.out (by kernel_rfl)) ?_
                try go_wp2
                go_ret
                exact ⟨by first | rfl | (simp [errW_none, errW_some] <;> rfl) | (simp only [← hji9]; first | rfl | (simp [errW_none, errW_some] <;> rfl)) | (simp [*, errW_none, errW_some] <;> rfl), by repeat (first | (with_reducible first | exact HB.out | apply below_alloc | apply pw_below_drewN | apply below_drew1 | refine below_set ?_ GE166.out) | exact HB.out)⟩
              ·rw [if_neg c22] at H
               exact absurd H (by simp)
             ·replace c20 := Bool.eq_false_iff.mpr c20
              subst c20
              have H1 : (some false) = some r := by rw [if_neg (show ¬ (false = true) by decide)] at H; exact H
              clear H
              have H := H1
              clear H1
              obtain rfl := Option.some.inj H
              have p165 : 0 ≤ (x10_1 : Int) := of_decide_eq_true ‹_›
              have q165 : x10_1 < (l0.length : Int) := of_decide_eq_true ‹_›
              obtain ⟨ad165, e165, hx165_0, hx165_1, hx165_2⟩ := at_T95 HR0.out x10_1 p165 q165
              cases e165
              replace hx165_0 := (HB.out.cell (World.block_lt_of_cell? w _ hx165_0)).trans hx165_0
              replace hx165_1 := (HB.out.cell (World.block_lt_of_cell? w _ hx165_1)).trans hx165_1
              replace hx165_2 := (HB.out.cell (World.block_lt_of_cell? w _ hx165_2)).trans hx165_2
              replace p165 := eq_true p165
              replace q165 := eq_true q165
              try go_wp2_with (first | ((with_reducible refine gate_dst (N := 4) rfl ?_); refine box_event ?hg (N := 4) ?hd (cs := #[.int .i64 0, .int .i64 0, .int .i64 0]) (t := 95) ?hr ?_; (case hd => rfl); (case hg => rfl); (case hr => first | (go_simp; done) | (go_simp; rfl)); intro gb166 hg w37 hbox hb; have n0_ := Aside0.mk (below_step (qB HB) hb); have n1_ := Aside0.mk (hbox); have n2_ := Aside0.mk ((by rw [hg]; exact (below_size (qB HB)) : w.heap.size ≤ gb166)); have n3_ := Aside0.mk ((by rw [hg]; exact (below_size (qB HB)) : w.heap.size ≤ gb166)); clear HB; have HB := n0_; have BK166 := n1_; have GW166 := n2_; have GE166 := n3_; clear n0_ n1_ n2_ n3_; clear hb hbox hg; have hcz38_0 : w37.cell? ⟨gb166, 0, none⟩ = some (.int .i64 0) := (blk_cell BK166.out 0).trans rfl; have hcz38_1 : w37.cell? ⟨gb166, 1, none⟩ = some (.int .i64 0) := (blk_cell BK166.out 1).trans rfl; have hcz38_2 : w37.cell? ⟨gb166, 2, none⟩ = some (.int .i64 0) := (blk_cell BK166.out 2).trans rfl; have hfz38_0 := blk_frozen BK166.out 0; have hfz38_1 := blk_frozen BK166.out 1; have hfz38_2 := blk_frozen BK166.out 2))
              have n0_ : Aside0 ((((w37.setCell ⟨gb166, 0, none⟩ (.int .i64 ((rd_T95 l0 x10_1).f0))).setCell ⟨gb166, 1, none⟩ (.int .i64 ((rd_T95 l0 x10_1).f1))).setCell ⟨gb166, 2, none⟩ (.int .i64 ((rd_T95 l0 x10_1).f2))).heap[gb166]? = some (.cells #[.int .i64 ((rd_T95 l0 x10_1).f0), .int .i64 ((rd_T95 l0 x10_1).f1), .int .i64 ((rd_T95 l0 x10_1).f2)] 95 (0, 0))) := ⟨by (with_reducible repeat (first | refine blk_drewN ?_ _ | refine blk_drew ?_ | refine blk_alloc ?_ _)); refine blk_put (cs := #[.int .i64 ((rd_T95 l0 x10_1).f0), .int .i64 ((rd_T95 l0 x10_1).f1), .int .i64 0]) ?_ 2 _ rfl; (with_reducible repeat (first | refine blk_drewN ?_ _ | refine blk_drew ?_ | refine blk_alloc ?_ _)); refine blk_put (cs := #[.int .i64 ((rd_T95 l0 x10_1).f0), .int .i64 0, .int .i64 0]) ?_ 1 _ rfl; (with_reducible repeat (first | refine blk_drewN ?_ _ | refine blk_drew ?_ | refine blk_alloc ?_ _)); refine blk_put (cs := #[.int .i64 0, .int .i64 0, .int .i64 0]) ?_ 0 _ rfl; (with_reducible repeat (first | refine blk_drewN ?_ _ | refine blk_drew ?_ | refine blk_alloc ?_ _)); exact BK166.out⟩
              have n1_ : Aside0 (Below w.heap.size w (((w37.setCell ⟨gb166, 0, none⟩ (.int .i64 ((rd_T95 l0 x10_1).f0))).setCell ⟨gb166, 1, none⟩ (.int .i64 ((rd_T95 l0 x10_1).f1))).setCell ⟨gb166, 2, none⟩ (.int .i64 ((rd_T95 l0 x10_1).f2)))) := ⟨by repeat (first | (with_reducible first | exact HB.out | apply below_alloc | apply pw_below_drewN | apply below_drew1 | refine below_set ?_ GE166.out) | exact HB.out)⟩
              (try clear BK166)
              (try clear HB)
              generalize (((w37.setCell ⟨gb166, 0, none⟩ (.int .i64 ((rd_T95 l0 x10_1).f0))).setCell ⟨gb166, 1, none⟩ (.int .i64 ((rd_T95 l0 x10_1).f1))).setCell ⟨gb166, 2, none⟩ (.int .i64 ((rd_T95 l0 x10_1).f2))) = w39 at n0_ n1_ ⊢
              have BK166 := n0_
              have HB := n1_
              clear n0_ n1_
              have n0_ := Aside0.mk (blk_drew BK166.out)
              have n1_ := Aside0.mk (below_drew1 HB.out)
              clear BK166
              clear HB
              have BK166 := n0_
              have HB := n1_
              clear n0_ n1_
              have p168 : 0 ≤ ((ji9) : Int) := of_decide_eq_true ‹_›
              have q168 : (ji9) < (l0.length : Int) := of_decide_eq_true ‹_›
              obtain ⟨ad168, e168, hx168_0, hx168_1, hx168_2⟩ := at_T95 HR0.out (ji9) p168 q168
              have hw168_2 := hx168_2
              have hw168_1 := hx168_1
              have hw168_0 := hx168_0
              obtain rfl : ad165 = ad168 := (by injection e168)
              replace hx168_0 := (HB.out.cell (World.block_lt_of_cell? w _ hx168_0)).trans hx168_0
              replace hx168_1 := (HB.out.cell (World.block_lt_of_cell? w _ hx168_1)).trans hx168_1
              replace hx168_2 := (HB.out.cell (World.block_lt_of_cell? w _ hx168_2)).trans hx168_2
              replace p168 := eq_true p168
              replace q168 := eq_true q168
              refine start_ (n := 40) (S := fun w' => w'.cell? ⟨gb166, 0, none⟩ = some (.int .i64 ((rd_T95 l0 x10_1).f0)) ∧ w'.cell? ⟨gb166, 1, none⟩ = some (.int .i64 ((rd_T95 l0 x10_1).f1)) ∧ w'.cell? ⟨gb166, 2, none⟩ = some (.int .i64 ((rd_T95 l0 x10_1).f2)) ∧ w'.cell? (ad165.add (((ji9)).toNat * 3)) = some (.int .i64 ((rd_T95 l0 (ji9)).f0)) ∧ w'.cell? ⟨(ad165.add (((ji9)).toNat * 3)).block, (ad165.add (((ji9)).toNat * 3)).off + 1, none⟩ = some (.int .i64 ((rd_T95 l0 (ji9)).f1)) ∧ w'.cell? ⟨(ad165.add (((ji9)).toNat * 3)).block, (ad165.add (((ji9)).toNat * 3)).off + 2, none⟩ = some (.int .i64 ((rd_T95 l0 (ji9)).f2))) (ds := []) (bR [0, 40]) (by kernel_rfl) rfl rfl ⟨(blk_cell BK166.out 0).trans rfl, (blk_cell BK166.out 1).trans rfl, (blk_cell BK166.out 2).trans rfl, ((HB.out.cell (World.block_lt_of_cell? w _ hw168_0)).trans hw168_0), ((HB.out.cell (World.block_lt_of_cell? w _ hw168_1)).trans hw168_1), ((HB.out.cell (World.block_lt_of_cell? w _ hw168_2)).trans hw168_2)⟩ (fun hHeld => ?_); refine with_tabW impl_AreSlots.tab6 impl_AreSlots.bits6 (fun HT_ HW_ => ?_)
              generalize w39.drew = w40 at BK166 HB hx168_0 hx168_1 hx168_2 hHeld ⊢
              refine pure_ (i := 0) (N := some 15) (v := ?_) (a' := ?_) (bR [1, 39]) rfl rfl (any_of HT_.out (by kernel_rfl)) (fun _ _ _ h => h) (Or.inl ⟨by rfl, ?_⟩) ?_ ?_
              rotate_left; (intro w'; go_simp; with_reducible rfl); rotate_left; (simp only [Act.put, sA, sZ, sS, i64_w]; rfl)
              refine take_ (i := 1) (N := some 16) (v := ?_) (a' := ?_) (bR [2, 38]) rfl rfl (take_ofW HT_.out HW_.out (by kernel_rfl)) (fun _ _ _ h => h) (Or.inl ⟨by rfl, ?_⟩) hHeld ?_ ?_
              rotate_left; (rintro w' ⟨s0, s1, s2, s3, s4, s5⟩; go_simp; with_reducible rfl); rotate_left; (simp only [Act.put, sA, sZ, sS, i64_w]; rfl)
              refine one_ (i := 2) (N := some 17) (bR [3, 37]) rfl rfl (one_of HT_.out (by kernel_rfl)) (by decide) (fun K hK => ?_)
              refine goes_ Try.func109 (by kernel_rfl) rfl #[.int .i64 ((rd_T95 l0 x10_1).f0), .int .i64 1, .int .i64 99] (by rfl) rfl rfl (by (try simp only [mA, mC, mN]); first | done | rfl | (simp only [lD, lT]; rfl)) ?_
              with_reducible refine (impl_InRange.calls ((rd_T95 l0 x10_1).f0) 1 99 true _ A6.out).mono ?_
              rintro e w' ⟨rfl, ⟨nd, rfl⟩⟩
              refine ⟨_, rfl, ?_⟩
              refine hK.out _ _ ⟨(blk_cell BK166.out 0).trans rfl, (blk_cell BK166.out 1).trans rfl, (blk_cell BK166.out 2).trans rfl, ((HB.out.cell (World.block_lt_of_cell? w _ hw168_0)).trans hw168_0), ((HB.out.cell (World.block_lt_of_cell? w _ hw168_1)).trans hw168_1), ((HB.out.cell (World.block_lt_of_cell? w _ hw168_2)).trans hw168_2)⟩ (fun hHeld => ?_)
              clear hK K
              refine norm_ (a' := ?_) ?_ ?_
              rotate_left
              ·show Act.put _ (some 17) _ = _
               simp only [Act.put, sA, sZ, sS, i64_w]
               rfl
              refine pure_ (i := 3) (N := some 18) (v := ?_) (a' := ?_) (bR [4, 36]) rfl rfl (any_of HT_.out (by kernel_rfl)) (fun _ _ _ h => h) (Or.inl ⟨by rfl, ?_⟩) ?_ ?_
              rotate_left; (intro w'; go_simp; with_reducible rfl); rotate_left; (simp only [Act.put, sA, sZ, sS, i64_w]; rfl)
              refine pure_ (i := 4) (N := some 19) (v := ?_) (a' := ?_) (bR [5, 35]) rfl rfl (any_of HT_.out (by kernel_rfl)) (fun _ _ _ h => h) (Or.inl ⟨by rfl, ?_⟩) ?_ ?_
              rotate_left; (intro w'; go_simp; with_reducible rfl); rotate_left; (simp only [Act.put, sA, sZ, sS, i64_w]; rfl)
              refine pure_ (i := 5) (N := some 20) (v := ?_) (a' := ?_) (bR [6, 34]) rfl rfl (any_of HT_.out (by kernel_rfl)) (fun _ _ _ h => h) (Or.inl ⟨by rfl, ?_⟩) ?_ ?_
              rotate_left; (intro w'; go_simp; with_reducible rfl); rotate_left; (simp only [Act.put, sA, sZ, sS, i64_w]; rfl)
              refine pure_ (i := 6) (N := some 21) (v := ?_) (a' := ?_) (bR [7, 33]) rfl rfl (any_of HT_.out (by kernel_rfl)) (fun _ _ _ h => h) (Or.inl ⟨by rfl, ?_⟩) ?_ ?_
              rotate_left; (intro w'; go_simp; with_reducible rfl); rotate_left; (simp only [Act.put, sA, sZ, sS, i64_w]; rfl)
              refine pure_ (i := 7) (N := some 22) (v := ?_) (a' := ?_) (bR [8, 32]) rfl rfl (any_of HT_.out (by kernel_rfl)) (fun _ _ _ h => h) (Or.inl ⟨by rfl, ?_⟩) ?_ ?_
              rotate_left; (intro w'; go_simp; with_reducible rfl); rotate_left; (simp only [Act.put, sA, sZ, sS, i64_w]; rfl)
              refine pure_ (i := 8) (N := some 23) (v := ?_) (a' := ?_) (bR [9, 31]) rfl rfl (any_of HT_.out (by kernel_rfl)) (fun _ _ _ h => h) (Or.inl ⟨by rfl, ?_⟩) ?_ ?_
              rotate_left; (intro w'; go_simp; with_reducible rfl); rotate_left; (simp only [Act.put, sA, sZ, sS, i64_w]; rfl)
              refine pure_ (i := 10) (N := some 25) (v := ?_) (a' := ?_) (bR [9, 1, 1, 29]) rfl rfl (any_of HT_.out (by kernel_rfl)) (fun _ _ _ h => h) (Or.inl ⟨by rfl, ?_⟩) ?_ ?_
              rotate_left; (intro w'; go_simp; with_reducible rfl); rotate_left; (simp only [Act.put, sA, sZ, sS, i64_w]; rfl)
              refine pure_ (i := 11) (N := some 26) (v := ?_) (a' := ?_) (bR [9, 1, 2, 28]) rfl rfl (any_of HT_.out (by kernel_rfl)) (fun _ _ _ h => h) (Or.inl ⟨by rfl, ?_⟩) ?_ ?_
              rotate_left; (intro w'; go_simp; with_reducible rfl); rotate_left; (simp only [Act.put, sA, sZ, sS, i64_w]; rfl)
              refine pure_ (i := 12) (N := some 27) (v := ?_) (a' := ?_) (bR [9, 1, 3, 27]) rfl rfl (any_of HT_.out (by kernel_rfl)) (fun _ _ _ h => h) (Or.inl ⟨by rfl, ?_⟩) ?_ ?_
              rotate_left; (intro w'; go_simp; with_reducible rfl); rotate_left; (simp only [Act.put, sA, sZ, sS, i64_w]; rfl)
              refine pure_ (i := 13) (N := some 28) (v := ?_) (a' := ?_) (bR [9, 1, 4, 26]) rfl rfl (any_of HT_.out (by kernel_rfl)) (fun _ _ _ h => h) (Or.inl ⟨by rfl, ?_⟩) ?_ ?_
              rotate_left; (intro w'; go_simp; with_reducible rfl); rotate_left; (simp only [Act.put, sA, sZ, sS, i64_w]; rfl)
              refine pure_ (i := 14) (N := some 29) (v := ?_) (a' := ?_) (bR [9, 1, 5, 25]) rfl rfl (any_of HT_.out (by kernel_rfl)) (fun _ _ _ h => h) (Or.inl ⟨by rfl, ?_⟩) ?_ ?_
              rotate_left; (intro w'; go_simp; with_reducible rfl); rotate_left; (simp only [Act.put, sA, sZ, sS, i64_w]; rfl)
              refine take_ (i := 9) (N := some 24) (v := ?_) (a' := ?_) (bR [15, 25]) rfl rfl (take_ofW HT_.out HW_.out (by kernel_rfl)) (fun _ _ _ h => h) (Or.inl ⟨by rfl, ?_⟩) hHeld ?_ ?_
              rotate_left; (rintro w' ⟨s0, s1, s2, s3, s4, s5⟩; go_simp; with_reducible rfl); rotate_left; (simp only [Act.put, sA, sZ, sS, i64_w]; rfl)
              refine take_ (i := 15) (N := some 30) (v := ?_) (a' := ?_) (bR [16, 24]) rfl rfl (take_ofW HT_.out HW_.out (by kernel_rfl)) (fun _ _ _ h => h) (Or.inl ⟨by rfl, ?_⟩) hHeld ?_ ?_
              rotate_left; (rintro w' ⟨s0, s1, s2, s3, s4, s5⟩; go_simp; with_reducible rfl); rotate_left; (simp only [Act.put, sA, sZ, sS, i64_w]; rfl)
              refine pure_ (i := 16) (N := some 31) (v := ?_) (a' := ?_) (bR [17, 23]) rfl rfl (any_of HT_.out (by kernel_rfl)) (fun _ _ _ h => h) (Or.inl ⟨by rfl, ?_⟩) ?_ ?_
              rotate_left; (intro w'; go_simp; with_reducible rfl); rotate_left; (simp only [Act.put, sA, sZ, sS, i64_w]; rfl)
              refine pure_ (i := 17) (N := some 32) (v := ?_) (a' := ?_) (bR [18, 22]) rfl rfl (any_of HT_.out (by kernel_rfl)) (fun _ _ _ h => h) (Or.inl ⟨by rfl, ?_⟩) ?_ ?_
              rotate_left; (intro w'; go_simp; with_reducible rfl); rotate_left; (simp only [Act.put, sA, sZ, sS, i64_w]; rfl)
              refine pure_ (i := 18) (N := some 33) (v := ?_) (a' := ?_) (bR [19, 21]) rfl rfl (any_of HT_.out (by kernel_rfl)) (fun _ _ _ h => h) (Or.inl ⟨by rfl, ?_⟩) ?_ ?_
              rotate_left; (intro w'; go_simp; with_reducible rfl); rotate_left; (simp only [Act.put, sA, sZ, sS, i64_w]; rfl)
              refine pure_ (i := 19) (N := some 34) (v := ?_) (a' := ?_) (bR [20, 20]) rfl rfl (any_of HT_.out (by kernel_rfl)) (fun _ _ _ h => h) (Or.inl ⟨by rfl, ?_⟩) ?_ ?_
              rotate_left; (intro w'; go_simp; with_reducible rfl); rotate_left; (simp only [Act.put, sA, sZ, sS, i64_w]; rfl)
              refine pure_ (i := 20) (N := some 35) (v := ?_) (a' := ?_) (bR [21, 19]) rfl rfl (any_of HT_.out (by kernel_rfl)) (fun _ _ _ h => h) (Or.inl ⟨by rfl, ?_⟩) ?_ ?_
              rotate_left; (intro w'; go_simp; with_reducible rfl); rotate_left; (simp only [Act.put, sA, sZ, sS, i64_w]; rfl)
              refine take_ (i := 21) (N := some 36) (v := ?_) (a' := ?_) (bR [22, 18]) rfl rfl (take_ofW HT_.out HW_.out (by kernel_rfl)) (fun _ _ _ h => h) (Or.inl ⟨by rfl, ?_⟩) hHeld ?_ ?_
              rotate_left; (rintro w' ⟨s0, s1, s2, s3, s4, s5⟩; go_simp; with_reducible rfl); rotate_left; (simp only [Act.put, sA, sZ, sS, i64_w]; rfl)
              refine one_ (i := 22) (N := some 37) (bR [23, 17]) rfl rfl (one_of HT_.out (by kernel_rfl)) (by decide) (fun K hK => ?_)
              refine goes_ Try.func109 (by kernel_rfl) rfl #[.int .i64 ((rd_T95 l0 x10_1).f1), .int .i64 1, .int .i64 50] (by rfl) rfl rfl (by (try simp only [mA, mC, mN]); first | done | rfl | (simp only [lD, lT]; rfl)) ?_
              with_reducible refine (impl_InRange.calls ((rd_T95 l0 x10_1).f1) 1 50 true _ A17.out).mono ?_
              rintro e w' ⟨rfl, ⟨nd, rfl⟩⟩
              refine ⟨_, rfl, ?_⟩
              refine hK.out _ _ ⟨(blk_cell BK166.out 0).trans rfl, (blk_cell BK166.out 1).trans rfl, (blk_cell BK166.out 2).trans rfl, ((HB.out.cell (World.block_lt_of_cell? w _ hw168_0)).trans hw168_0), ((HB.out.cell (World.block_lt_of_cell? w _ hw168_1)).trans hw168_1), ((HB.out.cell (World.block_lt_of_cell? w _ hw168_2)).trans hw168_2)⟩ (fun hHeld => ?_)
              clear hK K
              refine norm_ (a' := ?_) ?_ ?_
              rotate_left
              ·show Act.put _ (some 37) _ = _
               simp only [Act.put, sA, sZ, sS, i64_w]
               rfl
              refine pure_ (i := 23) (N := some 38) (v := ?_) (a' := ?_) (bR [24, 16]) rfl rfl (any_of HT_.out (by kernel_rfl)) (fun _ _ _ h => h) (Or.inl ⟨by rfl, ?_⟩) ?_ ?_
              rotate_left; (intro w'; go_simp; with_reducible rfl); rotate_left; (simp only [Act.put, sA, sZ, sS, i64_w]; rfl)
              refine pure_ (i := 24) (N := some 39) (v := ?_) (a' := ?_) (bR [25, 15]) rfl rfl (any_of HT_.out (by kernel_rfl)) (fun _ _ _ h => h) (Or.inl ⟨by rfl, ?_⟩) ?_ ?_
              rotate_left; (intro w'; go_simp; with_reducible rfl); rotate_left; (simp only [Act.put, sA, sZ, sS, i64_w]; rfl)
              refine pure_ (i := 25) (N := some 40) (v := ?_) (a' := ?_) (bR [26, 14]) rfl rfl (any_of HT_.out (by kernel_rfl)) (fun _ _ _ h => h) (Or.inl ⟨by rfl, ?_⟩) ?_ ?_
              rotate_left; (intro w'; go_simp; with_reducible rfl); rotate_left; (simp only [Act.put, sA, sZ, sS, i64_w]; rfl)
              refine pure_ (i := 26) (N := some 41) (v := ?_) (a' := ?_) (bR [27, 13]) rfl rfl (any_of HT_.out (by kernel_rfl)) (fun _ _ _ h => h) (Or.inl ⟨by rfl, ?_⟩) ?_ ?_
              rotate_left; (intro w'; go_simp; with_reducible rfl); rotate_left; (simp only [Act.put, sA, sZ, sS, i64_w]; rfl)
              refine take_ (i := 27) (N := some 42) (v := ?_) (a' := ?_) (bR [28, 12]) rfl rfl (take_ofW HT_.out HW_.out (by kernel_rfl)) (fun _ _ _ h => h) (Or.inl ⟨by rfl, ?_⟩) hHeld ?_ ?_
              rotate_left; (rintro w' ⟨s0, s1, s2, s3, s4, s5⟩; go_simp; with_reducible rfl); rotate_left; (simp only [Act.put, sA, sZ, sS, i64_w]; rfl)
              refine one_ (i := 28) (N := some 43) (bR [29, 11]) rfl rfl (one_of HT_.out (by kernel_rfl)) (by decide) (fun K hK => ?_)
              refine goes_ Try.func109 (by kernel_rfl) rfl #[.int .i64 ((rd_T95 l0 x10_1).f2), .int .i64 0, .int .i64 999] (by rfl) rfl rfl (by (try simp only [mA, mC, mN]); first | done | rfl | (simp only [lD, lT]; rfl)) ?_
              with_reducible refine (impl_InRange.calls ((rd_T95 l0 x10_1).f2) 0 999 false _ A19.out).mono ?_
              rintro e w' ⟨rfl, ⟨nd, rfl⟩⟩
              refine ⟨_, rfl, ?_⟩
              refine hK.out _ _ ⟨(blk_cell BK166.out 0).trans rfl, (blk_cell BK166.out 1).trans rfl, (blk_cell BK166.out 2).trans rfl, ((HB.out.cell (World.block_lt_of_cell? w _ hw168_0)).trans hw168_0), ((HB.out.cell (World.block_lt_of_cell? w _ hw168_1)).trans hw168_1), ((HB.out.cell (World.block_lt_of_cell? w _ hw168_2)).trans hw168_2)⟩ (fun hHeld => ?_)
              clear hK K
              refine norm_ (a' := ?_) ?_ ?_
              rotate_left
              ·show Act.put _ (some 43) _ = _
               simp only [Act.put, sA, sZ, sS, i64_w]
               rfl
              refine pure_ (i := 29) (N := some 44) (v := ?_) (a' := ?_) (bR [30, 10]) rfl rfl (any_of HT_.out (by kernel_rfl)) (fun _ _ _ h => h) (Or.inl ⟨by rfl, ?_⟩) ?_ ?_
              rotate_left; (intro w'; go_simp; with_reducible rfl); rotate_left; (simp only [Act.put, sA, sZ, sS, i64_w]; rfl)
              refine pure_ (i := 30) (N := some 45) (v := ?_) (a' := ?_) (bR [31, 9]) rfl rfl (any_of HT_.out (by kernel_rfl)) (fun _ _ _ h => h) (Or.inl ⟨by rfl, ?_⟩) ?_ ?_
              rotate_left; (intro w'; go_simp; with_reducible rfl); rotate_left; (simp only [Act.put, sA, sZ, sS, i64_w]; rfl)
              refine pure_ (i := 31) (N := some 46) (v := ?_) (a' := ?_) (bR [32, 8]) rfl rfl (any_of HT_.out (by kernel_rfl)) (fun _ _ _ h => h) (Or.inl ⟨by rfl, ?_⟩) ?_ ?_
              rotate_left; (intro w'; go_simp; with_reducible rfl); rotate_left; (simp only [Act.put, sA, sZ, sS, i64_w]; rfl)
              refine pure_ (i := 32) (N := some 47) (v := undef) (a' := ?_) (bR [33, 7]) rfl rfl (any_of HT_.out (by kernel_rfl)) (fun _ _ _ h => h) (Or.inr ⟨by rfl, rfl⟩) ?_ ?_
              rotate_left; (simp only [Act.put, sA, sZ, sS, i64_w]; rfl)
              refine pure_ (i := 33) (N := some 48) (v := undef) (a' := ?_) (bR [34, 6]) rfl rfl (any_of HT_.out (by kernel_rfl)) (fun _ _ _ h => h) (Or.inr ⟨by rfl, rfl⟩) ?_ ?_
              rotate_left; (simp only [Act.put, sA, sZ, sS, i64_w]; rfl)
              refine pure_ (i := 34) (N := some 49) (v := undef) (a' := ?_) (bR [35, 5]) rfl rfl (any_of HT_.out (by kernel_rfl)) (fun _ _ _ h => h) (Or.inr ⟨by rfl, rfl⟩) ?_ ?_
              rotate_left; (simp only [Act.put, sA, sZ, sS, i64_w]; rfl)
              refine pure_ (i := 35) (N := some 50) (v := undef) (a' := ?_) (bR [36, 4]) rfl rfl (any_of HT_.out (by kernel_rfl)) (fun _ _ _ h => h) (Or.inr ⟨by rfl, rfl⟩) ?_ ?_
              rotate_left; (simp only [Act.put, sA, sZ, sS, i64_w]; rfl)
              refine pure_ (i := 36) (N := some 51) (v := undef) (a' := ?_) (bR [37, 3]) rfl rfl (any_of HT_.out (by kernel_rfl)) (fun _ _ _ h => h) (Or.inr ⟨by rfl, rfl⟩) ?_ ?_
              rotate_left; (simp only [Act.put, sA, sZ, sS, i64_w]; rfl)
              refine pure_ (i := 37) (N := some 52) (v := undef) (a' := ?_) (bR [38, 2]) rfl rfl (any_of HT_.out (by kernel_rfl)) (fun _ _ _ h => h) (Or.inr ⟨by rfl, rfl⟩) ?_ ?_
              rotate_left; (simp only [Act.put, sA, sZ, sS, i64_w]; rfl)
              refine pure_ (i := 38) (N := some 53) (v := undef) (a' := ?_) (bR [39, 1]) rfl rfl (any_of HT_.out (by kernel_rfl)) (fun _ _ _ h => h) (Or.inr ⟨by rfl, rfl⟩) ?_ ?_
              rotate_left; (simp only [Act.put, sA, sZ, sS, i64_w]; rfl)
              refine pure_ (i := 39) (N := some 54) (v := ?_) (a' := ?_) (bR [40]) rfl rfl (any_of HT_.out (by kernel_rfl)) (fun _ _ _ h => h) (Or.inl ⟨by rfl, ?_⟩) ?_ ?_
              rotate_left; (intro w'; go_simp; with_reducible rfl); rotate_left; (simp only [Act.put, sA, sZ, sS, i64_w]; rfl)
              refine done_ (done_of HT_.out (by kernel_rfl)) ?_
              try go_wp2
              go_ret
              exact ⟨by first | rfl | (simp [errW_none, errW_some] <;> rfl) | (simp only [← hji9]; first | rfl | (simp [errW_none, errW_some] <;> rfl)) | (simp [*, errW_none, errW_some] <;> rfl), by repeat (first | (with_reducible first | exact HB.out | apply below_alloc | apply pw_below_drewN | apply below_drew1 | refine below_set ?_ GE166.out) | exact HB.out)⟩
            ·replace c18 := Bool.eq_false_iff.mpr c18
             subst c18
             have H1 : (some false) = some r := by rw [if_neg (show ¬ (false = true) by decide)] at H; exact H
             clear H
             have H := H1
             clear H1
             obtain rfl := Option.some.inj H
             have p165 : 0 ≤ (x10_1 : Int) := of_decide_eq_true ‹_›
             have q165 : x10_1 < (l0.length : Int) := of_decide_eq_true ‹_›
             obtain ⟨ad165, e165, hx165_0, hx165_1, hx165_2⟩ := at_T95 HR0.out x10_1 p165 q165
             cases e165
             replace hx165_0 := (HB.out.cell (World.block_lt_of_cell? w _ hx165_0)).trans hx165_0
             replace hx165_1 := (HB.out.cell (World.block_lt_of_cell? w _ hx165_1)).trans hx165_1
             replace hx165_2 := (HB.out.cell (World.block_lt_of_cell? w _ hx165_2)).trans hx165_2
             replace p165 := eq_true p165
             replace q165 := eq_true q165
             try go_wp2_with (first | ((with_reducible refine gate_dst (N := 4) rfl ?_); refine box_event ?hg (N := 4) ?hd (cs := #[.int .i64 0, .int .i64 0, .int .i64 0]) (t := 95) ?hr ?_; (case hd => rfl); (case hg => rfl); (case hr => first | (go_simp; done) | (go_simp; rfl)); intro gb166 hg w41 hbox hb; have n0_ := Aside0.mk (below_step (qB HB) hb); have n1_ := Aside0.mk (hbox); have n2_ := Aside0.mk ((by rw [hg]; exact (below_size (qB HB)) : w.heap.size ≤ gb166)); have n3_ := Aside0.mk ((by rw [hg]; exact (below_size (qB HB)) : w.heap.size ≤ gb166)); clear HB; have HB := n0_; have BK166 := n1_; have GW166 := n2_; have GE166 := n3_; clear n0_ n1_ n2_ n3_; clear hb hbox hg; have hcz42_0 : w41.cell? ⟨gb166, 0, none⟩ = some (.int .i64 0) := (blk_cell BK166.out 0).trans rfl; have hcz42_1 : w41.cell? ⟨gb166, 1, none⟩ = some (.int .i64 0) := (blk_cell BK166.out 1).trans rfl; have hcz42_2 : w41.cell? ⟨gb166, 2, none⟩ = some (.int .i64 0) := (blk_cell BK166.out 2).trans rfl; have hfz42_0 := blk_frozen BK166.out 0; have hfz42_1 := blk_frozen BK166.out 1; have hfz42_2 := blk_frozen BK166.out 2))
             have n0_ : Aside0 ((((w41.setCell ⟨gb166, 0, none⟩ (.int .i64 ((rd_T95 l0 x10_1).f0))).setCell ⟨gb166, 1, none⟩ (.int .i64 ((rd_T95 l0 x10_1).f1))).setCell ⟨gb166, 2, none⟩ (.int .i64 ((rd_T95 l0 x10_1).f2))).heap[gb166]? = some (.cells #[.int .i64 ((rd_T95 l0 x10_1).f0), .int .i64 ((rd_T95 l0 x10_1).f1), .int .i64 ((rd_T95 l0 x10_1).f2)] 95 (0, 0))) := ⟨by (with_reducible repeat (first | refine blk_drewN ?_ _ | refine blk_drew ?_ | refine blk_alloc ?_ _)); refine blk_put (cs := #[.int .i64 ((rd_T95 l0 x10_1).f0), .int .i64 ((rd_T95 l0 x10_1).f1), .int .i64 0]) ?_ 2 _ rfl; (with_reducible repeat (first | refine blk_drewN ?_ _ | refine blk_drew ?_ | refine blk_alloc ?_ _)); refine blk_put (cs := #[.int .i64 ((rd_T95 l0 x10_1).f0), .int .i64 0, .int .i64 0]) ?_ 1 _ rfl; (with_reducible repeat (first | refine blk_drewN ?_ _ | refine blk_drew ?_ | refine blk_alloc ?_ _)); refine blk_put (cs := #[.int .i64 0, .int .i64 0, .int .i64 0]) ?_ 0 _ rfl; (with_reducible repeat (first | refine blk_drewN ?_ _ | refine blk_drew ?_ | refine blk_alloc ?_ _)); exact BK166.out⟩
             have n1_ : Aside0 (Below w.heap.size w (((w41.setCell ⟨gb166, 0, none⟩ (.int .i64 ((rd_T95 l0 x10_1).f0))).setCell ⟨gb166, 1, none⟩ (.int .i64 ((rd_T95 l0 x10_1).f1))).setCell ⟨gb166, 2, none⟩ (.int .i64 ((rd_T95 l0 x10_1).f2)))) := ⟨by repeat (first | (with_reducible first | exact HB.out | apply below_alloc | apply pw_below_drewN | apply below_drew1 | refine below_set ?_ GE166.out) | exact HB.out)⟩
             (try clear BK166)
             (try clear HB)
             generalize (((w41.setCell ⟨gb166, 0, none⟩ (.int .i64 ((rd_T95 l0 x10_1).f0))).setCell ⟨gb166, 1, none⟩ (.int .i64 ((rd_T95 l0 x10_1).f1))).setCell ⟨gb166, 2, none⟩ (.int .i64 ((rd_T95 l0 x10_1).f2))) = w43 at n0_ n1_ ⊢
             have BK166 := n0_
             have HB := n1_
             clear n0_ n1_
             have n0_ := Aside0.mk (blk_drew BK166.out)
             have n1_ := Aside0.mk (below_drew1 HB.out)
             clear BK166
             clear HB
             have BK166 := n0_
             have HB := n1_
             clear n0_ n1_
             have p168 : 0 ≤ ((ji9) : Int) := of_decide_eq_true ‹_›
             have q168 : (ji9) < (l0.length : Int) := of_decide_eq_true ‹_›
             obtain ⟨ad168, e168, hx168_0, hx168_1, hx168_2⟩ := at_T95 HR0.out (ji9) p168 q168
             have hw168_2 := hx168_2
             have hw168_1 := hx168_1
             have hw168_0 := hx168_0
             obtain rfl : ad165 = ad168 := (by injection e168)
             replace hx168_0 := (HB.out.cell (World.block_lt_of_cell? w _ hx168_0)).trans hx168_0
             replace hx168_1 := (HB.out.cell (World.block_lt_of_cell? w _ hx168_1)).trans hx168_1
             replace hx168_2 := (HB.out.cell (World.block_lt_of_cell? w _ hx168_2)).trans hx168_2
             replace p168 := eq_true p168
             replace q168 := eq_true q168
             refine start_ (n := 40) (S := fun w' => w'.cell? ⟨gb166, 0, none⟩ = some (.int .i64 ((rd_T95 l0 x10_1).f0)) ∧ w'.cell? ⟨gb166, 1, none⟩ = some (.int .i64 ((rd_T95 l0 x10_1).f1)) ∧ w'.cell? ⟨gb166, 2, none⟩ = some (.int .i64 ((rd_T95 l0 x10_1).f2)) ∧ w'.cell? (ad165.add (((ji9)).toNat * 3)) = some (.int .i64 ((rd_T95 l0 (ji9)).f0)) ∧ w'.cell? ⟨(ad165.add (((ji9)).toNat * 3)).block, (ad165.add (((ji9)).toNat * 3)).off + 1, none⟩ = some (.int .i64 ((rd_T95 l0 (ji9)).f1)) ∧ w'.cell? ⟨(ad165.add (((ji9)).toNat * 3)).block, (ad165.add (((ji9)).toNat * 3)).off + 2, none⟩ = some (.int .i64 ((rd_T95 l0 (ji9)).f2))) (ds := []) (bR [0, 40]) (by kernel_rfl) rfl rfl ⟨(blk_cell BK166.out 0).trans rfl, (blk_cell BK166.out 1).trans rfl, (blk_cell BK166.out 2).trans rfl, ((HB.out.cell (World.block_lt_of_cell? w _ hw168_0)).trans hw168_0), ((HB.out.cell (World.block_lt_of_cell? w _ hw168_1)).trans hw168_1), ((HB.out.cell (World.block_lt_of_cell? w _ hw168_2)).trans hw168_2)⟩ (fun hHeld => ?_); refine with_tabW impl_AreSlots.tab6 impl_AreSlots.bits6 (fun HT_ HW_ => ?_)
             generalize w43.drew = w44 at BK166 HB hx168_0 hx168_1 hx168_2 hHeld ⊢
             refine pure_ (i := 0) (N := some 15) (v := ?_) (a' := ?_) (bR [1, 39]) rfl rfl (any_of HT_.out (by kernel_rfl)) (fun _ _ _ h => h) (Or.inl ⟨by rfl, ?_⟩) ?_ ?_
             rotate_left; (intro w'; go_simp; with_reducible rfl); rotate_left; (simp only [Act.put, sA, sZ, sS, i64_w]; rfl)
             refine take_ (i := 1) (N := some 16) (v := ?_) (a' := ?_) (bR [2, 38]) rfl rfl (take_ofW HT_.out HW_.out (by kernel_rfl)) (fun _ _ _ h => h) (Or.inl ⟨by rfl, ?_⟩) hHeld ?_ ?_
             rotate_left; (rintro w' ⟨s0, s1, s2, s3, s4, s5⟩; go_simp; with_reducible rfl); rotate_left; (simp only [Act.put, sA, sZ, sS, i64_w]; rfl)
             refine one_ (i := 2) (N := some 17) (bR [3, 37]) rfl rfl (one_of HT_.out (by kernel_rfl)) (by decide) (fun K hK => ?_)
             refine goes_ Try.func109 (by kernel_rfl) rfl #[.int .i64 ((rd_T95 l0 x10_1).f0), .int .i64 1, .int .i64 99] (by rfl) rfl rfl (by (try simp only [mA, mC, mN]); first | done | rfl | (simp only [lD, lT]; rfl)) ?_
             with_reducible refine (impl_InRange.calls ((rd_T95 l0 x10_1).f0) 1 99 true _ A6.out).mono ?_
             rintro e w' ⟨rfl, ⟨nd, rfl⟩⟩
             refine ⟨_, rfl, ?_⟩
             refine hK.out _ _ ⟨(blk_cell BK166.out 0).trans rfl, (blk_cell BK166.out 1).trans rfl, (blk_cell BK166.out 2).trans rfl, ((HB.out.cell (World.block_lt_of_cell? w _ hw168_0)).trans hw168_0), ((HB.out.cell (World.block_lt_of_cell? w _ hw168_1)).trans hw168_1), ((HB.out.cell (World.block_lt_of_cell? w _ hw168_2)).trans hw168_2)⟩ (fun hHeld => ?_)
             clear hK K
             refine norm_ (a' := ?_) ?_ ?_
             rotate_left
             ·show Act.put _ (some 17) _ = _
              simp only [Act.put, sA, sZ, sS, i64_w]
              rfl
             refine pure_ (i := 3) (N := some 18) (v := ?_) (a' := ?_) (bR [4, 36]) rfl rfl (any_of HT_.out (by kernel_rfl)) (fun _ _ _ h => h) (Or.inl ⟨by rfl, ?_⟩) ?_ ?_
             rotate_left; (intro w'; go_simp; with_reducible rfl); rotate_left; (simp only [Act.put, sA, sZ, sS, i64_w]; rfl)
             refine pure_ (i := 4) (N := some 19) (v := ?_) (a' := ?_) (bR [5, 35]) rfl rfl (any_of HT_.out (by kernel_rfl)) (fun _ _ _ h => h) (Or.inl ⟨by rfl, ?_⟩) ?_ ?_
             rotate_left; (intro w'; go_simp; with_reducible rfl); rotate_left; (simp only [Act.put, sA, sZ, sS, i64_w]; rfl)
             refine pure_ (i := 5) (N := some 20) (v := ?_) (a' := ?_) (bR [6, 34]) rfl rfl (any_of HT_.out (by kernel_rfl)) (fun _ _ _ h => h) (Or.inl ⟨by rfl, ?_⟩) ?_ ?_
             rotate_left; (intro w'; go_simp; with_reducible rfl); rotate_left; (simp only [Act.put, sA, sZ, sS, i64_w]; rfl)
             refine pure_ (i := 6) (N := some 21) (v := ?_) (a' := ?_) (bR [7, 33]) rfl rfl (any_of HT_.out (by kernel_rfl)) (fun _ _ _ h => h) (Or.inl ⟨by rfl, ?_⟩) ?_ ?_
             rotate_left; (intro w'; go_simp; with_reducible rfl); rotate_left; (simp only [Act.put, sA, sZ, sS, i64_w]; rfl)
             refine pure_ (i := 7) (N := some 22) (v := ?_) (a' := ?_) (bR [8, 32]) rfl rfl (any_of HT_.out (by kernel_rfl)) (fun _ _ _ h => h) (Or.inl ⟨by rfl, ?_⟩) ?_ ?_
             rotate_left; (intro w'; go_simp; with_reducible rfl); rotate_left; (simp only [Act.put, sA, sZ, sS, i64_w]; rfl)
             refine pure_ (i := 8) (N := some 23) (v := ?_) (a' := ?_) (bR [9, 31]) rfl rfl (any_of HT_.out (by kernel_rfl)) (fun _ _ _ h => h) (Or.inl ⟨by rfl, ?_⟩) ?_ ?_
             rotate_left; (intro w'; go_simp; with_reducible rfl); rotate_left; (simp only [Act.put, sA, sZ, sS, i64_w]; rfl)
             refine pure_ (i := 10) (N := some 25) (v := ?_) (a' := ?_) (bR [9, 1, 1, 29]) rfl rfl (any_of HT_.out (by kernel_rfl)) (fun _ _ _ h => h) (Or.inl ⟨by rfl, ?_⟩) ?_ ?_
             rotate_left; (intro w'; go_simp; with_reducible rfl); rotate_left; (simp only [Act.put, sA, sZ, sS, i64_w]; rfl)
             refine pure_ (i := 11) (N := some 26) (v := ?_) (a' := ?_) (bR [9, 1, 2, 28]) rfl rfl (any_of HT_.out (by kernel_rfl)) (fun _ _ _ h => h) (Or.inl ⟨by rfl, ?_⟩) ?_ ?_
             rotate_left; (intro w'; go_simp; with_reducible rfl); rotate_left; (simp only [Act.put, sA, sZ, sS, i64_w]; rfl)
             refine pure_ (i := 12) (N := some 27) (v := ?_) (a' := ?_) (bR [9, 1, 3, 27]) rfl rfl (any_of HT_.out (by kernel_rfl)) (fun _ _ _ h => h) (Or.inl ⟨by rfl, ?_⟩) ?_ ?_
             rotate_left; (intro w'; go_simp; with_reducible rfl); rotate_left; (simp only [Act.put, sA, sZ, sS, i64_w]; rfl)
             refine pure_ (i := 13) (N := some 28) (v := ?_) (a' := ?_) (bR [9, 1, 4, 26]) rfl rfl (any_of HT_.out (by kernel_rfl)) (fun _ _ _ h => h) (Or.inl ⟨by rfl, ?_⟩) ?_ ?_
             rotate_left; (intro w'; go_simp; with_reducible rfl); rotate_left; (simp only [Act.put, sA, sZ, sS, i64_w]; rfl)
             refine pure_ (i := 14) (N := some 29) (v := ?_) (a' := ?_) (bR [9, 1, 5, 25]) rfl rfl (any_of HT_.out (by kernel_rfl)) (fun _ _ _ h => h) (Or.inl ⟨by rfl, ?_⟩) ?_ ?_
             rotate_left; (intro w'; go_simp; with_reducible rfl); rotate_left; (simp only [Act.put, sA, sZ, sS, i64_w]; rfl)
             refine take_ (i := 9) (N := some 24) (v := ?_) (a' := ?_) (bR [15, 25]) rfl rfl (take_ofW HT_.out HW_.out (by kernel_rfl)) (fun _ _ _ h => h) (Or.inl ⟨by rfl, ?_⟩) hHeld ?_ ?_
             rotate_left; (rintro w' ⟨s0, s1, s2, s3, s4, s5⟩; go_simp; with_reducible rfl); rotate_left; (simp only [Act.put, sA, sZ, sS, i64_w]; rfl)
             refine take_ (i := 15) (N := some 30) (v := ?_) (a' := ?_) (bR [16, 24]) rfl rfl (take_ofW HT_.out HW_.out (by kernel_rfl)) (fun _ _ _ h => h) (Or.inl ⟨by rfl, ?_⟩) hHeld ?_ ?_
             rotate_left; (rintro w' ⟨s0, s1, s2, s3, s4, s5⟩; go_simp; with_reducible rfl); rotate_left; (simp only [Act.put, sA, sZ, sS, i64_w]; rfl)
             refine pure_ (i := 16) (N := some 31) (v := ?_) (a' := ?_) (bR [17, 23]) rfl rfl (any_of HT_.out (by kernel_rfl)) (fun _ _ _ h => h) (Or.inl ⟨by rfl, ?_⟩) ?_ ?_
             rotate_left; (intro w'; go_simp; with_reducible rfl); rotate_left; (simp only [Act.put, sA, sZ, sS, i64_w]; rfl)
             refine pure_ (i := 17) (N := some 32) (v := ?_) (a' := ?_) (bR [18, 22]) rfl rfl (any_of HT_.out (by kernel_rfl)) (fun _ _ _ h => h) (Or.inl ⟨by rfl, ?_⟩) ?_ ?_
             rotate_left; (intro w'; go_simp; with_reducible rfl); rotate_left; (simp only [Act.put, sA, sZ, sS, i64_w]; rfl)
             refine pure_ (i := 18) (N := some 33) (v := ?_) (a' := ?_) (bR [19, 21]) rfl rfl (any_of HT_.out (by kernel_rfl)) (fun _ _ _ h => h) (Or.inl ⟨by rfl, ?_⟩) ?_ ?_
             rotate_left; (intro w'; go_simp; with_reducible rfl); rotate_left; (simp only [Act.put, sA, sZ, sS, i64_w]; rfl)
             refine pure_ (i := 19) (N := some 34) (v := ?_) (a' := ?_) (bR [20, 20]) rfl rfl (any_of HT_.out (by kernel_rfl)) (fun _ _ _ h => h) (Or.inl ⟨by rfl, ?_⟩) ?_ ?_
             rotate_left; (intro w'; go_simp; with_reducible rfl); rotate_left; (simp only [Act.put, sA, sZ, sS, i64_w]; rfl)
             refine pure_ (i := 20) (N := some 35) (v := ?_) (a' := ?_) (bR [21, 19]) rfl rfl (any_of HT_.out (by kernel_rfl)) (fun _ _ _ h => h) (Or.inl ⟨by rfl, ?_⟩) ?_ ?_
             rotate_left; (intro w'; go_simp; with_reducible rfl); rotate_left; (simp only [Act.put, sA, sZ, sS, i64_w]; rfl)
             refine take_ (i := 21) (N := some 36) (v := ?_) (a' := ?_) (bR [22, 18]) rfl rfl (take_ofW HT_.out HW_.out (by kernel_rfl)) (fun _ _ _ h => h) (Or.inl ⟨by rfl, ?_⟩) hHeld ?_ ?_
             rotate_left; (rintro w' ⟨s0, s1, s2, s3, s4, s5⟩; go_simp; with_reducible rfl); rotate_left; (simp only [Act.put, sA, sZ, sS, i64_w]; rfl)
             refine one_ (i := 22) (N := some 37) (bR [23, 17]) rfl rfl (one_of HT_.out (by kernel_rfl)) (by decide) (fun K hK => ?_)
             refine goes_ Try.func109 (by kernel_rfl) rfl #[.int .i64 ((rd_T95 l0 x10_1).f1), .int .i64 1, .int .i64 50] (by rfl) rfl rfl (by (try simp only [mA, mC, mN]); first | done | rfl | (simp only [lD, lT]; rfl)) ?_
             with_reducible refine (impl_InRange.calls ((rd_T95 l0 x10_1).f1) 1 50 false _ A17.out).mono ?_
             rintro e w' ⟨rfl, ⟨nd, rfl⟩⟩
             refine ⟨_, rfl, ?_⟩
             refine hK.out _ _ ⟨(blk_cell BK166.out 0).trans rfl, (blk_cell BK166.out 1).trans rfl, (blk_cell BK166.out 2).trans rfl, ((HB.out.cell (World.block_lt_of_cell? w _ hw168_0)).trans hw168_0), ((HB.out.cell (World.block_lt_of_cell? w _ hw168_1)).trans hw168_1), ((HB.out.cell (World.block_lt_of_cell? w _ hw168_2)).trans hw168_2)⟩ (fun hHeld => ?_)
             clear hK K
             refine norm_ (a' := ?_) ?_ ?_
             rotate_left
             ·show Act.put _ (some 37) _ = _
              simp only [Act.put, sA, sZ, sS, i64_w]
              rfl
             refine pure_ (i := 23) (N := some 38) (v := ?_) (a' := ?_) (bR [24, 16]) rfl rfl (any_of HT_.out (by kernel_rfl)) (fun _ _ _ h => h) (Or.inl ⟨by rfl, ?_⟩) ?_ ?_
             rotate_left; (intro w'; go_simp; with_reducible rfl); rotate_left; (simp only [Act.put, sA, sZ, sS, i64_w]; rfl)
             refine pure_ (i := 24) (N := some 39) (v := ?_) (a' := ?_) (bR [25, 15]) rfl rfl (any_of HT_.out (by kernel_rfl)) (fun _ _ _ h => h) (Or.inl ⟨by rfl, ?_⟩) ?_ ?_
             rotate_left; (intro w'; go_simp; with_reducible rfl); rotate_left; (simp only [Act.put, sA, sZ, sS, i64_w]; rfl)
             refine pure_ (i := 25) (N := some 40) (v := ?_) (a' := ?_) (bR [26, 14]) rfl rfl (any_of HT_.out (by kernel_rfl)) (fun _ _ _ h => h) (Or.inl ⟨by rfl, ?_⟩) ?_ ?_
             rotate_left; (intro w'; go_simp; with_reducible rfl); rotate_left; (simp only [Act.put, sA, sZ, sS, i64_w]; rfl)
             refine pure_ (i := 26) (N := some 41) (v := undef) (a' := ?_) (bR [27, 13]) rfl rfl (any_of HT_.out (by kernel_rfl)) (fun _ _ _ h => h) (Or.inr ⟨by rfl, rfl⟩) ?_ ?_
             rotate_left; (simp only [Act.put, sA, sZ, sS, i64_w]; rfl)
             refine pure_ (i := 27) (N := some 42) (v := undef) (a' := ?_) (bR [28, 12]) rfl rfl (any_of HT_.out (by kernel_rfl)) (fun _ _ _ h => h) (Or.inr ⟨by rfl, rfl⟩) ?_ ?_
             rotate_left; (simp only [Act.put, sA, sZ, sS, i64_w]; rfl)
             refine pure_ (i := 28) (N := some 43) (v := undef) (a' := ?_) (bR [29, 11]) rfl rfl (any_of HT_.out (by kernel_rfl)) (fun _ _ _ h => h) (Or.inr ⟨by rfl, rfl⟩) ?_ ?_
             rotate_left; (simp only [Act.put, sA, sZ, sS, i64_w]; rfl)
             refine pure_ (i := 29) (N := some 44) (v := undef) (a' := ?_) (bR [30, 10]) rfl rfl (any_of HT_.out (by kernel_rfl)) (fun _ _ _ h => h) (Or.inr ⟨by rfl, rfl⟩) ?_ ?_
             rotate_left; (simp only [Act.put, sA, sZ, sS, i64_w]; rfl)
             refine pure_ (i := 30) (N := some 45) (v := ?_) (a' := ?_) (bR [31, 9]) rfl rfl (any_of HT_.out (by kernel_rfl)) (fun _ _ _ h => h) (Or.inl ⟨by rfl, ?_⟩) ?_ ?_
             rotate_left; (intro w'; go_simp; with_reducible rfl); rotate_left; (simp only [Act.put, sA, sZ, sS, i64_w]; rfl)
             refine pure_ (i := 31) (N := some 46) (v := ?_) (a' := ?_) (bR [32, 8]) rfl rfl (any_of HT_.out (by kernel_rfl)) (fun _ _ _ h => h) (Or.inl ⟨by rfl, ?_⟩) ?_ ?_
             rotate_left; (intro w'; go_simp; with_reducible rfl); rotate_left; (simp only [Act.put, sA, sZ, sS, i64_w]; rfl)
             refine pure_ (i := 32) (N := some 47) (v := undef) (a' := ?_) (bR [33, 7]) rfl rfl (any_of HT_.out (by kernel_rfl)) (fun _ _ _ h => h) (Or.inr ⟨by rfl, rfl⟩) ?_ ?_
             rotate_left; (simp only [Act.put, sA, sZ, sS, i64_w]; rfl)
             refine pure_ (i := 33) (N := some 48) (v := undef) (a' := ?_) (bR [34, 6]) rfl rfl (any_of HT_.out (by kernel_rfl)) (fun _ _ _ h => h) (Or.inr ⟨by rfl, rfl⟩) ?_ ?_
             rotate_left; (simp only [Act.put, sA, sZ, sS, i64_w]; rfl)
             refine pure_ (i := 34) (N := some 49) (v := undef) (a' := ?_) (bR [35, 5]) rfl rfl (any_of HT_.out (by kernel_rfl)) (fun _ _ _ h => h) (Or.inr ⟨by rfl, rfl⟩) ?_ ?_
             rotate_left; (simp only [Act.put, sA, sZ, sS, i64_w]; rfl)
             refine pure_ (i := 35) (N := some 50) (v := undef) (a' := ?_) (bR [36, 4]) rfl rfl (any_of HT_.out (by kernel_rfl)) (fun _ _ _ h => h) (Or.inr ⟨by rfl, rfl⟩) ?_ ?_
             rotate_left; (simp only [Act.put, sA, sZ, sS, i64_w]; rfl)
             refine pure_ (i := 36) (N := some 51) (v := undef) (a' := ?_) (bR [37, 3]) rfl rfl (any_of HT_.out (by kernel_rfl)) (fun _ _ _ h => h) (Or.inr ⟨by rfl, rfl⟩) ?_ ?_
             rotate_left; (simp only [Act.put, sA, sZ, sS, i64_w]; rfl)
             refine pure_ (i := 37) (N := some 52) (v := undef) (a' := ?_) (bR [38, 2]) rfl rfl (any_of HT_.out (by kernel_rfl)) (fun _ _ _ h => h) (Or.inr ⟨by rfl, rfl⟩) ?_ ?_
             rotate_left; (simp only [Act.put, sA, sZ, sS, i64_w]; rfl)
             refine pure_ (i := 38) (N := some 53) (v := undef) (a' := ?_) (bR [39, 1]) rfl rfl (any_of HT_.out (by kernel_rfl)) (fun _ _ _ h => h) (Or.inr ⟨by rfl, rfl⟩) ?_ ?_
             rotate_left; (simp only [Act.put, sA, sZ, sS, i64_w]; rfl)
             refine pure_ (i := 39) (N := some 54) (v := ?_) (a' := ?_) (bR [40]) rfl rfl (any_of HT_.out (by kernel_rfl)) (fun _ _ _ h => h) (Or.inl ⟨by rfl, ?_⟩) ?_ ?_
             rotate_left; (intro w'; go_simp; with_reducible rfl); rotate_left; (simp only [Act.put, sA, sZ, sS, i64_w]; rfl)
             refine done_ (done_of HT_.out (by kernel_rfl)) ?_
             try go_wp2
             go_ret
             exact ⟨by first | rfl | (simp [errW_none, errW_some] <;> rfl) | (simp only [← hji9]; first | rfl | (simp [errW_none, errW_some] <;> rfl)) | (simp [*, errW_none, errW_some] <;> rfl), by repeat (first | (with_reducible first | exact HB.out | apply below_alloc | apply pw_below_drewN | apply below_drew1 | refine below_set ?_ GE166.out) | exact HB.out)⟩
          ·rw [if_neg c11] at H
           exact absurd H (by simp)
         ·rw [if_neg c10] at H
          exact absurd H (by simp)
        ·rw [if_neg c8] at H
         have c8b0 : decide (0 < x10_1) = false := decide_eq_false c8
         clear c8
         replace H := Option.bind_eq_some_iff.mp H
         obtain ⟨t176, A450, H⟩ := H
         replace H : (if t176 = true then ((impl_InRange.f ((rd_T95 l0 x10_1).f2) 0 999).bind fun t177 => (if t177 = true then (if x10_1 ≤ (l0.length : Int) then ((impl_SlotOf.f (l0.take (x10_1 : Int).toNat) ((rd_T95 l0 x10_1).f2)).bind fun t182 => (if t182 = 0 then (impl_AreSlots.l0 k1 l0 l0 (l0.length : Int) (wrap64 (x10_1 + 1))) else (some false))) else (none)) else (some false))) else (some false)) = some r := H
         have A45 := Aside0.mk A450
         clear A450
         by_cases c46 : t176 = true
         ·subst c46
          have H1 : ((impl_InRange.f ((rd_T95 l0 x10_1).f2) 0 999).bind fun t177 => (if t177 = true then (if x10_1 ≤ (l0.length : Int) then ((impl_SlotOf.f (l0.take (x10_1 : Int).toNat) ((rd_T95 l0 x10_1).f2)).bind fun t182 => (if t182 = 0 then (impl_AreSlots.l0 k1 l0 l0 (l0.length : Int) (wrap64 (x10_1 + 1))) else (some false))) else (none)) else (some false))) = some r := by rw [if_pos rfl] at H; exact H
          clear H
          have H := H1
          clear H1
          replace H := Option.bind_eq_some_iff.mp H
          obtain ⟨t177, A470, H⟩ := H
          replace H : (if t177 = true then (if x10_1 ≤ (l0.length : Int) then ((impl_SlotOf.f (l0.take (x10_1 : Int).toNat) ((rd_T95 l0 x10_1).f2)).bind fun t182 => (if t182 = 0 then (impl_AreSlots.l0 k1 l0 l0 (l0.length : Int) (wrap64 (x10_1 + 1))) else (some false))) else (none)) else (some false)) = some r := H
          have A47 := Aside0.mk A470
          clear A470
          by_cases c48 : t177 = true
          ·subst c48
           have H1 : (if x10_1 ≤ (l0.length : Int) then ((impl_SlotOf.f (l0.take (x10_1 : Int).toNat) ((rd_T95 l0 x10_1).f2)).bind fun t182 => (if t182 = 0 then (impl_AreSlots.l0 k1 l0 l0 (l0.length : Int) (wrap64 (x10_1 + 1))) else (some false))) else (none)) = some r := by rw [if_pos rfl] at H; exact H
           clear H
           have H := H1
           clear H1
           have c49b0 := eq_true (of_decide_eq_true ‹_› : 0 ≤ x10_1)
           by_cases c50 : x10_1 ≤ (l0.length : Int)
           ·rw [if_pos c50] at H
            have c50b0 := eq_true c50
            have c50b1 : decide (x10_1 ≤ (l0.length : Int)) = true := decide_eq_true c50
            clear c50
            obtain ⟨y178, hy178⟩ : ∃ y_ : List (S95), y_ = (l0.take (x10_1 : Int).toNat) := ⟨_, rfl⟩
            replace H : ((impl_SlotOf.f y178 ((rd_T95 l0 x10_1).f2)).bind fun t182 => (if t182 = 0 then (impl_AreSlots.l0 k1 l0 l0 (l0.length : Int) (wrap64 (x10_1 + 1))) else (some false))) = some r := by first | (rw [hy178]; with_reducible exact H) | (have H2_ := (Option.bind_some _ _).symm.trans H; rw [hy178]; with_reducible exact H2_) | (have H2_ := (Option.bind_some _ _).symm.trans H; with_reducible exact H2_) | with_reducible exact H | (rw [hy178]; exact H) | exact H
            have Ny178 := Aside0.mk hy178
            clear hy178
            replace H := Option.bind_eq_some_iff.mp H
            obtain ⟨t182, A510, H⟩ := H
            replace H : (if t182 = 0 then (impl_AreSlots.l0 k1 l0 l0 (l0.length : Int) (wrap64 (x10_1 + 1))) else (some false)) = some r := H
            have A51 := Aside0.mk A510
            clear A510
            by_cases c52 : t182 = 0
            ·rw [if_pos c52] at H
             have c52b0 : (t182 == 0) = true := beq_iff_eq.mpr c52
             have c52b1 : (t182 != 0) = false := bne_eq_false_iff_eq.mpr c52
             clear c52
             have H' := Aside0.mk H
             clear H
             have p165 : 0 ≤ (x10_1 : Int) := of_decide_eq_true ‹_›
             have q165 : x10_1 < (l0.length : Int) := of_decide_eq_true ‹_›
             obtain ⟨ad165, e165, hx165_0, hx165_1, hx165_2⟩ := at_T95 HR0.out x10_1 p165 q165
             cases e165
             replace hx165_0 := (HB.out.cell (World.block_lt_of_cell? w _ hx165_0)).trans hx165_0
             replace hx165_1 := (HB.out.cell (World.block_lt_of_cell? w _ hx165_1)).trans hx165_1
             replace hx165_2 := (HB.out.cell (World.block_lt_of_cell? w _ hx165_2)).trans hx165_2
             replace p165 := eq_true p165
             replace q165 := eq_true q165
             try go_wp2_with (first | ((with_reducible refine gate_dst (N := 4) rfl ?_); refine box_event ?hg (N := 4) ?hd (cs := #[.int .i64 0, .int .i64 0, .int .i64 0]) (t := 95) ?hr ?_; (case hd => rfl); (case hg => rfl); (case hr => first | (go_simp; done) | (go_simp; rfl)); intro gb166 hg w53 hbox hb; have n0_ := Aside0.mk (below_step (qB HB) hb); have n1_ := Aside0.mk (hbox); have n2_ := Aside0.mk ((by rw [hg]; exact (below_size (qB HB)) : w.heap.size ≤ gb166)); have n3_ := Aside0.mk ((by rw [hg]; exact (below_size (qB HB)) : w.heap.size ≤ gb166)); clear HB; have HB := n0_; have BK166 := n1_; have GW166 := n2_; have GE166 := n3_; clear n0_ n1_ n2_ n3_; clear hb hbox hg; have hcz54_0 : w53.cell? ⟨gb166, 0, none⟩ = some (.int .i64 0) := (blk_cell BK166.out 0).trans rfl; have hcz54_1 : w53.cell? ⟨gb166, 1, none⟩ = some (.int .i64 0) := (blk_cell BK166.out 1).trans rfl; have hcz54_2 : w53.cell? ⟨gb166, 2, none⟩ = some (.int .i64 0) := (blk_cell BK166.out 2).trans rfl; have hfz54_0 := blk_frozen BK166.out 0; have hfz54_1 := blk_frozen BK166.out 1; have hfz54_2 := blk_frozen BK166.out 2))
             have n0_ : Aside0 ((((w53.setCell ⟨gb166, 0, none⟩ (.int .i64 ((rd_T95 l0 x10_1).f0))).setCell ⟨gb166, 1, none⟩ (.int .i64 ((rd_T95 l0 x10_1).f1))).setCell ⟨gb166, 2, none⟩ (.int .i64 ((rd_T95 l0 x10_1).f2))).heap[gb166]? = some (.cells #[.int .i64 ((rd_T95 l0 x10_1).f0), .int .i64 ((rd_T95 l0 x10_1).f1), .int .i64 ((rd_T95 l0 x10_1).f2)] 95 (0, 0))) := ⟨by (with_reducible repeat (first | refine blk_drewN ?_ _ | refine blk_drew ?_ | refine blk_alloc ?_ _)); refine blk_put (cs := #[.int .i64 ((rd_T95 l0 x10_1).f0), .int .i64 ((rd_T95 l0 x10_1).f1), .int .i64 0]) ?_ 2 _ rfl; (with_reducible repeat (first | refine blk_drewN ?_ _ | refine blk_drew ?_ | refine blk_alloc ?_ _)); refine blk_put (cs := #[.int .i64 ((rd_T95 l0 x10_1).f0), .int .i64 0, .int .i64 0]) ?_ 1 _ rfl; (with_reducible repeat (first | refine blk_drewN ?_ _ | refine blk_drew ?_ | refine blk_alloc ?_ _)); refine blk_put (cs := #[.int .i64 0, .int .i64 0, .int .i64 0]) ?_ 0 _ rfl; (with_reducible repeat (first | refine blk_drewN ?_ _ | refine blk_drew ?_ | refine blk_alloc ?_ _)); exact BK166.out⟩
             have n1_ : Aside0 (Below w.heap.size w (((w53.setCell ⟨gb166, 0, none⟩ (.int .i64 ((rd_T95 l0 x10_1).f0))).setCell ⟨gb166, 1, none⟩ (.int .i64 ((rd_T95 l0 x10_1).f1))).setCell ⟨gb166, 2, none⟩ (.int .i64 ((rd_T95 l0 x10_1).f2)))) := ⟨by repeat (first | (with_reducible first | exact HB.out | apply below_alloc | apply pw_below_drewN | apply below_drew1 | refine below_set ?_ GE166.out) | exact HB.out)⟩
             (try clear BK166)
             (try clear HB)
             generalize (((w53.setCell ⟨gb166, 0, none⟩ (.int .i64 ((rd_T95 l0 x10_1).f0))).setCell ⟨gb166, 1, none⟩ (.int .i64 ((rd_T95 l0 x10_1).f1))).setCell ⟨gb166, 2, none⟩ (.int .i64 ((rd_T95 l0 x10_1).f2))) = w55 at n0_ n1_ ⊢
             have BK166 := n0_
             have HB := n1_
             clear n0_ n1_
             have n0_ := Aside0.mk (blk_drew BK166.out)
             have n1_ := Aside0.mk (below_drew1 HB.out)
             clear BK166
             clear HB
             have BK166 := n0_
             have HB := n1_
             clear n0_ n1_
             refine start_ (n := 40) (S := fun w' => w'.cell? ⟨gb166, 0, none⟩ = some (.int .i64 ((rd_T95 l0 x10_1).f0)) ∧ w'.cell? ⟨gb166, 1, none⟩ = some (.int .i64 ((rd_T95 l0 x10_1).f1)) ∧ w'.cell? ⟨gb166, 2, none⟩ = some (.int .i64 ((rd_T95 l0 x10_1).f2))) (ds := []) (bR [0, 40]) (by kernel_rfl) rfl rfl ⟨(blk_cell BK166.out 0).trans rfl, (blk_cell BK166.out 1).trans rfl, (blk_cell BK166.out 2).trans rfl⟩ (fun hHeld => ?_); refine with_tabW impl_AreSlots.tab6 impl_AreSlots.bits6 (fun HT_ HW_ => ?_)
             generalize w55.drew = w56 at BK166 HB hHeld ⊢
             refine pure_ (i := 0) (N := some 15) (v := ?_) (a' := ?_) (bR [1, 39]) rfl rfl (any_of HT_.out (by kernel_rfl)) (fun _ _ _ h => h) (Or.inl ⟨by rfl, ?_⟩) ?_ ?_
             rotate_left; (intro w'; go_simp; with_reducible rfl); rotate_left; (simp only [Act.put, sA, sZ, sS, i64_w]; rfl)
             refine take_ (i := 1) (N := some 16) (v := ?_) (a' := ?_) (bR [2, 38]) rfl rfl (take_ofW HT_.out HW_.out (by kernel_rfl)) (fun _ _ _ h => h) (Or.inl ⟨by rfl, ?_⟩) hHeld ?_ ?_
             rotate_left; (rintro w' ⟨s0, s1, s2⟩; go_simp; with_reducible rfl); rotate_left; (simp only [Act.put, sA, sZ, sS, i64_w]; rfl)
             refine one_ (i := 2) (N := some 17) (bR [3, 37]) rfl rfl (one_of HT_.out (by kernel_rfl)) (by decide) (fun K hK => ?_)
             refine goes_ Try.func109 (by kernel_rfl) rfl #[.int .i64 ((rd_T95 l0 x10_1).f0), .int .i64 1, .int .i64 99] (by rfl) rfl rfl (by (try simp only [mA, mC, mN]); first | done | rfl | (simp only [lD, lT]; rfl)) ?_
             with_reducible refine (impl_InRange.calls ((rd_T95 l0 x10_1).f0) 1 99 true _ A6.out).mono ?_
             rintro e w' ⟨rfl, ⟨nd, rfl⟩⟩
             refine ⟨_, rfl, ?_⟩
             refine hK.out _ _ ⟨(blk_cell BK166.out 0).trans rfl, (blk_cell BK166.out 1).trans rfl, (blk_cell BK166.out 2).trans rfl⟩ (fun hHeld => ?_)
             clear hK K
             refine norm_ (a' := ?_) ?_ ?_
             rotate_left
             ·show Act.put _ (some 17) _ = _
              simp only [Act.put, sA, sZ, sS, i64_w]
              rfl
             refine pure_ (i := 3) (N := some 18) (v := ?_) (a' := ?_) (bR [4, 36]) rfl rfl (any_of HT_.out (by kernel_rfl)) (fun _ _ _ h => h) (Or.inl ⟨by rfl, ?_⟩) ?_ ?_
             rotate_left; (intro w'; go_simp; with_reducible rfl); rotate_left; (simp only [Act.put, sA, sZ, sS, i64_w]; rfl)
             refine pure_ (i := 4) (N := some 19) (v := ?_) (a' := ?_) (bR [5, 35]) rfl rfl (any_of HT_.out (by kernel_rfl)) (fun _ _ _ h => h) (Or.inl ⟨by rfl, ?_⟩) ?_ ?_
             rotate_left; (intro w'; go_simp; with_reducible rfl); rotate_left; (simp only [Act.put, sA, sZ, sS, i64_w]; rfl)
             refine pure_ (i := 5) (N := some 20) (v := ?_) (a' := ?_) (bR [6, 34]) rfl rfl (any_of HT_.out (by kernel_rfl)) (fun _ _ _ h => h) (Or.inl ⟨by rfl, ?_⟩) ?_ ?_
             rotate_left; (intro w'; go_simp; with_reducible rfl); rotate_left; (simp only [Act.put, sA, sZ, sS, i64_w]; rfl)
             refine pure_ (i := 6) (N := some 21) (v := ?_) (a' := ?_) (bR [7, 33]) rfl rfl (any_of HT_.out (by kernel_rfl)) (fun _ _ _ h => h) (Or.inl ⟨by rfl, ?_⟩) ?_ ?_
             rotate_left; (intro w'; go_simp; with_reducible rfl); rotate_left; (simp only [Act.put, sA, sZ, sS, i64_w]; rfl)
             refine pure_ (i := 7) (N := some 22) (v := ?_) (a' := ?_) (bR [8, 32]) rfl rfl (any_of HT_.out (by kernel_rfl)) (fun _ _ _ h => h) (Or.inl ⟨by rfl, ?_⟩) ?_ ?_
             rotate_left; (intro w'; go_simp; with_reducible rfl); rotate_left; (simp only [Act.put, sA, sZ, sS, i64_w]; rfl)
             refine pure_ (i := 8) (N := some 23) (v := undef) (a' := ?_) (bR [9, 31]) rfl rfl (any_of HT_.out (by kernel_rfl)) (fun _ _ _ h => h) (Or.inr ⟨by rfl, rfl⟩) ?_ ?_
             rotate_left; (simp only [Act.put, sA, sZ, sS, i64_w]; rfl)
             refine pure_ (i := 9) (N := some 24) (v := undef) (a' := ?_) (bR [10, 30]) rfl rfl (any_of HT_.out (by kernel_rfl)) (fun _ _ _ h => h) (Or.inr ⟨by rfl, rfl⟩) ?_ ?_
             rotate_left; (simp only [Act.put, sA, sZ, sS, i64_w]; rfl)
             refine pure_ (i := 10) (N := some 25) (v := undef) (a' := ?_) (bR [11, 29]) rfl rfl (any_of HT_.out (by kernel_rfl)) (fun _ _ _ h => h) (Or.inr ⟨by rfl, rfl⟩) ?_ ?_
             rotate_left; (simp only [Act.put, sA, sZ, sS, i64_w]; rfl)
             refine pure_ (i := 11) (N := some 26) (v := undef) (a' := ?_) (bR [12, 28]) rfl rfl (any_of HT_.out (by kernel_rfl)) (fun _ _ _ h => h) (Or.inr ⟨by rfl, rfl⟩) ?_ ?_
             rotate_left; (simp only [Act.put, sA, sZ, sS, i64_w]; rfl)
             refine pure_ (i := 12) (N := some 27) (v := undef) (a' := ?_) (bR [13, 27]) rfl rfl (any_of HT_.out (by kernel_rfl)) (fun _ _ _ h => h) (Or.inr ⟨by rfl, rfl⟩) ?_ ?_
             rotate_left; (simp only [Act.put, sA, sZ, sS, i64_w]; rfl)
             refine pure_ (i := 13) (N := some 28) (v := undef) (a' := ?_) (bR [14, 26]) rfl rfl (any_of HT_.out (by kernel_rfl)) (fun _ _ _ h => h) (Or.inr ⟨by rfl, rfl⟩) ?_ ?_
             rotate_left; (simp only [Act.put, sA, sZ, sS, i64_w]; rfl)
             refine pure_ (i := 14) (N := some 29) (v := undef) (a' := ?_) (bR [15, 25]) rfl rfl (any_of HT_.out (by kernel_rfl)) (fun _ _ _ h => h) (Or.inr ⟨by rfl, rfl⟩) ?_ ?_
             rotate_left; (simp only [Act.put, sA, sZ, sS, i64_w]; rfl)
             refine pure_ (i := 15) (N := some 30) (v := undef) (a' := ?_) (bR [16, 24]) rfl rfl (any_of HT_.out (by kernel_rfl)) (fun _ _ _ h => h) (Or.inr ⟨by rfl, rfl⟩) ?_ ?_
             rotate_left; (simp only [Act.put, sA, sZ, sS, i64_w]; rfl)
             refine pure_ (i := 16) (N := some 31) (v := undef) (a' := ?_) (bR [17, 23]) rfl rfl (any_of HT_.out (by kernel_rfl)) (fun _ _ _ h => h) (Or.inr ⟨by rfl, rfl⟩) ?_ ?_
             rotate_left; (simp only [Act.put, sA, sZ, sS, i64_w]; rfl)
             refine pure_ (i := 17) (N := some 32) (v := ?_) (a' := ?_) (bR [18, 22]) rfl rfl (any_of HT_.out (by kernel_rfl)) (fun _ _ _ h => h) (Or.inl ⟨by rfl, ?_⟩) ?_ ?_
             rotate_left; (intro w'; go_simp; with_reducible rfl); rotate_left; (simp only [Act.put, sA, sZ, sS, i64_w]; rfl)
             refine pure_ (i := 18) (N := some 33) (v := ?_) (a' := ?_) (bR [19, 21]) rfl rfl (any_of HT_.out (by kernel_rfl)) (fun _ _ _ h => h) (Or.inl ⟨by rfl, ?_⟩) ?_ ?_
             rotate_left; (intro w'; go_simp; with_reducible rfl); rotate_left; (simp only [Act.put, sA, sZ, sS, i64_w]; rfl)
             refine pure_ (i := 19) (N := some 34) (v := ?_) (a' := ?_) (bR [20, 20]) rfl rfl (any_of HT_.out (by kernel_rfl)) (fun _ _ _ h => h) (Or.inl ⟨by rfl, ?_⟩) ?_ ?_
             rotate_left; (intro w'; go_simp; with_reducible rfl); rotate_left; (simp only [Act.put, sA, sZ, sS, i64_w]; rfl)
             refine pure_ (i := 20) (N := some 35) (v := ?_) (a' := ?_) (bR [21, 19]) rfl rfl (any_of HT_.out (by kernel_rfl)) (fun _ _ _ h => h) (Or.inl ⟨by rfl, ?_⟩) ?_ ?_
             rotate_left; (intro w'; go_simp; with_reducible rfl); rotate_left; (simp only [Act.put, sA, sZ, sS, i64_w]; rfl)
             refine take_ (i := 21) (N := some 36) (v := ?_) (a' := ?_) (bR [22, 18]) rfl rfl (take_ofW HT_.out HW_.out (by kernel_rfl)) (fun _ _ _ h => h) (Or.inl ⟨by rfl, ?_⟩) hHeld ?_ ?_
             rotate_left; (rintro w' ⟨s0, s1, s2⟩; go_simp; with_reducible rfl); rotate_left; (simp only [Act.put, sA, sZ, sS, i64_w]; rfl)
             refine one_ (i := 22) (N := some 37) (bR [23, 17]) rfl rfl (one_of HT_.out (by kernel_rfl)) (by decide) (fun K hK => ?_)
             refine goes_ Try.func109 (by kernel_rfl) rfl #[.int .i64 ((rd_T95 l0 x10_1).f1), .int .i64 1, .int .i64 50] (by rfl) rfl rfl (by (try simp only [mA, mC, mN]); first | done | rfl | (simp only [lD, lT]; rfl)) ?_
             with_reducible refine (impl_InRange.calls ((rd_T95 l0 x10_1).f1) 1 50 true _ A45.out).mono ?_
             rintro e w' ⟨rfl, ⟨nd, rfl⟩⟩
             refine ⟨_, rfl, ?_⟩
             refine hK.out _ _ ⟨(blk_cell BK166.out 0).trans rfl, (blk_cell BK166.out 1).trans rfl, (blk_cell BK166.out 2).trans rfl⟩ (fun hHeld => ?_)
             clear hK K
             refine norm_ (a' := ?_) ?_ ?_
             rotate_left
             ·show Act.put _ (some 37) _ = _
              simp only [Act.put, sA, sZ, sS, i64_w]
              rfl
             refine pure_ (i := 23) (N := some 38) (v := ?_) (a' := ?_) (bR [24, 16]) rfl rfl (any_of HT_.out (by kernel_rfl)) (fun _ _ _ h => h) (Or.inl ⟨by rfl, ?_⟩) ?_ ?_
             rotate_left; (intro w'; go_simp; with_reducible rfl); rotate_left; (simp only [Act.put, sA, sZ, sS, i64_w]; rfl)
             refine pure_ (i := 24) (N := some 39) (v := ?_) (a' := ?_) (bR [25, 15]) rfl rfl (any_of HT_.out (by kernel_rfl)) (fun _ _ _ h => h) (Or.inl ⟨by rfl, ?_⟩) ?_ ?_
             rotate_left; (intro w'; go_simp; with_reducible rfl); rotate_left; (simp only [Act.put, sA, sZ, sS, i64_w]; rfl)
             refine pure_ (i := 25) (N := some 40) (v := ?_) (a' := ?_) (bR [26, 14]) rfl rfl (any_of HT_.out (by kernel_rfl)) (fun _ _ _ h => h) (Or.inl ⟨by rfl, ?_⟩) ?_ ?_
             rotate_left; (intro w'; go_simp; with_reducible rfl); rotate_left; (simp only [Act.put, sA, sZ, sS, i64_w]; rfl)
             refine pure_ (i := 26) (N := some 41) (v := ?_) (a' := ?_) (bR [27, 13]) rfl rfl (any_of HT_.out (by kernel_rfl)) (fun _ _ _ h => h) (Or.inl ⟨by rfl, ?_⟩) ?_ ?_
             rotate_left; (intro w'; go_simp; with_reducible rfl); rotate_left; (simp only [Act.put, sA, sZ, sS, i64_w]; rfl)
             refine take_ (i := 27) (N := some 42) (v := ?_) (a' := ?_) (bR [28, 12]) rfl rfl (take_ofW HT_.out HW_.out (by kernel_rfl)) (fun _ _ _ h => h) (Or.inl ⟨by rfl, ?_⟩) hHeld ?_ ?_
             rotate_left; (rintro w' ⟨s0, s1, s2⟩; go_simp; with_reducible rfl); rotate_left; (simp only [Act.put, sA, sZ, sS, i64_w]; rfl)
             refine one_ (i := 28) (N := some 43) (bR [29, 11]) rfl rfl (one_of HT_.out (by kernel_rfl)) (by decide) (fun K hK => ?_)
             refine goes_ Try.func109 (by kernel_rfl) rfl #[.int .i64 ((rd_T95 l0 x10_1).f2), .int .i64 0, .int .i64 999] (by rfl) rfl rfl (by (try simp only [mA, mC, mN]); first | done | rfl | (simp only [lD, lT]; rfl)) ?_
             with_reducible refine (impl_InRange.calls ((rd_T95 l0 x10_1).f2) 0 999 true _ A47.out).mono ?_
             rintro e w' ⟨rfl, ⟨nd, rfl⟩⟩
             refine ⟨_, rfl, ?_⟩
             have q57 : (x10_1 : Int) ≤ ((l0.length : Int) : Int) := of_decide_eq_true ‹_›
             obtain ⟨i057, hi057, _, hsz57, _⟩ := info_parts info95
             have hroom57 : l0.length ≤ c0 := HC0.out
             have hC57 : Kd.C k95 _ (some ad165) l0.length l0 := HR0.out
             have hcut57 := cut_to (P := Try.prog) 35 95 .i64 Try.underlying35 hi057 (some ad165) l0.length c0 x10_1 (of_decide_eq_true ‹_›) q57 hroom57
             have hr57 := Kd.C_take (m := (x10_1 : Int).toNat) hC57 (by omega)
             have hy57 : y178.length = (x10_1 : Int).toNat := (by rw [Ny178.out, List.length_take]; omega)
             rw [← Ny178.out] at hr57
             rw [← hy57] at hcut57
             have HR181 := Aside0.mk hr57
             have HC181 := Aside0.mk (show y178.length ≤ c0 from by omega)
             clear hr57 hC57 hroom57 hi057 hsz57
             have KY57 := Aside0.mk hy57
             clear hy57
             replace q57 := eq_true q57
             refine hK.out _ _ ⟨(blk_cell BK166.out 0).trans rfl, (blk_cell BK166.out 1).trans rfl, (blk_cell BK166.out 2).trans rfl⟩ (fun hHeld => ?_)
             clear hK K
             refine norm_ (a' := ?_) ?_ ?_
             rotate_left
             ·show Act.put _ (some 43) _ = _
              simp only [Act.put, sA, sZ, sS, i64_w]
              rfl
             refine pure_ (i := 29) (N := some 44) (v := ?_) (a' := ?_) (bR [30, 10]) rfl rfl (any_of HT_.out (by kernel_rfl)) (fun _ _ _ h => h) (Or.inl ⟨by rfl, ?_⟩) ?_ ?_
             rotate_left; (intro w'; go_simp; with_reducible rfl); rotate_left; (simp only [Act.put, sA, sZ, sS, i64_w]; rfl)
             refine pure_ (i := 30) (N := some 45) (v := ?_) (a' := ?_) (bR [31, 9]) rfl rfl (any_of HT_.out (by kernel_rfl)) (fun _ _ _ h => h) (Or.inl ⟨by rfl, ?_⟩) ?_ ?_
             rotate_left; (intro w'; go_simp; with_reducible rfl); rotate_left; (simp only [Act.put, sA, sZ, sS, i64_w]; rfl)
             refine pure_ (i := 31) (N := some 46) (v := ?_) (a' := ?_) (bR [32, 8]) rfl rfl (any_of HT_.out (by kernel_rfl)) (fun _ _ _ h => h) (Or.inl ⟨by rfl, ?_⟩) ?_ ?_
             rotate_left; (intro w'; go_simp; with_reducible rfl); rotate_left; (simp only [Act.put, sA, sZ, sS, i64_w]; rfl)
             refine pure_ (i := 32) (N := some 47) (v := ?_) (a' := ?_) (bR [33, 7]) rfl rfl (any_of HT_.out (by kernel_rfl)) (fun _ _ _ h => h) (Or.inl ⟨by rfl, ?_⟩) ?_ ?_
             rotate_left; (intro w'; go_simp; with_reducible rfl); rotate_left; (simp only [Act.put, sA, sZ, sS, i64_w]; rfl)
             refine pure_ (i := 33) (N := some 48) (v := ?_) (a' := ?_) (bR [34, 6]) rfl rfl (any_of HT_.out (by kernel_rfl)) (fun _ _ _ h => h) (Or.inl ⟨by rfl, ?_⟩) ?_ ?_
             rotate_left; (intro w'; go_simp; with_reducible rfl); rotate_left; (simp only [Act.put, sA, sZ, sS, i64_w]; rfl)
             refine pure_ (i := 34) (N := some 49) (v := ?_) (a' := ?_) (bR [35, 5]) rfl rfl (any_of HT_.out (by kernel_rfl)) (fun _ _ _ h => h) (Or.inl ⟨by rfl, ?_⟩) ?_ ?_
             rotate_left; (intro w'; go_simp; with_reducible rfl); rotate_left; (simp only [Act.put, sA, sZ, sS, i64_w]; rfl)
             refine pure_ (i := 35) (N := some 50) (v := ?_) (a' := ?_) (bR [36, 4]) rfl rfl (any_of HT_.out (by kernel_rfl)) (fun _ _ _ h => h) (Or.inl ⟨by rfl, ?_⟩) ?_ ?_
             rotate_left; (intro w'; go_simp; with_reducible rfl); rotate_left; (simp only [Act.put, sA, sZ, sS, i64_w]; rfl)
             refine take_ (i := 36) (N := some 51) (v := ?_) (a' := ?_) (bR [37, 3]) rfl rfl (take_ofW HT_.out HW_.out (by kernel_rfl)) (fun _ _ _ h => h) (Or.inl ⟨by rfl, ?_⟩) hHeld ?_ ?_
             rotate_left; (rintro w' ⟨s0, s1, s2⟩; go_simp; with_reducible rfl); rotate_left; (simp only [Act.put, sA, sZ, sS, i64_w]; rfl)
             refine one_ (i := 37) (N := some 52) (bR [38, 2]) rfl rfl (one_of HT_.out (by kernel_rfl)) (by decide) (fun K hK => ?_)
             refine goes_ Try.func58 (by kernel_rfl) rfl #[.slice (some ad165) y178.length c0, .int .i64 ((rd_T95 l0 x10_1).f2)] (by rfl) rfl rfl (by (try simp only [mA, mC, mN]); first | done | rfl | (simp only [lD, lT]; rfl)) ?_
             with_reducible refine (impl_SlotOf.calls _ _ y178 ((rd_T95 l0 x10_1).f2) t182 _ ?side1 ?side2 A51.out).mono ?_
             (case side1 => repeat (first | exact (Kd.C_below HR181.out (by repeat (first | (with_reducible first | exact HB.out | apply below_alloc | apply pw_below_drewN | apply below_drew1 | refine below_set ?_ GE166.out) | exact HB.out))) | (with_reducible refine Kd.C_alloc ?_ _) | (with_reducible refine Kd.C_drewN ?_ _) | (with_reducible refine Kd.C_drew ?_)))
             (case side2 => exact HC181.out)
             rintro e w58 ⟨rfl, hb⟩
             refine ⟨_, rfl, ?_⟩
             have n0_ := Aside0.mk (blk_below (g := gb166) (o := .cells #[.int .i64 ((rd_T95 l0 x10_1).f0), .int .i64 ((rd_T95 l0 x10_1).f1), .int .i64 ((rd_T95 l0 x10_1).f2)] 95 (0, 0)) (qK BK166) hb)
             have n1_ := Aside0.mk (below_step (by repeat (first | (with_reducible first | exact HB.out | apply below_alloc | apply pw_below_drewN | apply below_drew1 | refine below_set ?_ GE166.out) | exact HB.out)) hb)
             clear BK166
             clear HB
             have BK166 := n0_
             have HB := n1_
             clear n0_ n1_
             (try clear hb)
             (try clear hb2)
             (try clear hk)
             (try clear hi)
             refine hK.out _ _ ⟨(blk_cell BK166.out 0).trans rfl, (blk_cell BK166.out 1).trans rfl, (blk_cell BK166.out 2).trans rfl⟩ (fun hHeld => ?_)
             clear hK K
             refine norm_ (a' := ?_) ?_ ?_
             rotate_left
             ·show Act.put _ (some 52) _ = _
              simp only [Act.put, sA, sZ, sS, i64_w]
              rfl
             refine pure_ (i := 38) (N := some 53) (v := ?_) (a' := ?_) (bR [39, 1]) rfl rfl (any_of HT_.out (by kernel_rfl)) (fun _ _ _ h => h) (Or.inl ⟨by rfl, ?_⟩) ?_ ?_
             rotate_left; (intro w'; go_simp; with_reducible rfl); rotate_left; (simp only [Act.put, sA, sZ, sS, i64_w]; rfl)
             refine pure_ (i := 39) (N := some 54) (v := ?_) (a' := ?_) (bR [40]) rfl rfl (any_of HT_.out (by kernel_rfl)) (fun _ _ _ h => h) (Or.inl ⟨by rfl, ?_⟩) ?_ ?_
             rotate_left; (intro w'; go_simp; with_reducible rfl); rotate_left; (simp only [Act.put, sA, sZ, sS, i64_w]; rfl)
             refine done_ (done_of HT_.out (by kernel_rfl)) ?_
             try go_wp2
             go_roundg k1
             case measure => have := HK1.out; omega
             case rel => exact ⟨(wrap64 (x10_1 + 1)), (by first | rfl | (simp; done) | (simp [*]; done)), H', ⟨by have := HK1.out; omega⟩, ⟨by repeat (first | (with_reducible first | exact HB.out | apply below_alloc | apply pw_below_drewN | apply below_drew1 | refine below_set ?_ GE166.out) | exact HB.out)⟩⟩
            ·rw [if_neg c52] at H
             have c52b0 : (t182 == 0) = false := beq_eq_false_iff_ne.mpr c52
             have c52b1 : (t182 != 0) = true := bne_iff_ne.mpr c52
             obtain rfl := Option.some.inj H
             have p165 : 0 ≤ (x10_1 : Int) := of_decide_eq_true ‹_›
             have q165 : x10_1 < (l0.length : Int) := of_decide_eq_true ‹_›
             obtain ⟨ad165, e165, hx165_0, hx165_1, hx165_2⟩ := at_T95 HR0.out x10_1 p165 q165
             cases e165
             replace hx165_0 := (HB.out.cell (World.block_lt_of_cell? w _ hx165_0)).trans hx165_0
             replace hx165_1 := (HB.out.cell (World.block_lt_of_cell? w _ hx165_1)).trans hx165_1
             replace hx165_2 := (HB.out.cell (World.block_lt_of_cell? w _ hx165_2)).trans hx165_2
             replace p165 := eq_true p165
             replace q165 := eq_true q165
             try go_wp2_with (first | ((with_reducible refine gate_dst (N := 4) rfl ?_); refine box_event ?hg (N := 4) ?hd (cs := #[.int .i64 0, .int .i64 0, .int .i64 0]) (t := 95) ?hr ?_; (case hd => rfl); (case hg => rfl); (case hr => first | (go_simp; done) | (go_simp; rfl)); intro gb166 hg w59 hbox hb; have n0_ := Aside0.mk (below_step (qB HB) hb); have n1_ := Aside0.mk (hbox); have n2_ := Aside0.mk ((by rw [hg]; exact (below_size (qB HB)) : w.heap.size ≤ gb166)); have n3_ := Aside0.mk ((by rw [hg]; exact (below_size (qB HB)) : w.heap.size ≤ gb166)); clear HB; have HB := n0_; have BK166 := n1_; have GW166 := n2_; have GE166 := n3_; clear n0_ n1_ n2_ n3_; clear hb hbox hg; have hcz60_0 : w59.cell? ⟨gb166, 0, none⟩ = some (.int .i64 0) := (blk_cell BK166.out 0).trans rfl; have hcz60_1 : w59.cell? ⟨gb166, 1, none⟩ = some (.int .i64 0) := (blk_cell BK166.out 1).trans rfl; have hcz60_2 : w59.cell? ⟨gb166, 2, none⟩ = some (.int .i64 0) := (blk_cell BK166.out 2).trans rfl; have hfz60_0 := blk_frozen BK166.out 0; have hfz60_1 := blk_frozen BK166.out 1; have hfz60_2 := blk_frozen BK166.out 2))
             have n0_ : Aside0 ((((w59.setCell ⟨gb166, 0, none⟩ (.int .i64 ((rd_T95 l0 x10_1).f0))).setCell ⟨gb166, 1, none⟩ (.int .i64 ((rd_T95 l0 x10_1).f1))).setCell ⟨gb166, 2, none⟩ (.int .i64 ((rd_T95 l0 x10_1).f2))).heap[gb166]? = some (.cells #[.int .i64 ((rd_T95 l0 x10_1).f0), .int .i64 ((rd_T95 l0 x10_1).f1), .int .i64 ((rd_T95 l0 x10_1).f2)] 95 (0, 0))) := ⟨by (with_reducible repeat (first | refine blk_drewN ?_ _ | refine blk_drew ?_ | refine blk_alloc ?_ _)); refine blk_put (cs := #[.int .i64 ((rd_T95 l0 x10_1).f0), .int .i64 ((rd_T95 l0 x10_1).f1), .int .i64 0]) ?_ 2 _ rfl; (with_reducible repeat (first | refine blk_drewN ?_ _ | refine blk_drew ?_ | refine blk_alloc ?_ _)); refine blk_put (cs := #[.int .i64 ((rd_T95 l0 x10_1).f0), .int .i64 0, .int .i64 0]) ?_ 1 _ rfl; (with_reducible repeat (first | refine blk_drewN ?_ _ | refine blk_drew ?_ | refine blk_alloc ?_ _)); refine blk_put (cs := #[.int .i64 0, .int .i64 0, .int .i64 0]) ?_ 0 _ rfl; (with_reducible repeat (first | refine blk_drewN ?_ _ | refine blk_drew ?_ | refine blk_alloc ?_ _)); exact BK166.out⟩
             have n1_ : Aside0 (Below w.heap.size w (((w59.setCell ⟨gb166, 0, none⟩ (.int .i64 ((rd_T95 l0 x10_1).f0))).setCell ⟨gb166, 1, none⟩ (.int .i64 ((rd_T95 l0 x10_1).f1))).setCell ⟨gb166, 2, none⟩ (.int .i64 ((rd_T95 l0 x10_1).f2)))) := ⟨by repeat (first | (with_reducible first | exact HB.out | apply below_alloc | apply pw_below_drewN | apply below_drew1 | refine below_set ?_ GE166.out) | exact HB.out)⟩
             (try clear BK166)
             (try clear HB)
             generalize (((w59.setCell ⟨gb166, 0, none⟩ (.int .i64 ((rd_T95 l0 x10_1).f0))).setCell ⟨gb166, 1, none⟩ (.int .i64 ((rd_T95 l0 x10_1).f1))).setCell ⟨gb166, 2, none⟩ (.int .i64 ((rd_T95 l0 x10_1).f2))) = w61 at n0_ n1_ ⊢
             have BK166 := n0_
             have HB := n1_
             clear n0_ n1_
             have n0_ := Aside0.mk (blk_drew BK166.out)
             have n1_ := Aside0.mk (below_drew1 HB.out)
             clear BK166
             clear HB
             have BK166 := n0_
             have HB := n1_
             clear n0_ n1_
             refine start_ (n := 40) (S := fun w' => w'.cell? ⟨gb166, 0, none⟩ = some (.int .i64 ((rd_T95 l0 x10_1).f0)) ∧ w'.cell? ⟨gb166, 1, none⟩ = some (.int .i64 ((rd_T95 l0 x10_1).f1)) ∧ w'.cell? ⟨gb166, 2, none⟩ = some (.int .i64 ((rd_T95 l0 x10_1).f2))) (ds := []) (bR [0, 40]) (by kernel_rfl) rfl rfl ⟨(blk_cell BK166.out 0).trans rfl, (blk_cell BK166.out 1).trans rfl, (blk_cell BK166.out 2).trans rfl⟩ (fun hHeld => ?_); refine with_tabW impl_AreSlots.tab6 impl_AreSlots.bits6 (fun HT_ HW_ => ?_)
             generalize w61.drew = w62 at BK166 HB hHeld ⊢
             refine pure_ (i := 0) (N := some 15) (v := ?_) (a' := ?_) (bR [1, 39]) rfl rfl (any_of HT_.out (by kernel_rfl)) (fun _ _ _ h => h) (Or.inl ⟨by rfl, ?_⟩) ?_ ?_
             rotate_left; (intro w'; go_simp; with_reducible rfl); rotate_left; (simp only [Act.put, sA, sZ, sS, i64_w]; rfl)
             refine take_ (i := 1) (N := some 16) (v := ?_) (a' := ?_) (bR [2, 38]) rfl rfl (take_ofW HT_.out HW_.out (by kernel_rfl)) (fun _ _ _ h => h) (Or.inl ⟨by rfl, ?_⟩) hHeld ?_ ?_
             rotate_left; (rintro w' ⟨s0, s1, s2⟩; go_simp; with_reducible rfl); rotate_left; (simp only [Act.put, sA, sZ, sS, i64_w]; rfl)
             refine one_ (i := 2) (N := some 17) (bR [3, 37]) rfl rfl (one_of HT_.out (by kernel_rfl)) (by decide) (fun K hK => ?_)
             refine goes_ Try.func109 (by kernel_rfl) rfl #[.int .i64 ((rd_T95 l0 x10_1).f0), .int .i64 1, .int .i64 99] (by rfl) rfl rfl (by (try simp only [mA, mC, mN]); first | done | rfl | (simp only [lD, lT]; rfl)) ?_
             with_reducible refine (impl_InRange.calls ((rd_T95 l0 x10_1).f0) 1 99 true _ A6.out).mono ?_
             rintro e w' ⟨rfl, ⟨nd, rfl⟩⟩
             refine ⟨_, rfl, ?_⟩
             refine hK.out _ _ ⟨(blk_cell BK166.out 0).trans rfl, (blk_cell BK166.out 1).trans rfl, (blk_cell BK166.out 2).trans rfl⟩ (fun hHeld => ?_)
             clear hK K
             refine norm_ (a' := ?_) ?_ ?_
             rotate_left
             ·show Act.put _ (some 17) _ = _
              simp only [Act.put, sA, sZ, sS, i64_w]
              rfl
             refine pure_ (i := 3) (N := some 18) (v := ?_) (a' := ?_) (bR [4, 36]) rfl rfl (any_of HT_.out (by kernel_rfl)) (fun _ _ _ h => h) (Or.inl ⟨by rfl, ?_⟩) ?_ ?_
             rotate_left; (intro w'; go_simp; with_reducible rfl); rotate_left; (simp only [Act.put, sA, sZ, sS, i64_w]; rfl)
             refine pure_ (i := 4) (N := some 19) (v := ?_) (a' := ?_) (bR [5, 35]) rfl rfl (any_of HT_.out (by kernel_rfl)) (fun _ _ _ h => h) (Or.inl ⟨by rfl, ?_⟩) ?_ ?_
             rotate_left; (intro w'; go_simp; with_reducible rfl); rotate_left; (simp only [Act.put, sA, sZ, sS, i64_w]; rfl)
             refine pure_ (i := 5) (N := some 20) (v := ?_) (a' := ?_) (bR [6, 34]) rfl rfl (any_of HT_.out (by kernel_rfl)) (fun _ _ _ h => h) (Or.inl ⟨by rfl, ?_⟩) ?_ ?_
             rotate_left; (intro w'; go_simp; with_reducible rfl); rotate_left; (simp only [Act.put, sA, sZ, sS, i64_w]; rfl)
             refine pure_ (i := 6) (N := some 21) (v := ?_) (a' := ?_) (bR [7, 33]) rfl rfl (any_of HT_.out (by kernel_rfl)) (fun _ _ _ h => h) (Or.inl ⟨by rfl, ?_⟩) ?_ ?_
             rotate_left; (intro w'; go_simp; with_reducible rfl); rotate_left; (simp only [Act.put, sA, sZ, sS, i64_w]; rfl)
             refine pure_ (i := 7) (N := some 22) (v := ?_) (a' := ?_) (bR [8, 32]) rfl rfl (any_of HT_.out (by kernel_rfl)) (fun _ _ _ h => h) (Or.inl ⟨by rfl, ?_⟩) ?_ ?_
             rotate_left; (intro w'; go_simp; with_reducible rfl); rotate_left; (simp only [Act.put, sA, sZ, sS, i64_w]; rfl)
             refine pure_ (i := 8) (N := some 23) (v := undef) (a' := ?_) (bR [9, 31]) rfl rfl (any_of HT_.out (by kernel_rfl)) (fun _ _ _ h => h) (Or.inr ⟨by rfl, rfl⟩) ?_ ?_
             rotate_left; (simp only [Act.put, sA, sZ, sS, i64_w]; rfl)
             refine pure_ (i := 9) (N := some 24) (v := undef) (a' := ?_) (bR [10, 30]) rfl rfl (any_of HT_.out (by kernel_rfl)) (fun _ _ _ h => h) (Or.inr ⟨by rfl, rfl⟩) ?_ ?_
             rotate_left; (simp only [Act.put, sA, sZ, sS, i64_w]; rfl)
             refine pure_ (i := 10) (N := some 25) (v := undef) (a' := ?_) (bR [11, 29]) rfl rfl (any_of HT_.out (by kernel_rfl)) (fun _ _ _ h => h) (Or.inr ⟨by rfl, rfl⟩) ?_ ?_
             rotate_left; (simp only [Act.put, sA, sZ, sS, i64_w]; rfl)
             refine pure_ (i := 11) (N := some 26) (v := undef) (a' := ?_) (bR [12, 28]) rfl rfl (any_of HT_.out (by kernel_rfl)) (fun _ _ _ h => h) (Or.inr ⟨by rfl, rfl⟩) ?_ ?_
             rotate_left; (simp only [Act.put, sA, sZ, sS, i64_w]; rfl)
             refine pure_ (i := 12) (N := some 27) (v := undef) (a' := ?_) (bR [13, 27]) rfl rfl (any_of HT_.out (by kernel_rfl)) (fun _ _ _ h => h) (Or.inr ⟨by rfl, rfl⟩) ?_ ?_
             rotate_left; (simp only [Act.put, sA, sZ, sS, i64_w]; rfl)
             refine pure_ (i := 13) (N := some 28) (v := undef) (a' := ?_) (bR [14, 26]) rfl rfl (any_of HT_.out (by kernel_rfl)) (fun _ _ _ h => h) (Or.inr ⟨by rfl, rfl⟩) ?_ ?_
             rotate_left; (simp only [Act.put, sA, sZ, sS, i64_w]; rfl)
             refine pure_ (i := 14) (N := some 29) (v := undef) (a' := ?_) (bR [15, 25]) rfl rfl (any_of HT_.out (by kernel_rfl)) (fun _ _ _ h => h) (Or.inr ⟨by rfl, rfl⟩) ?_ ?_
             rotate_left; (simp only [Act.put, sA, sZ, sS, i64_w]; rfl)
             refine pure_ (i := 15) (N := some 30) (v := undef) (a' := ?_) (bR [16, 24]) rfl rfl (any_of HT_.out (by kernel_rfl)) (fun _ _ _ h => h) (Or.inr ⟨by rfl, rfl⟩) ?_ ?_
             rotate_left; (simp only [Act.put, sA, sZ, sS, i64_w]; rfl)
             refine pure_ (i := 16) (N := some 31) (v := undef) (a' := ?_) (bR [17, 23]) rfl rfl (any_of HT_.out (by kernel_rfl)) (fun _ _ _ h => h) (Or.inr ⟨by rfl, rfl⟩) ?_ ?_
             rotate_left; (simp only [Act.put, sA, sZ, sS, i64_w]; rfl)
             refine pure_ (i := 17) (N := some 32) (v := ?_) (a' := ?_) (bR [18, 22]) rfl rfl (any_of HT_.out (by kernel_rfl)) (fun _ _ _ h => h) (Or.inl ⟨by rfl, ?_⟩) ?_ ?_
             rotate_left; (intro w'; go_simp; with_reducible rfl); rotate_left; (simp only [Act.put, sA, sZ, sS, i64_w]; rfl)
             refine pure_ (i := 18) (N := some 33) (v := ?_) (a' := ?_) (bR [19, 21]) rfl rfl (any_of HT_.out (by kernel_rfl)) (fun _ _ _ h => h) (Or.inl ⟨by rfl, ?_⟩) ?_ ?_
             rotate_left; (intro w'; go_simp; with_reducible rfl); rotate_left; (simp only [Act.put, sA, sZ, sS, i64_w]; rfl)
             refine pure_ (i := 19) (N := some 34) (v := ?_) (a' := ?_) (bR [20, 20]) rfl rfl (any_of HT_.out (by kernel_rfl)) (fun _ _ _ h => h) (Or.inl ⟨by rfl, ?_⟩) ?_ ?_
             rotate_left; (intro w'; go_simp; with_reducible rfl); rotate_left; (simp only [Act.put, sA, sZ, sS, i64_w]; rfl)
             refine pure_ (i := 20) (N := some 35) (v := ?_) (a' := ?_) (bR [21, 19]) rfl rfl (any_of HT_.out (by kernel_rfl)) (fun _ _ _ h => h) (Or.inl ⟨by rfl, ?_⟩) ?_ ?_
             rotate_left; (intro w'; go_simp; with_reducible rfl); rotate_left; (simp only [Act.put, sA, sZ, sS, i64_w]; rfl)
             refine take_ (i := 21) (N := some 36) (v := ?_) (a' := ?_) (bR [22, 18]) rfl rfl (take_ofW HT_.out HW_.out (by kernel_rfl)) (fun _ _ _ h => h) (Or.inl ⟨by rfl, ?_⟩) hHeld ?_ ?_
             rotate_left; (rintro w' ⟨s0, s1, s2⟩; go_simp; with_reducible rfl); rotate_left; (simp only [Act.put, sA, sZ, sS, i64_w]; rfl)
             refine one_ (i := 22) (N := some 37) (bR [23, 17]) rfl rfl (one_of HT_.out (by kernel_rfl)) (by decide) (fun K hK => ?_)
             refine goes_ Try.func109 (by kernel_rfl) rfl #[.int .i64 ((rd_T95 l0 x10_1).f1), .int .i64 1, .int .i64 50] (by rfl) rfl rfl (by (try simp only [mA, mC, mN]); first | done | rfl | (simp only [lD, lT]; rfl)) ?_
             with_reducible refine (impl_InRange.calls ((rd_T95 l0 x10_1).f1) 1 50 true _ A45.out).mono ?_
             rintro e w' ⟨rfl, ⟨nd, rfl⟩⟩
             refine ⟨_, rfl, ?_⟩
             refine hK.out _ _ ⟨(blk_cell BK166.out 0).trans rfl, (blk_cell BK166.out 1).trans rfl, (blk_cell BK166.out 2).trans rfl⟩ (fun hHeld => ?_)
             clear hK K
             refine norm_ (a' := ?_) ?_ ?_
             rotate_left
             ·show Act.put _ (some 37) _ = _
              simp only [Act.put, sA, sZ, sS, i64_w]
              rfl
             refine pure_ (i := 23) (N := some 38) (v := ?_) (a' := ?_) (bR [24, 16]) rfl rfl (any_of HT_.out (by kernel_rfl)) (fun _ _ _ h => h) (Or.inl ⟨by rfl, ?_⟩) ?_ ?_
             rotate_left; (intro w'; go_simp; with_reducible rfl); rotate_left; (simp only [Act.put, sA, sZ, sS, i64_w]; rfl)
             refine pure_ (i := 24) (N := some 39) (v := ?_) (a' := ?_) (bR [25, 15]) rfl rfl (any_of HT_.out (by kernel_rfl)) (fun _ _ _ h => h) (Or.inl ⟨by rfl, ?_⟩) ?_ ?_
             rotate_left; (intro w'; go_simp; with_reducible rfl); rotate_left; (simp only [Act.put, sA, sZ, sS, i64_w]; rfl)
             refine pure_ (i := 25) (N := some 40) (v := ?_) (a' := ?_) (bR [26, 14]) rfl rfl (any_of HT_.out (by kernel_rfl)) (fun _ _ _ h => h) (Or.inl ⟨by rfl, ?_⟩) ?_ ?_
             rotate_left; (intro w'; go_simp; with_reducible rfl); rotate_left; (simp only [Act.put, sA, sZ, sS, i64_w]; rfl)
             refine pure_ (i := 26) (N := some 41) (v := ?_) (a' := ?_) (bR [27, 13]) rfl rfl (any_of HT_.out (by kernel_rfl)) (fun _ _ _ h => h) (Or.inl ⟨by rfl, ?_⟩) ?_ ?_
             rotate_left; (intro w'; go_simp; with_reducible rfl); rotate_left; (simp only [Act.put, sA, sZ, sS, i64_w]; rfl)
             refine take_ (i := 27) (N := some 42) (v := ?_) (a' := ?_) (bR [28, 12]) rfl rfl (take_ofW HT_.out HW_.out (by kernel_rfl)) (fun _ _ _ h => h) (Or.inl ⟨by rfl, ?_⟩) hHeld ?_ ?_
             rotate_left; (rintro w' ⟨s0, s1, s2⟩; go_simp; with_reducible rfl); rotate_left; (simp only [Act.put, sA, sZ, sS, i64_w]; rfl)
             refine one_ (i := 28) (N := some 43) (bR [29, 11]) rfl rfl (one_of HT_.out (by kernel_rfl)) (by decide) (fun K hK => ?_)
             refine goes_ Try.func109 (by kernel_rfl) rfl #[.int .i64 ((rd_T95 l0 x10_1).f2), .int .i64 0, .int .i64 999] (by rfl) rfl rfl (by (try simp only [mA, mC, mN]); first | done | rfl | (simp only [lD, lT]; rfl)) ?_
             with_reducible refine (impl_InRange.calls ((rd_T95 l0 x10_1).f2) 0 999 true _ A47.out).mono ?_
             rintro e w' ⟨rfl, ⟨nd, rfl⟩⟩
             refine ⟨_, rfl, ?_⟩
             have q63 : (x10_1 : Int) ≤ ((l0.length : Int) : Int) := of_decide_eq_true ‹_›
             obtain ⟨i063, hi063, _, hsz63, _⟩ := info_parts info95
             have hroom63 : l0.length ≤ c0 := HC0.out
             have hC63 : Kd.C k95 _ (some ad165) l0.length l0 := HR0.out
             have hcut63 := cut_to (P := Try.prog) 35 95 .i64 Try.underlying35 hi063 (some ad165) l0.length c0 x10_1 (of_decide_eq_true ‹_›) q63 hroom63
             have hr63 := Kd.C_take (m := (x10_1 : Int).toNat) hC63 (by omega)
             have hy63 : y178.length = (x10_1 : Int).toNat := (by rw [Ny178.out, List.length_take]; omega)
             rw [← Ny178.out] at hr63
             rw [← hy63] at hcut63
             have HR181 := Aside0.mk hr63
             have HC181 := Aside0.mk (show y178.length ≤ c0 from by omega)
             clear hr63 hC63 hroom63 hi063 hsz63
             have KY63 := Aside0.mk hy63
             clear hy63
             replace q63 := eq_true q63
             refine hK.out _ _ ⟨(blk_cell BK166.out 0).trans rfl, (blk_cell BK166.out 1).trans rfl, (blk_cell BK166.out 2).trans rfl⟩ (fun hHeld => ?_)
             clear hK K
             refine norm_ (a' := ?_) ?_ ?_
             rotate_left
             ·show Act.put _ (some 43) _ = _
              simp only [Act.put, sA, sZ, sS, i64_w]
              rfl
             refine pure_ (i := 29) (N := some 44) (v := ?_) (a' := ?_) (bR [30, 10]) rfl rfl (any_of HT_.out (by kernel_rfl)) (fun _ _ _ h => h) (Or.inl ⟨by rfl, ?_⟩) ?_ ?_
             rotate_left; (intro w'; go_simp; with_reducible rfl); rotate_left; (simp only [Act.put, sA, sZ, sS, i64_w]; rfl)
             refine pure_ (i := 30) (N := some 45) (v := ?_) (a' := ?_) (bR [31, 9]) rfl rfl (any_of HT_.out (by kernel_rfl)) (fun _ _ _ h => h) (Or.inl ⟨by rfl, ?_⟩) ?_ ?_
             rotate_left; (intro w'; go_simp; with_reducible rfl); rotate_left; (simp only [Act.put, sA, sZ, sS, i64_w]; rfl)
             refine pure_ (i := 31) (N := some 46) (v := ?_) (a' := ?_) (bR [32, 8]) rfl rfl (any_of HT_.out (by kernel_rfl)) (fun _ _ _ h => h) (Or.inl ⟨by rfl, ?_⟩) ?_ ?_
             rotate_left; (intro w'; go_simp; with_reducible rfl); rotate_left; (simp only [Act.put, sA, sZ, sS, i64_w]; rfl)
             refine pure_ (i := 32) (N := some 47) (v := ?_) (a' := ?_) (bR [33, 7]) rfl rfl (any_of HT_.out (by kernel_rfl)) (fun _ _ _ h => h) (Or.inl ⟨by rfl, ?_⟩) ?_ ?_
             rotate_left; (intro w'; go_simp; with_reducible rfl); rotate_left; (simp only [Act.put, sA, sZ, sS, i64_w]; rfl)
             refine pure_ (i := 33) (N := some 48) (v := ?_) (a' := ?_) (bR [34, 6]) rfl rfl (any_of HT_.out (by kernel_rfl)) (fun _ _ _ h => h) (Or.inl ⟨by rfl, ?_⟩) ?_ ?_
             rotate_left; (intro w'; go_simp; with_reducible rfl); rotate_left; (simp only [Act.put, sA, sZ, sS, i64_w]; rfl)
             refine pure_ (i := 34) (N := some 49) (v := ?_) (a' := ?_) (bR [35, 5]) rfl rfl (any_of HT_.out (by kernel_rfl)) (fun _ _ _ h => h) (Or.inl ⟨by rfl, ?_⟩) ?_ ?_
             rotate_left; (intro w'; go_simp; with_reducible rfl); rotate_left; (simp only [Act.put, sA, sZ, sS, i64_w]; rfl)
             refine pure_ (i := 35) (N := some 50) (v := ?_) (a' := ?_) (bR [36, 4]) rfl rfl (any_of HT_.out (by kernel_rfl)) (fun _ _ _ h => h) (Or.inl ⟨by rfl, ?_⟩) ?_ ?_
             rotate_left; (intro w'; go_simp; with_reducible rfl); rotate_left; (simp only [Act.put, sA, sZ, sS, i64_w]; rfl)
             refine take_ (i := 36) (N := some 51) (v := ?_) (a' := ?_) (bR [37, 3]) rfl rfl (take_ofW HT_.out HW_.out (by kernel_rfl)) (fun _ _ _ h => h) (Or.inl ⟨by rfl, ?_⟩) hHeld ?_ ?_
             rotate_left; (rintro w' ⟨s0, s1, s2⟩; go_simp; with_reducible rfl); rotate_left; (simp only [Act.put, sA, sZ, sS, i64_w]; rfl)
             refine one_ (i := 37) (N := some 52) (bR [38, 2]) rfl rfl (one_of HT_.out (by kernel_rfl)) (by decide) (fun K hK => ?_)
             refine goes_ Try.func58 (by kernel_rfl) rfl #[.slice (some ad165) y178.length c0, .int .i64 ((rd_T95 l0 x10_1).f2)] (by rfl) rfl rfl (by (try simp only [mA, mC, mN]); first | done | rfl | (simp only [lD, lT]; rfl)) ?_
             with_reducible refine (impl_SlotOf.calls _ _ y178 ((rd_T95 l0 x10_1).f2) t182 _ ?side1 ?side2 A51.out).mono ?_
             (case side1 => repeat (first | exact (Kd.C_below HR181.out (by repeat (first | (with_reducible first | exact HB.out | apply below_alloc | apply pw_below_drewN | apply below_drew1 | refine below_set ?_ GE166.out) | exact HB.out))) | (with_reducible refine Kd.C_alloc ?_ _) | (with_reducible refine Kd.C_drewN ?_ _) | (with_reducible refine Kd.C_drew ?_)))
             (case side2 => exact HC181.out)
             rintro e w64 ⟨rfl, hb⟩
             refine ⟨_, rfl, ?_⟩
             have n0_ := Aside0.mk (blk_below (g := gb166) (o := .cells #[.int .i64 ((rd_T95 l0 x10_1).f0), .int .i64 ((rd_T95 l0 x10_1).f1), .int .i64 ((rd_T95 l0 x10_1).f2)] 95 (0, 0)) (qK BK166) hb)
             have n1_ := Aside0.mk (below_step (by repeat (first | (with_reducible first | exact HB.out | apply below_alloc | apply pw_below_drewN | apply below_drew1 | refine below_set ?_ GE166.out) | exact HB.out)) hb)
             clear BK166
             clear HB
             have BK166 := n0_
             have HB := n1_
             clear n0_ n1_
             (try clear hb)
             (try clear hb2)
             (try clear hk)
             (try clear hi)
             refine hK.out _ _ ⟨(blk_cell BK166.out 0).trans rfl, (blk_cell BK166.out 1).trans rfl, (blk_cell BK166.out 2).trans rfl⟩ (fun hHeld => ?_)
             clear hK K
             refine norm_ (a' := ?_) ?_ ?_
             rotate_left
             ·show Act.put _ (some 52) _ = _
              simp only [Act.put, sA, sZ, sS, i64_w]
              rfl
             refine pure_ (i := 38) (N := some 53) (v := ?_) (a' := ?_) (bR [39, 1]) rfl rfl (any_of HT_.out (by kernel_rfl)) (fun _ _ _ h => h) (Or.inl ⟨by rfl, ?_⟩) ?_ ?_
             rotate_left; (intro w'; go_simp; with_reducible rfl); rotate_left; (simp only [Act.put, sA, sZ, sS, i64_w]; rfl)
             refine pure_ (i := 39) (N := some 54) (v := ?_) (a' := ?_) (bR [40]) rfl rfl (any_of HT_.out (by kernel_rfl)) (fun _ _ _ h => h) (Or.inl ⟨by rfl, ?_⟩) ?_ ?_
             rotate_left; (intro w'; go_simp; with_reducible rfl); rotate_left; (simp only [Act.put, sA, sZ, sS, i64_w]; rfl)
             refine done_ (done_of HT_.out (by kernel_rfl)) ?_
             try go_wp2
             go_ret
             exact ⟨by first | rfl | (simp [errW_none, errW_some] <;> rfl) | (simp [*, errW_none, errW_some] <;> rfl), by repeat (first | (with_reducible first | exact HB.out | apply below_alloc | apply pw_below_drewN | apply below_drew1 | refine below_set ?_ GE166.out) | exact HB.out)⟩
           ·rw [if_neg c50] at H
            exact absurd H (by simp)
          ·replace c48 := Bool.eq_false_iff.mpr c48
           subst c48
           have H1 : (some false) = some r := by rw [if_neg (show ¬ (false = true) by decide)] at H; exact H
           clear H
           have H := H1
           clear H1
           obtain rfl := Option.some.inj H
           have p165 : 0 ≤ (x10_1 : Int) := of_decide_eq_true ‹_›
           have q165 : x10_1 < (l0.length : Int) := of_decide_eq_true ‹_›
           obtain ⟨ad165, e165, hx165_0, hx165_1, hx165_2⟩ := at_T95 HR0.out x10_1 p165 q165
           cases e165
           replace hx165_0 := (HB.out.cell (World.block_lt_of_cell? w _ hx165_0)).trans hx165_0
           replace hx165_1 := (HB.out.cell (World.block_lt_of_cell? w _ hx165_1)).trans hx165_1
           replace hx165_2 := (HB.out.cell (World.block_lt_of_cell? w _ hx165_2)).trans hx165_2
           replace p165 := eq_true p165
           replace q165 := eq_true q165
           try go_wp2_with (first | ((with_reducible refine gate_dst (N := 4) rfl ?_); refine box_event ?hg (N := 4) ?hd (cs := #[.int .i64 0, .int .i64 0, .int .i64 0]) (t := 95) ?hr ?_; (case hd => rfl); (case hg => rfl); (case hr => first | (go_simp; done) | (go_simp; rfl)); intro gb166 hg w65 hbox hb; have n0_ := Aside0.mk (below_step (qB HB) hb); have n1_ := Aside0.mk (hbox); have n2_ := Aside0.mk ((by rw [hg]; exact (below_size (qB HB)) : w.heap.size ≤ gb166)); have n3_ := Aside0.mk ((by rw [hg]; exact (below_size (qB HB)) : w.heap.size ≤ gb166)); clear HB; have HB := n0_; have BK166 := n1_; have GW166 := n2_; have GE166 := n3_; clear n0_ n1_ n2_ n3_; clear hb hbox hg; have hcz66_0 : w65.cell? ⟨gb166, 0, none⟩ = some (.int .i64 0) := (blk_cell BK166.out 0).trans rfl; have hcz66_1 : w65.cell? ⟨gb166, 1, none⟩ = some (.int .i64 0) := (blk_cell BK166.out 1).trans rfl; have hcz66_2 : w65.cell? ⟨gb166, 2, none⟩ = some (.int .i64 0) := (blk_cell BK166.out 2).trans rfl; have hfz66_0 := blk_frozen BK166.out 0; have hfz66_1 := blk_frozen BK166.out 1; have hfz66_2 := blk_frozen BK166.out 2))
           have n0_ : Aside0 ((((w65.setCell ⟨gb166, 0, none⟩ (.int .i64 ((rd_T95 l0 x10_1).f0))).setCell ⟨gb166, 1, none⟩ (.int .i64 ((rd_T95 l0 x10_1).f1))).setCell ⟨gb166, 2, none⟩ (.int .i64 ((rd_T95 l0 x10_1).f2))).heap[gb166]? = some (.cells #[.int .i64 ((rd_T95 l0 x10_1).f0), .int .i64 ((rd_T95 l0 x10_1).f1), .int .i64 ((rd_T95 l0 x10_1).f2)] 95 (0, 0))) := ⟨by (with_reducible repeat (first | refine blk_drewN ?_ _ | refine blk_drew ?_ | refine blk_alloc ?_ _)); refine blk_put (cs := #[.int .i64 ((rd_T95 l0 x10_1).f0), .int .i64 ((rd_T95 l0 x10_1).f1), .int .i64 0]) ?_ 2 _ rfl; (with_reducible repeat (first | refine blk_drewN ?_ _ | refine blk_drew ?_ | refine blk_alloc ?_ _)); refine blk_put (cs := #[.int .i64 ((rd_T95 l0 x10_1).f0), .int .i64 0, .int .i64 0]) ?_ 1 _ rfl; (with_reducible repeat (first | refine blk_drewN ?_ _ | refine blk_drew ?_ | refine blk_alloc ?_ _)); refine blk_put (cs := #[.int .i64 0, .int .i64 0, .int .i64 0]) ?_ 0 _ rfl; (with_reducible repeat (first | refine blk_drewN ?_ _ | refine blk_drew ?_ | refine blk_alloc ?_ _)); exact BK166.out⟩
           have n1_ : Aside0 (Below w.heap.size w (((w65.setCell ⟨gb166, 0, none⟩ (.int .i64 ((rd_T95 l0 x10_1).f0))).setCell ⟨gb166, 1, none⟩ (.int .i64 ((rd_T95 l0 x10_1).f1))).setCell ⟨gb166, 2, none⟩ (.int .i64 ((rd_T95 l0 x10_1).f2)))) := ⟨by repeat (first | (with_reducible first | exact HB.out | apply below_alloc | apply pw_below_drewN | apply below_drew1 | refine below_set ?_ GE166.out) | exact HB.out)⟩
           (try clear BK166)
           (try clear HB)
           generalize (((w65.setCell ⟨gb166, 0, none⟩ (.int .i64 ((rd_T95 l0 x10_1).f0))).setCell ⟨gb166, 1, none⟩ (.int .i64 ((rd_T95 l0 x10_1).f1))).setCell ⟨gb166, 2, none⟩ (.int .i64 ((rd_T95 l0 x10_1).f2))) = w67 at n0_ n1_ ⊢
           have BK166 := n0_
           have HB := n1_
           clear n0_ n1_
           have n0_ := Aside0.mk (blk_drew BK166.out)
           have n1_ := Aside0.mk (below_drew1 HB.out)
           clear BK166
           clear HB
           have BK166 := n0_
           have HB := n1_
           clear n0_ n1_
           refine start_ (n := 40) (S := fun w' => w'.cell? ⟨gb166, 0, none⟩ = some (.int .i64 ((rd_T95 l0 x10_1).f0)) ∧ w'.cell? ⟨gb166, 1, none⟩ = some (.int .i64 ((rd_T95 l0 x10_1).f1)) ∧ w'.cell? ⟨gb166, 2, none⟩ = some (.int .i64 ((rd_T95 l0 x10_1).f2))) (ds := []) (bR [0, 40]) (by kernel_rfl) rfl rfl ⟨(blk_cell BK166.out 0).trans rfl, (blk_cell BK166.out 1).trans rfl, (blk_cell BK166.out 2).trans rfl⟩ (fun hHeld => ?_); refine with_tabW impl_AreSlots.tab6 impl_AreSlots.bits6 (fun HT_ HW_ => ?_)
           generalize w67.drew = w68 at BK166 HB hHeld ⊢
           refine pure_ (i := 0) (N := some 15) (v := ?_) (a' := ?_) (bR [1, 39]) rfl rfl (any_of HT_.out (by kernel_rfl)) (fun _ _ _ h => h) (Or.inl ⟨by rfl, ?_⟩) ?_ ?_
           rotate_left; (intro w'; go_simp; with_reducible rfl); rotate_left; (simp only [Act.put, sA, sZ, sS, i64_w]; rfl)
           refine take_ (i := 1) (N := some 16) (v := ?_) (a' := ?_) (bR [2, 38]) rfl rfl (take_ofW HT_.out HW_.out (by kernel_rfl)) (fun _ _ _ h => h) (Or.inl ⟨by rfl, ?_⟩) hHeld ?_ ?_
           rotate_left; (rintro w' ⟨s0, s1, s2⟩; go_simp; with_reducible rfl); rotate_left; (simp only [Act.put, sA, sZ, sS, i64_w]; rfl)
           refine one_ (i := 2) (N := some 17) (bR [3, 37]) rfl rfl (one_of HT_.out (by kernel_rfl)) (by decide) (fun K hK => ?_)
           refine goes_ Try.func109 (by kernel_rfl) rfl #[.int .i64 ((rd_T95 l0 x10_1).f0), .int .i64 1, .int .i64 99] (by rfl) rfl rfl (by (try simp only [mA, mC, mN]); first | done | rfl | (simp only [lD, lT]; rfl)) ?_
           with_reducible refine (impl_InRange.calls ((rd_T95 l0 x10_1).f0) 1 99 true _ A6.out).mono ?_
           rintro e w' ⟨rfl, ⟨nd, rfl⟩⟩
           refine ⟨_, rfl, ?_⟩
           refine hK.out _ _ ⟨(blk_cell BK166.out 0).trans rfl, (blk_cell BK166.out 1).trans rfl, (blk_cell BK166.out 2).trans rfl⟩ (fun hHeld => ?_)
           clear hK K
           refine norm_ (a' := ?_) ?_ ?_
           rotate_left
           ·show Act.put _ (some 17) _ = _
            simp only [Act.put, sA, sZ, sS, i64_w]
            rfl
           refine pure_ (i := 3) (N := some 18) (v := ?_) (a' := ?_) (bR [4, 36]) rfl rfl (any_of HT_.out (by kernel_rfl)) (fun _ _ _ h => h) (Or.inl ⟨by rfl, ?_⟩) ?_ ?_
           rotate_left; (intro w'; go_simp; with_reducible rfl); rotate_left; (simp only [Act.put, sA, sZ, sS, i64_w]; rfl)
           refine pure_ (i := 4) (N := some 19) (v := ?_) (a' := ?_) (bR [5, 35]) rfl rfl (any_of HT_.out (by kernel_rfl)) (fun _ _ _ h => h) (Or.inl ⟨by rfl, ?_⟩) ?_ ?_
           rotate_left; (intro w'; go_simp; with_reducible rfl); rotate_left; (simp only [Act.put, sA, sZ, sS, i64_w]; rfl)
           refine pure_ (i := 5) (N := some 20) (v := ?_) (a' := ?_) (bR [6, 34]) rfl rfl (any_of HT_.out (by kernel_rfl)) (fun _ _ _ h => h) (Or.inl ⟨by rfl, ?_⟩) ?_ ?_
           rotate_left; (intro w'; go_simp; with_reducible rfl); rotate_left; (simp only [Act.put, sA, sZ, sS, i64_w]; rfl)
           refine pure_ (i := 6) (N := some 21) (v := ?_) (a' := ?_) (bR [7, 33]) rfl rfl (any_of HT_.out (by kernel_rfl)) (fun _ _ _ h => h) (Or.inl ⟨by rfl, ?_⟩) ?_ ?_
           rotate_left; (intro w'; go_simp; with_reducible rfl); rotate_left; (simp only [Act.put, sA, sZ, sS, i64_w]; rfl)
           refine pure_ (i := 7) (N := some 22) (v := ?_) (a' := ?_) (bR [8, 32]) rfl rfl (any_of HT_.out (by kernel_rfl)) (fun _ _ _ h => h) (Or.inl ⟨by rfl, ?_⟩) ?_ ?_
           rotate_left; (intro w'; go_simp; with_reducible rfl); rotate_left; (simp only [Act.put, sA, sZ, sS, i64_w]; rfl)
           refine pure_ (i := 8) (N := some 23) (v := undef) (a' := ?_) (bR [9, 31]) rfl rfl (any_of HT_.out (by kernel_rfl)) (fun _ _ _ h => h) (Or.inr ⟨by rfl, rfl⟩) ?_ ?_
           rotate_left; (simp only [Act.put, sA, sZ, sS, i64_w]; rfl)
           refine pure_ (i := 9) (N := some 24) (v := undef) (a' := ?_) (bR [10, 30]) rfl rfl (any_of HT_.out (by kernel_rfl)) (fun _ _ _ h => h) (Or.inr ⟨by rfl, rfl⟩) ?_ ?_
           rotate_left; (simp only [Act.put, sA, sZ, sS, i64_w]; rfl)
           refine pure_ (i := 10) (N := some 25) (v := undef) (a' := ?_) (bR [11, 29]) rfl rfl (any_of HT_.out (by kernel_rfl)) (fun _ _ _ h => h) (Or.inr ⟨by rfl, rfl⟩) ?_ ?_
           rotate_left; (simp only [Act.put, sA, sZ, sS, i64_w]; rfl)
           refine pure_ (i := 11) (N := some 26) (v := undef) (a' := ?_) (bR [12, 28]) rfl rfl (any_of HT_.out (by kernel_rfl)) (fun _ _ _ h => h) (Or.inr ⟨by rfl, rfl⟩) ?_ ?_
           rotate_left; (simp only [Act.put, sA, sZ, sS, i64_w]; rfl)
           refine pure_ (i := 12) (N := some 27) (v := undef) (a' := ?_) (bR [13, 27]) rfl rfl (any_of HT_.out (by kernel_rfl)) (fun _ _ _ h => h) (Or.inr ⟨by rfl, rfl⟩) ?_ ?_
           rotate_left; (simp only [Act.put, sA, sZ, sS, i64_w]; rfl)
           refine pure_ (i := 13) (N := some 28) (v := undef) (a' := ?_) (bR [14, 26]) rfl rfl (any_of HT_.out (by kernel_rfl)) (fun _ _ _ h => h) (Or.inr ⟨by rfl, rfl⟩) ?_ ?_
           rotate_left; (simp only [Act.put, sA, sZ, sS, i64_w]; rfl)
           refine pure_ (i := 14) (N := some 29) (v := undef) (a' := ?_) (bR [15, 25]) rfl rfl (any_of HT_.out (by kernel_rfl)) (fun _ _ _ h => h) (Or.inr ⟨by rfl, rfl⟩) ?_ ?_
           rotate_left; (simp only [Act.put, sA, sZ, sS, i64_w]; rfl)
           refine pure_ (i := 15) (N := some 30) (v := undef) (a' := ?_) (bR [16, 24]) rfl rfl (any_of HT_.out (by kernel_rfl)) (fun _ _ _ h => h) (Or.inr ⟨by rfl, rfl⟩) ?_ ?_
           rotate_left; (simp only [Act.put, sA, sZ, sS, i64_w]; rfl)
           refine pure_ (i := 16) (N := some 31) (v := undef) (a' := ?_) (bR [17, 23]) rfl rfl (any_of HT_.out (by kernel_rfl)) (fun _ _ _ h => h) (Or.inr ⟨by rfl, rfl⟩) ?_ ?_
           rotate_left; (simp only [Act.put, sA, sZ, sS, i64_w]; rfl)
           refine pure_ (i := 17) (N := some 32) (v := ?_) (a' := ?_) (bR [18, 22]) rfl rfl (any_of HT_.out (by kernel_rfl)) (fun _ _ _ h => h) (Or.inl ⟨by rfl, ?_⟩) ?_ ?_
           rotate_left; (intro w'; go_simp; with_reducible rfl); rotate_left; (simp only [Act.put, sA, sZ, sS, i64_w]; rfl)
           refine pure_ (i := 18) (N := some 33) (v := ?_) (a' := ?_) (bR [19, 21]) rfl rfl (any_of HT_.out (by kernel_rfl)) (fun _ _ _ h => h) (Or.inl ⟨by rfl, ?_⟩) ?_ ?_
           rotate_left; (intro w'; go_simp; with_reducible rfl); rotate_left; (simp only [Act.put, sA, sZ, sS, i64_w]; rfl)
           refine pure_ (i := 19) (N := some 34) (v := ?_) (a' := ?_) (bR [20, 20]) rfl rfl (any_of HT_.out (by kernel_rfl)) (fun _ _ _ h => h) (Or.inl ⟨by rfl, ?_⟩) ?_ ?_
           rotate_left; (intro w'; go_simp; with_reducible rfl); rotate_left; (simp only [Act.put, sA, sZ, sS, i64_w]; rfl)
           refine pure_ (i := 20) (N := some 35) (v := ?_) (a' := ?_) (bR [21, 19]) rfl rfl (any_of HT_.out (by kernel_rfl)) (fun _ _ _ h => h) (Or.inl ⟨by rfl, ?_⟩) ?_ ?_
           rotate_left; (intro w'; go_simp; with_reducible rfl); rotate_left; (simp only [Act.put, sA, sZ, sS, i64_w]; rfl)
           refine take_ (i := 21) (N := some 36) (v := ?_) (a' := ?_) (bR [22, 18]) rfl rfl (take_ofW HT_.out HW_.out (by kernel_rfl)) (fun _ _ _ h => h) (Or.inl ⟨by rfl, ?_⟩) hHeld ?_ ?_
           rotate_left; (rintro w' ⟨s0, s1, s2⟩; go_simp; with_reducible rfl); rotate_left; (simp only [Act.put, sA, sZ, sS, i64_w]; rfl)
           refine one_ (i := 22) (N := some 37) (bR [23, 17]) rfl rfl (one_of HT_.out (by kernel_rfl)) (by decide) (fun K hK => ?_)
           refine goes_ Try.func109 (by kernel_rfl) rfl #[.int .i64 ((rd_T95 l0 x10_1).f1), .int .i64 1, .int .i64 50] (by rfl) rfl rfl (by (try simp only [mA, mC, mN]); first | done | rfl | (simp only [lD, lT]; rfl)) ?_
           with_reducible refine (impl_InRange.calls ((rd_T95 l0 x10_1).f1) 1 50 true _ A45.out).mono ?_
           rintro e w' ⟨rfl, ⟨nd, rfl⟩⟩
           refine ⟨_, rfl, ?_⟩
           refine hK.out _ _ ⟨(blk_cell BK166.out 0).trans rfl, (blk_cell BK166.out 1).trans rfl, (blk_cell BK166.out 2).trans rfl⟩ (fun hHeld => ?_)
           clear hK K
           refine norm_ (a' := ?_) ?_ ?_
           rotate_left
           ·show Act.put _ (some 37) _ = _
            simp only [Act.put, sA, sZ, sS, i64_w]
            rfl
           refine pure_ (i := 23) (N := some 38) (v := ?_) (a' := ?_) (bR [24, 16]) rfl rfl (any_of HT_.out (by kernel_rfl)) (fun _ _ _ h => h) (Or.inl ⟨by rfl, ?_⟩) ?_ ?_
           rotate_left; (intro w'; go_simp; with_reducible rfl); rotate_left; (simp only [Act.put, sA, sZ, sS, i64_w]; rfl)
           refine pure_ (i := 24) (N := some 39) (v := ?_) (a' := ?_) (bR [25, 15]) rfl rfl (any_of HT_.out (by kernel_rfl)) (fun _ _ _ h => h) (Or.inl ⟨by rfl, ?_⟩) ?_ ?_
           rotate_left; (intro w'; go_simp; with_reducible rfl); rotate_left; (simp only [Act.put, sA, sZ, sS, i64_w]; rfl)
           refine pure_ (i := 25) (N := some 40) (v := ?_) (a' := ?_) (bR [26, 14]) rfl rfl (any_of HT_.out (by kernel_rfl)) (fun _ _ _ h => h) (Or.inl ⟨by rfl, ?_⟩) ?_ ?_
           rotate_left; (intro w'; go_simp; with_reducible rfl); rotate_left; (simp only [Act.put, sA, sZ, sS, i64_w]; rfl)
           refine pure_ (i := 26) (N := some 41) (v := ?_) (a' := ?_) (bR [27, 13]) rfl rfl (any_of HT_.out (by kernel_rfl)) (fun _ _ _ h => h) (Or.inl ⟨by rfl, ?_⟩) ?_ ?_
           rotate_left; (intro w'; go_simp; with_reducible rfl); rotate_left; (simp only [Act.put, sA, sZ, sS, i64_w]; rfl)
           refine take_ (i := 27) (N := some 42) (v := ?_) (a' := ?_) (bR [28, 12]) rfl rfl (take_ofW HT_.out HW_.out (by kernel_rfl)) (fun _ _ _ h => h) (Or.inl ⟨by rfl, ?_⟩) hHeld ?_ ?_
           rotate_left; (rintro w' ⟨s0, s1, s2⟩; go_simp; with_reducible rfl); rotate_left; (simp only [Act.put, sA, sZ, sS, i64_w]; rfl)
           refine one_ (i := 28) (N := some 43) (bR [29, 11]) rfl rfl (one_of HT_.out (by kernel_rfl)) (by decide) (fun K hK => ?_)
           refine goes_ Try.func109 (by kernel_rfl) rfl #[.int .i64 ((rd_T95 l0 x10_1).f2), .int .i64 0, .int .i64 999] (by rfl) rfl rfl (by (try simp only [mA, mC, mN]); first | done | rfl | (simp only [lD, lT]; rfl)) ?_
           with_reducible refine (impl_InRange.calls ((rd_T95 l0 x10_1).f2) 0 999 false _ A47.out).mono ?_
           rintro e w' ⟨rfl, ⟨nd, rfl⟩⟩
           refine ⟨_, rfl, ?_⟩
           refine hK.out _ _ ⟨(blk_cell BK166.out 0).trans rfl, (blk_cell BK166.out 1).trans rfl, (blk_cell BK166.out 2).trans rfl⟩ (fun hHeld => ?_)
           clear hK K
           refine norm_ (a' := ?_) ?_ ?_
           rotate_left
           ·show Act.put _ (some 43) _ = _
            simp only [Act.put, sA, sZ, sS, i64_w]
            rfl
           refine pure_ (i := 29) (N := some 44) (v := ?_) (a' := ?_) (bR [30, 10]) rfl rfl (any_of HT_.out (by kernel_rfl)) (fun _ _ _ h => h) (Or.inl ⟨by rfl, ?_⟩) ?_ ?_
           rotate_left; (intro w'; go_simp; with_reducible rfl); rotate_left; (simp only [Act.put, sA, sZ, sS, i64_w]; rfl)
           refine pure_ (i := 30) (N := some 45) (v := ?_) (a' := ?_) (bR [31, 9]) rfl rfl (any_of HT_.out (by kernel_rfl)) (fun _ _ _ h => h) (Or.inl ⟨by rfl, ?_⟩) ?_ ?_
           rotate_left; (intro w'; go_simp; with_reducible rfl); rotate_left; (simp only [Act.put, sA, sZ, sS, i64_w]; rfl)
           refine pure_ (i := 31) (N := some 46) (v := ?_) (a' := ?_) (bR [32, 8]) rfl rfl (any_of HT_.out (by kernel_rfl)) (fun _ _ _ h => h) (Or.inl ⟨by rfl, ?_⟩) ?_ ?_
           rotate_left; (intro w'; go_simp; with_reducible rfl); rotate_left; (simp only [Act.put, sA, sZ, sS, i64_w]; rfl)
           refine pure_ (i := 32) (N := some 47) (v := undef) (a' := ?_) (bR [33, 7]) rfl rfl (any_of HT_.out (by kernel_rfl)) (fun _ _ _ h => h) (Or.inr ⟨by rfl, rfl⟩) ?_ ?_
           rotate_left; (simp only [Act.put, sA, sZ, sS, i64_w]; rfl)
           refine pure_ (i := 33) (N := some 48) (v := undef) (a' := ?_) (bR [34, 6]) rfl rfl (any_of HT_.out (by kernel_rfl)) (fun _ _ _ h => h) (Or.inr ⟨by rfl, rfl⟩) ?_ ?_
           rotate_left; (simp only [Act.put, sA, sZ, sS, i64_w]; rfl)
           refine pure_ (i := 34) (N := some 49) (v := undef) (a' := ?_) (bR [35, 5]) rfl rfl (any_of HT_.out (by kernel_rfl)) (fun _ _ _ h => h) (Or.inr ⟨by rfl, rfl⟩) ?_ ?_
           rotate_left; (simp only [Act.put, sA, sZ, sS, i64_w]; rfl)
           refine pure_ (i := 35) (N := some 50) (v := undef) (a' := ?_) (bR [36, 4]) rfl rfl (any_of HT_.out (by kernel_rfl)) (fun _ _ _ h => h) (Or.inr ⟨by rfl, rfl⟩) ?_ ?_
           rotate_left; (simp only [Act.put, sA, sZ, sS, i64_w]; rfl)
           refine pure_ (i := 36) (N := some 51) (v := undef) (a' := ?_) (bR [37, 3]) rfl rfl (any_of HT_.out (by kernel_rfl)) (fun _ _ _ h => h) (Or.inr ⟨by rfl, rfl⟩) ?_ ?_
           rotate_left; (simp only [Act.put, sA, sZ, sS, i64_w]; rfl)
           refine pure_ (i := 37) (N := some 52) (v := undef) (a' := ?_) (bR [38, 2]) rfl rfl (any_of HT_.out (by kernel_rfl)) (fun _ _ _ h => h) (Or.inr ⟨by rfl, rfl⟩) ?_ ?_
           rotate_left; (simp only [Act.put, sA, sZ, sS, i64_w]; rfl)
           refine pure_ (i := 38) (N := some 53) (v := undef) (a' := ?_) (bR [39, 1]) rfl rfl (any_of HT_.out (by kernel_rfl)) (fun _ _ _ h => h) (Or.inr ⟨by rfl, rfl⟩) ?_ ?_
           rotate_left; (simp only [Act.put, sA, sZ, sS, i64_w]; rfl)
           refine pure_ (i := 39) (N := some 54) (v := ?_) (a' := ?_) (bR [40]) rfl rfl (any_of HT_.out (by kernel_rfl)) (fun _ _ _ h => h) (Or.inl ⟨by rfl, ?_⟩) ?_ ?_
           rotate_left; (intro w'; go_simp; with_reducible rfl); rotate_left; (simp only [Act.put, sA, sZ, sS, i64_w]; rfl)
           refine done_ (done_of HT_.out (by kernel_rfl)) ?_
           try go_wp2
           go_ret
           exact ⟨by first | rfl | (simp [errW_none, errW_some] <;> rfl) | (simp [*, errW_none, errW_some] <;> rfl), by repeat (first | (with_reducible first | exact HB.out | apply below_alloc | apply pw_below_drewN | apply below_drew1 | refine below_set ?_ GE166.out) | exact HB.out)⟩
         ·replace c46 := Bool.eq_false_iff.mpr c46
          subst c46
          have H1 : (some false) = some r := by rw [if_neg (show ¬ (false = true) by decide)] at H; exact H
          clear H
          have H := H1
          clear H1
          obtain rfl := Option.some.inj H
          have p165 : 0 ≤ (x10_1 : Int) := of_decide_eq_true ‹_›
          have q165 : x10_1 < (l0.length : Int) := of_decide_eq_true ‹_›
          obtain ⟨ad165, e165, hx165_0, hx165_1, hx165_2⟩ := at_T95 HR0.out x10_1 p165 q165
          cases e165
          replace hx165_0 := (HB.out.cell (World.block_lt_of_cell? w _ hx165_0)).trans hx165_0
          replace hx165_1 := (HB.out.cell (World.block_lt_of_cell? w _ hx165_1)).trans hx165_1
          replace hx165_2 := (HB.out.cell (World.block_lt_of_cell? w _ hx165_2)).trans hx165_2
          replace p165 := eq_true p165
          replace q165 := eq_true q165
          try go_wp2_with (first | ((with_reducible refine gate_dst (N := 4) rfl ?_); refine box_event ?hg (N := 4) ?hd (cs := #[.int .i64 0, .int .i64 0, .int .i64 0]) (t := 95) ?hr ?_; (case hd => rfl); (case hg => rfl); (case hr => first | (go_simp; done) | (go_simp; rfl)); intro gb166 hg w69 hbox hb; have n0_ := Aside0.mk (below_step (qB HB) hb); have n1_ := Aside0.mk (hbox); have n2_ := Aside0.mk ((by rw [hg]; exact (below_size (qB HB)) : w.heap.size ≤ gb166)); have n3_ := Aside0.mk ((by rw [hg]; exact (below_size (qB HB)) : w.heap.size ≤ gb166)); clear HB; have HB := n0_; have BK166 := n1_; have GW166 := n2_; have GE166 := n3_; clear n0_ n1_ n2_ n3_; clear hb hbox hg; have hcz70_0 : w69.cell? ⟨gb166, 0, none⟩ = some (.int .i64 0) := (blk_cell BK166.out 0).trans rfl; have hcz70_1 : w69.cell? ⟨gb166, 1, none⟩ = some (.int .i64 0) := (blk_cell BK166.out 1).trans rfl; have hcz70_2 : w69.cell? ⟨gb166, 2, none⟩ = some (.int .i64 0) := (blk_cell BK166.out 2).trans rfl; have hfz70_0 := blk_frozen BK166.out 0; have hfz70_1 := blk_frozen BK166.out 1; have hfz70_2 := blk_frozen BK166.out 2))
          have n0_ : Aside0 ((((w69.setCell ⟨gb166, 0, none⟩ (.int .i64 ((rd_T95 l0 x10_1).f0))).setCell ⟨gb166, 1, none⟩ (.int .i64 ((rd_T95 l0 x10_1).f1))).setCell ⟨gb166, 2, none⟩ (.int .i64 ((rd_T95 l0 x10_1).f2))).heap[gb166]? = some (.cells #[.int .i64 ((rd_T95 l0 x10_1).f0), .int .i64 ((rd_T95 l0 x10_1).f1), .int .i64 ((rd_T95 l0 x10_1).f2)] 95 (0, 0))) := ⟨by (with_reducible repeat (first | refine blk_drewN ?_ _ | refine blk_drew ?_ | refine blk_alloc ?_ _)); refine blk_put (cs := #[.int .i64 ((rd_T95 l0 x10_1).f0), .int .i64 ((rd_T95 l0 x10_1).f1), .int .i64 0]) ?_ 2 _ rfl; (with_reducible repeat (first | refine blk_drewN ?_ _ | refine blk_drew ?_ | refine blk_alloc ?_ _)); refine blk_put (cs := #[.int .i64 ((rd_T95 l0 x10_1).f0), .int .i64 0, .int .i64 0]) ?_ 1 _ rfl; (with_reducible repeat (first | refine blk_drewN ?_ _ | refine blk_drew ?_ | refine blk_alloc ?_ _)); refine blk_put (cs := #[.int .i64 0, .int .i64 0, .int .i64 0]) ?_ 0 _ rfl; (with_reducible repeat (first | refine blk_drewN ?_ _ | refine blk_drew ?_ | refine blk_alloc ?_ _)); exact BK166.out⟩
          have n1_ : Aside0 (Below w.heap.size w (((w69.setCell ⟨gb166, 0, none⟩ (.int .i64 ((rd_T95 l0 x10_1).f0))).setCell ⟨gb166, 1, none⟩ (.int .i64 ((rd_T95 l0 x10_1).f1))).setCell ⟨gb166, 2, none⟩ (.int .i64 ((rd_T95 l0 x10_1).f2)))) := ⟨by repeat (first | (with_reducible first | exact HB.out | apply below_alloc | apply pw_below_drewN | apply below_drew1 | refine below_set ?_ GE166.out) | exact HB.out)⟩
          (try clear BK166)
          (try clear HB)
          generalize (((w69.setCell ⟨gb166, 0, none⟩ (.int .i64 ((rd_T95 l0 x10_1).f0))).setCell ⟨gb166, 1, none⟩ (.int .i64 ((rd_T95 l0 x10_1).f1))).setCell ⟨gb166, 2, none⟩ (.int .i64 ((rd_T95 l0 x10_1).f2))) = w71 at n0_ n1_ ⊢
          have BK166 := n0_
          have HB := n1_
          clear n0_ n1_
          have n0_ := Aside0.mk (blk_drew BK166.out)
          have n1_ := Aside0.mk (below_drew1 HB.out)
          clear BK166
          clear HB
          have BK166 := n0_
          have HB := n1_
          clear n0_ n1_
          refine start_ (n := 40) (S := fun w' => w'.cell? ⟨gb166, 0, none⟩ = some (.int .i64 ((rd_T95 l0 x10_1).f0)) ∧ w'.cell? ⟨gb166, 1, none⟩ = some (.int .i64 ((rd_T95 l0 x10_1).f1)) ∧ w'.cell? ⟨gb166, 2, none⟩ = some (.int .i64 ((rd_T95 l0 x10_1).f2))) (ds := []) (bR [0, 40]) (by kernel_rfl) rfl rfl ⟨(blk_cell BK166.out 0).trans rfl, (blk_cell BK166.out 1).trans rfl, (blk_cell BK166.out 2).trans rfl⟩ (fun hHeld => ?_); refine with_tabW impl_AreSlots.tab6 impl_AreSlots.bits6 (fun HT_ HW_ => ?_)
          generalize w71.drew = w72 at BK166 HB hHeld ⊢
          refine pure_ (i := 0) (N := some 15) (v := ?_) (a' := ?_) (bR [1, 39]) rfl rfl (any_of HT_.out (by kernel_rfl)) (fun _ _ _ h => h) (Or.inl ⟨by rfl, ?_⟩) ?_ ?_
          rotate_left; (intro w'; go_simp; with_reducible rfl); rotate_left; (simp only [Act.put, sA, sZ, sS, i64_w]; rfl)
          refine take_ (i := 1) (N := some 16) (v := ?_) (a' := ?_) (bR [2, 38]) rfl rfl (take_ofW HT_.out HW_.out (by kernel_rfl)) (fun _ _ _ h => h) (Or.inl ⟨by rfl, ?_⟩) hHeld ?_ ?_
          rotate_left; (rintro w' ⟨s0, s1, s2⟩; go_simp; with_reducible rfl); rotate_left; (simp only [Act.put, sA, sZ, sS, i64_w]; rfl)
          refine one_ (i := 2) (N := some 17) (bR [3, 37]) rfl rfl (one_of HT_.out (by kernel_rfl)) (by decide) (fun K hK => ?_)
          refine goes_ Try.func109 (by kernel_rfl) rfl #[.int .i64 ((rd_T95 l0 x10_1).f0), .int .i64 1, .int .i64 99] (by rfl) rfl rfl (by (try simp only [mA, mC, mN]); first | done | rfl | (simp only [lD, lT]; rfl)) ?_
          with_reducible refine (impl_InRange.calls ((rd_T95 l0 x10_1).f0) 1 99 true _ A6.out).mono ?_
          rintro e w' ⟨rfl, ⟨nd, rfl⟩⟩
          refine ⟨_, rfl, ?_⟩
          refine hK.out _ _ ⟨(blk_cell BK166.out 0).trans rfl, (blk_cell BK166.out 1).trans rfl, (blk_cell BK166.out 2).trans rfl⟩ (fun hHeld => ?_)
          clear hK K
          refine norm_ (a' := ?_) ?_ ?_
          rotate_left
          ·show Act.put _ (some 17) _ = _
           simp only [Act.put, sA, sZ, sS, i64_w]
           rfl
          refine pure_ (i := 3) (N := some 18) (v := ?_) (a' := ?_) (bR [4, 36]) rfl rfl (any_of HT_.out (by kernel_rfl)) (fun _ _ _ h => h) (Or.inl ⟨by rfl, ?_⟩) ?_ ?_
          rotate_left; (intro w'; go_simp; with_reducible rfl); rotate_left; (simp only [Act.put, sA, sZ, sS, i64_w]; rfl)
          refine pure_ (i := 4) (N := some 19) (v := ?_) (a' := ?_) (bR [5, 35]) rfl rfl (any_of HT_.out (by kernel_rfl)) (fun _ _ _ h => h) (Or.inl ⟨by rfl, ?_⟩) ?_ ?_
          rotate_left; (intro w'; go_simp; with_reducible rfl); rotate_left; (simp only [Act.put, sA, sZ, sS, i64_w]; rfl)
          refine pure_ (i := 5) (N := some 20) (v := ?_) (a' := ?_) (bR [6, 34]) rfl rfl (any_of HT_.out (by kernel_rfl)) (fun _ _ _ h => h) (Or.inl ⟨by rfl, ?_⟩) ?_ ?_
          rotate_left; (intro w'; go_simp; with_reducible rfl); rotate_left; (simp only [Act.put, sA, sZ, sS, i64_w]; rfl)
          refine pure_ (i := 6) (N := some 21) (v := ?_) (a' := ?_) (bR [7, 33]) rfl rfl (any_of HT_.out (by kernel_rfl)) (fun _ _ _ h => h) (Or.inl ⟨by rfl, ?_⟩) ?_ ?_
          rotate_left; (intro w'; go_simp; with_reducible rfl); rotate_left; (simp only [Act.put, sA, sZ, sS, i64_w]; rfl)
          refine pure_ (i := 7) (N := some 22) (v := ?_) (a' := ?_) (bR [8, 32]) rfl rfl (any_of HT_.out (by kernel_rfl)) (fun _ _ _ h => h) (Or.inl ⟨by rfl, ?_⟩) ?_ ?_
          rotate_left; (intro w'; go_simp; with_reducible rfl); rotate_left; (simp only [Act.put, sA, sZ, sS, i64_w]; rfl)
          refine pure_ (i := 8) (N := some 23) (v := undef) (a' := ?_) (bR [9, 31]) rfl rfl (any_of HT_.out (by kernel_rfl)) (fun _ _ _ h => h) (Or.inr ⟨by rfl, rfl⟩) ?_ ?_
          rotate_left; (simp only [Act.put, sA, sZ, sS, i64_w]; rfl)
          refine pure_ (i := 9) (N := some 24) (v := undef) (a' := ?_) (bR [10, 30]) rfl rfl (any_of HT_.out (by kernel_rfl)) (fun _ _ _ h => h) (Or.inr ⟨by rfl, rfl⟩) ?_ ?_
          rotate_left; (simp only [Act.put, sA, sZ, sS, i64_w]; rfl)
          refine pure_ (i := 10) (N := some 25) (v := undef) (a' := ?_) (bR [11, 29]) rfl rfl (any_of HT_.out (by kernel_rfl)) (fun _ _ _ h => h) (Or.inr ⟨by rfl, rfl⟩) ?_ ?_
          rotate_left; (simp only [Act.put, sA, sZ, sS, i64_w]; rfl)
          refine pure_ (i := 11) (N := some 26) (v := undef) (a' := ?_) (bR [12, 28]) rfl rfl (any_of HT_.out (by kernel_rfl)) (fun _ _ _ h => h) (Or.inr ⟨by rfl, rfl⟩) ?_ ?_
          rotate_left; (simp only [Act.put, sA, sZ, sS, i64_w]; rfl)
          refine pure_ (i := 12) (N := some 27) (v := undef) (a' := ?_) (bR [13, 27]) rfl rfl (any_of HT_.out (by kernel_rfl)) (fun _ _ _ h => h) (Or.inr ⟨by rfl, rfl⟩) ?_ ?_
          rotate_left; (simp only [Act.put, sA, sZ, sS, i64_w]; rfl)
          refine pure_ (i := 13) (N := some 28) (v := undef) (a' := ?_) (bR [14, 26]) rfl rfl (any_of HT_.out (by kernel_rfl)) (fun _ _ _ h => h) (Or.inr ⟨by rfl, rfl⟩) ?_ ?_
          rotate_left; (simp only [Act.put, sA, sZ, sS, i64_w]; rfl)
          refine pure_ (i := 14) (N := some 29) (v := undef) (a' := ?_) (bR [15, 25]) rfl rfl (any_of HT_.out (by kernel_rfl)) (fun _ _ _ h => h) (Or.inr ⟨by rfl, rfl⟩) ?_ ?_
          rotate_left; (simp only [Act.put, sA, sZ, sS, i64_w]; rfl)
          refine pure_ (i := 15) (N := some 30) (v := undef) (a' := ?_) (bR [16, 24]) rfl rfl (any_of HT_.out (by kernel_rfl)) (fun _ _ _ h => h) (Or.inr ⟨by rfl, rfl⟩) ?_ ?_
          rotate_left; (simp only [Act.put, sA, sZ, sS, i64_w]; rfl)
          refine pure_ (i := 16) (N := some 31) (v := undef) (a' := ?_) (bR [17, 23]) rfl rfl (any_of HT_.out (by kernel_rfl)) (fun _ _ _ h => h) (Or.inr ⟨by rfl, rfl⟩) ?_ ?_
          rotate_left; (simp only [Act.put, sA, sZ, sS, i64_w]; rfl)
          refine pure_ (i := 17) (N := some 32) (v := ?_) (a' := ?_) (bR [18, 22]) rfl rfl (any_of HT_.out (by kernel_rfl)) (fun _ _ _ h => h) (Or.inl ⟨by rfl, ?_⟩) ?_ ?_
          rotate_left; (intro w'; go_simp; with_reducible rfl); rotate_left; (simp only [Act.put, sA, sZ, sS, i64_w]; rfl)
          refine pure_ (i := 18) (N := some 33) (v := ?_) (a' := ?_) (bR [19, 21]) rfl rfl (any_of HT_.out (by kernel_rfl)) (fun _ _ _ h => h) (Or.inl ⟨by rfl, ?_⟩) ?_ ?_
          rotate_left; (intro w'; go_simp; with_reducible rfl); rotate_left; (simp only [Act.put, sA, sZ, sS, i64_w]; rfl)
          refine pure_ (i := 19) (N := some 34) (v := ?_) (a' := ?_) (bR [20, 20]) rfl rfl (any_of HT_.out (by kernel_rfl)) (fun _ _ _ h => h) (Or.inl ⟨by rfl, ?_⟩) ?_ ?_
          rotate_left; (intro w'; go_simp; with_reducible rfl); rotate_left; (simp only [Act.put, sA, sZ, sS, i64_w]; rfl)
          refine pure_ (i := 20) (N := some 35) (v := ?_) (a' := ?_) (bR [21, 19]) rfl rfl (any_of HT_.out (by kernel_rfl)) (fun _ _ _ h => h) (Or.inl ⟨by rfl, ?_⟩) ?_ ?_
          rotate_left; (intro w'; go_simp; with_reducible rfl); rotate_left; (simp only [Act.put, sA, sZ, sS, i64_w]; rfl)
          refine take_ (i := 21) (N := some 36) (v := ?_) (a' := ?_) (bR [22, 18]) rfl rfl (take_ofW HT_.out HW_.out (by kernel_rfl)) (fun _ _ _ h => h) (Or.inl ⟨by rfl, ?_⟩) hHeld ?_ ?_
          rotate_left; (rintro w' ⟨s0, s1, s2⟩; go_simp; with_reducible rfl); rotate_left; (simp only [Act.put, sA, sZ, sS, i64_w]; rfl)
          refine one_ (i := 22) (N := some 37) (bR [23, 17]) rfl rfl (one_of HT_.out (by kernel_rfl)) (by decide) (fun K hK => ?_)
          refine goes_ Try.func109 (by kernel_rfl) rfl #[.int .i64 ((rd_T95 l0 x10_1).f1), .int .i64 1, .int .i64 50] (by rfl) rfl rfl (by (try simp only [mA, mC, mN]); first | done | rfl | (simp only [lD, lT]; rfl)) ?_
          with_reducible refine (impl_InRange.calls ((rd_T95 l0 x10_1).f1) 1 50 false _ A45.out).mono ?_
          rintro e w' ⟨rfl, ⟨nd, rfl⟩⟩
          refine ⟨_, rfl, ?_⟩
          refine hK.out _ _ ⟨(blk_cell BK166.out 0).trans rfl, (blk_cell BK166.out 1).trans rfl, (blk_cell BK166.out 2).trans rfl⟩ (fun hHeld => ?_)
          clear hK K
          refine norm_ (a' := ?_) ?_ ?_
          rotate_left
          ·show Act.put _ (some 37) _ = _
           simp only [Act.put, sA, sZ, sS, i64_w]
           rfl
          refine pure_ (i := 23) (N := some 38) (v := ?_) (a' := ?_) (bR [24, 16]) rfl rfl (any_of HT_.out (by kernel_rfl)) (fun _ _ _ h => h) (Or.inl ⟨by rfl, ?_⟩) ?_ ?_
          rotate_left; (intro w'; go_simp; with_reducible rfl); rotate_left; (simp only [Act.put, sA, sZ, sS, i64_w]; rfl)
          refine pure_ (i := 24) (N := some 39) (v := ?_) (a' := ?_) (bR [25, 15]) rfl rfl (any_of HT_.out (by kernel_rfl)) (fun _ _ _ h => h) (Or.inl ⟨by rfl, ?_⟩) ?_ ?_
          rotate_left; (intro w'; go_simp; with_reducible rfl); rotate_left; (simp only [Act.put, sA, sZ, sS, i64_w]; rfl)
          refine pure_ (i := 25) (N := some 40) (v := ?_) (a' := ?_) (bR [26, 14]) rfl rfl (any_of HT_.out (by kernel_rfl)) (fun _ _ _ h => h) (Or.inl ⟨by rfl, ?_⟩) ?_ ?_
          rotate_left; (intro w'; go_simp; with_reducible rfl); rotate_left; (simp only [Act.put, sA, sZ, sS, i64_w]; rfl)
          refine pure_ (i := 26) (N := some 41) (v := undef) (a' := ?_) (bR [27, 13]) rfl rfl (any_of HT_.out (by kernel_rfl)) (fun _ _ _ h => h) (Or.inr ⟨by rfl, rfl⟩) ?_ ?_
          rotate_left; (simp only [Act.put, sA, sZ, sS, i64_w]; rfl)
          refine pure_ (i := 27) (N := some 42) (v := undef) (a' := ?_) (bR [28, 12]) rfl rfl (any_of HT_.out (by kernel_rfl)) (fun _ _ _ h => h) (Or.inr ⟨by rfl, rfl⟩) ?_ ?_
          rotate_left; (simp only [Act.put, sA, sZ, sS, i64_w]; rfl)
          refine pure_ (i := 28) (N := some 43) (v := undef) (a' := ?_) (bR [29, 11]) rfl rfl (any_of HT_.out (by kernel_rfl)) (fun _ _ _ h => h) (Or.inr ⟨by rfl, rfl⟩) ?_ ?_
          rotate_left; (simp only [Act.put, sA, sZ, sS, i64_w]; rfl)
          refine pure_ (i := 29) (N := some 44) (v := undef) (a' := ?_) (bR [30, 10]) rfl rfl (any_of HT_.out (by kernel_rfl)) (fun _ _ _ h => h) (Or.inr ⟨by rfl, rfl⟩) ?_ ?_
          rotate_left; (simp only [Act.put, sA, sZ, sS, i64_w]; rfl)
          refine pure_ (i := 30) (N := some 45) (v := ?_) (a' := ?_) (bR [31, 9]) rfl rfl (any_of HT_.out (by kernel_rfl)) (fun _ _ _ h => h) (Or.inl ⟨by rfl, ?_⟩) ?_ ?_
          rotate_left; (intro w'; go_simp; with_reducible rfl); rotate_left; (simp only [Act.put, sA, sZ, sS, i64_w]; rfl)
          refine pure_ (i := 31) (N := some 46) (v := ?_) (a' := ?_) (bR [32, 8]) rfl rfl (any_of HT_.out (by kernel_rfl)) (fun _ _ _ h => h) (Or.inl ⟨by rfl, ?_⟩) ?_ ?_
          rotate_left; (intro w'; go_simp; with_reducible rfl); rotate_left; (simp only [Act.put, sA, sZ, sS, i64_w]; rfl)
          refine pure_ (i := 32) (N := some 47) (v := undef) (a' := ?_) (bR [33, 7]) rfl rfl (any_of HT_.out (by kernel_rfl)) (fun _ _ _ h => h) (Or.inr ⟨by rfl, rfl⟩) ?_ ?_
          rotate_left; (simp only [Act.put, sA, sZ, sS, i64_w]; rfl)
          refine pure_ (i := 33) (N := some 48) (v := undef) (a' := ?_) (bR [34, 6]) rfl rfl (any_of HT_.out (by kernel_rfl)) (fun _ _ _ h => h) (Or.inr ⟨by rfl, rfl⟩) ?_ ?_
          rotate_left; (simp only [Act.put, sA, sZ, sS, i64_w]; rfl)
          refine pure_ (i := 34) (N := some 49) (v := undef) (a' := ?_) (bR [35, 5]) rfl rfl (any_of HT_.out (by kernel_rfl)) (fun _ _ _ h => h) (Or.inr ⟨by rfl, rfl⟩) ?_ ?_
          rotate_left; (simp only [Act.put, sA, sZ, sS, i64_w]; rfl)
          refine pure_ (i := 35) (N := some 50) (v := undef) (a' := ?_) (bR [36, 4]) rfl rfl (any_of HT_.out (by kernel_rfl)) (fun _ _ _ h => h) (Or.inr ⟨by rfl, rfl⟩) ?_ ?_
          rotate_left; (simp only [Act.put, sA, sZ, sS, i64_w]; rfl)
          refine pure_ (i := 36) (N := some 51) (v := undef) (a' := ?_) (bR [37, 3]) rfl rfl (any_of HT_.out (by kernel_rfl)) (fun _ _ _ h => h) (Or.inr ⟨by rfl, rfl⟩) ?_ ?_
          rotate_left; (simp only [Act.put, sA, sZ, sS, i64_w]; rfl)
          refine pure_ (i := 37) (N := some 52) (v := undef) (a' := ?_) (bR [38, 2]) rfl rfl (any_of HT_.out (by kernel_rfl)) (fun _ _ _ h => h) (Or.inr ⟨by rfl, rfl⟩) ?_ ?_
          rotate_left; (simp only [Act.put, sA, sZ, sS, i64_w]; rfl)
          refine pure_ (i := 38) (N := some 53) (v := undef) (a' := ?_) (bR [39, 1]) rfl rfl (any_of HT_.out (by kernel_rfl)) (fun _ _ _ h => h) (Or.inr ⟨by rfl, rfl⟩) ?_ ?_
          rotate_left; (simp only [Act.put, sA, sZ, sS, i64_w]; rfl)
          refine pure_ (i := 39) (N := some 54) (v := ?_) (a' := ?_) (bR [40]) rfl rfl (any_of HT_.out (by kernel_rfl)) (fun _ _ _ h => h) (Or.inl ⟨by rfl, ?_⟩) ?_ ?_
          rotate_left; (intro w'; go_simp; with_reducible rfl); rotate_left; (simp only [Act.put, sA, sZ, sS, i64_w]; rfl)
          refine done_ (done_of HT_.out (by kernel_rfl)) ?_
          try go_wp2
          go_ret
          exact ⟨by first | rfl | (simp [errW_none, errW_some] <;> rfl) | (simp [*, errW_none, errW_some] <;> rfl), by repeat (first | (with_reducible first | exact HB.out | apply below_alloc | apply pw_below_drewN | apply below_drew1 | refine below_set ?_ GE166.out) | exact HB.out)⟩
       ·replace c7 := Bool.eq_false_iff.mpr c7
        subst c7
        have H1 : (some false) = some r := by rw [if_neg (show ¬ (false = true) by decide)] at H; exact H
        clear H
        have H := H1
        clear H1
        obtain rfl := Option.some.inj H
        have p165 : 0 ≤ (x10_1 : Int) := of_decide_eq_true ‹_›
        have q165 : x10_1 < (l0.length : Int) := of_decide_eq_true ‹_›
        obtain ⟨ad165, e165, hx165_0, hx165_1, hx165_2⟩ := at_T95 HR0.out x10_1 p165 q165
        cases e165
        replace hx165_0 := (HB.out.cell (World.block_lt_of_cell? w _ hx165_0)).trans hx165_0
        replace hx165_1 := (HB.out.cell (World.block_lt_of_cell? w _ hx165_1)).trans hx165_1
        replace hx165_2 := (HB.out.cell (World.block_lt_of_cell? w _ hx165_2)).trans hx165_2
        replace p165 := eq_true p165
        replace q165 := eq_true q165
        try go_wp2_with (first | ((with_reducible refine gate_dst (N := 4) rfl ?_); refine box_event ?hg (N := 4) ?hd (cs := #[.int .i64 0, .int .i64 0, .int .i64 0]) (t := 95) ?hr ?_; (case hd => rfl); (case hg => rfl); (case hr => first | (go_simp; done) | (go_simp; rfl)); intro gb166 hg w73 hbox hb; have n0_ := Aside0.mk (below_step (qB HB) hb); have n1_ := Aside0.mk (hbox); have n2_ := Aside0.mk ((by rw [hg]; exact (below_size (qB HB)) : w.heap.size ≤ gb166)); have n3_ := Aside0.mk ((by rw [hg]; exact (below_size (qB HB)) : w.heap.size ≤ gb166)); clear HB; have HB := n0_; have BK166 := n1_; have GW166 := n2_; have GE166 := n3_; clear n0_ n1_ n2_ n3_; clear hb hbox hg; have hcz74_0 : w73.cell? ⟨gb166, 0, none⟩ = some (.int .i64 0) := (blk_cell BK166.out 0).trans rfl; have hcz74_1 : w73.cell? ⟨gb166, 1, none⟩ = some (.int .i64 0) := (blk_cell BK166.out 1).trans rfl; have hcz74_2 : w73.cell? ⟨gb166, 2, none⟩ = some (.int .i64 0) := (blk_cell BK166.out 2).trans rfl; have hfz74_0 := blk_frozen BK166.out 0; have hfz74_1 := blk_frozen BK166.out 1; have hfz74_2 := blk_frozen BK166.out 2))
        have n0_ : Aside0 ((((w73.setCell ⟨gb166, 0, none⟩ (.int .i64 ((rd_T95 l0 x10_1).f0))).setCell ⟨gb166, 1, none⟩ (.int .i64 ((rd_T95 l0 x10_1).f1))).setCell ⟨gb166, 2, none⟩ (.int .i64 ((rd_T95 l0 x10_1).f2))).heap[gb166]? = some (.cells #[.int .i64 ((rd_T95 l0 x10_1).f0), .int .i64 ((rd_T95 l0 x10_1).f1), .int .i64 ((rd_T95 l0 x10_1).f2)] 95 (0, 0))) := ⟨by (with_reducible repeat (first | refine blk_drewN ?_ _ | refine blk_drew ?_ | refine blk_alloc ?_ _)); refine blk_put (cs := #[.int .i64 ((rd_T95 l0 x10_1).f0), .int .i64 ((rd_T95 l0 x10_1).f1), .int .i64 0]) ?_ 2 _ rfl; (with_reducible repeat (first | refine blk_drewN ?_ _ | refine blk_drew ?_ | refine blk_alloc ?_ _)); refine blk_put (cs := #[.int .i64 ((rd_T95 l0 x10_1).f0), .int .i64 0, .int .i64 0]) ?_ 1 _ rfl; (with_reducible repeat (first | refine blk_drewN ?_ _ | refine blk_drew ?_ | refine blk_alloc ?_ _)); refine blk_put (cs := #[.int .i64 0, .int .i64 0, .int .i64 0]) ?_ 0 _ rfl; (with_reducible repeat (first | refine blk_drewN ?_ _ | refine blk_drew ?_ | refine blk_alloc ?_ _)); exact BK166.out⟩
        have n1_ : Aside0 (Below w.heap.size w (((w73.setCell ⟨gb166, 0, none⟩ (.int .i64 ((rd_T95 l0 x10_1).f0))).setCell ⟨gb166, 1, none⟩ (.int .i64 ((rd_T95 l0 x10_1).f1))).setCell ⟨gb166, 2, none⟩ (.int .i64 ((rd_T95 l0 x10_1).f2)))) := ⟨by repeat (first | (with_reducible first | exact HB.out | apply below_alloc | apply pw_below_drewN | apply below_drew1 | refine below_set ?_ GE166.out) | exact HB.out)⟩
        (try clear BK166)
        (try clear HB)
        generalize (((w73.setCell ⟨gb166, 0, none⟩ (.int .i64 ((rd_T95 l0 x10_1).f0))).setCell ⟨gb166, 1, none⟩ (.int .i64 ((rd_T95 l0 x10_1).f1))).setCell ⟨gb166, 2, none⟩ (.int .i64 ((rd_T95 l0 x10_1).f2))) = w75 at n0_ n1_ ⊢
        have BK166 := n0_
        have HB := n1_
        clear n0_ n1_
        have n0_ := Aside0.mk (blk_drew BK166.out)
        have n1_ := Aside0.mk (below_drew1 HB.out)
        clear BK166
        clear HB
        have BK166 := n0_
        have HB := n1_
        clear n0_ n1_
        refine start_ (n := 40) (S := fun w' => w'.cell? ⟨gb166, 0, none⟩ = some (.int .i64 ((rd_T95 l0 x10_1).f0)) ∧ w'.cell? ⟨gb166, 1, none⟩ = some (.int .i64 ((rd_T95 l0 x10_1).f1)) ∧ w'.cell? ⟨gb166, 2, none⟩ = some (.int .i64 ((rd_T95 l0 x10_1).f2))) (ds := []) (bR [0, 40]) (by kernel_rfl) rfl rfl ⟨(blk_cell BK166.out 0).trans rfl, (blk_cell BK166.out 1).trans rfl, (blk_cell BK166.out 2).trans rfl⟩ (fun hHeld => ?_); refine with_tabW impl_AreSlots.tab6 impl_AreSlots.bits6 (fun HT_ HW_ => ?_)
        generalize w75.drew = w76 at BK166 HB hHeld ⊢
        refine pure_ (i := 0) (N := some 15) (v := ?_) (a' := ?_) (bR [1, 39]) rfl rfl (any_of HT_.out (by kernel_rfl)) (fun _ _ _ h => h) (Or.inl ⟨by rfl, ?_⟩) ?_ ?_
        rotate_left; (intro w'; go_simp; with_reducible rfl); rotate_left; (simp only [Act.put, sA, sZ, sS, i64_w]; rfl)
        refine take_ (i := 1) (N := some 16) (v := ?_) (a' := ?_) (bR [2, 38]) rfl rfl (take_ofW HT_.out HW_.out (by kernel_rfl)) (fun _ _ _ h => h) (Or.inl ⟨by rfl, ?_⟩) hHeld ?_ ?_
        rotate_left; (rintro w' ⟨s0, s1, s2⟩; go_simp; with_reducible rfl); rotate_left; (simp only [Act.put, sA, sZ, sS, i64_w]; rfl)
        refine one_ (i := 2) (N := some 17) (bR [3, 37]) rfl rfl (one_of HT_.out (by kernel_rfl)) (by decide) (fun K hK => ?_)
        refine goes_ Try.func109 (by kernel_rfl) rfl #[.int .i64 ((rd_T95 l0 x10_1).f0), .int .i64 1, .int .i64 99] (by rfl) rfl rfl (by (try simp only [mA, mC, mN]); first | done | rfl | (simp only [lD, lT]; rfl)) ?_
        with_reducible refine (impl_InRange.calls ((rd_T95 l0 x10_1).f0) 1 99 false _ A6.out).mono ?_
        rintro e w' ⟨rfl, ⟨nd, rfl⟩⟩
        refine ⟨_, rfl, ?_⟩
        refine hK.out _ _ ⟨(blk_cell BK166.out 0).trans rfl, (blk_cell BK166.out 1).trans rfl, (blk_cell BK166.out 2).trans rfl⟩ (fun hHeld => ?_)
        clear hK K
        refine norm_ (a' := ?_) ?_ ?_
        rotate_left
        ·show Act.put _ (some 17) _ = _
         simp only [Act.put, sA, sZ, sS, i64_w]
         rfl
        refine pure_ (i := 3) (N := some 18) (v := ?_) (a' := ?_) (bR [4, 36]) rfl rfl (any_of HT_.out (by kernel_rfl)) (fun _ _ _ h => h) (Or.inl ⟨by rfl, ?_⟩) ?_ ?_
        rotate_left; (intro w'; go_simp; with_reducible rfl); rotate_left; (simp only [Act.put, sA, sZ, sS, i64_w]; rfl)
        refine pure_ (i := 4) (N := some 19) (v := ?_) (a' := ?_) (bR [5, 35]) rfl rfl (any_of HT_.out (by kernel_rfl)) (fun _ _ _ h => h) (Or.inl ⟨by rfl, ?_⟩) ?_ ?_
        rotate_left; (intro w'; go_simp; with_reducible rfl); rotate_left; (simp only [Act.put, sA, sZ, sS, i64_w]; rfl)
        refine pure_ (i := 5) (N := some 20) (v := undef) (a' := ?_) (bR [6, 34]) rfl rfl (any_of HT_.out (by kernel_rfl)) (fun _ _ _ h => h) (Or.inr ⟨by rfl, rfl⟩) ?_ ?_
        rotate_left; (simp only [Act.put, sA, sZ, sS, i64_w]; rfl)
        refine pure_ (i := 6) (N := some 21) (v := undef) (a' := ?_) (bR [7, 33]) rfl rfl (any_of HT_.out (by kernel_rfl)) (fun _ _ _ h => h) (Or.inr ⟨by rfl, rfl⟩) ?_ ?_
        rotate_left; (simp only [Act.put, sA, sZ, sS, i64_w]; rfl)
        refine pure_ (i := 7) (N := some 22) (v := undef) (a' := ?_) (bR [8, 32]) rfl rfl (any_of HT_.out (by kernel_rfl)) (fun _ _ _ h => h) (Or.inr ⟨by rfl, rfl⟩) ?_ ?_
        rotate_left; (simp only [Act.put, sA, sZ, sS, i64_w]; rfl)
        refine pure_ (i := 8) (N := some 23) (v := undef) (a' := ?_) (bR [9, 31]) rfl rfl (any_of HT_.out (by kernel_rfl)) (fun _ _ _ h => h) (Or.inr ⟨by rfl, rfl⟩) ?_ ?_
        rotate_left; (simp only [Act.put, sA, sZ, sS, i64_w]; rfl)
        refine pure_ (i := 9) (N := some 24) (v := undef) (a' := ?_) (bR [10, 30]) rfl rfl (any_of HT_.out (by kernel_rfl)) (fun _ _ _ h => h) (Or.inr ⟨by rfl, rfl⟩) ?_ ?_
        rotate_left; (simp only [Act.put, sA, sZ, sS, i64_w]; rfl)
        refine pure_ (i := 10) (N := some 25) (v := undef) (a' := ?_) (bR [11, 29]) rfl rfl (any_of HT_.out (by kernel_rfl)) (fun _ _ _ h => h) (Or.inr ⟨by rfl, rfl⟩) ?_ ?_
        rotate_left; (simp only [Act.put, sA, sZ, sS, i64_w]; rfl)
        refine pure_ (i := 11) (N := some 26) (v := undef) (a' := ?_) (bR [12, 28]) rfl rfl (any_of HT_.out (by kernel_rfl)) (fun _ _ _ h => h) (Or.inr ⟨by rfl, rfl⟩) ?_ ?_
        rotate_left; (simp only [Act.put, sA, sZ, sS, i64_w]; rfl)
        refine pure_ (i := 12) (N := some 27) (v := undef) (a' := ?_) (bR [13, 27]) rfl rfl (any_of HT_.out (by kernel_rfl)) (fun _ _ _ h => h) (Or.inr ⟨by rfl, rfl⟩) ?_ ?_
        rotate_left; (simp only [Act.put, sA, sZ, sS, i64_w]; rfl)
        refine pure_ (i := 13) (N := some 28) (v := undef) (a' := ?_) (bR [14, 26]) rfl rfl (any_of HT_.out (by kernel_rfl)) (fun _ _ _ h => h) (Or.inr ⟨by rfl, rfl⟩) ?_ ?_
        rotate_left; (simp only [Act.put, sA, sZ, sS, i64_w]; rfl)
        refine pure_ (i := 14) (N := some 29) (v := undef) (a' := ?_) (bR [15, 25]) rfl rfl (any_of HT_.out (by kernel_rfl)) (fun _ _ _ h => h) (Or.inr ⟨by rfl, rfl⟩) ?_ ?_
        rotate_left; (simp only [Act.put, sA, sZ, sS, i64_w]; rfl)
        refine pure_ (i := 15) (N := some 30) (v := undef) (a' := ?_) (bR [16, 24]) rfl rfl (any_of HT_.out (by kernel_rfl)) (fun _ _ _ h => h) (Or.inr ⟨by rfl, rfl⟩) ?_ ?_
        rotate_left; (simp only [Act.put, sA, sZ, sS, i64_w]; rfl)
        refine pure_ (i := 16) (N := some 31) (v := undef) (a' := ?_) (bR [17, 23]) rfl rfl (any_of HT_.out (by kernel_rfl)) (fun _ _ _ h => h) (Or.inr ⟨by rfl, rfl⟩) ?_ ?_
        rotate_left; (simp only [Act.put, sA, sZ, sS, i64_w]; rfl)
        refine pure_ (i := 17) (N := some 32) (v := undef) (a' := ?_) (bR [18, 22]) rfl rfl (any_of HT_.out (by kernel_rfl)) (fun _ _ _ h => h) (Or.inr ⟨by rfl, rfl⟩) ?_ ?_
        rotate_left; (simp only [Act.put, sA, sZ, sS, i64_w]; rfl)
        refine pure_ (i := 18) (N := some 33) (v := ?_) (a' := ?_) (bR [19, 21]) rfl rfl (any_of HT_.out (by kernel_rfl)) (fun _ _ _ h => h) (Or.inl ⟨by rfl, ?_⟩) ?_ ?_
        rotate_left; (intro w'; go_simp; with_reducible rfl); rotate_left; (simp only [Act.put, sA, sZ, sS, i64_w]; rfl)
        refine pure_ (i := 19) (N := some 34) (v := ?_) (a' := ?_) (bR [20, 20]) rfl rfl (any_of HT_.out (by kernel_rfl)) (fun _ _ _ h => h) (Or.inl ⟨by rfl, ?_⟩) ?_ ?_
        rotate_left; (intro w'; go_simp; with_reducible rfl); rotate_left; (simp only [Act.put, sA, sZ, sS, i64_w]; rfl)
        refine pure_ (i := 20) (N := some 35) (v := undef) (a' := ?_) (bR [21, 19]) rfl rfl (any_of HT_.out (by kernel_rfl)) (fun _ _ _ h => h) (Or.inr ⟨by rfl, rfl⟩) ?_ ?_
        rotate_left; (simp only [Act.put, sA, sZ, sS, i64_w]; rfl)
        refine pure_ (i := 21) (N := some 36) (v := undef) (a' := ?_) (bR [22, 18]) rfl rfl (any_of HT_.out (by kernel_rfl)) (fun _ _ _ h => h) (Or.inr ⟨by rfl, rfl⟩) ?_ ?_
        rotate_left; (simp only [Act.put, sA, sZ, sS, i64_w]; rfl)
        refine pure_ (i := 22) (N := some 37) (v := undef) (a' := ?_) (bR [23, 17]) rfl rfl (any_of HT_.out (by kernel_rfl)) (fun _ _ _ h => h) (Or.inr ⟨by rfl, rfl⟩) ?_ ?_
        rotate_left; (simp only [Act.put, sA, sZ, sS, i64_w]; rfl)
        refine pure_ (i := 23) (N := some 38) (v := undef) (a' := ?_) (bR [24, 16]) rfl rfl (any_of HT_.out (by kernel_rfl)) (fun _ _ _ h => h) (Or.inr ⟨by rfl, rfl⟩) ?_ ?_
        rotate_left; (simp only [Act.put, sA, sZ, sS, i64_w]; rfl)
        refine pure_ (i := 24) (N := some 39) (v := ?_) (a' := ?_) (bR [25, 15]) rfl rfl (any_of HT_.out (by kernel_rfl)) (fun _ _ _ h => h) (Or.inl ⟨by rfl, ?_⟩) ?_ ?_
        rotate_left; (intro w'; go_simp; with_reducible rfl); rotate_left; (simp only [Act.put, sA, sZ, sS, i64_w]; rfl)
        refine pure_ (i := 25) (N := some 40) (v := ?_) (a' := ?_) (bR [26, 14]) rfl rfl (any_of HT_.out (by kernel_rfl)) (fun _ _ _ h => h) (Or.inl ⟨by rfl, ?_⟩) ?_ ?_
        rotate_left; (intro w'; go_simp; with_reducible rfl); rotate_left; (simp only [Act.put, sA, sZ, sS, i64_w]; rfl)
        refine pure_ (i := 26) (N := some 41) (v := undef) (a' := ?_) (bR [27, 13]) rfl rfl (any_of HT_.out (by kernel_rfl)) (fun _ _ _ h => h) (Or.inr ⟨by rfl, rfl⟩) ?_ ?_
        rotate_left; (simp only [Act.put, sA, sZ, sS, i64_w]; rfl)
        refine pure_ (i := 27) (N := some 42) (v := undef) (a' := ?_) (bR [28, 12]) rfl rfl (any_of HT_.out (by kernel_rfl)) (fun _ _ _ h => h) (Or.inr ⟨by rfl, rfl⟩) ?_ ?_
        rotate_left; (simp only [Act.put, sA, sZ, sS, i64_w]; rfl)
        refine pure_ (i := 28) (N := some 43) (v := undef) (a' := ?_) (bR [29, 11]) rfl rfl (any_of HT_.out (by kernel_rfl)) (fun _ _ _ h => h) (Or.inr ⟨by rfl, rfl⟩) ?_ ?_
        rotate_left; (simp only [Act.put, sA, sZ, sS, i64_w]; rfl)
        refine pure_ (i := 29) (N := some 44) (v := undef) (a' := ?_) (bR [30, 10]) rfl rfl (any_of HT_.out (by kernel_rfl)) (fun _ _ _ h => h) (Or.inr ⟨by rfl, rfl⟩) ?_ ?_
        rotate_left; (simp only [Act.put, sA, sZ, sS, i64_w]; rfl)
        refine pure_ (i := 30) (N := some 45) (v := ?_) (a' := ?_) (bR [31, 9]) rfl rfl (any_of HT_.out (by kernel_rfl)) (fun _ _ _ h => h) (Or.inl ⟨by rfl, ?_⟩) ?_ ?_
        rotate_left; (intro w'; go_simp; with_reducible rfl); rotate_left; (simp only [Act.put, sA, sZ, sS, i64_w]; rfl)
        refine pure_ (i := 31) (N := some 46) (v := ?_) (a' := ?_) (bR [32, 8]) rfl rfl (any_of HT_.out (by kernel_rfl)) (fun _ _ _ h => h) (Or.inl ⟨by rfl, ?_⟩) ?_ ?_
        rotate_left; (intro w'; go_simp; with_reducible rfl); rotate_left; (simp only [Act.put, sA, sZ, sS, i64_w]; rfl)
        refine pure_ (i := 32) (N := some 47) (v := undef) (a' := ?_) (bR [33, 7]) rfl rfl (any_of HT_.out (by kernel_rfl)) (fun _ _ _ h => h) (Or.inr ⟨by rfl, rfl⟩) ?_ ?_
        rotate_left; (simp only [Act.put, sA, sZ, sS, i64_w]; rfl)
        refine pure_ (i := 33) (N := some 48) (v := undef) (a' := ?_) (bR [34, 6]) rfl rfl (any_of HT_.out (by kernel_rfl)) (fun _ _ _ h => h) (Or.inr ⟨by rfl, rfl⟩) ?_ ?_
        rotate_left; (simp only [Act.put, sA, sZ, sS, i64_w]; rfl)
        refine pure_ (i := 34) (N := some 49) (v := undef) (a' := ?_) (bR [35, 5]) rfl rfl (any_of HT_.out (by kernel_rfl)) (fun _ _ _ h => h) (Or.inr ⟨by rfl, rfl⟩) ?_ ?_
        rotate_left; (simp only [Act.put, sA, sZ, sS, i64_w]; rfl)
        refine pure_ (i := 35) (N := some 50) (v := undef) (a' := ?_) (bR [36, 4]) rfl rfl (any_of HT_.out (by kernel_rfl)) (fun _ _ _ h => h) (Or.inr ⟨by rfl, rfl⟩) ?_ ?_
        rotate_left; (simp only [Act.put, sA, sZ, sS, i64_w]; rfl)
        refine pure_ (i := 36) (N := some 51) (v := undef) (a' := ?_) (bR [37, 3]) rfl rfl (any_of HT_.out (by kernel_rfl)) (fun _ _ _ h => h) (Or.inr ⟨by rfl, rfl⟩) ?_ ?_
        rotate_left; (simp only [Act.put, sA, sZ, sS, i64_w]; rfl)
        refine pure_ (i := 37) (N := some 52) (v := undef) (a' := ?_) (bR [38, 2]) rfl rfl (any_of HT_.out (by kernel_rfl)) (fun _ _ _ h => h) (Or.inr ⟨by rfl, rfl⟩) ?_ ?_
        rotate_left; (simp only [Act.put, sA, sZ, sS, i64_w]; rfl)
        refine pure_ (i := 38) (N := some 53) (v := undef) (a' := ?_) (bR [39, 1]) rfl rfl (any_of HT_.out (by kernel_rfl)) (fun _ _ _ h => h) (Or.inr ⟨by rfl, rfl⟩) ?_ ?_
        rotate_left; (simp only [Act.put, sA, sZ, sS, i64_w]; rfl)
        refine pure_ (i := 39) (N := some 54) (v := ?_) (a' := ?_) (bR [40]) rfl rfl (any_of HT_.out (by kernel_rfl)) (fun _ _ _ h => h) (Or.inl ⟨by rfl, ?_⟩) ?_ ?_
        rotate_left; (intro w'; go_simp; with_reducible rfl); rotate_left; (simp only [Act.put, sA, sZ, sS, i64_w]; rfl)
        refine done_ (done_of HT_.out (by kernel_rfl)) ?_
        try go_wp2
        go_ret
        exact ⟨by first | rfl | (simp [errW_none, errW_some] <;> rfl) | (simp [*, errW_none, errW_some] <;> rfl), by repeat (first | (with_reducible first | exact HB.out | apply below_alloc | apply pw_below_drewN | apply below_drew1 | refine below_set ?_ GE166.out) | exact HB.out)⟩
      ·rw [if_neg c5] at H
       exact absurd H (by simp)
     ·rw [if_neg c4] at H
      exact absurd H (by simp)
    ·rw [if_neg c3] at H
     have c3b0 : decide (x10_1 < (l0.length : Int)) = false := decide_eq_false c3
     clear c3
     obtain rfl := Option.some.inj H
     go_wp2
     go_ret
     exact ⟨by first | rfl | (simp [errW_none, errW_some] <;> rfl) | (simp [*, errW_none, errW_some] <;> rfl), by repeat (first | (with_reducible first | exact HB.out | apply below_alloc | apply pw_below_drewN | apply below_drew1) | exact HB.out)⟩

end Go.Proofs.Ytbbfelgojaioaaa.PFnExactPutAway
