-- The printed functions of one law and their contracts, over contracts of this session's own (hand.py).
import Derived.Test.YtkfalbaklodnjaaPFnShelvesx0
import Derived.Test.YtkfalbaklodnjaaPFnShelvesx6
import Derived.Test.YtkfalbaklodnjaaPFnShelvesx7
namespace Go.Proofs.Ytkfalbaklodnjaa.PFnShelves
open Go.RowKit Go.Proofs.YtkfalbaklodnjaaW.PrintWords Go.Proofs.YtkfalbaklodnjaaW.PrintLast Go.Proofs.YtkfalbaklodnjaaW.PrintMore Go.Proofs.Ytkfalbaklodnjaa.Short
attribute [local go_sem] max2_int min2_int max_two min_two max_three min_three max_four min_four   -- for this text's walks alone
set_option linter.unusedVariables false
set_option linter.unusedSimpArgs false

/-! ### impl_Slot_124: function 124 -/
def impl_Slot_124.f (l0 : List (S78)) : Option ((List (S78))) := (some (([] : List (S78)) : List (S78))).bind fun y316 => (if y316.length + l0.length < 5864062014805 then (some (y316 ++ l0)) else (none))
set_option maxHeartbeats 8000000 in
set_option maxRecDepth 100000 in
theorem impl_Slot_124.calls (A0 : Option Addr) (c0 : Nat) (l0 : List (S78)) (r : List (S78)) (w : World) (hr0 : Kd.C k78 w A0 l0.length l0) (hc0 : l0.length ≤ c0) (h : impl_Slot_124.f l0 = some r) :
  Calls Try.prog 124 #[.slice A0 l0.length c0] w fun e w' => ∃ v0_ : Value, e = .returned (v0_) ∧ Kd.R k78 78 w' w.heap.size (fun _ => True) v0_ r ∧ Below w.heap.size w w' := by
 have q_ : ∀ (w : World) (a : Option Addr) (n c n' c' : Nat), (binOp .eql 54 (.slice a n c) (.slice none n' c')).run Try.prog w = .ok (.bool a.isNone) w := fun w a n c n' c' => Lib.run_eql_slice_nil w _ _ a n c n' c' Try.underlying54
 cases A0 with
 | none =>
  have hl : l0 = [] := by
   cases l0 with
   | nil => rfl
   | cons x xs => obtain ⟨ad, he, _⟩ := hr0.2.2 (by simp); cases he
  subst hl
  obtain rfl : r = [] := by
   have h2 : some ([] : List (S78)) = some r := h
   injection h2 with h2
   exact h2.symm
  clear h hr0 hc0
  go_enter Try.func124, Try.ntmps124
  go_wp2
  go_ret
  exact ⟨_, rfl, Kd.R_nil _ _ _ _ _, Below.refl _ _⟩
 | some ad =>
  have HR0 := Aside0.mk hr0
  have HC0 := Aside0.mk hc0
  clear hr0 hc0
  have HB := Aside0.mk (Below.refl w.heap.size w)
  have H : ((some (([] : List (S78)) : List (S78))).bind fun y316 => (if y316.length + l0.length < 5864062014805 then (some (y316 ++ l0)) else (none))) = some r := h
  clear h
  obtain ⟨y316, hy316⟩ : ∃ y_ : List (S78), y_ = (([] : List (S78))) := ⟨_, rfl⟩
  replace H : (if y316.length + l0.length < 5864062014805 then (some (y316 ++ l0)) else (none)) = some r := by first | (rw [hy316]; with_reducible exact H) | (have H2_ := (Option.bind_some _ _).symm.trans H; rw [hy316]; with_reducible exact H2_) | (have H2_ := (Option.bind_some _ _).symm.trans H; with_reducible exact H2_) | with_reducible exact H | (rw [hy316]; exact H) | exact H
  have Ny316 := Aside0.mk hy316
  clear hy316
  by_cases c2 : y316.length + l0.length < 5864062014805
  ·rw [if_pos c2] at H
   have LMc2 := Aside0.mk c2
   clear c2
   obtain ⟨y319, hy319⟩ : ∃ y_ : List (S78), y_ = (y316 ++ l0) := ⟨_, rfl⟩
   replace H : (some y319) = some r := by first | (rw [hy319]; with_reducible exact H) | (have H2_ := (Option.bind_some _ _).symm.trans H; rw [hy319]; with_reducible exact H2_) | (have H2_ := (Option.bind_some _ _).symm.trans H; with_reducible exact H2_) | with_reducible exact H | (rw [hy319]; exact H) | exact H
   have Ny319 := Aside0.mk hy319
   clear hy319
   obtain rfl := Option.some.inj H
   go_enter Try.func124, Try.ntmps124
   go_wp2_with (first | ((with_reducible refine gate_dst (N := 5) rfl ?_); refine Kd.R_lit k78 _ 78 ?hg (N := 5) ?hd (xs := ([] : List (S78))) (inner := []) (ok := fun _ => True) (okp := fun _ => True) ?hr ?hp (fun _ hk => hk) trivial (Below.refl _ _) (Nat.le_refl _) (by simp) ?_; (case hd => rfl); (case hg => rfl); (case hr => first | (go_simp; done) | (go_simp; rfl)); (case hp => exact (Reps.none _ _)); intro v317 w3 ho4 hb hg_ hnew_; clear hg_ hnew_; (first | rw [← Ny316.out] at ho4 | (simp only [Int.reduceToNat] at ho4; rw [← Ny316.out] at ho4)); have n0_ := Aside0.mk (Kd.R_lower ho4 (below_size (qB HB))); have n1_ := Aside0.mk (below_step (qB HB) hb); clear HB; have HO318 := n0_; have HB := n1_; clear n0_ n1_; clear hb ho4) | ((with_reducible refine gate_builtin (b := .append) (xs := #[.tmp 5, .tmp 6]) rfl ?_); at_builtin; refine Kd.R_append_rows k78 (w0 := w) w.heap.size rfl (.tmp 5) (.tmp 6) 54 78 (.agg #[(.int .i64 0), (.int .i64 0), (.int .i64 0)]) 24 rfl Try.underlying54 info78 rfl (by decide) (by omega) v317 y316 l0 _ _ _ (fun _ => True) (fun _ => False) rfl rfl ?aO ?aR (fun _ _ h => h) (fun _ h => h.elim) ?aF ?aB ?aS ?aL ?_; (case aR => exact qC (Kd.C_below HR0.out HB.out)); (case aB => exact (qB HB)); (case aF => exact (fun _ _ => trivial)); (case aO => exact (qR HO318)); (case aS => exact (below_size (qB HB))); (case aL => have := LMc2.out; omega); intro v320 w5 ho hb hg hat; rw [← Ny319.out] at ho; have n0_ := Aside0.mk (hb); have n1_ := Aside0.mk (ho); clear HB; clear HO318; have HB := n0_; have HO321 := n1_; clear n0_ n1_; clear ho hb hg hat))
   go_ret
   exact ⟨_, by first | rfl | (simp [errW_none, errW_some] <;> rfl) | (simp [*, errW_none, errW_some] <;> rfl), by (with_reducible repeat first | apply rA | apply rN | apply rD); exact HO321.out, by repeat (first | (with_reducible first | exact HB.out | apply bA | apply bN | apply bD) | exact HB.out)⟩
  ·rw [if_neg c2] at H
   exact absurd H (by simp)

/-! ### impl_freeFor: function 135 -/
def impl_freeFor.l0 : Nat → List (S78) → Int → Int → List (S78) → Int → Int → Option (Int)
 | 0, _, _, _, _, _, _ => none
 | k + 1, x0, x1, x5, x8, x9, x10 => if x10 < x9 then (if 0 ≤ x10 then (if x10 < (x8.length : Int) then (if ((rd_T78 x8 x10).f2) = 0 then (if ((rd_T78 x8 x10).f1) ≥ x1 then (if x5 < 0 then (impl_freeFor.l0 k x0 x1 x10 x8 x9 (wrap64 (x10 + 1))) else (if 0 ≤ x5 then (if x5 < (x0.length : Int) then (if ((rd_T78 x8 x10).f1) < ((rd_T78 x0 x5).f1) then (impl_freeFor.l0 k x0 x1 x10 x8 x9 (wrap64 (x10 + 1))) else (impl_freeFor.l0 k x0 x1 x5 x8 x9 (wrap64 (x10 + 1)))) else (none)) else (none))) else (impl_freeFor.l0 k x0 x1 x5 x8 x9 (wrap64 (x10 + 1)))) else (impl_freeFor.l0 k x0 x1 x5 x8 x9 (wrap64 (x10 + 1)))) else (none)) else (none)) else (some x5)
def impl_freeFor.f (k : Nat) (l0 : List (S78)) (a1 : Int) : Option (Int) := impl_freeFor.l0 k l0 a1 (-1) l0 (l0.length : Int) 0
theorem impl_freeFor.mono_l : ∀ k, (∀ y0 y1 y2 y3 y4 y5, LeO (impl_freeFor.l0 k y0 y1 y2 y3 y4 y5) (impl_freeFor.l0 (k + 1) y0 y1 y2 y3 y4 y5))
 | 0 => fun _ _ _ _ _ _ r h => by simp [impl_freeFor.l0] at h
 | k + 1 => by
  have ih0 := impl_freeFor.mono_l k
  ·intro y0 y1 y2 y3 y4 y5
   unfold impl_freeFor.l0
   repeat' first
   | (with_reducible exact ih0 _ _ _ _ _ _)
   | (with_reducible exact LeO.refl _)
   | (with_reducible exact LeO.none _)
   | (with_reducible refine LeO.ite ?_ ?_)
   | (with_reducible refine LeO.bind ?_ (fun _ => ?_))
   | exact ih0 _ _ _ _ _ _
   | exact LeO.none _
   | refine LeO.ite ?_ ?_
   | refine LeO.bind ?_ (fun _ => ?_)
theorem impl_freeFor.mono : ∀ a0 a1 k, LeO (impl_freeFor.f k a0 a1) (impl_freeFor.f (k + 1) a0 a1) := by
 intro a0 a1 k
 have ih0 := impl_freeFor.mono_l k
 unfold impl_freeFor.f
 repeat' first
   | (with_reducible exact ih0 _ _ _ _ _ _)
   | (with_reducible exact LeO.refl _)
   | (with_reducible exact LeO.none _)
   | (with_reducible refine LeO.ite ?_ ?_)
   | (with_reducible refine LeO.bind ?_ (fun _ => ?_))
   | exact ih0 _ _ _ _ _ _
   | exact LeO.none _
   | refine LeO.ite ?_ ?_
   | refine LeO.bind ?_ (fun _ => ?_)
set_option maxHeartbeats 8000000 in
set_option maxRecDepth 100000 in
theorem impl_freeFor.calls (k : Nat) (A0 : Option Addr) (c0 : Nat) (l0 : List (S78)) (a1 : Int) (r : Int) (w : World) (hr0 : Kd.C k78 w A0 l0.length l0) (hc0 : l0.length ≤ c0) (h : impl_freeFor.f k l0 a1 = some r) :
  Calls Try.prog 135 #[.slice A0 l0.length c0, .int .i64 a1] w fun e w' => e = .returned (.int .i64 r) ∧ Below w.heap.size w w' := by
 have hu78 := Try.underlying78
 have HR0 := Aside0.mk hr0
 have HC0 := Aside0.mk hc0
 clear hr0 hc0
 have HB := Aside0.mk (Below.refl w.heap.size w)
 have H : (impl_freeFor.l0 k l0 a1 (-1) l0 (l0.length : Int) 0) = some r := h
 clear h
 have H' := Aside0.mk H
 clear H
 go_enter Try.func135, Try.ntmps135
 go_wp2
 repeat (go_quiet (fail); try go_wp2)
 go_loopg [5, 10] k (fun kq v5 v10 w' => ∃ (x5_1 : Int) (x10_1 : Int), v5 = .int .i64 x5_1 ∧ v10 = .int .i64 x10_1 ∧ Aside0 (impl_freeFor.l0 kq l0 a1 x5_1 l0 (l0.length : Int) x10_1 = some r) ∧ Aside0 (kq ≤ k) ∧ Aside0 (Below w.heap.size w w'))
 case atStart => exact ⟨((-1)), (0), (by first | rfl | (simp; done) | (simp [*]; done)), (by first | rfl | (simp; done) | (simp [*]; done)), H', ⟨Nat.le_refl _⟩, ⟨by repeat (first | (with_reducible first | exact HB.out | apply bA | apply bN | apply bD) | exact HB.out)⟩⟩
 case round =>
  clear H'
  try clear c1
  try clear p2
  obtain ⟨x5_1, x10_1, rfl, rfl, HA, HK1, HB⟩ := hrel
  cases gk with
  | zero => exact absurd HA.out (by simp [impl_freeFor.l0])
  | succ k1 =>
   have H := HA.out
   clear HA
   simp only [impl_freeFor.l0] at H
   by_cases c3 : x10_1 < (l0.length : Int)
   ·rw [if_pos c3] at H
    have c3b0 : decide (x10_1 < (l0.length : Int)) = true := decide_eq_true c3
    clear c3
    by_cases c4 : 0 ≤ x10_1
    ·rw [if_pos c4] at H
     have c4b0 : decide (0 ≤ x10_1) = true := decide_eq_true c4
     clear c4
     by_cases c5 : x10_1 < (l0.length : Int)
     ·rw [if_pos c5] at H
      have c5b0 : decide (x10_1 < (l0.length : Int)) = true := decide_eq_true c5
      clear c5
      by_cases c6 : ((rd_T78 l0 x10_1).f2) = 0
      ·rw [if_pos c6] at H
       have c6b0 : (((rd_T78 l0 x10_1).f2) == 0) = true := beq_iff_eq.mpr c6
       have c6b1 : (((rd_T78 l0 x10_1).f2) != 0) = false := bne_eq_false_iff_eq.mpr c6
       clear c6
       by_cases c7 : ((rd_T78 l0 x10_1).f1) ≥ a1
       ·rw [if_pos c7] at H
        have c7b0 : decide (a1 ≤ ((rd_T78 l0 x10_1).f1)) = true := decide_eq_true c7
        clear c7
        by_cases c8 : x5_1 < 0
        ·rw [if_pos c8] at H
         have c8b0 : decide (x5_1 < 0) = true := decide_eq_true c8
         clear c8
         have H' := Aside0.mk H
         clear H
         have p322 : 0 ≤ (x10_1 : Int) := of_decide_eq_true ‹_›
         have q322 : x10_1 < (l0.length : Int) := of_decide_eq_true ‹_›
         obtain ⟨ad322, e322, hx322_0, hx322_1, hx322_2⟩ := at_T78 HR0.out x10_1 p322 q322
         cases e322
         replace hx322_0 := (HB.out.cell (World.block_lt_of_cell? w _ hx322_0)).trans hx322_0
         replace hx322_1 := (HB.out.cell (World.block_lt_of_cell? w _ hx322_1)).trans hx322_1
         replace hx322_2 := (HB.out.cell (World.block_lt_of_cell? w _ hx322_2)).trans hx322_2
         replace p322 := eq_true p322
         replace q322 := eq_true q322
         go_wp2_with (first | ((with_reducible refine gate_dst (N := 7) rfl ?_); refine box_event ?hg (N := 7) ?hd (cs := #[.int .i64 0, .int .i64 0, .int .i64 0]) (t := 78) ?hr ?_; (case hd => rfl); (case hg => rfl); (case hr => first | (go_simp; done) | (go_simp; rfl)); intro gb323 hg w9 hbox hb; have n0_ := Aside0.mk (below_step (qB HB) hb); have n1_ := Aside0.mk (hbox); have n2_ := Aside0.mk ((by rw [hg]; exact (below_size (qB HB)) : w.heap.size ≤ gb323)); have n3_ := Aside0.mk ((by rw [hg]; exact (below_size (qB HB)) : w.heap.size ≤ gb323)); clear HB; have HB := n0_; have BK323 := n1_; have GW323 := n2_; have GE323 := n3_; clear n0_ n1_ n2_ n3_; clear hb hbox hg; have hcz10_0 : w9.cell? ⟨gb323, 0, none⟩ = some (.int .i64 0) := cC BK323 0; have hcz10_1 : w9.cell? ⟨gb323, 1, none⟩ = some (.int .i64 0) := cC BK323 1; have hcz10_2 : w9.cell? ⟨gb323, 2, none⟩ = some (.int .i64 0) := cC BK323 2; have hfz10_0 := blk_frozen BK323.out 0; have hfz10_1 := blk_frozen BK323.out 1; have hfz10_2 := blk_frozen BK323.out 2))
         repeat (go_quiet (first | ((with_reducible refine gate_dst (N := 7) rfl ?_); refine box_event ?hg (N := 7) ?hd (cs := #[.int .i64 0, .int .i64 0, .int .i64 0]) (t := 78) ?hr ?_; (case hd => rfl); (case hg => rfl); (case hr => first | (go_simp; done) | (go_simp; rfl)); intro gb323 hg w9 hbox hb; have n0_ := Aside0.mk (below_step (qB HB) hb); have n1_ := Aside0.mk (hbox); have n2_ := Aside0.mk ((by rw [hg]; exact (below_size (qB HB)) : w.heap.size ≤ gb323)); have n3_ := Aside0.mk ((by rw [hg]; exact (below_size (qB HB)) : w.heap.size ≤ gb323)); clear HB; have HB := n0_; have BK323 := n1_; have GW323 := n2_; have GE323 := n3_; clear n0_ n1_ n2_ n3_; clear hb hbox hg; have hcz10_0 : w9.cell? ⟨gb323, 0, none⟩ = some (.int .i64 0) := cC BK323 0; have hcz10_1 : w9.cell? ⟨gb323, 1, none⟩ = some (.int .i64 0) := cC BK323 1; have hcz10_2 : w9.cell? ⟨gb323, 2, none⟩ = some (.int .i64 0) := cC BK323 2; have hfz10_0 := blk_frozen BK323.out 0; have hfz10_1 := blk_frozen BK323.out 1; have hfz10_2 := blk_frozen BK323.out 2)); try go_wp2_with (first | ((with_reducible refine gate_dst (N := 7) rfl ?_); refine box_event ?hg (N := 7) ?hd (cs := #[.int .i64 0, .int .i64 0, .int .i64 0]) (t := 78) ?hr ?_; (case hd => rfl); (case hg => rfl); (case hr => first | (go_simp; done) | (go_simp; rfl)); intro gb323 hg w9 hbox hb; have n0_ := Aside0.mk (below_step (qB HB) hb); have n1_ := Aside0.mk (hbox); have n2_ := Aside0.mk ((by rw [hg]; exact (below_size (qB HB)) : w.heap.size ≤ gb323)); have n3_ := Aside0.mk ((by rw [hg]; exact (below_size (qB HB)) : w.heap.size ≤ gb323)); clear HB; have HB := n0_; have BK323 := n1_; have GW323 := n2_; have GE323 := n3_; clear n0_ n1_ n2_ n3_; clear hb hbox hg; have hcz10_0 : w9.cell? ⟨gb323, 0, none⟩ = some (.int .i64 0) := cC BK323 0; have hcz10_1 : w9.cell? ⟨gb323, 1, none⟩ = some (.int .i64 0) := cC BK323 1; have hcz10_2 : w9.cell? ⟨gb323, 2, none⟩ = some (.int .i64 0) := cC BK323 2; have hfz10_0 := blk_frozen BK323.out 0; have hfz10_1 := blk_frozen BK323.out 1; have hfz10_2 := blk_frozen BK323.out 2)))
         go_roundg k1
         case measure => have := HK1.out; omega
         case rel => exact ⟨(x10_1), (wrap64 (x10_1 + 1)), (by first | rfl | (simp; done) | (simp [*]; done)), (by first | rfl | (simp; done) | (simp [*]; done)), H', ⟨by have := HK1.out; omega⟩, ⟨by repeat (first | (with_reducible first | exact HB.out | apply bA | apply bN | apply bD | refine bS ?_ GE323.out) | exact HB.out)⟩⟩
        ·rw [if_neg c8] at H
         have c8b0 : decide (x5_1 < 0) = false := decide_eq_false c8
         clear c8
         by_cases c11 : 0 ≤ x5_1
         ·rw [if_pos c11] at H
          have c11b0 : decide (0 ≤ x5_1) = true := decide_eq_true c11
          clear c11
          by_cases c12 : x5_1 < (l0.length : Int)
          ·rw [if_pos c12] at H
           have c12b0 : decide (x5_1 < (l0.length : Int)) = true := decide_eq_true c12
           clear c12
           by_cases c13 : ((rd_T78 l0 x10_1).f1) < ((rd_T78 l0 x5_1).f1)
           ·rw [if_pos c13] at H
            have c13b0 : decide (((rd_T78 l0 x10_1).f1) < ((rd_T78 l0 x5_1).f1)) = true := decide_eq_true c13
            clear c13
            have H' := Aside0.mk H
            clear H
            have p322 : 0 ≤ (x10_1 : Int) := of_decide_eq_true ‹_›
            have q322 : x10_1 < (l0.length : Int) := of_decide_eq_true ‹_›
            obtain ⟨ad322, e322, hx322_0, hx322_1, hx322_2⟩ := at_T78 HR0.out x10_1 p322 q322
            cases e322
            replace hx322_0 := (HB.out.cell (World.block_lt_of_cell? w _ hx322_0)).trans hx322_0
            replace hx322_1 := (HB.out.cell (World.block_lt_of_cell? w _ hx322_1)).trans hx322_1
            replace hx322_2 := (HB.out.cell (World.block_lt_of_cell? w _ hx322_2)).trans hx322_2
            replace p322 := eq_true p322
            replace q322 := eq_true q322
            go_wp2_with (first | ((with_reducible refine gate_dst (N := 7) rfl ?_); refine box_event ?hg (N := 7) ?hd (cs := #[.int .i64 0, .int .i64 0, .int .i64 0]) (t := 78) ?hr ?_; (case hd => rfl); (case hg => rfl); (case hr => first | (go_simp; done) | (go_simp; rfl)); intro gb323 hg w14 hbox hb; have n0_ := Aside0.mk (below_step (qB HB) hb); have n1_ := Aside0.mk (hbox); have n2_ := Aside0.mk ((by rw [hg]; exact (below_size (qB HB)) : w.heap.size ≤ gb323)); have n3_ := Aside0.mk ((by rw [hg]; exact (below_size (qB HB)) : w.heap.size ≤ gb323)); clear HB; have HB := n0_; have BK323 := n1_; have GW323 := n2_; have GE323 := n3_; clear n0_ n1_ n2_ n3_; clear hb hbox hg; have hcz15_0 : w14.cell? ⟨gb323, 0, none⟩ = some (.int .i64 0) := cC BK323 0; have hcz15_1 : w14.cell? ⟨gb323, 1, none⟩ = some (.int .i64 0) := cC BK323 1; have hcz15_2 : w14.cell? ⟨gb323, 2, none⟩ = some (.int .i64 0) := cC BK323 2; have hfz15_0 := blk_frozen BK323.out 0; have hfz15_1 := blk_frozen BK323.out 1; have hfz15_2 := blk_frozen BK323.out 2; have p324 : 0 ≤ (x5_1 : Int) := of_decide_eq_true ‹_›; have q324 : x5_1 < (l0.length : Int) := of_decide_eq_true ‹_›; obtain ⟨ad324, e324, hx324_0, hx324_1, hx324_2⟩ := at_T78 HR0.out x5_1 p324 q324; obtain rfl : ad322 = ad324 := (by injection e324); have hn324_0 : ad322.block ≠ gb323 := Nat.ne_of_lt (Nat.lt_of_lt_of_le (by have := World.block_lt_of_cell? _ _ hx324_0; first | rwa [add_block] at this | exact this) GW323.out); have hn324_1 : ad322.block ≠ gb323 := Nat.ne_of_lt (Nat.lt_of_lt_of_le (by have := World.block_lt_of_cell? _ _ hx324_0; first | rwa [add_block] at this | exact this) GW323.out); have hn324_2 : ad322.block ≠ gb323 := Nat.ne_of_lt (Nat.lt_of_lt_of_le (by have := World.block_lt_of_cell? _ _ hx324_0; first | rwa [add_block] at this | exact this) GW323.out); replace hx324_0 := (HB.out.cell (World.block_lt_of_cell? w _ hx324_0)).trans hx324_0; replace hx324_1 := (HB.out.cell (World.block_lt_of_cell? w _ hx324_1)).trans hx324_1; replace hx324_2 := (HB.out.cell (World.block_lt_of_cell? w _ hx324_2)).trans hx324_2; replace hx324_0 := (cell_far (p := ⟨gb323, 0, none⟩) (by first | (rw [add_block]; exact hn324_0) | (show (Addr.add _ _).block ≠ _; rw [add_block]; exact hn324_0) | exact hn324_0) (.int .i64 ((rd_T78 l0 x10_1).f0))).trans hx324_0; replace hx324_1 := (cell_far (p := ⟨gb323, 0, none⟩) (by first | (rw [add_block]; exact hn324_0) | (show (Addr.add _ _).block ≠ _; rw [add_block]; exact hn324_0) | exact hn324_0) (.int .i64 ((rd_T78 l0 x10_1).f0))).trans hx324_1; replace hx324_2 := (cell_far (p := ⟨gb323, 0, none⟩) (by first | (rw [add_block]; exact hn324_0) | (show (Addr.add _ _).block ≠ _; rw [add_block]; exact hn324_0) | exact hn324_0) (.int .i64 ((rd_T78 l0 x10_1).f0))).trans hx324_2; replace hx324_0 := (cell_far (p := ⟨gb323, 1, none⟩) (by first | (rw [add_block]; exact hn324_1) | (show (Addr.add _ _).block ≠ _; rw [add_block]; exact hn324_1) | exact hn324_1) (.int .i64 ((rd_T78 l0 x10_1).f1))).trans hx324_0; replace hx324_1 := (cell_far (p := ⟨gb323, 1, none⟩) (by first | (rw [add_block]; exact hn324_1) | (show (Addr.add _ _).block ≠ _; rw [add_block]; exact hn324_1) | exact hn324_1) (.int .i64 ((rd_T78 l0 x10_1).f1))).trans hx324_1; replace hx324_2 := (cell_far (p := ⟨gb323, 1, none⟩) (by first | (rw [add_block]; exact hn324_1) | (show (Addr.add _ _).block ≠ _; rw [add_block]; exact hn324_1) | exact hn324_1) (.int .i64 ((rd_T78 l0 x10_1).f1))).trans hx324_2; replace hx324_0 := (cell_far (p := ⟨gb323, 2, none⟩) (by first | (rw [add_block]; exact hn324_2) | (show (Addr.add _ _).block ≠ _; rw [add_block]; exact hn324_2) | exact hn324_2) (.int .i64 ((rd_T78 l0 x10_1).f2))).trans hx324_0; replace hx324_1 := (cell_far (p := ⟨gb323, 2, none⟩) (by first | (rw [add_block]; exact hn324_2) | (show (Addr.add _ _).block ≠ _; rw [add_block]; exact hn324_2) | exact hn324_2) (.int .i64 ((rd_T78 l0 x10_1).f2))).trans hx324_1; replace hx324_2 := (cell_far (p := ⟨gb323, 2, none⟩) (by first | (rw [add_block]; exact hn324_2) | (show (Addr.add _ _).block ≠ _; rw [add_block]; exact hn324_2) | exact hn324_2) (.int .i64 ((rd_T78 l0 x10_1).f2))).trans hx324_2; (try have hy324_0 := fun (n_ : Nat) => (show (((((w14.drewN n_).setCell ⟨gb323, 0, none⟩ (.int .i64 ((rd_T78 l0 x10_1).f0))).setCell ⟨gb323, 1, none⟩ (.int .i64 ((rd_T78 l0 x10_1).f1))).setCell ⟨gb323, 2, none⟩ (.int .i64 ((rd_T78 l0 x10_1).f2)))).cell? _ = some _ from hx324_0)); (try have hy324_1 := fun (n_ : Nat) => (show (((((w14.drewN n_).setCell ⟨gb323, 0, none⟩ (.int .i64 ((rd_T78 l0 x10_1).f0))).setCell ⟨gb323, 1, none⟩ (.int .i64 ((rd_T78 l0 x10_1).f1))).setCell ⟨gb323, 2, none⟩ (.int .i64 ((rd_T78 l0 x10_1).f2)))).cell? _ = some _ from hx324_1)); (try have hy324_2 := fun (n_ : Nat) => (show (((((w14.drewN n_).setCell ⟨gb323, 0, none⟩ (.int .i64 ((rd_T78 l0 x10_1).f0))).setCell ⟨gb323, 1, none⟩ (.int .i64 ((rd_T78 l0 x10_1).f1))).setCell ⟨gb323, 2, none⟩ (.int .i64 ((rd_T78 l0 x10_1).f2)))).cell? _ = some _ from hx324_2)); clear hn324_0; clear hn324_1; clear hn324_2; replace p324 := eq_true p324; replace q324 := eq_true q324))
            repeat (go_quiet (first | ((with_reducible refine gate_dst (N := 7) rfl ?_); refine box_event ?hg (N := 7) ?hd (cs := #[.int .i64 0, .int .i64 0, .int .i64 0]) (t := 78) ?hr ?_; (case hd => rfl); (case hg => rfl); (case hr => first | (go_simp; done) | (go_simp; rfl)); intro gb323 hg w14 hbox hb; have n0_ := Aside0.mk (below_step (qB HB) hb); have n1_ := Aside0.mk (hbox); have n2_ := Aside0.mk ((by rw [hg]; exact (below_size (qB HB)) : w.heap.size ≤ gb323)); have n3_ := Aside0.mk ((by rw [hg]; exact (below_size (qB HB)) : w.heap.size ≤ gb323)); clear HB; have HB := n0_; have BK323 := n1_; have GW323 := n2_; have GE323 := n3_; clear n0_ n1_ n2_ n3_; clear hb hbox hg; have hcz15_0 : w14.cell? ⟨gb323, 0, none⟩ = some (.int .i64 0) := cC BK323 0; have hcz15_1 : w14.cell? ⟨gb323, 1, none⟩ = some (.int .i64 0) := cC BK323 1; have hcz15_2 : w14.cell? ⟨gb323, 2, none⟩ = some (.int .i64 0) := cC BK323 2; have hfz15_0 := blk_frozen BK323.out 0; have hfz15_1 := blk_frozen BK323.out 1; have hfz15_2 := blk_frozen BK323.out 2; have p324 : 0 ≤ (x5_1 : Int) := of_decide_eq_true ‹_›; have q324 : x5_1 < (l0.length : Int) := of_decide_eq_true ‹_›; obtain ⟨ad324, e324, hx324_0, hx324_1, hx324_2⟩ := at_T78 HR0.out x5_1 p324 q324; obtain rfl : ad322 = ad324 := (by injection e324); have hn324_0 : ad322.block ≠ gb323 := Nat.ne_of_lt (Nat.lt_of_lt_of_le (by have := World.block_lt_of_cell? _ _ hx324_0; first | rwa [add_block] at this | exact this) GW323.out); have hn324_1 : ad322.block ≠ gb323 := Nat.ne_of_lt (Nat.lt_of_lt_of_le (by have := World.block_lt_of_cell? _ _ hx324_0; first | rwa [add_block] at this | exact this) GW323.out); have hn324_2 : ad322.block ≠ gb323 := Nat.ne_of_lt (Nat.lt_of_lt_of_le (by have := World.block_lt_of_cell? _ _ hx324_0; first | rwa [add_block] at this | exact this) GW323.out); replace hx324_0 := (HB.out.cell (World.block_lt_of_cell? w _ hx324_0)).trans hx324_0; replace hx324_1 := (HB.out.cell (World.block_lt_of_cell? w _ hx324_1)).trans hx324_1; replace hx324_2 := (HB.out.cell (World.block_lt_of_cell? w _ hx324_2)).trans hx324_2; replace hx324_0 := (cell_far (p := ⟨gb323, 0, none⟩) (by first | (rw [add_block]; exact hn324_0) | (show (Addr.add _ _).block ≠ _; rw [add_block]; exact hn324_0) | exact hn324_0) (.int .i64 ((rd_T78 l0 x10_1).f0))).trans hx324_0; replace hx324_1 := (cell_far (p := ⟨gb323, 0, none⟩) (by first | (rw [add_block]; exact hn324_0) | (show (Addr.add _ _).block ≠ _; rw [add_block]; exact hn324_0) | exact hn324_0) (.int .i64 ((rd_T78 l0 x10_1).f0))).trans hx324_1; replace hx324_2 := (cell_far (p := ⟨gb323, 0, none⟩) (by first | (rw [add_block]; exact hn324_0) | (show (Addr.add _ _).block ≠ _; rw [add_block]; exact hn324_0) | exact hn324_0) (.int .i64 ((rd_T78 l0 x10_1).f0))).trans hx324_2; replace hx324_0 := (cell_far (p := ⟨gb323, 1, none⟩) (by first | (rw [add_block]; exact hn324_1) | (show (Addr.add _ _).block ≠ _; rw [add_block]; exact hn324_1) | exact hn324_1) (.int .i64 ((rd_T78 l0 x10_1).f1))).trans hx324_0; replace hx324_1 := (cell_far (p := ⟨gb323, 1, none⟩) (by first | (rw [add_block]; exact hn324_1) | (show (Addr.add _ _).block ≠ _; rw [add_block]; exact hn324_1) | exact hn324_1) (.int .i64 ((rd_T78 l0 x10_1).f1))).trans hx324_1; replace hx324_2 := (cell_far (p := ⟨gb323, 1, none⟩) (by first | (rw [add_block]; exact hn324_1) | (show (Addr.add _ _).block ≠ _; rw [add_block]; exact hn324_1) | exact hn324_1) (.int .i64 ((rd_T78 l0 x10_1).f1))).trans hx324_2; replace hx324_0 := (cell_far (p := ⟨gb323, 2, none⟩) (by first | (rw [add_block]; exact hn324_2) | (show (Addr.add _ _).block ≠ _; rw [add_block]; exact hn324_2) | exact hn324_2) (.int .i64 ((rd_T78 l0 x10_1).f2))).trans hx324_0; replace hx324_1 := (cell_far (p := ⟨gb323, 2, none⟩) (by first | (rw [add_block]; exact hn324_2) | (show (Addr.add _ _).block ≠ _; rw [add_block]; exact hn324_2) | exact hn324_2) (.int .i64 ((rd_T78 l0 x10_1).f2))).trans hx324_1; replace hx324_2 := (cell_far (p := ⟨gb323, 2, none⟩) (by first | (rw [add_block]; exact hn324_2) | (show (Addr.add _ _).block ≠ _; rw [add_block]; exact hn324_2) | exact hn324_2) (.int .i64 ((rd_T78 l0 x10_1).f2))).trans hx324_2; (try have hy324_0 := fun (n_ : Nat) => (show (((((w14.drewN n_).setCell ⟨gb323, 0, none⟩ (.int .i64 ((rd_T78 l0 x10_1).f0))).setCell ⟨gb323, 1, none⟩ (.int .i64 ((rd_T78 l0 x10_1).f1))).setCell ⟨gb323, 2, none⟩ (.int .i64 ((rd_T78 l0 x10_1).f2)))).cell? _ = some _ from hx324_0)); (try have hy324_1 := fun (n_ : Nat) => (show (((((w14.drewN n_).setCell ⟨gb323, 0, none⟩ (.int .i64 ((rd_T78 l0 x10_1).f0))).setCell ⟨gb323, 1, none⟩ (.int .i64 ((rd_T78 l0 x10_1).f1))).setCell ⟨gb323, 2, none⟩ (.int .i64 ((rd_T78 l0 x10_1).f2)))).cell? _ = some _ from hx324_1)); (try have hy324_2 := fun (n_ : Nat) => (show (((((w14.drewN n_).setCell ⟨gb323, 0, none⟩ (.int .i64 ((rd_T78 l0 x10_1).f0))).setCell ⟨gb323, 1, none⟩ (.int .i64 ((rd_T78 l0 x10_1).f1))).setCell ⟨gb323, 2, none⟩ (.int .i64 ((rd_T78 l0 x10_1).f2)))).cell? _ = some _ from hx324_2)); clear hn324_0; clear hn324_1; clear hn324_2; replace p324 := eq_true p324; replace q324 := eq_true q324)); try go_wp2_with (first | ((with_reducible refine gate_dst (N := 7) rfl ?_); refine box_event ?hg (N := 7) ?hd (cs := #[.int .i64 0, .int .i64 0, .int .i64 0]) (t := 78) ?hr ?_; (case hd => rfl); (case hg => rfl); (case hr => first | (go_simp; done) | (go_simp; rfl)); intro gb323 hg w14 hbox hb; have n0_ := Aside0.mk (below_step (qB HB) hb); have n1_ := Aside0.mk (hbox); have n2_ := Aside0.mk ((by rw [hg]; exact (below_size (qB HB)) : w.heap.size ≤ gb323)); have n3_ := Aside0.mk ((by rw [hg]; exact (below_size (qB HB)) : w.heap.size ≤ gb323)); clear HB; have HB := n0_; have BK323 := n1_; have GW323 := n2_; have GE323 := n3_; clear n0_ n1_ n2_ n3_; clear hb hbox hg; have hcz15_0 : w14.cell? ⟨gb323, 0, none⟩ = some (.int .i64 0) := cC BK323 0; have hcz15_1 : w14.cell? ⟨gb323, 1, none⟩ = some (.int .i64 0) := cC BK323 1; have hcz15_2 : w14.cell? ⟨gb323, 2, none⟩ = some (.int .i64 0) := cC BK323 2; have hfz15_0 := blk_frozen BK323.out 0; have hfz15_1 := blk_frozen BK323.out 1; have hfz15_2 := blk_frozen BK323.out 2; have p324 : 0 ≤ (x5_1 : Int) := of_decide_eq_true ‹_›; have q324 : x5_1 < (l0.length : Int) := of_decide_eq_true ‹_›; obtain ⟨ad324, e324, hx324_0, hx324_1, hx324_2⟩ := at_T78 HR0.out x5_1 p324 q324; obtain rfl : ad322 = ad324 := (by injection e324); have hn324_0 : ad322.block ≠ gb323 := Nat.ne_of_lt (Nat.lt_of_lt_of_le (by have := World.block_lt_of_cell? _ _ hx324_0; first | rwa [add_block] at this | exact this) GW323.out); have hn324_1 : ad322.block ≠ gb323 := Nat.ne_of_lt (Nat.lt_of_lt_of_le (by have := World.block_lt_of_cell? _ _ hx324_0; first | rwa [add_block] at this | exact this) GW323.out); have hn324_2 : ad322.block ≠ gb323 := Nat.ne_of_lt (Nat.lt_of_lt_of_le (by have := World.block_lt_of_cell? _ _ hx324_0; first | rwa [add_block] at this | exact this) GW323.out); replace hx324_0 := (HB.out.cell (World.block_lt_of_cell? w _ hx324_0)).trans hx324_0; replace hx324_1 := (HB.out.cell (World.block_lt_of_cell? w _ hx324_1)).trans hx324_1; replace hx324_2 := (HB.out.cell (World.block_lt_of_cell? w _ hx324_2)).trans hx324_2; replace hx324_0 := (cell_far (p := ⟨gb323, 0, none⟩) (by first | (rw [add_block]; exact hn324_0) | (show (Addr.add _ _).block ≠ _; rw [add_block]; exact hn324_0) | exact hn324_0) (.int .i64 ((rd_T78 l0 x10_1).f0))).trans hx324_0; replace hx324_1 := (cell_far (p := ⟨gb323, 0, none⟩) (by first | (rw [add_block]; exact hn324_0) | (show (Addr.add _ _).block ≠ _; rw [add_block]; exact hn324_0) | exact hn324_0) (.int .i64 ((rd_T78 l0 x10_1).f0))).trans hx324_1; replace hx324_2 := (cell_far (p := ⟨gb323, 0, none⟩) (by first | (rw [add_block]; exact hn324_0) | (show (Addr.add _ _).block ≠ _; rw [add_block]; exact hn324_0) | exact hn324_0) (.int .i64 ((rd_T78 l0 x10_1).f0))).trans hx324_2; replace hx324_0 := (cell_far (p := ⟨gb323, 1, none⟩) (by first | (rw [add_block]; exact hn324_1) | (show (Addr.add _ _).block ≠ _; rw [add_block]; exact hn324_1) | exact hn324_1) (.int .i64 ((rd_T78 l0 x10_1).f1))).trans hx324_0; replace hx324_1 := (cell_far (p := ⟨gb323, 1, none⟩) (by first | (rw [add_block]; exact hn324_1) | (show (Addr.add _ _).block ≠ _; rw [add_block]; exact hn324_1) | exact hn324_1) (.int .i64 ((rd_T78 l0 x10_1).f1))).trans hx324_1; replace hx324_2 := (cell_far (p := ⟨gb323, 1, none⟩) (by first | (rw [add_block]; exact hn324_1) | (show (Addr.add _ _).block ≠ _; rw [add_block]; exact hn324_1) | exact hn324_1) (.int .i64 ((rd_T78 l0 x10_1).f1))).trans hx324_2; replace hx324_0 := (cell_far (p := ⟨gb323, 2, none⟩) (by first | (rw [add_block]; exact hn324_2) | (show (Addr.add _ _).block ≠ _; rw [add_block]; exact hn324_2) | exact hn324_2) (.int .i64 ((rd_T78 l0 x10_1).f2))).trans hx324_0; replace hx324_1 := (cell_far (p := ⟨gb323, 2, none⟩) (by first | (rw [add_block]; exact hn324_2) | (show (Addr.add _ _).block ≠ _; rw [add_block]; exact hn324_2) | exact hn324_2) (.int .i64 ((rd_T78 l0 x10_1).f2))).trans hx324_1; replace hx324_2 := (cell_far (p := ⟨gb323, 2, none⟩) (by first | (rw [add_block]; exact hn324_2) | (show (Addr.add _ _).block ≠ _; rw [add_block]; exact hn324_2) | exact hn324_2) (.int .i64 ((rd_T78 l0 x10_1).f2))).trans hx324_2; (try have hy324_0 := fun (n_ : Nat) => (show (((((w14.drewN n_).setCell ⟨gb323, 0, none⟩ (.int .i64 ((rd_T78 l0 x10_1).f0))).setCell ⟨gb323, 1, none⟩ (.int .i64 ((rd_T78 l0 x10_1).f1))).setCell ⟨gb323, 2, none⟩ (.int .i64 ((rd_T78 l0 x10_1).f2)))).cell? _ = some _ from hx324_0)); (try have hy324_1 := fun (n_ : Nat) => (show (((((w14.drewN n_).setCell ⟨gb323, 0, none⟩ (.int .i64 ((rd_T78 l0 x10_1).f0))).setCell ⟨gb323, 1, none⟩ (.int .i64 ((rd_T78 l0 x10_1).f1))).setCell ⟨gb323, 2, none⟩ (.int .i64 ((rd_T78 l0 x10_1).f2)))).cell? _ = some _ from hx324_1)); (try have hy324_2 := fun (n_ : Nat) => (show (((((w14.drewN n_).setCell ⟨gb323, 0, none⟩ (.int .i64 ((rd_T78 l0 x10_1).f0))).setCell ⟨gb323, 1, none⟩ (.int .i64 ((rd_T78 l0 x10_1).f1))).setCell ⟨gb323, 2, none⟩ (.int .i64 ((rd_T78 l0 x10_1).f2)))).cell? _ = some _ from hx324_2)); clear hn324_0; clear hn324_1; clear hn324_2; replace p324 := eq_true p324; replace q324 := eq_true q324)))
            go_roundg k1
            case measure => have := HK1.out; omega
            case rel => exact ⟨(x10_1), (wrap64 (x10_1 + 1)), (by first | rfl | (simp; done) | (simp [*]; done)), (by first | rfl | (simp; done) | (simp [*]; done)), H', ⟨by have := HK1.out; omega⟩, ⟨by repeat (first | (with_reducible first | exact HB.out | apply bA | apply bN | apply bD | refine bS ?_ GE323.out) | exact HB.out)⟩⟩
           ·rw [if_neg c13] at H
            have c13b0 : decide (((rd_T78 l0 x10_1).f1) < ((rd_T78 l0 x5_1).f1)) = false := decide_eq_false c13
            clear c13
            have H' := Aside0.mk H
            clear H
            have p322 : 0 ≤ (x10_1 : Int) := of_decide_eq_true ‹_›
            have q322 : x10_1 < (l0.length : Int) := of_decide_eq_true ‹_›
            obtain ⟨ad322, e322, hx322_0, hx322_1, hx322_2⟩ := at_T78 HR0.out x10_1 p322 q322
            cases e322
            replace hx322_0 := (HB.out.cell (World.block_lt_of_cell? w _ hx322_0)).trans hx322_0
            replace hx322_1 := (HB.out.cell (World.block_lt_of_cell? w _ hx322_1)).trans hx322_1
            replace hx322_2 := (HB.out.cell (World.block_lt_of_cell? w _ hx322_2)).trans hx322_2
            replace p322 := eq_true p322
            replace q322 := eq_true q322
            go_wp2_with (first | ((with_reducible refine gate_dst (N := 7) rfl ?_); refine box_event ?hg (N := 7) ?hd (cs := #[.int .i64 0, .int .i64 0, .int .i64 0]) (t := 78) ?hr ?_; (case hd => rfl); (case hg => rfl); (case hr => first | (go_simp; done) | (go_simp; rfl)); intro gb323 hg w16 hbox hb; have n0_ := Aside0.mk (below_step (qB HB) hb); have n1_ := Aside0.mk (hbox); have n2_ := Aside0.mk ((by rw [hg]; exact (below_size (qB HB)) : w.heap.size ≤ gb323)); have n3_ := Aside0.mk ((by rw [hg]; exact (below_size (qB HB)) : w.heap.size ≤ gb323)); clear HB; have HB := n0_; have BK323 := n1_; have GW323 := n2_; have GE323 := n3_; clear n0_ n1_ n2_ n3_; clear hb hbox hg; have hcz17_0 : w16.cell? ⟨gb323, 0, none⟩ = some (.int .i64 0) := cC BK323 0; have hcz17_1 : w16.cell? ⟨gb323, 1, none⟩ = some (.int .i64 0) := cC BK323 1; have hcz17_2 : w16.cell? ⟨gb323, 2, none⟩ = some (.int .i64 0) := cC BK323 2; have hfz17_0 := blk_frozen BK323.out 0; have hfz17_1 := blk_frozen BK323.out 1; have hfz17_2 := blk_frozen BK323.out 2; have p324 : 0 ≤ (x5_1 : Int) := of_decide_eq_true ‹_›; have q324 : x5_1 < (l0.length : Int) := of_decide_eq_true ‹_›; obtain ⟨ad324, e324, hx324_0, hx324_1, hx324_2⟩ := at_T78 HR0.out x5_1 p324 q324; obtain rfl : ad322 = ad324 := (by injection e324); have hn324_0 : ad322.block ≠ gb323 := Nat.ne_of_lt (Nat.lt_of_lt_of_le (by have := World.block_lt_of_cell? _ _ hx324_0; first | rwa [add_block] at this | exact this) GW323.out); have hn324_1 : ad322.block ≠ gb323 := Nat.ne_of_lt (Nat.lt_of_lt_of_le (by have := World.block_lt_of_cell? _ _ hx324_0; first | rwa [add_block] at this | exact this) GW323.out); have hn324_2 : ad322.block ≠ gb323 := Nat.ne_of_lt (Nat.lt_of_lt_of_le (by have := World.block_lt_of_cell? _ _ hx324_0; first | rwa [add_block] at this | exact this) GW323.out); replace hx324_0 := (HB.out.cell (World.block_lt_of_cell? w _ hx324_0)).trans hx324_0; replace hx324_1 := (HB.out.cell (World.block_lt_of_cell? w _ hx324_1)).trans hx324_1; replace hx324_2 := (HB.out.cell (World.block_lt_of_cell? w _ hx324_2)).trans hx324_2; replace hx324_0 := (cell_far (p := ⟨gb323, 0, none⟩) (by first | (rw [add_block]; exact hn324_0) | (show (Addr.add _ _).block ≠ _; rw [add_block]; exact hn324_0) | exact hn324_0) (.int .i64 ((rd_T78 l0 x10_1).f0))).trans hx324_0; replace hx324_1 := (cell_far (p := ⟨gb323, 0, none⟩) (by first | (rw [add_block]; exact hn324_0) | (show (Addr.add _ _).block ≠ _; rw [add_block]; exact hn324_0) | exact hn324_0) (.int .i64 ((rd_T78 l0 x10_1).f0))).trans hx324_1; replace hx324_2 := (cell_far (p := ⟨gb323, 0, none⟩) (by first | (rw [add_block]; exact hn324_0) | (show (Addr.add _ _).block ≠ _; rw [add_block]; exact hn324_0) | exact hn324_0) (.int .i64 ((rd_T78 l0 x10_1).f0))).trans hx324_2; replace hx324_0 := (cell_far (p := ⟨gb323, 1, none⟩) (by first | (rw [add_block]; exact hn324_1) | (show (Addr.add _ _).block ≠ _; rw [add_block]; exact hn324_1) | exact hn324_1) (.int .i64 ((rd_T78 l0 x10_1).f1))).trans hx324_0; replace hx324_1 := (cell_far (p := ⟨gb323, 1, none⟩) (by first | (rw [add_block]; exact hn324_1) | (show (Addr.add _ _).block ≠ _; rw [add_block]; exact hn324_1) | exact hn324_1) (.int .i64 ((rd_T78 l0 x10_1).f1))).trans hx324_1; replace hx324_2 := (cell_far (p := ⟨gb323, 1, none⟩) (by first | (rw [add_block]; exact hn324_1) | (show (Addr.add _ _).block ≠ _; rw [add_block]; exact hn324_1) | exact hn324_1) (.int .i64 ((rd_T78 l0 x10_1).f1))).trans hx324_2; replace hx324_0 := (cell_far (p := ⟨gb323, 2, none⟩) (by first | (rw [add_block]; exact hn324_2) | (show (Addr.add _ _).block ≠ _; rw [add_block]; exact hn324_2) | exact hn324_2) (.int .i64 ((rd_T78 l0 x10_1).f2))).trans hx324_0; replace hx324_1 := (cell_far (p := ⟨gb323, 2, none⟩) (by first | (rw [add_block]; exact hn324_2) | (show (Addr.add _ _).block ≠ _; rw [add_block]; exact hn324_2) | exact hn324_2) (.int .i64 ((rd_T78 l0 x10_1).f2))).trans hx324_1; replace hx324_2 := (cell_far (p := ⟨gb323, 2, none⟩) (by first | (rw [add_block]; exact hn324_2) | (show (Addr.add _ _).block ≠ _; rw [add_block]; exact hn324_2) | exact hn324_2) (.int .i64 ((rd_T78 l0 x10_1).f2))).trans hx324_2; (try have hy324_0 := fun (n_ : Nat) => (show (((((w16.drewN n_).setCell ⟨gb323, 0, none⟩ (.int .i64 ((rd_T78 l0 x10_1).f0))).setCell ⟨gb323, 1, none⟩ (.int .i64 ((rd_T78 l0 x10_1).f1))).setCell ⟨gb323, 2, none⟩ (.int .i64 ((rd_T78 l0 x10_1).f2)))).cell? _ = some _ from hx324_0)); (try have hy324_1 := fun (n_ : Nat) => (show (((((w16.drewN n_).setCell ⟨gb323, 0, none⟩ (.int .i64 ((rd_T78 l0 x10_1).f0))).setCell ⟨gb323, 1, none⟩ (.int .i64 ((rd_T78 l0 x10_1).f1))).setCell ⟨gb323, 2, none⟩ (.int .i64 ((rd_T78 l0 x10_1).f2)))).cell? _ = some _ from hx324_1)); (try have hy324_2 := fun (n_ : Nat) => (show (((((w16.drewN n_).setCell ⟨gb323, 0, none⟩ (.int .i64 ((rd_T78 l0 x10_1).f0))).setCell ⟨gb323, 1, none⟩ (.int .i64 ((rd_T78 l0 x10_1).f1))).setCell ⟨gb323, 2, none⟩ (.int .i64 ((rd_T78 l0 x10_1).f2)))).cell? _ = some _ from hx324_2)); clear hn324_0; clear hn324_1; clear hn324_2; replace p324 := eq_true p324; replace q324 := eq_true q324))
            repeat (go_quiet (first | ((with_reducible refine gate_dst (N := 7) rfl ?_); refine box_event ?hg (N := 7) ?hd (cs := #[.int .i64 0, .int .i64 0, .int .i64 0]) (t := 78) ?hr ?_; (case hd => rfl); (case hg => rfl); (case hr => first | (go_simp; done) | (go_simp; rfl)); intro gb323 hg w16 hbox hb; have n0_ := Aside0.mk (below_step (qB HB) hb); have n1_ := Aside0.mk (hbox); have n2_ := Aside0.mk ((by rw [hg]; exact (below_size (qB HB)) : w.heap.size ≤ gb323)); have n3_ := Aside0.mk ((by rw [hg]; exact (below_size (qB HB)) : w.heap.size ≤ gb323)); clear HB; have HB := n0_; have BK323 := n1_; have GW323 := n2_; have GE323 := n3_; clear n0_ n1_ n2_ n3_; clear hb hbox hg; have hcz17_0 : w16.cell? ⟨gb323, 0, none⟩ = some (.int .i64 0) := cC BK323 0; have hcz17_1 : w16.cell? ⟨gb323, 1, none⟩ = some (.int .i64 0) := cC BK323 1; have hcz17_2 : w16.cell? ⟨gb323, 2, none⟩ = some (.int .i64 0) := cC BK323 2; have hfz17_0 := blk_frozen BK323.out 0; have hfz17_1 := blk_frozen BK323.out 1; have hfz17_2 := blk_frozen BK323.out 2; have p324 : 0 ≤ (x5_1 : Int) := of_decide_eq_true ‹_›; have q324 : x5_1 < (l0.length : Int) := of_decide_eq_true ‹_›; obtain ⟨ad324, e324, hx324_0, hx324_1, hx324_2⟩ := at_T78 HR0.out x5_1 p324 q324; obtain rfl : ad322 = ad324 := (by injection e324); have hn324_0 : ad322.block ≠ gb323 := Nat.ne_of_lt (Nat.lt_of_lt_of_le (by have := World.block_lt_of_cell? _ _ hx324_0; first | rwa [add_block] at this | exact this) GW323.out); have hn324_1 : ad322.block ≠ gb323 := Nat.ne_of_lt (Nat.lt_of_lt_of_le (by have := World.block_lt_of_cell? _ _ hx324_0; first | rwa [add_block] at this | exact this) GW323.out); have hn324_2 : ad322.block ≠ gb323 := Nat.ne_of_lt (Nat.lt_of_lt_of_le (by have := World.block_lt_of_cell? _ _ hx324_0; first | rwa [add_block] at this | exact this) GW323.out); replace hx324_0 := (HB.out.cell (World.block_lt_of_cell? w _ hx324_0)).trans hx324_0; replace hx324_1 := (HB.out.cell (World.block_lt_of_cell? w _ hx324_1)).trans hx324_1; replace hx324_2 := (HB.out.cell (World.block_lt_of_cell? w _ hx324_2)).trans hx324_2; replace hx324_0 := (cell_far (p := ⟨gb323, 0, none⟩) (by first | (rw [add_block]; exact hn324_0) | (show (Addr.add _ _).block ≠ _; rw [add_block]; exact hn324_0) | exact hn324_0) (.int .i64 ((rd_T78 l0 x10_1).f0))).trans hx324_0; replace hx324_1 := (cell_far (p := ⟨gb323, 0, none⟩) (by first | (rw [add_block]; exact hn324_0) | (show (Addr.add _ _).block ≠ _; rw [add_block]; exact hn324_0) | exact hn324_0) (.int .i64 ((rd_T78 l0 x10_1).f0))).trans hx324_1; replace hx324_2 := (cell_far (p := ⟨gb323, 0, none⟩) (by first | (rw [add_block]; exact hn324_0) | (show (Addr.add _ _).block ≠ _; rw [add_block]; exact hn324_0) | exact hn324_0) (.int .i64 ((rd_T78 l0 x10_1).f0))).trans hx324_2; replace hx324_0 := (cell_far (p := ⟨gb323, 1, none⟩) (by first | (rw [add_block]; exact hn324_1) | (show (Addr.add _ _).block ≠ _; rw [add_block]; exact hn324_1) | exact hn324_1) (.int .i64 ((rd_T78 l0 x10_1).f1))).trans hx324_0; replace hx324_1 := (cell_far (p := ⟨gb323, 1, none⟩) (by first | (rw [add_block]; exact hn324_1) | (show (Addr.add _ _).block ≠ _; rw [add_block]; exact hn324_1) | exact hn324_1) (.int .i64 ((rd_T78 l0 x10_1).f1))).trans hx324_1; replace hx324_2 := (cell_far (p := ⟨gb323, 1, none⟩) (by first | (rw [add_block]; exact hn324_1) | (show (Addr.add _ _).block ≠ _; rw [add_block]; exact hn324_1) | exact hn324_1) (.int .i64 ((rd_T78 l0 x10_1).f1))).trans hx324_2; replace hx324_0 := (cell_far (p := ⟨gb323, 2, none⟩) (by first | (rw [add_block]; exact hn324_2) | (show (Addr.add _ _).block ≠ _; rw [add_block]; exact hn324_2) | exact hn324_2) (.int .i64 ((rd_T78 l0 x10_1).f2))).trans hx324_0; replace hx324_1 := (cell_far (p := ⟨gb323, 2, none⟩) (by first | (rw [add_block]; exact hn324_2) | (show (Addr.add _ _).block ≠ _; rw [add_block]; exact hn324_2) | exact hn324_2) (.int .i64 ((rd_T78 l0 x10_1).f2))).trans hx324_1; replace hx324_2 := (cell_far (p := ⟨gb323, 2, none⟩) (by first | (rw [add_block]; exact hn324_2) | (show (Addr.add _ _).block ≠ _; rw [add_block]; exact hn324_2) | exact hn324_2) (.int .i64 ((rd_T78 l0 x10_1).f2))).trans hx324_2; (try have hy324_0 := fun (n_ : Nat) => (show (((((w16.drewN n_).setCell ⟨gb323, 0, none⟩ (.int .i64 ((rd_T78 l0 x10_1).f0))).setCell ⟨gb323, 1, none⟩ (.int .i64 ((rd_T78 l0 x10_1).f1))).setCell ⟨gb323, 2, none⟩ (.int .i64 ((rd_T78 l0 x10_1).f2)))).cell? _ = some _ from hx324_0)); (try have hy324_1 := fun (n_ : Nat) => (show (((((w16.drewN n_).setCell ⟨gb323, 0, none⟩ (.int .i64 ((rd_T78 l0 x10_1).f0))).setCell ⟨gb323, 1, none⟩ (.int .i64 ((rd_T78 l0 x10_1).f1))).setCell ⟨gb323, 2, none⟩ (.int .i64 ((rd_T78 l0 x10_1).f2)))).cell? _ = some _ from hx324_1)); (try have hy324_2 := fun (n_ : Nat) => (show (((((w16.drewN n_).setCell ⟨gb323, 0, none⟩ (.int .i64 ((rd_T78 l0 x10_1).f0))).setCell ⟨gb323, 1, none⟩ (.int .i64 ((rd_T78 l0 x10_1).f1))).setCell ⟨gb323, 2, none⟩ (.int .i64 ((rd_T78 l0 x10_1).f2)))).cell? _ = some _ from hx324_2)); clear hn324_0; clear hn324_1; clear hn324_2; replace p324 := eq_true p324; replace q324 := eq_true q324)); try go_wp2_with (first | ((with_reducible refine gate_dst (N := 7) rfl ?_); refine box_event ?hg (N := 7) ?hd (cs := #[.int .i64 0, .int .i64 0, .int .i64 0]) (t := 78) ?hr ?_; (case hd => rfl); (case hg => rfl); (case hr => first | (go_simp; done) | (go_simp; rfl)); intro gb323 hg w16 hbox hb; have n0_ := Aside0.mk (below_step (qB HB) hb); have n1_ := Aside0.mk (hbox); have n2_ := Aside0.mk ((by rw [hg]; exact (below_size (qB HB)) : w.heap.size ≤ gb323)); have n3_ := Aside0.mk ((by rw [hg]; exact (below_size (qB HB)) : w.heap.size ≤ gb323)); clear HB; have HB := n0_; have BK323 := n1_; have GW323 := n2_; have GE323 := n3_; clear n0_ n1_ n2_ n3_; clear hb hbox hg; have hcz17_0 : w16.cell? ⟨gb323, 0, none⟩ = some (.int .i64 0) := cC BK323 0; have hcz17_1 : w16.cell? ⟨gb323, 1, none⟩ = some (.int .i64 0) := cC BK323 1; have hcz17_2 : w16.cell? ⟨gb323, 2, none⟩ = some (.int .i64 0) := cC BK323 2; have hfz17_0 := blk_frozen BK323.out 0; have hfz17_1 := blk_frozen BK323.out 1; have hfz17_2 := blk_frozen BK323.out 2; have p324 : 0 ≤ (x5_1 : Int) := of_decide_eq_true ‹_›; have q324 : x5_1 < (l0.length : Int) := of_decide_eq_true ‹_›; obtain ⟨ad324, e324, hx324_0, hx324_1, hx324_2⟩ := at_T78 HR0.out x5_1 p324 q324; obtain rfl : ad322 = ad324 := (by injection e324); have hn324_0 : ad322.block ≠ gb323 := Nat.ne_of_lt (Nat.lt_of_lt_of_le (by have := World.block_lt_of_cell? _ _ hx324_0; first | rwa [add_block] at this | exact this) GW323.out); have hn324_1 : ad322.block ≠ gb323 := Nat.ne_of_lt (Nat.lt_of_lt_of_le (by have := World.block_lt_of_cell? _ _ hx324_0; first | rwa [add_block] at this | exact this) GW323.out); have hn324_2 : ad322.block ≠ gb323 := Nat.ne_of_lt (Nat.lt_of_lt_of_le (by have := World.block_lt_of_cell? _ _ hx324_0; first | rwa [add_block] at this | exact this) GW323.out); replace hx324_0 := (HB.out.cell (World.block_lt_of_cell? w _ hx324_0)).trans hx324_0; replace hx324_1 := (HB.out.cell (World.block_lt_of_cell? w _ hx324_1)).trans hx324_1; replace hx324_2 := (HB.out.cell (World.block_lt_of_cell? w _ hx324_2)).trans hx324_2; replace hx324_0 := (cell_far (p := ⟨gb323, 0, none⟩) (by first | (rw [add_block]; exact hn324_0) | (show (Addr.add _ _).block ≠ _; rw [add_block]; exact hn324_0) | exact hn324_0) (.int .i64 ((rd_T78 l0 x10_1).f0))).trans hx324_0; replace hx324_1 := (cell_far (p := ⟨gb323, 0, none⟩) (by first | (rw [add_block]; exact hn324_0) | (show (Addr.add _ _).block ≠ _; rw [add_block]; exact hn324_0) | exact hn324_0) (.int .i64 ((rd_T78 l0 x10_1).f0))).trans hx324_1; replace hx324_2 := (cell_far (p := ⟨gb323, 0, none⟩) (by first | (rw [add_block]; exact hn324_0) | (show (Addr.add _ _).block ≠ _; rw [add_block]; exact hn324_0) | exact hn324_0) (.int .i64 ((rd_T78 l0 x10_1).f0))).trans hx324_2; replace hx324_0 := (cell_far (p := ⟨gb323, 1, none⟩) (by first | (rw [add_block]; exact hn324_1) | (show (Addr.add _ _).block ≠ _; rw [add_block]; exact hn324_1) | exact hn324_1) (.int .i64 ((rd_T78 l0 x10_1).f1))).trans hx324_0; replace hx324_1 := (cell_far (p := ⟨gb323, 1, none⟩) (by first | (rw [add_block]; exact hn324_1) | (show (Addr.add _ _).block ≠ _; rw [add_block]; exact hn324_1) | exact hn324_1) (.int .i64 ((rd_T78 l0 x10_1).f1))).trans hx324_1; replace hx324_2 := (cell_far (p := ⟨gb323, 1, none⟩) (by first | (rw [add_block]; exact hn324_1) | (show (Addr.add _ _).block ≠ _; rw [add_block]; exact hn324_1) | exact hn324_1) (.int .i64 ((rd_T78 l0 x10_1).f1))).trans hx324_2; replace hx324_0 := (cell_far (p := ⟨gb323, 2, none⟩) (by first | (rw [add_block]; exact hn324_2) | (show (Addr.add _ _).block ≠ _; rw [add_block]; exact hn324_2) | exact hn324_2) (.int .i64 ((rd_T78 l0 x10_1).f2))).trans hx324_0; replace hx324_1 := (cell_far (p := ⟨gb323, 2, none⟩) (by first | (rw [add_block]; exact hn324_2) | (show (Addr.add _ _).block ≠ _; rw [add_block]; exact hn324_2) | exact hn324_2) (.int .i64 ((rd_T78 l0 x10_1).f2))).trans hx324_1; replace hx324_2 := (cell_far (p := ⟨gb323, 2, none⟩) (by first | (rw [add_block]; exact hn324_2) | (show (Addr.add _ _).block ≠ _; rw [add_block]; exact hn324_2) | exact hn324_2) (.int .i64 ((rd_T78 l0 x10_1).f2))).trans hx324_2; (try have hy324_0 := fun (n_ : Nat) => (show (((((w16.drewN n_).setCell ⟨gb323, 0, none⟩ (.int .i64 ((rd_T78 l0 x10_1).f0))).setCell ⟨gb323, 1, none⟩ (.int .i64 ((rd_T78 l0 x10_1).f1))).setCell ⟨gb323, 2, none⟩ (.int .i64 ((rd_T78 l0 x10_1).f2)))).cell? _ = some _ from hx324_0)); (try have hy324_1 := fun (n_ : Nat) => (show (((((w16.drewN n_).setCell ⟨gb323, 0, none⟩ (.int .i64 ((rd_T78 l0 x10_1).f0))).setCell ⟨gb323, 1, none⟩ (.int .i64 ((rd_T78 l0 x10_1).f1))).setCell ⟨gb323, 2, none⟩ (.int .i64 ((rd_T78 l0 x10_1).f2)))).cell? _ = some _ from hx324_1)); (try have hy324_2 := fun (n_ : Nat) => (show (((((w16.drewN n_).setCell ⟨gb323, 0, none⟩ (.int .i64 ((rd_T78 l0 x10_1).f0))).setCell ⟨gb323, 1, none⟩ (.int .i64 ((rd_T78 l0 x10_1).f1))).setCell ⟨gb323, 2, none⟩ (.int .i64 ((rd_T78 l0 x10_1).f2)))).cell? _ = some _ from hx324_2)); clear hn324_0; clear hn324_1; clear hn324_2; replace p324 := eq_true p324; replace q324 := eq_true q324)))
            go_roundg k1
            case measure => have := HK1.out; omega
            case rel => exact ⟨(x5_1), (wrap64 (x10_1 + 1)), (by first | rfl | (simp; done) | (simp [*]; done)), (by first | rfl | (simp; done) | (simp [*]; done)), H', ⟨by have := HK1.out; omega⟩, ⟨by repeat (first | (with_reducible first | exact HB.out | apply bA | apply bN | apply bD | refine bS ?_ GE323.out) | exact HB.out)⟩⟩
          ·rw [if_neg c12] at H
           exact absurd H (by simp)
         ·rw [if_neg c11] at H
          exact absurd H (by simp)
       ·rw [if_neg c7] at H
        have c7b0 : decide (a1 ≤ ((rd_T78 l0 x10_1).f1)) = false := decide_eq_false c7
        clear c7
        have H' := Aside0.mk H
        clear H
        have p322 : 0 ≤ (x10_1 : Int) := of_decide_eq_true ‹_›
        have q322 : x10_1 < (l0.length : Int) := of_decide_eq_true ‹_›
        obtain ⟨ad322, e322, hx322_0, hx322_1, hx322_2⟩ := at_T78 HR0.out x10_1 p322 q322
        cases e322
        replace hx322_0 := (HB.out.cell (World.block_lt_of_cell? w _ hx322_0)).trans hx322_0
        replace hx322_1 := (HB.out.cell (World.block_lt_of_cell? w _ hx322_1)).trans hx322_1
        replace hx322_2 := (HB.out.cell (World.block_lt_of_cell? w _ hx322_2)).trans hx322_2
        replace p322 := eq_true p322
        replace q322 := eq_true q322
        go_wp2_with (first | ((with_reducible refine gate_dst (N := 7) rfl ?_); refine box_event ?hg (N := 7) ?hd (cs := #[.int .i64 0, .int .i64 0, .int .i64 0]) (t := 78) ?hr ?_; (case hd => rfl); (case hg => rfl); (case hr => first | (go_simp; done) | (go_simp; rfl)); intro gb323 hg w18 hbox hb; have n0_ := Aside0.mk (below_step (qB HB) hb); have n1_ := Aside0.mk (hbox); have n2_ := Aside0.mk ((by rw [hg]; exact (below_size (qB HB)) : w.heap.size ≤ gb323)); have n3_ := Aside0.mk ((by rw [hg]; exact (below_size (qB HB)) : w.heap.size ≤ gb323)); clear HB; have HB := n0_; have BK323 := n1_; have GW323 := n2_; have GE323 := n3_; clear n0_ n1_ n2_ n3_; clear hb hbox hg; have hcz19_0 : w18.cell? ⟨gb323, 0, none⟩ = some (.int .i64 0) := cC BK323 0; have hcz19_1 : w18.cell? ⟨gb323, 1, none⟩ = some (.int .i64 0) := cC BK323 1; have hcz19_2 : w18.cell? ⟨gb323, 2, none⟩ = some (.int .i64 0) := cC BK323 2; have hfz19_0 := blk_frozen BK323.out 0; have hfz19_1 := blk_frozen BK323.out 1; have hfz19_2 := blk_frozen BK323.out 2))
        repeat (go_quiet (first | ((with_reducible refine gate_dst (N := 7) rfl ?_); refine box_event ?hg (N := 7) ?hd (cs := #[.int .i64 0, .int .i64 0, .int .i64 0]) (t := 78) ?hr ?_; (case hd => rfl); (case hg => rfl); (case hr => first | (go_simp; done) | (go_simp; rfl)); intro gb323 hg w18 hbox hb; have n0_ := Aside0.mk (below_step (qB HB) hb); have n1_ := Aside0.mk (hbox); have n2_ := Aside0.mk ((by rw [hg]; exact (below_size (qB HB)) : w.heap.size ≤ gb323)); have n3_ := Aside0.mk ((by rw [hg]; exact (below_size (qB HB)) : w.heap.size ≤ gb323)); clear HB; have HB := n0_; have BK323 := n1_; have GW323 := n2_; have GE323 := n3_; clear n0_ n1_ n2_ n3_; clear hb hbox hg; have hcz19_0 : w18.cell? ⟨gb323, 0, none⟩ = some (.int .i64 0) := cC BK323 0; have hcz19_1 : w18.cell? ⟨gb323, 1, none⟩ = some (.int .i64 0) := cC BK323 1; have hcz19_2 : w18.cell? ⟨gb323, 2, none⟩ = some (.int .i64 0) := cC BK323 2; have hfz19_0 := blk_frozen BK323.out 0; have hfz19_1 := blk_frozen BK323.out 1; have hfz19_2 := blk_frozen BK323.out 2)); try go_wp2_with (first | ((with_reducible refine gate_dst (N := 7) rfl ?_); refine box_event ?hg (N := 7) ?hd (cs := #[.int .i64 0, .int .i64 0, .int .i64 0]) (t := 78) ?hr ?_; (case hd => rfl); (case hg => rfl); (case hr => first | (go_simp; done) | (go_simp; rfl)); intro gb323 hg w18 hbox hb; have n0_ := Aside0.mk (below_step (qB HB) hb); have n1_ := Aside0.mk (hbox); have n2_ := Aside0.mk ((by rw [hg]; exact (below_size (qB HB)) : w.heap.size ≤ gb323)); have n3_ := Aside0.mk ((by rw [hg]; exact (below_size (qB HB)) : w.heap.size ≤ gb323)); clear HB; have HB := n0_; have BK323 := n1_; have GW323 := n2_; have GE323 := n3_; clear n0_ n1_ n2_ n3_; clear hb hbox hg; have hcz19_0 : w18.cell? ⟨gb323, 0, none⟩ = some (.int .i64 0) := cC BK323 0; have hcz19_1 : w18.cell? ⟨gb323, 1, none⟩ = some (.int .i64 0) := cC BK323 1; have hcz19_2 : w18.cell? ⟨gb323, 2, none⟩ = some (.int .i64 0) := cC BK323 2; have hfz19_0 := blk_frozen BK323.out 0; have hfz19_1 := blk_frozen BK323.out 1; have hfz19_2 := blk_frozen BK323.out 2)))
        go_roundg k1
        case measure => have := HK1.out; omega
        case rel => exact ⟨(x5_1), (wrap64 (x10_1 + 1)), (by first | rfl | (simp; done) | (simp [*]; done)), (by first | rfl | (simp; done) | (simp [*]; done)), H', ⟨by have := HK1.out; omega⟩, ⟨by repeat (first | (with_reducible first | exact HB.out | apply bA | apply bN | apply bD | refine bS ?_ GE323.out) | exact HB.out)⟩⟩
      ·rw [if_neg c6] at H
       have c6b0 : (((rd_T78 l0 x10_1).f2) == 0) = false := beq_eq_false_iff_ne.mpr c6
       have c6b1 : (((rd_T78 l0 x10_1).f2) != 0) = true := bne_iff_ne.mpr c6
       have H' := Aside0.mk H
       clear H
       have p322 : 0 ≤ (x10_1 : Int) := of_decide_eq_true ‹_›
       have q322 : x10_1 < (l0.length : Int) := of_decide_eq_true ‹_›
       obtain ⟨ad322, e322, hx322_0, hx322_1, hx322_2⟩ := at_T78 HR0.out x10_1 p322 q322
       cases e322
       replace hx322_0 := (HB.out.cell (World.block_lt_of_cell? w _ hx322_0)).trans hx322_0
       replace hx322_1 := (HB.out.cell (World.block_lt_of_cell? w _ hx322_1)).trans hx322_1
       replace hx322_2 := (HB.out.cell (World.block_lt_of_cell? w _ hx322_2)).trans hx322_2
       replace p322 := eq_true p322
       replace q322 := eq_true q322
       go_wp2_with (first | ((with_reducible refine gate_dst (N := 7) rfl ?_); refine box_event ?hg (N := 7) ?hd (cs := #[.int .i64 0, .int .i64 0, .int .i64 0]) (t := 78) ?hr ?_; (case hd => rfl); (case hg => rfl); (case hr => first | (go_simp; done) | (go_simp; rfl)); intro gb323 hg w20 hbox hb; have n0_ := Aside0.mk (below_step (qB HB) hb); have n1_ := Aside0.mk (hbox); have n2_ := Aside0.mk ((by rw [hg]; exact (below_size (qB HB)) : w.heap.size ≤ gb323)); have n3_ := Aside0.mk ((by rw [hg]; exact (below_size (qB HB)) : w.heap.size ≤ gb323)); clear HB; have HB := n0_; have BK323 := n1_; have GW323 := n2_; have GE323 := n3_; clear n0_ n1_ n2_ n3_; clear hb hbox hg; have hcz21_0 : w20.cell? ⟨gb323, 0, none⟩ = some (.int .i64 0) := cC BK323 0; have hcz21_1 : w20.cell? ⟨gb323, 1, none⟩ = some (.int .i64 0) := cC BK323 1; have hcz21_2 : w20.cell? ⟨gb323, 2, none⟩ = some (.int .i64 0) := cC BK323 2; have hfz21_0 := blk_frozen BK323.out 0; have hfz21_1 := blk_frozen BK323.out 1; have hfz21_2 := blk_frozen BK323.out 2))
       repeat (go_quiet (first | ((with_reducible refine gate_dst (N := 7) rfl ?_); refine box_event ?hg (N := 7) ?hd (cs := #[.int .i64 0, .int .i64 0, .int .i64 0]) (t := 78) ?hr ?_; (case hd => rfl); (case hg => rfl); (case hr => first | (go_simp; done) | (go_simp; rfl)); intro gb323 hg w20 hbox hb; have n0_ := Aside0.mk (below_step (qB HB) hb); have n1_ := Aside0.mk (hbox); have n2_ := Aside0.mk ((by rw [hg]; exact (below_size (qB HB)) : w.heap.size ≤ gb323)); have n3_ := Aside0.mk ((by rw [hg]; exact (below_size (qB HB)) : w.heap.size ≤ gb323)); clear HB; have HB := n0_; have BK323 := n1_; have GW323 := n2_; have GE323 := n3_; clear n0_ n1_ n2_ n3_; clear hb hbox hg; have hcz21_0 : w20.cell? ⟨gb323, 0, none⟩ = some (.int .i64 0) := cC BK323 0; have hcz21_1 : w20.cell? ⟨gb323, 1, none⟩ = some (.int .i64 0) := cC BK323 1; have hcz21_2 : w20.cell? ⟨gb323, 2, none⟩ = some (.int .i64 0) := cC BK323 2; have hfz21_0 := blk_frozen BK323.out 0; have hfz21_1 := blk_frozen BK323.out 1; have hfz21_2 := blk_frozen BK323.out 2)); try go_wp2_with (first | ((with_reducible refine gate_dst (N := 7) rfl ?_); refine box_event ?hg (N := 7) ?hd (cs := #[.int .i64 0, .int .i64 0, .int .i64 0]) (t := 78) ?hr ?_; (case hd => rfl); (case hg => rfl); (case hr => first | (go_simp; done) | (go_simp; rfl)); intro gb323 hg w20 hbox hb; have n0_ := Aside0.mk (below_step (qB HB) hb); have n1_ := Aside0.mk (hbox); have n2_ := Aside0.mk ((by rw [hg]; exact (below_size (qB HB)) : w.heap.size ≤ gb323)); have n3_ := Aside0.mk ((by rw [hg]; exact (below_size (qB HB)) : w.heap.size ≤ gb323)); clear HB; have HB := n0_; have BK323 := n1_; have GW323 := n2_; have GE323 := n3_; clear n0_ n1_ n2_ n3_; clear hb hbox hg; have hcz21_0 : w20.cell? ⟨gb323, 0, none⟩ = some (.int .i64 0) := cC BK323 0; have hcz21_1 : w20.cell? ⟨gb323, 1, none⟩ = some (.int .i64 0) := cC BK323 1; have hcz21_2 : w20.cell? ⟨gb323, 2, none⟩ = some (.int .i64 0) := cC BK323 2; have hfz21_0 := blk_frozen BK323.out 0; have hfz21_1 := blk_frozen BK323.out 1; have hfz21_2 := blk_frozen BK323.out 2)))
       go_roundg k1
       case measure => have := HK1.out; omega
       case rel => exact ⟨(x5_1), (wrap64 (x10_1 + 1)), (by first | rfl | (simp; done) | (simp [*]; done)), (by first | rfl | (simp; done) | (simp [*]; done)), H', ⟨by have := HK1.out; omega⟩, ⟨by repeat (first | (with_reducible first | exact HB.out | apply bA | apply bN | apply bD | refine bS ?_ GE323.out) | exact HB.out)⟩⟩
     ·rw [if_neg c5] at H
      exact absurd H (by simp)
    ·rw [if_neg c4] at H
     exact absurd H (by simp)
   ·rw [if_neg c3] at H
    have c3b0 : decide (x10_1 < (l0.length : Int)) = false := decide_eq_false c3
    clear c3
    obtain rfl := Option.some.inj H
    go_wp2
    repeat (go_quiet (fail); try go_wp2)
    go_ret
    exact ⟨by first | rfl | (simp [errW_none, errW_some] <;> rfl) | (simp [*, errW_none, errW_some] <;> rfl), by repeat (first | (with_reducible first | exact HB.out | apply bA | apply bN | apply bD) | exact HB.out)⟩

/-! ### impl_IsThing: function 136 -/
def impl_IsThing.f (a0_0 : Int) (a0_1 : Int) (a0_2 : Int) (a0_3 : Int) (a0_4 : Int) : Option (Bool) := (impl_InRange.f a0_0 1 999).bind fun t326 => (if t326 = true then ((impl_InRange.f a0_1 1 8).bind fun t327 => (if t327 = true then ((impl_InRange.f a0_2 0 7).bind fun t328 => (if t328 = true then ((impl_InRange.f a0_3 1 50).bind fun t329 => (if t329 = true then ((impl_InRange.f a0_4 0 10000000).bind fun t330 => (some t330)) else (some false))) else (some false))) else (some false))) else (some false))
set_option maxHeartbeats 8000000 in
set_option maxRecDepth 100000 in
theorem impl_IsThing.calls (a0_0 : Int) (a0_1 : Int) (a0_2 : Int) (a0_3 : Int) (a0_4 : Int) (r : Bool) (w : World) (h : impl_IsThing.f a0_0 a0_1 a0_2 a0_3 a0_4 = some r) :
  Calls Try.prog 136 #[.agg #[.int .i64 a0_0, .int .i64 a0_1, .int .i64 a0_2, .int .i64 a0_3, .int .i64 a0_4]] w fun e w' => e = .returned (.bool r) ∧ Below w.heap.size w w' := by
 have hu69 := Try.underlying69
 have HB := Aside0.mk (Below.refl w.heap.size w)
 have H : ((impl_InRange.f a0_0 1 999).bind fun t326 => (if t326 = true then ((impl_InRange.f a0_1 1 8).bind fun t327 => (if t327 = true then ((impl_InRange.f a0_2 0 7).bind fun t328 => (if t328 = true then ((impl_InRange.f a0_3 1 50).bind fun t329 => (if t329 = true then ((impl_InRange.f a0_4 0 10000000).bind fun t330 => (some t330)) else (some false))) else (some false))) else (some false))) else (some false))) = some r := h
 clear h
 replace H := Option.bind_eq_some_iff.mp H
 obtain ⟨t326, A20, H⟩ := H
 replace H : (if t326 = true then ((impl_InRange.f a0_1 1 8).bind fun t327 => (if t327 = true then ((impl_InRange.f a0_2 0 7).bind fun t328 => (if t328 = true then ((impl_InRange.f a0_3 1 50).bind fun t329 => (if t329 = true then ((impl_InRange.f a0_4 0 10000000).bind fun t330 => (some t330)) else (some false))) else (some false))) else (some false))) else (some false)) = some r := H
 have A2 := Aside0.mk A20
 clear A20
 by_cases c3 : t326 = true
 ·subst c3
  have H1 : ((impl_InRange.f a0_1 1 8).bind fun t327 => (if t327 = true then ((impl_InRange.f a0_2 0 7).bind fun t328 => (if t328 = true then ((impl_InRange.f a0_3 1 50).bind fun t329 => (if t329 = true then ((impl_InRange.f a0_4 0 10000000).bind fun t330 => (some t330)) else (some false))) else (some false))) else (some false))) = some r := by rw [if_pos rfl] at H; exact H
  clear H
  have H := H1
  clear H1
  replace H := Option.bind_eq_some_iff.mp H
  obtain ⟨t327, A40, H⟩ := H
  replace H : (if t327 = true then ((impl_InRange.f a0_2 0 7).bind fun t328 => (if t328 = true then ((impl_InRange.f a0_3 1 50).bind fun t329 => (if t329 = true then ((impl_InRange.f a0_4 0 10000000).bind fun t330 => (some t330)) else (some false))) else (some false))) else (some false)) = some r := H
  have A4 := Aside0.mk A40
  clear A40
  by_cases c5 : t327 = true
  ·subst c5
   have H1 : ((impl_InRange.f a0_2 0 7).bind fun t328 => (if t328 = true then ((impl_InRange.f a0_3 1 50).bind fun t329 => (if t329 = true then ((impl_InRange.f a0_4 0 10000000).bind fun t330 => (some t330)) else (some false))) else (some false))) = some r := by rw [if_pos rfl] at H; exact H
   clear H
   have H := H1
   clear H1
   replace H := Option.bind_eq_some_iff.mp H
   obtain ⟨t328, A60, H⟩ := H
   replace H : (if t328 = true then ((impl_InRange.f a0_3 1 50).bind fun t329 => (if t329 = true then ((impl_InRange.f a0_4 0 10000000).bind fun t330 => (some t330)) else (some false))) else (some false)) = some r := H
   have A6 := Aside0.mk A60
   clear A60
   by_cases c7 : t328 = true
   ·subst c7
    have H1 : ((impl_InRange.f a0_3 1 50).bind fun t329 => (if t329 = true then ((impl_InRange.f a0_4 0 10000000).bind fun t330 => (some t330)) else (some false))) = some r := by rw [if_pos rfl] at H; exact H
    clear H
    have H := H1
    clear H1
    replace H := Option.bind_eq_some_iff.mp H
    obtain ⟨t329, A80, H⟩ := H
    replace H : (if t329 = true then ((impl_InRange.f a0_4 0 10000000).bind fun t330 => (some t330)) else (some false)) = some r := H
    have A8 := Aside0.mk A80
    clear A80
    by_cases c9 : t329 = true
    ·subst c9
     have H1 : ((impl_InRange.f a0_4 0 10000000).bind fun t330 => (some t330)) = some r := by rw [if_pos rfl] at H; exact H
     clear H
     have H := H1
     clear H1
     replace H := Option.bind_eq_some_iff.mp H
     obtain ⟨t330, A100, H⟩ := H
     replace H : (some t330) = some r := H
     have A10 := Aside0.mk A100
     clear A100
     obtain rfl := Option.some.inj H
     go_enter Try.func136, Try.ntmps136
     go_wp2_with (first | ((with_reducible refine gate_dst (N := 1) rfl ?_); refine box_event ?hg (N := 1) ?hd (cs := #[.int .i64 a0_0, .int .i64 a0_1, .int .i64 a0_2, .int .i64 a0_3, .int .i64 a0_4]) (t := 69) ?hr ?_; (case hd => rfl); (case hg => rfl); (case hr => first | (go_simp; done) | (go_simp; rfl)); intro gb325 hg w11 hbox hb; have n0_ := Aside0.mk (below_step (qB HB) hb); have n1_ := Aside0.mk (hbox); have n2_ := Aside0.mk ((by rw [hg]; exact (below_size (qB HB)) : w.heap.size ≤ gb325)); have n3_ := Aside0.mk ((by rw [hg]; exact (below_size (qB HB)) : w.heap.size ≤ gb325)); clear HB; have HB := n0_; have BK325 := n1_; have GW325 := n2_; have GE325 := n3_; clear n0_ n1_ n2_ n3_; clear hb hbox hg; have hcz12_0 : w11.cell? ⟨gb325, 0, none⟩ = some (.int .i64 a0_0) := cC BK325 0; have hcz12_1 : w11.cell? ⟨gb325, 1, none⟩ = some (.int .i64 a0_1) := cC BK325 1; have hcz12_2 : w11.cell? ⟨gb325, 2, none⟩ = some (.int .i64 a0_2) := cC BK325 2; have hcz12_3 : w11.cell? ⟨gb325, 3, none⟩ = some (.int .i64 a0_3) := cC BK325 3; have hcz12_4 : w11.cell? ⟨gb325, 4, none⟩ = some (.int .i64 a0_4) := cC BK325 4; have hfz12_0 := blk_frozen BK325.out 0; have hfz12_1 := blk_frozen BK325.out 1; have hfz12_2 := blk_frozen BK325.out 2; have hfz12_3 := blk_frozen BK325.out 3; have hfz12_4 := blk_frozen BK325.out 4) | ((with_reducible refine gate_callee (f := 138) rfl ?_); refine goesL_ (some 5) rfl rfl Try.func138 (by kernel_rfl) rfl #[.int .i64 a0_0, .int .i64 1, .int .i64 999] rfl (by (try simp only [mA, mC, mN]); first | done | rfl | (simp only [lD, lT]; rfl)) ?_; (with_reducible refine (impl_InRange.calls a0_0 1 999 true _ A2.out).mono ?_); rintro e w' ⟨rfl, ⟨nd, rfl⟩⟩; refine ⟨_, rfl, ?_⟩) | (go_at_call 138; (with_reducible refine (impl_InRange.calls a0_1 1 8 true _ A4.out).mono ?_); rintro e w' ⟨rfl, ⟨nd, rfl⟩⟩) | (go_at_call 138; (with_reducible refine (impl_InRange.calls a0_2 0 7 true _ A6.out).mono ?_); rintro e w' ⟨rfl, ⟨nd, rfl⟩⟩) | (go_at_call 138; (with_reducible refine (impl_InRange.calls a0_3 1 50 true _ A8.out).mono ?_); rintro e w' ⟨rfl, ⟨nd, rfl⟩⟩) | (go_at_call 138; (with_reducible refine (impl_InRange.calls a0_4 0 10000000 t330 _ A10.out).mono ?_); rintro e w' ⟨rfl, ⟨nd, rfl⟩⟩))
     go_ret
     exact ⟨by first | rfl | (simp [errW_none, errW_some] <;> rfl) | (simp [*, errW_none, errW_some] <;> rfl), by repeat (first | (with_reducible first | exact HB.out | apply bA | apply bN | apply bD | refine bS ?_ GE325.out) | exact HB.out)⟩
    ·replace c9 := Bool.eq_false_iff.mpr c9
     subst c9
     have H1 : (some false) = some r := by rw [if_neg (show ¬ (false = true) by decide)] at H; exact H
     clear H
     have H := H1
     clear H1
     obtain rfl := Option.some.inj H
     go_enter Try.func136, Try.ntmps136
     go_wp2_with (first | ((with_reducible refine gate_dst (N := 1) rfl ?_); refine box_event ?hg (N := 1) ?hd (cs := #[.int .i64 a0_0, .int .i64 a0_1, .int .i64 a0_2, .int .i64 a0_3, .int .i64 a0_4]) (t := 69) ?hr ?_; (case hd => rfl); (case hg => rfl); (case hr => first | (go_simp; done) | (go_simp; rfl)); intro gb325 hg w13 hbox hb; have n0_ := Aside0.mk (below_step (qB HB) hb); have n1_ := Aside0.mk (hbox); have n2_ := Aside0.mk ((by rw [hg]; exact (below_size (qB HB)) : w.heap.size ≤ gb325)); have n3_ := Aside0.mk ((by rw [hg]; exact (below_size (qB HB)) : w.heap.size ≤ gb325)); clear HB; have HB := n0_; have BK325 := n1_; have GW325 := n2_; have GE325 := n3_; clear n0_ n1_ n2_ n3_; clear hb hbox hg; have hcz14_0 : w13.cell? ⟨gb325, 0, none⟩ = some (.int .i64 a0_0) := cC BK325 0; have hcz14_1 : w13.cell? ⟨gb325, 1, none⟩ = some (.int .i64 a0_1) := cC BK325 1; have hcz14_2 : w13.cell? ⟨gb325, 2, none⟩ = some (.int .i64 a0_2) := cC BK325 2; have hcz14_3 : w13.cell? ⟨gb325, 3, none⟩ = some (.int .i64 a0_3) := cC BK325 3; have hcz14_4 : w13.cell? ⟨gb325, 4, none⟩ = some (.int .i64 a0_4) := cC BK325 4; have hfz14_0 := blk_frozen BK325.out 0; have hfz14_1 := blk_frozen BK325.out 1; have hfz14_2 := blk_frozen BK325.out 2; have hfz14_3 := blk_frozen BK325.out 3; have hfz14_4 := blk_frozen BK325.out 4) | ((with_reducible refine gate_callee (f := 138) rfl ?_); refine goesL_ (some 5) rfl rfl Try.func138 (by kernel_rfl) rfl #[.int .i64 a0_0, .int .i64 1, .int .i64 999] rfl (by (try simp only [mA, mC, mN]); first | done | rfl | (simp only [lD, lT]; rfl)) ?_; (with_reducible refine (impl_InRange.calls a0_0 1 999 true _ A2.out).mono ?_); rintro e w' ⟨rfl, ⟨nd, rfl⟩⟩; refine ⟨_, rfl, ?_⟩) | (go_at_call 138; (with_reducible refine (impl_InRange.calls a0_1 1 8 true _ A4.out).mono ?_); rintro e w' ⟨rfl, ⟨nd, rfl⟩⟩) | (go_at_call 138; (with_reducible refine (impl_InRange.calls a0_2 0 7 true _ A6.out).mono ?_); rintro e w' ⟨rfl, ⟨nd, rfl⟩⟩) | (go_at_call 138; (with_reducible refine (impl_InRange.calls a0_3 1 50 false _ A8.out).mono ?_); rintro e w' ⟨rfl, ⟨nd, rfl⟩⟩))
     go_ret
     exact ⟨by first | rfl | (simp [errW_none, errW_some] <;> rfl) | (simp [*, errW_none, errW_some] <;> rfl), by repeat (first | (with_reducible first | exact HB.out | apply bA | apply bN | apply bD | refine bS ?_ GE325.out) | exact HB.out)⟩
   ·replace c7 := Bool.eq_false_iff.mpr c7
    subst c7
    have H1 : (some false) = some r := by rw [if_neg (show ¬ (false = true) by decide)] at H; exact H
    clear H
    have H := H1
    clear H1
    obtain rfl := Option.some.inj H
    go_enter Try.func136, Try.ntmps136
    go_wp2_with (first | ((with_reducible refine gate_dst (N := 1) rfl ?_); refine box_event ?hg (N := 1) ?hd (cs := #[.int .i64 a0_0, .int .i64 a0_1, .int .i64 a0_2, .int .i64 a0_3, .int .i64 a0_4]) (t := 69) ?hr ?_; (case hd => rfl); (case hg => rfl); (case hr => first | (go_simp; done) | (go_simp; rfl)); intro gb325 hg w15 hbox hb; have n0_ := Aside0.mk (below_step (qB HB) hb); have n1_ := Aside0.mk (hbox); have n2_ := Aside0.mk ((by rw [hg]; exact (below_size (qB HB)) : w.heap.size ≤ gb325)); have n3_ := Aside0.mk ((by rw [hg]; exact (below_size (qB HB)) : w.heap.size ≤ gb325)); clear HB; have HB := n0_; have BK325 := n1_; have GW325 := n2_; have GE325 := n3_; clear n0_ n1_ n2_ n3_; clear hb hbox hg; have hcz16_0 : w15.cell? ⟨gb325, 0, none⟩ = some (.int .i64 a0_0) := cC BK325 0; have hcz16_1 : w15.cell? ⟨gb325, 1, none⟩ = some (.int .i64 a0_1) := cC BK325 1; have hcz16_2 : w15.cell? ⟨gb325, 2, none⟩ = some (.int .i64 a0_2) := cC BK325 2; have hcz16_3 : w15.cell? ⟨gb325, 3, none⟩ = some (.int .i64 a0_3) := cC BK325 3; have hcz16_4 : w15.cell? ⟨gb325, 4, none⟩ = some (.int .i64 a0_4) := cC BK325 4; have hfz16_0 := blk_frozen BK325.out 0; have hfz16_1 := blk_frozen BK325.out 1; have hfz16_2 := blk_frozen BK325.out 2; have hfz16_3 := blk_frozen BK325.out 3; have hfz16_4 := blk_frozen BK325.out 4) | ((with_reducible refine gate_callee (f := 138) rfl ?_); refine goesL_ (some 5) rfl rfl Try.func138 (by kernel_rfl) rfl #[.int .i64 a0_0, .int .i64 1, .int .i64 999] rfl (by (try simp only [mA, mC, mN]); first | done | rfl | (simp only [lD, lT]; rfl)) ?_; (with_reducible refine (impl_InRange.calls a0_0 1 999 true _ A2.out).mono ?_); rintro e w' ⟨rfl, ⟨nd, rfl⟩⟩; refine ⟨_, rfl, ?_⟩) | (go_at_call 138; (with_reducible refine (impl_InRange.calls a0_1 1 8 true _ A4.out).mono ?_); rintro e w' ⟨rfl, ⟨nd, rfl⟩⟩) | (go_at_call 138; (with_reducible refine (impl_InRange.calls a0_2 0 7 false _ A6.out).mono ?_); rintro e w' ⟨rfl, ⟨nd, rfl⟩⟩))
    go_ret
    exact ⟨by first | rfl | (simp [errW_none, errW_some] <;> rfl) | (simp [*, errW_none, errW_some] <;> rfl), by repeat (first | (with_reducible first | exact HB.out | apply bA | apply bN | apply bD | refine bS ?_ GE325.out) | exact HB.out)⟩
  ·replace c5 := Bool.eq_false_iff.mpr c5
   subst c5
   have H1 : (some false) = some r := by rw [if_neg (show ¬ (false = true) by decide)] at H; exact H
   clear H
   have H := H1
   clear H1
   obtain rfl := Option.some.inj H
   go_enter Try.func136, Try.ntmps136
   go_wp2_with (first | ((with_reducible refine gate_dst (N := 1) rfl ?_); refine box_event ?hg (N := 1) ?hd (cs := #[.int .i64 a0_0, .int .i64 a0_1, .int .i64 a0_2, .int .i64 a0_3, .int .i64 a0_4]) (t := 69) ?hr ?_; (case hd => rfl); (case hg => rfl); (case hr => first | (go_simp; done) | (go_simp; rfl)); intro gb325 hg w17 hbox hb; have n0_ := Aside0.mk (below_step (qB HB) hb); have n1_ := Aside0.mk (hbox); have n2_ := Aside0.mk ((by rw [hg]; exact (below_size (qB HB)) : w.heap.size ≤ gb325)); have n3_ := Aside0.mk ((by rw [hg]; exact (below_size (qB HB)) : w.heap.size ≤ gb325)); clear HB; have HB := n0_; have BK325 := n1_; have GW325 := n2_; have GE325 := n3_; clear n0_ n1_ n2_ n3_; clear hb hbox hg; have hcz18_0 : w17.cell? ⟨gb325, 0, none⟩ = some (.int .i64 a0_0) := cC BK325 0; have hcz18_1 : w17.cell? ⟨gb325, 1, none⟩ = some (.int .i64 a0_1) := cC BK325 1; have hcz18_2 : w17.cell? ⟨gb325, 2, none⟩ = some (.int .i64 a0_2) := cC BK325 2; have hcz18_3 : w17.cell? ⟨gb325, 3, none⟩ = some (.int .i64 a0_3) := cC BK325 3; have hcz18_4 : w17.cell? ⟨gb325, 4, none⟩ = some (.int .i64 a0_4) := cC BK325 4; have hfz18_0 := blk_frozen BK325.out 0; have hfz18_1 := blk_frozen BK325.out 1; have hfz18_2 := blk_frozen BK325.out 2; have hfz18_3 := blk_frozen BK325.out 3; have hfz18_4 := blk_frozen BK325.out 4) | ((with_reducible refine gate_callee (f := 138) rfl ?_); refine goesL_ (some 5) rfl rfl Try.func138 (by kernel_rfl) rfl #[.int .i64 a0_0, .int .i64 1, .int .i64 999] rfl (by (try simp only [mA, mC, mN]); first | done | rfl | (simp only [lD, lT]; rfl)) ?_; (with_reducible refine (impl_InRange.calls a0_0 1 999 true _ A2.out).mono ?_); rintro e w' ⟨rfl, ⟨nd, rfl⟩⟩; refine ⟨_, rfl, ?_⟩) | (go_at_call 138; (with_reducible refine (impl_InRange.calls a0_1 1 8 false _ A4.out).mono ?_); rintro e w' ⟨rfl, ⟨nd, rfl⟩⟩))
   go_ret
   exact ⟨by first | rfl | (simp [errW_none, errW_some] <;> rfl) | (simp [*, errW_none, errW_some] <;> rfl), by repeat (first | (with_reducible first | exact HB.out | apply bA | apply bN | apply bD | refine bS ?_ GE325.out) | exact HB.out)⟩
 ·replace c3 := Bool.eq_false_iff.mpr c3
  subst c3
  have H1 : (some false) = some r := by rw [if_neg (show ¬ (false = true) by decide)] at H; exact H
  clear H
  have H := H1
  clear H1
  obtain rfl := Option.some.inj H
  go_enter Try.func136, Try.ntmps136
  go_wp2_with (first | ((with_reducible refine gate_dst (N := 1) rfl ?_); refine box_event ?hg (N := 1) ?hd (cs := #[.int .i64 a0_0, .int .i64 a0_1, .int .i64 a0_2, .int .i64 a0_3, .int .i64 a0_4]) (t := 69) ?hr ?_; (case hd => rfl); (case hg => rfl); (case hr => first | (go_simp; done) | (go_simp; rfl)); intro gb325 hg w19 hbox hb; have n0_ := Aside0.mk (below_step (qB HB) hb); have n1_ := Aside0.mk (hbox); have n2_ := Aside0.mk ((by rw [hg]; exact (below_size (qB HB)) : w.heap.size ≤ gb325)); have n3_ := Aside0.mk ((by rw [hg]; exact (below_size (qB HB)) : w.heap.size ≤ gb325)); clear HB; have HB := n0_; have BK325 := n1_; have GW325 := n2_; have GE325 := n3_; clear n0_ n1_ n2_ n3_; clear hb hbox hg; have hcz20_0 : w19.cell? ⟨gb325, 0, none⟩ = some (.int .i64 a0_0) := cC BK325 0; have hcz20_1 : w19.cell? ⟨gb325, 1, none⟩ = some (.int .i64 a0_1) := cC BK325 1; have hcz20_2 : w19.cell? ⟨gb325, 2, none⟩ = some (.int .i64 a0_2) := cC BK325 2; have hcz20_3 : w19.cell? ⟨gb325, 3, none⟩ = some (.int .i64 a0_3) := cC BK325 3; have hcz20_4 : w19.cell? ⟨gb325, 4, none⟩ = some (.int .i64 a0_4) := cC BK325 4; have hfz20_0 := blk_frozen BK325.out 0; have hfz20_1 := blk_frozen BK325.out 1; have hfz20_2 := blk_frozen BK325.out 2; have hfz20_3 := blk_frozen BK325.out 3; have hfz20_4 := blk_frozen BK325.out 4) | ((with_reducible refine gate_callee (f := 138) rfl ?_); refine goesL_ (some 5) rfl rfl Try.func138 (by kernel_rfl) rfl #[.int .i64 a0_0, .int .i64 1, .int .i64 999] rfl (by (try simp only [mA, mC, mN]); first | done | rfl | (simp only [lD, lT]; rfl)) ?_; (with_reducible refine (impl_InRange.calls a0_0 1 999 false _ A2.out).mono ?_); rintro e w' ⟨rfl, ⟨nd, rfl⟩⟩; refine ⟨_, rfl, ?_⟩))
  go_ret
  exact ⟨by first | rfl | (simp [errW_none, errW_some] <;> rfl) | (simp [*, errW_none, errW_some] <;> rfl), by repeat (first | (with_reducible first | exact HB.out | apply bA | apply bN | apply bD | refine bS ?_ GE325.out) | exact HB.out)⟩

/-! ### impl_PutAway: function 48 -/
def impl_PutAway.f (k : Nat) (l0 : List (S78)) (a1_0 : Int) (a1_1 : Int) (a1_2 : Int) (a1_3 : Int) (a1_4 : Int) : Option ((List (S78)) × Bool) := (impl_Slot_124.f l0).bind fun t332 => ((impl_freeFor.f k l0 a1_3).bind fun t335 => ((impl_AreSlots.f k l0).bind fun t336 => (if t336 = true then ((impl_IsThing.f a1_0 a1_1 a1_2 a1_3 a1_4).bind fun t337 => (if t337 = true then (if t335 < 0 then (some (t332, false)) else ((impl_slotWith.f l0 a1_0).bind fun t338 => (if t338 ≥ 0 then (some (t332, false)) else (if 0 ≤ t335 then (if t335 < (t332.length : Int) then (some ((t332.set (t335 : Int).toNat (⟨(rd_T78 t332 t335).f0, (rd_T78 t332 t335).f1, a1_0⟩ : S78)), true)) else (none)) else (none))))) else (some (t332, false)))) else (some (t332, false)))))
theorem impl_PutAway.mono : ∀ a0 a1 a2 a3 a4 a5 k, LeO (impl_PutAway.f k a0 a1 a2 a3 a4 a5) (impl_PutAway.f (k + 1) a0 a1 a2 a3 a4 a5) := by
 intro a0 a1 a2 a3 a4 a5 k
 unfold impl_PutAway.f
 repeat' first
   | (with_reducible exact impl_AreSlots.mono _ _)
   | (with_reducible exact impl_freeFor.mono _ _ _)
   | (with_reducible exact LeO.refl _)
   | (with_reducible exact LeO.none _)
   | (with_reducible refine LeO.ite ?_ ?_)
   | (with_reducible refine LeO.bind ?_ (fun _ => ?_))
   | exact impl_AreSlots.mono _ _
   | exact impl_freeFor.mono _ _ _
   | exact LeO.none _
   | refine LeO.ite ?_ ?_
   | refine LeO.bind ?_ (fun _ => ?_)
set_option maxHeartbeats 8000000 in
set_option maxRecDepth 100000 in
theorem impl_PutAway.calls (k : Nat) (A0 : Option Addr) (c0 : Nat) (l0 : List (S78)) (a1_0 : Int) (a1_1 : Int) (a1_2 : Int) (a1_3 : Int) (a1_4 : Int) (r1 : List (S78)) (r2 : Bool) (w : World) (hr0 : Kd.C k78 w A0 l0.length l0) (hc0 : l0.length ≤ c0) (h : impl_PutAway.f k l0 a1_0 a1_1 a1_2 a1_3 a1_4 = some (r1, r2)) :
  Calls Try.prog 48 #[.slice A0 l0.length c0, .agg #[.int .i64 a1_0, .int .i64 a1_1, .int .i64 a1_2, .int .i64 a1_3, .int .i64 a1_4]] w fun e w' => ∃ v0_ : Value, e = .returned (.tuple #[v0_, .bool r2]) ∧ Kd.R k78 78 w' w.heap.size (fun _ => True) v0_ r1 ∧ Below w.heap.size w w' := by
 have hu69 := Try.underlying69
 have HR0 := Aside0.mk hr0
 have HC0 := Aside0.mk hc0
 clear hr0 hc0
 have HB := Aside0.mk (Below.refl w.heap.size w)
 have H : ((impl_Slot_124.f l0).bind fun t332 => ((impl_freeFor.f k l0 a1_3).bind fun t335 => ((impl_AreSlots.f k l0).bind fun t336 => (if t336 = true then ((impl_IsThing.f a1_0 a1_1 a1_2 a1_3 a1_4).bind fun t337 => (if t337 = true then (if t335 < 0 then (some (t332, false)) else ((impl_slotWith.f l0 a1_0).bind fun t338 => (if t338 ≥ 0 then (some (t332, false)) else (if 0 ≤ t335 then (if t335 < (t332.length : Int) then (some ((t332.set (t335 : Int).toNat (⟨(rd_T78 t332 t335).f0, (rd_T78 t332 t335).f1, a1_0⟩ : S78)), true)) else (none)) else (none))))) else (some (t332, false)))) else (some (t332, false)))))) = some (r1, r2) := h
 clear h
 replace H := Option.bind_eq_some_iff.mp H
 obtain ⟨t332, A30, H⟩ := H
 replace H : ((impl_freeFor.f k l0 a1_3).bind fun t335 => ((impl_AreSlots.f k l0).bind fun t336 => (if t336 = true then ((impl_IsThing.f a1_0 a1_1 a1_2 a1_3 a1_4).bind fun t337 => (if t337 = true then (if t335 < 0 then (some (t332, false)) else ((impl_slotWith.f l0 a1_0).bind fun t338 => (if t338 ≥ 0 then (some (t332, false)) else (if 0 ≤ t335 then (if t335 < (t332.length : Int) then (some ((t332.set (t335 : Int).toNat (⟨(rd_T78 t332 t335).f0, (rd_T78 t332 t335).f1, a1_0⟩ : S78)), true)) else (none)) else (none))))) else (some (t332, false)))) else (some (t332, false))))) = some (r1, r2) := H
 have A3 := Aside0.mk A30
 clear A30
 replace H := Option.bind_eq_some_iff.mp H
 obtain ⟨t335, A40, H⟩ := H
 replace H : ((impl_AreSlots.f k l0).bind fun t336 => (if t336 = true then ((impl_IsThing.f a1_0 a1_1 a1_2 a1_3 a1_4).bind fun t337 => (if t337 = true then (if t335 < 0 then (some (t332, false)) else ((impl_slotWith.f l0 a1_0).bind fun t338 => (if t338 ≥ 0 then (some (t332, false)) else (if 0 ≤ t335 then (if t335 < (t332.length : Int) then (some ((t332.set (t335 : Int).toNat (⟨(rd_T78 t332 t335).f0, (rd_T78 t332 t335).f1, a1_0⟩ : S78)), true)) else (none)) else (none))))) else (some (t332, false)))) else (some (t332, false)))) = some (r1, r2) := H
 have A4 := Aside0.mk A40
 clear A40
 replace H := Option.bind_eq_some_iff.mp H
 obtain ⟨t336, A50, H⟩ := H
 replace H : (if t336 = true then ((impl_IsThing.f a1_0 a1_1 a1_2 a1_3 a1_4).bind fun t337 => (if t337 = true then (if t335 < 0 then (some (t332, false)) else ((impl_slotWith.f l0 a1_0).bind fun t338 => (if t338 ≥ 0 then (some (t332, false)) else (if 0 ≤ t335 then (if t335 < (t332.length : Int) then (some ((t332.set (t335 : Int).toNat (⟨(rd_T78 t332 t335).f0, (rd_T78 t332 t335).f1, a1_0⟩ : S78)), true)) else (none)) else (none))))) else (some (t332, false)))) else (some (t332, false))) = some (r1, r2) := H
 have A5 := Aside0.mk A50
 clear A50
 by_cases c6 : t336 = true
 ·subst c6
  have H1 : ((impl_IsThing.f a1_0 a1_1 a1_2 a1_3 a1_4).bind fun t337 => (if t337 = true then (if t335 < 0 then (some (t332, false)) else ((impl_slotWith.f l0 a1_0).bind fun t338 => (if t338 ≥ 0 then (some (t332, false)) else (if 0 ≤ t335 then (if t335 < (t332.length : Int) then (some ((t332.set (t335 : Int).toNat (⟨(rd_T78 t332 t335).f0, (rd_T78 t332 t335).f1, a1_0⟩ : S78)), true)) else (none)) else (none))))) else (some (t332, false)))) = some (r1, r2) := by rw [if_pos rfl] at H; exact H
  clear H
  have H := H1
  clear H1
  replace H := Option.bind_eq_some_iff.mp H
  obtain ⟨t337, A70, H⟩ := H
  replace H : (if t337 = true then (if t335 < 0 then (some (t332, false)) else ((impl_slotWith.f l0 a1_0).bind fun t338 => (if t338 ≥ 0 then (some (t332, false)) else (if 0 ≤ t335 then (if t335 < (t332.length : Int) then (some ((t332.set (t335 : Int).toNat (⟨(rd_T78 t332 t335).f0, (rd_T78 t332 t335).f1, a1_0⟩ : S78)), true)) else (none)) else (none))))) else (some (t332, false))) = some (r1, r2) := H
  have A7 := Aside0.mk A70
  clear A70
  by_cases c8 : t337 = true
  ·subst c8
   have H1 : (if t335 < 0 then (some (t332, false)) else ((impl_slotWith.f l0 a1_0).bind fun t338 => (if t338 ≥ 0 then (some (t332, false)) else (if 0 ≤ t335 then (if t335 < (t332.length : Int) then (some ((t332.set (t335 : Int).toNat (⟨(rd_T78 t332 t335).f0, (rd_T78 t332 t335).f1, a1_0⟩ : S78)), true)) else (none)) else (none))))) = some (r1, r2) := by rw [if_pos rfl] at H; exact H
   clear H
   have H := H1
   clear H1
   by_cases c9 : t335 < 0
   ·rw [if_pos c9] at H
    have c9b0 : decide (t335 < 0) = true := decide_eq_true c9
    clear c9
    simp only [Option.some.injEq, Prod.mk.injEq] at H
    obtain ⟨rfl, rfl⟩ := H
    go_enter Try.func48, Try.ntmps48
    go_wp2_with (first | ((with_reducible refine gate_dst (N := 3) rfl ?_); refine box_event ?hg (N := 3) ?hd (cs := #[.int .i64 a1_0, .int .i64 a1_1, .int .i64 a1_2, .int .i64 a1_3, .int .i64 a1_4]) (t := 69) ?hr ?_; (case hd => rfl); (case hg => rfl); (case hr => first | (go_simp; done) | (go_simp; rfl)); intro gb331 hg w10 hbox hb; have n0_ := Aside0.mk (below_step (qB HB) hb); have n1_ := Aside0.mk (hbox); have n2_ := Aside0.mk ((by rw [hg]; exact (below_size (qB HB)) : w.heap.size ≤ gb331)); have n3_ := Aside0.mk ((by rw [hg]; exact (below_size (qB HB)) : w.heap.size ≤ gb331)); clear HB; have HB := n0_; have BK331 := n1_; have GW331 := n2_; have GE331 := n3_; clear n0_ n1_ n2_ n3_; clear hb hbox hg) | ((with_reducible refine gate_callee (f := 124) rfl ?_); refine goesL_ (some 9) rfl rfl Try.func124 (by kernel_rfl) rfl #[.slice A0 l0.length c0] rfl (by (try simp only [mA, mC, mN]); first | done | rfl | (simp only [lD, lT]; rfl)) ?_; (with_reducible refine (impl_Slot_124.calls _ _ l0 t332 _ ?side1 ?side2 A3.out).mono ?_); (case side1 => exact qC (Kd.C_below HR0.out HB.out)); (case side2 => exact HC0.out); rintro e w11 ⟨v333, rfl, ho0, hb⟩; refine ⟨_, rfl, ?_⟩; have n0_ := Aside0.mk (Kd.R_lower ho0 (below_size (by repeat first | (with_reducible first | exact HB.out | apply bA | apply bN | apply bD | refine bS ?_ GE331.out) | exact HB.out))); have n1_ := Aside0.mk (blk_below (qK BK331) hb); have n2_ := Aside0.mk (below_step (by repeat first | (with_reducible first | exact HB.out | apply bA | apply bN | apply bD | refine bS ?_ GE331.out) | exact HB.out) hb); clear BK331; clear HB; have HO334 := n0_; have BK331 := n1_; have HB := n2_; clear n0_ n1_ n2_; (try clear hb); (try clear hb2); (try clear hk); (try clear hi); (try clear ho0); have hcz12_0 : w11.cell? ⟨gb331, 0, none⟩ = some (.int .i64 a1_0) := cC BK331 0; have hcz12_1 : w11.cell? ⟨gb331, 1, none⟩ = some (.int .i64 a1_1) := cC BK331 1; have hcz12_2 : w11.cell? ⟨gb331, 2, none⟩ = some (.int .i64 a1_2) := cC BK331 2; have hcz12_3 : w11.cell? ⟨gb331, 3, none⟩ = some (.int .i64 a1_3) := cC BK331 3; have hcz12_4 : w11.cell? ⟨gb331, 4, none⟩ = some (.int .i64 a1_4) := cC BK331 4; have hfz12_0 := blk_frozen BK331.out 0; have hfz12_1 := blk_frozen BK331.out 1; have hfz12_2 := blk_frozen BK331.out 2; have hfz12_3 := blk_frozen BK331.out 3; have hfz12_4 := blk_frozen BK331.out 4) | ((with_reducible refine gate_callee (f := 135) rfl ?_); refine goesL_ (some 13) rfl rfl Try.func135 (by kernel_rfl) rfl #[.slice A0 l0.length c0, .int .i64 a1_3] rfl (by (try simp only [mA, mC, mN]); first | done | rfl | (simp only [lD, lT]; rfl)) ?_; (with_reducible refine (impl_freeFor.calls k _ _ l0 a1_3 t335 _ ?side1 ?side2 A4.out).mono ?_); (case side1 => exact qC (Kd.C_below HR0.out HB.out)); (case side2 => exact HC0.out); rintro e w13 ⟨rfl, hb⟩; refine ⟨_, rfl, ?_⟩; have n0_ := Aside0.mk (Kd.R_below (qR HO334) hb); have n1_ := Aside0.mk (blk_below (qK BK331) hb); have n2_ := Aside0.mk (below_step (by repeat first | (with_reducible first | exact HB.out | apply bA | apply bN | apply bD | refine bS ?_ GE331.out) | exact HB.out) hb); clear HO334; clear BK331; clear HB; have HO334 := n0_; have BK331 := n1_; have HB := n2_; clear n0_ n1_ n2_; (try clear hb); (try clear hb2); (try clear hk); (try clear hi)) | ((with_reducible refine gate_callee (f := 51) rfl ?_); refine goesL_ (some 15) rfl rfl Try.func51 (by kernel_rfl) rfl #[.slice A0 l0.length c0] rfl (by (try simp only [mA, mC, mN]); first | done | rfl | (simp only [lD, lT]; rfl)) ?_; (with_reducible refine (impl_AreSlots.calls k _ _ l0 true _ ?side1 ?side2 A5.out).mono ?_); (case side1 => exact qC (Kd.C_below HR0.out HB.out)); (case side2 => exact HC0.out); rintro e w14 ⟨rfl, hb⟩; refine ⟨_, rfl, ?_⟩; have n0_ := Aside0.mk (Kd.R_below (qR HO334) hb); have n1_ := Aside0.mk (blk_below (qK BK331) hb); have n2_ := Aside0.mk (below_step (by repeat first | (with_reducible first | exact HB.out | apply bA | apply bN | apply bD | refine bS ?_ GE331.out) | exact HB.out) hb); clear HO334; clear BK331; clear HB; have HO334 := n0_; have BK331 := n1_; have HB := n2_; clear n0_ n1_ n2_; (try clear hb); (try clear hb2); (try clear hk); (try clear hi); have hcz15_0 : w14.cell? ⟨gb331, 0, none⟩ = some (.int .i64 a1_0) := cC BK331 0; have hcz15_1 : w14.cell? ⟨gb331, 1, none⟩ = some (.int .i64 a1_1) := cC BK331 1; have hcz15_2 : w14.cell? ⟨gb331, 2, none⟩ = some (.int .i64 a1_2) := cC BK331 2; have hcz15_3 : w14.cell? ⟨gb331, 3, none⟩ = some (.int .i64 a1_3) := cC BK331 3; have hcz15_4 : w14.cell? ⟨gb331, 4, none⟩ = some (.int .i64 a1_4) := cC BK331 4; have hfz15_0 := blk_frozen BK331.out 0; have hfz15_1 := blk_frozen BK331.out 1; have hfz15_2 := blk_frozen BK331.out 2; have hfz15_3 := blk_frozen BK331.out 3; have hfz15_4 := blk_frozen BK331.out 4) | (go_at_call 136; (with_reducible refine (impl_IsThing.calls a1_0 a1_1 a1_2 a1_3 a1_4 true _ A7.out).mono ?_); rintro e w16 ⟨rfl, hb⟩; have n0_ := Aside0.mk (Kd.R_below (qR HO334) hb); have n1_ := Aside0.mk (blk_below (qK BK331) hb); have n2_ := Aside0.mk (below_step (by repeat first | (with_reducible first | exact HB.out | apply bA | apply bN | apply bD | refine bS ?_ GE331.out) | exact HB.out) hb); clear HO334; clear BK331; clear HB; have HO334 := n0_; have BK331 := n1_; have HB := n2_; clear n0_ n1_ n2_; (try clear hb); (try clear hb2); (try clear hk); (try clear hi)))
    go_ret2
    exact ⟨_, by first | rfl | (simp [errW_none, errW_some] <;> rfl) | (simp [*, errW_none, errW_some] <;> rfl), by (with_reducible repeat first | apply rA | apply rN | apply rD); exact HO334.out, by repeat (first | (with_reducible first | exact HB.out | apply bA | apply bN | apply bD | refine bS ?_ GE331.out) | exact HB.out)⟩
   ·rw [if_neg c9] at H
    have c9b0 : decide (t335 < 0) = false := decide_eq_false c9
    clear c9
    replace H := Option.bind_eq_some_iff.mp H
    obtain ⟨t338, A170, H⟩ := H
    replace H : (if t338 ≥ 0 then (some (t332, false)) else (if 0 ≤ t335 then (if t335 < (t332.length : Int) then (some ((t332.set (t335 : Int).toNat (⟨(rd_T78 t332 t335).f0, (rd_T78 t332 t335).f1, a1_0⟩ : S78)), true)) else (none)) else (none))) = some (r1, r2) := H
    have A17 := Aside0.mk A170
    clear A170
    by_cases c18 : t338 ≥ 0
    ·rw [if_pos c18] at H
     have c18b0 : decide (0 ≤ t338) = true := decide_eq_true c18
     clear c18
     simp only [Option.some.injEq, Prod.mk.injEq] at H
     obtain ⟨rfl, rfl⟩ := H
     go_enter Try.func48, Try.ntmps48
     go_wp2_with (first | ((with_reducible refine gate_dst (N := 3) rfl ?_); refine box_event ?hg (N := 3) ?hd (cs := #[.int .i64 a1_0, .int .i64 a1_1, .int .i64 a1_2, .int .i64 a1_3, .int .i64 a1_4]) (t := 69) ?hr ?_; (case hd => rfl); (case hg => rfl); (case hr => first | (go_simp; done) | (go_simp; rfl)); intro gb331 hg w19 hbox hb; have n0_ := Aside0.mk (below_step (qB HB) hb); have n1_ := Aside0.mk (hbox); have n2_ := Aside0.mk ((by rw [hg]; exact (below_size (qB HB)) : w.heap.size ≤ gb331)); have n3_ := Aside0.mk ((by rw [hg]; exact (below_size (qB HB)) : w.heap.size ≤ gb331)); clear HB; have HB := n0_; have BK331 := n1_; have GW331 := n2_; have GE331 := n3_; clear n0_ n1_ n2_ n3_; clear hb hbox hg) | ((with_reducible refine gate_callee (f := 124) rfl ?_); refine goesL_ (some 9) rfl rfl Try.func124 (by kernel_rfl) rfl #[.slice A0 l0.length c0] rfl (by (try simp only [mA, mC, mN]); first | done | rfl | (simp only [lD, lT]; rfl)) ?_; (with_reducible refine (impl_Slot_124.calls _ _ l0 t332 _ ?side1 ?side2 A3.out).mono ?_); (case side1 => exact qC (Kd.C_below HR0.out HB.out)); (case side2 => exact HC0.out); rintro e w20 ⟨v333, rfl, ho0, hb⟩; refine ⟨_, rfl, ?_⟩; have n0_ := Aside0.mk (Kd.R_lower ho0 (below_size (by repeat first | (with_reducible first | exact HB.out | apply bA | apply bN | apply bD | refine bS ?_ GE331.out) | exact HB.out))); have n1_ := Aside0.mk (blk_below (qK BK331) hb); have n2_ := Aside0.mk (below_step (by repeat first | (with_reducible first | exact HB.out | apply bA | apply bN | apply bD | refine bS ?_ GE331.out) | exact HB.out) hb); clear BK331; clear HB; have HO334 := n0_; have BK331 := n1_; have HB := n2_; clear n0_ n1_ n2_; (try clear hb); (try clear hb2); (try clear hk); (try clear hi); (try clear ho0); have hcz21_0 : w20.cell? ⟨gb331, 0, none⟩ = some (.int .i64 a1_0) := cC BK331 0; have hcz21_1 : w20.cell? ⟨gb331, 1, none⟩ = some (.int .i64 a1_1) := cC BK331 1; have hcz21_2 : w20.cell? ⟨gb331, 2, none⟩ = some (.int .i64 a1_2) := cC BK331 2; have hcz21_3 : w20.cell? ⟨gb331, 3, none⟩ = some (.int .i64 a1_3) := cC BK331 3; have hcz21_4 : w20.cell? ⟨gb331, 4, none⟩ = some (.int .i64 a1_4) := cC BK331 4; have hfz21_0 := blk_frozen BK331.out 0; have hfz21_1 := blk_frozen BK331.out 1; have hfz21_2 := blk_frozen BK331.out 2; have hfz21_3 := blk_frozen BK331.out 3; have hfz21_4 := blk_frozen BK331.out 4) | ((with_reducible refine gate_callee (f := 135) rfl ?_); refine goesL_ (some 13) rfl rfl Try.func135 (by kernel_rfl) rfl #[.slice A0 l0.length c0, .int .i64 a1_3] rfl (by (try simp only [mA, mC, mN]); first | done | rfl | (simp only [lD, lT]; rfl)) ?_; (with_reducible refine (impl_freeFor.calls k _ _ l0 a1_3 t335 _ ?side1 ?side2 A4.out).mono ?_); (case side1 => exact qC (Kd.C_below HR0.out HB.out)); (case side2 => exact HC0.out); rintro e w22 ⟨rfl, hb⟩; refine ⟨_, rfl, ?_⟩; have n0_ := Aside0.mk (Kd.R_below (qR HO334) hb); have n1_ := Aside0.mk (blk_below (qK BK331) hb); have n2_ := Aside0.mk (below_step (by repeat first | (with_reducible first | exact HB.out | apply bA | apply bN | apply bD | refine bS ?_ GE331.out) | exact HB.out) hb); clear HO334; clear BK331; clear HB; have HO334 := n0_; have BK331 := n1_; have HB := n2_; clear n0_ n1_ n2_; (try clear hb); (try clear hb2); (try clear hk); (try clear hi)) | ((with_reducible refine gate_callee (f := 51) rfl ?_); refine goesL_ (some 15) rfl rfl Try.func51 (by kernel_rfl) rfl #[.slice A0 l0.length c0] rfl (by (try simp only [mA, mC, mN]); first | done | rfl | (simp only [lD, lT]; rfl)) ?_; (with_reducible refine (impl_AreSlots.calls k _ _ l0 true _ ?side1 ?side2 A5.out).mono ?_); (case side1 => exact qC (Kd.C_below HR0.out HB.out)); (case side2 => exact HC0.out); rintro e w23 ⟨rfl, hb⟩; refine ⟨_, rfl, ?_⟩; have n0_ := Aside0.mk (Kd.R_below (qR HO334) hb); have n1_ := Aside0.mk (blk_below (qK BK331) hb); have n2_ := Aside0.mk (below_step (by repeat first | (with_reducible first | exact HB.out | apply bA | apply bN | apply bD | refine bS ?_ GE331.out) | exact HB.out) hb); clear HO334; clear BK331; clear HB; have HO334 := n0_; have BK331 := n1_; have HB := n2_; clear n0_ n1_ n2_; (try clear hb); (try clear hb2); (try clear hk); (try clear hi); have hcz24_0 : w23.cell? ⟨gb331, 0, none⟩ = some (.int .i64 a1_0) := cC BK331 0; have hcz24_1 : w23.cell? ⟨gb331, 1, none⟩ = some (.int .i64 a1_1) := cC BK331 1; have hcz24_2 : w23.cell? ⟨gb331, 2, none⟩ = some (.int .i64 a1_2) := cC BK331 2; have hcz24_3 : w23.cell? ⟨gb331, 3, none⟩ = some (.int .i64 a1_3) := cC BK331 3; have hcz24_4 : w23.cell? ⟨gb331, 4, none⟩ = some (.int .i64 a1_4) := cC BK331 4; have hfz24_0 := blk_frozen BK331.out 0; have hfz24_1 := blk_frozen BK331.out 1; have hfz24_2 := blk_frozen BK331.out 2; have hfz24_3 := blk_frozen BK331.out 3; have hfz24_4 := blk_frozen BK331.out 4) | (go_at_call 136; (with_reducible refine (impl_IsThing.calls a1_0 a1_1 a1_2 a1_3 a1_4 true _ A7.out).mono ?_); rintro e w25 ⟨rfl, hb⟩; have n0_ := Aside0.mk (Kd.R_below (qR HO334) hb); have n1_ := Aside0.mk (blk_below (qK BK331) hb); have n2_ := Aside0.mk (below_step (by repeat first | (with_reducible first | exact HB.out | apply bA | apply bN | apply bD | refine bS ?_ GE331.out) | exact HB.out) hb); clear HO334; clear BK331; clear HB; have HO334 := n0_; have BK331 := n1_; have HB := n2_; clear n0_ n1_ n2_; (try clear hb); (try clear hb2); (try clear hk); (try clear hi); have hcz26_0 : w25.cell? ⟨gb331, 0, none⟩ = some (.int .i64 a1_0) := cC BK331 0; have hcz26_1 : w25.cell? ⟨gb331, 1, none⟩ = some (.int .i64 a1_1) := cC BK331 1; have hcz26_2 : w25.cell? ⟨gb331, 2, none⟩ = some (.int .i64 a1_2) := cC BK331 2; have hcz26_3 : w25.cell? ⟨gb331, 3, none⟩ = some (.int .i64 a1_3) := cC BK331 3; have hcz26_4 : w25.cell? ⟨gb331, 4, none⟩ = some (.int .i64 a1_4) := cC BK331 4; have hfz26_0 := blk_frozen BK331.out 0; have hfz26_1 := blk_frozen BK331.out 1; have hfz26_2 := blk_frozen BK331.out 2; have hfz26_3 := blk_frozen BK331.out 3; have hfz26_4 := blk_frozen BK331.out 4) | (go_at_call 137; (with_reducible refine (impl_slotWith.calls _ _ l0 a1_0 t338 _ ?side1 ?side2 A17.out).mono ?_); (case side1 => exact qC (Kd.C_below HR0.out HB.out)); (case side2 => exact HC0.out); rintro e w27 ⟨rfl, hb⟩; have n0_ := Aside0.mk (Kd.R_below (qR HO334) hb); have n1_ := Aside0.mk (blk_below (qK BK331) hb); have n2_ := Aside0.mk (below_step (by repeat first | (with_reducible first | exact HB.out | apply bA | apply bN | apply bD | refine bS ?_ GE331.out) | exact HB.out) hb); clear HO334; clear BK331; clear HB; have HO334 := n0_; have BK331 := n1_; have HB := n2_; clear n0_ n1_ n2_; (try clear hb); (try clear hb2); (try clear hk); (try clear hi)))
     go_ret2
     exact ⟨_, by first | rfl | (simp [errW_none, errW_some] <;> rfl) | (simp [*, errW_none, errW_some] <;> rfl), by (with_reducible repeat first | apply rA | apply rN | apply rD); exact HO334.out, by repeat (first | (with_reducible first | exact HB.out | apply bA | apply bN | apply bD | refine bS ?_ GE331.out) | exact HB.out)⟩
    ·rw [if_neg c18] at H
     have c18b0 : decide (0 ≤ t338) = false := decide_eq_false c18
     clear c18
     by_cases c28 : 0 ≤ t335
     ·rw [if_pos c28] at H
      have c28b0 : decide (0 ≤ t335) = true := decide_eq_true c28
      clear c28
      by_cases c29 : t335 < (t332.length : Int)
      ·rw [if_pos c29] at H
       have c29b0 : decide (t335 < (t332.length : Int)) = true := decide_eq_true c29
       clear c29
       obtain ⟨y339, hy339⟩ : ∃ y_ : List (S78), y_ = (t332.set (t335 : Int).toNat (⟨(rd_T78 t332 t335).f0, (rd_T78 t332 t335).f1, a1_0⟩ : S78)) := ⟨_, rfl⟩
       replace H : (some (y339, true)) = some (r1, r2) := by first | (rw [hy339]; with_reducible exact H) | (have H2_ := (Option.bind_some _ _).symm.trans H; rw [hy339]; with_reducible exact H2_) | (have H2_ := (Option.bind_some _ _).symm.trans H; with_reducible exact H2_) | with_reducible exact H | (rw [hy339]; exact H) | exact H
       have Ny339 := Aside0.mk hy339
       clear hy339
       simp only [Option.some.injEq, Prod.mk.injEq] at H
       obtain ⟨rfl, rfl⟩ := H
       go_enter Try.func48, Try.ntmps48
       go_wp2_with (first | ((with_reducible refine gate_dst (N := 3) rfl ?_); refine box_event ?hg (N := 3) ?hd (cs := #[.int .i64 a1_0, .int .i64 a1_1, .int .i64 a1_2, .int .i64 a1_3, .int .i64 a1_4]) (t := 69) ?hr ?_; (case hd => rfl); (case hg => rfl); (case hr => first | (go_simp; done) | (go_simp; rfl)); intro gb331 hg w31 hbox hb; have n0_ := Aside0.mk (below_step (qB HB) hb); have n1_ := Aside0.mk (hbox); have n2_ := Aside0.mk ((by rw [hg]; exact (below_size (qB HB)) : w.heap.size ≤ gb331)); have n3_ := Aside0.mk ((by rw [hg]; exact (below_size (qB HB)) : w.heap.size ≤ gb331)); clear HB; have HB := n0_; have BK331 := n1_; have GW331 := n2_; have GE331 := n3_; clear n0_ n1_ n2_ n3_; clear hb hbox hg) | ((with_reducible refine gate_callee (f := 124) rfl ?_); refine goesL_ (some 9) rfl rfl Try.func124 (by kernel_rfl) rfl #[.slice A0 l0.length c0] rfl (by (try simp only [mA, mC, mN]); first | done | rfl | (simp only [lD, lT]; rfl)) ?_; (with_reducible refine (impl_Slot_124.calls _ _ l0 t332 _ ?side1 ?side2 A3.out).mono ?_); (case side1 => exact qC (Kd.C_below HR0.out HB.out)); (case side2 => exact HC0.out); rintro e w32 ⟨v333, rfl, ho0, hb⟩; refine ⟨_, rfl, ?_⟩; have n0_ := Aside0.mk (Kd.R_lower ho0 (below_size (by repeat first | (with_reducible first | exact HB.out | apply bA | apply bN | apply bD | refine bS ?_ GE331.out) | exact HB.out))); have n1_ := Aside0.mk (blk_below (qK BK331) hb); have n2_ := Aside0.mk (below_step (by repeat first | (with_reducible first | exact HB.out | apply bA | apply bN | apply bD | refine bS ?_ GE331.out) | exact HB.out) hb); clear BK331; clear HB; have HO334 := n0_; have BK331 := n1_; have HB := n2_; clear n0_ n1_ n2_; (try clear hb); (try clear hb2); (try clear hk); (try clear hi); (try clear ho0); have hcz33_0 : w32.cell? ⟨gb331, 0, none⟩ = some (.int .i64 a1_0) := cC BK331 0; have hcz33_1 : w32.cell? ⟨gb331, 1, none⟩ = some (.int .i64 a1_1) := cC BK331 1; have hcz33_2 : w32.cell? ⟨gb331, 2, none⟩ = some (.int .i64 a1_2) := cC BK331 2; have hcz33_3 : w32.cell? ⟨gb331, 3, none⟩ = some (.int .i64 a1_3) := cC BK331 3; have hcz33_4 : w32.cell? ⟨gb331, 4, none⟩ = some (.int .i64 a1_4) := cC BK331 4; have hfz33_0 := blk_frozen BK331.out 0; have hfz33_1 := blk_frozen BK331.out 1; have hfz33_2 := blk_frozen BK331.out 2; have hfz33_3 := blk_frozen BK331.out 3; have hfz33_4 := blk_frozen BK331.out 4) | ((with_reducible refine gate_callee (f := 135) rfl ?_); refine goesL_ (some 13) rfl rfl Try.func135 (by kernel_rfl) rfl #[.slice A0 l0.length c0, .int .i64 a1_3] rfl (by (try simp only [mA, mC, mN]); first | done | rfl | (simp only [lD, lT]; rfl)) ?_; (with_reducible refine (impl_freeFor.calls k _ _ l0 a1_3 t335 _ ?side1 ?side2 A4.out).mono ?_); (case side1 => exact qC (Kd.C_below HR0.out HB.out)); (case side2 => exact HC0.out); rintro e w34 ⟨rfl, hb⟩; refine ⟨_, rfl, ?_⟩; have n0_ := Aside0.mk (Kd.R_below (qR HO334) hb); have n1_ := Aside0.mk (blk_below (qK BK331) hb); have n2_ := Aside0.mk (below_step (by repeat first | (with_reducible first | exact HB.out | apply bA | apply bN | apply bD | refine bS ?_ GE331.out) | exact HB.out) hb); clear HO334; clear BK331; clear HB; have HO334 := n0_; have BK331 := n1_; have HB := n2_; clear n0_ n1_ n2_; (try clear hb); (try clear hb2); (try clear hk); (try clear hi)) | ((with_reducible refine gate_callee (f := 51) rfl ?_); refine goesL_ (some 15) rfl rfl Try.func51 (by kernel_rfl) rfl #[.slice A0 l0.length c0] rfl (by (try simp only [mA, mC, mN]); first | done | rfl | (simp only [lD, lT]; rfl)) ?_; (with_reducible refine (impl_AreSlots.calls k _ _ l0 true _ ?side1 ?side2 A5.out).mono ?_); (case side1 => exact qC (Kd.C_below HR0.out HB.out)); (case side2 => exact HC0.out); rintro e w35 ⟨rfl, hb⟩; refine ⟨_, rfl, ?_⟩; have n0_ := Aside0.mk (Kd.R_below (qR HO334) hb); have n1_ := Aside0.mk (blk_below (qK BK331) hb); have n2_ := Aside0.mk (below_step (by repeat first | (with_reducible first | exact HB.out | apply bA | apply bN | apply bD | refine bS ?_ GE331.out) | exact HB.out) hb); clear HO334; clear BK331; clear HB; have HO334 := n0_; have BK331 := n1_; have HB := n2_; clear n0_ n1_ n2_; (try clear hb); (try clear hb2); (try clear hk); (try clear hi); have hcz36_0 : w35.cell? ⟨gb331, 0, none⟩ = some (.int .i64 a1_0) := cC BK331 0; have hcz36_1 : w35.cell? ⟨gb331, 1, none⟩ = some (.int .i64 a1_1) := cC BK331 1; have hcz36_2 : w35.cell? ⟨gb331, 2, none⟩ = some (.int .i64 a1_2) := cC BK331 2; have hcz36_3 : w35.cell? ⟨gb331, 3, none⟩ = some (.int .i64 a1_3) := cC BK331 3; have hcz36_4 : w35.cell? ⟨gb331, 4, none⟩ = some (.int .i64 a1_4) := cC BK331 4; have hfz36_0 := blk_frozen BK331.out 0; have hfz36_1 := blk_frozen BK331.out 1; have hfz36_2 := blk_frozen BK331.out 2; have hfz36_3 := blk_frozen BK331.out 3; have hfz36_4 := blk_frozen BK331.out 4) | (go_at_call 136; (with_reducible refine (impl_IsThing.calls a1_0 a1_1 a1_2 a1_3 a1_4 true _ A7.out).mono ?_); rintro e w37 ⟨rfl, hb⟩; have n0_ := Aside0.mk (Kd.R_below (qR HO334) hb); have n1_ := Aside0.mk (blk_below (qK BK331) hb); have n2_ := Aside0.mk (below_step (by repeat first | (with_reducible first | exact HB.out | apply bA | apply bN | apply bD | refine bS ?_ GE331.out) | exact HB.out) hb); clear HO334; clear BK331; clear HB; have HO334 := n0_; have BK331 := n1_; have HB := n2_; clear n0_ n1_ n2_; (try clear hb); (try clear hb2); (try clear hk); (try clear hi); have hcz38_0 : w37.cell? ⟨gb331, 0, none⟩ = some (.int .i64 a1_0) := cC BK331 0; have hcz38_1 : w37.cell? ⟨gb331, 1, none⟩ = some (.int .i64 a1_1) := cC BK331 1; have hcz38_2 : w37.cell? ⟨gb331, 2, none⟩ = some (.int .i64 a1_2) := cC BK331 2; have hcz38_3 : w37.cell? ⟨gb331, 3, none⟩ = some (.int .i64 a1_3) := cC BK331 3; have hcz38_4 : w37.cell? ⟨gb331, 4, none⟩ = some (.int .i64 a1_4) := cC BK331 4; have hfz38_0 := blk_frozen BK331.out 0; have hfz38_1 := blk_frozen BK331.out 1; have hfz38_2 := blk_frozen BK331.out 2; have hfz38_3 := blk_frozen BK331.out 3; have hfz38_4 := blk_frozen BK331.out 4) | (go_at_call 137; (with_reducible refine (impl_slotWith.calls _ _ l0 a1_0 t338 _ ?side1 ?side2 A17.out).mono ?_); (case side1 => exact qC (Kd.C_below HR0.out HB.out)); (case side2 => exact HC0.out); rintro e w39 ⟨rfl, hb⟩; have n0_ := Aside0.mk (Kd.R_below (qR HO334) hb); have n1_ := Aside0.mk (blk_below (qK BK331) hb); have n2_ := Aside0.mk (below_step (by repeat first | (with_reducible first | exact HB.out | apply bA | apply bN | apply bD | refine bS ?_ GE331.out) | exact HB.out) hb); clear HO334; clear BK331; clear HB; have HO334 := n0_; have BK331 := n1_; have HB := n2_; clear n0_ n1_ n2_; (try clear hb); (try clear hb2); (try clear hk); (try clear hi); have hcz40_0 : w39.cell? ⟨gb331, 0, none⟩ = some (.int .i64 a1_0) := cC BK331 0; have hcz40_1 : w39.cell? ⟨gb331, 1, none⟩ = some (.int .i64 a1_1) := cC BK331 1; have hcz40_2 : w39.cell? ⟨gb331, 2, none⟩ = some (.int .i64 a1_2) := cC BK331 2; have hcz40_3 : w39.cell? ⟨gb331, 3, none⟩ = some (.int .i64 a1_3) := cC BK331 3; have hcz40_4 : w39.cell? ⟨gb331, 4, none⟩ = some (.int .i64 a1_4) := cC BK331 4; have hfz40_0 := blk_frozen BK331.out 0; have hfz40_1 := blk_frozen BK331.out 1; have hfz40_2 := blk_frozen BK331.out 2; have hfz40_3 := blk_frozen BK331.out 3; have hfz40_4 := blk_frozen BK331.out 4; have p30 : 0 ≤ (t335 : Int) := of_decide_eq_true ‹_›; have q30 : (t335 : Int) < ((t332.length : Int) : Int) := of_decide_eq_true ‹_›; obtain ⟨go30, co30, eo30, gb30, gl30, cl30, HG30⟩ := Kd.R_form HO334.out (by omega); (first | cases eo30 | (injection eo30 with ea_ en_ ec_; (first | subst ea_ | (injection ea_ with ea_; subst ea_)); subst ec_; clear en_)); have GB30 := Aside0.mk gb30; have GG30 := Aside0.mk HG30; clear gb30 gl30 HG30; obtain ⟨ce30, hcl30, hM30, hcc30, hfr30⟩ := Kd.R_elem HO334.out z78 (t335 : Int) p30 q30; obtain rfl := k78_openM hM30; have hx30_0 : w39.cell? ⟨go30, (t335 : Int).toNat * 3, none⟩ = some (.int .i64 ((rd_T78 t332 t335).f0)) := hcc30 0 _ rfl; have hx30_1 : w39.cell? ⟨go30, (t335 : Int).toNat * 3 + 1, none⟩ = some (.int .i64 ((rd_T78 t332 t335).f1)) := hcc30 1 _ rfl; have hx30_2 : w39.cell? ⟨go30, (t335 : Int).toNat * 3 + 2, none⟩ = some (.int .i64 ((rd_T78 t332 t335).f2)) := hcc30 2 _ rfl; have hf30_0 : w39.frozen? ⟨go30, (t335 : Int).toNat * 3, none⟩ = false := hfr30 0; have hf30_1 : w39.frozen? ⟨go30, (t335 : Int).toNat * 3 + 1, none⟩ = false := hfr30 1; have hf30_2 : w39.frozen? ⟨go30, (t335 : Int).toNat * 3 + 2, none⟩ = false := hfr30 2; clear hcl30 hcc30 hfr30 hM30; replace p30 := eq_true p30; replace q30 := eq_true q30; have HX41 := Aside0.mk (show Kd.R k78 78 w39 w.heap.size (fun _ => True) (.slice (some ⟨go30, 0, none⟩) t332.length co30) t332 from (qR HO334)); obtain ⟨ce41, hcl41, hM41, hcc41, hfr41⟩ := Kd.R_elem HX41.out z78 (t335 : Int) (of_decide_eq_true ‹_›) (by have h_ : (t335 : Int) < ((t332.length : Int) : Int) := of_decide_eq_true ‹_›; first | exact h_ | (have e_ := (Kd.R_reads' HO334.out).1; omega) | simpa using h_); obtain rfl := k78_openM hM41; have HP41 := Kd.R_seg HX41.out (t335 : Int) (of_decide_eq_true ‹_›) (by have h_ : (t335 : Int) < ((t332.length : Int) : Int) := of_decide_eq_true ‹_›; first | exact h_ | (have e_ := (Kd.R_reads' HO334.out).1; omega) | simpa using h_) (seg := [.int .i64 a1_0]) (j := 2) hcl41 hcc41 (show 3 ≤ 3 from by decide) (x' := (⟨(rd_T78 t332 t335).f0, (rd_T78 t332 t335).f1, a1_0⟩ : S78)) (k78_mkM _ _ _ (⟨(rd_T78 t332 t335).f0, (rd_T78 t332 t335).f1, a1_0⟩ : S78) ) (fun _ hk => hk); have hx41_2 := hcc41 2 _ rfl; (try simp only [show (k78).sz = 3 from rfl, Nat.mul_one, Nat.add_zero] at hx41_2); have hf41_2 := hfr41 2; (try simp only [show (k78).sz = 3 from rfl, Nat.mul_one, Nat.add_zero] at hf41_2); clear hcl41 hcc41 hfr41 hM41) | ((with_reducible refine gate_store (t := 3) (p := 39) rfl ?_); refine store_event (t := 3) (p := 39) (v := ?vo_w42) (w1 := (w39.setCell ⟨go30, (t335 : Int).toNat * 3 + 2, none⟩ (.int .i64 a1_0))) ?hg ?ho ?hn ?hr ?_; (case ho => rfl); (case hg => rfl); (case hn => rfl); (case hr => first | (go_simp; done) | (go_simp; rfl)); intro w42 hw; have hg : w39.grownBy w42 (some go30) := (by rw [hw]; exact HP41.2); have hp_ : Kd.R k78 78 w42 w.heap.size (fun _ => True) (.slice (some ⟨go30, 0, none⟩) t332.length co30) y339 := (by rw [hw, Ny339.out]; exact HP41.1); clear HP41; have n0_ := Aside0.mk (blk_grown (qK BK331) hg (Kd.R_ne HO334.out BK331.out (by decide))); have n1_ := Aside0.mk (hp_); have n2_ := Aside0.mk ((by rw [hw]; exact below_set (HB.out) GB30.out : Below w.heap.size w w42)); clear BK331; clear HO334; clear HB; have BK331 := n0_; have HO334 := n1_; have HB := n2_; clear n0_ n1_ n2_; clear hg hw hp_))
       go_ret2
       exact ⟨_, by first | rfl | (simp [errW_none, errW_some] <;> rfl) | (simp [*, errW_none, errW_some] <;> rfl), by (with_reducible repeat first | apply rA | apply rN | apply rD); exact HO334.out, by repeat (first | (with_reducible first | exact HB.out | apply bA | apply bN | apply bD | refine bS ?_ GE331.out) | exact HB.out)⟩
      ·rw [if_neg c29] at H
       exact absurd H (by simp)
     ·rw [if_neg c28] at H
      exact absurd H (by simp)
  ·replace c8 := Bool.eq_false_iff.mpr c8
   subst c8
   have H1 : (some (t332, false)) = some (r1, r2) := by rw [if_neg (show ¬ (false = true) by decide)] at H; exact H
   clear H
   have H := H1
   clear H1
   simp only [Option.some.injEq, Prod.mk.injEq] at H
   obtain ⟨rfl, rfl⟩ := H
   go_enter Try.func48, Try.ntmps48
   go_wp2_with (first | ((with_reducible refine gate_dst (N := 3) rfl ?_); refine box_event ?hg (N := 3) ?hd (cs := #[.int .i64 a1_0, .int .i64 a1_1, .int .i64 a1_2, .int .i64 a1_3, .int .i64 a1_4]) (t := 69) ?hr ?_; (case hd => rfl); (case hg => rfl); (case hr => first | (go_simp; done) | (go_simp; rfl)); intro gb331 hg w43 hbox hb; have n0_ := Aside0.mk (below_step (qB HB) hb); have n1_ := Aside0.mk (hbox); have n2_ := Aside0.mk ((by rw [hg]; exact (below_size (qB HB)) : w.heap.size ≤ gb331)); have n3_ := Aside0.mk ((by rw [hg]; exact (below_size (qB HB)) : w.heap.size ≤ gb331)); clear HB; have HB := n0_; have BK331 := n1_; have GW331 := n2_; have GE331 := n3_; clear n0_ n1_ n2_ n3_; clear hb hbox hg) | ((with_reducible refine gate_callee (f := 124) rfl ?_); refine goesL_ (some 9) rfl rfl Try.func124 (by kernel_rfl) rfl #[.slice A0 l0.length c0] rfl (by (try simp only [mA, mC, mN]); first | done | rfl | (simp only [lD, lT]; rfl)) ?_; (with_reducible refine (impl_Slot_124.calls _ _ l0 t332 _ ?side1 ?side2 A3.out).mono ?_); (case side1 => exact qC (Kd.C_below HR0.out HB.out)); (case side2 => exact HC0.out); rintro e w44 ⟨v333, rfl, ho0, hb⟩; refine ⟨_, rfl, ?_⟩; have n0_ := Aside0.mk (Kd.R_lower ho0 (below_size (by repeat first | (with_reducible first | exact HB.out | apply bA | apply bN | apply bD | refine bS ?_ GE331.out) | exact HB.out))); have n1_ := Aside0.mk (blk_below (qK BK331) hb); have n2_ := Aside0.mk (below_step (by repeat first | (with_reducible first | exact HB.out | apply bA | apply bN | apply bD | refine bS ?_ GE331.out) | exact HB.out) hb); clear BK331; clear HB; have HO334 := n0_; have BK331 := n1_; have HB := n2_; clear n0_ n1_ n2_; (try clear hb); (try clear hb2); (try clear hk); (try clear hi); (try clear ho0); have hcz45_0 : w44.cell? ⟨gb331, 0, none⟩ = some (.int .i64 a1_0) := cC BK331 0; have hcz45_1 : w44.cell? ⟨gb331, 1, none⟩ = some (.int .i64 a1_1) := cC BK331 1; have hcz45_2 : w44.cell? ⟨gb331, 2, none⟩ = some (.int .i64 a1_2) := cC BK331 2; have hcz45_3 : w44.cell? ⟨gb331, 3, none⟩ = some (.int .i64 a1_3) := cC BK331 3; have hcz45_4 : w44.cell? ⟨gb331, 4, none⟩ = some (.int .i64 a1_4) := cC BK331 4; have hfz45_0 := blk_frozen BK331.out 0; have hfz45_1 := blk_frozen BK331.out 1; have hfz45_2 := blk_frozen BK331.out 2; have hfz45_3 := blk_frozen BK331.out 3; have hfz45_4 := blk_frozen BK331.out 4) | ((with_reducible refine gate_callee (f := 135) rfl ?_); refine goesL_ (some 13) rfl rfl Try.func135 (by kernel_rfl) rfl #[.slice A0 l0.length c0, .int .i64 a1_3] rfl (by (try simp only [mA, mC, mN]); first | done | rfl | (simp only [lD, lT]; rfl)) ?_; (with_reducible refine (impl_freeFor.calls k _ _ l0 a1_3 t335 _ ?side1 ?side2 A4.out).mono ?_); (case side1 => exact qC (Kd.C_below HR0.out HB.out)); (case side2 => exact HC0.out); rintro e w46 ⟨rfl, hb⟩; refine ⟨_, rfl, ?_⟩; have n0_ := Aside0.mk (Kd.R_below (qR HO334) hb); have n1_ := Aside0.mk (blk_below (qK BK331) hb); have n2_ := Aside0.mk (below_step (by repeat first | (with_reducible first | exact HB.out | apply bA | apply bN | apply bD | refine bS ?_ GE331.out) | exact HB.out) hb); clear HO334; clear BK331; clear HB; have HO334 := n0_; have BK331 := n1_; have HB := n2_; clear n0_ n1_ n2_; (try clear hb); (try clear hb2); (try clear hk); (try clear hi)) | ((with_reducible refine gate_callee (f := 51) rfl ?_); refine goesL_ (some 15) rfl rfl Try.func51 (by kernel_rfl) rfl #[.slice A0 l0.length c0] rfl (by (try simp only [mA, mC, mN]); first | done | rfl | (simp only [lD, lT]; rfl)) ?_; (with_reducible refine (impl_AreSlots.calls k _ _ l0 true _ ?side1 ?side2 A5.out).mono ?_); (case side1 => exact qC (Kd.C_below HR0.out HB.out)); (case side2 => exact HC0.out); rintro e w47 ⟨rfl, hb⟩; refine ⟨_, rfl, ?_⟩; have n0_ := Aside0.mk (Kd.R_below (qR HO334) hb); have n1_ := Aside0.mk (blk_below (qK BK331) hb); have n2_ := Aside0.mk (below_step (by repeat first | (with_reducible first | exact HB.out | apply bA | apply bN | apply bD | refine bS ?_ GE331.out) | exact HB.out) hb); clear HO334; clear BK331; clear HB; have HO334 := n0_; have BK331 := n1_; have HB := n2_; clear n0_ n1_ n2_; (try clear hb); (try clear hb2); (try clear hk); (try clear hi); have hcz48_0 : w47.cell? ⟨gb331, 0, none⟩ = some (.int .i64 a1_0) := cC BK331 0; have hcz48_1 : w47.cell? ⟨gb331, 1, none⟩ = some (.int .i64 a1_1) := cC BK331 1; have hcz48_2 : w47.cell? ⟨gb331, 2, none⟩ = some (.int .i64 a1_2) := cC BK331 2; have hcz48_3 : w47.cell? ⟨gb331, 3, none⟩ = some (.int .i64 a1_3) := cC BK331 3; have hcz48_4 : w47.cell? ⟨gb331, 4, none⟩ = some (.int .i64 a1_4) := cC BK331 4; have hfz48_0 := blk_frozen BK331.out 0; have hfz48_1 := blk_frozen BK331.out 1; have hfz48_2 := blk_frozen BK331.out 2; have hfz48_3 := blk_frozen BK331.out 3; have hfz48_4 := blk_frozen BK331.out 4) | (go_at_call 136; (with_reducible refine (impl_IsThing.calls a1_0 a1_1 a1_2 a1_3 a1_4 false _ A7.out).mono ?_); rintro e w49 ⟨rfl, hb⟩; have n0_ := Aside0.mk (Kd.R_below (qR HO334) hb); have n1_ := Aside0.mk (blk_below (qK BK331) hb); have n2_ := Aside0.mk (below_step (by repeat first | (with_reducible first | exact HB.out | apply bA | apply bN | apply bD | refine bS ?_ GE331.out) | exact HB.out) hb); clear HO334; clear BK331; clear HB; have HO334 := n0_; have BK331 := n1_; have HB := n2_; clear n0_ n1_ n2_; (try clear hb); (try clear hb2); (try clear hk); (try clear hi)))
   go_ret2
   exact ⟨_, by first | rfl | (simp [errW_none, errW_some] <;> rfl) | (simp [*, errW_none, errW_some] <;> rfl), by (with_reducible repeat first | apply rA | apply rN | apply rD); exact HO334.out, by repeat (first | (with_reducible first | exact HB.out | apply bA | apply bN | apply bD | refine bS ?_ GE331.out) | exact HB.out)⟩
 ·replace c6 := Bool.eq_false_iff.mpr c6
  subst c6
  have H1 : (some (t332, false)) = some (r1, r2) := by rw [if_neg (show ¬ (false = true) by decide)] at H; exact H
  clear H
  have H := H1
  clear H1
  simp only [Option.some.injEq, Prod.mk.injEq] at H
  obtain ⟨rfl, rfl⟩ := H
  go_enter Try.func48, Try.ntmps48
  go_wp2_with (first | ((with_reducible refine gate_dst (N := 3) rfl ?_); refine box_event ?hg (N := 3) ?hd (cs := #[.int .i64 a1_0, .int .i64 a1_1, .int .i64 a1_2, .int .i64 a1_3, .int .i64 a1_4]) (t := 69) ?hr ?_; (case hd => rfl); (case hg => rfl); (case hr => first | (go_simp; done) | (go_simp; rfl)); intro gb331 hg w50 hbox hb; have n0_ := Aside0.mk (below_step (qB HB) hb); have n1_ := Aside0.mk (hbox); have n2_ := Aside0.mk ((by rw [hg]; exact (below_size (qB HB)) : w.heap.size ≤ gb331)); have n3_ := Aside0.mk ((by rw [hg]; exact (below_size (qB HB)) : w.heap.size ≤ gb331)); clear HB; have HB := n0_; have BK331 := n1_; have GW331 := n2_; have GE331 := n3_; clear n0_ n1_ n2_ n3_; clear hb hbox hg) | ((with_reducible refine gate_callee (f := 124) rfl ?_); refine goesL_ (some 9) rfl rfl Try.func124 (by kernel_rfl) rfl #[.slice A0 l0.length c0] rfl (by (try simp only [mA, mC, mN]); first | done | rfl | (simp only [lD, lT]; rfl)) ?_; (with_reducible refine (impl_Slot_124.calls _ _ l0 t332 _ ?side1 ?side2 A3.out).mono ?_); (case side1 => exact qC (Kd.C_below HR0.out HB.out)); (case side2 => exact HC0.out); rintro e w51 ⟨v333, rfl, ho0, hb⟩; refine ⟨_, rfl, ?_⟩; have n0_ := Aside0.mk (Kd.R_lower ho0 (below_size (by repeat first | (with_reducible first | exact HB.out | apply bA | apply bN | apply bD | refine bS ?_ GE331.out) | exact HB.out))); have n1_ := Aside0.mk (blk_below (qK BK331) hb); have n2_ := Aside0.mk (below_step (by repeat first | (with_reducible first | exact HB.out | apply bA | apply bN | apply bD | refine bS ?_ GE331.out) | exact HB.out) hb); clear BK331; clear HB; have HO334 := n0_; have BK331 := n1_; have HB := n2_; clear n0_ n1_ n2_; (try clear hb); (try clear hb2); (try clear hk); (try clear hi); (try clear ho0); have hcz52_0 : w51.cell? ⟨gb331, 0, none⟩ = some (.int .i64 a1_0) := cC BK331 0; have hcz52_1 : w51.cell? ⟨gb331, 1, none⟩ = some (.int .i64 a1_1) := cC BK331 1; have hcz52_2 : w51.cell? ⟨gb331, 2, none⟩ = some (.int .i64 a1_2) := cC BK331 2; have hcz52_3 : w51.cell? ⟨gb331, 3, none⟩ = some (.int .i64 a1_3) := cC BK331 3; have hcz52_4 : w51.cell? ⟨gb331, 4, none⟩ = some (.int .i64 a1_4) := cC BK331 4; have hfz52_0 := blk_frozen BK331.out 0; have hfz52_1 := blk_frozen BK331.out 1; have hfz52_2 := blk_frozen BK331.out 2; have hfz52_3 := blk_frozen BK331.out 3; have hfz52_4 := blk_frozen BK331.out 4) | ((with_reducible refine gate_callee (f := 135) rfl ?_); refine goesL_ (some 13) rfl rfl Try.func135 (by kernel_rfl) rfl #[.slice A0 l0.length c0, .int .i64 a1_3] rfl (by (try simp only [mA, mC, mN]); first | done | rfl | (simp only [lD, lT]; rfl)) ?_; (with_reducible refine (impl_freeFor.calls k _ _ l0 a1_3 t335 _ ?side1 ?side2 A4.out).mono ?_); (case side1 => exact qC (Kd.C_below HR0.out HB.out)); (case side2 => exact HC0.out); rintro e w53 ⟨rfl, hb⟩; refine ⟨_, rfl, ?_⟩; have n0_ := Aside0.mk (Kd.R_below (qR HO334) hb); have n1_ := Aside0.mk (blk_below (qK BK331) hb); have n2_ := Aside0.mk (below_step (by repeat first | (with_reducible first | exact HB.out | apply bA | apply bN | apply bD | refine bS ?_ GE331.out) | exact HB.out) hb); clear HO334; clear BK331; clear HB; have HO334 := n0_; have BK331 := n1_; have HB := n2_; clear n0_ n1_ n2_; (try clear hb); (try clear hb2); (try clear hk); (try clear hi)) | ((with_reducible refine gate_callee (f := 51) rfl ?_); refine goesL_ (some 15) rfl rfl Try.func51 (by kernel_rfl) rfl #[.slice A0 l0.length c0] rfl (by (try simp only [mA, mC, mN]); first | done | rfl | (simp only [lD, lT]; rfl)) ?_; (with_reducible refine (impl_AreSlots.calls k _ _ l0 false _ ?side1 ?side2 A5.out).mono ?_); (case side1 => exact qC (Kd.C_below HR0.out HB.out)); (case side2 => exact HC0.out); rintro e w54 ⟨rfl, hb⟩; refine ⟨_, rfl, ?_⟩; have n0_ := Aside0.mk (Kd.R_below (qR HO334) hb); have n1_ := Aside0.mk (blk_below (qK BK331) hb); have n2_ := Aside0.mk (below_step (by repeat first | (with_reducible first | exact HB.out | apply bA | apply bN | apply bD | refine bS ?_ GE331.out) | exact HB.out) hb); clear HO334; clear BK331; clear HB; have HO334 := n0_; have BK331 := n1_; have HB := n2_; clear n0_ n1_ n2_; (try clear hb); (try clear hb2); (try clear hk); (try clear hi)))
  go_ret2
  exact ⟨_, by first | rfl | (simp [errW_none, errW_some] <;> rfl) | (simp [*, errW_none, errW_some] <;> rfl), by (with_reducible repeat first | apply rA | apply rN | apply rD); exact HO334.out, by repeat (first | (with_reducible first | exact HB.out | apply bA | apply bN | apply bD | refine bS ?_ GE331.out) | exact HB.out)⟩

/-! ### impl_TakeOut: function 50 -/
def impl_TakeOut.f (k : Nat) (l0 : List (S78)) (a1 : Int) : Option ((List (S78)) × Bool) := (impl_Slot_124.f l0).bind fun t340 => ((impl_slotWith.f l0 a1).bind fun t343 => ((impl_AreSlots.f k l0).bind fun t344 => (if t344 = true then (if t343 < 0 then (some (t340, false)) else (if 0 ≤ t343 then (if t343 < (t340.length : Int) then (some ((t340.set (t343 : Int).toNat (⟨(rd_T78 t340 t343).f0, (rd_T78 t340 t343).f1, 0⟩ : S78)), true)) else (none)) else (none))) else (some (t340, false)))))
theorem impl_TakeOut.mono : ∀ a0 a1 k, LeO (impl_TakeOut.f k a0 a1) (impl_TakeOut.f (k + 1) a0 a1) := by
 intro a0 a1 k
 unfold impl_TakeOut.f
 repeat' first
   | (with_reducible exact impl_AreSlots.mono _ _)
   | (with_reducible exact LeO.refl _)
   | (with_reducible exact LeO.none _)
   | (with_reducible refine LeO.ite ?_ ?_)
   | (with_reducible refine LeO.bind ?_ (fun _ => ?_))
   | exact impl_AreSlots.mono _ _
   | exact LeO.none _
   | refine LeO.ite ?_ ?_
   | refine LeO.bind ?_ (fun _ => ?_)
set_option maxHeartbeats 8000000 in
set_option maxRecDepth 100000 in
theorem impl_TakeOut.calls (k : Nat) (A0 : Option Addr) (c0 : Nat) (l0 : List (S78)) (a1 : Int) (r1 : List (S78)) (r2 : Bool) (w : World) (hr0 : Kd.C k78 w A0 l0.length l0) (hc0 : l0.length ≤ c0) (h : impl_TakeOut.f k l0 a1 = some (r1, r2)) :
  Calls Try.prog 50 #[.slice A0 l0.length c0, .int .i64 a1] w fun e w' => ∃ v0_ : Value, e = .returned (.tuple #[v0_, .bool r2]) ∧ Kd.R k78 78 w' w.heap.size (fun _ => True) v0_ r1 ∧ Below w.heap.size w w' := by
 have HR0 := Aside0.mk hr0
 have HC0 := Aside0.mk hc0
 clear hr0 hc0
 have HB := Aside0.mk (Below.refl w.heap.size w)
 have H : ((impl_Slot_124.f l0).bind fun t340 => ((impl_slotWith.f l0 a1).bind fun t343 => ((impl_AreSlots.f k l0).bind fun t344 => (if t344 = true then (if t343 < 0 then (some (t340, false)) else (if 0 ≤ t343 then (if t343 < (t340.length : Int) then (some ((t340.set (t343 : Int).toNat (⟨(rd_T78 t340 t343).f0, (rd_T78 t340 t343).f1, 0⟩ : S78)), true)) else (none)) else (none))) else (some (t340, false)))))) = some (r1, r2) := h
 clear h
 replace H := Option.bind_eq_some_iff.mp H
 obtain ⟨t340, A30, H⟩ := H
 replace H : ((impl_slotWith.f l0 a1).bind fun t343 => ((impl_AreSlots.f k l0).bind fun t344 => (if t344 = true then (if t343 < 0 then (some (t340, false)) else (if 0 ≤ t343 then (if t343 < (t340.length : Int) then (some ((t340.set (t343 : Int).toNat (⟨(rd_T78 t340 t343).f0, (rd_T78 t340 t343).f1, 0⟩ : S78)), true)) else (none)) else (none))) else (some (t340, false))))) = some (r1, r2) := H
 have A3 := Aside0.mk A30
 clear A30
 replace H := Option.bind_eq_some_iff.mp H
 obtain ⟨t343, A40, H⟩ := H
 replace H : ((impl_AreSlots.f k l0).bind fun t344 => (if t344 = true then (if t343 < 0 then (some (t340, false)) else (if 0 ≤ t343 then (if t343 < (t340.length : Int) then (some ((t340.set (t343 : Int).toNat (⟨(rd_T78 t340 t343).f0, (rd_T78 t340 t343).f1, 0⟩ : S78)), true)) else (none)) else (none))) else (some (t340, false)))) = some (r1, r2) := H
 have A4 := Aside0.mk A40
 clear A40
 replace H := Option.bind_eq_some_iff.mp H
 obtain ⟨t344, A50, H⟩ := H
 replace H : (if t344 = true then (if t343 < 0 then (some (t340, false)) else (if 0 ≤ t343 then (if t343 < (t340.length : Int) then (some ((t340.set (t343 : Int).toNat (⟨(rd_T78 t340 t343).f0, (rd_T78 t340 t343).f1, 0⟩ : S78)), true)) else (none)) else (none))) else (some (t340, false))) = some (r1, r2) := H
 have A5 := Aside0.mk A50
 clear A50
 by_cases c6 : t344 = true
 ·subst c6
  have H1 : (if t343 < 0 then (some (t340, false)) else (if 0 ≤ t343 then (if t343 < (t340.length : Int) then (some ((t340.set (t343 : Int).toNat (⟨(rd_T78 t340 t343).f0, (rd_T78 t340 t343).f1, 0⟩ : S78)), true)) else (none)) else (none))) = some (r1, r2) := by rw [if_pos rfl] at H; exact H
  clear H
  have H := H1
  clear H1
  by_cases c7 : t343 < 0
  ·rw [if_pos c7] at H
   have c7b0 : decide (t343 < 0) = true := decide_eq_true c7
   clear c7
   simp only [Option.some.injEq, Prod.mk.injEq] at H
   obtain ⟨rfl, rfl⟩ := H
   go_enter Try.func50, Try.ntmps50
   go_wp2_with (first | ((with_reducible refine gate_callee (f := 124) rfl ?_); refine goesL_ (some 9) rfl rfl Try.func124 (by kernel_rfl) rfl #[.slice A0 l0.length c0] rfl (by (try simp only [mA, mC, mN]); first | done | rfl | (simp only [lD, lT]; rfl)) ?_; (with_reducible refine (impl_Slot_124.calls _ _ l0 t340 _ ?side1 ?side2 A3.out).mono ?_); (case side1 => repeat (first | exact HR0.out | (with_reducible refine Kd.C_alloc ?_ _) | (with_reducible refine Kd.C_drewN ?_ _) | (with_reducible refine Kd.C_drew ?_))); (case side2 => exact HC0.out); rintro e w8 ⟨v341, rfl, ho0, hb⟩; refine ⟨_, rfl, ?_⟩; have n0_ := Aside0.mk (Kd.R_lower ho0 (below_size (qB HB))); have n1_ := Aside0.mk (below_step (qB HB) hb); clear HB; have HO342 := n0_; have HB := n1_; clear n0_ n1_; (try clear hb); (try clear hb2); (try clear hk); (try clear hi); (try clear ho0)) | ((with_reducible refine gate_callee (f := 137) rfl ?_); refine goesL_ (some 12) rfl rfl Try.func137 (by kernel_rfl) rfl #[.slice A0 l0.length c0, .int .i64 a1] rfl (by (try simp only [mA, mC, mN]); first | done | rfl | (simp only [lD, lT]; rfl)) ?_; (with_reducible refine (impl_slotWith.calls _ _ l0 a1 t343 _ ?side1 ?side2 A4.out).mono ?_); (case side1 => exact qC (Kd.C_below HR0.out HB.out)); (case side2 => exact HC0.out); rintro e w9 ⟨rfl, hb⟩; refine ⟨_, rfl, ?_⟩; have n0_ := Aside0.mk (Kd.R_below (qR HO342) hb); have n1_ := Aside0.mk (below_step (qB HB) hb); clear HO342; clear HB; have HO342 := n0_; have HB := n1_; clear n0_ n1_; (try clear hb); (try clear hb2); (try clear hk); (try clear hi)) | ((with_reducible refine gate_callee (f := 51) rfl ?_); refine goesL_ (some 14) rfl rfl Try.func51 (by kernel_rfl) rfl #[.slice A0 l0.length c0] rfl (by (try simp only [mA, mC, mN]); first | done | rfl | (simp only [lD, lT]; rfl)) ?_; (with_reducible refine (impl_AreSlots.calls k _ _ l0 true _ ?side1 ?side2 A5.out).mono ?_); (case side1 => exact qC (Kd.C_below HR0.out HB.out)); (case side2 => exact HC0.out); rintro e w10 ⟨rfl, hb⟩; refine ⟨_, rfl, ?_⟩; have n0_ := Aside0.mk (Kd.R_below (qR HO342) hb); have n1_ := Aside0.mk (below_step (qB HB) hb); clear HO342; clear HB; have HO342 := n0_; have HB := n1_; clear n0_ n1_; (try clear hb); (try clear hb2); (try clear hk); (try clear hi)))
   go_ret2
   exact ⟨_, by first | rfl | (simp [errW_none, errW_some] <;> rfl) | (simp [*, errW_none, errW_some] <;> rfl), by (with_reducible repeat first | apply rA | apply rN | apply rD); exact HO342.out, by repeat (first | (with_reducible first | exact HB.out | apply bA | apply bN | apply bD) | exact HB.out)⟩
  ·rw [if_neg c7] at H
   have c7b0 : decide (t343 < 0) = false := decide_eq_false c7
   clear c7
   by_cases c11 : 0 ≤ t343
   ·rw [if_pos c11] at H
    have c11b0 : decide (0 ≤ t343) = true := decide_eq_true c11
    clear c11
    by_cases c12 : t343 < (t340.length : Int)
    ·rw [if_pos c12] at H
     have c12b0 : decide (t343 < (t340.length : Int)) = true := decide_eq_true c12
     clear c12
     obtain ⟨y345, hy345⟩ : ∃ y_ : List (S78), y_ = (t340.set (t343 : Int).toNat (⟨(rd_T78 t340 t343).f0, (rd_T78 t340 t343).f1, 0⟩ : S78)) := ⟨_, rfl⟩
     replace H : (some (y345, true)) = some (r1, r2) := by first | (rw [hy345]; with_reducible exact H) | (have H2_ := (Option.bind_some _ _).symm.trans H; rw [hy345]; with_reducible exact H2_) | (have H2_ := (Option.bind_some _ _).symm.trans H; with_reducible exact H2_) | with_reducible exact H | (rw [hy345]; exact H) | exact H
     have Ny345 := Aside0.mk hy345
     clear hy345
     simp only [Option.some.injEq, Prod.mk.injEq] at H
     obtain ⟨rfl, rfl⟩ := H
     go_enter Try.func50, Try.ntmps50
     go_wp2_with (first | ((with_reducible refine gate_callee (f := 124) rfl ?_); refine goesL_ (some 9) rfl rfl Try.func124 (by kernel_rfl) rfl #[.slice A0 l0.length c0] rfl (by (try simp only [mA, mC, mN]); first | done | rfl | (simp only [lD, lT]; rfl)) ?_; (with_reducible refine (impl_Slot_124.calls _ _ l0 t340 _ ?side1 ?side2 A3.out).mono ?_); (case side1 => repeat (first | exact HR0.out | (with_reducible refine Kd.C_alloc ?_ _) | (with_reducible refine Kd.C_drewN ?_ _) | (with_reducible refine Kd.C_drew ?_))); (case side2 => exact HC0.out); rintro e w14 ⟨v341, rfl, ho0, hb⟩; refine ⟨_, rfl, ?_⟩; have n0_ := Aside0.mk (Kd.R_lower ho0 (below_size (qB HB))); have n1_ := Aside0.mk (below_step (qB HB) hb); clear HB; have HO342 := n0_; have HB := n1_; clear n0_ n1_; (try clear hb); (try clear hb2); (try clear hk); (try clear hi); (try clear ho0)) | ((with_reducible refine gate_callee (f := 137) rfl ?_); refine goesL_ (some 12) rfl rfl Try.func137 (by kernel_rfl) rfl #[.slice A0 l0.length c0, .int .i64 a1] rfl (by (try simp only [mA, mC, mN]); first | done | rfl | (simp only [lD, lT]; rfl)) ?_; (with_reducible refine (impl_slotWith.calls _ _ l0 a1 t343 _ ?side1 ?side2 A4.out).mono ?_); (case side1 => exact qC (Kd.C_below HR0.out HB.out)); (case side2 => exact HC0.out); rintro e w15 ⟨rfl, hb⟩; refine ⟨_, rfl, ?_⟩; have n0_ := Aside0.mk (Kd.R_below (qR HO342) hb); have n1_ := Aside0.mk (below_step (qB HB) hb); clear HO342; clear HB; have HO342 := n0_; have HB := n1_; clear n0_ n1_; (try clear hb); (try clear hb2); (try clear hk); (try clear hi)) | ((with_reducible refine gate_callee (f := 51) rfl ?_); refine goesL_ (some 14) rfl rfl Try.func51 (by kernel_rfl) rfl #[.slice A0 l0.length c0] rfl (by (try simp only [mA, mC, mN]); first | done | rfl | (simp only [lD, lT]; rfl)) ?_; (with_reducible refine (impl_AreSlots.calls k _ _ l0 true _ ?side1 ?side2 A5.out).mono ?_); (case side1 => exact qC (Kd.C_below HR0.out HB.out)); (case side2 => exact HC0.out); rintro e w16 ⟨rfl, hb⟩; refine ⟨_, rfl, ?_⟩; have n0_ := Aside0.mk (Kd.R_below (qR HO342) hb); have n1_ := Aside0.mk (below_step (qB HB) hb); clear HO342; clear HB; have HO342 := n0_; have HB := n1_; clear n0_ n1_; (try clear hb); (try clear hb2); (try clear hk); (try clear hi); have p13 : 0 ≤ (t343 : Int) := of_decide_eq_true ‹_›; have q13 : (t343 : Int) < ((t340.length : Int) : Int) := of_decide_eq_true ‹_›; obtain ⟨go13, co13, eo13, gb13, gl13, cl13, HG13⟩ := Kd.R_form HO342.out (by omega); (first | cases eo13 | (injection eo13 with ea_ en_ ec_; (first | subst ea_ | (injection ea_ with ea_; subst ea_)); subst ec_; clear en_)); have GB13 := Aside0.mk gb13; have GG13 := Aside0.mk HG13; clear gb13 gl13 HG13; obtain ⟨ce13, hcl13, hM13, hcc13, hfr13⟩ := Kd.R_elem HO342.out z78 (t343 : Int) p13 q13; obtain rfl := k78_openM hM13; have hx13_0 : w16.cell? ⟨go13, (t343 : Int).toNat * 3, none⟩ = some (.int .i64 ((rd_T78 t340 t343).f0)) := hcc13 0 _ rfl; have hx13_1 : w16.cell? ⟨go13, (t343 : Int).toNat * 3 + 1, none⟩ = some (.int .i64 ((rd_T78 t340 t343).f1)) := hcc13 1 _ rfl; have hx13_2 : w16.cell? ⟨go13, (t343 : Int).toNat * 3 + 2, none⟩ = some (.int .i64 ((rd_T78 t340 t343).f2)) := hcc13 2 _ rfl; have hf13_0 : w16.frozen? ⟨go13, (t343 : Int).toNat * 3, none⟩ = false := hfr13 0; have hf13_1 : w16.frozen? ⟨go13, (t343 : Int).toNat * 3 + 1, none⟩ = false := hfr13 1; have hf13_2 : w16.frozen? ⟨go13, (t343 : Int).toNat * 3 + 2, none⟩ = false := hfr13 2; clear hcl13 hcc13 hfr13 hM13; replace p13 := eq_true p13; replace q13 := eq_true q13; have HX17 := Aside0.mk (show Kd.R k78 78 w16 w.heap.size (fun _ => True) (.slice (some ⟨go13, 0, none⟩) t340.length co13) t340 from (qR HO342)); obtain ⟨ce17, hcl17, hM17, hcc17, hfr17⟩ := Kd.R_elem HX17.out z78 (t343 : Int) (of_decide_eq_true ‹_›) (by have h_ : (t343 : Int) < ((t340.length : Int) : Int) := of_decide_eq_true ‹_›; first | exact h_ | (have e_ := (Kd.R_reads' HO342.out).1; omega) | simpa using h_); obtain rfl := k78_openM hM17; have HP17 := Kd.R_seg HX17.out (t343 : Int) (of_decide_eq_true ‹_›) (by have h_ : (t343 : Int) < ((t340.length : Int) : Int) := of_decide_eq_true ‹_›; first | exact h_ | (have e_ := (Kd.R_reads' HO342.out).1; omega) | simpa using h_) (seg := [.int .i64 0]) (j := 2) hcl17 hcc17 (show 3 ≤ 3 from by decide) (x' := (⟨(rd_T78 t340 t343).f0, (rd_T78 t340 t343).f1, 0⟩ : S78)) (k78_mkM _ _ _ (⟨(rd_T78 t340 t343).f0, (rd_T78 t340 t343).f1, 0⟩ : S78) ) (fun _ hk => hk); have hx17_2 := hcc17 2 _ rfl; (try simp only [show (k78).sz = 3 from rfl, Nat.mul_one, Nat.add_zero] at hx17_2); have hf17_2 := hfr17 2; (try simp only [show (k78).sz = 3 from rfl, Nat.mul_one, Nat.add_zero] at hf17_2); clear hcl17 hcc17 hfr17 hM17) | ((with_reducible refine gate_store (t := 3) (p := 24) rfl ?_); refine store_event (t := 3) (p := 24) (v := ?vo_w18) (w1 := (w16.setCell ⟨go13, (t343 : Int).toNat * 3 + 2, none⟩ (.int .i64 0))) ?hg ?ho ?hn ?hr ?_; (case ho => rfl); (case hg => rfl); (case hn => rfl); (case hr => first | (go_simp; done) | (go_simp; rfl)); intro w18 hw; have hg : w16.grownBy w18 (some go13) := (by rw [hw]; exact HP17.2); have hp_ : Kd.R k78 78 w18 w.heap.size (fun _ => True) (.slice (some ⟨go13, 0, none⟩) t340.length co13) y345 := (by rw [hw, Ny345.out]; exact HP17.1); clear HP17; have n0_ := Aside0.mk (hp_); have n1_ := Aside0.mk ((by rw [hw]; exact below_set (HB.out) GB13.out : Below w.heap.size w w18)); clear HO342; clear HB; have HO342 := n0_; have HB := n1_; clear n0_ n1_; clear hg hw hp_))
     go_ret2
     exact ⟨_, by first | rfl | (simp [errW_none, errW_some] <;> rfl) | (simp [*, errW_none, errW_some] <;> rfl), by (with_reducible repeat first | apply rA | apply rN | apply rD); exact HO342.out, by repeat (first | (with_reducible first | exact HB.out | apply bA | apply bN | apply bD) | exact HB.out)⟩
    ·rw [if_neg c12] at H
     exact absurd H (by simp)
   ·rw [if_neg c11] at H
    exact absurd H (by simp)
 ·replace c6 := Bool.eq_false_iff.mpr c6
  subst c6
  have H1 : (some (t340, false)) = some (r1, r2) := by rw [if_neg (show ¬ (false = true) by decide)] at H; exact H
  clear H
  have H := H1
  clear H1
  simp only [Option.some.injEq, Prod.mk.injEq] at H
  obtain ⟨rfl, rfl⟩ := H
  go_enter Try.func50, Try.ntmps50
  go_wp2_with (first | ((with_reducible refine gate_callee (f := 124) rfl ?_); refine goesL_ (some 9) rfl rfl Try.func124 (by kernel_rfl) rfl #[.slice A0 l0.length c0] rfl (by (try simp only [mA, mC, mN]); first | done | rfl | (simp only [lD, lT]; rfl)) ?_; (with_reducible refine (impl_Slot_124.calls _ _ l0 t340 _ ?side1 ?side2 A3.out).mono ?_); (case side1 => repeat (first | exact HR0.out | (with_reducible refine Kd.C_alloc ?_ _) | (with_reducible refine Kd.C_drewN ?_ _) | (with_reducible refine Kd.C_drew ?_))); (case side2 => exact HC0.out); rintro e w19 ⟨v341, rfl, ho0, hb⟩; refine ⟨_, rfl, ?_⟩; have n0_ := Aside0.mk (Kd.R_lower ho0 (below_size (qB HB))); have n1_ := Aside0.mk (below_step (qB HB) hb); clear HB; have HO342 := n0_; have HB := n1_; clear n0_ n1_; (try clear hb); (try clear hb2); (try clear hk); (try clear hi); (try clear ho0)) | ((with_reducible refine gate_callee (f := 137) rfl ?_); refine goesL_ (some 12) rfl rfl Try.func137 (by kernel_rfl) rfl #[.slice A0 l0.length c0, .int .i64 a1] rfl (by (try simp only [mA, mC, mN]); first | done | rfl | (simp only [lD, lT]; rfl)) ?_; (with_reducible refine (impl_slotWith.calls _ _ l0 a1 t343 _ ?side1 ?side2 A4.out).mono ?_); (case side1 => exact qC (Kd.C_below HR0.out HB.out)); (case side2 => exact HC0.out); rintro e w20 ⟨rfl, hb⟩; refine ⟨_, rfl, ?_⟩; have n0_ := Aside0.mk (Kd.R_below (qR HO342) hb); have n1_ := Aside0.mk (below_step (qB HB) hb); clear HO342; clear HB; have HO342 := n0_; have HB := n1_; clear n0_ n1_; (try clear hb); (try clear hb2); (try clear hk); (try clear hi)) | ((with_reducible refine gate_callee (f := 51) rfl ?_); refine goesL_ (some 14) rfl rfl Try.func51 (by kernel_rfl) rfl #[.slice A0 l0.length c0] rfl (by (try simp only [mA, mC, mN]); first | done | rfl | (simp only [lD, lT]; rfl)) ?_; (with_reducible refine (impl_AreSlots.calls k _ _ l0 false _ ?side1 ?side2 A5.out).mono ?_); (case side1 => exact qC (Kd.C_below HR0.out HB.out)); (case side2 => exact HC0.out); rintro e w21 ⟨rfl, hb⟩; refine ⟨_, rfl, ?_⟩; have n0_ := Aside0.mk (Kd.R_below (qR HO342) hb); have n1_ := Aside0.mk (below_step (qB HB) hb); clear HO342; clear HB; have HO342 := n0_; have HB := n1_; clear n0_ n1_; (try clear hb); (try clear hb2); (try clear hk); (try clear hi)))
  go_ret2
  exact ⟨_, by first | rfl | (simp [errW_none, errW_some] <;> rfl) | (simp [*, errW_none, errW_some] <;> rfl), by (with_reducible repeat first | apply rA | apply rN | apply rD); exact HO342.out, by repeat (first | (with_reducible first | exact HB.out | apply bA | apply bN | apply bD) | exact HB.out)⟩

/-! ### impl_SmallestFree: function 52 -/
def impl_SmallestFree.f (k : Nat) (l0 : List (S78)) (a1 : Int) : Option (Int) := (impl_freeFor.f k l0 a1).bind fun t346 => (if t346 < 0 then (some 0) else (if 0 ≤ t346 then (if t346 < (l0.length : Int) then (some ((rd_T78 l0 t346).f0)) else (none)) else (none)))
theorem impl_SmallestFree.mono : ∀ a0 a1 k, LeO (impl_SmallestFree.f k a0 a1) (impl_SmallestFree.f (k + 1) a0 a1) := by
 intro a0 a1 k
 unfold impl_SmallestFree.f
 repeat' first
   | (with_reducible exact impl_freeFor.mono _ _ _)
   | (with_reducible exact LeO.refl _)
   | (with_reducible exact LeO.none _)
   | (with_reducible refine LeO.ite ?_ ?_)
   | (with_reducible refine LeO.bind ?_ (fun _ => ?_))
   | exact impl_freeFor.mono _ _ _
   | exact LeO.none _
   | refine LeO.ite ?_ ?_
   | refine LeO.bind ?_ (fun _ => ?_)
set_option maxHeartbeats 8000000 in
set_option maxRecDepth 100000 in
theorem impl_SmallestFree.calls (k : Nat) (A0 : Option Addr) (c0 : Nat) (l0 : List (S78)) (a1 : Int) (r : Int) (w : World) (hr0 : Kd.C k78 w A0 l0.length l0) (hc0 : l0.length ≤ c0) (h : impl_SmallestFree.f k l0 a1 = some r) :
  Calls Try.prog 52 #[.slice A0 l0.length c0, .int .i64 a1] w fun e w' => e = .returned (.int .i64 r) ∧ Below w.heap.size w w' := by
 have HR0 := Aside0.mk hr0
 have HC0 := Aside0.mk hc0
 clear hr0 hc0
 have HB := Aside0.mk (Below.refl w.heap.size w)
 have H : ((impl_freeFor.f k l0 a1).bind fun t346 => (if t346 < 0 then (some 0) else (if 0 ≤ t346 then (if t346 < (l0.length : Int) then (some ((rd_T78 l0 t346).f0)) else (none)) else (none)))) = some r := h
 clear h
 replace H := Option.bind_eq_some_iff.mp H
 obtain ⟨t346, A30, H⟩ := H
 replace H : (if t346 < 0 then (some 0) else (if 0 ≤ t346 then (if t346 < (l0.length : Int) then (some ((rd_T78 l0 t346).f0)) else (none)) else (none))) = some r := H
 have A3 := Aside0.mk A30
 clear A30
 by_cases c4 : t346 < 0
 ·rw [if_pos c4] at H
  have c4b0 : decide (t346 < 0) = true := decide_eq_true c4
  clear c4
  obtain rfl := Option.some.inj H
  go_enter Try.func52, Try.ntmps52
  go_wp2_with (first | ((with_reducible refine gate_callee (f := 135) rfl ?_); refine goesL_ (some 8) rfl rfl Try.func135 (by kernel_rfl) rfl #[.slice A0 l0.length c0, .int .i64 a1] rfl (by (try simp only [mA, mC, mN]); first | done | rfl | (simp only [lD, lT]; rfl)) ?_; (with_reducible refine (impl_freeFor.calls k _ _ l0 a1 t346 _ ?side1 ?side2 A3.out).mono ?_); (case side1 => repeat (first | exact HR0.out | (with_reducible refine Kd.C_alloc ?_ _) | (with_reducible refine Kd.C_drewN ?_ _) | (with_reducible refine Kd.C_drew ?_))); (case side2 => exact HC0.out); rintro e w5 ⟨rfl, hb⟩; refine ⟨_, rfl, ?_⟩; have n0_ := Aside0.mk (below_step (qB HB) hb); clear HB; have HB := n0_; clear n0_; (try clear hb); (try clear hb2); (try clear hk); (try clear hi)))
  go_ret
  exact ⟨by first | rfl | (simp [errW_none, errW_some] <;> rfl) | (simp [*, errW_none, errW_some] <;> rfl), by repeat (first | (with_reducible first | exact HB.out | apply bA | apply bN | apply bD) | exact HB.out)⟩
 ·rw [if_neg c4] at H
  have c4b0 : decide (t346 < 0) = false := decide_eq_false c4
  clear c4
  by_cases c6 : 0 ≤ t346
  ·rw [if_pos c6] at H
   have c6b0 : decide (0 ≤ t346) = true := decide_eq_true c6
   clear c6
   by_cases c7 : t346 < (l0.length : Int)
   ·rw [if_pos c7] at H
    have c7b0 : decide (t346 < (l0.length : Int)) = true := decide_eq_true c7
    clear c7
    obtain rfl := Option.some.inj H
    go_enter Try.func52, Try.ntmps52
    go_wp2_with (first | ((with_reducible refine gate_callee (f := 135) rfl ?_); refine goesL_ (some 8) rfl rfl Try.func135 (by kernel_rfl) rfl #[.slice A0 l0.length c0, .int .i64 a1] rfl (by (try simp only [mA, mC, mN]); first | done | rfl | (simp only [lD, lT]; rfl)) ?_; (with_reducible refine (impl_freeFor.calls k _ _ l0 a1 t346 _ ?side1 ?side2 A3.out).mono ?_); (case side1 => repeat (first | exact HR0.out | (with_reducible refine Kd.C_alloc ?_ _) | (with_reducible refine Kd.C_drewN ?_ _) | (with_reducible refine Kd.C_drew ?_))); (case side2 => exact HC0.out); rintro e w8 ⟨rfl, hb⟩; refine ⟨_, rfl, ?_⟩; have n0_ := Aside0.mk (below_step (qB HB) hb); clear HB; have HB := n0_; clear n0_; (try clear hb); (try clear hb2); (try clear hk); (try clear hi); have p347 : 0 ≤ (t346 : Int) := of_decide_eq_true ‹_›; have q347 : t346 < (l0.length : Int) := of_decide_eq_true ‹_›; obtain ⟨ad347, e347, hx347_0, hx347_1, hx347_2⟩ := at_T78 HR0.out t346 p347 q347; cases e347; replace hx347_0 := (HB.out.cell (World.block_lt_of_cell? w _ hx347_0)).trans hx347_0; replace hx347_1 := (HB.out.cell (World.block_lt_of_cell? w _ hx347_1)).trans hx347_1; replace hx347_2 := (HB.out.cell (World.block_lt_of_cell? w _ hx347_2)).trans hx347_2; replace p347 := eq_true p347; replace q347 := eq_true q347))
    go_ret
    exact ⟨by first | rfl | (simp [errW_none, errW_some] <;> rfl) | (simp [*, errW_none, errW_some] <;> rfl), by repeat (first | (with_reducible first | exact HB.out | apply bA | apply bN | apply bD) | exact HB.out)⟩
   ·rw [if_neg c7] at H
    exact absurd H (by simp)
  ·rw [if_neg c6] at H
   exact absurd H (by simp)

/-! ### impl_FreeSlots: function 53 -/
def impl_FreeSlots.l0 : Nat → Int → List (S78) → Int → Int → Option (Int)
 | 0, _, _, _, _ => none
 | k + 1, x3, x6, x7, x8 => if x8 < x7 then (if 0 ≤ x8 then (if x8 < (x6.length : Int) then (if ((rd_T78 x6 x8).f2) = 0 then (impl_FreeSlots.l0 k (wrap64 (x3 + 1)) x6 x7 (wrap64 (x8 + 1))) else (impl_FreeSlots.l0 k x3 x6 x7 (wrap64 (x8 + 1)))) else (none)) else (none)) else (some x3)
def impl_FreeSlots.f (k : Nat) (l0 : List (S78)) : Option (Int) := impl_FreeSlots.l0 k 0 l0 (l0.length : Int) 0
theorem impl_FreeSlots.mono_l : ∀ k, (∀ y0 y1 y2 y3, LeO (impl_FreeSlots.l0 k y0 y1 y2 y3) (impl_FreeSlots.l0 (k + 1) y0 y1 y2 y3))
 | 0 => fun _ _ _ _ r h => by simp [impl_FreeSlots.l0] at h
 | k + 1 => by
  have ih0 := impl_FreeSlots.mono_l k
  ·intro y0 y1 y2 y3
   unfold impl_FreeSlots.l0
   repeat' first
   | (with_reducible exact ih0 _ _ _ _)
   | (with_reducible exact LeO.refl _)
   | (with_reducible exact LeO.none _)
   | (with_reducible refine LeO.ite ?_ ?_)
   | (with_reducible refine LeO.bind ?_ (fun _ => ?_))
   | exact ih0 _ _ _ _
   | exact LeO.none _
   | refine LeO.ite ?_ ?_
   | refine LeO.bind ?_ (fun _ => ?_)
theorem impl_FreeSlots.mono : ∀ a0 k, LeO (impl_FreeSlots.f k a0) (impl_FreeSlots.f (k + 1) a0) := by
 intro a0 k
 have ih0 := impl_FreeSlots.mono_l k
 unfold impl_FreeSlots.f
 repeat' first
   | (with_reducible exact ih0 _ _ _ _)
   | (with_reducible exact LeO.refl _)
   | (with_reducible exact LeO.none _)
   | (with_reducible refine LeO.ite ?_ ?_)
   | (with_reducible refine LeO.bind ?_ (fun _ => ?_))
   | exact ih0 _ _ _ _
   | exact LeO.none _
   | refine LeO.ite ?_ ?_
   | refine LeO.bind ?_ (fun _ => ?_)
set_option maxHeartbeats 8000000 in
set_option maxRecDepth 100000 in
theorem impl_FreeSlots.calls (k : Nat) (A0 : Option Addr) (c0 : Nat) (l0 : List (S78)) (r : Int) (w : World) (hr0 : Kd.C k78 w A0 l0.length l0) (hc0 : l0.length ≤ c0) (h : impl_FreeSlots.f k l0 = some r) :
  Calls Try.prog 53 #[.slice A0 l0.length c0] w fun e w' => e = .returned (.int .i64 r) ∧ Below w.heap.size w w' := by
 have hu78 := Try.underlying78
 have HR0 := Aside0.mk hr0
 have HC0 := Aside0.mk hc0
 clear hr0 hc0
 have HB := Aside0.mk (Below.refl w.heap.size w)
 have H : (impl_FreeSlots.l0 k 0 l0 (l0.length : Int) 0) = some r := h
 clear h
 have H' := Aside0.mk H
 clear H
 go_enter Try.func53, Try.ntmps53
 go_wp2
 go_loopg [3, 8] k (fun kq v3 v8 w' => ∃ (x3_1 : Int) (x8_1 : Int), v3 = .int .i64 x3_1 ∧ v8 = .int .i64 x8_1 ∧ Aside0 (impl_FreeSlots.l0 kq x3_1 l0 (l0.length : Int) x8_1 = some r) ∧ Aside0 (kq ≤ k) ∧ Aside0 (Below w.heap.size w w'))
 case atStart => exact ⟨(0), (0), (by first | rfl | (simp; done) | (simp [*]; done)), (by first | rfl | (simp; done) | (simp [*]; done)), H', ⟨Nat.le_refl _⟩, ⟨by repeat (first | (with_reducible first | exact HB.out | apply bA | apply bN | apply bD) | exact HB.out)⟩⟩
 case round =>
  clear H'
  obtain ⟨x3_1, x8_1, rfl, rfl, HA, HK1, HB⟩ := hrel
  cases gk with
  | zero => exact absurd HA.out (by simp [impl_FreeSlots.l0])
  | succ k1 =>
   have H := HA.out
   clear HA
   simp only [impl_FreeSlots.l0] at H
   by_cases c2 : x8_1 < (l0.length : Int)
   ·rw [if_pos c2] at H
    have c2b0 : decide (x8_1 < (l0.length : Int)) = true := decide_eq_true c2
    clear c2
    by_cases c3 : 0 ≤ x8_1
    ·rw [if_pos c3] at H
     have c3b0 : decide (0 ≤ x8_1) = true := decide_eq_true c3
     clear c3
     by_cases c4 : x8_1 < (l0.length : Int)
     ·rw [if_pos c4] at H
      have c4b0 : decide (x8_1 < (l0.length : Int)) = true := decide_eq_true c4
      clear c4
      by_cases c5 : ((rd_T78 l0 x8_1).f2) = 0
      ·rw [if_pos c5] at H
       have c5b0 : (((rd_T78 l0 x8_1).f2) == 0) = true := beq_iff_eq.mpr c5
       have c5b1 : (((rd_T78 l0 x8_1).f2) != 0) = false := bne_eq_false_iff_eq.mpr c5
       clear c5
       have H' := Aside0.mk H
       clear H
       have p348 : 0 ≤ (x8_1 : Int) := of_decide_eq_true ‹_›
       have q348 : x8_1 < (l0.length : Int) := of_decide_eq_true ‹_›
       obtain ⟨ad348, e348, hx348_0, hx348_1, hx348_2⟩ := at_T78 HR0.out x8_1 p348 q348
       cases e348
       replace hx348_0 := (HB.out.cell (World.block_lt_of_cell? w _ hx348_0)).trans hx348_0
       replace hx348_1 := (HB.out.cell (World.block_lt_of_cell? w _ hx348_1)).trans hx348_1
       replace hx348_2 := (HB.out.cell (World.block_lt_of_cell? w _ hx348_2)).trans hx348_2
       replace p348 := eq_true p348
       replace q348 := eq_true q348
       go_wp2_with (first | ((with_reducible refine gate_dst (N := 5) rfl ?_); refine box_event ?hg (N := 5) ?hd (cs := #[.int .i64 0, .int .i64 0, .int .i64 0]) (t := 78) ?hr ?_; (case hd => rfl); (case hg => rfl); (case hr => first | (go_simp; done) | (go_simp; rfl)); intro gb349 hg w6 hbox hb; have n0_ := Aside0.mk (below_step (qB HB) hb); have n1_ := Aside0.mk (hbox); have n2_ := Aside0.mk ((by rw [hg]; exact (below_size (qB HB)) : w.heap.size ≤ gb349)); have n3_ := Aside0.mk ((by rw [hg]; exact (below_size (qB HB)) : w.heap.size ≤ gb349)); clear HB; have HB := n0_; have BK349 := n1_; have GW349 := n2_; have GE349 := n3_; clear n0_ n1_ n2_ n3_; clear hb hbox hg; have hcz7_0 : w6.cell? ⟨gb349, 0, none⟩ = some (.int .i64 0) := cC BK349 0; have hcz7_1 : w6.cell? ⟨gb349, 1, none⟩ = some (.int .i64 0) := cC BK349 1; have hcz7_2 : w6.cell? ⟨gb349, 2, none⟩ = some (.int .i64 0) := cC BK349 2; have hfz7_0 := blk_frozen BK349.out 0; have hfz7_1 := blk_frozen BK349.out 1; have hfz7_2 := blk_frozen BK349.out 2))
       go_roundg k1
       case measure => have := HK1.out; omega
       case rel => exact ⟨(wrap64 (x3_1 + 1)), (wrap64 (x8_1 + 1)), (by first | rfl | (simp; done) | (simp [*]; done)), (by first | rfl | (simp; done) | (simp [*]; done)), H', ⟨by have := HK1.out; omega⟩, ⟨by repeat (first | (with_reducible first | exact HB.out | apply bA | apply bN | apply bD | refine bS ?_ GE349.out) | exact HB.out)⟩⟩
      ·rw [if_neg c5] at H
       have c5b0 : (((rd_T78 l0 x8_1).f2) == 0) = false := beq_eq_false_iff_ne.mpr c5
       have c5b1 : (((rd_T78 l0 x8_1).f2) != 0) = true := bne_iff_ne.mpr c5
       have H' := Aside0.mk H
       clear H
       have p348 : 0 ≤ (x8_1 : Int) := of_decide_eq_true ‹_›
       have q348 : x8_1 < (l0.length : Int) := of_decide_eq_true ‹_›
       obtain ⟨ad348, e348, hx348_0, hx348_1, hx348_2⟩ := at_T78 HR0.out x8_1 p348 q348
       cases e348
       replace hx348_0 := (HB.out.cell (World.block_lt_of_cell? w _ hx348_0)).trans hx348_0
       replace hx348_1 := (HB.out.cell (World.block_lt_of_cell? w _ hx348_1)).trans hx348_1
       replace hx348_2 := (HB.out.cell (World.block_lt_of_cell? w _ hx348_2)).trans hx348_2
       replace p348 := eq_true p348
       replace q348 := eq_true q348
       go_wp2_with (first | ((with_reducible refine gate_dst (N := 5) rfl ?_); refine box_event ?hg (N := 5) ?hd (cs := #[.int .i64 0, .int .i64 0, .int .i64 0]) (t := 78) ?hr ?_; (case hd => rfl); (case hg => rfl); (case hr => first | (go_simp; done) | (go_simp; rfl)); intro gb349 hg w8 hbox hb; have n0_ := Aside0.mk (below_step (qB HB) hb); have n1_ := Aside0.mk (hbox); have n2_ := Aside0.mk ((by rw [hg]; exact (below_size (qB HB)) : w.heap.size ≤ gb349)); have n3_ := Aside0.mk ((by rw [hg]; exact (below_size (qB HB)) : w.heap.size ≤ gb349)); clear HB; have HB := n0_; have BK349 := n1_; have GW349 := n2_; have GE349 := n3_; clear n0_ n1_ n2_ n3_; clear hb hbox hg; have hcz9_0 : w8.cell? ⟨gb349, 0, none⟩ = some (.int .i64 0) := cC BK349 0; have hcz9_1 : w8.cell? ⟨gb349, 1, none⟩ = some (.int .i64 0) := cC BK349 1; have hcz9_2 : w8.cell? ⟨gb349, 2, none⟩ = some (.int .i64 0) := cC BK349 2; have hfz9_0 := blk_frozen BK349.out 0; have hfz9_1 := blk_frozen BK349.out 1; have hfz9_2 := blk_frozen BK349.out 2))
       go_roundg k1
       case measure => have := HK1.out; omega
       case rel => exact ⟨(x3_1), (wrap64 (x8_1 + 1)), (by first | rfl | (simp; done) | (simp [*]; done)), (by first | rfl | (simp; done) | (simp [*]; done)), H', ⟨by have := HK1.out; omega⟩, ⟨by repeat (first | (with_reducible first | exact HB.out | apply bA | apply bN | apply bD | refine bS ?_ GE349.out) | exact HB.out)⟩⟩
     ·rw [if_neg c4] at H
      exact absurd H (by simp)
    ·rw [if_neg c3] at H
     exact absurd H (by simp)
   ·rw [if_neg c2] at H
    have c2b0 : decide (x8_1 < (l0.length : Int)) = false := decide_eq_false c2
    clear c2
    obtain rfl := Option.some.inj H
    go_wp2
    go_ret
    exact ⟨by first | rfl | (simp [errW_none, errW_some] <;> rfl) | (simp [*, errW_none, errW_some] <;> rfl), by repeat (first | (with_reducible first | exact HB.out | apply bA | apply bN | apply bD) | exact HB.out)⟩

end Go.Proofs.Ytkfalbaklodnjaa.PFnShelves
