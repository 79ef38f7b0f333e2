-- The printed functions of one law and their contracts, over contracts of this session's own (hand.py).
import Derived.Test.YtkfalbaklodnjaaPFnShelvesx0
import Derived.Test.YtkfalbaklodnjaaPFnShelvesx2
namespace Go.Proofs.Ytkfalbaklodnjaa.PFnShelves
open Go.RowKit Go.Proofs.YtkfalbaklodnjaaW.PrintWords Go.Proofs.YtkfalbaklodnjaaW.PrintLast Go.Proofs.YtkfalbaklodnjaaW.PrintMore Go.Proofs.Ytkfalbaklodnjaa.Short
attribute [local go_sem] max2_int min2_int max_two min_two max_three min_three max_four min_four   -- for this text's walks alone
set_option linter.unusedVariables false
set_option linter.unusedSimpArgs false

/-! ### spec_AreSlots: function 119 -/
mutual
def spec_AreSlots.l0 : Nat → List (S78) → Int → Option (Bool)
 | 0, _, _ => none
 | k + 1, x0, x3 => if x3 < (x0.length : Int) then (if 0 ≤ x3 then ((spec_l1In.f ((rd_T78 x0 x3).f0) 1 99).bind fun t122 => (if t122 = true then ((spec_l1In.f ((rd_T78 x0 x3).f1) 1 50).bind fun t124 => (if t124 = true then ((spec_l1In.f ((rd_T78 x0 x3).f2) 0 999).bind fun t126 => (if t126 = true then (if x3 > 0 then (if 0 ≤ (wrap64 (x3 - 1)) then (if (wrap64 (x3 - 1)) < (x0.length : Int) then (spec_AreSlots.j1 k x0 x3 (decide (((rd_T78 x0 (wrap64 (x3 - 1))).f0) ≥ ((rd_T78 x0 x3).f0)))) else (none)) else (none)) else (spec_AreSlots.j1 k x0 x3 false)) else (spec_AreSlots.j1 k x0 x3 true))) else (spec_AreSlots.j1 k x0 x3 true))) else (spec_AreSlots.j1 k x0 x3 true))) else (none)) else (some (decide ((x0.length : Int) ≤ 30)))
def spec_AreSlots.j1 : Nat → List (S78) → Int → Bool → Option (Bool)
 | 0, _, _, _ => none
 | k + 1, x0, x3, x53 => if x53 = true then (some false) else (spec_AreSlots.l1 k x0 x3 0)
def spec_AreSlots.l1 : Nat → List (S78) → Int → Int → Option (Bool)
 | 0, _, _, _ => none
 | k + 1, x0, x3, x4 => if x4 < x3 then (if 0 ≤ x3 then (if x3 < (x0.length : Int) then (if ((rd_T78 x0 x3).f2) = 0 then (spec_AreSlots.l1 k x0 x3 (wrap64 (x4 + 1))) else (if 0 ≤ x4 then (if x4 < (x0.length : Int) then (if ((rd_T78 x0 x4).f2) = ((rd_T78 x0 x3).f2) then (some false) else (spec_AreSlots.l1 k x0 x3 (wrap64 (x4 + 1)))) else (none)) else (none))) else (none)) else (none)) else (spec_AreSlots.l0 k x0 (wrap64 (x3 + 1)))
end
def spec_AreSlots.f (k : Nat) (l0 : List (S78)) : Option (Bool) := spec_AreSlots.l0 k l0 0
theorem spec_AreSlots.mono_l : ∀ k, (∀ y0 y1, LeO (spec_AreSlots.l0 k y0 y1) (spec_AreSlots.l0 (k + 1) y0 y1)) ∧ (∀ y0 y1 y2, LeO (spec_AreSlots.j1 k y0 y1 y2) (spec_AreSlots.j1 (k + 1) y0 y1 y2)) ∧ (∀ y0 y1 y2, LeO (spec_AreSlots.l1 k y0 y1 y2) (spec_AreSlots.l1 (k + 1) y0 y1 y2))
 | 0 => ⟨fun _ _ r h => by simp [spec_AreSlots.l0] at h, fun _ _ _ r h => by simp [spec_AreSlots.j1] at h, fun _ _ _ r h => by simp [spec_AreSlots.l1] at h⟩
 | k + 1 => by
  obtain ⟨ih0, ih1, ih2⟩ := spec_AreSlots.mono_l k
  refine ⟨?_, ?_, ?_⟩
  ·intro y0 y1
   unfold spec_AreSlots.l0
   repeat' first
   | (with_reducible exact ih0 _ _)
   | (with_reducible exact ih1 _ _ _)
   | (with_reducible exact ih2 _ _ _)
   | (with_reducible exact LeO.refl _)
   | (with_reducible exact LeO.none _)
   | (with_reducible refine LeO.ite ?_ ?_)
   | (with_reducible refine LeO.bind ?_ (fun _ => ?_))
   | exact ih0 _ _
   | exact ih1 _ _ _
   | exact ih2 _ _ _
   | exact LeO.none _
   | refine LeO.ite ?_ ?_
   | refine LeO.bind ?_ (fun _ => ?_)
  ·intro y0 y1 y2
   unfold spec_AreSlots.j1
   repeat' first
   | (with_reducible exact ih0 _ _)
   | (with_reducible exact ih1 _ _ _)
   | (with_reducible exact ih2 _ _ _)
   | (with_reducible exact LeO.refl _)
   | (with_reducible exact LeO.none _)
   | (with_reducible refine LeO.ite ?_ ?_)
   | (with_reducible refine LeO.bind ?_ (fun _ => ?_))
   | exact ih0 _ _
   | exact ih1 _ _ _
   | exact ih2 _ _ _
   | exact LeO.none _
   | refine LeO.ite ?_ ?_
   | refine LeO.bind ?_ (fun _ => ?_)
  ·intro y0 y1 y2
   unfold spec_AreSlots.l1
   repeat' first
   | (with_reducible exact ih0 _ _)
   | (with_reducible exact ih1 _ _ _)
   | (with_reducible exact ih2 _ _ _)
   | (with_reducible exact LeO.refl _)
   | (with_reducible exact LeO.none _)
   | (with_reducible refine LeO.ite ?_ ?_)
   | (with_reducible refine LeO.bind ?_ (fun _ => ?_))
   | exact ih0 _ _
   | exact ih1 _ _ _
   | exact ih2 _ _ _
   | exact LeO.none _
   | refine LeO.ite ?_ ?_
   | refine LeO.bind ?_ (fun _ => ?_)
theorem spec_AreSlots.mono : ∀ a0 k, LeO (spec_AreSlots.f k a0) (spec_AreSlots.f (k + 1) a0) := by
 intro a0 k
 obtain ⟨ih0, ih1, ih2⟩ := spec_AreSlots.mono_l k
 unfold spec_AreSlots.f
 repeat' first
   | (with_reducible exact ih0 _ _)
   | (with_reducible exact ih1 _ _ _)
   | (with_reducible exact ih2 _ _ _)
   | (with_reducible exact LeO.refl _)
   | (with_reducible exact LeO.none _)
   | (with_reducible refine LeO.ite ?_ ?_)
   | (with_reducible refine LeO.bind ?_ (fun _ => ?_))
   | exact ih0 _ _
   | exact ih1 _ _ _
   | exact ih2 _ _ _
   | exact LeO.none _
   | refine LeO.ite ?_ ?_
   | refine LeO.bind ?_ (fun _ => ?_)
def spec_AreSlots.T4 : Bool × List (List Nat × List Nat) := (true, [([], []), ([], []), ([0, 1], [0, 1]), ([2], [2]), ([3], [3]), ([4], [4]), ([5], [5]), ([6, 5], [6]), ([7], [7]), ([7], [7]), ([8, 9, 7], [7, 8, 9]), ([10, 7], [7, 10]), ([11, 7], [7, 11]), ([12, 7, 7], [7, 12]), ([13, 7], [7, 13]), ([7, 14], [7, 14]), ([15, 13], [15]), ([16], [16]), ([16], [16]), ([17, 18, 16], [16, 17, 18]), ([19, 16], [16, 19]), ([20, 16], [16, 20]), ([21, 16, 16], [16, 21]), ([22, 16], [16, 22]), ([16, 23], [16, 23]), ([24, 22], [24]), ([25], [25]), ([26, 25], [25, 26]), ([27, 25, 25], [25, 27]), ([28], [28]), ([28], [28]), ([30, 28], [28, 30]), ([29, 31, 28], [28, 29, 31]), ([32, 28], [28, 32]), ([33, 28], [28, 33]), ([28], [28]), ([28], [28]), ([35, 36, 28], [28, 35, 36]), ([37, 28], [28, 37]), ([38, 28], [28, 38]), ([34, 39, 28], [28, 34, 39]), ([28, 40, 25], [25, 28, 40]), ([25, 41], [25, 41])])
def spec_AreSlots.B4 : List Nat := [0, 0, 3, 7, 15, 31, 63, 127, 255, 255, 1023, 2047, 4095, 8191, 16383, 32767, 65535, 131071, 131071, 524287, 1048575, 2097151, 4194303, 8388607, 16777215, 33554431, 67108863, 134217727, 268435455, 536870911, 536870911, 1610612735, 4294967295, 8589934591, 17179869183, 536870911, 536870911, 103616086015, 241055039487, 515932946431, 1099511627775, 2199023255551, 4398046511103]
theorem spec_AreSlots.tab4 : rtab .any (opsOf Try.f119 4) = spec_AreSlots.T4 := by kernel_rfl
theorem spec_AreSlots.bits4 : waitsOk spec_AreSlots.T4.2 spec_AreSlots.B4 = true := by kernel_rfl
def spec_AreSlots.T9 : Bool × List (List Nat × List Nat) := (true, [([], []), ([], []), ([0, 1], [0, 1]), ([2], [2]), ([3], [3]), ([4], [4]), ([5], [5]), ([6], [6]), ([6], [6]), ([7, 8, 6], [6, 7, 8]), ([9, 6], [6, 9]), ([10, 6], [6, 10]), ([6], [6]), ([6], [6]), ([12, 13, 6], [6, 12, 13]), ([14, 6], [6, 14]), ([15, 6], [6, 15]), ([11, 16, 6], [6, 11, 16]), ([6, 17], [6, 17])])
def spec_AreSlots.B9 : List Nat := [0, 0, 3, 7, 15, 31, 63, 127, 127, 511, 1023, 2047, 127, 127, 12415, 28799, 61567, 131071, 262143]
theorem spec_AreSlots.tab9 : rtab .any (opsOf Try.f119 9) = spec_AreSlots.T9 := by kernel_rfl
theorem spec_AreSlots.bits9 : waitsOk spec_AreSlots.T9.2 spec_AreSlots.B9 = true := by kernel_rfl
set_option maxHeartbeats 8000000 in
set_option maxRecDepth 100000 in
theorem spec_AreSlots.calls (k : Nat) (A0 : Option Addr) (c0 : Nat) (l0 : List (S78)) (r : Bool) (w : World) (hr0 : Kd.C k78 w A0 l0.length l0) (hc0 : l0.length ≤ c0) (h : spec_AreSlots.f k l0 = some r) :
  Calls Try.prog 119 #[.slice A0 l0.length c0] w fun e w' => e = .returned (.bool r) ∧ Below w.heap.size w w' := by
 have HR0 := Aside0.mk hr0
 have HC0 := Aside0.mk hc0
 clear hr0 hc0
 have HB := Aside0.mk (Below.refl w.heap.size w)
 have H : (spec_AreSlots.l0 k l0 0) = some r := h
 clear h
 have H' := Aside0.mk H
 clear H
 go_enter Try.func119, Try.ntmps119
 go_wp2
 go_loopg [3] k (fun kq v3 w' => ∃ (x3_1 : Int), v3 = .int .i64 x3_1 ∧ Aside0 (spec_AreSlots.l0 kq l0 x3_1 = some r) ∧ Aside0 (kq ≤ k) ∧ Aside0 (Below w.heap.size w w'))
 case atStart => exact ⟨(0), (by first | rfl | (simp; done) | (simp [*]; done)), H', ⟨Nat.le_refl _⟩, ⟨by repeat (first | (with_reducible first | exact HB.out | apply bA | apply bN | apply bD) | exact HB.out)⟩⟩
 case round =>
  clear H'
  try clear c1
  obtain ⟨x3_1, rfl, HA, HK1, HB⟩ := hrel
  cases gk with
  | zero => exact absurd HA.out (by simp [spec_AreSlots.l0])
  | succ k1 =>
   have H := HA.out
   clear HA
   simp only [spec_AreSlots.l0] at H
   by_cases c2 : x3_1 < (l0.length : Int)
   ·rw [if_pos c2] at H
    have c2b0 : decide (x3_1 < (l0.length : Int)) = true := decide_eq_true c2
    clear c2
    have HC3 := Aside0.mk H
    clear H
    go_upto_region 4 with (fail)
    go_cut [53] (fun v53 wc => ∃ (kq : Nat) (x53_2 : Bool), v53 = .bool x53_2 ∧ Aside0 (spec_AreSlots.j1 kq l0 x3_1 x53_2 = some r) ∧ Aside0 (kq ≤ k1) ∧ Aside0 (Below w.heap.size w wc))
    case first =>
     have H := HC3.out
     clear HC3
     by_cases c4 : 0 ≤ x3_1
     ·rw [if_pos c4] at H
      have c4b0 : decide (0 ≤ x3_1) = true := decide_eq_true c4
      clear c4
      (first | rw [c4b0] | (simp only [i64_w, i32_w]; rw [c4b0]) | skip)
      replace H := Option.bind_eq_some_iff.mp H
      obtain ⟨t122, A50, H⟩ := H
      replace H : (if t122 = true then ((spec_l1In.f ((rd_T78 l0 x3_1).f1) 1 50).bind fun t124 => (if t124 = true then ((spec_l1In.f ((rd_T78 l0 x3_1).f2) 0 999).bind fun t126 => (if t126 = true then (if x3_1 > 0 then (if 0 ≤ (wrap64 (x3_1 - 1)) then (if (wrap64 (x3_1 - 1)) < (l0.length : Int) then (spec_AreSlots.j1 k1 l0 x3_1 (decide (((rd_T78 l0 (wrap64 (x3_1 - 1))).f0) ≥ ((rd_T78 l0 x3_1).f0)))) else (none)) else (none)) else (spec_AreSlots.j1 k1 l0 x3_1 false)) else (spec_AreSlots.j1 k1 l0 x3_1 true))) else (spec_AreSlots.j1 k1 l0 x3_1 true))) else (spec_AreSlots.j1 k1 l0 x3_1 true)) = some r := H
      have A5 := Aside0.mk A50
      clear A50
      by_cases c6 : t122 = true
      ·subst c6
       have H1 : ((spec_l1In.f ((rd_T78 l0 x3_1).f1) 1 50).bind fun t124 => (if t124 = true then ((spec_l1In.f ((rd_T78 l0 x3_1).f2) 0 999).bind fun t126 => (if t126 = true then (if x3_1 > 0 then (if 0 ≤ (wrap64 (x3_1 - 1)) then (if (wrap64 (x3_1 - 1)) < (l0.length : Int) then (spec_AreSlots.j1 k1 l0 x3_1 (decide (((rd_T78 l0 (wrap64 (x3_1 - 1))).f0) ≥ ((rd_T78 l0 x3_1).f0)))) else (none)) else (none)) else (spec_AreSlots.j1 k1 l0 x3_1 false)) else (spec_AreSlots.j1 k1 l0 x3_1 true))) else (spec_AreSlots.j1 k1 l0 x3_1 true))) = some r := by rw [if_pos rfl] at H; exact H
       clear H
       have H := H1
       clear H1
       replace H := Option.bind_eq_some_iff.mp H
       obtain ⟨t124, A70, H⟩ := H
       replace H : (if t124 = true then ((spec_l1In.f ((rd_T78 l0 x3_1).f2) 0 999).bind fun t126 => (if t126 = true then (if x3_1 > 0 then (if 0 ≤ (wrap64 (x3_1 - 1)) then (if (wrap64 (x3_1 - 1)) < (l0.length : Int) then (spec_AreSlots.j1 k1 l0 x3_1 (decide (((rd_T78 l0 (wrap64 (x3_1 - 1))).f0) ≥ ((rd_T78 l0 x3_1).f0)))) else (none)) else (none)) else (spec_AreSlots.j1 k1 l0 x3_1 false)) else (spec_AreSlots.j1 k1 l0 x3_1 true))) else (spec_AreSlots.j1 k1 l0 x3_1 true)) = some r := H
       have A7 := Aside0.mk A70
       clear A70
       by_cases c8 : t124 = true
       ·subst c8
        have H1 : ((spec_l1In.f ((rd_T78 l0 x3_1).f2) 0 999).bind fun t126 => (if t126 = true then (if x3_1 > 0 then (if 0 ≤ (wrap64 (x3_1 - 1)) then (if (wrap64 (x3_1 - 1)) < (l0.length : Int) then (spec_AreSlots.j1 k1 l0 x3_1 (decide (((rd_T78 l0 (wrap64 (x3_1 - 1))).f0) ≥ ((rd_T78 l0 x3_1).f0)))) else (none)) else (none)) else (spec_AreSlots.j1 k1 l0 x3_1 false)) else (spec_AreSlots.j1 k1 l0 x3_1 true))) = some r := by rw [if_pos rfl] at H; exact H
        clear H
        have H := H1
        clear H1
        replace H := Option.bind_eq_some_iff.mp H
        obtain ⟨t126, A90, H⟩ := H
        replace H : (if t126 = true then (if x3_1 > 0 then (if 0 ≤ (wrap64 (x3_1 - 1)) then (if (wrap64 (x3_1 - 1)) < (l0.length : Int) then (spec_AreSlots.j1 k1 l0 x3_1 (decide (((rd_T78 l0 (wrap64 (x3_1 - 1))).f0) ≥ ((rd_T78 l0 x3_1).f0)))) else (none)) else (none)) else (spec_AreSlots.j1 k1 l0 x3_1 false)) else (spec_AreSlots.j1 k1 l0 x3_1 true)) = some r := H
        have A9 := Aside0.mk A90
        clear A90
        by_cases c10 : t126 = true
        ·subst c10
         have H1 : (if x3_1 > 0 then (if 0 ≤ (wrap64 (x3_1 - 1)) then (if (wrap64 (x3_1 - 1)) < (l0.length : Int) then (spec_AreSlots.j1 k1 l0 x3_1 (decide (((rd_T78 l0 (wrap64 (x3_1 - 1))).f0) ≥ ((rd_T78 l0 x3_1).f0)))) else (none)) else (none)) else (spec_AreSlots.j1 k1 l0 x3_1 false)) = some r := by rw [if_pos rfl] at H; exact H
         clear H
         have H := H1
         clear H1
         by_cases c11 : x3_1 > 0
         ·rw [if_pos c11] at H
          have c11b0 : decide (0 < x3_1) = true := decide_eq_true c11
          clear c11
          obtain ⟨ji12, hji12⟩ : ∃ j_ : Int, (wrap64 (x3_1 - 1)) = j_ := ⟨_, rfl⟩
          replace H : (if 0 ≤ (ji12) then (if (ji12) < (l0.length : Int) then (spec_AreSlots.j1 k1 l0 x3_1 (decide (((rd_T78 l0 (ji12)).f0) ≥ ((rd_T78 l0 x3_1).f0)))) else (none)) else (none)) = some r := by first | (rw [hji12] at H; exact H) | (simp only [hji12] at H ⊢; exact H)
          (try rw [hji12] at A5)
          (try rw [hji12] at A7)
          (try rw [hji12] at A9)
          have hji12w : (IntKind.i64.wrap (x3_1 - 1)) = ji12 := (i64_w _).trans hji12
          by_cases c13 : 0 ≤ (ji12)
          ·rw [if_pos c13] at H
           have c13b0 : decide (0 ≤ (ji12)) = true := decide_eq_true c13
           clear c13
           by_cases c14 : (ji12) < (l0.length : Int)
           ·rw [if_pos c14] at H
            have c14b0 : decide ((ji12) < (l0.length : Int)) = true := decide_eq_true c14
            clear c14
            have H' := Aside0.mk H
            clear H
            try go_wp2
            have n0_ := Aside0.mk (below_drew1 HB.out)
            clear HB
            have HB := n0_
            clear n0_
            have p121 : 0 ≤ (x3_1 : Int) := of_decide_eq_true ‹_›
            have q121 : x3_1 < (l0.length : Int) := of_decide_eq_true ‹_›
            obtain ⟨ad121, e121, hx121_0, hx121_1, hx121_2⟩ := at_T78 HR0.out x3_1 p121 q121
            have hw121_2 := hx121_2
            have hw121_1 := hx121_1
            have hw121_0 := hx121_0
            cases e121
            replace hx121_0 := (HB.out.cell (World.block_lt_of_cell? w _ hx121_0)).trans hx121_0
            replace hx121_1 := (HB.out.cell (World.block_lt_of_cell? w _ hx121_1)).trans hx121_1
            replace hx121_2 := (HB.out.cell (World.block_lt_of_cell? w _ hx121_2)).trans hx121_2
            replace p121 := eq_true p121
            replace q121 := eq_true q121
            have p123 : 0 ≤ (x3_1 : Int) := of_decide_eq_true ‹_›
            have q123 : x3_1 < (l0.length : Int) := of_decide_eq_true ‹_›
            obtain ⟨ad123, e123, hx123_0, hx123_1, hx123_2⟩ := at_T78 HR0.out x3_1 p123 q123
            have hw123_2 := hx123_2
            have hw123_1 := hx123_1
            have hw123_0 := hx123_0
            obtain rfl : ad121 = ad123 := (by injection e123)
            replace hx123_0 := (HB.out.cell (World.block_lt_of_cell? w _ hx123_0)).trans hx123_0
            replace hx123_1 := (HB.out.cell (World.block_lt_of_cell? w _ hx123_1)).trans hx123_1
            replace hx123_2 := (HB.out.cell (World.block_lt_of_cell? w _ hx123_2)).trans hx123_2
            replace p123 := eq_true p123
            replace q123 := eq_true q123
            have p125 : 0 ≤ (x3_1 : Int) := of_decide_eq_true ‹_›
            have q125 : x3_1 < (l0.length : Int) := of_decide_eq_true ‹_›
            obtain ⟨ad125, e125, hx125_0, hx125_1, hx125_2⟩ := at_T78 HR0.out x3_1 p125 q125
            have hw125_2 := hx125_2
            have hw125_1 := hx125_1
            have hw125_0 := hx125_0
            obtain rfl : ad121 = ad125 := (by injection e125)
            replace hx125_0 := (HB.out.cell (World.block_lt_of_cell? w _ hx125_0)).trans hx125_0
            replace hx125_1 := (HB.out.cell (World.block_lt_of_cell? w _ hx125_1)).trans hx125_1
            replace hx125_2 := (HB.out.cell (World.block_lt_of_cell? w _ hx125_2)).trans hx125_2
            replace p125 := eq_true p125
            replace q125 := eq_true q125
            have p127 : 0 ≤ ((ji12) : Int) := of_decide_eq_true ‹_›
            have q127 : (ji12) < (l0.length : Int) := of_decide_eq_true ‹_›
            obtain ⟨ad127, e127, hx127_0, hx127_1, hx127_2⟩ := at_T78 HR0.out (ji12) p127 q127
            have hw127_2 := hx127_2
            have hw127_1 := hx127_1
            have hw127_0 := hx127_0
            obtain rfl : ad121 = ad127 := (by injection e127)
            replace hx127_0 := (HB.out.cell (World.block_lt_of_cell? w _ hx127_0)).trans hx127_0
            replace hx127_1 := (HB.out.cell (World.block_lt_of_cell? w _ hx127_1)).trans hx127_1
            replace hx127_2 := (HB.out.cell (World.block_lt_of_cell? w _ hx127_2)).trans hx127_2
            replace p127 := eq_true p127
            replace q127 := eq_true q127
            have p128 : 0 ≤ (x3_1 : Int) := of_decide_eq_true ‹_›
            have q128 : x3_1 < (l0.length : Int) := of_decide_eq_true ‹_›
            obtain ⟨ad128, e128, hx128_0, hx128_1, hx128_2⟩ := at_T78 HR0.out x3_1 p128 q128
            have hw128_2 := hx128_2
            have hw128_1 := hx128_1
            have hw128_0 := hx128_0
            obtain rfl : ad121 = ad128 := (by injection e128)
            replace hx128_0 := (HB.out.cell (World.block_lt_of_cell? w _ hx128_0)).trans hx128_0
            replace hx128_1 := (HB.out.cell (World.block_lt_of_cell? w _ hx128_1)).trans hx128_1
            replace hx128_2 := (HB.out.cell (World.block_lt_of_cell? w _ hx128_2)).trans hx128_2
            replace p128 := eq_true p128
            replace q128 := eq_true q128
            refine start_ (n := 43) (S := fun w' => w'.cell? (ad121.add ((x3_1).toNat * 3)) = some (.int .i64 ((rd_T78 l0 x3_1).f0)) ∧ w'.cell? ⟨(ad121.add ((x3_1).toNat * 3)).block, (ad121.add ((x3_1).toNat * 3)).off + 1, none⟩ = some (.int .i64 ((rd_T78 l0 x3_1).f1)) ∧ w'.cell? ⟨(ad121.add ((x3_1).toNat * 3)).block, (ad121.add ((x3_1).toNat * 3)).off + 2, none⟩ = some (.int .i64 ((rd_T78 l0 x3_1).f2)) ∧ w'.cell? (ad121.add ((x3_1).toNat * 3)) = some (.int .i64 ((rd_T78 l0 x3_1).f0)) ∧ w'.cell? ⟨(ad121.add ((x3_1).toNat * 3)).block, (ad121.add ((x3_1).toNat * 3)).off + 1, none⟩ = some (.int .i64 ((rd_T78 l0 x3_1).f1)) ∧ w'.cell? ⟨(ad121.add ((x3_1).toNat * 3)).block, (ad121.add ((x3_1).toNat * 3)).off + 2, none⟩ = some (.int .i64 ((rd_T78 l0 x3_1).f2)) ∧ w'.cell? (ad121.add ((x3_1).toNat * 3)) = some (.int .i64 ((rd_T78 l0 x3_1).f0)) ∧ w'.cell? ⟨(ad121.add ((x3_1).toNat * 3)).block, (ad121.add ((x3_1).toNat * 3)).off + 1, none⟩ = some (.int .i64 ((rd_T78 l0 x3_1).f1)) ∧ w'.cell? ⟨(ad121.add ((x3_1).toNat * 3)).block, (ad121.add ((x3_1).toNat * 3)).off + 2, none⟩ = some (.int .i64 ((rd_T78 l0 x3_1).f2)) ∧ w'.cell? (ad121.add (((ji12)).toNat * 3)) = some (.int .i64 ((rd_T78 l0 (ji12)).f0)) ∧ w'.cell? ⟨(ad121.add (((ji12)).toNat * 3)).block, (ad121.add (((ji12)).toNat * 3)).off + 1, none⟩ = some (.int .i64 ((rd_T78 l0 (ji12)).f1)) ∧ w'.cell? ⟨(ad121.add (((ji12)).toNat * 3)).block, (ad121.add (((ji12)).toNat * 3)).off + 2, none⟩ = some (.int .i64 ((rd_T78 l0 (ji12)).f2)) ∧ w'.cell? (ad121.add ((x3_1).toNat * 3)) = some (.int .i64 ((rd_T78 l0 x3_1).f0)) ∧ w'.cell? ⟨(ad121.add ((x3_1).toNat * 3)).block, (ad121.add ((x3_1).toNat * 3)).off + 1, none⟩ = some (.int .i64 ((rd_T78 l0 x3_1).f1)) ∧ w'.cell? ⟨(ad121.add ((x3_1).toNat * 3)).block, (ad121.add ((x3_1).toNat * 3)).off + 2, none⟩ = some (.int .i64 ((rd_T78 l0 x3_1).f2))) (ds := []) (bR [0, 43]) (by kernel_rfl) rfl rfl ⟨((HB.out.cell (World.block_lt_of_cell? w _ hw121_0)).trans hw121_0), ((HB.out.cell (World.block_lt_of_cell? w _ hw121_1)).trans hw121_1), ((HB.out.cell (World.block_lt_of_cell? w _ hw121_2)).trans hw121_2), ((HB.out.cell (World.block_lt_of_cell? w _ hw123_0)).trans hw123_0), ((HB.out.cell (World.block_lt_of_cell? w _ hw123_1)).trans hw123_1), ((HB.out.cell (World.block_lt_of_cell? w _ hw123_2)).trans hw123_2), ((HB.out.cell (World.block_lt_of_cell? w _ hw125_0)).trans hw125_0), ((HB.out.cell (World.block_lt_of_cell? w _ hw125_1)).trans hw125_1), ((HB.out.cell (World.block_lt_of_cell? w _ hw125_2)).trans hw125_2), ((HB.out.cell (World.block_lt_of_cell? w _ hw127_0)).trans hw127_0), ((HB.out.cell (World.block_lt_of_cell? w _ hw127_1)).trans hw127_1), ((HB.out.cell (World.block_lt_of_cell? w _ hw127_2)).trans hw127_2), ((HB.out.cell (World.block_lt_of_cell? w _ hw128_0)).trans hw128_0), ((HB.out.cell (World.block_lt_of_cell? w _ hw128_1)).trans hw128_1), ((HB.out.cell (World.block_lt_of_cell? w _ hw128_2)).trans hw128_2)⟩ (fun hHeld => ?_); refine with_tabW spec_AreSlots.tab4 spec_AreSlots.bits4 (fun HT_ HW_ => ?_)
            generalize wr.drew = w15 at HB hx121_0 hx121_1 hx121_2 hx123_0 hx123_1 hx123_2 hx125_0 hx125_1 hx125_2 hx127_0 hx127_1 hx127_2 hx128_0 hx128_1 hx128_2 hHeld ⊢
            refine pP 0 11 (bR [1, 42]) rfl rfl HT_ ?_
            refine pP 1 12 (bR [2, 41]) rfl rfl HT_ ?_
            refine pP 2 13 (bR [3, 40]) rfl rfl HT_ ?_
            refine pP 3 14 (bR [4, 39]) rfl rfl HT_ ?_
            refine take_ (i := 4) (N := some 15) (v := ?_) (a' := ?_) (bR [5, 38]) rfl rfl (take_ofW HT_.out HW_.out (by kernel_rfl)) (fun _ _ _ h => h) (Or.inl ⟨by rfl, ?_⟩) hHeld ?_ ?_
            rotate_left; (rintro w' ⟨s0, s1, s2, s3, s4, s5, s6, s7, s8, s9, s10, s11, s12, s13, s14⟩; go_simp; with_reducible rfl); rotate_left; (simp only [Act.put, sA, sZ, sS, i64_w]; rfl)
            refine one_ (i := 5) (N := some 16) (bR [6, 37]) rfl rfl (one_of HT_.out (by kernel_rfl)) (by decide) (fun K hK => ?_)
            refine goes_ Try.func176 (by kernel_rfl) rfl #[.int .i64 ((rd_T78 l0 x3_1).f0), .int .i64 1, .int .i64 99] (by rfl) rfl rfl (by (try simp only [mA, mC, mN]); first | done | rfl | (simp only [lD, lT]; rfl)) ?_
            with_reducible refine (spec_l1In.calls ((rd_T78 l0 x3_1).f0) 1 99 true _ A5.out).mono ?_
            rintro e w' ⟨rfl, ⟨nd, rfl⟩⟩
            refine ⟨_, rfl, ?_⟩
            refine hK.out _ _ ⟨((HB.out.cell (World.block_lt_of_cell? w _ hw121_0)).trans hw121_0), ((HB.out.cell (World.block_lt_of_cell? w _ hw121_1)).trans hw121_1), ((HB.out.cell (World.block_lt_of_cell? w _ hw121_2)).trans hw121_2), ((HB.out.cell (World.block_lt_of_cell? w _ hw123_0)).trans hw123_0), ((HB.out.cell (World.block_lt_of_cell? w _ hw123_1)).trans hw123_1), ((HB.out.cell (World.block_lt_of_cell? w _ hw123_2)).trans hw123_2), ((HB.out.cell (World.block_lt_of_cell? w _ hw125_0)).trans hw125_0), ((HB.out.cell (World.block_lt_of_cell? w _ hw125_1)).trans hw125_1), ((HB.out.cell (World.block_lt_of_cell? w _ hw125_2)).trans hw125_2), ((HB.out.cell (World.block_lt_of_cell? w _ hw127_0)).trans hw127_0), ((HB.out.cell (World.block_lt_of_cell? w _ hw127_1)).trans hw127_1), ((HB.out.cell (World.block_lt_of_cell? w _ hw127_2)).trans hw127_2), ((HB.out.cell (World.block_lt_of_cell? w _ hw128_0)).trans hw128_0), ((HB.out.cell (World.block_lt_of_cell? w _ hw128_1)).trans hw128_1), ((HB.out.cell (World.block_lt_of_cell? w _ hw128_2)).trans hw128_2)⟩ (fun hHeld => ?_)
            clear hK K
            refine norm_ (a' := ?_) ?_ ?_
            rotate_left
            ·show Act.put _ (some 16) _ = _
             simp only [Act.put, sA, sZ, sS, i64_w]
             rfl
            refine pP 6 17 (bR [7, 36]) rfl rfl HT_ ?_
            refine pP 7 18 (bR [8, 35]) rfl rfl HT_ ?_
            refine pP 8 19 (bR [9, 34]) rfl rfl HT_ ?_
            refine pP 9 20 (bR [10, 33]) rfl rfl HT_ ?_
            refine pP 10 21 (bR [11, 32]) rfl rfl HT_ ?_
            refine pP 11 22 (bR [12, 31]) rfl rfl HT_ ?_
            refine take_ (i := 12) (N := some 23) (v := ?_) (a' := ?_) (bR [13, 30]) rfl rfl (take_ofW HT_.out HW_.out (by kernel_rfl)) (fun _ _ _ h => h) (Or.inl ⟨by rfl, ?_⟩) hHeld ?_ ?_
            rotate_left; (rintro w' ⟨s0, s1, s2, s3, s4, s5, s6, s7, s8, s9, s10, s11, s12, s13, s14⟩; go_simp; with_reducible rfl); rotate_left; (simp only [Act.put, sA, sZ, sS, i64_w]; rfl)
            refine one_ (i := 13) (N := some 24) (bR [14, 29]) rfl rfl (one_of HT_.out (by kernel_rfl)) (by decide) (fun K hK => ?_)
            refine goes_ Try.func176 (by kernel_rfl) rfl #[.int .i64 ((rd_T78 l0 x3_1).f1), .int .i64 1, .int .i64 50] (by rfl) rfl rfl (by (try simp only [mA, mC, mN]); first | done | rfl | (simp only [lD, lT]; rfl)) ?_
            with_reducible refine (spec_l1In.calls ((rd_T78 l0 x3_1).f1) 1 50 true _ A7.out).mono ?_
            rintro e w' ⟨rfl, ⟨nd, rfl⟩⟩
            refine ⟨_, rfl, ?_⟩
            refine hK.out _ _ ⟨((HB.out.cell (World.block_lt_of_cell? w _ hw121_0)).trans hw121_0), ((HB.out.cell (World.block_lt_of_cell? w _ hw121_1)).trans hw121_1), ((HB.out.cell (World.block_lt_of_cell? w _ hw121_2)).trans hw121_2), ((HB.out.cell (World.block_lt_of_cell? w _ hw123_0)).trans hw123_0), ((HB.out.cell (World.block_lt_of_cell? w _ hw123_1)).trans hw123_1), ((HB.out.cell (World.block_lt_of_cell? w _ hw123_2)).trans hw123_2), ((HB.out.cell (World.block_lt_of_cell? w _ hw125_0)).trans hw125_0), ((HB.out.cell (World.block_lt_of_cell? w _ hw125_1)).trans hw125_1), ((HB.out.cell (World.block_lt_of_cell? w _ hw125_2)).trans hw125_2), ((HB.out.cell (World.block_lt_of_cell? w _ hw127_0)).trans hw127_0), ((HB.out.cell (World.block_lt_of_cell? w _ hw127_1)).trans hw127_1), ((HB.out.cell (World.block_lt_of_cell? w _ hw127_2)).trans hw127_2), ((HB.out.cell (World.block_lt_of_cell? w _ hw128_0)).trans hw128_0), ((HB.out.cell (World.block_lt_of_cell? w _ hw128_1)).trans hw128_1), ((HB.out.cell (World.block_lt_of_cell? w _ hw128_2)).trans hw128_2)⟩ (fun hHeld => ?_)
            clear hK K
            refine norm_ (a' := ?_) ?_ ?_
            rotate_left
            ·show Act.put _ (some 24) _ = _
             simp only [Act.put, sA, sZ, sS, i64_w]
             rfl
            refine pP 14 25 (bR [15, 28]) rfl rfl HT_ ?_
            refine pP 15 26 (bR [16, 27]) rfl rfl HT_ ?_
            refine pP 16 27 (bR [17, 26]) rfl rfl HT_ ?_
            refine pP 17 28 (bR [18, 25]) rfl rfl HT_ ?_
            refine pP 18 29 (bR [19, 24]) rfl rfl HT_ ?_
            refine pP 19 30 (bR [20, 23]) rfl rfl HT_ ?_
            refine pP 20 31 (bR [21, 22]) rfl rfl HT_ ?_
            refine take_ (i := 21) (N := some 32) (v := ?_) (a' := ?_) (bR [22, 21]) rfl rfl (take_ofW HT_.out HW_.out (by kernel_rfl)) (fun _ _ _ h => h) (Or.inl ⟨by rfl, ?_⟩) hHeld ?_ ?_
            rotate_left; (rintro w' ⟨s0, s1, s2, s3, s4, s5, s6, s7, s8, s9, s10, s11, s12, s13, s14⟩; go_simp; with_reducible rfl); rotate_left; (simp only [Act.put, sA, sZ, sS, i64_w]; rfl)
            refine one_ (i := 22) (N := some 33) (bR [23, 20]) rfl rfl (one_of HT_.out (by kernel_rfl)) (by decide) (fun K hK => ?_)
            refine goes_ Try.func176 (by kernel_rfl) rfl #[.int .i64 ((rd_T78 l0 x3_1).f2), .int .i64 0, .int .i64 999] (by rfl) rfl rfl (by (try simp only [mA, mC, mN]); first | done | rfl | (simp only [lD, lT]; rfl)) ?_
            with_reducible refine (spec_l1In.calls ((rd_T78 l0 x3_1).f2) 0 999 true _ A9.out).mono ?_
            rintro e w' ⟨rfl, ⟨nd, rfl⟩⟩
            refine ⟨_, rfl, ?_⟩
            refine hK.out _ _ ⟨((HB.out.cell (World.block_lt_of_cell? w _ hw121_0)).trans hw121_0), ((HB.out.cell (World.block_lt_of_cell? w _ hw121_1)).trans hw121_1), ((HB.out.cell (World.block_lt_of_cell? w _ hw121_2)).trans hw121_2), ((HB.out.cell (World.block_lt_of_cell? w _ hw123_0)).trans hw123_0), ((HB.out.cell (World.block_lt_of_cell? w _ hw123_1)).trans hw123_1), ((HB.out.cell (World.block_lt_of_cell? w _ hw123_2)).trans hw123_2), ((HB.out.cell (World.block_lt_of_cell? w _ hw125_0)).trans hw125_0), ((HB.out.cell (World.block_lt_of_cell? w _ hw125_1)).trans hw125_1), ((HB.out.cell (World.block_lt_of_cell? w _ hw125_2)).trans hw125_2), ((HB.out.cell (World.block_lt_of_cell? w _ hw127_0)).trans hw127_0), ((HB.out.cell (World.block_lt_of_cell? w _ hw127_1)).trans hw127_1), ((HB.out.cell (World.block_lt_of_cell? w _ hw127_2)).trans hw127_2), ((HB.out.cell (World.block_lt_of_cell? w _ hw128_0)).trans hw128_0), ((HB.out.cell (World.block_lt_of_cell? w _ hw128_1)).trans hw128_1), ((HB.out.cell (World.block_lt_of_cell? w _ hw128_2)).trans hw128_2)⟩ (fun hHeld => ?_)
            clear hK K
            refine norm_ (a' := ?_) ?_ ?_
            rotate_left
            ·show Act.put _ (some 33) _ = _
             simp only [Act.put, sA, sZ, sS, i64_w]
             rfl
            refine pP 23 34 (bR [24, 19]) rfl rfl HT_ ?_
            refine pP 24 35 (bR [25, 18]) rfl rfl HT_ ?_
            refine pP 25 36 (bR [26, 17]) rfl rfl HT_ ?_
            refine pP 26 37 (bR [27, 16]) rfl rfl HT_ ?_
            refine pP 27 38 (bR [28, 15]) rfl rfl HT_ ?_
            refine pP 28 39 (bR [29, 14]) rfl rfl HT_ ?_
            refine pP 29 40 (bR [30, 13]) rfl rfl HT_ ?_
            refine pP 30 41 (bR [31, 12]) rfl rfl HT_ ?_
            refine pP 31 42 (bR [32, 11]) rfl rfl HT_ ?_
            refine pP 32 43 (bR [33, 10]) rfl rfl HT_ ?_
            refine pP 33 44 (bR [34, 9]) rfl rfl HT_ ?_
            refine pP 35 46 (bR [34, 1, 1, 7]) rfl rfl HT_ ?_
            refine pP 36 47 (bR [34, 1, 2, 6]) rfl rfl HT_ ?_
            refine pP 37 48 (bR [34, 1, 3, 5]) rfl rfl HT_ ?_
            refine pP 38 49 (bR [34, 1, 4, 4]) rfl rfl HT_ ?_
            refine take_ (i := 34) (N := some 45) (v := ?_) (a' := ?_) (bR [39, 4]) rfl rfl (take_ofW HT_.out HW_.out (by kernel_rfl)) (fun _ _ _ h => h) (Or.inl ⟨by rfl, ?_⟩) hHeld ?_ ?_
            rotate_left; (rintro w' ⟨s0, s1, s2, s3, s4, s5, s6, s7, s8, s9, s10, s11, s12, s13, s14⟩; go_simp; with_reducible rfl); rotate_left; (simp only [Act.put, sA, sZ, sS, i64_w]; rfl)
            refine take_ (i := 39) (N := some 50) (v := ?_) (a' := ?_) (bR [40, 3]) rfl rfl (take_ofW HT_.out HW_.out (by kernel_rfl)) (fun _ _ _ h => h) (Or.inl ⟨by rfl, ?_⟩) hHeld ?_ ?_
            rotate_left; (rintro w' ⟨s0, s1, s2, s3, s4, s5, s6, s7, s8, s9, s10, s11, s12, s13, s14⟩; go_simp; with_reducible rfl); rotate_left; (simp only [Act.put, sA, sZ, sS, i64_w]; rfl)
            refine pP 40 51 (bR [41, 2]) rfl rfl HT_ ?_
            refine pP 41 52 (bR [42, 1]) rfl rfl HT_ ?_
            refine pP 42 53 (bR [43]) rfl rfl HT_ ?_
            refine done_ (done_of HT_.out (by kernel_rfl)) ?_
            try go_wp2
            go_meet
            case rel => exact ⟨_, (decide (((rd_T78 l0 (ji12)).f0) ≥ ((rd_T78 l0 x3_1).f0))), (by first | rfl | (simp; done) | (simp only [← hji12] <;> (first | rfl | simp)) | (simp [*]; done)), H', ⟨by have := HK1.out; first | omega | exact Nat.le_refl _⟩, ⟨by repeat (first | (with_reducible first | exact HB.out | apply bA | apply bN | apply bD) | exact HB.out)⟩⟩
           ·rw [if_neg c14] at H
            exact absurd H (by simp)
          ·rw [if_neg c13] at H
           exact absurd H (by simp)
         ·rw [if_neg c11] at H
          have c11b0 : decide (0 < x3_1) = false := decide_eq_false c11
          clear c11
          have H' := Aside0.mk H
          clear H
          try go_wp2
          have n0_ := Aside0.mk (below_drew1 HB.out)
          clear HB
          have HB := n0_
          clear n0_
          have p121 : 0 ≤ (x3_1 : Int) := of_decide_eq_true ‹_›
          have q121 : x3_1 < (l0.length : Int) := of_decide_eq_true ‹_›
          obtain ⟨ad121, e121, hx121_0, hx121_1, hx121_2⟩ := at_T78 HR0.out x3_1 p121 q121
          have hw121_2 := hx121_2
          have hw121_1 := hx121_1
          have hw121_0 := hx121_0
          cases e121
          replace hx121_0 := (HB.out.cell (World.block_lt_of_cell? w _ hx121_0)).trans hx121_0
          replace hx121_1 := (HB.out.cell (World.block_lt_of_cell? w _ hx121_1)).trans hx121_1
          replace hx121_2 := (HB.out.cell (World.block_lt_of_cell? w _ hx121_2)).trans hx121_2
          replace p121 := eq_true p121
          replace q121 := eq_true q121
          have p123 : 0 ≤ (x3_1 : Int) := of_decide_eq_true ‹_›
          have q123 : x3_1 < (l0.length : Int) := of_decide_eq_true ‹_›
          obtain ⟨ad123, e123, hx123_0, hx123_1, hx123_2⟩ := at_T78 HR0.out x3_1 p123 q123
          have hw123_2 := hx123_2
          have hw123_1 := hx123_1
          have hw123_0 := hx123_0
          obtain rfl : ad121 = ad123 := (by injection e123)
          replace hx123_0 := (HB.out.cell (World.block_lt_of_cell? w _ hx123_0)).trans hx123_0
          replace hx123_1 := (HB.out.cell (World.block_lt_of_cell? w _ hx123_1)).trans hx123_1
          replace hx123_2 := (HB.out.cell (World.block_lt_of_cell? w _ hx123_2)).trans hx123_2
          replace p123 := eq_true p123
          replace q123 := eq_true q123
          have p125 : 0 ≤ (x3_1 : Int) := of_decide_eq_true ‹_›
          have q125 : x3_1 < (l0.length : Int) := of_decide_eq_true ‹_›
          obtain ⟨ad125, e125, hx125_0, hx125_1, hx125_2⟩ := at_T78 HR0.out x3_1 p125 q125
          have hw125_2 := hx125_2
          have hw125_1 := hx125_1
          have hw125_0 := hx125_0
          obtain rfl : ad121 = ad125 := (by injection e125)
          replace hx125_0 := (HB.out.cell (World.block_lt_of_cell? w _ hx125_0)).trans hx125_0
          replace hx125_1 := (HB.out.cell (World.block_lt_of_cell? w _ hx125_1)).trans hx125_1
          replace hx125_2 := (HB.out.cell (World.block_lt_of_cell? w _ hx125_2)).trans hx125_2
          replace p125 := eq_true p125
          replace q125 := eq_true q125
          refine start_ (n := 43) (S := fun w' => w'.cell? (ad121.add ((x3_1).toNat * 3)) = some (.int .i64 ((rd_T78 l0 x3_1).f0)) ∧ w'.cell? ⟨(ad121.add ((x3_1).toNat * 3)).block, (ad121.add ((x3_1).toNat * 3)).off + 1, none⟩ = some (.int .i64 ((rd_T78 l0 x3_1).f1)) ∧ w'.cell? ⟨(ad121.add ((x3_1).toNat * 3)).block, (ad121.add ((x3_1).toNat * 3)).off + 2, none⟩ = some (.int .i64 ((rd_T78 l0 x3_1).f2)) ∧ w'.cell? (ad121.add ((x3_1).toNat * 3)) = some (.int .i64 ((rd_T78 l0 x3_1).f0)) ∧ w'.cell? ⟨(ad121.add ((x3_1).toNat * 3)).block, (ad121.add ((x3_1).toNat * 3)).off + 1, none⟩ = some (.int .i64 ((rd_T78 l0 x3_1).f1)) ∧ w'.cell? ⟨(ad121.add ((x3_1).toNat * 3)).block, (ad121.add ((x3_1).toNat * 3)).off + 2, none⟩ = some (.int .i64 ((rd_T78 l0 x3_1).f2)) ∧ w'.cell? (ad121.add ((x3_1).toNat * 3)) = some (.int .i64 ((rd_T78 l0 x3_1).f0)) ∧ w'.cell? ⟨(ad121.add ((x3_1).toNat * 3)).block, (ad121.add ((x3_1).toNat * 3)).off + 1, none⟩ = some (.int .i64 ((rd_T78 l0 x3_1).f1)) ∧ w'.cell? ⟨(ad121.add ((x3_1).toNat * 3)).block, (ad121.add ((x3_1).toNat * 3)).off + 2, none⟩ = some (.int .i64 ((rd_T78 l0 x3_1).f2))) (ds := []) (bR [0, 43]) (by kernel_rfl) rfl rfl ⟨((HB.out.cell (World.block_lt_of_cell? w _ hw121_0)).trans hw121_0), ((HB.out.cell (World.block_lt_of_cell? w _ hw121_1)).trans hw121_1), ((HB.out.cell (World.block_lt_of_cell? w _ hw121_2)).trans hw121_2), ((HB.out.cell (World.block_lt_of_cell? w _ hw123_0)).trans hw123_0), ((HB.out.cell (World.block_lt_of_cell? w _ hw123_1)).trans hw123_1), ((HB.out.cell (World.block_lt_of_cell? w _ hw123_2)).trans hw123_2), ((HB.out.cell (World.block_lt_of_cell? w _ hw125_0)).trans hw125_0), ((HB.out.cell (World.block_lt_of_cell? w _ hw125_1)).trans hw125_1), ((HB.out.cell (World.block_lt_of_cell? w _ hw125_2)).trans hw125_2)⟩ (fun hHeld => ?_); refine with_tabW spec_AreSlots.tab4 spec_AreSlots.bits4 (fun HT_ HW_ => ?_)
          generalize wr.drew = w16 at HB hx121_0 hx121_1 hx121_2 hx123_0 hx123_1 hx123_2 hx125_0 hx125_1 hx125_2 hHeld ⊢
          refine pP 0 11 (bR [1, 42]) rfl rfl HT_ ?_
          refine pP 1 12 (bR [2, 41]) rfl rfl HT_ ?_
          refine pP 2 13 (bR [3, 40]) rfl rfl HT_ ?_
          refine pP 3 14 (bR [4, 39]) rfl rfl HT_ ?_
          refine take_ (i := 4) (N := some 15) (v := ?_) (a' := ?_) (bR [5, 38]) rfl rfl (take_ofW HT_.out HW_.out (by kernel_rfl)) (fun _ _ _ h => h) (Or.inl ⟨by rfl, ?_⟩) hHeld ?_ ?_
          rotate_left; (rintro w' ⟨s0, s1, s2, s3, s4, s5, s6, s7, s8⟩; go_simp; with_reducible rfl); rotate_left; (simp only [Act.put, sA, sZ, sS, i64_w]; rfl)
          refine one_ (i := 5) (N := some 16) (bR [6, 37]) rfl rfl (one_of HT_.out (by kernel_rfl)) (by decide) (fun K hK => ?_)
          refine goes_ Try.func176 (by kernel_rfl) rfl #[.int .i64 ((rd_T78 l0 x3_1).f0), .int .i64 1, .int .i64 99] (by rfl) rfl rfl (by (try simp only [mA, mC, mN]); first | done | rfl | (simp only [lD, lT]; rfl)) ?_
          with_reducible refine (spec_l1In.calls ((rd_T78 l0 x3_1).f0) 1 99 true _ A5.out).mono ?_
          rintro e w' ⟨rfl, ⟨nd, rfl⟩⟩
          refine ⟨_, rfl, ?_⟩
          refine hK.out _ _ ⟨((HB.out.cell (World.block_lt_of_cell? w _ hw121_0)).trans hw121_0), ((HB.out.cell (World.block_lt_of_cell? w _ hw121_1)).trans hw121_1), ((HB.out.cell (World.block_lt_of_cell? w _ hw121_2)).trans hw121_2), ((HB.out.cell (World.block_lt_of_cell? w _ hw123_0)).trans hw123_0), ((HB.out.cell (World.block_lt_of_cell? w _ hw123_1)).trans hw123_1), ((HB.out.cell (World.block_lt_of_cell? w _ hw123_2)).trans hw123_2), ((HB.out.cell (World.block_lt_of_cell? w _ hw125_0)).trans hw125_0), ((HB.out.cell (World.block_lt_of_cell? w _ hw125_1)).trans hw125_1), ((HB.out.cell (World.block_lt_of_cell? w _ hw125_2)).trans hw125_2)⟩ (fun hHeld => ?_)
          clear hK K
          refine norm_ (a' := ?_) ?_ ?_
          rotate_left
          ·show Act.put _ (some 16) _ = _
           simp only [Act.put, sA, sZ, sS, i64_w]
           rfl
          refine pP 6 17 (bR [7, 36]) rfl rfl HT_ ?_
          refine pP 7 18 (bR [8, 35]) rfl rfl HT_ ?_
          refine pP 8 19 (bR [9, 34]) rfl rfl HT_ ?_
          refine pP 9 20 (bR [10, 33]) rfl rfl HT_ ?_
          refine pP 10 21 (bR [11, 32]) rfl rfl HT_ ?_
          refine pP 11 22 (bR [12, 31]) rfl rfl HT_ ?_
          refine take_ (i := 12) (N := some 23) (v := ?_) (a' := ?_) (bR [13, 30]) rfl rfl (take_ofW HT_.out HW_.out (by kernel_rfl)) (fun _ _ _ h => h) (Or.inl ⟨by rfl, ?_⟩) hHeld ?_ ?_
          rotate_left; (rintro w' ⟨s0, s1, s2, s3, s4, s5, s6, s7, s8⟩; go_simp; with_reducible rfl); rotate_left; (simp only [Act.put, sA, sZ, sS, i64_w]; rfl)
          refine one_ (i := 13) (N := some 24) (bR [14, 29]) rfl rfl (one_of HT_.out (by kernel_rfl)) (by decide) (fun K hK => ?_)
          refine goes_ Try.func176 (by kernel_rfl) rfl #[.int .i64 ((rd_T78 l0 x3_1).f1), .int .i64 1, .int .i64 50] (by rfl) rfl rfl (by (try simp only [mA, mC, mN]); first | done | rfl | (simp only [lD, lT]; rfl)) ?_
          with_reducible refine (spec_l1In.calls ((rd_T78 l0 x3_1).f1) 1 50 true _ A7.out).mono ?_
          rintro e w' ⟨rfl, ⟨nd, rfl⟩⟩
          refine ⟨_, rfl, ?_⟩
          refine hK.out _ _ ⟨((HB.out.cell (World.block_lt_of_cell? w _ hw121_0)).trans hw121_0), ((HB.out.cell (World.block_lt_of_cell? w _ hw121_1)).trans hw121_1), ((HB.out.cell (World.block_lt_of_cell? w _ hw121_2)).trans hw121_2), ((HB.out.cell (World.block_lt_of_cell? w _ hw123_0)).trans hw123_0), ((HB.out.cell (World.block_lt_of_cell? w _ hw123_1)).trans hw123_1), ((HB.out.cell (World.block_lt_of_cell? w _ hw123_2)).trans hw123_2), ((HB.out.cell (World.block_lt_of_cell? w _ hw125_0)).trans hw125_0), ((HB.out.cell (World.block_lt_of_cell? w _ hw125_1)).trans hw125_1), ((HB.out.cell (World.block_lt_of_cell? w _ hw125_2)).trans hw125_2)⟩ (fun hHeld => ?_)
          clear hK K
          refine norm_ (a' := ?_) ?_ ?_
          rotate_left
          ·show Act.put _ (some 24) _ = _
           simp only [Act.put, sA, sZ, sS, i64_w]
           rfl
          refine pP 14 25 (bR [15, 28]) rfl rfl HT_ ?_
          refine pP 15 26 (bR [16, 27]) rfl rfl HT_ ?_
          refine pP 16 27 (bR [17, 26]) rfl rfl HT_ ?_
          refine pP 17 28 (bR [18, 25]) rfl rfl HT_ ?_
          refine pP 18 29 (bR [19, 24]) rfl rfl HT_ ?_
          refine pP 19 30 (bR [20, 23]) rfl rfl HT_ ?_
          refine pP 20 31 (bR [21, 22]) rfl rfl HT_ ?_
          refine take_ (i := 21) (N := some 32) (v := ?_) (a' := ?_) (bR [22, 21]) rfl rfl (take_ofW HT_.out HW_.out (by kernel_rfl)) (fun _ _ _ h => h) (Or.inl ⟨by rfl, ?_⟩) hHeld ?_ ?_
          rotate_left; (rintro w' ⟨s0, s1, s2, s3, s4, s5, s6, s7, s8⟩; go_simp; with_reducible rfl); rotate_left; (simp only [Act.put, sA, sZ, sS, i64_w]; rfl)
          refine one_ (i := 22) (N := some 33) (bR [23, 20]) rfl rfl (one_of HT_.out (by kernel_rfl)) (by decide) (fun K hK => ?_)
          refine goes_ Try.func176 (by kernel_rfl) rfl #[.int .i64 ((rd_T78 l0 x3_1).f2), .int .i64 0, .int .i64 999] (by rfl) rfl rfl (by (try simp only [mA, mC, mN]); first | done | rfl | (simp only [lD, lT]; rfl)) ?_
          with_reducible refine (spec_l1In.calls ((rd_T78 l0 x3_1).f2) 0 999 true _ A9.out).mono ?_
          rintro e w' ⟨rfl, ⟨nd, rfl⟩⟩
          refine ⟨_, rfl, ?_⟩
          refine hK.out _ _ ⟨((HB.out.cell (World.block_lt_of_cell? w _ hw121_0)).trans hw121_0), ((HB.out.cell (World.block_lt_of_cell? w _ hw121_1)).trans hw121_1), ((HB.out.cell (World.block_lt_of_cell? w _ hw121_2)).trans hw121_2), ((HB.out.cell (World.block_lt_of_cell? w _ hw123_0)).trans hw123_0), ((HB.out.cell (World.block_lt_of_cell? w _ hw123_1)).trans hw123_1), ((HB.out.cell (World.block_lt_of_cell? w _ hw123_2)).trans hw123_2), ((HB.out.cell (World.block_lt_of_cell? w _ hw125_0)).trans hw125_0), ((HB.out.cell (World.block_lt_of_cell? w _ hw125_1)).trans hw125_1), ((HB.out.cell (World.block_lt_of_cell? w _ hw125_2)).trans hw125_2)⟩ (fun hHeld => ?_)
          clear hK K
          refine norm_ (a' := ?_) ?_ ?_
          rotate_left
          ·show Act.put _ (some 33) _ = _
           simp only [Act.put, sA, sZ, sS, i64_w]
           rfl
          refine pP 23 34 (bR [24, 19]) rfl rfl HT_ ?_
          refine pP 24 35 (bR [25, 18]) rfl rfl HT_ ?_
          refine pP 25 36 (bR [26, 17]) rfl rfl HT_ ?_
          refine pP 26 37 (bR [27, 16]) rfl rfl HT_ ?_
          refine pP 27 38 (bR [28, 15]) rfl rfl HT_ ?_
          refine pP 28 39 (bR [29, 14]) rfl rfl HT_ ?_
          refine pU 29 40 (bR [30, 13]) rfl rfl HT_ ?_
          refine pU 30 41 (bR [31, 12]) rfl rfl HT_ ?_
          refine pU 31 42 (bR [32, 11]) rfl rfl HT_ ?_
          refine pU 32 43 (bR [33, 10]) rfl rfl HT_ ?_
          refine pU 33 44 (bR [34, 9]) rfl rfl HT_ ?_
          refine pU 34 45 (bR [35, 8]) rfl rfl HT_ ?_
          refine pU 35 46 (bR [36, 7]) rfl rfl HT_ ?_
          refine pU 36 47 (bR [37, 6]) rfl rfl HT_ ?_
          refine pU 37 48 (bR [38, 5]) rfl rfl HT_ ?_
          refine pU 38 49 (bR [39, 4]) rfl rfl HT_ ?_
          refine pU 39 50 (bR [40, 3]) rfl rfl HT_ ?_
          refine pU 40 51 (bR [41, 2]) rfl rfl HT_ ?_
          refine pP 41 52 (bR [42, 1]) rfl rfl HT_ ?_
          refine pP 42 53 (bR [43]) rfl rfl HT_ ?_
          refine done_ (done_of HT_.out (by kernel_rfl)) ?_
          try go_wp2
          go_meet
          case rel => exact ⟨_, (false), (by first | rfl | (simp; done) | (simp [*]; done)), H', ⟨by have := HK1.out; first | omega | exact Nat.le_refl _⟩, ⟨by repeat (first | (with_reducible first | exact HB.out | apply bA | apply bN | apply bD) | exact HB.out)⟩⟩
        ·replace c10 := Bool.eq_false_iff.mpr c10
         subst c10
         have H1 : (spec_AreSlots.j1 k1 l0 x3_1 true) = some r := by rw [if_neg (show ¬ (false = true) by decide)] at H; exact H
         clear H
         have H := H1
         clear H1
         have H' := Aside0.mk H
         clear H
         try go_wp2
         have n0_ := Aside0.mk (below_drew1 HB.out)
         clear HB
         have HB := n0_
         clear n0_
         have p121 : 0 ≤ (x3_1 : Int) := of_decide_eq_true ‹_›
         have q121 : x3_1 < (l0.length : Int) := of_decide_eq_true ‹_›
         obtain ⟨ad121, e121, hx121_0, hx121_1, hx121_2⟩ := at_T78 HR0.out x3_1 p121 q121
         have hw121_2 := hx121_2
         have hw121_1 := hx121_1
         have hw121_0 := hx121_0
         cases e121
         replace hx121_0 := (HB.out.cell (World.block_lt_of_cell? w _ hx121_0)).trans hx121_0
         replace hx121_1 := (HB.out.cell (World.block_lt_of_cell? w _ hx121_1)).trans hx121_1
         replace hx121_2 := (HB.out.cell (World.block_lt_of_cell? w _ hx121_2)).trans hx121_2
         replace p121 := eq_true p121
         replace q121 := eq_true q121
         have p123 : 0 ≤ (x3_1 : Int) := of_decide_eq_true ‹_›
         have q123 : x3_1 < (l0.length : Int) := of_decide_eq_true ‹_›
         obtain ⟨ad123, e123, hx123_0, hx123_1, hx123_2⟩ := at_T78 HR0.out x3_1 p123 q123
         have hw123_2 := hx123_2
         have hw123_1 := hx123_1
         have hw123_0 := hx123_0
         obtain rfl : ad121 = ad123 := (by injection e123)
         replace hx123_0 := (HB.out.cell (World.block_lt_of_cell? w _ hx123_0)).trans hx123_0
         replace hx123_1 := (HB.out.cell (World.block_lt_of_cell? w _ hx123_1)).trans hx123_1
         replace hx123_2 := (HB.out.cell (World.block_lt_of_cell? w _ hx123_2)).trans hx123_2
         replace p123 := eq_true p123
         replace q123 := eq_true q123
         have p125 : 0 ≤ (x3_1 : Int) := of_decide_eq_true ‹_›
         have q125 : x3_1 < (l0.length : Int) := of_decide_eq_true ‹_›
         obtain ⟨ad125, e125, hx125_0, hx125_1, hx125_2⟩ := at_T78 HR0.out x3_1 p125 q125
         have hw125_2 := hx125_2
         have hw125_1 := hx125_1
         have hw125_0 := hx125_0
         obtain rfl : ad121 = ad125 := (by injection e125)
         replace hx125_0 := (HB.out.cell (World.block_lt_of_cell? w _ hx125_0)).trans hx125_0
         replace hx125_1 := (HB.out.cell (World.block_lt_of_cell? w _ hx125_1)).trans hx125_1
         replace hx125_2 := (HB.out.cell (World.block_lt_of_cell? w _ hx125_2)).trans hx125_2
         replace p125 := eq_true p125
         replace q125 := eq_true q125
         refine start_ (n := 43) (S := fun w' => w'.cell? (ad121.add ((x3_1).toNat * 3)) = some (.int .i64 ((rd_T78 l0 x3_1).f0)) ∧ w'.cell? ⟨(ad121.add ((x3_1).toNat * 3)).block, (ad121.add ((x3_1).toNat * 3)).off + 1, none⟩ = some (.int .i64 ((rd_T78 l0 x3_1).f1)) ∧ w'.cell? ⟨(ad121.add ((x3_1).toNat * 3)).block, (ad121.add ((x3_1).toNat * 3)).off + 2, none⟩ = some (.int .i64 ((rd_T78 l0 x3_1).f2)) ∧ w'.cell? (ad121.add ((x3_1).toNat * 3)) = some (.int .i64 ((rd_T78 l0 x3_1).f0)) ∧ w'.cell? ⟨(ad121.add ((x3_1).toNat * 3)).block, (ad121.add ((x3_1).toNat * 3)).off + 1, none⟩ = some (.int .i64 ((rd_T78 l0 x3_1).f1)) ∧ w'.cell? ⟨(ad121.add ((x3_1).toNat * 3)).block, (ad121.add ((x3_1).toNat * 3)).off + 2, none⟩ = some (.int .i64 ((rd_T78 l0 x3_1).f2)) ∧ w'.cell? (ad121.add ((x3_1).toNat * 3)) = some (.int .i64 ((rd_T78 l0 x3_1).f0)) ∧ w'.cell? ⟨(ad121.add ((x3_1).toNat * 3)).block, (ad121.add ((x3_1).toNat * 3)).off + 1, none⟩ = some (.int .i64 ((rd_T78 l0 x3_1).f1)) ∧ w'.cell? ⟨(ad121.add ((x3_1).toNat * 3)).block, (ad121.add ((x3_1).toNat * 3)).off + 2, none⟩ = some (.int .i64 ((rd_T78 l0 x3_1).f2))) (ds := []) (bR [0, 43]) (by kernel_rfl) rfl rfl ⟨((HB.out.cell (World.block_lt_of_cell? w _ hw121_0)).trans hw121_0), ((HB.out.cell (World.block_lt_of_cell? w _ hw121_1)).trans hw121_1), ((HB.out.cell (World.block_lt_of_cell? w _ hw121_2)).trans hw121_2), ((HB.out.cell (World.block_lt_of_cell? w _ hw123_0)).trans hw123_0), ((HB.out.cell (World.block_lt_of_cell? w _ hw123_1)).trans hw123_1), ((HB.out.cell (World.block_lt_of_cell? w _ hw123_2)).trans hw123_2), ((HB.out.cell (World.block_lt_of_cell? w _ hw125_0)).trans hw125_0), ((HB.out.cell (World.block_lt_of_cell? w _ hw125_1)).trans hw125_1), ((HB.out.cell (World.block_lt_of_cell? w _ hw125_2)).trans hw125_2)⟩ (fun hHeld => ?_); refine with_tabW spec_AreSlots.tab4 spec_AreSlots.bits4 (fun HT_ HW_ => ?_)
         generalize wr.drew = w17 at HB hx121_0 hx121_1 hx121_2 hx123_0 hx123_1 hx123_2 hx125_0 hx125_1 hx125_2 hHeld ⊢
         refine pP 0 11 (bR [1, 42]) rfl rfl HT_ ?_
         refine pP 1 12 (bR [2, 41]) rfl rfl HT_ ?_
         refine pP 2 13 (bR [3, 40]) rfl rfl HT_ ?_
         refine pP 3 14 (bR [4, 39]) rfl rfl HT_ ?_
         refine take_ (i := 4) (N := some 15) (v := ?_) (a' := ?_) (bR [5, 38]) rfl rfl (take_ofW HT_.out HW_.out (by kernel_rfl)) (fun _ _ _ h => h) (Or.inl ⟨by rfl, ?_⟩) hHeld ?_ ?_
         rotate_left; (rintro w' ⟨s0, s1, s2, s3, s4, s5, s6, s7, s8⟩; go_simp; with_reducible rfl); rotate_left; (simp only [Act.put, sA, sZ, sS, i64_w]; rfl)
         refine one_ (i := 5) (N := some 16) (bR [6, 37]) rfl rfl (one_of HT_.out (by kernel_rfl)) (by decide) (fun K hK => ?_)
         refine goes_ Try.func176 (by kernel_rfl) rfl #[.int .i64 ((rd_T78 l0 x3_1).f0), .int .i64 1, .int .i64 99] (by rfl) rfl rfl (by (try simp only [mA, mC, mN]); first | done | rfl | (simp only [lD, lT]; rfl)) ?_
         with_reducible refine (spec_l1In.calls ((rd_T78 l0 x3_1).f0) 1 99 true _ A5.out).mono ?_
         rintro e w' ⟨rfl, ⟨nd, rfl⟩⟩
         refine ⟨_, rfl, ?_⟩
         refine hK.out _ _ ⟨((HB.out.cell (World.block_lt_of_cell? w _ hw121_0)).trans hw121_0), ((HB.out.cell (World.block_lt_of_cell? w _ hw121_1)).trans hw121_1), ((HB.out.cell (World.block_lt_of_cell? w _ hw121_2)).trans hw121_2), ((HB.out.cell (World.block_lt_of_cell? w _ hw123_0)).trans hw123_0), ((HB.out.cell (World.block_lt_of_cell? w _ hw123_1)).trans hw123_1), ((HB.out.cell (World.block_lt_of_cell? w _ hw123_2)).trans hw123_2), ((HB.out.cell (World.block_lt_of_cell? w _ hw125_0)).trans hw125_0), ((HB.out.cell (World.block_lt_of_cell? w _ hw125_1)).trans hw125_1), ((HB.out.cell (World.block_lt_of_cell? w _ hw125_2)).trans hw125_2)⟩ (fun hHeld => ?_)
         clear hK K
         refine norm_ (a' := ?_) ?_ ?_
         rotate_left
         ·show Act.put _ (some 16) _ = _
          simp only [Act.put, sA, sZ, sS, i64_w]
          rfl
         refine pP 6 17 (bR [7, 36]) rfl rfl HT_ ?_
         refine pP 7 18 (bR [8, 35]) rfl rfl HT_ ?_
         refine pP 8 19 (bR [9, 34]) rfl rfl HT_ ?_
         refine pP 9 20 (bR [10, 33]) rfl rfl HT_ ?_
         refine pP 10 21 (bR [11, 32]) rfl rfl HT_ ?_
         refine pP 11 22 (bR [12, 31]) rfl rfl HT_ ?_
         refine take_ (i := 12) (N := some 23) (v := ?_) (a' := ?_) (bR [13, 30]) rfl rfl (take_ofW HT_.out HW_.out (by kernel_rfl)) (fun _ _ _ h => h) (Or.inl ⟨by rfl, ?_⟩) hHeld ?_ ?_
         rotate_left; (rintro w' ⟨s0, s1, s2, s3, s4, s5, s6, s7, s8⟩; go_simp; with_reducible rfl); rotate_left; (simp only [Act.put, sA, sZ, sS, i64_w]; rfl)
         refine one_ (i := 13) (N := some 24) (bR [14, 29]) rfl rfl (one_of HT_.out (by kernel_rfl)) (by decide) (fun K hK => ?_)
         refine goes_ Try.func176 (by kernel_rfl) rfl #[.int .i64 ((rd_T78 l0 x3_1).f1), .int .i64 1, .int .i64 50] (by rfl) rfl rfl (by (try simp only [mA, mC, mN]); first | done | rfl | (simp only [lD, lT]; rfl)) ?_
         with_reducible refine (spec_l1In.calls ((rd_T78 l0 x3_1).f1) 1 50 true _ A7.out).mono ?_
         rintro e w' ⟨rfl, ⟨nd, rfl⟩⟩
         refine ⟨_, rfl, ?_⟩
         refine hK.out _ _ ⟨((HB.out.cell (World.block_lt_of_cell? w _ hw121_0)).trans hw121_0), ((HB.out.cell (World.block_lt_of_cell? w _ hw121_1)).trans hw121_1), ((HB.out.cell (World.block_lt_of_cell? w _ hw121_2)).trans hw121_2), ((HB.out.cell (World.block_lt_of_cell? w _ hw123_0)).trans hw123_0), ((HB.out.cell (World.block_lt_of_cell? w _ hw123_1)).trans hw123_1), ((HB.out.cell (World.block_lt_of_cell? w _ hw123_2)).trans hw123_2), ((HB.out.cell (World.block_lt_of_cell? w _ hw125_0)).trans hw125_0), ((HB.out.cell (World.block_lt_of_cell? w _ hw125_1)).trans hw125_1), ((HB.out.cell (World.block_lt_of_cell? w _ hw125_2)).trans hw125_2)⟩ (fun hHeld => ?_)
         clear hK K
         refine norm_ (a' := ?_) ?_ ?_
         rotate_left
         ·show Act.put _ (some 24) _ = _
          simp only [Act.put, sA, sZ, sS, i64_w]
          rfl
         refine pP 14 25 (bR [15, 28]) rfl rfl HT_ ?_
         refine pP 15 26 (bR [16, 27]) rfl rfl HT_ ?_
         refine pP 16 27 (bR [17, 26]) rfl rfl HT_ ?_
         refine pP 17 28 (bR [18, 25]) rfl rfl HT_ ?_
         refine pP 18 29 (bR [19, 24]) rfl rfl HT_ ?_
         refine pP 19 30 (bR [20, 23]) rfl rfl HT_ ?_
         refine pP 20 31 (bR [21, 22]) rfl rfl HT_ ?_
         refine take_ (i := 21) (N := some 32) (v := ?_) (a' := ?_) (bR [22, 21]) rfl rfl (take_ofW HT_.out HW_.out (by kernel_rfl)) (fun _ _ _ h => h) (Or.inl ⟨by rfl, ?_⟩) hHeld ?_ ?_
         rotate_left; (rintro w' ⟨s0, s1, s2, s3, s4, s5, s6, s7, s8⟩; go_simp; with_reducible rfl); rotate_left; (simp only [Act.put, sA, sZ, sS, i64_w]; rfl)
         refine one_ (i := 22) (N := some 33) (bR [23, 20]) rfl rfl (one_of HT_.out (by kernel_rfl)) (by decide) (fun K hK => ?_)
         refine goes_ Try.func176 (by kernel_rfl) rfl #[.int .i64 ((rd_T78 l0 x3_1).f2), .int .i64 0, .int .i64 999] (by rfl) rfl rfl (by (try simp only [mA, mC, mN]); first | done | rfl | (simp only [lD, lT]; rfl)) ?_
         with_reducible refine (spec_l1In.calls ((rd_T78 l0 x3_1).f2) 0 999 false _ A9.out).mono ?_
         rintro e w' ⟨rfl, ⟨nd, rfl⟩⟩
         refine ⟨_, rfl, ?_⟩
         refine hK.out _ _ ⟨((HB.out.cell (World.block_lt_of_cell? w _ hw121_0)).trans hw121_0), ((HB.out.cell (World.block_lt_of_cell? w _ hw121_1)).trans hw121_1), ((HB.out.cell (World.block_lt_of_cell? w _ hw121_2)).trans hw121_2), ((HB.out.cell (World.block_lt_of_cell? w _ hw123_0)).trans hw123_0), ((HB.out.cell (World.block_lt_of_cell? w _ hw123_1)).trans hw123_1), ((HB.out.cell (World.block_lt_of_cell? w _ hw123_2)).trans hw123_2), ((HB.out.cell (World.block_lt_of_cell? w _ hw125_0)).trans hw125_0), ((HB.out.cell (World.block_lt_of_cell? w _ hw125_1)).trans hw125_1), ((HB.out.cell (World.block_lt_of_cell? w _ hw125_2)).trans hw125_2)⟩ (fun hHeld => ?_)
         clear hK K
         refine norm_ (a' := ?_) ?_ ?_
         rotate_left
         ·show Act.put _ (some 33) _ = _
          simp only [Act.put, sA, sZ, sS, i64_w]
          rfl
         refine pP 23 34 (bR [24, 19]) rfl rfl HT_ ?_
         refine pP 24 35 (bR [25, 18]) rfl rfl HT_ ?_
         refine pP 25 36 (bR [26, 17]) rfl rfl HT_ ?_
         refine pU 26 37 (bR [27, 16]) rfl rfl HT_ ?_
         refine pU 27 38 (bR [28, 15]) rfl rfl HT_ ?_
         refine pU 28 39 (bR [29, 14]) rfl rfl HT_ ?_
         refine pU 29 40 (bR [30, 13]) rfl rfl HT_ ?_
         refine pU 30 41 (bR [31, 12]) rfl rfl HT_ ?_
         refine pU 31 42 (bR [32, 11]) rfl rfl HT_ ?_
         refine pU 32 43 (bR [33, 10]) rfl rfl HT_ ?_
         refine pU 33 44 (bR [34, 9]) rfl rfl HT_ ?_
         refine pU 34 45 (bR [35, 8]) rfl rfl HT_ ?_
         refine pU 35 46 (bR [36, 7]) rfl rfl HT_ ?_
         refine pU 36 47 (bR [37, 6]) rfl rfl HT_ ?_
         refine pU 37 48 (bR [38, 5]) rfl rfl HT_ ?_
         refine pU 38 49 (bR [39, 4]) rfl rfl HT_ ?_
         refine pU 39 50 (bR [40, 3]) rfl rfl HT_ ?_
         refine pU 40 51 (bR [41, 2]) rfl rfl HT_ ?_
         refine pU 41 52 (bR [42, 1]) rfl rfl HT_ ?_
         refine pP 42 53 (bR [43]) rfl rfl HT_ ?_
         refine done_ (done_of HT_.out (by kernel_rfl)) ?_
         try go_wp2
         go_meet
         case rel => exact ⟨_, (true), (by first | rfl | (simp; done) | (simp [*]; done)), H', ⟨by have := HK1.out; first | omega | exact Nat.le_refl _⟩, ⟨by repeat (first | (with_reducible first | exact HB.out | apply bA | apply bN | apply bD) | exact HB.out)⟩⟩
       ·replace c8 := Bool.eq_false_iff.mpr c8
        subst c8
        have H1 : (spec_AreSlots.j1 k1 l0 x3_1 true) = some r := by rw [if_neg (show ¬ (false = true) by decide)] at H; exact H
        clear H
        have H := H1
        clear H1
        have H' := Aside0.mk H
        clear H
        try go_wp2
        have n0_ := Aside0.mk (below_drew1 HB.out)
        clear HB
        have HB := n0_
        clear n0_
        have p121 : 0 ≤ (x3_1 : Int) := of_decide_eq_true ‹_›
        have q121 : x3_1 < (l0.length : Int) := of_decide_eq_true ‹_›
        obtain ⟨ad121, e121, hx121_0, hx121_1, hx121_2⟩ := at_T78 HR0.out x3_1 p121 q121
        have hw121_2 := hx121_2
        have hw121_1 := hx121_1
        have hw121_0 := hx121_0
        cases e121
        replace hx121_0 := (HB.out.cell (World.block_lt_of_cell? w _ hx121_0)).trans hx121_0
        replace hx121_1 := (HB.out.cell (World.block_lt_of_cell? w _ hx121_1)).trans hx121_1
        replace hx121_2 := (HB.out.cell (World.block_lt_of_cell? w _ hx121_2)).trans hx121_2
        replace p121 := eq_true p121
        replace q121 := eq_true q121
        have p123 : 0 ≤ (x3_1 : Int) := of_decide_eq_true ‹_›
        have q123 : x3_1 < (l0.length : Int) := of_decide_eq_true ‹_›
        obtain ⟨ad123, e123, hx123_0, hx123_1, hx123_2⟩ := at_T78 HR0.out x3_1 p123 q123
        have hw123_2 := hx123_2
        have hw123_1 := hx123_1
        have hw123_0 := hx123_0
        obtain rfl : ad121 = ad123 := (by injection e123)
        replace hx123_0 := (HB.out.cell (World.block_lt_of_cell? w _ hx123_0)).trans hx123_0
        replace hx123_1 := (HB.out.cell (World.block_lt_of_cell? w _ hx123_1)).trans hx123_1
        replace hx123_2 := (HB.out.cell (World.block_lt_of_cell? w _ hx123_2)).trans hx123_2
        replace p123 := eq_true p123
        replace q123 := eq_true q123
        refine start_ (n := 43) (S := fun w' => w'.cell? (ad121.add ((x3_1).toNat * 3)) = some (.int .i64 ((rd_T78 l0 x3_1).f0)) ∧ w'.cell? ⟨(ad121.add ((x3_1).toNat * 3)).block, (ad121.add ((x3_1).toNat * 3)).off + 1, none⟩ = some (.int .i64 ((rd_T78 l0 x3_1).f1)) ∧ w'.cell? ⟨(ad121.add ((x3_1).toNat * 3)).block, (ad121.add ((x3_1).toNat * 3)).off + 2, none⟩ = some (.int .i64 ((rd_T78 l0 x3_1).f2)) ∧ w'.cell? (ad121.add ((x3_1).toNat * 3)) = some (.int .i64 ((rd_T78 l0 x3_1).f0)) ∧ w'.cell? ⟨(ad121.add ((x3_1).toNat * 3)).block, (ad121.add ((x3_1).toNat * 3)).off + 1, none⟩ = some (.int .i64 ((rd_T78 l0 x3_1).f1)) ∧ w'.cell? ⟨(ad121.add ((x3_1).toNat * 3)).block, (ad121.add ((x3_1).toNat * 3)).off + 2, none⟩ = some (.int .i64 ((rd_T78 l0 x3_1).f2))) (ds := []) (bR [0, 43]) (by kernel_rfl) rfl rfl ⟨((HB.out.cell (World.block_lt_of_cell? w _ hw121_0)).trans hw121_0), ((HB.out.cell (World.block_lt_of_cell? w _ hw121_1)).trans hw121_1), ((HB.out.cell (World.block_lt_of_cell? w _ hw121_2)).trans hw121_2), ((HB.out.cell (World.block_lt_of_cell? w _ hw123_0)).trans hw123_0), ((HB.out.cell (World.block_lt_of_cell? w _ hw123_1)).trans hw123_1), ((HB.out.cell (World.block_lt_of_cell? w _ hw123_2)).trans hw123_2)⟩ (fun hHeld => ?_); refine with_tabW spec_AreSlots.tab4 spec_AreSlots.bits4 (fun HT_ HW_ => ?_)
        generalize wr.drew = w18 at HB hx121_0 hx121_1 hx121_2 hx123_0 hx123_1 hx123_2 hHeld ⊢
        refine pP 0 11 (bR [1, 42]) rfl rfl HT_ ?_
        refine pP 1 12 (bR [2, 41]) rfl rfl HT_ ?_
        refine pP 2 13 (bR [3, 40]) rfl rfl HT_ ?_
        refine pP 3 14 (bR [4, 39]) rfl rfl HT_ ?_
        refine take_ (i := 4) (N := some 15) (v := ?_) (a' := ?_) (bR [5, 38]) rfl rfl (take_ofW HT_.out HW_.out (by kernel_rfl)) (fun _ _ _ h => h) (Or.inl ⟨by rfl, ?_⟩) hHeld ?_ ?_
        rotate_left; (rintro w' ⟨s0, s1, s2, s3, s4, s5⟩; go_simp; with_reducible rfl); rotate_left; (simp only [Act.put, sA, sZ, sS, i64_w]; rfl)
        refine one_ (i := 5) (N := some 16) (bR [6, 37]) rfl rfl (one_of HT_.out (by kernel_rfl)) (by decide) (fun K hK => ?_)
        refine goes_ Try.func176 (by kernel_rfl) rfl #[.int .i64 ((rd_T78 l0 x3_1).f0), .int .i64 1, .int .i64 99] (by rfl) rfl rfl (by (try simp only [mA, mC, mN]); first | done | rfl | (simp only [lD, lT]; rfl)) ?_
        with_reducible refine (spec_l1In.calls ((rd_T78 l0 x3_1).f0) 1 99 true _ A5.out).mono ?_
        rintro e w' ⟨rfl, ⟨nd, rfl⟩⟩
        refine ⟨_, rfl, ?_⟩
        refine hK.out _ _ ⟨((HB.out.cell (World.block_lt_of_cell? w _ hw121_0)).trans hw121_0), ((HB.out.cell (World.block_lt_of_cell? w _ hw121_1)).trans hw121_1), ((HB.out.cell (World.block_lt_of_cell? w _ hw121_2)).trans hw121_2), ((HB.out.cell (World.block_lt_of_cell? w _ hw123_0)).trans hw123_0), ((HB.out.cell (World.block_lt_of_cell? w _ hw123_1)).trans hw123_1), ((HB.out.cell (World.block_lt_of_cell? w _ hw123_2)).trans hw123_2)⟩ (fun hHeld => ?_)
        clear hK K
        refine norm_ (a' := ?_) ?_ ?_
        rotate_left
        ·show Act.put _ (some 16) _ = _
         simp only [Act.put, sA, sZ, sS, i64_w]
         rfl
        refine pP 6 17 (bR [7, 36]) rfl rfl HT_ ?_
        refine pP 7 18 (bR [8, 35]) rfl rfl HT_ ?_
        refine pP 8 19 (bR [9, 34]) rfl rfl HT_ ?_
        refine pP 9 20 (bR [10, 33]) rfl rfl HT_ ?_
        refine pP 10 21 (bR [11, 32]) rfl rfl HT_ ?_
        refine pP 11 22 (bR [12, 31]) rfl rfl HT_ ?_
        refine take_ (i := 12) (N := some 23) (v := ?_) (a' := ?_) (bR [13, 30]) rfl rfl (take_ofW HT_.out HW_.out (by kernel_rfl)) (fun _ _ _ h => h) (Or.inl ⟨by rfl, ?_⟩) hHeld ?_ ?_
        rotate_left; (rintro w' ⟨s0, s1, s2, s3, s4, s5⟩; go_simp; with_reducible rfl); rotate_left; (simp only [Act.put, sA, sZ, sS, i64_w]; rfl)
        refine one_ (i := 13) (N := some 24) (bR [14, 29]) rfl rfl (one_of HT_.out (by kernel_rfl)) (by decide) (fun K hK => ?_)
        refine goes_ Try.func176 (by kernel_rfl) rfl #[.int .i64 ((rd_T78 l0 x3_1).f1), .int .i64 1, .int .i64 50] (by rfl) rfl rfl (by (try simp only [mA, mC, mN]); first | done | rfl | (simp only [lD, lT]; rfl)) ?_
        with_reducible refine (spec_l1In.calls ((rd_T78 l0 x3_1).f1) 1 50 false _ A7.out).mono ?_
        rintro e w' ⟨rfl, ⟨nd, rfl⟩⟩
        refine ⟨_, rfl, ?_⟩
        refine hK.out _ _ ⟨((HB.out.cell (World.block_lt_of_cell? w _ hw121_0)).trans hw121_0), ((HB.out.cell (World.block_lt_of_cell? w _ hw121_1)).trans hw121_1), ((HB.out.cell (World.block_lt_of_cell? w _ hw121_2)).trans hw121_2), ((HB.out.cell (World.block_lt_of_cell? w _ hw123_0)).trans hw123_0), ((HB.out.cell (World.block_lt_of_cell? w _ hw123_1)).trans hw123_1), ((HB.out.cell (World.block_lt_of_cell? w _ hw123_2)).trans hw123_2)⟩ (fun hHeld => ?_)
        clear hK K
        refine norm_ (a' := ?_) ?_ ?_
        rotate_left
        ·show Act.put _ (some 24) _ = _
         simp only [Act.put, sA, sZ, sS, i64_w]
         rfl
        refine pP 14 25 (bR [15, 28]) rfl rfl HT_ ?_
        refine pP 15 26 (bR [16, 27]) rfl rfl HT_ ?_
        refine pP 16 27 (bR [17, 26]) rfl rfl HT_ ?_
        refine pU 17 28 (bR [18, 25]) rfl rfl HT_ ?_
        refine pU 18 29 (bR [19, 24]) rfl rfl HT_ ?_
        refine pU 19 30 (bR [20, 23]) rfl rfl HT_ ?_
        refine pU 20 31 (bR [21, 22]) rfl rfl HT_ ?_
        refine pU 21 32 (bR [22, 21]) rfl rfl HT_ ?_
        refine pU 22 33 (bR [23, 20]) rfl rfl HT_ ?_
        refine pU 23 34 (bR [24, 19]) rfl rfl HT_ ?_
        refine pP 24 35 (bR [25, 18]) rfl rfl HT_ ?_
        refine pP 25 36 (bR [26, 17]) rfl rfl HT_ ?_
        refine pU 26 37 (bR [27, 16]) rfl rfl HT_ ?_
        refine pU 27 38 (bR [28, 15]) rfl rfl HT_ ?_
        refine pU 28 39 (bR [29, 14]) rfl rfl HT_ ?_
        refine pU 29 40 (bR [30, 13]) rfl rfl HT_ ?_
        refine pU 30 41 (bR [31, 12]) rfl rfl HT_ ?_
        refine pU 31 42 (bR [32, 11]) rfl rfl HT_ ?_
        refine pU 32 43 (bR [33, 10]) rfl rfl HT_ ?_
        refine pU 33 44 (bR [34, 9]) rfl rfl HT_ ?_
        refine pU 34 45 (bR [35, 8]) rfl rfl HT_ ?_
        refine pU 35 46 (bR [36, 7]) rfl rfl HT_ ?_
        refine pU 36 47 (bR [37, 6]) rfl rfl HT_ ?_
        refine pU 37 48 (bR [38, 5]) rfl rfl HT_ ?_
        refine pU 38 49 (bR [39, 4]) rfl rfl HT_ ?_
        refine pU 39 50 (bR [40, 3]) rfl rfl HT_ ?_
        refine pU 40 51 (bR [41, 2]) rfl rfl HT_ ?_
        refine pU 41 52 (bR [42, 1]) rfl rfl HT_ ?_
        refine pP 42 53 (bR [43]) rfl rfl HT_ ?_
        refine done_ (done_of HT_.out (by kernel_rfl)) ?_
        try go_wp2
        go_meet
        case rel => exact ⟨_, (true), (by first | rfl | (simp; done) | (simp [*]; done)), H', ⟨by have := HK1.out; first | omega | exact Nat.le_refl _⟩, ⟨by repeat (first | (with_reducible first | exact HB.out | apply bA | apply bN | apply bD) | exact HB.out)⟩⟩
      ·replace c6 := Bool.eq_false_iff.mpr c6
       subst c6
       have H1 : (spec_AreSlots.j1 k1 l0 x3_1 true) = some r := by rw [if_neg (show ¬ (false = true) by decide)] at H; exact H
       clear H
       have H := H1
       clear H1
       have H' := Aside0.mk H
       clear H
       try go_wp2
       have n0_ := Aside0.mk (below_drew1 HB.out)
       clear HB
       have HB := n0_
       clear n0_
       have p121 : 0 ≤ (x3_1 : Int) := of_decide_eq_true ‹_›
       have q121 : x3_1 < (l0.length : Int) := of_decide_eq_true ‹_›
       obtain ⟨ad121, e121, hx121_0, hx121_1, hx121_2⟩ := at_T78 HR0.out x3_1 p121 q121
       have hw121_2 := hx121_2
       have hw121_1 := hx121_1
       have hw121_0 := hx121_0
       cases e121
       replace hx121_0 := (HB.out.cell (World.block_lt_of_cell? w _ hx121_0)).trans hx121_0
       replace hx121_1 := (HB.out.cell (World.block_lt_of_cell? w _ hx121_1)).trans hx121_1
       replace hx121_2 := (HB.out.cell (World.block_lt_of_cell? w _ hx121_2)).trans hx121_2
       replace p121 := eq_true p121
       replace q121 := eq_true q121
       refine start_ (n := 43) (S := fun w' => w'.cell? (ad121.add ((x3_1).toNat * 3)) = some (.int .i64 ((rd_T78 l0 x3_1).f0)) ∧ w'.cell? ⟨(ad121.add ((x3_1).toNat * 3)).block, (ad121.add ((x3_1).toNat * 3)).off + 1, none⟩ = some (.int .i64 ((rd_T78 l0 x3_1).f1)) ∧ w'.cell? ⟨(ad121.add ((x3_1).toNat * 3)).block, (ad121.add ((x3_1).toNat * 3)).off + 2, none⟩ = some (.int .i64 ((rd_T78 l0 x3_1).f2))) (ds := []) (bR [0, 43]) (by kernel_rfl) rfl rfl ⟨((HB.out.cell (World.block_lt_of_cell? w _ hw121_0)).trans hw121_0), ((HB.out.cell (World.block_lt_of_cell? w _ hw121_1)).trans hw121_1), ((HB.out.cell (World.block_lt_of_cell? w _ hw121_2)).trans hw121_2)⟩ (fun hHeld => ?_); refine with_tabW spec_AreSlots.tab4 spec_AreSlots.bits4 (fun HT_ HW_ => ?_)
       generalize wr.drew = w19 at HB hx121_0 hx121_1 hx121_2 hHeld ⊢
       refine pP 0 11 (bR [1, 42]) rfl rfl HT_ ?_
       refine pP 1 12 (bR [2, 41]) rfl rfl HT_ ?_
       refine pP 2 13 (bR [3, 40]) rfl rfl HT_ ?_
       refine pP 3 14 (bR [4, 39]) rfl rfl HT_ ?_
       refine take_ (i := 4) (N := some 15) (v := ?_) (a' := ?_) (bR [5, 38]) rfl rfl (take_ofW HT_.out HW_.out (by kernel_rfl)) (fun _ _ _ h => h) (Or.inl ⟨by rfl, ?_⟩) hHeld ?_ ?_
       rotate_left; (rintro w' ⟨s0, s1, s2⟩; go_simp; with_reducible rfl); rotate_left; (simp only [Act.put, sA, sZ, sS, i64_w]; rfl)
       refine one_ (i := 5) (N := some 16) (bR [6, 37]) rfl rfl (one_of HT_.out (by kernel_rfl)) (by decide) (fun K hK => ?_)
       refine goes_ Try.func176 (by kernel_rfl) rfl #[.int .i64 ((rd_T78 l0 x3_1).f0), .int .i64 1, .int .i64 99] (by rfl) rfl rfl (by (try simp only [mA, mC, mN]); first | done | rfl | (simp only [lD, lT]; rfl)) ?_
       with_reducible refine (spec_l1In.calls ((rd_T78 l0 x3_1).f0) 1 99 false _ A5.out).mono ?_
       rintro e w' ⟨rfl, ⟨nd, rfl⟩⟩
       refine ⟨_, rfl, ?_⟩
       refine hK.out _ _ ⟨((HB.out.cell (World.block_lt_of_cell? w _ hw121_0)).trans hw121_0), ((HB.out.cell (World.block_lt_of_cell? w _ hw121_1)).trans hw121_1), ((HB.out.cell (World.block_lt_of_cell? w _ hw121_2)).trans hw121_2)⟩ (fun hHeld => ?_)
       clear hK K
       refine norm_ (a' := ?_) ?_ ?_
       rotate_left
       ·show Act.put _ (some 16) _ = _
        simp only [Act.put, sA, sZ, sS, i64_w]
        rfl
       refine pP 6 17 (bR [7, 36]) rfl rfl HT_ ?_
       refine pP 7 18 (bR [8, 35]) rfl rfl HT_ ?_
       refine pU 8 19 (bR [9, 34]) rfl rfl HT_ ?_
       refine pU 9 20 (bR [10, 33]) rfl rfl HT_ ?_
       refine pU 10 21 (bR [11, 32]) rfl rfl HT_ ?_
       refine pU 11 22 (bR [12, 31]) rfl rfl HT_ ?_
       refine pU 12 23 (bR [13, 30]) rfl rfl HT_ ?_
       refine pU 13 24 (bR [14, 29]) rfl rfl HT_ ?_
       refine pU 14 25 (bR [15, 28]) rfl rfl HT_ ?_
       refine pP 15 26 (bR [16, 27]) rfl rfl HT_ ?_
       refine pP 16 27 (bR [17, 26]) rfl rfl HT_ ?_
       refine pU 17 28 (bR [18, 25]) rfl rfl HT_ ?_
       refine pU 18 29 (bR [19, 24]) rfl rfl HT_ ?_
       refine pU 19 30 (bR [20, 23]) rfl rfl HT_ ?_
       refine pU 20 31 (bR [21, 22]) rfl rfl HT_ ?_
       refine pU 21 32 (bR [22, 21]) rfl rfl HT_ ?_
       refine pU 22 33 (bR [23, 20]) rfl rfl HT_ ?_
       refine pU 23 34 (bR [24, 19]) rfl rfl HT_ ?_
       refine pP 24 35 (bR [25, 18]) rfl rfl HT_ ?_
       refine pP 25 36 (bR [26, 17]) rfl rfl HT_ ?_
       refine pU 26 37 (bR [27, 16]) rfl rfl HT_ ?_
       refine pU 27 38 (bR [28, 15]) rfl rfl HT_ ?_
       refine pU 28 39 (bR [29, 14]) rfl rfl HT_ ?_
       refine pU 29 40 (bR [30, 13]) rfl rfl HT_ ?_
       refine pU 30 41 (bR [31, 12]) rfl rfl HT_ ?_
       refine pU 31 42 (bR [32, 11]) rfl rfl HT_ ?_
       refine pU 32 43 (bR [33, 10]) rfl rfl HT_ ?_
       refine pU 33 44 (bR [34, 9]) rfl rfl HT_ ?_
       refine pU 34 45 (bR [35, 8]) rfl rfl HT_ ?_
       refine pU 35 46 (bR [36, 7]) rfl rfl HT_ ?_
       refine pU 36 47 (bR [37, 6]) rfl rfl HT_ ?_
       refine pU 37 48 (bR [38, 5]) rfl rfl HT_ ?_
       refine pU 38 49 (bR [39, 4]) rfl rfl HT_ ?_
       refine pU 39 50 (bR [40, 3]) rfl rfl HT_ ?_
       refine pU 40 51 (bR [41, 2]) rfl rfl HT_ ?_
       refine pU 41 52 (bR [42, 1]) rfl rfl HT_ ?_
       refine pP 42 53 (bR [43]) rfl rfl HT_ ?_
       refine done_ (done_of HT_.out (by kernel_rfl)) ?_
       try go_wp2
       go_meet
       case rel => exact ⟨_, (true), (by first | rfl | (simp; done) | (simp [*]; done)), H', ⟨by have := HK1.out; first | omega | exact Nat.le_refl _⟩, ⟨by repeat (first | (with_reducible first | exact HB.out | apply bA | apply bN | apply bD) | exact HB.out)⟩⟩
     ·rw [if_neg c4] at H
      exact absurd H (by simp)
    case rest =>
     clear HC3
     try clear c1
     try clear p1
     try clear q1
     try clear hx1
     try clear p2
     try clear c4
     try clear c6
     try clear c8
     try clear p12
     try clear q12
     try clear hx12
     try clear c17
     try clear hx121_0
     try clear hx121_1
     try clear hx121_2
     try clear hx123_0
     try clear hx123_1
     try clear hx123_2
     try clear p121
     try clear p123
     try clear q121
     try clear q123
     obtain ⟨kq, x53_2, rfl, HA, HJ2, HB⟩ := hcut
     cases kq with
     | zero => exact absurd HA.out (by simp [spec_AreSlots.j1])
     | succ kj2 =>
      have H := HA.out
      clear HA
      simp only [spec_AreSlots.j1] at H
      by_cases c20 : x53_2 = true
      ·subst c20
       have H1 : (some false) = some r := by rw [if_pos rfl] at H; exact H
       clear H
       have H := H1
       clear H1
       obtain rfl := Option.some.inj H
       go_wp2
       go_ret
       exact ⟨by first | rfl | (simp [errW_none, errW_some] <;> rfl) | (simp [*, errW_none, errW_some] <;> rfl), by repeat (first | (with_reducible first | exact HB.out | apply bA | apply bN | apply bD) | exact HB.out)⟩
      ·replace c20 := Bool.eq_false_iff.mpr c20
       subst c20
       have H1 : (spec_AreSlots.l1 kj2 l0 x3_1 0) = some r := by rw [if_neg (show ¬ (false = true) by decide)] at H; exact H
       clear H
       have H := H1
       clear H1
       have H' := Aside0.mk H
       clear H
       go_wp2
       go_loopg [4] kj2 (fun kq v4 w' => ∃ (x4_3 : Int), v4 = .int .i64 x4_3 ∧ Aside0 (spec_AreSlots.l1 kq l0 x3_1 x4_3 = some r) ∧ Aside0 (kq ≤ kj2) ∧ Aside0 (Below w.heap.size w w'))
       case atStart => exact ⟨(0), (by first | rfl | (simp; done) | (simp [*]; done)), H', ⟨Nat.le_refl _⟩, ⟨by repeat (first | (with_reducible first | exact HB.out | apply bA | apply bN | apply bD) | exact HB.out)⟩⟩
       case round =>
        clear H'
        try clear c1
        try clear p1
        try clear q1
        try clear hx1
        try clear c2
        try clear p2
        try clear c4
        try clear c6
        try clear c8
        try clear p12
        try clear q12
        try clear hx12
        try clear c17
        try clear c20
        try clear hx121_0
        try clear hx121_1
        try clear hx121_2
        try clear hx123_0
        try clear hx123_1
        try clear hx123_2
        try clear p1
        try clear p12
        try clear p121
        try clear p123
        try clear p2
        try clear q1
        try clear q12
        try clear q121
        try clear q123
        obtain ⟨x4_3, rfl, HA, HK3, HB⟩ := hrel
        cases gk with
        | zero => exact absurd HA.out (by simp [spec_AreSlots.l1])
        | succ k3 =>
         have H := HA.out
         clear HA
         simp only [spec_AreSlots.l1] at H
         by_cases c21 : x4_3 < x3_1
         ·rw [if_pos c21] at H
          have c21b0 : decide (x4_3 < x3_1) = true := decide_eq_true c21
          clear c21
          by_cases c22 : 0 ≤ x3_1
          ·rw [if_pos c22] at H
           have c22b0 : decide (0 ≤ x3_1) = true := decide_eq_true c22
           clear c22
           by_cases c23 : x3_1 < (l0.length : Int)
           ·rw [if_pos c23] at H
            have c23b0 : decide (x3_1 < (l0.length : Int)) = true := decide_eq_true c23
            clear c23
            by_cases c24 : ((rd_T78 l0 x3_1).f2) = 0
            ·rw [if_pos c24] at H
             have c24b0 : (((rd_T78 l0 x3_1).f2) == 0) = true := beq_iff_eq.mpr c24
             have c24b1 : (((rd_T78 l0 x3_1).f2) != 0) = false := bne_eq_false_iff_eq.mpr c24
             clear c24
             have H' := Aside0.mk H
             clear H
             try go_wp2
             have n0_ := Aside0.mk (below_drew1 HB.out)
             clear HB
             have HB := n0_
             clear n0_
             have p129 : 0 ≤ (x3_1 : Int) := of_decide_eq_true ‹_›
             have q129 : x3_1 < (l0.length : Int) := of_decide_eq_true ‹_›
             obtain ⟨ad129, e129, hx129_0, hx129_1, hx129_2⟩ := at_T78 HR0.out x3_1 p129 q129
             have hw129_2 := hx129_2
             have hw129_1 := hx129_1
             have hw129_0 := hx129_0
             cases e129
             replace hx129_0 := (HB.out.cell (World.block_lt_of_cell? w _ hx129_0)).trans hx129_0
             replace hx129_1 := (HB.out.cell (World.block_lt_of_cell? w _ hx129_1)).trans hx129_1
             replace hx129_2 := (HB.out.cell (World.block_lt_of_cell? w _ hx129_2)).trans hx129_2
             replace p129 := eq_true p129
             replace q129 := eq_true q129
             refine start_ (n := 19) (S := fun w' => w'.cell? (ad129.add ((x3_1).toNat * 3)) = some (.int .i64 ((rd_T78 l0 x3_1).f0)) ∧ w'.cell? ⟨(ad129.add ((x3_1).toNat * 3)).block, (ad129.add ((x3_1).toNat * 3)).off + 1, none⟩ = some (.int .i64 ((rd_T78 l0 x3_1).f1)) ∧ w'.cell? ⟨(ad129.add ((x3_1).toNat * 3)).block, (ad129.add ((x3_1).toNat * 3)).off + 2, none⟩ = some (.int .i64 ((rd_T78 l0 x3_1).f2))) (ds := []) (bR [0, 19]) (by kernel_rfl) rfl rfl ⟨((HB.out.cell (World.block_lt_of_cell? w _ hw129_0)).trans hw129_0), ((HB.out.cell (World.block_lt_of_cell? w _ hw129_1)).trans hw129_1), ((HB.out.cell (World.block_lt_of_cell? w _ hw129_2)).trans hw129_2)⟩ (fun hHeld => ?_); refine with_tabW spec_AreSlots.tab9 spec_AreSlots.bits9 (fun HT_ HW_ => ?_)
             generalize wr.drew = w25 at HB hx129_0 hx129_1 hx129_2 hHeld ⊢
             refine pP 0 59 (bR [1, 18]) rfl rfl HT_ ?_
             refine pP 1 60 (bR [2, 17]) rfl rfl HT_ ?_
             refine pP 2 61 (bR [3, 16]) rfl rfl HT_ ?_
             refine pP 3 62 (bR [4, 15]) rfl rfl HT_ ?_
             refine take_ (i := 4) (N := some 63) (v := ?_) (a' := ?_) (bR [5, 14]) rfl rfl (take_ofW HT_.out HW_.out (by kernel_rfl)) (fun _ _ _ h => h) (Or.inl ⟨by rfl, ?_⟩) hHeld ?_ ?_
             rotate_left; (rintro w' ⟨s0, s1, s2⟩; go_simp; with_reducible rfl); rotate_left; (simp only [Act.put, sA, sZ, sS, i64_w]; rfl)
             refine pP 5 64 (bR [6, 13]) rfl rfl HT_ ?_
             refine pP 6 65 (bR [7, 12]) rfl rfl HT_ ?_
             refine pU 7 66 (bR [8, 11]) rfl rfl HT_ ?_
             refine pU 8 67 (bR [9, 10]) rfl rfl HT_ ?_
             refine pU 9 68 (bR [10, 9]) rfl rfl HT_ ?_
             refine pU 10 69 (bR [11, 8]) rfl rfl HT_ ?_
             refine pU 11 70 (bR [12, 7]) rfl rfl HT_ ?_
             refine pU 12 71 (bR [13, 6]) rfl rfl HT_ ?_
             refine pU 13 72 (bR [14, 5]) rfl rfl HT_ ?_
             refine pU 14 73 (bR [15, 4]) rfl rfl HT_ ?_
             refine pU 15 74 (bR [16, 3]) rfl rfl HT_ ?_
             refine pU 16 75 (bR [17, 2]) rfl rfl HT_ ?_
             refine pU 17 76 (bR [18, 1]) rfl rfl HT_ ?_
             refine pP 18 77 (bR [19]) rfl rfl HT_ ?_
             refine done_ (done_of HT_.out (by kernel_rfl)) ?_
             try go_wp2
             go_roundg k3
             case measure => have := HK1.out; have := HJ2.out; have := HK3.out; omega
             case rel => exact ⟨(wrap64 (x4_3 + 1)), (by first | rfl | (simp; done) | (simp [*]; done)), H', ⟨by have := HK1.out; have := HJ2.out; have := HK3.out; omega⟩, ⟨by repeat (first | (with_reducible first | exact HB.out | apply bA | apply bN | apply bD) | exact HB.out)⟩⟩
            ·rw [if_neg c24] at H
             have c24b0 : (((rd_T78 l0 x3_1).f2) == 0) = false := beq_eq_false_iff_ne.mpr c24
             have c24b1 : (((rd_T78 l0 x3_1).f2) != 0) = true := bne_iff_ne.mpr c24
             by_cases c26 : 0 ≤ x4_3
             ·rw [if_pos c26] at H
              have c26b0 : decide (0 ≤ x4_3) = true := decide_eq_true c26
              clear c26
              by_cases c27 : x4_3 < (l0.length : Int)
              ·rw [if_pos c27] at H
               have c27b0 : decide (x4_3 < (l0.length : Int)) = true := decide_eq_true c27
               clear c27
               by_cases c28 : ((rd_T78 l0 x4_3).f2) = ((rd_T78 l0 x3_1).f2)
               ·rw [if_pos c28] at H
                have c28b0 : (((rd_T78 l0 x4_3).f2) == ((rd_T78 l0 x3_1).f2)) = true := beq_iff_eq.mpr c28
                have c28b1 : (((rd_T78 l0 x4_3).f2) != ((rd_T78 l0 x3_1).f2)) = false := bne_eq_false_iff_eq.mpr c28
                clear c28
                obtain rfl := Option.some.inj H
                try go_wp2
                have n0_ := Aside0.mk (below_drew1 HB.out)
                clear HB
                have HB := n0_
                clear n0_
                have p129 : 0 ≤ (x3_1 : Int) := of_decide_eq_true ‹_›
                have q129 : x3_1 < (l0.length : Int) := of_decide_eq_true ‹_›
                obtain ⟨ad129, e129, hx129_0, hx129_1, hx129_2⟩ := at_T78 HR0.out x3_1 p129 q129
                have hw129_2 := hx129_2
                have hw129_1 := hx129_1
                have hw129_0 := hx129_0
                cases e129
                replace hx129_0 := (HB.out.cell (World.block_lt_of_cell? w _ hx129_0)).trans hx129_0
                replace hx129_1 := (HB.out.cell (World.block_lt_of_cell? w _ hx129_1)).trans hx129_1
                replace hx129_2 := (HB.out.cell (World.block_lt_of_cell? w _ hx129_2)).trans hx129_2
                replace p129 := eq_true p129
                replace q129 := eq_true q129
                have p130 : 0 ≤ (x4_3 : Int) := of_decide_eq_true ‹_›
                have q130 : x4_3 < (l0.length : Int) := of_decide_eq_true ‹_›
                obtain ⟨ad130, e130, hx130_0, hx130_1, hx130_2⟩ := at_T78 HR0.out x4_3 p130 q130
                have hw130_2 := hx130_2
                have hw130_1 := hx130_1
                have hw130_0 := hx130_0
                obtain rfl : ad129 = ad130 := (by injection e130)
                replace hx130_0 := (HB.out.cell (World.block_lt_of_cell? w _ hx130_0)).trans hx130_0
                replace hx130_1 := (HB.out.cell (World.block_lt_of_cell? w _ hx130_1)).trans hx130_1
                replace hx130_2 := (HB.out.cell (World.block_lt_of_cell? w _ hx130_2)).trans hx130_2
                replace p130 := eq_true p130
                replace q130 := eq_true q130
                have p131 : 0 ≤ (x3_1 : Int) := of_decide_eq_true ‹_›
                have q131 : x3_1 < (l0.length : Int) := of_decide_eq_true ‹_›
                obtain ⟨ad131, e131, hx131_0, hx131_1, hx131_2⟩ := at_T78 HR0.out x3_1 p131 q131
                have hw131_2 := hx131_2
                have hw131_1 := hx131_1
                have hw131_0 := hx131_0
                obtain rfl : ad129 = ad131 := (by injection e131)
                replace hx131_0 := (HB.out.cell (World.block_lt_of_cell? w _ hx131_0)).trans hx131_0
                replace hx131_1 := (HB.out.cell (World.block_lt_of_cell? w _ hx131_1)).trans hx131_1
                replace hx131_2 := (HB.out.cell (World.block_lt_of_cell? w _ hx131_2)).trans hx131_2
                replace p131 := eq_true p131
                replace q131 := eq_true q131
                refine start_ (n := 19) (S := fun w' => w'.cell? (ad129.add ((x3_1).toNat * 3)) = some (.int .i64 ((rd_T78 l0 x3_1).f0)) ∧ w'.cell? ⟨(ad129.add ((x3_1).toNat * 3)).block, (ad129.add ((x3_1).toNat * 3)).off + 1, none⟩ = some (.int .i64 ((rd_T78 l0 x3_1).f1)) ∧ w'.cell? ⟨(ad129.add ((x3_1).toNat * 3)).block, (ad129.add ((x3_1).toNat * 3)).off + 2, none⟩ = some (.int .i64 ((rd_T78 l0 x3_1).f2)) ∧ w'.cell? (ad129.add ((x4_3).toNat * 3)) = some (.int .i64 ((rd_T78 l0 x4_3).f0)) ∧ w'.cell? ⟨(ad129.add ((x4_3).toNat * 3)).block, (ad129.add ((x4_3).toNat * 3)).off + 1, none⟩ = some (.int .i64 ((rd_T78 l0 x4_3).f1)) ∧ w'.cell? ⟨(ad129.add ((x4_3).toNat * 3)).block, (ad129.add ((x4_3).toNat * 3)).off + 2, none⟩ = some (.int .i64 ((rd_T78 l0 x4_3).f2)) ∧ w'.cell? (ad129.add ((x3_1).toNat * 3)) = some (.int .i64 ((rd_T78 l0 x3_1).f0)) ∧ w'.cell? ⟨(ad129.add ((x3_1).toNat * 3)).block, (ad129.add ((x3_1).toNat * 3)).off + 1, none⟩ = some (.int .i64 ((rd_T78 l0 x3_1).f1)) ∧ w'.cell? ⟨(ad129.add ((x3_1).toNat * 3)).block, (ad129.add ((x3_1).toNat * 3)).off + 2, none⟩ = some (.int .i64 ((rd_T78 l0 x3_1).f2))) (ds := []) (bR [0, 19]) (by kernel_rfl) rfl rfl ⟨((HB.out.cell (World.block_lt_of_cell? w _ hw129_0)).trans hw129_0), ((HB.out.cell (World.block_lt_of_cell? w _ hw129_1)).trans hw129_1), ((HB.out.cell (World.block_lt_of_cell? w _ hw129_2)).trans hw129_2), ((HB.out.cell (World.block_lt_of_cell? w _ hw130_0)).trans hw130_0), ((HB.out.cell (World.block_lt_of_cell? w _ hw130_1)).trans hw130_1), ((HB.out.cell (World.block_lt_of_cell? w _ hw130_2)).trans hw130_2), ((HB.out.cell (World.block_lt_of_cell? w _ hw131_0)).trans hw131_0), ((HB.out.cell (World.block_lt_of_cell? w _ hw131_1)).trans hw131_1), ((HB.out.cell (World.block_lt_of_cell? w _ hw131_2)).trans hw131_2)⟩ (fun hHeld => ?_); refine with_tabW spec_AreSlots.tab9 spec_AreSlots.bits9 (fun HT_ HW_ => ?_)
                generalize wr.drew = w29 at HB hx129_0 hx129_1 hx129_2 hx130_0 hx130_1 hx130_2 hx131_0 hx131_1 hx131_2 hHeld ⊢
                refine pP 0 59 (bR [1, 18]) rfl rfl HT_ ?_
                refine pP 1 60 (bR [2, 17]) rfl rfl HT_ ?_
                refine pP 2 61 (bR [3, 16]) rfl rfl HT_ ?_
                refine pP 3 62 (bR [4, 15]) rfl rfl HT_ ?_
                refine take_ (i := 4) (N := some 63) (v := ?_) (a' := ?_) (bR [5, 14]) rfl rfl (take_ofW HT_.out HW_.out (by kernel_rfl)) (fun _ _ _ h => h) (Or.inl ⟨by rfl, ?_⟩) hHeld ?_ ?_
                rotate_left; (rintro w' ⟨s0, s1, s2, s3, s4, s5, s6, s7, s8⟩; go_simp; with_reducible rfl); rotate_left; (simp only [Act.put, sA, sZ, sS, i64_w]; rfl)
                refine pP 5 64 (bR [6, 13]) rfl rfl HT_ ?_
                refine pP 6 65 (bR [7, 12]) rfl rfl HT_ ?_
                refine pP 7 66 (bR [8, 11]) rfl rfl HT_ ?_
                refine pP 8 67 (bR [9, 10]) rfl rfl HT_ ?_
                refine pP 9 68 (bR [10, 9]) rfl rfl HT_ ?_
                refine pP 10 69 (bR [11, 8]) rfl rfl HT_ ?_
                refine pP 12 71 (bR [11, 1, 1, 6]) rfl rfl HT_ ?_
                refine pP 13 72 (bR [11, 1, 2, 5]) rfl rfl HT_ ?_
                refine pP 14 73 (bR [11, 1, 3, 4]) rfl rfl HT_ ?_
                refine pP 15 74 (bR [11, 1, 4, 3]) rfl rfl HT_ ?_
                refine take_ (i := 11) (N := some 70) (v := ?_) (a' := ?_) (bR [16, 3]) rfl rfl (take_ofW HT_.out HW_.out (by kernel_rfl)) (fun _ _ _ h => h) (Or.inl ⟨by rfl, ?_⟩) hHeld ?_ ?_
                rotate_left; (rintro w' ⟨s0, s1, s2, s3, s4, s5, s6, s7, s8⟩; go_simp; with_reducible rfl); rotate_left; (simp only [Act.put, sA, sZ, sS, i64_w]; rfl)
                refine take_ (i := 16) (N := some 75) (v := ?_) (a' := ?_) (bR [17, 2]) rfl rfl (take_ofW HT_.out HW_.out (by kernel_rfl)) (fun _ _ _ h => h) (Or.inl ⟨by rfl, ?_⟩) hHeld ?_ ?_
                rotate_left; (rintro w' ⟨s0, s1, s2, s3, s4, s5, s6, s7, s8⟩; go_simp; with_reducible rfl); rotate_left; (simp only [Act.put, sA, sZ, sS, i64_w]; rfl)
                refine pP 17 76 (bR [18, 1]) rfl rfl HT_ ?_
                refine pP 18 77 (bR [19]) rfl rfl HT_ ?_
                refine done_ (done_of HT_.out (by kernel_rfl)) ?_
                try go_wp2
                go_ret
                exact ⟨by first | rfl | (simp [errW_none, errW_some] <;> rfl) | (simp [*, errW_none, errW_some] <;> rfl), by repeat (first | (with_reducible first | exact HB.out | apply bA | apply bN | apply bD) | exact HB.out)⟩
               ·rw [if_neg c28] at H
                have c28b0 : (((rd_T78 l0 x4_3).f2) == ((rd_T78 l0 x3_1).f2)) = false := beq_eq_false_iff_ne.mpr c28
                have c28b1 : (((rd_T78 l0 x4_3).f2) != ((rd_T78 l0 x3_1).f2)) = true := bne_iff_ne.mpr c28
                have H' := Aside0.mk H
                clear H
                try go_wp2
                have n0_ := Aside0.mk (below_drew1 HB.out)
                clear HB
                have HB := n0_
                clear n0_
                have p129 : 0 ≤ (x3_1 : Int) := of_decide_eq_true ‹_›
                have q129 : x3_1 < (l0.length : Int) := of_decide_eq_true ‹_›
                obtain ⟨ad129, e129, hx129_0, hx129_1, hx129_2⟩ := at_T78 HR0.out x3_1 p129 q129
                have hw129_2 := hx129_2
                have hw129_1 := hx129_1
                have hw129_0 := hx129_0
                cases e129
                replace hx129_0 := (HB.out.cell (World.block_lt_of_cell? w _ hx129_0)).trans hx129_0
                replace hx129_1 := (HB.out.cell (World.block_lt_of_cell? w _ hx129_1)).trans hx129_1
                replace hx129_2 := (HB.out.cell (World.block_lt_of_cell? w _ hx129_2)).trans hx129_2
                replace p129 := eq_true p129
                replace q129 := eq_true q129
                have p130 : 0 ≤ (x4_3 : Int) := of_decide_eq_true ‹_›
                have q130 : x4_3 < (l0.length : Int) := of_decide_eq_true ‹_›
                obtain ⟨ad130, e130, hx130_0, hx130_1, hx130_2⟩ := at_T78 HR0.out x4_3 p130 q130
                have hw130_2 := hx130_2
                have hw130_1 := hx130_1
                have hw130_0 := hx130_0
                obtain rfl : ad129 = ad130 := (by injection e130)
                replace hx130_0 := (HB.out.cell (World.block_lt_of_cell? w _ hx130_0)).trans hx130_0
                replace hx130_1 := (HB.out.cell (World.block_lt_of_cell? w _ hx130_1)).trans hx130_1
                replace hx130_2 := (HB.out.cell (World.block_lt_of_cell? w _ hx130_2)).trans hx130_2
                replace p130 := eq_true p130
                replace q130 := eq_true q130
                have p131 : 0 ≤ (x3_1 : Int) := of_decide_eq_true ‹_›
                have q131 : x3_1 < (l0.length : Int) := of_decide_eq_true ‹_›
                obtain ⟨ad131, e131, hx131_0, hx131_1, hx131_2⟩ := at_T78 HR0.out x3_1 p131 q131
                have hw131_2 := hx131_2
                have hw131_1 := hx131_1
                have hw131_0 := hx131_0
                obtain rfl : ad129 = ad131 := (by injection e131)
                replace hx131_0 := (HB.out.cell (World.block_lt_of_cell? w _ hx131_0)).trans hx131_0
                replace hx131_1 := (HB.out.cell (World.block_lt_of_cell? w _ hx131_1)).trans hx131_1
                replace hx131_2 := (HB.out.cell (World.block_lt_of_cell? w _ hx131_2)).trans hx131_2
                replace p131 := eq_true p131
                replace q131 := eq_true q131
                refine start_ (n := 19) (S := fun w' => w'.cell? (ad129.add ((x3_1).toNat * 3)) = some (.int .i64 ((rd_T78 l0 x3_1).f0)) ∧ w'.cell? ⟨(ad129.add ((x3_1).toNat * 3)).block, (ad129.add ((x3_1).toNat * 3)).off + 1, none⟩ = some (.int .i64 ((rd_T78 l0 x3_1).f1)) ∧ w'.cell? ⟨(ad129.add ((x3_1).toNat * 3)).block, (ad129.add ((x3_1).toNat * 3)).off + 2, none⟩ = some (.int .i64 ((rd_T78 l0 x3_1).f2)) ∧ w'.cell? (ad129.add ((x4_3).toNat * 3)) = some (.int .i64 ((rd_T78 l0 x4_3).f0)) ∧ w'.cell? ⟨(ad129.add ((x4_3).toNat * 3)).block, (ad129.add ((x4_3).toNat * 3)).off + 1, none⟩ = some (.int .i64 ((rd_T78 l0 x4_3).f1)) ∧ w'.cell? ⟨(ad129.add ((x4_3).toNat * 3)).block, (ad129.add ((x4_3).toNat * 3)).off + 2, none⟩ = some (.int .i64 ((rd_T78 l0 x4_3).f2)) ∧ w'.cell? (ad129.add ((x3_1).toNat * 3)) = some (.int .i64 ((rd_T78 l0 x3_1).f0)) ∧ w'.cell? ⟨(ad129.add ((x3_1).toNat * 3)).block, (ad129.add ((x3_1).toNat * 3)).off + 1, none⟩ = some (.int .i64 ((rd_T78 l0 x3_1).f1)) ∧ w'.cell? ⟨(ad129.add ((x3_1).toNat * 3)).block, (ad129.add ((x3_1).toNat * 3)).off + 2, none⟩ = some (.int .i64 ((rd_T78 l0 x3_1).f2))) (ds := []) (bR [0, 19]) (by kernel_rfl) rfl rfl ⟨((HB.out.cell (World.block_lt_of_cell? w _ hw129_0)).trans hw129_0), ((HB.out.cell (World.block_lt_of_cell? w _ hw129_1)).trans hw129_1), ((HB.out.cell (World.block_lt_of_cell? w _ hw129_2)).trans hw129_2), ((HB.out.cell (World.block_lt_of_cell? w _ hw130_0)).trans hw130_0), ((HB.out.cell (World.block_lt_of_cell? w _ hw130_1)).trans hw130_1), ((HB.out.cell (World.block_lt_of_cell? w _ hw130_2)).trans hw130_2), ((HB.out.cell (World.block_lt_of_cell? w _ hw131_0)).trans hw131_0), ((HB.out.cell (World.block_lt_of_cell? w _ hw131_1)).trans hw131_1), ((HB.out.cell (World.block_lt_of_cell? w _ hw131_2)).trans hw131_2)⟩ (fun hHeld => ?_); refine with_tabW spec_AreSlots.tab9 spec_AreSlots.bits9 (fun HT_ HW_ => ?_)
                generalize wr.drew = w30 at HB hx129_0 hx129_1 hx129_2 hx130_0 hx130_1 hx130_2 hx131_0 hx131_1 hx131_2 hHeld ⊢
                refine pP 0 59 (bR [1, 18]) rfl rfl HT_ ?_
                refine pP 1 60 (bR [2, 17]) rfl rfl HT_ ?_
                refine pP 2 61 (bR [3, 16]) rfl rfl HT_ ?_
                refine pP 3 62 (bR [4, 15]) rfl rfl HT_ ?_
                refine take_ (i := 4) (N := some 63) (v := ?_) (a' := ?_) (bR [5, 14]) rfl rfl (take_ofW HT_.out HW_.out (by kernel_rfl)) (fun _ _ _ h => h) (Or.inl ⟨by rfl, ?_⟩) hHeld ?_ ?_
                rotate_left; (rintro w' ⟨s0, s1, s2, s3, s4, s5, s6, s7, s8⟩; go_simp; with_reducible rfl); rotate_left; (simp only [Act.put, sA, sZ, sS, i64_w]; rfl)
                refine pP 5 64 (bR [6, 13]) rfl rfl HT_ ?_
                refine pP 6 65 (bR [7, 12]) rfl rfl HT_ ?_
                refine pP 7 66 (bR [8, 11]) rfl rfl HT_ ?_
                refine pP 8 67 (bR [9, 10]) rfl rfl HT_ ?_
                refine pP 9 68 (bR [10, 9]) rfl rfl HT_ ?_
                refine pP 10 69 (bR [11, 8]) rfl rfl HT_ ?_
                refine pP 12 71 (bR [11, 1, 1, 6]) rfl rfl HT_ ?_
                refine pP 13 72 (bR [11, 1, 2, 5]) rfl rfl HT_ ?_
                refine pP 14 73 (bR [11, 1, 3, 4]) rfl rfl HT_ ?_
                refine pP 15 74 (bR [11, 1, 4, 3]) rfl rfl HT_ ?_
                refine take_ (i := 11) (N := some 70) (v := ?_) (a' := ?_) (bR [16, 3]) rfl rfl (take_ofW HT_.out HW_.out (by kernel_rfl)) (fun _ _ _ h => h) (Or.inl ⟨by rfl, ?_⟩) hHeld ?_ ?_
                rotate_left; (rintro w' ⟨s0, s1, s2, s3, s4, s5, s6, s7, s8⟩; go_simp; with_reducible rfl); rotate_left; (simp only [Act.put, sA, sZ, sS, i64_w]; rfl)
                refine take_ (i := 16) (N := some 75) (v := ?_) (a' := ?_) (bR [17, 2]) rfl rfl (take_ofW HT_.out HW_.out (by kernel_rfl)) (fun _ _ _ h => h) (Or.inl ⟨by rfl, ?_⟩) hHeld ?_ ?_
                rotate_left; (rintro w' ⟨s0, s1, s2, s3, s4, s5, s6, s7, s8⟩; go_simp; with_reducible rfl); rotate_left; (simp only [Act.put, sA, sZ, sS, i64_w]; rfl)
                refine pP 17 76 (bR [18, 1]) rfl rfl HT_ ?_
                refine pP 18 77 (bR [19]) rfl rfl HT_ ?_
                refine done_ (done_of HT_.out (by kernel_rfl)) ?_
                try go_wp2
                go_roundg k3
                case measure => have := HK1.out; have := HJ2.out; have := HK3.out; omega
                case rel => exact ⟨(wrap64 (x4_3 + 1)), (by first | rfl | (simp; done) | (simp [*]; done)), H', ⟨by have := HK1.out; have := HJ2.out; have := HK3.out; omega⟩, ⟨by repeat (first | (with_reducible first | exact HB.out | apply bA | apply bN | apply bD) | exact HB.out)⟩⟩
              ·rw [if_neg c27] at H
               exact absurd H (by simp)
             ·rw [if_neg c26] at H
              exact absurd H (by simp)
           ·rw [if_neg c23] at H
            exact absurd H (by simp)
          ·rw [if_neg c22] at H
           exact absurd H (by simp)
         ·rw [if_neg c21] at H
          have c21b0 : decide (x4_3 < x3_1) = false := decide_eq_false c21
          clear c21
          have H' := Aside0.mk H
          clear H
          go_wp2
          go_roundg k3
          case measure => have := HK1.out; have := HJ2.out; have := HK3.out; omega
          case rel => exact ⟨(wrap64 (x3_1 + 1)), (by first | rfl | (simp; done) | (simp [*]; done)), H', ⟨by have := HK1.out; have := HJ2.out; have := HK3.out; omega⟩, ⟨by repeat (first | (with_reducible first | exact HB.out | apply bA | apply bN | apply bD) | exact HB.out)⟩⟩
   ·rw [if_neg c2] at H
    have c2b0 : decide (x3_1 < (l0.length : Int)) = false := decide_eq_false c2
    clear c2
    obtain rfl := Option.some.inj H
    go_wp2
    go_ret
    exact ⟨by first | rfl | (simp [errW_none, errW_some] <;> rfl) | (simp [*, errW_none, errW_some] <;> rfl), by repeat (first | (with_reducible first | exact HB.out | apply bA | apply bN | apply bD) | exact HB.out)⟩

end Go.Proofs.Ytkfalbaklodnjaa.PFnShelves
