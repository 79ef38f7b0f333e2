-- The printed functions of one law and their contracts, over contracts of this session's own (hand.py).
import Derived.Test.YtppgealmedaihaaPFnExactBestOfx0
import Derived.Test.YtppgealmedaihaaPFnExactBestOfx1
namespace Go.Proofs.Ytppgealmedaihaa.PFnExactBestOf
open Go.RowKit Go.Proofs.YtppgealmedaihaaW.PrintWords Go.Proofs.YtppgealmedaihaaW.PrintLast Go.Proofs.YtppgealmedaihaaW.PrintMore Go.Proofs.Ytppgealmedaihaa.Short
attribute [local go_sem] max2_int min2_int max_two min_two max_three min_three max_four min_four   -- for this text's walks alone
set_option linter.unusedVariables false
set_option linter.unusedSimpArgs false

/-! ### spec_AreFinds: function 142 -/
def spec_AreFinds.l0 : Nat → List (S98) → Int → Option (Bool)
 | 0, _, _ => none
 | k + 1, x0, x3 => if x3 < (x0.length : Int) then (if 0 ≤ x3 then ((spec_IsFind.f ((rd_T98 x0 x3).f0.f0) ((rd_T98 x0 x3).f0.f1) ((rd_T98 x0 x3).f0.f2) ((rd_T98 x0 x3).f0.f3) ((rd_T98 x0 x3).f0.f4) ((rd_T98 x0 x3).f1) ((rd_T98 x0 x3).f2) ((rd_T98 x0 x3).f3)).bind fun t144 => (if t144 = true then (if x3 > 0 then (if 0 ≤ (wrap64 (x3 - 1)) then (if (wrap64 (x3 - 1)) < (x0.length : Int) then (if ((rd_T98 x0 (wrap64 (x3 - 1))).f0.f0) ≥ ((rd_T98 x0 x3).f0.f0) then (some false) else (spec_AreFinds.l0 k x0 (wrap64 (x3 + 1)))) else (none)) else (none)) else (spec_AreFinds.l0 k x0 (wrap64 (x3 + 1)))) else (some false))) else (none)) else (some (decide ((x0.length : Int) ≤ 20)))
def spec_AreFinds.f (k : Nat) (l0 : List (S98)) : Option (Bool) := spec_AreFinds.l0 k l0 0
theorem spec_AreFinds.mono_l : ∀ k, (∀ y0 y1, LeO (spec_AreFinds.l0 k y0 y1) (spec_AreFinds.l0 (k + 1) y0 y1))
 | 0 => fun _ _ r h => by simp [spec_AreFinds.l0] at h
 | k + 1 => by
  have ih0 := spec_AreFinds.mono_l k
  ·intro y0 y1
   unfold spec_AreFinds.l0
   repeat' first
   | (with_reducible exact ih0 _ _)
   | (with_reducible exact LeO.refl _)
   | (with_reducible exact LeO.none _)
   | (with_reducible refine LeO.ite ?_ ?_)
   | (with_reducible refine LeO.bind ?_ (fun _ => ?_))
   | exact ih0 _ _
   | exact LeO.none _
   | refine LeO.ite ?_ ?_
   | refine LeO.bind ?_ (fun _ => ?_)
theorem spec_AreFinds.mono : ∀ a0 k, LeO (spec_AreFinds.f k a0) (spec_AreFinds.f (k + 1) a0) := by
 intro a0 k
 have ih0 := spec_AreFinds.mono_l k
 unfold spec_AreFinds.f
 repeat' first
   | (with_reducible exact ih0 _ _)
   | (with_reducible exact LeO.refl _)
   | (with_reducible exact LeO.none _)
   | (with_reducible refine LeO.ite ?_ ?_)
   | (with_reducible refine LeO.bind ?_ (fun _ => ?_))
   | exact ih0 _ _
   | exact LeO.none _
   | refine LeO.ite ?_ ?_
   | refine LeO.bind ?_ (fun _ => ?_)
def spec_AreFinds.T4 : Bool × List (List Nat × List Nat) := (true, [([], []), ([], []), ([0, 1], [0, 1]), ([2], [2]), ([3], [3]), ([4], [4]), ([5, 4], [5]), ([6], [6]), ([7, 6], [6, 7]), ([8, 6, 6], [6, 8]), ([9], [9]), ([9], [9]), ([11, 9], [9, 11]), ([10, 12, 9], [9, 10, 12]), ([13, 9], [9, 13]), ([14, 9], [9, 14]), ([15, 9], [9, 15]), ([9], [9]), ([9], [9]), ([17, 18, 9], [9, 17, 18]), ([19, 9], [9, 19]), ([20, 9], [9, 20]), ([21, 9], [9, 21]), ([16, 22, 9], [9, 16, 22]), ([9, 23, 6], [6, 9, 23]), ([6, 24], [6, 24])])
def spec_AreFinds.B4 : List Nat := [0, 0, 3, 7, 15, 31, 63, 127, 255, 511, 1023, 1023, 3071, 8191, 16383, 32767, 65535, 1023, 1023, 394239, 918527, 1967103, 4064255, 8388607, 16777215, 33554431]
theorem spec_AreFinds.tab4 : rtab .any (opsOf Try.f142 4) = spec_AreFinds.T4 := by kernel_rfl
theorem spec_AreFinds.bits4 : waitsOk spec_AreFinds.T4.2 spec_AreFinds.B4 = true := by kernel_rfl
set_option maxHeartbeats 8000000 in
set_option maxRecDepth 100000 in
theorem spec_AreFinds.calls (k : Nat) (A0 : Option Addr) (c0 : Nat) (l0 : List (S98)) (r : Bool) (w : World) (hr0 : Kd.C k98 w A0 l0.length l0) (hc0 : l0.length ≤ c0) (h : spec_AreFinds.f k l0 = some r) :
  Calls Try.prog 142 #[.slice A0 l0.length c0] w fun e w' => e = .returned (.bool r) ∧ Below w.heap.size w w' := by
 have hu98 := Try.underlying98
 have HR0 := Aside0.mk hr0
 have HC0 := Aside0.mk hc0
 clear hr0 hc0
 have HB := Aside0.mk (Below.refl w.heap.size w)
 have H : (spec_AreFinds.l0 k l0 0) = some r := h
 clear h
 have H' := Aside0.mk H
 clear H
 go_enter Try.func142, Try.ntmps142
 go_wp2
 go_loopg [3] k (fun kq v3 w' => ∃ (x3_1 : Int), v3 = .int .i64 x3_1 ∧ Aside0 (spec_AreFinds.l0 kq l0 x3_1 = some r) ∧ Aside0 (kq ≤ k) ∧ Aside0 (Below w.heap.size w w'))
 case atStart => exact ⟨(0), (by first | rfl | (simp; done) | (simp [*]; done)), H', ⟨Nat.le_refl _⟩, ⟨by repeat (first | (with_reducible first | exact HB.out | apply below_alloc | apply pw_below_drewN | apply below_drew1) | exact HB.out)⟩⟩
 case round =>
  clear H'
  try clear c1
  obtain ⟨x3_1, rfl, HA, HK1, HB⟩ := hrel
  cases gk with
  | zero => exact absurd HA.out (by simp [spec_AreFinds.l0])
  | succ k1 =>
   have H := HA.out
   clear HA
   simp only [spec_AreFinds.l0] at H
   by_cases c2 : x3_1 < (l0.length : Int)
   ·rw [if_pos c2] at H
    have c2b0 : decide (x3_1 < (l0.length : Int)) = true := decide_eq_true c2
    clear c2
    by_cases c3 : 0 ≤ x3_1
    ·rw [if_pos c3] at H
     have c3b0 : decide (0 ≤ x3_1) = true := decide_eq_true c3
     clear c3
     replace H := Option.bind_eq_some_iff.mp H
     obtain ⟨t144, A40, H⟩ := H
     replace H : (if t144 = true then (if x3_1 > 0 then (if 0 ≤ (wrap64 (x3_1 - 1)) then (if (wrap64 (x3_1 - 1)) < (l0.length : Int) then (if ((rd_T98 l0 (wrap64 (x3_1 - 1))).f0.f0) ≥ ((rd_T98 l0 x3_1).f0.f0) then (some false) else (spec_AreFinds.l0 k1 l0 (wrap64 (x3_1 + 1)))) else (none)) else (none)) else (spec_AreFinds.l0 k1 l0 (wrap64 (x3_1 + 1)))) else (some false)) = some r := H
     have A4 := Aside0.mk A40
     clear A40
     by_cases c5 : t144 = true
     ·subst c5
      have H1 : (if x3_1 > 0 then (if 0 ≤ (wrap64 (x3_1 - 1)) then (if (wrap64 (x3_1 - 1)) < (l0.length : Int) then (if ((rd_T98 l0 (wrap64 (x3_1 - 1))).f0.f0) ≥ ((rd_T98 l0 x3_1).f0.f0) then (some false) else (spec_AreFinds.l0 k1 l0 (wrap64 (x3_1 + 1)))) else (none)) else (none)) else (spec_AreFinds.l0 k1 l0 (wrap64 (x3_1 + 1)))) = some r := by rw [if_pos rfl] at H; exact H
      clear H
      have H := H1
      clear H1
      by_cases c6 : x3_1 > 0
      ·rw [if_pos c6] at H
       have c6b0 : decide (0 < x3_1) = true := decide_eq_true c6
       clear c6
       obtain ⟨ji7, hji7⟩ : ∃ j_ : Int, (wrap64 (x3_1 - 1)) = j_ := ⟨_, rfl⟩
       replace H : (if 0 ≤ (ji7) then (if (ji7) < (l0.length : Int) then (if ((rd_T98 l0 (ji7)).f0.f0) ≥ ((rd_T98 l0 x3_1).f0.f0) then (some false) else (spec_AreFinds.l0 k1 l0 (wrap64 (x3_1 + 1)))) else (none)) else (none)) = some r := by first | (rw [hji7] at H; exact H) | (simp only [hji7] at H ⊢; exact H)
       (try rw [hji7] at A4)
       have hji7w : (IntKind.i64.wrap (x3_1 - 1)) = ji7 := (i64_w _).trans hji7
       by_cases c8 : 0 ≤ (ji7)
       ·rw [if_pos c8] at H
        have c8b0 : decide (0 ≤ (ji7)) = true := decide_eq_true c8
        clear c8
        by_cases c9 : (ji7) < (l0.length : Int)
        ·rw [if_pos c9] at H
         have c9b0 : decide ((ji7) < (l0.length : Int)) = true := decide_eq_true c9
         clear c9
         by_cases c10 : ((rd_T98 l0 (ji7)).f0.f0) ≥ ((rd_T98 l0 x3_1).f0.f0)
         ·rw [if_pos c10] at H
          have c10b0 : decide (((rd_T98 l0 x3_1).f0.f0) ≤ ((rd_T98 l0 (ji7)).f0.f0)) = true := decide_eq_true c10
          clear c10
          obtain rfl := Option.some.inj H
          try go_wp2
          have n0_ := Aside0.mk (below_drew1 HB.out)
          clear HB
          have HB := n0_
          clear n0_
          have p143 : 0 ≤ (x3_1 : Int) := of_decide_eq_true ‹_›
          have q143 : x3_1 < (l0.length : Int) := of_decide_eq_true ‹_›
          obtain ⟨ad143, e143, hx143_0, hx143_1, hx143_2, hx143_3, hx143_4, hx143_5, hx143_6, hx143_7⟩ := at_T98 HR0.out x3_1 p143 q143
          have hw143_7 := hx143_7
          have hw143_6 := hx143_6
          have hw143_5 := hx143_5
          have hw143_4 := hx143_4
          have hw143_3 := hx143_3
          have hw143_2 := hx143_2
          have hw143_1 := hx143_1
          have hw143_0 := hx143_0
          cases e143
          replace hx143_0 := (HB.out.cell (World.block_lt_of_cell? w _ hx143_0)).trans hx143_0
          replace hx143_1 := (HB.out.cell (World.block_lt_of_cell? w _ hx143_1)).trans hx143_1
          replace hx143_2 := (HB.out.cell (World.block_lt_of_cell? w _ hx143_2)).trans hx143_2
          replace hx143_3 := (HB.out.cell (World.block_lt_of_cell? w _ hx143_3)).trans hx143_3
          replace hx143_4 := (HB.out.cell (World.block_lt_of_cell? w _ hx143_4)).trans hx143_4
          replace hx143_5 := (HB.out.cell (World.block_lt_of_cell? w _ hx143_5)).trans hx143_5
          replace hx143_6 := (HB.out.cell (World.block_lt_of_cell? w _ hx143_6)).trans hx143_6
          replace hx143_7 := (HB.out.cell (World.block_lt_of_cell? w _ hx143_7)).trans hx143_7
          replace p143 := eq_true p143
          replace q143 := eq_true q143
          have p145 : 0 ≤ ((ji7) : Int) := of_decide_eq_true ‹_›
          have q145 : (ji7) < (l0.length : Int) := of_decide_eq_true ‹_›
          obtain ⟨ad145, e145, hx145_0, hx145_1, hx145_2, hx145_3, hx145_4, hx145_5, hx145_6, hx145_7⟩ := at_T98 HR0.out (ji7) p145 q145
          have hw145_7 := hx145_7
          have hw145_6 := hx145_6
          have hw145_5 := hx145_5
          have hw145_4 := hx145_4
          have hw145_3 := hx145_3
          have hw145_2 := hx145_2
          have hw145_1 := hx145_1
          have hw145_0 := hx145_0
          obtain rfl : ad143 = ad145 := (by injection e145)
          replace hx145_0 := (HB.out.cell (World.block_lt_of_cell? w _ hx145_0)).trans hx145_0
          replace hx145_1 := (HB.out.cell (World.block_lt_of_cell? w _ hx145_1)).trans hx145_1
          replace hx145_2 := (HB.out.cell (World.block_lt_of_cell? w _ hx145_2)).trans hx145_2
          replace hx145_3 := (HB.out.cell (World.block_lt_of_cell? w _ hx145_3)).trans hx145_3
          replace hx145_4 := (HB.out.cell (World.block_lt_of_cell? w _ hx145_4)).trans hx145_4
          replace hx145_5 := (HB.out.cell (World.block_lt_of_cell? w _ hx145_5)).trans hx145_5
          replace hx145_6 := (HB.out.cell (World.block_lt_of_cell? w _ hx145_6)).trans hx145_6
          replace hx145_7 := (HB.out.cell (World.block_lt_of_cell? w _ hx145_7)).trans hx145_7
          replace p145 := eq_true p145
          replace q145 := eq_true q145
          have p146 : 0 ≤ (x3_1 : Int) := of_decide_eq_true ‹_›
          have q146 : x3_1 < (l0.length : Int) := of_decide_eq_true ‹_›
          obtain ⟨ad146, e146, hx146_0, hx146_1, hx146_2, hx146_3, hx146_4, hx146_5, hx146_6, hx146_7⟩ := at_T98 HR0.out x3_1 p146 q146
          have hw146_7 := hx146_7
          have hw146_6 := hx146_6
          have hw146_5 := hx146_5
          have hw146_4 := hx146_4
          have hw146_3 := hx146_3
          have hw146_2 := hx146_2
          have hw146_1 := hx146_1
          have hw146_0 := hx146_0
          obtain rfl : ad143 = ad146 := (by injection e146)
          replace hx146_0 := (HB.out.cell (World.block_lt_of_cell? w _ hx146_0)).trans hx146_0
          replace hx146_1 := (HB.out.cell (World.block_lt_of_cell? w _ hx146_1)).trans hx146_1
          replace hx146_2 := (HB.out.cell (World.block_lt_of_cell? w _ hx146_2)).trans hx146_2
          replace hx146_3 := (HB.out.cell (World.block_lt_of_cell? w _ hx146_3)).trans hx146_3
          replace hx146_4 := (HB.out.cell (World.block_lt_of_cell? w _ hx146_4)).trans hx146_4
          replace hx146_5 := (HB.out.cell (World.block_lt_of_cell? w _ hx146_5)).trans hx146_5
          replace hx146_6 := (HB.out.cell (World.block_lt_of_cell? w _ hx146_6)).trans hx146_6
          replace hx146_7 := (HB.out.cell (World.block_lt_of_cell? w _ hx146_7)).trans hx146_7
          replace p146 := eq_true p146
          replace q146 := eq_true q146
          refine start_ (n := 26) (S := fun w' => w'.cell? (ad143.add ((x3_1).toNat * 8)) = some (.int .i64 ((rd_T98 l0 x3_1).f0.f0)) ∧ w'.cell? ⟨(ad143.add ((x3_1).toNat * 8)).block, (ad143.add ((x3_1).toNat * 8)).off + 1, none⟩ = some (.int .i64 ((rd_T98 l0 x3_1).f0.f1)) ∧ w'.cell? ⟨(ad143.add ((x3_1).toNat * 8)).block, (ad143.add ((x3_1).toNat * 8)).off + 2, none⟩ = some (.int .i64 ((rd_T98 l0 x3_1).f0.f2)) ∧ w'.cell? ⟨(ad143.add ((x3_1).toNat * 8)).block, (ad143.add ((x3_1).toNat * 8)).off + 3, none⟩ = some (.int .i64 ((rd_T98 l0 x3_1).f0.f3)) ∧ w'.cell? ⟨(ad143.add ((x3_1).toNat * 8)).block, (ad143.add ((x3_1).toNat * 8)).off + 4, none⟩ = some (.int .i64 ((rd_T98 l0 x3_1).f0.f4)) ∧ w'.cell? ⟨(ad143.add ((x3_1).toNat * 8)).block, (ad143.add ((x3_1).toNat * 8)).off + 5, none⟩ = some (.int .i64 ((rd_T98 l0 x3_1).f1)) ∧ w'.cell? ⟨(ad143.add ((x3_1).toNat * 8)).block, (ad143.add ((x3_1).toNat * 8)).off + 6, none⟩ = some (.int .i64 ((rd_T98 l0 x3_1).f2)) ∧ w'.cell? ⟨(ad143.add ((x3_1).toNat * 8)).block, (ad143.add ((x3_1).toNat * 8)).off + 7, none⟩ = some (.int .i64 ((rd_T98 l0 x3_1).f3)) ∧ w'.cell? (ad143.add (((ji7)).toNat * 8)) = some (.int .i64 ((rd_T98 l0 (ji7)).f0.f0)) ∧ w'.cell? ⟨(ad143.add (((ji7)).toNat * 8)).block, (ad143.add (((ji7)).toNat * 8)).off + 1, none⟩ = some (.int .i64 ((rd_T98 l0 (ji7)).f0.f1)) ∧ w'.cell? ⟨(ad143.add (((ji7)).toNat * 8)).block, (ad143.add (((ji7)).toNat * 8)).off + 2, none⟩ = some (.int .i64 ((rd_T98 l0 (ji7)).f0.f2)) ∧ w'.cell? ⟨(ad143.add (((ji7)).toNat * 8)).block, (ad143.add (((ji7)).toNat * 8)).off + 3, none⟩ = some (.int .i64 ((rd_T98 l0 (ji7)).f0.f3)) ∧ w'.cell? ⟨(ad143.add (((ji7)).toNat * 8)).block, (ad143.add (((ji7)).toNat * 8)).off + 4, none⟩ = some (.int .i64 ((rd_T98 l0 (ji7)).f0.f4)) ∧ w'.cell? ⟨(ad143.add (((ji7)).toNat * 8)).block, (ad143.add (((ji7)).toNat * 8)).off + 5, none⟩ = some (.int .i64 ((rd_T98 l0 (ji7)).f1)) ∧ w'.cell? ⟨(ad143.add (((ji7)).toNat * 8)).block, (ad143.add (((ji7)).toNat * 8)).off + 6, none⟩ = some (.int .i64 ((rd_T98 l0 (ji7)).f2)) ∧ w'.cell? ⟨(ad143.add (((ji7)).toNat * 8)).block, (ad143.add (((ji7)).toNat * 8)).off + 7, none⟩ = some (.int .i64 ((rd_T98 l0 (ji7)).f3)) ∧ w'.cell? (ad143.add ((x3_1).toNat * 8)) = some (.int .i64 ((rd_T98 l0 x3_1).f0.f0)) ∧ w'.cell? ⟨(ad143.add ((x3_1).toNat * 8)).block, (ad143.add ((x3_1).toNat * 8)).off + 1, none⟩ = some (.int .i64 ((rd_T98 l0 x3_1).f0.f1)) ∧ w'.cell? ⟨(ad143.add ((x3_1).toNat * 8)).block, (ad143.add ((x3_1).toNat * 8)).off + 2, none⟩ = some (.int .i64 ((rd_T98 l0 x3_1).f0.f2)) ∧ w'.cell? ⟨(ad143.add ((x3_1).toNat * 8)).block, (ad143.add ((x3_1).toNat * 8)).off + 3, none⟩ = some (.int .i64 ((rd_T98 l0 x3_1).f0.f3)) ∧ w'.cell? ⟨(ad143.add ((x3_1).toNat * 8)).block, (ad143.add ((x3_1).toNat * 8)).off + 4, none⟩ = some (.int .i64 ((rd_T98 l0 x3_1).f0.f4)) ∧ w'.cell? ⟨(ad143.add ((x3_1).toNat * 8)).block, (ad143.add ((x3_1).toNat * 8)).off + 5, none⟩ = some (.int .i64 ((rd_T98 l0 x3_1).f1)) ∧ w'.cell? ⟨(ad143.add ((x3_1).toNat * 8)).block, (ad143.add ((x3_1).toNat * 8)).off + 6, none⟩ = some (.int .i64 ((rd_T98 l0 x3_1).f2)) ∧ w'.cell? ⟨(ad143.add ((x3_1).toNat * 8)).block, (ad143.add ((x3_1).toNat * 8)).off + 7, none⟩ = some (.int .i64 ((rd_T98 l0 x3_1).f3))) (ds := []) (bR [0, 26]) (by kernel_rfl) rfl rfl ⟨((HB.out.cell (World.block_lt_of_cell? w _ hw143_0)).trans hw143_0), ((HB.out.cell (World.block_lt_of_cell? w _ hw143_1)).trans hw143_1), ((HB.out.cell (World.block_lt_of_cell? w _ hw143_2)).trans hw143_2), ((HB.out.cell (World.block_lt_of_cell? w _ hw143_3)).trans hw143_3), ((HB.out.cell (World.block_lt_of_cell? w _ hw143_4)).trans hw143_4), ((HB.out.cell (World.block_lt_of_cell? w _ hw143_5)).trans hw143_5), ((HB.out.cell (World.block_lt_of_cell? w _ hw143_6)).trans hw143_6), ((HB.out.cell (World.block_lt_of_cell? w _ hw143_7)).trans hw143_7), ((HB.out.cell (World.block_lt_of_cell? w _ hw145_0)).trans hw145_0), ((HB.out.cell (World.block_lt_of_cell? w _ hw145_1)).trans hw145_1), ((HB.out.cell (World.block_lt_of_cell? w _ hw145_2)).trans hw145_2), ((HB.out.cell (World.block_lt_of_cell? w _ hw145_3)).trans hw145_3), ((HB.out.cell (World.block_lt_of_cell? w _ hw145_4)).trans hw145_4), ((HB.out.cell (World.block_lt_of_cell? w _ hw145_5)).trans hw145_5), ((HB.out.cell (World.block_lt_of_cell? w _ hw145_6)).trans hw145_6), ((HB.out.cell (World.block_lt_of_cell? w _ hw145_7)).trans hw145_7), ((HB.out.cell (World.block_lt_of_cell? w _ hw146_0)).trans hw146_0), ((HB.out.cell (World.block_lt_of_cell? w _ hw146_1)).trans hw146_1), ((HB.out.cell (World.block_lt_of_cell? w _ hw146_2)).trans hw146_2), ((HB.out.cell (World.block_lt_of_cell? w _ hw146_3)).trans hw146_3), ((HB.out.cell (World.block_lt_of_cell? w _ hw146_4)).trans hw146_4), ((HB.out.cell (World.block_lt_of_cell? w _ hw146_5)).trans hw146_5), ((HB.out.cell (World.block_lt_of_cell? w _ hw146_6)).trans hw146_6), ((HB.out.cell (World.block_lt_of_cell? w _ hw146_7)).trans hw146_7)⟩ (fun hHeld => ?_); refine with_tabW spec_AreFinds.tab4 spec_AreFinds.bits4 (fun HT_ HW_ => ?_)
          generalize wr.drew = w11 at HB hx143_0 hx143_1 hx143_2 hx143_3 hx143_4 hx143_5 hx143_6 hx143_7 hx145_0 hx145_1 hx145_2 hx145_3 hx145_4 hx145_5 hx145_6 hx145_7 hx146_0 hx146_1 hx146_2 hx146_3 hx146_4 hx146_5 hx146_6 hx146_7 hHeld ⊢
          refine pP 0 10 (bR [1, 25]) rfl rfl HT_ ?_
          refine pP 1 11 (bR [2, 24]) rfl rfl HT_ ?_
          refine pP 2 12 (bR [3, 23]) rfl rfl HT_ ?_
          refine take_ (i := 3) (N := some 13) (v := ?_) (a' := ?_) (bR [4, 22]) rfl rfl (take_ofW HT_.out HW_.out (by kernel_rfl)) (fun _ _ _ h => h) (Or.inl ⟨by rfl, ?_⟩) hHeld ?_ ?_
          rotate_left; (rintro w' ⟨s0, s1, s2, s3, s4, s5, s6, s7, s8, s9, s10, s11, s12, s13, s14, s15, s16, s17, s18, s19, s20, s21, s22, s23⟩; go_simp; with_reducible rfl); rotate_left; (simp only [Act.put, sA, sZ, sS, i64_w]; rfl)
          refine one_ (i := 4) (N := some 14) (bR [5, 21]) rfl rfl (one_of HT_.out (by kernel_rfl)) (by decide) (fun K hK => ?_)
          refine goes_ Try.func181 (by kernel_rfl) rfl #[.agg #[.int .i64 ((rd_T98 l0 x3_1).f0.f0), .int .i64 ((rd_T98 l0 x3_1).f0.f1), .int .i64 ((rd_T98 l0 x3_1).f0.f2), .int .i64 ((rd_T98 l0 x3_1).f0.f3), .int .i64 ((rd_T98 l0 x3_1).f0.f4), .int .i64 ((rd_T98 l0 x3_1).f1), .int .i64 ((rd_T98 l0 x3_1).f2), .int .i64 ((rd_T98 l0 x3_1).f3)]] (by rfl) rfl rfl (by (try simp only [mA, mC, mN]); first | done | rfl | (simp only [lD, lT]; rfl)) ?_
          with_reducible refine (spec_IsFind.calls ((rd_T98 l0 x3_1).f0.f0) ((rd_T98 l0 x3_1).f0.f1) ((rd_T98 l0 x3_1).f0.f2) ((rd_T98 l0 x3_1).f0.f3) ((rd_T98 l0 x3_1).f0.f4) ((rd_T98 l0 x3_1).f1) ((rd_T98 l0 x3_1).f2) ((rd_T98 l0 x3_1).f3) true _ A4.out).mono ?_
          rintro e w12 ⟨rfl, hb⟩
          refine ⟨_, rfl, ?_⟩
          have n0_ := Aside0.mk (below_step (qB HB) hb)
          clear HB
          have HB := n0_
          clear n0_
          (try clear hb)
          (try clear hb2)
          (try clear hk)
          (try clear hi)
          refine hK.out _ _ ⟨((HB.out.cell (World.block_lt_of_cell? w _ hw143_0)).trans hw143_0), ((HB.out.cell (World.block_lt_of_cell? w _ hw143_1)).trans hw143_1), ((HB.out.cell (World.block_lt_of_cell? w _ hw143_2)).trans hw143_2), ((HB.out.cell (World.block_lt_of_cell? w _ hw143_3)).trans hw143_3), ((HB.out.cell (World.block_lt_of_cell? w _ hw143_4)).trans hw143_4), ((HB.out.cell (World.block_lt_of_cell? w _ hw143_5)).trans hw143_5), ((HB.out.cell (World.block_lt_of_cell? w _ hw143_6)).trans hw143_6), ((HB.out.cell (World.block_lt_of_cell? w _ hw143_7)).trans hw143_7), ((HB.out.cell (World.block_lt_of_cell? w _ hw145_0)).trans hw145_0), ((HB.out.cell (World.block_lt_of_cell? w _ hw145_1)).trans hw145_1), ((HB.out.cell (World.block_lt_of_cell? w _ hw145_2)).trans hw145_2), ((HB.out.cell (World.block_lt_of_cell? w _ hw145_3)).trans hw145_3), ((HB.out.cell (World.block_lt_of_cell? w _ hw145_4)).trans hw145_4), ((HB.out.cell (World.block_lt_of_cell? w _ hw145_5)).trans hw145_5), ((HB.out.cell (World.block_lt_of_cell? w _ hw145_6)).trans hw145_6), ((HB.out.cell (World.block_lt_of_cell? w _ hw145_7)).trans hw145_7), ((HB.out.cell (World.block_lt_of_cell? w _ hw146_0)).trans hw146_0), ((HB.out.cell (World.block_lt_of_cell? w _ hw146_1)).trans hw146_1), ((HB.out.cell (World.block_lt_of_cell? w _ hw146_2)).trans hw146_2), ((HB.out.cell (World.block_lt_of_cell? w _ hw146_3)).trans hw146_3), ((HB.out.cell (World.block_lt_of_cell? w _ hw146_4)).trans hw146_4), ((HB.out.cell (World.block_lt_of_cell? w _ hw146_5)).trans hw146_5), ((HB.out.cell (World.block_lt_of_cell? w _ hw146_6)).trans hw146_6), ((HB.out.cell (World.block_lt_of_cell? w _ hw146_7)).trans hw146_7)⟩ (fun hHeld => ?_)
          clear hK K
          refine norm_ (a' := ?_) ?_ ?_
          rotate_left
          ·show Act.put _ (some 14) _ = _
           simp only [Act.put, sA, sZ, sS, i64_w]
           rfl
          refine pP 5 15 (bR [6, 20]) rfl rfl HT_ ?_
          refine pP 6 16 (bR [7, 19]) rfl rfl HT_ ?_
          refine pP 7 17 (bR [8, 18]) rfl rfl HT_ ?_
          refine pP 8 18 (bR [9, 17]) rfl rfl HT_ ?_
          refine pP 9 19 (bR [10, 16]) rfl rfl HT_ ?_
          refine pP 10 20 (bR [11, 15]) rfl rfl HT_ ?_
          refine pP 11 21 (bR [12, 14]) rfl rfl HT_ ?_
          refine pP 12 22 (bR [13, 13]) rfl rfl HT_ ?_
          refine pP 13 23 (bR [14, 12]) rfl rfl HT_ ?_
          refine pP 14 24 (bR [15, 11]) rfl rfl HT_ ?_
          refine pP 15 25 (bR [16, 10]) rfl rfl HT_ ?_
          refine pP 17 27 (bR [16, 1, 1, 8]) rfl rfl HT_ ?_
          refine pP 18 28 (bR [16, 1, 2, 7]) rfl rfl HT_ ?_
          refine pP 19 29 (bR [16, 1, 3, 6]) rfl rfl HT_ ?_
          refine pP 20 30 (bR [16, 1, 4, 5]) rfl rfl HT_ ?_
          refine pP 21 31 (bR [16, 1, 5, 4]) rfl rfl HT_ ?_
          refine take_ (i := 16) (N := some 26) (v := ?_) (a' := ?_) (bR [22, 4]) rfl rfl (take_ofW HT_.out HW_.out (by kernel_rfl)) (fun _ _ _ h => h) (Or.inl ⟨by rfl, ?_⟩) hHeld ?_ ?_
          rotate_left; (rintro w' ⟨s0, s1, s2, s3, s4, s5, s6, s7, s8, s9, s10, s11, s12, s13, s14, s15, s16, s17, s18, s19, s20, s21, s22, s23⟩; go_simp; with_reducible rfl); rotate_left; (simp only [Act.put, sA, sZ, sS, i64_w]; rfl)
          refine take_ (i := 22) (N := some 32) (v := ?_) (a' := ?_) (bR [23, 3]) rfl rfl (take_ofW HT_.out HW_.out (by kernel_rfl)) (fun _ _ _ h => h) (Or.inl ⟨by rfl, ?_⟩) hHeld ?_ ?_
          rotate_left; (rintro w' ⟨s0, s1, s2, s3, s4, s5, s6, s7, s8, s9, s10, s11, s12, s13, s14, s15, s16, s17, s18, s19, s20, s21, s22, s23⟩; go_simp; with_reducible rfl); rotate_left; (simp only [Act.put, sA, sZ, sS, i64_w]; rfl)
          refine pP 23 33 (bR [24, 2]) rfl rfl HT_ ?_
          refine pP 24 34 (bR [25, 1]) rfl rfl HT_ ?_
          refine pP 25 35 (bR [26]) rfl rfl HT_ ?_
          refine done_ (done_of HT_.out (by kernel_rfl)) ?_
          try go_wp2
          go_ret
          exact ⟨by first | rfl | (simp [errW_none, errW_some] <;> rfl) | (simp only [← hji7]; first | rfl | (simp [errW_none, errW_some] <;> rfl)) | (simp [*, errW_none, errW_some] <;> rfl), by repeat (first | (with_reducible first | exact HB.out | apply below_alloc | apply pw_below_drewN | apply below_drew1) | exact HB.out)⟩
         ·rw [if_neg c10] at H
          have c10b0 : decide (((rd_T98 l0 x3_1).f0.f0) ≤ ((rd_T98 l0 (ji7)).f0.f0)) = false := decide_eq_false c10
          clear c10
          have H' := Aside0.mk H
          clear H
          try go_wp2
          have n0_ := Aside0.mk (below_drew1 HB.out)
          clear HB
          have HB := n0_
          clear n0_
          have p143 : 0 ≤ (x3_1 : Int) := of_decide_eq_true ‹_›
          have q143 : x3_1 < (l0.length : Int) := of_decide_eq_true ‹_›
          obtain ⟨ad143, e143, hx143_0, hx143_1, hx143_2, hx143_3, hx143_4, hx143_5, hx143_6, hx143_7⟩ := at_T98 HR0.out x3_1 p143 q143
          have hw143_7 := hx143_7
          have hw143_6 := hx143_6
          have hw143_5 := hx143_5
          have hw143_4 := hx143_4
          have hw143_3 := hx143_3
          have hw143_2 := hx143_2
          have hw143_1 := hx143_1
          have hw143_0 := hx143_0
          cases e143
          replace hx143_0 := (HB.out.cell (World.block_lt_of_cell? w _ hx143_0)).trans hx143_0
          replace hx143_1 := (HB.out.cell (World.block_lt_of_cell? w _ hx143_1)).trans hx143_1
          replace hx143_2 := (HB.out.cell (World.block_lt_of_cell? w _ hx143_2)).trans hx143_2
          replace hx143_3 := (HB.out.cell (World.block_lt_of_cell? w _ hx143_3)).trans hx143_3
          replace hx143_4 := (HB.out.cell (World.block_lt_of_cell? w _ hx143_4)).trans hx143_4
          replace hx143_5 := (HB.out.cell (World.block_lt_of_cell? w _ hx143_5)).trans hx143_5
          replace hx143_6 := (HB.out.cell (World.block_lt_of_cell? w _ hx143_6)).trans hx143_6
          replace hx143_7 := (HB.out.cell (World.block_lt_of_cell? w _ hx143_7)).trans hx143_7
          replace p143 := eq_true p143
          replace q143 := eq_true q143
          have p145 : 0 ≤ ((ji7) : Int) := of_decide_eq_true ‹_›
          have q145 : (ji7) < (l0.length : Int) := of_decide_eq_true ‹_›
          obtain ⟨ad145, e145, hx145_0, hx145_1, hx145_2, hx145_3, hx145_4, hx145_5, hx145_6, hx145_7⟩ := at_T98 HR0.out (ji7) p145 q145
          have hw145_7 := hx145_7
          have hw145_6 := hx145_6
          have hw145_5 := hx145_5
          have hw145_4 := hx145_4
          have hw145_3 := hx145_3
          have hw145_2 := hx145_2
          have hw145_1 := hx145_1
          have hw145_0 := hx145_0
          obtain rfl : ad143 = ad145 := (by injection e145)
          replace hx145_0 := (HB.out.cell (World.block_lt_of_cell? w _ hx145_0)).trans hx145_0
          replace hx145_1 := (HB.out.cell (World.block_lt_of_cell? w _ hx145_1)).trans hx145_1
          replace hx145_2 := (HB.out.cell (World.block_lt_of_cell? w _ hx145_2)).trans hx145_2
          replace hx145_3 := (HB.out.cell (World.block_lt_of_cell? w _ hx145_3)).trans hx145_3
          replace hx145_4 := (HB.out.cell (World.block_lt_of_cell? w _ hx145_4)).trans hx145_4
          replace hx145_5 := (HB.out.cell (World.block_lt_of_cell? w _ hx145_5)).trans hx145_5
          replace hx145_6 := (HB.out.cell (World.block_lt_of_cell? w _ hx145_6)).trans hx145_6
          replace hx145_7 := (HB.out.cell (World.block_lt_of_cell? w _ hx145_7)).trans hx145_7
          replace p145 := eq_true p145
          replace q145 := eq_true q145
          have p146 : 0 ≤ (x3_1 : Int) := of_decide_eq_true ‹_›
          have q146 : x3_1 < (l0.length : Int) := of_decide_eq_true ‹_›
          obtain ⟨ad146, e146, hx146_0, hx146_1, hx146_2, hx146_3, hx146_4, hx146_5, hx146_6, hx146_7⟩ := at_T98 HR0.out x3_1 p146 q146
          have hw146_7 := hx146_7
          have hw146_6 := hx146_6
          have hw146_5 := hx146_5
          have hw146_4 := hx146_4
          have hw146_3 := hx146_3
          have hw146_2 := hx146_2
          have hw146_1 := hx146_1
          have hw146_0 := hx146_0
          obtain rfl : ad143 = ad146 := (by injection e146)
          replace hx146_0 := (HB.out.cell (World.block_lt_of_cell? w _ hx146_0)).trans hx146_0
          replace hx146_1 := (HB.out.cell (World.block_lt_of_cell? w _ hx146_1)).trans hx146_1
          replace hx146_2 := (HB.out.cell (World.block_lt_of_cell? w _ hx146_2)).trans hx146_2
          replace hx146_3 := (HB.out.cell (World.block_lt_of_cell? w _ hx146_3)).trans hx146_3
          replace hx146_4 := (HB.out.cell (World.block_lt_of_cell? w _ hx146_4)).trans hx146_4
          replace hx146_5 := (HB.out.cell (World.block_lt_of_cell? w _ hx146_5)).trans hx146_5
          replace hx146_6 := (HB.out.cell (World.block_lt_of_cell? w _ hx146_6)).trans hx146_6
          replace hx146_7 := (HB.out.cell (World.block_lt_of_cell? w _ hx146_7)).trans hx146_7
          replace p146 := eq_true p146
          replace q146 := eq_true q146
          refine start_ (n := 26) (S := fun w' => w'.cell? (ad143.add ((x3_1).toNat * 8)) = some (.int .i64 ((rd_T98 l0 x3_1).f0.f0)) ∧ w'.cell? ⟨(ad143.add ((x3_1).toNat * 8)).block, (ad143.add ((x3_1).toNat * 8)).off + 1, none⟩ = some (.int .i64 ((rd_T98 l0 x3_1).f0.f1)) ∧ w'.cell? ⟨(ad143.add ((x3_1).toNat * 8)).block, (ad143.add ((x3_1).toNat * 8)).off + 2, none⟩ = some (.int .i64 ((rd_T98 l0 x3_1).f0.f2)) ∧ w'.cell? ⟨(ad143.add ((x3_1).toNat * 8)).block, (ad143.add ((x3_1).toNat * 8)).off + 3, none⟩ = some (.int .i64 ((rd_T98 l0 x3_1).f0.f3)) ∧ w'.cell? ⟨(ad143.add ((x3_1).toNat * 8)).block, (ad143.add ((x3_1).toNat * 8)).off + 4, none⟩ = some (.int .i64 ((rd_T98 l0 x3_1).f0.f4)) ∧ w'.cell? ⟨(ad143.add ((x3_1).toNat * 8)).block, (ad143.add ((x3_1).toNat * 8)).off + 5, none⟩ = some (.int .i64 ((rd_T98 l0 x3_1).f1)) ∧ w'.cell? ⟨(ad143.add ((x3_1).toNat * 8)).block, (ad143.add ((x3_1).toNat * 8)).off + 6, none⟩ = some (.int .i64 ((rd_T98 l0 x3_1).f2)) ∧ w'.cell? ⟨(ad143.add ((x3_1).toNat * 8)).block, (ad143.add ((x3_1).toNat * 8)).off + 7, none⟩ = some (.int .i64 ((rd_T98 l0 x3_1).f3)) ∧ w'.cell? (ad143.add (((ji7)).toNat * 8)) = some (.int .i64 ((rd_T98 l0 (ji7)).f0.f0)) ∧ w'.cell? ⟨(ad143.add (((ji7)).toNat * 8)).block, (ad143.add (((ji7)).toNat * 8)).off + 1, none⟩ = some (.int .i64 ((rd_T98 l0 (ji7)).f0.f1)) ∧ w'.cell? ⟨(ad143.add (((ji7)).toNat * 8)).block, (ad143.add (((ji7)).toNat * 8)).off + 2, none⟩ = some (.int .i64 ((rd_T98 l0 (ji7)).f0.f2)) ∧ w'.cell? ⟨(ad143.add (((ji7)).toNat * 8)).block, (ad143.add (((ji7)).toNat * 8)).off + 3, none⟩ = some (.int .i64 ((rd_T98 l0 (ji7)).f0.f3)) ∧ w'.cell? ⟨(ad143.add (((ji7)).toNat * 8)).block, (ad143.add (((ji7)).toNat * 8)).off + 4, none⟩ = some (.int .i64 ((rd_T98 l0 (ji7)).f0.f4)) ∧ w'.cell? ⟨(ad143.add (((ji7)).toNat * 8)).block, (ad143.add (((ji7)).toNat * 8)).off + 5, none⟩ = some (.int .i64 ((rd_T98 l0 (ji7)).f1)) ∧ w'.cell? ⟨(ad143.add (((ji7)).toNat * 8)).block, (ad143.add (((ji7)).toNat * 8)).off + 6, none⟩ = some (.int .i64 ((rd_T98 l0 (ji7)).f2)) ∧ w'.cell? ⟨(ad143.add (((ji7)).toNat * 8)).block, (ad143.add (((ji7)).toNat * 8)).off + 7, none⟩ = some (.int .i64 ((rd_T98 l0 (ji7)).f3)) ∧ w'.cell? (ad143.add ((x3_1).toNat * 8)) = some (.int .i64 ((rd_T98 l0 x3_1).f0.f0)) ∧ w'.cell? ⟨(ad143.add ((x3_1).toNat * 8)).block, (ad143.add ((x3_1).toNat * 8)).off + 1, none⟩ = some (.int .i64 ((rd_T98 l0 x3_1).f0.f1)) ∧ w'.cell? ⟨(ad143.add ((x3_1).toNat * 8)).block, (ad143.add ((x3_1).toNat * 8)).off + 2, none⟩ = some (.int .i64 ((rd_T98 l0 x3_1).f0.f2)) ∧ w'.cell? ⟨(ad143.add ((x3_1).toNat * 8)).block, (ad143.add ((x3_1).toNat * 8)).off + 3, none⟩ = some (.int .i64 ((rd_T98 l0 x3_1).f0.f3)) ∧ w'.cell? ⟨(ad143.add ((x3_1).toNat * 8)).block, (ad143.add ((x3_1).toNat * 8)).off + 4, none⟩ = some (.int .i64 ((rd_T98 l0 x3_1).f0.f4)) ∧ w'.cell? ⟨(ad143.add ((x3_1).toNat * 8)).block, (ad143.add ((x3_1).toNat * 8)).off + 5, none⟩ = some (.int .i64 ((rd_T98 l0 x3_1).f1)) ∧ w'.cell? ⟨(ad143.add ((x3_1).toNat * 8)).block, (ad143.add ((x3_1).toNat * 8)).off + 6, none⟩ = some (.int .i64 ((rd_T98 l0 x3_1).f2)) ∧ w'.cell? ⟨(ad143.add ((x3_1).toNat * 8)).block, (ad143.add ((x3_1).toNat * 8)).off + 7, none⟩ = some (.int .i64 ((rd_T98 l0 x3_1).f3))) (ds := []) (bR [0, 26]) (by kernel_rfl) rfl rfl ⟨((HB.out.cell (World.block_lt_of_cell? w _ hw143_0)).trans hw143_0), ((HB.out.cell (World.block_lt_of_cell? w _ hw143_1)).trans hw143_1), ((HB.out.cell (World.block_lt_of_cell? w _ hw143_2)).trans hw143_2), ((HB.out.cell (World.block_lt_of_cell? w _ hw143_3)).trans hw143_3), ((HB.out.cell (World.block_lt_of_cell? w _ hw143_4)).trans hw143_4), ((HB.out.cell (World.block_lt_of_cell? w _ hw143_5)).trans hw143_5), ((HB.out.cell (World.block_lt_of_cell? w _ hw143_6)).trans hw143_6), ((HB.out.cell (World.block_lt_of_cell? w _ hw143_7)).trans hw143_7), ((HB.out.cell (World.block_lt_of_cell? w _ hw145_0)).trans hw145_0), ((HB.out.cell (World.block_lt_of_cell? w _ hw145_1)).trans hw145_1), ((HB.out.cell (World.block_lt_of_cell? w _ hw145_2)).trans hw145_2), ((HB.out.cell (World.block_lt_of_cell? w _ hw145_3)).trans hw145_3), ((HB.out.cell (World.block_lt_of_cell? w _ hw145_4)).trans hw145_4), ((HB.out.cell (World.block_lt_of_cell? w _ hw145_5)).trans hw145_5), ((HB.out.cell (World.block_lt_of_cell? w _ hw145_6)).trans hw145_6), ((HB.out.cell (World.block_lt_of_cell? w _ hw145_7)).trans hw145_7), ((HB.out.cell (World.block_lt_of_cell? w _ hw146_0)).trans hw146_0), ((HB.out.cell (World.block_lt_of_cell? w _ hw146_1)).trans hw146_1), ((HB.out.cell (World.block_lt_of_cell? w _ hw146_2)).trans hw146_2), ((HB.out.cell (World.block_lt_of_cell? w _ hw146_3)).trans hw146_3), ((HB.out.cell (World.block_lt_of_cell? w _ hw146_4)).trans hw146_4), ((HB.out.cell (World.block_lt_of_cell? w _ hw146_5)).trans hw146_5), ((HB.out.cell (World.block_lt_of_cell? w _ hw146_6)).trans hw146_6), ((HB.out.cell (World.block_lt_of_cell? w _ hw146_7)).trans hw146_7)⟩ (fun hHeld => ?_); refine with_tabW spec_AreFinds.tab4 spec_AreFinds.bits4 (fun HT_ HW_ => ?_)
          generalize wr.drew = w13 at HB hx143_0 hx143_1 hx143_2 hx143_3 hx143_4 hx143_5 hx143_6 hx143_7 hx145_0 hx145_1 hx145_2 hx145_3 hx145_4 hx145_5 hx145_6 hx145_7 hx146_0 hx146_1 hx146_2 hx146_3 hx146_4 hx146_5 hx146_6 hx146_7 hHeld ⊢
          refine pP 0 10 (bR [1, 25]) rfl rfl HT_ ?_
          refine pP 1 11 (bR [2, 24]) rfl rfl HT_ ?_
          refine pP 2 12 (bR [3, 23]) rfl rfl HT_ ?_
          refine take_ (i := 3) (N := some 13) (v := ?_) (a' := ?_) (bR [4, 22]) rfl rfl (take_ofW HT_.out HW_.out (by kernel_rfl)) (fun _ _ _ h => h) (Or.inl ⟨by rfl, ?_⟩) hHeld ?_ ?_
          rotate_left; (rintro w' ⟨s0, s1, s2, s3, s4, s5, s6, s7, s8, s9, s10, s11, s12, s13, s14, s15, s16, s17, s18, s19, s20, s21, s22, s23⟩; go_simp; with_reducible rfl); rotate_left; (simp only [Act.put, sA, sZ, sS, i64_w]; rfl)
          refine one_ (i := 4) (N := some 14) (bR [5, 21]) rfl rfl (one_of HT_.out (by kernel_rfl)) (by decide) (fun K hK => ?_)
          refine goes_ Try.func181 (by kernel_rfl) rfl #[.agg #[.int .i64 ((rd_T98 l0 x3_1).f0.f0), .int .i64 ((rd_T98 l0 x3_1).f0.f1), .int .i64 ((rd_T98 l0 x3_1).f0.f2), .int .i64 ((rd_T98 l0 x3_1).f0.f3), .int .i64 ((rd_T98 l0 x3_1).f0.f4), .int .i64 ((rd_T98 l0 x3_1).f1), .int .i64 ((rd_T98 l0 x3_1).f2), .int .i64 ((rd_T98 l0 x3_1).f3)]] (by rfl) rfl rfl (by (try simp only [mA, mC, mN]); first | done | rfl | (simp only [lD, lT]; rfl)) ?_
          with_reducible refine (spec_IsFind.calls ((rd_T98 l0 x3_1).f0.f0) ((rd_T98 l0 x3_1).f0.f1) ((rd_T98 l0 x3_1).f0.f2) ((rd_T98 l0 x3_1).f0.f3) ((rd_T98 l0 x3_1).f0.f4) ((rd_T98 l0 x3_1).f1) ((rd_T98 l0 x3_1).f2) ((rd_T98 l0 x3_1).f3) true _ A4.out).mono ?_
          rintro e w14 ⟨rfl, hb⟩
          refine ⟨_, rfl, ?_⟩
          have n0_ := Aside0.mk (below_step (qB HB) hb)
          clear HB
          have HB := n0_
          clear n0_
          (try clear hb)
          (try clear hb2)
          (try clear hk)
          (try clear hi)
          refine hK.out _ _ ⟨((HB.out.cell (World.block_lt_of_cell? w _ hw143_0)).trans hw143_0), ((HB.out.cell (World.block_lt_of_cell? w _ hw143_1)).trans hw143_1), ((HB.out.cell (World.block_lt_of_cell? w _ hw143_2)).trans hw143_2), ((HB.out.cell (World.block_lt_of_cell? w _ hw143_3)).trans hw143_3), ((HB.out.cell (World.block_lt_of_cell? w _ hw143_4)).trans hw143_4), ((HB.out.cell (World.block_lt_of_cell? w _ hw143_5)).trans hw143_5), ((HB.out.cell (World.block_lt_of_cell? w _ hw143_6)).trans hw143_6), ((HB.out.cell (World.block_lt_of_cell? w _ hw143_7)).trans hw143_7), ((HB.out.cell (World.block_lt_of_cell? w _ hw145_0)).trans hw145_0), ((HB.out.cell (World.block_lt_of_cell? w _ hw145_1)).trans hw145_1), ((HB.out.cell (World.block_lt_of_cell? w _ hw145_2)).trans hw145_2), ((HB.out.cell (World.block_lt_of_cell? w _ hw145_3)).trans hw145_3), ((HB.out.cell (World.block_lt_of_cell? w _ hw145_4)).trans hw145_4), ((HB.out.cell (World.block_lt_of_cell? w _ hw145_5)).trans hw145_5), ((HB.out.cell (World.block_lt_of_cell? w _ hw145_6)).trans hw145_6), ((HB.out.cell (World.block_lt_of_cell? w _ hw145_7)).trans hw145_7), ((HB.out.cell (World.block_lt_of_cell? w _ hw146_0)).trans hw146_0), ((HB.out.cell (World.block_lt_of_cell? w _ hw146_1)).trans hw146_1), ((HB.out.cell (World.block_lt_of_cell? w _ hw146_2)).trans hw146_2), ((HB.out.cell (World.block_lt_of_cell? w _ hw146_3)).trans hw146_3), ((HB.out.cell (World.block_lt_of_cell? w _ hw146_4)).trans hw146_4), ((HB.out.cell (World.block_lt_of_cell? w _ hw146_5)).trans hw146_5), ((HB.out.cell (World.block_lt_of_cell? w _ hw146_6)).trans hw146_6), ((HB.out.cell (World.block_lt_of_cell? w _ hw146_7)).trans hw146_7)⟩ (fun hHeld => ?_)
          clear hK K
          refine norm_ (a' := ?_) ?_ ?_
          rotate_left
          ·show Act.put _ (some 14) _ = _
           simp only [Act.put, sA, sZ, sS, i64_w]
           rfl
          refine pP 5 15 (bR [6, 20]) rfl rfl HT_ ?_
          refine pP 6 16 (bR [7, 19]) rfl rfl HT_ ?_
          refine pP 7 17 (bR [8, 18]) rfl rfl HT_ ?_
          refine pP 8 18 (bR [9, 17]) rfl rfl HT_ ?_
          refine pP 9 19 (bR [10, 16]) rfl rfl HT_ ?_
          refine pP 10 20 (bR [11, 15]) rfl rfl HT_ ?_
          refine pP 11 21 (bR [12, 14]) rfl rfl HT_ ?_
          refine pP 12 22 (bR [13, 13]) rfl rfl HT_ ?_
          refine pP 13 23 (bR [14, 12]) rfl rfl HT_ ?_
          refine pP 14 24 (bR [15, 11]) rfl rfl HT_ ?_
          refine pP 15 25 (bR [16, 10]) rfl rfl HT_ ?_
          refine pP 17 27 (bR [16, 1, 1, 8]) rfl rfl HT_ ?_
          refine pP 18 28 (bR [16, 1, 2, 7]) rfl rfl HT_ ?_
          refine pP 19 29 (bR [16, 1, 3, 6]) rfl rfl HT_ ?_
          refine pP 20 30 (bR [16, 1, 4, 5]) rfl rfl HT_ ?_
          refine pP 21 31 (bR [16, 1, 5, 4]) rfl rfl HT_ ?_
          refine take_ (i := 16) (N := some 26) (v := ?_) (a' := ?_) (bR [22, 4]) rfl rfl (take_ofW HT_.out HW_.out (by kernel_rfl)) (fun _ _ _ h => h) (Or.inl ⟨by rfl, ?_⟩) hHeld ?_ ?_
          rotate_left; (rintro w' ⟨s0, s1, s2, s3, s4, s5, s6, s7, s8, s9, s10, s11, s12, s13, s14, s15, s16, s17, s18, s19, s20, s21, s22, s23⟩; go_simp; with_reducible rfl); rotate_left; (simp only [Act.put, sA, sZ, sS, i64_w]; rfl)
          refine take_ (i := 22) (N := some 32) (v := ?_) (a' := ?_) (bR [23, 3]) rfl rfl (take_ofW HT_.out HW_.out (by kernel_rfl)) (fun _ _ _ h => h) (Or.inl ⟨by rfl, ?_⟩) hHeld ?_ ?_
          rotate_left; (rintro w' ⟨s0, s1, s2, s3, s4, s5, s6, s7, s8, s9, s10, s11, s12, s13, s14, s15, s16, s17, s18, s19, s20, s21, s22, s23⟩; go_simp; with_reducible rfl); rotate_left; (simp only [Act.put, sA, sZ, sS, i64_w]; rfl)
          refine pP 23 33 (bR [24, 2]) rfl rfl HT_ ?_
          refine pP 24 34 (bR [25, 1]) rfl rfl HT_ ?_
          refine pP 25 35 (bR [26]) rfl rfl HT_ ?_
          refine done_ (done_of HT_.out (by kernel_rfl)) ?_
          try go_wp2
          go_roundg k1
          case measure => have := HK1.out; omega
          case rel => exact ⟨(wrap64 (x3_1 + 1)), (by first | rfl | (simp; done) | (simp [*]; done)), H', ⟨by have := HK1.out; omega⟩, ⟨by repeat (first | (with_reducible first | exact HB.out | apply below_alloc | apply pw_below_drewN | apply below_drew1) | exact HB.out)⟩⟩
        ·rw [if_neg c9] at H
         exact absurd H (by simp)
       ·rw [if_neg c8] at H
        exact absurd H (by simp)
      ·rw [if_neg c6] at H
       have c6b0 : decide (0 < x3_1) = false := decide_eq_false c6
       clear c6
       have H' := Aside0.mk H
       clear H
       try go_wp2
       have n0_ := Aside0.mk (below_drew1 HB.out)
       clear HB
       have HB := n0_
       clear n0_
       have p143 : 0 ≤ (x3_1 : Int) := of_decide_eq_true ‹_›
       have q143 : x3_1 < (l0.length : Int) := of_decide_eq_true ‹_›
       obtain ⟨ad143, e143, hx143_0, hx143_1, hx143_2, hx143_3, hx143_4, hx143_5, hx143_6, hx143_7⟩ := at_T98 HR0.out x3_1 p143 q143
       have hw143_7 := hx143_7
       have hw143_6 := hx143_6
       have hw143_5 := hx143_5
       have hw143_4 := hx143_4
       have hw143_3 := hx143_3
       have hw143_2 := hx143_2
       have hw143_1 := hx143_1
       have hw143_0 := hx143_0
       cases e143
       replace hx143_0 := (HB.out.cell (World.block_lt_of_cell? w _ hx143_0)).trans hx143_0
       replace hx143_1 := (HB.out.cell (World.block_lt_of_cell? w _ hx143_1)).trans hx143_1
       replace hx143_2 := (HB.out.cell (World.block_lt_of_cell? w _ hx143_2)).trans hx143_2
       replace hx143_3 := (HB.out.cell (World.block_lt_of_cell? w _ hx143_3)).trans hx143_3
       replace hx143_4 := (HB.out.cell (World.block_lt_of_cell? w _ hx143_4)).trans hx143_4
       replace hx143_5 := (HB.out.cell (World.block_lt_of_cell? w _ hx143_5)).trans hx143_5
       replace hx143_6 := (HB.out.cell (World.block_lt_of_cell? w _ hx143_6)).trans hx143_6
       replace hx143_7 := (HB.out.cell (World.block_lt_of_cell? w _ hx143_7)).trans hx143_7
       replace p143 := eq_true p143
       replace q143 := eq_true q143
       refine start_ (n := 26) (S := fun w' => w'.cell? (ad143.add ((x3_1).toNat * 8)) = some (.int .i64 ((rd_T98 l0 x3_1).f0.f0)) ∧ w'.cell? ⟨(ad143.add ((x3_1).toNat * 8)).block, (ad143.add ((x3_1).toNat * 8)).off + 1, none⟩ = some (.int .i64 ((rd_T98 l0 x3_1).f0.f1)) ∧ w'.cell? ⟨(ad143.add ((x3_1).toNat * 8)).block, (ad143.add ((x3_1).toNat * 8)).off + 2, none⟩ = some (.int .i64 ((rd_T98 l0 x3_1).f0.f2)) ∧ w'.cell? ⟨(ad143.add ((x3_1).toNat * 8)).block, (ad143.add ((x3_1).toNat * 8)).off + 3, none⟩ = some (.int .i64 ((rd_T98 l0 x3_1).f0.f3)) ∧ w'.cell? ⟨(ad143.add ((x3_1).toNat * 8)).block, (ad143.add ((x3_1).toNat * 8)).off + 4, none⟩ = some (.int .i64 ((rd_T98 l0 x3_1).f0.f4)) ∧ w'.cell? ⟨(ad143.add ((x3_1).toNat * 8)).block, (ad143.add ((x3_1).toNat * 8)).off + 5, none⟩ = some (.int .i64 ((rd_T98 l0 x3_1).f1)) ∧ w'.cell? ⟨(ad143.add ((x3_1).toNat * 8)).block, (ad143.add ((x3_1).toNat * 8)).off + 6, none⟩ = some (.int .i64 ((rd_T98 l0 x3_1).f2)) ∧ w'.cell? ⟨(ad143.add ((x3_1).toNat * 8)).block, (ad143.add ((x3_1).toNat * 8)).off + 7, none⟩ = some (.int .i64 ((rd_T98 l0 x3_1).f3))) (ds := []) (bR [0, 26]) (by kernel_rfl) rfl rfl ⟨((HB.out.cell (World.block_lt_of_cell? w _ hw143_0)).trans hw143_0), ((HB.out.cell (World.block_lt_of_cell? w _ hw143_1)).trans hw143_1), ((HB.out.cell (World.block_lt_of_cell? w _ hw143_2)).trans hw143_2), ((HB.out.cell (World.block_lt_of_cell? w _ hw143_3)).trans hw143_3), ((HB.out.cell (World.block_lt_of_cell? w _ hw143_4)).trans hw143_4), ((HB.out.cell (World.block_lt_of_cell? w _ hw143_5)).trans hw143_5), ((HB.out.cell (World.block_lt_of_cell? w _ hw143_6)).trans hw143_6), ((HB.out.cell (World.block_lt_of_cell? w _ hw143_7)).trans hw143_7)⟩ (fun hHeld => ?_); refine with_tabW spec_AreFinds.tab4 spec_AreFinds.bits4 (fun HT_ HW_ => ?_)
       generalize wr.drew = w15 at HB hx143_0 hx143_1 hx143_2 hx143_3 hx143_4 hx143_5 hx143_6 hx143_7 hHeld ⊢
       refine pP 0 10 (bR [1, 25]) rfl rfl HT_ ?_
       refine pP 1 11 (bR [2, 24]) rfl rfl HT_ ?_
       refine pP 2 12 (bR [3, 23]) rfl rfl HT_ ?_
       refine take_ (i := 3) (N := some 13) (v := ?_) (a' := ?_) (bR [4, 22]) rfl rfl (take_ofW HT_.out HW_.out (by kernel_rfl)) (fun _ _ _ h => h) (Or.inl ⟨by rfl, ?_⟩) hHeld ?_ ?_
       rotate_left; (rintro w' ⟨s0, s1, s2, s3, s4, s5, s6, s7⟩; go_simp; with_reducible rfl); rotate_left; (simp only [Act.put, sA, sZ, sS, i64_w]; rfl)
       refine one_ (i := 4) (N := some 14) (bR [5, 21]) rfl rfl (one_of HT_.out (by kernel_rfl)) (by decide) (fun K hK => ?_)
       refine goes_ Try.func181 (by kernel_rfl) rfl #[.agg #[.int .i64 ((rd_T98 l0 x3_1).f0.f0), .int .i64 ((rd_T98 l0 x3_1).f0.f1), .int .i64 ((rd_T98 l0 x3_1).f0.f2), .int .i64 ((rd_T98 l0 x3_1).f0.f3), .int .i64 ((rd_T98 l0 x3_1).f0.f4), .int .i64 ((rd_T98 l0 x3_1).f1), .int .i64 ((rd_T98 l0 x3_1).f2), .int .i64 ((rd_T98 l0 x3_1).f3)]] (by rfl) rfl rfl (by (try simp only [mA, mC, mN]); first | done | rfl | (simp only [lD, lT]; rfl)) ?_
       with_reducible refine (spec_IsFind.calls ((rd_T98 l0 x3_1).f0.f0) ((rd_T98 l0 x3_1).f0.f1) ((rd_T98 l0 x3_1).f0.f2) ((rd_T98 l0 x3_1).f0.f3) ((rd_T98 l0 x3_1).f0.f4) ((rd_T98 l0 x3_1).f1) ((rd_T98 l0 x3_1).f2) ((rd_T98 l0 x3_1).f3) true _ A4.out).mono ?_
       rintro e w16 ⟨rfl, hb⟩
       refine ⟨_, rfl, ?_⟩
       have n0_ := Aside0.mk (below_step (qB HB) hb)
       clear HB
       have HB := n0_
       clear n0_
       (try clear hb)
       (try clear hb2)
       (try clear hk)
       (try clear hi)
       refine hK.out _ _ ⟨((HB.out.cell (World.block_lt_of_cell? w _ hw143_0)).trans hw143_0), ((HB.out.cell (World.block_lt_of_cell? w _ hw143_1)).trans hw143_1), ((HB.out.cell (World.block_lt_of_cell? w _ hw143_2)).trans hw143_2), ((HB.out.cell (World.block_lt_of_cell? w _ hw143_3)).trans hw143_3), ((HB.out.cell (World.block_lt_of_cell? w _ hw143_4)).trans hw143_4), ((HB.out.cell (World.block_lt_of_cell? w _ hw143_5)).trans hw143_5), ((HB.out.cell (World.block_lt_of_cell? w _ hw143_6)).trans hw143_6), ((HB.out.cell (World.block_lt_of_cell? w _ hw143_7)).trans hw143_7)⟩ (fun hHeld => ?_)
       clear hK K
       refine norm_ (a' := ?_) ?_ ?_
       rotate_left
       ·show Act.put _ (some 14) _ = _
        simp only [Act.put, sA, sZ, sS, i64_w]
        rfl
       refine pP 5 15 (bR [6, 20]) rfl rfl HT_ ?_
       refine pP 6 16 (bR [7, 19]) rfl rfl HT_ ?_
       refine pP 7 17 (bR [8, 18]) rfl rfl HT_ ?_
       refine pP 8 18 (bR [9, 17]) rfl rfl HT_ ?_
       refine pP 9 19 (bR [10, 16]) rfl rfl HT_ ?_
       refine pU 10 20 (bR [11, 15]) rfl rfl HT_ ?_
       refine pU 11 21 (bR [12, 14]) rfl rfl HT_ ?_
       refine pU 12 22 (bR [13, 13]) rfl rfl HT_ ?_
       refine pU 13 23 (bR [14, 12]) rfl rfl HT_ ?_
       refine pU 14 24 (bR [15, 11]) rfl rfl HT_ ?_
       refine pU 15 25 (bR [16, 10]) rfl rfl HT_ ?_
       refine pU 16 26 (bR [17, 9]) rfl rfl HT_ ?_
       refine pU 17 27 (bR [18, 8]) rfl rfl HT_ ?_
       refine pU 18 28 (bR [19, 7]) rfl rfl HT_ ?_
       refine pU 19 29 (bR [20, 6]) rfl rfl HT_ ?_
       refine pU 20 30 (bR [21, 5]) rfl rfl HT_ ?_
       refine pU 21 31 (bR [22, 4]) rfl rfl HT_ ?_
       refine pU 22 32 (bR [23, 3]) rfl rfl HT_ ?_
       refine pU 23 33 (bR [24, 2]) rfl rfl HT_ ?_
       refine pP 24 34 (bR [25, 1]) rfl rfl HT_ ?_
       refine pP 25 35 (bR [26]) rfl rfl HT_ ?_
       refine done_ (done_of HT_.out (by kernel_rfl)) ?_
       try go_wp2
       go_roundg k1
       case measure => have := HK1.out; omega
       case rel => exact ⟨(wrap64 (x3_1 + 1)), (by first | rfl | (simp; done) | (simp [*]; done)), H', ⟨by have := HK1.out; omega⟩, ⟨by repeat (first | (with_reducible first | exact HB.out | apply below_alloc | apply pw_below_drewN | apply below_drew1) | exact HB.out)⟩⟩
     ·replace c5 := Bool.eq_false_iff.mpr c5
      subst c5
      have H1 : (some false) = some r := by rw [if_neg (show ¬ (false = true) by decide)] at H; exact H
      clear H
      have H := H1
      clear H1
      obtain rfl := Option.some.inj H
      try go_wp2
      have n0_ := Aside0.mk (below_drew1 HB.out)
      clear HB
      have HB := n0_
      clear n0_
      have p143 : 0 ≤ (x3_1 : Int) := of_decide_eq_true ‹_›
      have q143 : x3_1 < (l0.length : Int) := of_decide_eq_true ‹_›
      obtain ⟨ad143, e143, hx143_0, hx143_1, hx143_2, hx143_3, hx143_4, hx143_5, hx143_6, hx143_7⟩ := at_T98 HR0.out x3_1 p143 q143
      have hw143_7 := hx143_7
      have hw143_6 := hx143_6
      have hw143_5 := hx143_5
      have hw143_4 := hx143_4
      have hw143_3 := hx143_3
      have hw143_2 := hx143_2
      have hw143_1 := hx143_1
      have hw143_0 := hx143_0
      cases e143
      replace hx143_0 := (HB.out.cell (World.block_lt_of_cell? w _ hx143_0)).trans hx143_0
      replace hx143_1 := (HB.out.cell (World.block_lt_of_cell? w _ hx143_1)).trans hx143_1
      replace hx143_2 := (HB.out.cell (World.block_lt_of_cell? w _ hx143_2)).trans hx143_2
      replace hx143_3 := (HB.out.cell (World.block_lt_of_cell? w _ hx143_3)).trans hx143_3
      replace hx143_4 := (HB.out.cell (World.block_lt_of_cell? w _ hx143_4)).trans hx143_4
      replace hx143_5 := (HB.out.cell (World.block_lt_of_cell? w _ hx143_5)).trans hx143_5
      replace hx143_6 := (HB.out.cell (World.block_lt_of_cell? w _ hx143_6)).trans hx143_6
      replace hx143_7 := (HB.out.cell (World.block_lt_of_cell? w _ hx143_7)).trans hx143_7
      replace p143 := eq_true p143
      replace q143 := eq_true q143
      refine start_ (n := 26) (S := fun w' => w'.cell? (ad143.add ((x3_1).toNat * 8)) = some (.int .i64 ((rd_T98 l0 x3_1).f0.f0)) ∧ w'.cell? ⟨(ad143.add ((x3_1).toNat * 8)).block, (ad143.add ((x3_1).toNat * 8)).off + 1, none⟩ = some (.int .i64 ((rd_T98 l0 x3_1).f0.f1)) ∧ w'.cell? ⟨(ad143.add ((x3_1).toNat * 8)).block, (ad143.add ((x3_1).toNat * 8)).off + 2, none⟩ = some (.int .i64 ((rd_T98 l0 x3_1).f0.f2)) ∧ w'.cell? ⟨(ad143.add ((x3_1).toNat * 8)).block, (ad143.add ((x3_1).toNat * 8)).off + 3, none⟩ = some (.int .i64 ((rd_T98 l0 x3_1).f0.f3)) ∧ w'.cell? ⟨(ad143.add ((x3_1).toNat * 8)).block, (ad143.add ((x3_1).toNat * 8)).off + 4, none⟩ = some (.int .i64 ((rd_T98 l0 x3_1).f0.f4)) ∧ w'.cell? ⟨(ad143.add ((x3_1).toNat * 8)).block, (ad143.add ((x3_1).toNat * 8)).off + 5, none⟩ = some (.int .i64 ((rd_T98 l0 x3_1).f1)) ∧ w'.cell? ⟨(ad143.add ((x3_1).toNat * 8)).block, (ad143.add ((x3_1).toNat * 8)).off + 6, none⟩ = some (.int .i64 ((rd_T98 l0 x3_1).f2)) ∧ w'.cell? ⟨(ad143.add ((x3_1).toNat * 8)).block, (ad143.add ((x3_1).toNat * 8)).off + 7, none⟩ = some (.int .i64 ((rd_T98 l0 x3_1).f3))) (ds := []) (bR [0, 26]) (by kernel_rfl) rfl rfl ⟨((HB.out.cell (World.block_lt_of_cell? w _ hw143_0)).trans hw143_0), ((HB.out.cell (World.block_lt_of_cell? w _ hw143_1)).trans hw143_1), ((HB.out.cell (World.block_lt_of_cell? w _ hw143_2)).trans hw143_2), ((HB.out.cell (World.block_lt_of_cell? w _ hw143_3)).trans hw143_3), ((HB.out.cell (World.block_lt_of_cell? w _ hw143_4)).trans hw143_4), ((HB.out.cell (World.block_lt_of_cell? w _ hw143_5)).trans hw143_5), ((HB.out.cell (World.block_lt_of_cell? w _ hw143_6)).trans hw143_6), ((HB.out.cell (World.block_lt_of_cell? w _ hw143_7)).trans hw143_7)⟩ (fun hHeld => ?_); refine with_tabW spec_AreFinds.tab4 spec_AreFinds.bits4 (fun HT_ HW_ => ?_)
      generalize wr.drew = w17 at HB hx143_0 hx143_1 hx143_2 hx143_3 hx143_4 hx143_5 hx143_6 hx143_7 hHeld ⊢
      refine pP 0 10 (bR [1, 25]) rfl rfl HT_ ?_
      refine pP 1 11 (bR [2, 24]) rfl rfl HT_ ?_
      refine pP 2 12 (bR [3, 23]) rfl rfl HT_ ?_
      refine take_ (i := 3) (N := some 13) (v := ?_) (a' := ?_) (bR [4, 22]) rfl rfl (take_ofW HT_.out HW_.out (by kernel_rfl)) (fun _ _ _ h => h) (Or.inl ⟨by rfl, ?_⟩) hHeld ?_ ?_
      rotate_left; (rintro w' ⟨s0, s1, s2, s3, s4, s5, s6, s7⟩; go_simp; with_reducible rfl); rotate_left; (simp only [Act.put, sA, sZ, sS, i64_w]; rfl)
      refine one_ (i := 4) (N := some 14) (bR [5, 21]) rfl rfl (one_of HT_.out (by kernel_rfl)) (by decide) (fun K hK => ?_)
      refine goes_ Try.func181 (by kernel_rfl) rfl #[.agg #[.int .i64 ((rd_T98 l0 x3_1).f0.f0), .int .i64 ((rd_T98 l0 x3_1).f0.f1), .int .i64 ((rd_T98 l0 x3_1).f0.f2), .int .i64 ((rd_T98 l0 x3_1).f0.f3), .int .i64 ((rd_T98 l0 x3_1).f0.f4), .int .i64 ((rd_T98 l0 x3_1).f1), .int .i64 ((rd_T98 l0 x3_1).f2), .int .i64 ((rd_T98 l0 x3_1).f3)]] (by rfl) rfl rfl (by (try simp only [mA, mC, mN]); first | done | rfl | (simp only [lD, lT]; rfl)) ?_
      with_reducible refine (spec_IsFind.calls ((rd_T98 l0 x3_1).f0.f0) ((rd_T98 l0 x3_1).f0.f1) ((rd_T98 l0 x3_1).f0.f2) ((rd_T98 l0 x3_1).f0.f3) ((rd_T98 l0 x3_1).f0.f4) ((rd_T98 l0 x3_1).f1) ((rd_T98 l0 x3_1).f2) ((rd_T98 l0 x3_1).f3) false _ A4.out).mono ?_
      rintro e w18 ⟨rfl, hb⟩
      refine ⟨_, rfl, ?_⟩
      have n0_ := Aside0.mk (below_step (qB HB) hb)
      clear HB
      have HB := n0_
      clear n0_
      (try clear hb)
      (try clear hb2)
      (try clear hk)
      (try clear hi)
      refine hK.out _ _ ⟨((HB.out.cell (World.block_lt_of_cell? w _ hw143_0)).trans hw143_0), ((HB.out.cell (World.block_lt_of_cell? w _ hw143_1)).trans hw143_1), ((HB.out.cell (World.block_lt_of_cell? w _ hw143_2)).trans hw143_2), ((HB.out.cell (World.block_lt_of_cell? w _ hw143_3)).trans hw143_3), ((HB.out.cell (World.block_lt_of_cell? w _ hw143_4)).trans hw143_4), ((HB.out.cell (World.block_lt_of_cell? w _ hw143_5)).trans hw143_5), ((HB.out.cell (World.block_lt_of_cell? w _ hw143_6)).trans hw143_6), ((HB.out.cell (World.block_lt_of_cell? w _ hw143_7)).trans hw143_7)⟩ (fun hHeld => ?_)
      clear hK K
      refine norm_ (a' := ?_) ?_ ?_
      rotate_left
      ·show Act.put _ (some 14) _ = _
       simp only [Act.put, sA, sZ, sS, i64_w]
       rfl
      refine pP 5 15 (bR [6, 20]) rfl rfl HT_ ?_
      refine pP 6 16 (bR [7, 19]) rfl rfl HT_ ?_
      refine pU 7 17 (bR [8, 18]) rfl rfl HT_ ?_
      refine pU 8 18 (bR [9, 17]) rfl rfl HT_ ?_
      refine pU 9 19 (bR [10, 16]) rfl rfl HT_ ?_
      refine pU 10 20 (bR [11, 15]) rfl rfl HT_ ?_
      refine pU 11 21 (bR [12, 14]) rfl rfl HT_ ?_
      refine pU 12 22 (bR [13, 13]) rfl rfl HT_ ?_
      refine pU 13 23 (bR [14, 12]) rfl rfl HT_ ?_
      refine pU 14 24 (bR [15, 11]) rfl rfl HT_ ?_
      refine pU 15 25 (bR [16, 10]) rfl rfl HT_ ?_
      refine pU 16 26 (bR [17, 9]) rfl rfl HT_ ?_
      refine pU 17 27 (bR [18, 8]) rfl rfl HT_ ?_
      refine pU 18 28 (bR [19, 7]) rfl rfl HT_ ?_
      refine pU 19 29 (bR [20, 6]) rfl rfl HT_ ?_
      refine pU 20 30 (bR [21, 5]) rfl rfl HT_ ?_
      refine pU 21 31 (bR [22, 4]) rfl rfl HT_ ?_
      refine pU 22 32 (bR [23, 3]) rfl rfl HT_ ?_
      refine pU 23 33 (bR [24, 2]) rfl rfl HT_ ?_
      refine pU 24 34 (bR [25, 1]) rfl rfl HT_ ?_
      refine pP 25 35 (bR [26]) rfl rfl HT_ ?_
      refine done_ (done_of HT_.out (by kernel_rfl)) ?_
      try go_wp2
      go_ret
      exact ⟨by first | rfl | (simp [errW_none, errW_some] <;> rfl) | (simp [*, errW_none, errW_some] <;> rfl), by repeat (first | (with_reducible first | exact HB.out | apply below_alloc | apply pw_below_drewN | apply below_drew1) | exact HB.out)⟩
    ·rw [if_neg c3] at H
     exact absurd H (by simp)
   ·rw [if_neg c2] at H
    have c2b0 : decide (x3_1 < (l0.length : Int)) = false := decide_eq_false c2
    clear c2
    obtain rfl := Option.some.inj H
    go_wp2
    go_ret
    exact ⟨by first | rfl | (simp [errW_none, errW_some] <;> rfl) | (simp [*, errW_none, errW_some] <;> rfl), by repeat (first | (with_reducible first | exact HB.out | apply below_alloc | apply pw_below_drewN | apply below_drew1) | exact HB.out)⟩

end Go.Proofs.Ytppgealmedaihaa.PFnExactBestOf
