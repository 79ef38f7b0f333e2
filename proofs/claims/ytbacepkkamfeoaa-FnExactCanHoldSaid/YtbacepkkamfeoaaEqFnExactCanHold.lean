/-
  The printed functions that this law reaches, their rounds used up, and the equations that they meet.
-/
import Derived.Test.YtbacepkkamfeoaaPFnExactCanHoldx1
import Derived.Test.YtbacepkkamfeoaaPFnExactCanHoldx10
import Derived.Test.YtbacepkkamfeoaaPFnExactCanHoldx11
import Derived.Test.YtbacepkkamfeoaaPFnExactCanHoldx12
import Derived.Test.YtbacepkkamfeoaaPFnExactCanHoldx13
import Derived.Test.YtbacepkkamfeoaaPFnExactCanHoldx14
import Derived.Test.YtbacepkkamfeoaaPFnExactCanHoldx15
import Derived.Test.YtbacepkkamfeoaaPFnExactCanHoldx2
import Derived.Test.YtbacepkkamfeoaaPFnExactCanHoldx3
import Derived.Test.YtbacepkkamfeoaaPFnExactCanHoldx4
import Derived.Test.YtbacepkkamfeoaaPFnExactCanHoldx5
import Derived.Test.YtbacepkkamfeoaaPFnExactCanHoldx6
import Derived.Test.YtbacepkkamfeoaaPFnExactCanHoldx7
import Derived.Test.YtbacepkkamfeoaaPFnExactCanHoldx8
import Derived.Test.YtbacepkkamfeoaaPFnExactCanHoldx9
import Derived.Test.YtbacepkkamfeoaaLim
namespace Go.Proofs.Ytbacepkkamfeoaa.PFnExactCanHold.Pure
open Go.RowKit Go.Proofs.YtbacepkkamfeoaaW.PrintWords Go.Proofs.YtbacepkkamfeoaaW.PrintLast Go.Proofs.YtbacepkkamfeoaaW.PrintMore Go.Proofs.Ytbacepkkamfeoaa.PFnExactCanHold Go.Proofs.Ytbacepkkamfeoaa.Lim
set_option linter.unusedVariables false
set_option maxRecDepth 100000

noncomputable def spec_AreSlots.L0 (x0 : List (S51)) (x3 : Int) : Option (Bool) := lim (fun k => spec_AreSlots.l0 k x0 x3)
theorem spec_AreSlots.L0_co (x0 : List (S51)) (x3 : Int) : Co (fun k => spec_AreSlots.l0 k x0 x3) (spec_AreSlots.L0 x0 x3) := Co.base (fun k => (spec_AreSlots.mono_l k).1 _ _)
noncomputable def spec_AreSlots.J1 (x0 : List (S51)) (x3 : Int) (x53 : Bool) : Option (Bool) := lim (fun k => spec_AreSlots.j1 k x0 x3 x53)
theorem spec_AreSlots.J1_co (x0 : List (S51)) (x3 : Int) (x53 : Bool) : Co (fun k => spec_AreSlots.j1 k x0 x3 x53) (spec_AreSlots.J1 x0 x3 x53) := Co.base (fun k => (spec_AreSlots.mono_l k).2.1 _ _ _)
noncomputable def spec_AreSlots.L1 (x0 : List (S51)) (x3 : Int) (x4 : Int) : Option (Bool) := lim (fun k => spec_AreSlots.l1 k x0 x3 x4)
theorem spec_AreSlots.L1_co (x0 : List (S51)) (x3 : Int) (x4 : Int) : Co (fun k => spec_AreSlots.l1 k x0 x3 x4) (spec_AreSlots.L1 x0 x3 x4) := Co.base (fun k => (spec_AreSlots.mono_l k).2.2 _ _ _)
noncomputable def spec_AreSlots.F (l0 : List (S51)) : Option (Bool) := lim (fun k => spec_AreSlots.f k l0)
theorem spec_AreSlots.F_co (l0 : List (S51)) : Co (fun k => spec_AreSlots.f k l0) (spec_AreSlots.F l0) := Co.base (fun k => spec_AreSlots.mono _ k)
theorem spec_AreSlots.L0_eq (x0 : List (S51)) (x3 : Int) : spec_AreSlots.L0 x0 x3 = (if x3 < (x0.length : Int) then (if 0 ≤ x3 then ((spec_l1In.f ((rd_T51 x0 x3).f0) 1 99).bind fun D => (if D = true then ((spec_l1In.f ((rd_T51 x0 x3).f1) 1 50).bind fun J => (if J = true then ((spec_l1In.f ((rd_T51 x0 x3).f2) 0 999).bind fun L => (if L = true then (if x3 > 0 then (if 0 ≤ (wrap64 (x3 - 1)) then (if (wrap64 (x3 - 1)) < (x0.length : Int) then (spec_AreSlots.J1 x0 x3 (decide (((rd_T51 x0 (wrap64 (x3 - 1))).f0) ≥ ((rd_T51 x0 x3).f0)))) else (none)) else (none)) else (spec_AreSlots.J1 x0 x3 false)) else (spec_AreSlots.J1 x0 x3 true))) else (spec_AreSlots.J1 x0 x3 true))) else (spec_AreSlots.J1 x0 x3 true))) else (none)) else (some (decide ((x0.length : Int) ≤ 30)))) := by
  refine Co.step (spec_AreSlots.L0_co x0 x3) (h := fun k => spec_AreSlots.l0 (k + 1) x0 x3) (fun _ => rfl) ?_
  simp only [spec_AreSlots.l0]
  repeat' first | (with_reducible exact Co.const _) | (with_reducible exact spec_AreSlots.J1_co _ _ _) | (with_reducible refine Co.ite ?_ ?_) | (with_reducible refine Co.bind ?_ (fun _ => ?_))
theorem spec_AreSlots.J1_eq (x0 : List (S51)) (x3 : Int) (x53 : Bool) : spec_AreSlots.J1 x0 x3 x53 = (if x53 = true then (some false) else (spec_AreSlots.L1 x0 x3 0)) := by
  refine Co.step (spec_AreSlots.J1_co x0 x3 x53) (h := fun k => spec_AreSlots.j1 (k + 1) x0 x3 x53) (fun _ => rfl) ?_
  simp only [spec_AreSlots.j1]
  repeat' first | (with_reducible exact Co.const _) | (with_reducible exact spec_AreSlots.L1_co _ _ _) | (with_reducible refine Co.ite ?_ ?_) | (with_reducible refine Co.bind ?_ (fun _ => ?_))
theorem spec_AreSlots.L1_eq (x0 : List (S51)) (x3 : Int) (x4 : Int) : spec_AreSlots.L1 x0 x3 x4 = (if x4 < x3 then (if 0 ≤ x3 then (if x3 < (x0.length : Int) then (if ((rd_T51 x0 x3).f2) = 0 then (spec_AreSlots.L1 x0 x3 (wrap64 (x4 + 1))) else (if 0 ≤ x4 then (if x4 < (x0.length : Int) then (if ((rd_T51 x0 x4).f2) = ((rd_T51 x0 x3).f2) then (some false) else (spec_AreSlots.L1 x0 x3 (wrap64 (x4 + 1)))) else (none)) else (none))) else (none)) else (none)) else (spec_AreSlots.L0 x0 (wrap64 (x3 + 1)))) := by
  refine Co.step (spec_AreSlots.L1_co x0 x3 x4) (h := fun k => spec_AreSlots.l1 (k + 1) x0 x3 x4) (fun _ => rfl) ?_
  simp only [spec_AreSlots.l1]
  repeat' first | (with_reducible exact Co.const _) | (with_reducible exact spec_AreSlots.L0_co _ _) | (with_reducible exact spec_AreSlots.L1_co _ _ _) | (with_reducible refine Co.ite ?_ ?_) | (with_reducible refine Co.bind ?_ (fun _ => ?_))
theorem spec_AreSlots.F_eq (l0 : List (S51)) : spec_AreSlots.F l0 = (spec_AreSlots.L0 l0 0) := by
  refine Co.same (spec_AreSlots.F_co l0) (h := fun k => spec_AreSlots.f k l0) (fun _ => rfl) ?_
  unfold spec_AreSlots.f
  repeat' first | (with_reducible exact Co.const _) | (with_reducible exact spec_AreSlots.L0_co _ _) | (with_reducible refine Co.ite ?_ ?_) | (with_reducible refine Co.bind ?_ (fun _ => ?_))

noncomputable def spec_AreThings.L0 (x0 : List (S47)) (x3 : Int) : Option (Bool) := lim (fun k => spec_AreThings.l0 k x0 x3)
theorem spec_AreThings.L0_co (x0 : List (S47)) (x3 : Int) : Co (fun k => spec_AreThings.l0 k x0 x3) (spec_AreThings.L0 x0 x3) := Co.base (fun k => (spec_AreThings.mono_l k) _ _)
noncomputable def spec_AreThings.F (l0 : List (S47)) : Option (Bool) := lim (fun k => spec_AreThings.f k l0)
theorem spec_AreThings.F_co (l0 : List (S47)) : Co (fun k => spec_AreThings.f k l0) (spec_AreThings.F l0) := Co.base (fun k => spec_AreThings.mono _ k)
theorem spec_AreThings.L0_eq (x0 : List (S47)) (x3 : Int) : spec_AreThings.L0 x0 x3 = (if x3 < (x0.length : Int) then (if 0 ≤ x3 then ((spec_IsThing.f ((rd_T47 x0 x3).f0) ((rd_T47 x0 x3).f1) ((rd_T47 x0 x3).f2) ((rd_T47 x0 x3).f3) ((rd_T47 x0 x3).f4)).bind fun D => (if D = true then (if x3 > 0 then (if 0 ≤ (wrap64 (x3 - 1)) then (if (wrap64 (x3 - 1)) < (x0.length : Int) then (if ((rd_T47 x0 (wrap64 (x3 - 1))).f0) ≥ ((rd_T47 x0 x3).f0) then (some false) else (spec_AreThings.L0 x0 (wrap64 (x3 + 1)))) else (none)) else (none)) else (spec_AreThings.L0 x0 (wrap64 (x3 + 1)))) else (some false))) else (none)) else (some (decide ((x0.length : Int) ≤ 20)))) := by
  refine Co.step (spec_AreThings.L0_co x0 x3) (h := fun k => spec_AreThings.l0 (k + 1) x0 x3) (fun _ => rfl) ?_
  simp only [spec_AreThings.l0]
  repeat' first | (with_reducible exact Co.const _) | (with_reducible exact spec_AreThings.L0_co _ _) | (with_reducible refine Co.ite ?_ ?_) | (with_reducible refine Co.bind ?_ (fun _ => ?_))
theorem spec_AreThings.F_eq (l0 : List (S47)) : spec_AreThings.F l0 = (spec_AreThings.L0 l0 0) := by
  refine Co.same (spec_AreThings.F_co l0) (h := fun k => spec_AreThings.f k l0) (fun _ => rfl) ?_
  unfold spec_AreThings.f
  repeat' first | (with_reducible exact Co.const _) | (with_reducible exact spec_AreThings.L0_co _ _) | (with_reducible refine Co.ite ?_ ?_) | (with_reducible refine Co.bind ?_ (fun _ => ?_))

noncomputable def spec_SlotOf.L0 (x0 : List (S51)) (x1 : Int) (x5 : Int) : Option (Int) := lim (fun k => spec_SlotOf.l0 k x0 x1 x5)
theorem spec_SlotOf.L0_co (x0 : List (S51)) (x1 : Int) (x5 : Int) : Co (fun k => spec_SlotOf.l0 k x0 x1 x5) (spec_SlotOf.L0 x0 x1 x5) := Co.base (fun k => (spec_SlotOf.mono_l k) _ _ _)
noncomputable def spec_SlotOf.F (l0 : List (S51)) (a1 : Int) : Option (Int) := lim (fun k => spec_SlotOf.f k l0 a1)
theorem spec_SlotOf.F_co (l0 : List (S51)) (a1 : Int) : Co (fun k => spec_SlotOf.f k l0 a1) (spec_SlotOf.F l0 a1) := Co.base (fun k => spec_SlotOf.mono _ _ k)
theorem spec_SlotOf.L0_eq (x0 : List (S51)) (x1 : Int) (x5 : Int) : spec_SlotOf.L0 x0 x1 x5 = (if x5 < (x0.length : Int) then (if x1 = 0 then (spec_SlotOf.L0 x0 x1 (wrap64 (x5 + 1))) else (if 0 ≤ x5 then (if ((rd_T51 x0 x5).f2) = x1 then (some ((rd_T51 x0 x5).f0)) else (spec_SlotOf.L0 x0 x1 (wrap64 (x5 + 1)))) else (none))) else (some 0)) := by
  refine Co.step (spec_SlotOf.L0_co x0 x1 x5) (h := fun k => spec_SlotOf.l0 (k + 1) x0 x1 x5) (fun _ => rfl) ?_
  simp only [spec_SlotOf.l0]
  repeat' first | (with_reducible exact Co.const _) | (with_reducible exact spec_SlotOf.L0_co _ _ _) | (with_reducible refine Co.ite ?_ ?_) | (with_reducible refine Co.bind ?_ (fun _ => ?_))
theorem spec_SlotOf.F_eq (l0 : List (S51)) (a1 : Int) : spec_SlotOf.F l0 a1 = (spec_SlotOf.L0 l0 a1 0) := by
  refine Co.same (spec_SlotOf.F_co l0 a1) (h := fun k => spec_SlotOf.f k l0 a1) (fun _ => rfl) ?_
  unfold spec_SlotOf.f
  repeat' first | (with_reducible exact Co.const _) | (with_reducible exact spec_SlotOf.L0_co _ _ _) | (with_reducible refine Co.ite ?_ ?_) | (with_reducible refine Co.bind ?_ (fun _ => ?_))

noncomputable def spec_SmallestFree.L0 (x0 : List (S51)) (x1 : Int) (x5 : Int) (x6 : Int) : Option (Int) := lim (fun k => spec_SmallestFree.l0 k x0 x1 x5 x6)
theorem spec_SmallestFree.L0_co (x0 : List (S51)) (x1 : Int) (x5 : Int) (x6 : Int) : Co (fun k => spec_SmallestFree.l0 k x0 x1 x5 x6) (spec_SmallestFree.L0 x0 x1 x5 x6) := Co.base (fun k => (spec_SmallestFree.mono_l k) _ _ _ _)
noncomputable def spec_SmallestFree.F (l0 : List (S51)) (a1 : Int) : Option (Int) := lim (fun k => spec_SmallestFree.f k l0 a1)
theorem spec_SmallestFree.F_co (l0 : List (S51)) (a1 : Int) : Co (fun k => spec_SmallestFree.f k l0 a1) (spec_SmallestFree.F l0 a1) := Co.base (fun k => spec_SmallestFree.mono _ _ k)
theorem spec_SmallestFree.L0_eq (x0 : List (S51)) (x1 : Int) (x5 : Int) (x6 : Int) : spec_SmallestFree.L0 x0 x1 x5 x6 = (if x6 < (x0.length : Int) then (if 0 ≤ x6 then (if ((rd_T51 x0 x6).f2) = 0 then (if ((rd_T51 x0 x6).f1) ≥ x1 then (if x5 < 0 then (spec_SmallestFree.L0 x0 x1 x6 (wrap64 (x6 + 1))) else (if 0 ≤ x5 then (if x5 < (x0.length : Int) then (if ((rd_T51 x0 x6).f1) < ((rd_T51 x0 x5).f1) then (spec_SmallestFree.L0 x0 x1 x6 (wrap64 (x6 + 1))) else (spec_SmallestFree.L0 x0 x1 x5 (wrap64 (x6 + 1)))) else (none)) else (none))) else (spec_SmallestFree.L0 x0 x1 x5 (wrap64 (x6 + 1)))) else (spec_SmallestFree.L0 x0 x1 x5 (wrap64 (x6 + 1)))) else (none)) else (if x5 < 0 then (some 0) else (if 0 ≤ x5 then (if x5 < (x0.length : Int) then (some ((rd_T51 x0 x5).f0)) else (none)) else (none)))) := by
  refine Co.step (spec_SmallestFree.L0_co x0 x1 x5 x6) (h := fun k => spec_SmallestFree.l0 (k + 1) x0 x1 x5 x6) (fun _ => rfl) ?_
  simp only [spec_SmallestFree.l0]
  repeat' first | (with_reducible exact Co.const _) | (with_reducible exact spec_SmallestFree.L0_co _ _ _ _) | (with_reducible refine Co.ite ?_ ?_) | (with_reducible refine Co.bind ?_ (fun _ => ?_))
theorem spec_SmallestFree.F_eq (l0 : List (S51)) (a1 : Int) : spec_SmallestFree.F l0 a1 = (spec_SmallestFree.L0 l0 a1 (-1) 0) := by
  refine Co.same (spec_SmallestFree.F_co l0 a1) (h := fun k => spec_SmallestFree.f k l0 a1) (fun _ => rfl) ?_
  unfold spec_SmallestFree.f
  repeat' first | (with_reducible exact Co.const _) | (with_reducible exact spec_SmallestFree.L0_co _ _ _ _) | (with_reducible refine Co.ite ?_ ?_) | (with_reducible refine Co.bind ?_ (fun _ => ?_))

noncomputable def spec_PutAway.J0 (x6 : List (S51)) (x7 : Int) (x34 : Bool) (x130000 : Int) (x130001 : Int) (x130002 : Int) (x130003 : Int) (x130004 : Int) : Option ((List (S51)) × Bool) := lim (fun k => spec_PutAway.j0 k x6 x7 x34 x130000 x130001 x130002 x130003 x130004)
theorem spec_PutAway.J0_co (x6 : List (S51)) (x7 : Int) (x34 : Bool) (x130000 : Int) (x130001 : Int) (x130002 : Int) (x130003 : Int) (x130004 : Int) : Co (fun k => spec_PutAway.j0 k x6 x7 x34 x130000 x130001 x130002 x130003 x130004) (spec_PutAway.J0 x6 x7 x34 x130000 x130001 x130002 x130003 x130004) := Co.base (fun k => (spec_PutAway.mono_l k).1 _ _ _ _ _ _ _ _)
noncomputable def spec_PutAway.L0 (x6 : List (S51)) (x7 : Int) (x8 : Int) (D : Int) (J : Int) (L : Int) (Y : Int) (aa : Int) : Option ((List (S51)) × Bool) := lim (fun k => spec_PutAway.l0 k x6 x7 x8 D J L Y aa)
theorem spec_PutAway.L0_co (x6 : List (S51)) (x7 : Int) (x8 : Int) (D : Int) (J : Int) (L : Int) (Y : Int) (aa : Int) : Co (fun k => spec_PutAway.l0 k x6 x7 x8 D J L Y aa) (spec_PutAway.L0 x6 x7 x8 D J L Y aa) := Co.base (fun k => (spec_PutAway.mono_l k).2 _ _ _ _ _ _ _ _)
noncomputable def spec_PutAway.F (l0 : List (S51)) (a1_0 : Int) (a1_1 : Int) (a1_2 : Int) (a1_3 : Int) (a1_4 : Int) : Option ((List (S51)) × Bool) := lim (fun k => spec_PutAway.f k l0 a1_0 a1_1 a1_2 a1_3 a1_4)
theorem spec_PutAway.F_co (l0 : List (S51)) (a1_0 : Int) (a1_1 : Int) (a1_2 : Int) (a1_3 : Int) (a1_4 : Int) : Co (fun k => spec_PutAway.f k l0 a1_0 a1_1 a1_2 a1_3 a1_4) (spec_PutAway.F l0 a1_0 a1_1 a1_2 a1_3 a1_4) := Co.base (fun k => spec_PutAway.mono _ _ _ _ _ _ k)
theorem spec_PutAway.J0_eq (x6 : List (S51)) (x7 : Int) (x34 : Bool) (x130000 : Int) (x130001 : Int) (x130002 : Int) (x130003 : Int) (x130004 : Int) : spec_PutAway.J0 x6 x7 x34 x130000 x130001 x130002 x130003 x130004 = (if x34 = true then (some (x6, false)) else (spec_PutAway.L0 x6 x7 0 x130000 x130001 x130002 x130003 x130004)) := by
  refine Co.step (spec_PutAway.J0_co x6 x7 x34 x130000 x130001 x130002 x130003 x130004) (h := fun k => spec_PutAway.j0 (k + 1) x6 x7 x34 x130000 x130001 x130002 x130003 x130004) (fun _ => rfl) ?_
  simp only [spec_PutAway.j0]
  repeat' first | (with_reducible exact Co.const _) | (with_reducible exact spec_PutAway.L0_co _ _ _ _ _ _ _ _) | (with_reducible refine Co.ite ?_ ?_) | (with_reducible refine Co.bind ?_ (fun _ => ?_))
theorem spec_PutAway.L0_eq (x6 : List (S51)) (x7 : Int) (x8 : Int) (D : Int) (J : Int) (L : Int) (Y : Int) (aa : Int) : spec_PutAway.L0 x6 x7 x8 D J L Y aa = (if x8 < (x6.length : Int) then (if 0 ≤ x8 then (if ((rd_T51 x6 x8).f0) = x7 then (spec_PutAway.L0 (x6.set (x8 : Int).toNat (⟨(rd_T51 x6 x8).f0, (rd_T51 x6 x8).f1, D⟩ : S51)) x7 (wrap64 (x8 + 1)) D J L Y aa) else (spec_PutAway.L0 x6 x7 (wrap64 (x8 + 1)) D J L Y aa)) else (none)) else (some (x6, true))) := by
  refine Co.step (spec_PutAway.L0_co x6 x7 x8 D J L Y aa) (h := fun k => spec_PutAway.l0 (k + 1) x6 x7 x8 D J L Y aa) (fun _ => rfl) ?_
  simp only [spec_PutAway.l0]
  repeat' first | (with_reducible exact Co.const _) | (with_reducible exact spec_PutAway.L0_co _ _ _ _ _ _ _ _) | (with_reducible refine Co.ite ?_ ?_) | (with_reducible refine Co.bind ?_ (fun _ => ?_))
theorem spec_PutAway.F_eq (l0 : List (S51)) (a1_0 : Int) (a1_1 : Int) (a1_2 : Int) (a1_3 : Int) (a1_4 : Int) : spec_PutAway.F l0 a1_0 a1_1 a1_2 a1_3 a1_4 = ((some (([] : List (S51)) : List (S51))).bind fun L => (if L.length + l0.length < 5864062014805 then ((some (L ++ l0 : List (S51))).bind fun J => ((spec_SmallestFree.F l0 a1_3).bind fun D => ((spec_AreSlots.F l0).bind fun Y => (if Y = true then ((spec_IsThing.f a1_0 a1_1 a1_2 a1_3 a1_4).bind fun aa => (if aa = true then (if D = 0 then (spec_PutAway.J0 J D true a1_0 a1_1 a1_2 a1_3 a1_4) else ((spec_SlotOf.F l0 a1_0).bind fun ab => (spec_PutAway.J0 J D (ab != 0) a1_0 a1_1 a1_2 a1_3 a1_4))) else (spec_PutAway.J0 J D true a1_0 a1_1 a1_2 a1_3 a1_4))) else (spec_PutAway.J0 J D true a1_0 a1_1 a1_2 a1_3 a1_4))))) else (none))) := by
  refine Co.same (spec_PutAway.F_co l0 a1_0 a1_1 a1_2 a1_3 a1_4) (h := fun k => spec_PutAway.f k l0 a1_0 a1_1 a1_2 a1_3 a1_4) (fun _ => rfl) ?_
  unfold spec_PutAway.f
  repeat' first | (with_reducible exact Co.const _) | (with_reducible exact spec_AreSlots.F_co _) | (with_reducible exact spec_PutAway.J0_co _ _ _ _ _ _ _ _) | (with_reducible exact spec_SlotOf.F_co _ _) | (with_reducible exact spec_SmallestFree.F_co _ _) | (with_reducible refine Co.ite ?_ ?_) | (with_reducible refine Co.bind ?_ (fun _ => ?_))

noncomputable def spec_l9Put.L0 (x0 : List Int) (x1 : Int) (x5 : Int) : Option (List Int) := lim (fun k => spec_l9Put.l0 k x0 x1 x5)
theorem spec_l9Put.L0_co (x0 : List Int) (x1 : Int) (x5 : Int) : Co (fun k => spec_l9Put.l0 k x0 x1 x5) (spec_l9Put.L0 x0 x1 x5) := Co.base (fun k => (spec_l9Put.mono_l k) _ _ _)
noncomputable def spec_l9Put.F (l0 : List Int) (a1 : Int) : Option (List Int) := lim (fun k => spec_l9Put.f k l0 a1)
theorem spec_l9Put.F_co (l0 : List Int) (a1 : Int) : Co (fun k => spec_l9Put.f k l0 a1) (spec_l9Put.F l0 a1) := Co.base (fun k => spec_l9Put.mono _ _ k)
theorem spec_l9Put.L0_eq (x0 : List Int) (x1 : Int) (x5 : Int) : spec_l9Put.L0 x0 x1 x5 = (if x5 < (x0.length : Int) then (if 0 ≤ x5 then (if (rd x0 x5) < x1 then (spec_l9Put.L0 x0 x1 (wrap64 (x5 + 1))) else (if (rd x0 x5) = x1 then ((some (([] : List Int) : List Int)).bind fun D => (if D.length + x0.length < 17592186044416 then (some (D ++ x0)) else (none))) else ((some (([] : List Int) : List Int)).bind fun J => (if x5 ≤ (x0.length : Int) then (if J.length + (x0.take (x5 : Int).toNat).length < 17592186044416 then ((some (J ++ (x0.take (x5 : Int).toNat) : List Int)).bind fun L => ((some (([x1] : List Int) : List Int)).bind fun Y => (if L.length + Y.length < 17592186044416 then ((some (L ++ Y : List Int)).bind fun aa => (if aa.length + (x0.drop (x5 : Int).toNat).length < 17592186044416 then (some (aa ++ (x0.drop (x5 : Int).toNat))) else (none))) else (none)))) else (none)) else (none))))) else (none)) else ((some (([] : List Int) : List Int)).bind fun ab => (if 0 ≤ x5 then (if x5 ≤ (x0.length : Int) then (if ab.length + (x0.take (x5 : Int).toNat).length < 17592186044416 then ((some (ab ++ (x0.take (x5 : Int).toNat) : List Int)).bind fun ac => ((some (([x1] : List Int) : List Int)).bind fun ad => (if ac.length + ad.length < 17592186044416 then ((some (ac ++ ad : List Int)).bind fun ae => (if ae.length + (x0.drop (x5 : Int).toNat).length < 17592186044416 then (some (ae ++ (x0.drop (x5 : Int).toNat))) else (none))) else (none)))) else (none)) else (none)) else (none)))) := by
  refine Co.step (spec_l9Put.L0_co x0 x1 x5) (h := fun k => spec_l9Put.l0 (k + 1) x0 x1 x5) (fun _ => rfl) ?_
  simp only [spec_l9Put.l0]
  repeat' first | (with_reducible exact Co.const _) | (with_reducible exact spec_l9Put.L0_co _ _ _) | (with_reducible refine Co.ite ?_ ?_) | (with_reducible refine Co.bind ?_ (fun _ => ?_))
theorem spec_l9Put.F_eq (l0 : List Int) (a1 : Int) : spec_l9Put.F l0 a1 = (spec_l9Put.L0 l0 a1 0) := by
  refine Co.same (spec_l9Put.F_co l0 a1) (h := fun k => spec_l9Put.f k l0 a1) (fun _ => rfl) ?_
  unfold spec_l9Put.f
  repeat' first | (with_reducible exact Co.const _) | (with_reducible exact spec_l9Put.L0_co _ _ _) | (with_reducible refine Co.ite ?_ ?_) | (with_reducible refine Co.bind ?_ (fun _ => ?_))

noncomputable def spec_PutAll.L0 (x0 : List (S51)) (x1 : List (S47)) (x6 : List (S51)) (x7 : List Int) (x8 : List (S47)) (x9 : Int) : Option ((List (S51)) × List Int) := lim (fun k => spec_PutAll.l0 k x0 x1 x6 x7 x8 x9)
theorem spec_PutAll.L0_co (x0 : List (S51)) (x1 : List (S47)) (x6 : List (S51)) (x7 : List Int) (x8 : List (S47)) (x9 : Int) : Co (fun k => spec_PutAll.l0 k x0 x1 x6 x7 x8 x9) (spec_PutAll.L0 x0 x1 x6 x7 x8 x9) := Co.base (fun k => (spec_PutAll.mono_l k).1 _ _ _ _ _ _)
noncomputable def spec_PutAll.J1 (x0 : List (S51)) (x1 : List (S47)) (x6 : List (S51)) (x7 : List Int) (x8 : List (S47)) (x9 : Int) (J : Bool) : Option ((List (S51)) × List Int) := lim (fun k => spec_PutAll.j1 k x0 x1 x6 x7 x8 x9 J)
theorem spec_PutAll.J1_co (x0 : List (S51)) (x1 : List (S47)) (x6 : List (S51)) (x7 : List Int) (x8 : List (S47)) (x9 : Int) (J : Bool) : Co (fun k => spec_PutAll.j1 k x0 x1 x6 x7 x8 x9 J) (spec_PutAll.J1 x0 x1 x6 x7 x8 x9 J) := Co.base (fun k => (spec_PutAll.mono_l k).2 _ _ _ _ _ _ _)
noncomputable def spec_PutAll.F (l0 : List (S51)) (l1 : List (S47)) : Option ((List (S51)) × List Int) := lim (fun k => spec_PutAll.f k l0 l1)
theorem spec_PutAll.F_co (l0 : List (S51)) (l1 : List (S47)) : Co (fun k => spec_PutAll.f k l0 l1) (spec_PutAll.F l0 l1) := Co.base (fun k => spec_PutAll.mono _ _ k)
theorem spec_PutAll.L0_eq (x0 : List (S51)) (x1 : List (S47)) (x6 : List (S51)) (x7 : List Int) (x8 : List (S47)) (x9 : Int) : spec_PutAll.L0 x0 x1 x6 x7 x8 x9 = (if x9 < (x8.length : Int) then ((spec_AreSlots.F x0).bind fun t196 => (if t196 = true then ((spec_AreThings.F x1).bind fun t197 => (spec_PutAll.J1 x0 x1 x6 x7 x8 x9 t197)) else (spec_PutAll.J1 x0 x1 x6 x7 x8 x9 false))) else (spec_PutAll.J1 x0 x1 x6 x7 x8 x9 false)) := by
  refine Co.step (spec_PutAll.L0_co x0 x1 x6 x7 x8 x9) (h := fun k => spec_PutAll.l0 (k + 1) x0 x1 x6 x7 x8 x9) (fun _ => rfl) ?_
  simp only [spec_PutAll.l0]
  repeat' first | (with_reducible exact Co.const _) | (with_reducible exact spec_AreSlots.F_co _) | (with_reducible exact spec_AreThings.F_co _) | (with_reducible exact spec_PutAll.J1_co _ _ _ _ _ _ _) | (with_reducible refine Co.ite ?_ ?_) | (with_reducible refine Co.bind ?_ (fun _ => ?_))
theorem spec_PutAll.J1_eq (x0 : List (S51)) (x1 : List (S47)) (x6 : List (S51)) (x7 : List Int) (x8 : List (S47)) (x9 : Int) (J : Bool) : spec_PutAll.J1 x0 x1 x6 x7 x8 x9 J = (if J = true then (if 0 ≤ x9 then (if x9 < (x8.length : Int) then ((spec_PutAway.F x6 ((rd_T47 x8 x9).f0) ((rd_T47 x8 x9).f1) ((rd_T47 x8 x9).f2) ((rd_T47 x8 x9).f3) ((rd_T47 x8 x9).f4)).bind fun D => (if D.2 = true then (spec_PutAll.L0 x0 x1 D.1 x7 x8 (wrap64 (x9 + 1))) else ((spec_l9Put.F x7 ((rd_T47 x8 x9).f0)).bind fun L => (spec_PutAll.L0 x0 x1 D.1 L x8 (wrap64 (x9 + 1)))))) else (none)) else (none)) else (some (x6, x7))) := by
  refine Co.step (spec_PutAll.J1_co x0 x1 x6 x7 x8 x9 J) (h := fun k => spec_PutAll.j1 (k + 1) x0 x1 x6 x7 x8 x9 J) (fun _ => rfl) ?_
  simp only [spec_PutAll.j1]
  repeat' first | (with_reducible exact Co.const _) | (with_reducible exact spec_PutAll.L0_co _ _ _ _ _ _) | (with_reducible exact spec_PutAway.F_co _ _ _ _ _ _) | (with_reducible exact spec_l9Put.F_co _ _) | (with_reducible refine Co.ite ?_ ?_) | (with_reducible refine Co.bind ?_ (fun _ => ?_))
theorem spec_PutAll.F_eq (l0 : List (S51)) (l1 : List (S47)) : spec_PutAll.F l0 l1 = ((some (([] : List (S51)) : List (S51))).bind fun y184 => (if y184.length + l0.length < 5864062014805 then ((spec_l15Sorted.f l1).bind fun t193 => (spec_PutAll.L0 l0 l1 (y184 ++ l0) (([] : List Int)) t193 0)) else (none))) := by
  refine Co.same (spec_PutAll.F_co l0 l1) (h := fun k => spec_PutAll.f k l0 l1) (fun _ => rfl) ?_
  unfold spec_PutAll.f
  repeat' first | (with_reducible exact Co.const _) | (with_reducible exact spec_PutAll.L0_co _ _ _ _ _ _) | (with_reducible refine Co.ite ?_ ?_) | (with_reducible refine Co.bind ?_ (fun _ => ?_))

noncomputable def spec_CanHold.L0 (x0 : List (S51)) (x1 : List (S47)) (x5 : Int) : Option (Bool) := lim (fun k => spec_CanHold.l0 k x0 x1 x5)
theorem spec_CanHold.L0_co (x0 : List (S51)) (x1 : List (S47)) (x5 : Int) : Co (fun k => spec_CanHold.l0 k x0 x1 x5) (spec_CanHold.L0 x0 x1 x5) := Co.base (fun k => (spec_CanHold.mono_l k) _ _ _)
noncomputable def spec_CanHold.F (l0 : List (S51)) (l1 : List (S47)) : Option (Bool) := lim (fun k => spec_CanHold.f k l0 l1)
theorem spec_CanHold.F_co (l0 : List (S51)) (l1 : List (S47)) : Co (fun k => spec_CanHold.f k l0 l1) (spec_CanHold.F l0 l1) := Co.base (fun k => spec_CanHold.mono _ _ k)
theorem spec_CanHold.L0_eq (x0 : List (S51)) (x1 : List (S47)) (x5 : Int) : spec_CanHold.L0 x0 x1 x5 = (if x5 < (x1.length : Int) then (if 0 ≤ x5 then ((spec_SlotOf.F x0 ((rd_T47 x1 x5).f0)).bind fun t208 => (if t208 = 0 then (spec_CanHold.L0 x0 x1 (wrap64 (x5 + 1))) else (some false))) else (none)) else ((spec_PutAll.F x0 x1).bind fun bt209 => ((spec_AreSlots.F x0).bind fun t215 => (if t215 = true then ((spec_AreThings.F x1).bind fun t216 => (if t216 = true then (some ((bt209.2.length : Int) == 0)) else (some false))) else (some false))))) := by
  refine Co.step (spec_CanHold.L0_co x0 x1 x5) (h := fun k => spec_CanHold.l0 (k + 1) x0 x1 x5) (fun _ => rfl) ?_
  simp only [spec_CanHold.l0]
  repeat' first | (with_reducible exact Co.const _) | (with_reducible exact spec_AreSlots.F_co _) | (with_reducible exact spec_AreThings.F_co _) | (with_reducible exact spec_CanHold.L0_co _ _ _) | (with_reducible exact spec_PutAll.F_co _ _) | (with_reducible exact spec_SlotOf.F_co _ _) | (with_reducible refine Co.ite ?_ ?_) | (with_reducible refine Co.bind ?_ (fun _ => ?_))
theorem spec_CanHold.F_eq (l0 : List (S51)) (l1 : List (S47)) : spec_CanHold.F l0 l1 = (spec_CanHold.L0 l0 l1 0) := by
  refine Co.same (spec_CanHold.F_co l0 l1) (h := fun k => spec_CanHold.f k l0 l1) (fun _ => rfl) ?_
  unfold spec_CanHold.f
  repeat' first | (with_reducible exact Co.const _) | (with_reducible exact spec_CanHold.L0_co _ _ _) | (with_reducible refine Co.ite ?_ ?_) | (with_reducible refine Co.bind ?_ (fun _ => ?_))

noncomputable def laws_toSlotS.L0 (x0 : List (S91)) (x3 : List (S51)) (x4 : Int) : Option ((List (S51))) := lim (fun k => laws_toSlotS.l0 k x0 x3 x4)
theorem laws_toSlotS.L0_co (x0 : List (S91)) (x3 : List (S51)) (x4 : Int) : Co (fun k => laws_toSlotS.l0 k x0 x3 x4) (laws_toSlotS.L0 x0 x3 x4) := Co.base (fun k => (laws_toSlotS.mono_l k) _ _ _)
noncomputable def laws_toSlotS.F (l0 : List (S91)) : Option ((List (S51))) := lim (fun k => laws_toSlotS.f k l0)
theorem laws_toSlotS.F_co (l0 : List (S91)) : Co (fun k => laws_toSlotS.f k l0) (laws_toSlotS.F l0) := Co.base (fun k => laws_toSlotS.mono _ k)
theorem laws_toSlotS.L0_eq (x0 : List (S91)) (x3 : List (S51)) (x4 : Int) : laws_toSlotS.L0 x0 x3 x4 = (if x4 < (x0.length : Int) then (if 0 ≤ x4 then ((laws_toSlot.f ((rd_T91 x0 x4).f0) ((rd_T91 x0 x4).f1) ((rd_T91 x0 x4).f2)).bind fun bt224 => (if x4 < (x3.length : Int) then (laws_toSlotS.L0 x0 (x3.set (x4 : Int).toNat (⟨bt224.1, bt224.2.1, bt224.2.2⟩ : S51)) (wrap64 (x4 + 1))) else (none))) else (none)) else (some x3)) := by
  refine Co.step (laws_toSlotS.L0_co x0 x3 x4) (h := fun k => laws_toSlotS.l0 (k + 1) x0 x3 x4) (fun _ => rfl) ?_
  simp only [laws_toSlotS.l0]
  repeat' first | (with_reducible exact Co.const _) | (with_reducible exact laws_toSlotS.L0_co _ _ _) | (with_reducible refine Co.ite ?_ ?_) | (with_reducible refine Co.bind ?_ (fun _ => ?_))
theorem laws_toSlotS.F_eq (l0 : List (S91)) : laws_toSlotS.F l0 = (if 0 ≤ (l0.length : Int) then (if ((l0.length : Int) : Int).toNat ≤ 11728124029610 then (laws_toSlotS.L0 l0 (List.replicate ((l0.length : Int) : Int).toNat z51) 0) else (none)) else (none)) := by
  refine Co.same (laws_toSlotS.F_co l0) (h := fun k => laws_toSlotS.f k l0) (fun _ => rfl) ?_
  unfold laws_toSlotS.f
  repeat' first | (with_reducible exact Co.const _) | (with_reducible exact laws_toSlotS.L0_co _ _ _) | (with_reducible refine Co.ite ?_ ?_) | (with_reducible refine Co.bind ?_ (fun _ => ?_))

noncomputable def laws_toThingS.L0 (x0 : List (S55)) (x3 : List (S47)) (x4 : Int) : Option ((List (S47))) := lim (fun k => laws_toThingS.l0 k x0 x3 x4)
theorem laws_toThingS.L0_co (x0 : List (S55)) (x3 : List (S47)) (x4 : Int) : Co (fun k => laws_toThingS.l0 k x0 x3 x4) (laws_toThingS.L0 x0 x3 x4) := Co.base (fun k => (laws_toThingS.mono_l k) _ _ _)
noncomputable def laws_toThingS.F (l0 : List (S55)) : Option ((List (S47))) := lim (fun k => laws_toThingS.f k l0)
theorem laws_toThingS.F_co (l0 : List (S55)) : Co (fun k => laws_toThingS.f k l0) (laws_toThingS.F l0) := Co.base (fun k => laws_toThingS.mono _ k)
theorem laws_toThingS.L0_eq (x0 : List (S55)) (x3 : List (S47)) (x4 : Int) : laws_toThingS.L0 x0 x3 x4 = (if x4 < (x0.length : Int) then (if 0 ≤ x4 then ((laws_toThing.f ((rd_T55 x0 x4).f0) ((rd_T55 x0 x4).f1) ((rd_T55 x0 x4).f2) ((rd_T55 x0 x4).f3) ((rd_T55 x0 x4).f4)).bind fun bt235 => (if x4 < (x3.length : Int) then (laws_toThingS.L0 x0 (x3.set (x4 : Int).toNat (⟨bt235.1, bt235.2.1, bt235.2.2.1, bt235.2.2.2.1, bt235.2.2.2.2⟩ : S47)) (wrap64 (x4 + 1))) else (none))) else (none)) else (some x3)) := by
  refine Co.step (laws_toThingS.L0_co x0 x3 x4) (h := fun k => laws_toThingS.l0 (k + 1) x0 x3 x4) (fun _ => rfl) ?_
  simp only [laws_toThingS.l0]
  repeat' first | (with_reducible exact Co.const _) | (with_reducible exact laws_toThingS.L0_co _ _ _) | (with_reducible refine Co.ite ?_ ?_) | (with_reducible refine Co.bind ?_ (fun _ => ?_))
theorem laws_toThingS.F_eq (l0 : List (S55)) : laws_toThingS.F l0 = (if 0 ≤ (l0.length : Int) then (if ((l0.length : Int) : Int).toNat ≤ 7036874417766 then (laws_toThingS.L0 l0 (List.replicate ((l0.length : Int) : Int).toNat z47) 0) else (none)) else (none)) := by
  refine Co.same (laws_toThingS.F_co l0) (h := fun k => laws_toThingS.f k l0) (fun _ => rfl) ?_
  unfold laws_toThingS.f
  repeat' first | (with_reducible exact Co.const _) | (with_reducible exact laws_toThingS.L0_co _ _ _) | (with_reducible refine Co.ite ?_ ?_) | (with_reducible refine Co.bind ?_ (fun _ => ?_))

noncomputable def impl_AreSlots.L0 (x0 : List (S51)) (x8 : List (S51)) (x9 : Int) (D : Int) : Option (Bool) := lim (fun k => impl_AreSlots.l0 k x0 x8 x9 D)
theorem impl_AreSlots.L0_co (x0 : List (S51)) (x8 : List (S51)) (x9 : Int) (D : Int) : Co (fun k => impl_AreSlots.l0 k x0 x8 x9 D) (impl_AreSlots.L0 x0 x8 x9 D) := Co.base (fun k => (impl_AreSlots.mono_l k) _ _ _ _)
noncomputable def impl_AreSlots.F (l0 : List (S51)) : Option (Bool) := lim (fun k => impl_AreSlots.f k l0)
theorem impl_AreSlots.F_co (l0 : List (S51)) : Co (fun k => impl_AreSlots.f k l0) (impl_AreSlots.F l0) := Co.base (fun k => impl_AreSlots.mono _ k)
theorem impl_AreSlots.L0_eq (x0 : List (S51)) (x8 : List (S51)) (x9 : Int) (D : Int) : impl_AreSlots.L0 x0 x8 x9 D = (if D < x9 then (if 0 ≤ D then (if D < (x8.length : Int) then ((impl_InRange.f ((rd_T51 x8 D).f0) 1 99).bind fun J => (if J = true then (if D > 0 then (if 0 ≤ (wrap64 (D - 1)) then (if (wrap64 (D - 1)) < (x0.length : Int) then (if ((rd_T51 x8 D).f0) ≤ ((rd_T51 x0 (wrap64 (D - 1))).f0) then (some false) else ((impl_InRange.f ((rd_T51 x8 D).f1) 1 50).bind fun L => (if L = true then ((impl_InRange.f ((rd_T51 x8 D).f2) 0 999).bind fun Y => (if Y = true then (if D ≤ (x0.length : Int) then ((impl_SlotOf.f (x0.take (D : Int).toNat) ((rd_T51 x8 D).f2)).bind fun aa => (if aa = 0 then (impl_AreSlots.L0 x0 x8 x9 (wrap64 (D + 1))) else (some false))) else (none)) else (some false))) else (some false)))) else (none)) else (none)) else ((impl_InRange.f ((rd_T51 x8 D).f1) 1 50).bind fun ab => (if ab = true then ((impl_InRange.f ((rd_T51 x8 D).f2) 0 999).bind fun ac => (if ac = true then (if D ≤ (x0.length : Int) then ((impl_SlotOf.f (x0.take (D : Int).toNat) ((rd_T51 x8 D).f2)).bind fun ad => (if ad = 0 then (impl_AreSlots.L0 x0 x8 x9 (wrap64 (D + 1))) else (some false))) else (none)) else (some false))) else (some false)))) else (some false))) else (none)) else (none)) else (some true)) := by
  refine Co.step (impl_AreSlots.L0_co x0 x8 x9 D) (h := fun k => impl_AreSlots.l0 (k + 1) x0 x8 x9 D) (fun _ => rfl) ?_
  simp only [impl_AreSlots.l0]
  repeat' first | (with_reducible exact Co.const _) | (with_reducible exact impl_AreSlots.L0_co _ _ _ _) | (with_reducible refine Co.ite ?_ ?_) | (with_reducible refine Co.bind ?_ (fun _ => ?_))
theorem impl_AreSlots.F_eq (l0 : List (S51)) : impl_AreSlots.F l0 = (if (l0.length : Int) > 30 then (some false) else (impl_AreSlots.L0 l0 l0 (l0.length : Int) 0)) := by
  refine Co.same (impl_AreSlots.F_co l0) (h := fun k => impl_AreSlots.f k l0) (fun _ => rfl) ?_
  unfold impl_AreSlots.f
  repeat' first | (with_reducible exact Co.const _) | (with_reducible exact impl_AreSlots.L0_co _ _ _ _) | (with_reducible refine Co.ite ?_ ?_) | (with_reducible refine Co.bind ?_ (fun _ => ?_))

noncomputable def impl_AreThings.L0 (x0 : List (S47)) (x8 : List (S47)) (x9 : Int) (D : Int) : Option (Bool) := lim (fun k => impl_AreThings.l0 k x0 x8 x9 D)
theorem impl_AreThings.L0_co (x0 : List (S47)) (x8 : List (S47)) (x9 : Int) (D : Int) : Co (fun k => impl_AreThings.l0 k x0 x8 x9 D) (impl_AreThings.L0 x0 x8 x9 D) := Co.base (fun k => (impl_AreThings.mono_l k) _ _ _ _)
noncomputable def impl_AreThings.F (l0 : List (S47)) : Option (Bool) := lim (fun k => impl_AreThings.f k l0)
theorem impl_AreThings.F_co (l0 : List (S47)) : Co (fun k => impl_AreThings.f k l0) (impl_AreThings.F l0) := Co.base (fun k => impl_AreThings.mono _ k)
theorem impl_AreThings.L0_eq (x0 : List (S47)) (x8 : List (S47)) (x9 : Int) (D : Int) : impl_AreThings.L0 x0 x8 x9 D = (if D < x9 then (if 0 ≤ D then (if D < (x8.length : Int) then ((impl_IsThing.f ((rd_T47 x8 D).f0) ((rd_T47 x8 D).f1) ((rd_T47 x8 D).f2) ((rd_T47 x8 D).f3) ((rd_T47 x8 D).f4)).bind fun J => (if J = true then (if D > 0 then (if 0 ≤ (wrap64 (D - 1)) then (if (wrap64 (D - 1)) < (x0.length : Int) then (if ((rd_T47 x8 D).f0) ≤ ((rd_T47 x0 (wrap64 (D - 1))).f0) then (some false) else (impl_AreThings.L0 x0 x8 x9 (wrap64 (D + 1)))) else (none)) else (none)) else (impl_AreThings.L0 x0 x8 x9 (wrap64 (D + 1)))) else (some false))) else (none)) else (none)) else (some true)) := by
  refine Co.step (impl_AreThings.L0_co x0 x8 x9 D) (h := fun k => impl_AreThings.l0 (k + 1) x0 x8 x9 D) (fun _ => rfl) ?_
  simp only [impl_AreThings.l0]
  repeat' first | (with_reducible exact Co.const _) | (with_reducible exact impl_AreThings.L0_co _ _ _ _) | (with_reducible refine Co.ite ?_ ?_) | (with_reducible refine Co.bind ?_ (fun _ => ?_))
theorem impl_AreThings.F_eq (l0 : List (S47)) : impl_AreThings.F l0 = (if (l0.length : Int) > 20 then (some false) else (impl_AreThings.L0 l0 l0 (l0.length : Int) 0)) := by
  refine Co.same (impl_AreThings.F_co l0) (h := fun k => impl_AreThings.f k l0) (fun _ => rfl) ?_
  unfold impl_AreThings.f
  repeat' first | (with_reducible exact Co.const _) | (with_reducible exact impl_AreThings.L0_co _ _ _ _) | (with_reducible refine Co.ite ?_ ?_) | (with_reducible refine Co.bind ?_ (fun _ => ?_))

noncomputable def impl_freeFor.L0 (x0 : List (S51)) (x1 : Int) (x5 : Int) (x8 : List (S51)) (x9 : Int) (D : Int) : Option (Int) := lim (fun k => impl_freeFor.l0 k x0 x1 x5 x8 x9 D)
theorem impl_freeFor.L0_co (x0 : List (S51)) (x1 : Int) (x5 : Int) (x8 : List (S51)) (x9 : Int) (D : Int) : Co (fun k => impl_freeFor.l0 k x0 x1 x5 x8 x9 D) (impl_freeFor.L0 x0 x1 x5 x8 x9 D) := Co.base (fun k => (impl_freeFor.mono_l k) _ _ _ _ _ _)
noncomputable def impl_freeFor.F (l0 : List (S51)) (a1 : Int) : Option (Int) := lim (fun k => impl_freeFor.f k l0 a1)
theorem impl_freeFor.F_co (l0 : List (S51)) (a1 : Int) : Co (fun k => impl_freeFor.f k l0 a1) (impl_freeFor.F l0 a1) := Co.base (fun k => impl_freeFor.mono _ _ k)
theorem impl_freeFor.L0_eq (x0 : List (S51)) (x1 : Int) (x5 : Int) (x8 : List (S51)) (x9 : Int) (D : Int) : impl_freeFor.L0 x0 x1 x5 x8 x9 D = (if D < x9 then (if 0 ≤ D then (if D < (x8.length : Int) then (if ((rd_T51 x8 D).f2) = 0 then (if ((rd_T51 x8 D).f1) ≥ x1 then (if x5 < 0 then (impl_freeFor.L0 x0 x1 D x8 x9 (wrap64 (D + 1))) else (if 0 ≤ x5 then (if x5 < (x0.length : Int) then (if ((rd_T51 x8 D).f1) < ((rd_T51 x0 x5).f1) then (impl_freeFor.L0 x0 x1 D x8 x9 (wrap64 (D + 1))) else (impl_freeFor.L0 x0 x1 x5 x8 x9 (wrap64 (D + 1)))) else (none)) else (none))) else (impl_freeFor.L0 x0 x1 x5 x8 x9 (wrap64 (D + 1)))) else (impl_freeFor.L0 x0 x1 x5 x8 x9 (wrap64 (D + 1)))) else (none)) else (none)) else (some x5)) := by
  refine Co.step (impl_freeFor.L0_co x0 x1 x5 x8 x9 D) (h := fun k => impl_freeFor.l0 (k + 1) x0 x1 x5 x8 x9 D) (fun _ => rfl) ?_
  simp only [impl_freeFor.l0]
  repeat' first | (with_reducible exact Co.const _) | (with_reducible exact impl_freeFor.L0_co _ _ _ _ _ _) | (with_reducible refine Co.ite ?_ ?_) | (with_reducible refine Co.bind ?_ (fun _ => ?_))
theorem impl_freeFor.F_eq (l0 : List (S51)) (a1 : Int) : impl_freeFor.F l0 a1 = (impl_freeFor.L0 l0 a1 (-1) l0 (l0.length : Int) 0) := by
  refine Co.same (impl_freeFor.F_co l0 a1) (h := fun k => impl_freeFor.f k l0 a1) (fun _ => rfl) ?_
  unfold impl_freeFor.f
  repeat' first | (with_reducible exact Co.const _) | (with_reducible exact impl_freeFor.L0_co _ _ _ _ _ _) | (with_reducible refine Co.ite ?_ ?_) | (with_reducible refine Co.bind ?_ (fun _ => ?_))

noncomputable def impl_PutAway.F (l0 : List (S51)) (a1_0 : Int) (a1_1 : Int) (a1_2 : Int) (a1_3 : Int) (a1_4 : Int) : Option ((List (S51)) × Bool) := lim (fun k => impl_PutAway.f k l0 a1_0 a1_1 a1_2 a1_3 a1_4)
theorem impl_PutAway.F_co (l0 : List (S51)) (a1_0 : Int) (a1_1 : Int) (a1_2 : Int) (a1_3 : Int) (a1_4 : Int) : Co (fun k => impl_PutAway.f k l0 a1_0 a1_1 a1_2 a1_3 a1_4) (impl_PutAway.F l0 a1_0 a1_1 a1_2 a1_3 a1_4) := Co.base (fun k => impl_PutAway.mono _ _ _ _ _ _ k)
theorem impl_PutAway.F_eq (l0 : List (S51)) (a1_0 : Int) (a1_1 : Int) (a1_2 : Int) (a1_3 : Int) (a1_4 : Int) : impl_PutAway.F l0 a1_0 a1_1 a1_2 a1_3 a1_4 = ((impl_Slot_68.f l0).bind fun D => ((impl_freeFor.F l0 a1_3).bind fun J => ((impl_AreSlots.F l0).bind fun L => (if L = true then ((impl_IsThing.f a1_0 a1_1 a1_2 a1_3 a1_4).bind fun Y => (if Y = true then (if J < 0 then (some (D, false)) else ((impl_slotWith.f l0 a1_0).bind fun aa => (if aa ≥ 0 then (some (D, false)) else (if 0 ≤ J then (if J < (D.length : Int) then (some ((D.set (J : Int).toNat (⟨(rd_T51 D J).f0, (rd_T51 D J).f1, a1_0⟩ : S51)), true)) else (none)) else (none))))) else (some (D, false)))) else (some (D, false)))))) := by
  refine Co.same (impl_PutAway.F_co l0 a1_0 a1_1 a1_2 a1_3 a1_4) (h := fun k => impl_PutAway.f k l0 a1_0 a1_1 a1_2 a1_3 a1_4) (fun _ => rfl) ?_
  unfold impl_PutAway.f
  repeat' first | (with_reducible exact Co.const _) | (with_reducible exact impl_AreSlots.F_co _) | (with_reducible exact impl_freeFor.F_co _ _) | (with_reducible refine Co.ite ?_ ?_) | (with_reducible refine Co.bind ?_ (fun _ => ?_))

noncomputable def impl_PutAll.J0 (x1 : List (S47)) (x6 : List (S51)) (x7 : List Int) (x22 : Bool) : Option ((List (S51)) × List Int) := lim (fun k => impl_PutAll.j0 k x1 x6 x7 x22)
theorem impl_PutAll.J0_co (x1 : List (S47)) (x6 : List (S51)) (x7 : List Int) (x22 : Bool) : Co (fun k => impl_PutAll.j0 k x1 x6 x7 x22) (impl_PutAll.J0 x1 x6 x7 x22) := Co.base (fun k => (impl_PutAll.mono_l k).1 _ _ _ _)
noncomputable def impl_PutAll.L0 (x6 : List (S51)) (x7 : List Int) (J : List (S47)) (L : Int) (D : Int) : Option ((List (S51)) × List Int) := lim (fun k => impl_PutAll.l0 k x6 x7 J L D)
theorem impl_PutAll.L0_co (x6 : List (S51)) (x7 : List Int) (J : List (S47)) (L : Int) (D : Int) : Co (fun k => impl_PutAll.l0 k x6 x7 J L D) (impl_PutAll.L0 x6 x7 J L D) := Co.base (fun k => (impl_PutAll.mono_l k).2 _ _ _ _ _)
noncomputable def impl_PutAll.F (l0 : List (S51)) (l1 : List (S47)) : Option ((List (S51)) × List Int) := lim (fun k => impl_PutAll.f k l0 l1)
theorem impl_PutAll.F_co (l0 : List (S51)) (l1 : List (S47)) : Co (fun k => impl_PutAll.f k l0 l1) (impl_PutAll.F l0 l1) := Co.base (fun k => impl_PutAll.mono _ _ k)
theorem impl_PutAll.J0_eq (x1 : List (S47)) (x6 : List (S51)) (x7 : List Int) (x22 : Bool) : impl_PutAll.J0 x1 x6 x7 x22 = (if x22 = true then (some (x6, x7)) else ((impl_Thing_69.f x1).bind fun t303 => ((impl_Thing_70.f t303 777777).bind fun t306 => (impl_PutAll.L0 x6 x7 t306 (t303.length : Int) 0)))) := by
  refine Co.step (impl_PutAll.J0_co x1 x6 x7 x22) (h := fun k => impl_PutAll.j0 (k + 1) x1 x6 x7 x22) (fun _ => rfl) ?_
  simp only [impl_PutAll.j0]
  repeat' first | (with_reducible exact Co.const _) | (with_reducible exact impl_PutAll.L0_co _ _ _ _ _) | (with_reducible refine Co.ite ?_ ?_) | (with_reducible refine Co.bind ?_ (fun _ => ?_))
theorem impl_PutAll.L0_eq (x6 : List (S51)) (x7 : List Int) (J : List (S47)) (L : Int) (D : Int) : impl_PutAll.L0 x6 x7 J L D = (if D < L then (if 0 ≤ D then (if D < (J.length : Int) then ((impl_PutAway.F x6 ((rd_T47 J D).f0) ((rd_T47 J D).f1) ((rd_T47 J D).f2) ((rd_T47 J D).f3) ((rd_T47 J D).f4)).bind fun Y => (if Y.2 = true then (impl_PutAll.L0 Y.1 x7 J L (wrap64 (D + 1))) else (if x7.length < 17592186044416 then (impl_PutAll.L0 Y.1 (x7 ++ [(rd_T47 J D).f0]) J L (wrap64 (D + 1))) else (none)))) else (none)) else (none)) else ((slices_Sort_int_int.f x7).bind fun aa => (some (x6, aa)))) := by
  refine Co.step (impl_PutAll.L0_co x6 x7 J L D) (h := fun k => impl_PutAll.l0 (k + 1) x6 x7 J L D) (fun _ => rfl) ?_
  simp only [impl_PutAll.l0]
  repeat' first | (with_reducible exact Co.const _) | (with_reducible exact impl_PutAll.L0_co _ _ _ _ _) | (with_reducible exact impl_PutAway.F_co _ _ _ _ _ _) | (with_reducible refine Co.ite ?_ ?_) | (with_reducible refine Co.bind ?_ (fun _ => ?_))
theorem impl_PutAll.F_eq (l0 : List (S51)) (l1 : List (S47)) : impl_PutAll.F l0 l1 = ((impl_Slot_68.f l0).bind fun t295 => ((some (([] : List Int) : List Int)).bind fun y298 => ((impl_AreSlots.F l0).bind fun t301 => (if t301 = true then ((impl_AreThings.F l1).bind fun t302 => (impl_PutAll.J0 l1 t295 y298 (!t302))) else (impl_PutAll.J0 l1 t295 y298 true))))) := by
  refine Co.same (impl_PutAll.F_co l0 l1) (h := fun k => impl_PutAll.f k l0 l1) (fun _ => rfl) ?_
  unfold impl_PutAll.f
  repeat' first | (with_reducible exact Co.const _) | (with_reducible exact impl_AreSlots.F_co _) | (with_reducible exact impl_AreThings.F_co _) | (with_reducible exact impl_PutAll.J0_co _ _ _ _) | (with_reducible refine Co.ite ?_ ?_) | (with_reducible refine Co.bind ?_ (fun _ => ?_))

noncomputable def impl_CanHold.F (l0 : List (S51)) (l1 : List (S47)) : Option (Bool) := lim (fun k => impl_CanHold.f k l0 l1)
theorem impl_CanHold.F_co (l0 : List (S51)) (l1 : List (S47)) : Co (fun k => impl_CanHold.f k l0 l1) (impl_CanHold.F l0 l1) := Co.base (fun k => impl_CanHold.mono _ _ k)
theorem impl_CanHold.F_eq (l0 : List (S51)) (l1 : List (S47)) : impl_CanHold.F l0 l1 = ((impl_AreSlots.F l0).bind fun t317 => (if t317 = true then ((impl_AreThings.F l1).bind fun t318 => (if t318 = true then ((impl_PutAll.F l0 l1).bind fun bt319 => (some ((bt319.2.length : Int) == 0))) else (some false))) else (some false))) := by
  refine Co.same (impl_CanHold.F_co l0 l1) (h := fun k => impl_CanHold.f k l0 l1) (fun _ => rfl) ?_
  unfold impl_CanHold.f
  repeat' first | (with_reducible exact Co.const _) | (with_reducible exact impl_AreSlots.F_co _) | (with_reducible exact impl_AreThings.F_co _) | (with_reducible exact impl_PutAll.F_co _ _) | (with_reducible refine Co.ite ?_ ?_) | (with_reducible refine Co.bind ?_ (fun _ => ?_))

noncomputable def laws_eqSlotS.L0 (x0 : List (S51)) (x1 : List (S51)) (x5 : Int) : Option (Bool) := lim (fun k => laws_eqSlotS.l0 k x0 x1 x5)
theorem laws_eqSlotS.L0_co (x0 : List (S51)) (x1 : List (S51)) (x5 : Int) : Co (fun k => laws_eqSlotS.l0 k x0 x1 x5) (laws_eqSlotS.L0 x0 x1 x5) := Co.base (fun k => (laws_eqSlotS.mono_l k) _ _ _)
noncomputable def laws_eqSlotS.F (l0 : List (S51)) (l1 : List (S51)) : Option (Bool) := lim (fun k => laws_eqSlotS.f k l0 l1)
theorem laws_eqSlotS.F_co (l0 : List (S51)) (l1 : List (S51)) : Co (fun k => laws_eqSlotS.f k l0 l1) (laws_eqSlotS.F l0 l1) := Co.base (fun k => laws_eqSlotS.mono _ _ k)
theorem laws_eqSlotS.L0_eq (x0 : List (S51)) (x1 : List (S51)) (x5 : Int) : laws_eqSlotS.L0 x0 x1 x5 = (if x5 < (x0.length : Int) then (if 0 ≤ x5 then (if x5 < (x1.length : Int) then ((laws_eqSlot.f ((rd_T51 x0 x5).f0) ((rd_T51 x0 x5).f1) ((rd_T51 x0 x5).f2) ((rd_T51 x1 x5).f0) ((rd_T51 x1 x5).f1) ((rd_T51 x1 x5).f2)).bind fun t329 => (if t329 = true then (laws_eqSlotS.L0 x0 x1 (wrap64 (x5 + 1))) else (some false))) else (none)) else (none)) else (some true)) := by
  refine Co.step (laws_eqSlotS.L0_co x0 x1 x5) (h := fun k => laws_eqSlotS.l0 (k + 1) x0 x1 x5) (fun _ => rfl) ?_
  simp only [laws_eqSlotS.l0]
  repeat' first | (with_reducible exact Co.const _) | (with_reducible exact laws_eqSlotS.L0_co _ _ _) | (with_reducible refine Co.ite ?_ ?_) | (with_reducible refine Co.bind ?_ (fun _ => ?_))
theorem laws_eqSlotS.F_eq (l0 : List (S51)) (l1 : List (S51)) : laws_eqSlotS.F l0 l1 = (if (l0.length : Int) = (l1.length : Int) then (laws_eqSlotS.L0 l0 l1 0) else (some false)) := by
  refine Co.same (laws_eqSlotS.F_co l0 l1) (h := fun k => laws_eqSlotS.f k l0 l1) (fun _ => rfl) ?_
  unfold laws_eqSlotS.f
  repeat' first | (with_reducible exact Co.const _) | (with_reducible exact laws_eqSlotS.L0_co _ _ _) | (with_reducible refine Co.ite ?_ ?_) | (with_reducible refine Co.bind ?_ (fun _ => ?_))

noncomputable def laws_eqThingS.L0 (x0 : List (S47)) (x1 : List (S47)) (x5 : Int) : Option (Bool) := lim (fun k => laws_eqThingS.l0 k x0 x1 x5)
theorem laws_eqThingS.L0_co (x0 : List (S47)) (x1 : List (S47)) (x5 : Int) : Co (fun k => laws_eqThingS.l0 k x0 x1 x5) (laws_eqThingS.L0 x0 x1 x5) := Co.base (fun k => (laws_eqThingS.mono_l k) _ _ _)
noncomputable def laws_eqThingS.F (l0 : List (S47)) (l1 : List (S47)) : Option (Bool) := lim (fun k => laws_eqThingS.f k l0 l1)
theorem laws_eqThingS.F_co (l0 : List (S47)) (l1 : List (S47)) : Co (fun k => laws_eqThingS.f k l0 l1) (laws_eqThingS.F l0 l1) := Co.base (fun k => laws_eqThingS.mono _ _ k)
theorem laws_eqThingS.L0_eq (x0 : List (S47)) (x1 : List (S47)) (x5 : Int) : laws_eqThingS.L0 x0 x1 x5 = (if x5 < (x0.length : Int) then (if 0 ≤ x5 then (if x5 < (x1.length : Int) then ((laws_eqThing.f ((rd_T47 x0 x5).f0) ((rd_T47 x0 x5).f1) ((rd_T47 x0 x5).f2) ((rd_T47 x0 x5).f3) ((rd_T47 x0 x5).f4) ((rd_T47 x1 x5).f0) ((rd_T47 x1 x5).f1) ((rd_T47 x1 x5).f2) ((rd_T47 x1 x5).f3) ((rd_T47 x1 x5).f4)).bind fun t334 => (if t334 = true then (laws_eqThingS.L0 x0 x1 (wrap64 (x5 + 1))) else (some false))) else (none)) else (none)) else (some true)) := by
  refine Co.step (laws_eqThingS.L0_co x0 x1 x5) (h := fun k => laws_eqThingS.l0 (k + 1) x0 x1 x5) (fun _ => rfl) ?_
  simp only [laws_eqThingS.l0]
  repeat' first | (with_reducible exact Co.const _) | (with_reducible exact laws_eqThingS.L0_co _ _ _) | (with_reducible refine Co.ite ?_ ?_) | (with_reducible refine Co.bind ?_ (fun _ => ?_))
theorem laws_eqThingS.F_eq (l0 : List (S47)) (l1 : List (S47)) : laws_eqThingS.F l0 l1 = (if (l0.length : Int) = (l1.length : Int) then (laws_eqThingS.L0 l0 l1 0) else (some false)) := by
  refine Co.same (laws_eqThingS.F_co l0 l1) (h := fun k => laws_eqThingS.f k l0 l1) (fun _ => rfl) ?_
  unfold laws_eqThingS.f
  repeat' first | (with_reducible exact Co.const _) | (with_reducible exact laws_eqThingS.L0_co _ _ _) | (with_reducible refine Co.ite ?_ ?_) | (with_reducible refine Co.bind ?_ (fun _ => ?_))

noncomputable def laws_FnExactCanHold.F (l0 : List (S91)) (l1 : List (S55)) : Option (Bool) := lim (fun k => laws_FnExactCanHold.f k l0 l1)
theorem laws_FnExactCanHold.F_co (l0 : List (S91)) (l1 : List (S55)) : Co (fun k => laws_FnExactCanHold.f k l0 l1) (laws_FnExactCanHold.F l0 l1) := Co.base (fun k => laws_FnExactCanHold.mono _ _ k)
theorem laws_FnExactCanHold.F_eq (l0 : List (S91)) (l1 : List (S55)) : laws_FnExactCanHold.F l0 l1 = ((laws_szSlotS.f l0 1048576).bind fun D => (if D < 0 then (some true) else ((laws_szThingS.f l1 D).bind fun Y => (if Y < 0 then (some true) else ((laws_toSlotS.F l0).bind fun aa => ((laws_toThingS.F l1).bind fun ab => ((spec_CanHold.F aa ab).bind fun ac => ((laws_toSlotS.F l0).bind fun J => ((laws_toThingS.F l1).bind fun L => ((impl_CanHold.F J L).bind fun ad => (if (ad != ac) = true then (some false) else ((laws_toSlotS.F l0).bind fun ae => ((laws_eqSlotS.F J ae).bind fun af => (if af = true then ((laws_toThingS.F l1).bind fun ag => ((laws_eqThingS.F L ag).bind fun ah => (if ah = true then (some true) else (some false)))) else (some false))))))))))))))) := by
  refine Co.same (laws_FnExactCanHold.F_co l0 l1) (h := fun k => laws_FnExactCanHold.f k l0 l1) (fun _ => rfl) ?_
  unfold laws_FnExactCanHold.f
  repeat' first | (with_reducible exact Co.const _) | (with_reducible exact impl_CanHold.F_co _ _) | (with_reducible exact laws_eqSlotS.F_co _ _) | (with_reducible exact laws_eqThingS.F_co _ _) | (with_reducible exact laws_toSlotS.F_co _) | (with_reducible exact laws_toThingS.F_co _) | (with_reducible exact spec_CanHold.F_co _ _) | (with_reducible refine Co.ite ?_ ?_) | (with_reducible refine Co.bind ?_ (fun _ => ?_))

end Go.Proofs.Ytbacepkkamfeoaa.PFnExactCanHold.Pure
