/-
  The printed functions that this law reaches, their rounds used up, and the equations that they meet.
-/
import Derived.Test.YtbacepkkamfeoaaPFnExactPutAllx1
import Derived.Test.YtbacepkkamfeoaaPFnExactPutAllx10
import Derived.Test.YtbacepkkamfeoaaPFnExactPutAllx11
import Derived.Test.YtbacepkkamfeoaaPFnExactPutAllx12
import Derived.Test.YtbacepkkamfeoaaPFnExactPutAllx13
import Derived.Test.YtbacepkkamfeoaaPFnExactPutAllx14
import Derived.Test.YtbacepkkamfeoaaPFnExactPutAllx15
import Derived.Test.YtbacepkkamfeoaaPFnExactPutAllx16
import Derived.Test.YtbacepkkamfeoaaPFnExactPutAllx2
import Derived.Test.YtbacepkkamfeoaaPFnExactPutAllx3
import Derived.Test.YtbacepkkamfeoaaPFnExactPutAllx4
import Derived.Test.YtbacepkkamfeoaaPFnExactPutAllx5
import Derived.Test.YtbacepkkamfeoaaPFnExactPutAllx6
import Derived.Test.YtbacepkkamfeoaaPFnExactPutAllx7
import Derived.Test.YtbacepkkamfeoaaPFnExactPutAllx8
import Derived.Test.YtbacepkkamfeoaaPFnExactPutAllx9
import Derived.Test.YtbacepkkamfeoaaLim
namespace Go.Proofs.Ytbacepkkamfeoaa.PFnExactPutAll.Pure
open Go.RowKit Go.Proofs.YtbacepkkamfeoaaW.PrintWords Go.Proofs.YtbacepkkamfeoaaW.PrintLast Go.Proofs.YtbacepkkamfeoaaW.PrintMore Go.Proofs.Ytbacepkkamfeoaa.PFnExactPutAll Go.Proofs.Ytbacepkkamfeoaa.Lim
set_option linter.unusedVariables false
set_option maxRecDepth 100000

noncomputable def laws_toSlotS.L0 (x0 : List (S91)) (x3 : List (S51)) (x4 : Int) : Option ((List (S51))) := lim (fun k => laws_toSlotS.l0 k x0 x3 x4)
theorem laws_toSlotS.L0_co (x0 : List (S91)) (x3 : List (S51)) (x4 : Int) : Co (fun k => laws_toSlotS.l0 k x0 x3 x4) (laws_toSlotS.L0 x0 x3 x4) := Co.base (fun k => (laws_toSlotS.mono_l k) _ _ _)
noncomputable def laws_toSlotS.F (l0 : List (S91)) : Option ((List (S51))) := lim (fun k => laws_toSlotS.f k l0)
theorem laws_toSlotS.F_co (l0 : List (S91)) : Co (fun k => laws_toSlotS.f k l0) (laws_toSlotS.F l0) := Co.base (fun k => laws_toSlotS.mono _ k)
theorem laws_toSlotS.L0_eq (x0 : List (S91)) (x3 : List (S51)) (x4 : Int) : laws_toSlotS.L0 x0 x3 x4 = (if x4 < (x0.length : Int) then (if 0 ≤ x4 then ((laws_toSlot.f ((rd_T91 x0 x4).f0) ((rd_T91 x0 x4).f1) ((rd_T91 x0 x4).f2)).bind fun bt108 => (if x4 < (x3.length : Int) then (laws_toSlotS.L0 x0 (x3.set (x4 : Int).toNat (⟨bt108.1, bt108.2.1, bt108.2.2⟩ : S51)) (wrap64 (x4 + 1))) else (none))) else (none)) else (some x3)) := by
  refine Co.step (laws_toSlotS.L0_co x0 x3 x4) (h := fun k => laws_toSlotS.l0 (k + 1) x0 x3 x4) (fun _ => rfl) ?_
  simp only [laws_toSlotS.l0]
  repeat' first | (with_reducible exact Co.const _) | (with_reducible exact laws_toSlotS.L0_co _ _ _) | (with_reducible refine Co.ite ?_ ?_) | (with_reducible refine Co.bind ?_ (fun _ => ?_))
theorem laws_toSlotS.F_eq (l0 : List (S91)) : laws_toSlotS.F l0 = (if 0 ≤ (l0.length : Int) then (if ((l0.length : Int) : Int).toNat ≤ 11728124029610 then (laws_toSlotS.L0 l0 (List.replicate ((l0.length : Int) : Int).toNat z51) 0) else (none)) else (none)) := by
  refine Co.same (laws_toSlotS.F_co l0) (h := fun k => laws_toSlotS.f k l0) (fun _ => rfl) ?_
  unfold laws_toSlotS.f
  repeat' first | (with_reducible exact Co.const _) | (with_reducible exact laws_toSlotS.L0_co _ _ _) | (with_reducible refine Co.ite ?_ ?_) | (with_reducible refine Co.bind ?_ (fun _ => ?_))

noncomputable def laws_toThingS.L0 (x0 : List (S55)) (x3 : List (S47)) (x4 : Int) : Option ((List (S47))) := lim (fun k => laws_toThingS.l0 k x0 x3 x4)
theorem laws_toThingS.L0_co (x0 : List (S55)) (x3 : List (S47)) (x4 : Int) : Co (fun k => laws_toThingS.l0 k x0 x3 x4) (laws_toThingS.L0 x0 x3 x4) := Co.base (fun k => (laws_toThingS.mono_l k) _ _ _)
noncomputable def laws_toThingS.F (l0 : List (S55)) : Option ((List (S47))) := lim (fun k => laws_toThingS.f k l0)
theorem laws_toThingS.F_co (l0 : List (S55)) : Co (fun k => laws_toThingS.f k l0) (laws_toThingS.F l0) := Co.base (fun k => laws_toThingS.mono _ k)
theorem laws_toThingS.L0_eq (x0 : List (S55)) (x3 : List (S47)) (x4 : Int) : laws_toThingS.L0 x0 x3 x4 = (if x4 < (x0.length : Int) then (if 0 ≤ x4 then ((laws_toThing.f ((rd_T55 x0 x4).f0) ((rd_T55 x0 x4).f1) ((rd_T55 x0 x4).f2) ((rd_T55 x0 x4).f3) ((rd_T55 x0 x4).f4)).bind fun bt119 => (if x4 < (x3.length : Int) then (laws_toThingS.L0 x0 (x3.set (x4 : Int).toNat (⟨bt119.1, bt119.2.1, bt119.2.2.1, bt119.2.2.2.1, bt119.2.2.2.2⟩ : S47)) (wrap64 (x4 + 1))) else (none))) else (none)) else (some x3)) := by
  refine Co.step (laws_toThingS.L0_co x0 x3 x4) (h := fun k => laws_toThingS.l0 (k + 1) x0 x3 x4) (fun _ => rfl) ?_
  simp only [laws_toThingS.l0]
  repeat' first | (with_reducible exact Co.const _) | (with_reducible exact laws_toThingS.L0_co _ _ _) | (with_reducible refine Co.ite ?_ ?_) | (with_reducible refine Co.bind ?_ (fun _ => ?_))
theorem laws_toThingS.F_eq (l0 : List (S55)) : laws_toThingS.F l0 = (if 0 ≤ (l0.length : Int) then (if ((l0.length : Int) : Int).toNat ≤ 7036874417766 then (laws_toThingS.L0 l0 (List.replicate ((l0.length : Int) : Int).toNat z47) 0) else (none)) else (none)) := by
  refine Co.same (laws_toThingS.F_co l0) (h := fun k => laws_toThingS.f k l0) (fun _ => rfl) ?_
  unfold laws_toThingS.f
  repeat' first | (with_reducible exact Co.const _) | (with_reducible exact laws_toThingS.L0_co _ _ _) | (with_reducible refine Co.ite ?_ ?_) | (with_reducible refine Co.bind ?_ (fun _ => ?_))

noncomputable def laws_eqSlotS.L0 (x0 : List (S51)) (x1 : List (S51)) (x5 : Int) : Option (Bool) := lim (fun k => laws_eqSlotS.l0 k x0 x1 x5)
theorem laws_eqSlotS.L0_co (x0 : List (S51)) (x1 : List (S51)) (x5 : Int) : Co (fun k => laws_eqSlotS.l0 k x0 x1 x5) (laws_eqSlotS.L0 x0 x1 x5) := Co.base (fun k => (laws_eqSlotS.mono_l k) _ _ _)
noncomputable def laws_eqSlotS.F (l0 : List (S51)) (l1 : List (S51)) : Option (Bool) := lim (fun k => laws_eqSlotS.f k l0 l1)
theorem laws_eqSlotS.F_co (l0 : List (S51)) (l1 : List (S51)) : Co (fun k => laws_eqSlotS.f k l0 l1) (laws_eqSlotS.F l0 l1) := Co.base (fun k => laws_eqSlotS.mono _ _ k)
theorem laws_eqSlotS.L0_eq (x0 : List (S51)) (x1 : List (S51)) (x5 : Int) : laws_eqSlotS.L0 x0 x1 x5 = (if x5 < (x0.length : Int) then (if 0 ≤ x5 then (if x5 < (x1.length : Int) then ((laws_eqSlot.f ((rd_T51 x0 x5).f0) ((rd_T51 x0 x5).f1) ((rd_T51 x0 x5).f2) ((rd_T51 x1 x5).f0) ((rd_T51 x1 x5).f1) ((rd_T51 x1 x5).f2)).bind fun t129 => (if t129 = true then (laws_eqSlotS.L0 x0 x1 (wrap64 (x5 + 1))) else (some false))) else (none)) else (none)) else (some true)) := by
  refine Co.step (laws_eqSlotS.L0_co x0 x1 x5) (h := fun k => laws_eqSlotS.l0 (k + 1) x0 x1 x5) (fun _ => rfl) ?_
  simp only [laws_eqSlotS.l0]
  repeat' first | (with_reducible exact Co.const _) | (with_reducible exact laws_eqSlotS.L0_co _ _ _) | (with_reducible refine Co.ite ?_ ?_) | (with_reducible refine Co.bind ?_ (fun _ => ?_))
theorem laws_eqSlotS.F_eq (l0 : List (S51)) (l1 : List (S51)) : laws_eqSlotS.F l0 l1 = (if (l0.length : Int) = (l1.length : Int) then (laws_eqSlotS.L0 l0 l1 0) else (some false)) := by
  refine Co.same (laws_eqSlotS.F_co l0 l1) (h := fun k => laws_eqSlotS.f k l0 l1) (fun _ => rfl) ?_
  unfold laws_eqSlotS.f
  repeat' first | (with_reducible exact Co.const _) | (with_reducible exact laws_eqSlotS.L0_co _ _ _) | (with_reducible refine Co.ite ?_ ?_) | (with_reducible refine Co.bind ?_ (fun _ => ?_))

noncomputable def laws_eqThingS.L0 (x0 : List (S47)) (x1 : List (S47)) (x5 : Int) : Option (Bool) := lim (fun k => laws_eqThingS.l0 k x0 x1 x5)
theorem laws_eqThingS.L0_co (x0 : List (S47)) (x1 : List (S47)) (x5 : Int) : Co (fun k => laws_eqThingS.l0 k x0 x1 x5) (laws_eqThingS.L0 x0 x1 x5) := Co.base (fun k => (laws_eqThingS.mono_l k) _ _ _)
noncomputable def laws_eqThingS.F (l0 : List (S47)) (l1 : List (S47)) : Option (Bool) := lim (fun k => laws_eqThingS.f k l0 l1)
theorem laws_eqThingS.F_co (l0 : List (S47)) (l1 : List (S47)) : Co (fun k => laws_eqThingS.f k l0 l1) (laws_eqThingS.F l0 l1) := Co.base (fun k => laws_eqThingS.mono _ _ k)
theorem laws_eqThingS.L0_eq (x0 : List (S47)) (x1 : List (S47)) (x5 : Int) : laws_eqThingS.L0 x0 x1 x5 = (if x5 < (x0.length : Int) then (if 0 ≤ x5 then (if x5 < (x1.length : Int) then ((laws_eqThing.f ((rd_T47 x0 x5).f0) ((rd_T47 x0 x5).f1) ((rd_T47 x0 x5).f2) ((rd_T47 x0 x5).f3) ((rd_T47 x0 x5).f4) ((rd_T47 x1 x5).f0) ((rd_T47 x1 x5).f1) ((rd_T47 x1 x5).f2) ((rd_T47 x1 x5).f3) ((rd_T47 x1 x5).f4)).bind fun t134 => (if t134 = true then (laws_eqThingS.L0 x0 x1 (wrap64 (x5 + 1))) else (some false))) else (none)) else (none)) else (some true)) := by
  refine Co.step (laws_eqThingS.L0_co x0 x1 x5) (h := fun k => laws_eqThingS.l0 (k + 1) x0 x1 x5) (fun _ => rfl) ?_
  simp only [laws_eqThingS.l0]
  repeat' first | (with_reducible exact Co.const _) | (with_reducible exact laws_eqThingS.L0_co _ _ _) | (with_reducible refine Co.ite ?_ ?_) | (with_reducible refine Co.bind ?_ (fun _ => ?_))
theorem laws_eqThingS.F_eq (l0 : List (S47)) (l1 : List (S47)) : laws_eqThingS.F l0 l1 = (if (l0.length : Int) = (l1.length : Int) then (laws_eqThingS.L0 l0 l1 0) else (some false)) := by
  refine Co.same (laws_eqThingS.F_co l0 l1) (h := fun k => laws_eqThingS.f k l0 l1) (fun _ => rfl) ?_
  unfold laws_eqThingS.f
  repeat' first | (with_reducible exact Co.const _) | (with_reducible exact laws_eqThingS.L0_co _ _ _) | (with_reducible refine Co.ite ?_ ?_) | (with_reducible refine Co.bind ?_ (fun _ => ?_))

noncomputable def impl_AreSlots.L0 (x0 : List (S51)) (x8 : List (S51)) (x9 : Int) (D : Int) : Option (Bool) := lim (fun k => impl_AreSlots.l0 k x0 x8 x9 D)
theorem impl_AreSlots.L0_co (x0 : List (S51)) (x8 : List (S51)) (x9 : Int) (D : Int) : Co (fun k => impl_AreSlots.l0 k x0 x8 x9 D) (impl_AreSlots.L0 x0 x8 x9 D) := Co.base (fun k => (impl_AreSlots.mono_l k) _ _ _ _)
noncomputable def impl_AreSlots.F (l0 : List (S51)) : Option (Bool) := lim (fun k => impl_AreSlots.f k l0)
theorem impl_AreSlots.F_co (l0 : List (S51)) : Co (fun k => impl_AreSlots.f k l0) (impl_AreSlots.F l0) := Co.base (fun k => impl_AreSlots.mono _ k)
theorem impl_AreSlots.L0_eq (x0 : List (S51)) (x8 : List (S51)) (x9 : Int) (D : Int) : impl_AreSlots.L0 x0 x8 x9 D = (if D < x9 then (if 0 ≤ D then (if D < (x8.length : Int) then ((impl_InRange.f ((rd_T51 x8 D).f0) 1 99).bind fun J => (if J = true then (if D > 0 then (if 0 ≤ (wrap64 (D - 1)) then (if (wrap64 (D - 1)) < (x0.length : Int) then (if ((rd_T51 x8 D).f0) ≤ ((rd_T51 x0 (wrap64 (D - 1))).f0) then (some false) else ((impl_InRange.f ((rd_T51 x8 D).f1) 1 50).bind fun L => (if L = true then ((impl_InRange.f ((rd_T51 x8 D).f2) 0 999).bind fun Y => (if Y = true then (if D ≤ (x0.length : Int) then ((impl_SlotOf.f (x0.take (D : Int).toNat) ((rd_T51 x8 D).f2)).bind fun aa => (if aa = 0 then (impl_AreSlots.L0 x0 x8 x9 (wrap64 (D + 1))) else (some false))) else (none)) else (some false))) else (some false)))) else (none)) else (none)) else ((impl_InRange.f ((rd_T51 x8 D).f1) 1 50).bind fun ab => (if ab = true then ((impl_InRange.f ((rd_T51 x8 D).f2) 0 999).bind fun ac => (if ac = true then (if D ≤ (x0.length : Int) then ((impl_SlotOf.f (x0.take (D : Int).toNat) ((rd_T51 x8 D).f2)).bind fun ad => (if ad = 0 then (impl_AreSlots.L0 x0 x8 x9 (wrap64 (D + 1))) else (some false))) else (none)) else (some false))) else (some false)))) else (some false))) else (none)) else (none)) else (some true)) := by
  refine Co.step (impl_AreSlots.L0_co x0 x8 x9 D) (h := fun k => impl_AreSlots.l0 (k + 1) x0 x8 x9 D) (fun _ => rfl) ?_
  simp only [impl_AreSlots.l0]
  repeat' first | (with_reducible exact Co.const _) | (with_reducible exact impl_AreSlots.L0_co _ _ _ _) | (with_reducible refine Co.ite ?_ ?_) | (with_reducible refine Co.bind ?_ (fun _ => ?_))
theorem impl_AreSlots.F_eq (l0 : List (S51)) : impl_AreSlots.F l0 = (if (l0.length : Int) > 30 then (some false) else (impl_AreSlots.L0 l0 l0 (l0.length : Int) 0)) := by
  refine Co.same (impl_AreSlots.F_co l0) (h := fun k => impl_AreSlots.f k l0) (fun _ => rfl) ?_
  unfold impl_AreSlots.f
  repeat' first | (with_reducible exact Co.const _) | (with_reducible exact impl_AreSlots.L0_co _ _ _ _) | (with_reducible refine Co.ite ?_ ?_) | (with_reducible refine Co.bind ?_ (fun _ => ?_))

noncomputable def impl_AreThings.L0 (x0 : List (S47)) (x8 : List (S47)) (x9 : Int) (D : Int) : Option (Bool) := lim (fun k => impl_AreThings.l0 k x0 x8 x9 D)
theorem impl_AreThings.L0_co (x0 : List (S47)) (x8 : List (S47)) (x9 : Int) (D : Int) : Co (fun k => impl_AreThings.l0 k x0 x8 x9 D) (impl_AreThings.L0 x0 x8 x9 D) := Co.base (fun k => (impl_AreThings.mono_l k) _ _ _ _)
noncomputable def impl_AreThings.F (l0 : List (S47)) : Option (Bool) := lim (fun k => impl_AreThings.f k l0)
theorem impl_AreThings.F_co (l0 : List (S47)) : Co (fun k => impl_AreThings.f k l0) (impl_AreThings.F l0) := Co.base (fun k => impl_AreThings.mono _ k)
theorem impl_AreThings.L0_eq (x0 : List (S47)) (x8 : List (S47)) (x9 : Int) (D : Int) : impl_AreThings.L0 x0 x8 x9 D = (if D < x9 then (if 0 ≤ D then (if D < (x8.length : Int) then ((impl_IsThing.f ((rd_T47 x8 D).f0) ((rd_T47 x8 D).f1) ((rd_T47 x8 D).f2) ((rd_T47 x8 D).f3) ((rd_T47 x8 D).f4)).bind fun J => (if J = true then (if D > 0 then (if 0 ≤ (wrap64 (D - 1)) then (if (wrap64 (D - 1)) < (x0.length : Int) then (if ((rd_T47 x8 D).f0) ≤ ((rd_T47 x0 (wrap64 (D - 1))).f0) then (some false) else (impl_AreThings.L0 x0 x8 x9 (wrap64 (D + 1)))) else (none)) else (none)) else (impl_AreThings.L0 x0 x8 x9 (wrap64 (D + 1)))) else (some false))) else (none)) else (none)) else (some true)) := by
  refine Co.step (impl_AreThings.L0_co x0 x8 x9 D) (h := fun k => impl_AreThings.l0 (k + 1) x0 x8 x9 D) (fun _ => rfl) ?_
  simp only [impl_AreThings.l0]
  repeat' first | (with_reducible exact Co.const _) | (with_reducible exact impl_AreThings.L0_co _ _ _ _) | (with_reducible refine Co.ite ?_ ?_) | (with_reducible refine Co.bind ?_ (fun _ => ?_))
theorem impl_AreThings.F_eq (l0 : List (S47)) : impl_AreThings.F l0 = (if (l0.length : Int) > 20 then (some false) else (impl_AreThings.L0 l0 l0 (l0.length : Int) 0)) := by
  refine Co.same (impl_AreThings.F_co l0) (h := fun k => impl_AreThings.f k l0) (fun _ => rfl) ?_
  unfold impl_AreThings.f
  repeat' first | (with_reducible exact Co.const _) | (with_reducible exact impl_AreThings.L0_co _ _ _ _) | (with_reducible refine Co.ite ?_ ?_) | (with_reducible refine Co.bind ?_ (fun _ => ?_))

noncomputable def impl_freeFor.L0 (x0 : List (S51)) (x1 : Int) (x5 : Int) (x8 : List (S51)) (x9 : Int) (D : Int) : Option (Int) := lim (fun k => impl_freeFor.l0 k x0 x1 x5 x8 x9 D)
theorem impl_freeFor.L0_co (x0 : List (S51)) (x1 : Int) (x5 : Int) (x8 : List (S51)) (x9 : Int) (D : Int) : Co (fun k => impl_freeFor.l0 k x0 x1 x5 x8 x9 D) (impl_freeFor.L0 x0 x1 x5 x8 x9 D) := Co.base (fun k => (impl_freeFor.mono_l k) _ _ _ _ _ _)
noncomputable def impl_freeFor.F (l0 : List (S51)) (a1 : Int) : Option (Int) := lim (fun k => impl_freeFor.f k l0 a1)
theorem impl_freeFor.F_co (l0 : List (S51)) (a1 : Int) : Co (fun k => impl_freeFor.f k l0 a1) (impl_freeFor.F l0 a1) := Co.base (fun k => impl_freeFor.mono _ _ k)
theorem impl_freeFor.L0_eq (x0 : List (S51)) (x1 : Int) (x5 : Int) (x8 : List (S51)) (x9 : Int) (D : Int) : impl_freeFor.L0 x0 x1 x5 x8 x9 D = (if D < x9 then (if 0 ≤ D then (if D < (x8.length : Int) then (if ((rd_T51 x8 D).f2) = 0 then (if ((rd_T51 x8 D).f1) ≥ x1 then (if x5 < 0 then (impl_freeFor.L0 x0 x1 D x8 x9 (wrap64 (D + 1))) else (if 0 ≤ x5 then (if x5 < (x0.length : Int) then (if ((rd_T51 x8 D).f1) < ((rd_T51 x0 x5).f1) then (impl_freeFor.L0 x0 x1 D x8 x9 (wrap64 (D + 1))) else (impl_freeFor.L0 x0 x1 x5 x8 x9 (wrap64 (D + 1)))) else (none)) else (none))) else (impl_freeFor.L0 x0 x1 x5 x8 x9 (wrap64 (D + 1)))) else (impl_freeFor.L0 x0 x1 x5 x8 x9 (wrap64 (D + 1)))) else (none)) else (none)) else (some x5)) := by
  refine Co.step (impl_freeFor.L0_co x0 x1 x5 x8 x9 D) (h := fun k => impl_freeFor.l0 (k + 1) x0 x1 x5 x8 x9 D) (fun _ => rfl) ?_
  simp only [impl_freeFor.l0]
  repeat' first | (with_reducible exact Co.const _) | (with_reducible exact impl_freeFor.L0_co _ _ _ _ _ _) | (with_reducible refine Co.ite ?_ ?_) | (with_reducible refine Co.bind ?_ (fun _ => ?_))
theorem impl_freeFor.F_eq (l0 : List (S51)) (a1 : Int) : impl_freeFor.F l0 a1 = (impl_freeFor.L0 l0 a1 (-1) l0 (l0.length : Int) 0) := by
  refine Co.same (impl_freeFor.F_co l0 a1) (h := fun k => impl_freeFor.f k l0 a1) (fun _ => rfl) ?_
  unfold impl_freeFor.f
  repeat' first | (with_reducible exact Co.const _) | (with_reducible exact impl_freeFor.L0_co _ _ _ _ _ _) | (with_reducible refine Co.ite ?_ ?_) | (with_reducible refine Co.bind ?_ (fun _ => ?_))

noncomputable def impl_PutAway.F (l0 : List (S51)) (a1_0 : Int) (a1_1 : Int) (a1_2 : Int) (a1_3 : Int) (a1_4 : Int) : Option ((List (S51)) × Bool) := lim (fun k => impl_PutAway.f k l0 a1_0 a1_1 a1_2 a1_3 a1_4)
theorem impl_PutAway.F_co (l0 : List (S51)) (a1_0 : Int) (a1_1 : Int) (a1_2 : Int) (a1_3 : Int) (a1_4 : Int) : Co (fun k => impl_PutAway.f k l0 a1_0 a1_1 a1_2 a1_3 a1_4) (impl_PutAway.F l0 a1_0 a1_1 a1_2 a1_3 a1_4) := Co.base (fun k => impl_PutAway.mono _ _ _ _ _ _ k)
theorem impl_PutAway.F_eq (l0 : List (S51)) (a1_0 : Int) (a1_1 : Int) (a1_2 : Int) (a1_3 : Int) (a1_4 : Int) : impl_PutAway.F l0 a1_0 a1_1 a1_2 a1_3 a1_4 = ((impl_Slot_68.f l0).bind fun D => ((impl_freeFor.F l0 a1_3).bind fun J => ((impl_AreSlots.F l0).bind fun L => (if L = true then ((impl_IsThing.f a1_0 a1_1 a1_2 a1_3 a1_4).bind fun Y => (if Y = true then (if J < 0 then (some (D, false)) else ((impl_slotWith.f l0 a1_0).bind fun aa => (if aa ≥ 0 then (some (D, false)) else (if 0 ≤ J then (if J < (D.length : Int) then (some ((D.set (J : Int).toNat (⟨(rd_T51 D J).f0, (rd_T51 D J).f1, a1_0⟩ : S51)), true)) else (none)) else (none))))) else (some (D, false)))) else (some (D, false)))))) := by
  refine Co.same (impl_PutAway.F_co l0 a1_0 a1_1 a1_2 a1_3 a1_4) (h := fun k => impl_PutAway.f k l0 a1_0 a1_1 a1_2 a1_3 a1_4) (fun _ => rfl) ?_
  unfold impl_PutAway.f
  repeat' first | (with_reducible exact Co.const _) | (with_reducible exact impl_AreSlots.F_co _) | (with_reducible exact impl_freeFor.F_co _ _) | (with_reducible refine Co.ite ?_ ?_) | (with_reducible refine Co.bind ?_ (fun _ => ?_))

noncomputable def impl_PutAll.J0 (x1 : List (S47)) (x6 : List (S51)) (x7 : List Int) (x22 : Bool) : Option ((List (S51)) × List Int) := lim (fun k => impl_PutAll.j0 k x1 x6 x7 x22)
theorem impl_PutAll.J0_co (x1 : List (S47)) (x6 : List (S51)) (x7 : List Int) (x22 : Bool) : Co (fun k => impl_PutAll.j0 k x1 x6 x7 x22) (impl_PutAll.J0 x1 x6 x7 x22) := Co.base (fun k => (impl_PutAll.mono_l k).1 _ _ _ _)
noncomputable def impl_PutAll.L0 (x6 : List (S51)) (x7 : List Int) (J : List (S47)) (L : Int) (D : Int) : Option ((List (S51)) × List Int) := lim (fun k => impl_PutAll.l0 k x6 x7 J L D)
theorem impl_PutAll.L0_co (x6 : List (S51)) (x7 : List Int) (J : List (S47)) (L : Int) (D : Int) : Co (fun k => impl_PutAll.l0 k x6 x7 J L D) (impl_PutAll.L0 x6 x7 J L D) := Co.base (fun k => (impl_PutAll.mono_l k).2 _ _ _ _ _)
noncomputable def impl_PutAll.F (l0 : List (S51)) (l1 : List (S47)) : Option ((List (S51)) × List Int) := lim (fun k => impl_PutAll.f k l0 l1)
theorem impl_PutAll.F_co (l0 : List (S51)) (l1 : List (S47)) : Co (fun k => impl_PutAll.f k l0 l1) (impl_PutAll.F l0 l1) := Co.base (fun k => impl_PutAll.mono _ _ k)
theorem impl_PutAll.J0_eq (x1 : List (S47)) (x6 : List (S51)) (x7 : List Int) (x22 : Bool) : impl_PutAll.J0 x1 x6 x7 x22 = (if x22 = true then (some (x6, x7)) else ((impl_Thing_69.f x1).bind fun t197 => ((impl_Thing_70.f t197 777777).bind fun t200 => (impl_PutAll.L0 x6 x7 t200 (t197.length : Int) 0)))) := by
  refine Co.step (impl_PutAll.J0_co x1 x6 x7 x22) (h := fun k => impl_PutAll.j0 (k + 1) x1 x6 x7 x22) (fun _ => rfl) ?_
  simp only [impl_PutAll.j0]
  repeat' first | (with_reducible exact Co.const _) | (with_reducible exact impl_PutAll.L0_co _ _ _ _ _) | (with_reducible refine Co.ite ?_ ?_) | (with_reducible refine Co.bind ?_ (fun _ => ?_))
theorem impl_PutAll.L0_eq (x6 : List (S51)) (x7 : List Int) (J : List (S47)) (L : Int) (D : Int) : impl_PutAll.L0 x6 x7 J L D = (if D < L then (if 0 ≤ D then (if D < (J.length : Int) then ((impl_PutAway.F x6 ((rd_T47 J D).f0) ((rd_T47 J D).f1) ((rd_T47 J D).f2) ((rd_T47 J D).f3) ((rd_T47 J D).f4)).bind fun Y => (if Y.2 = true then (impl_PutAll.L0 Y.1 x7 J L (wrap64 (D + 1))) else (if x7.length < 17592186044416 then (impl_PutAll.L0 Y.1 (x7 ++ [(rd_T47 J D).f0]) J L (wrap64 (D + 1))) else (none)))) else (none)) else (none)) else ((slices_Sort_int_int.f x7).bind fun aa => (some (x6, aa)))) := by
  refine Co.step (impl_PutAll.L0_co x6 x7 J L D) (h := fun k => impl_PutAll.l0 (k + 1) x6 x7 J L D) (fun _ => rfl) ?_
  simp only [impl_PutAll.l0]
  repeat' first | (with_reducible exact Co.const _) | (with_reducible exact impl_PutAll.L0_co _ _ _ _ _) | (with_reducible exact impl_PutAway.F_co _ _ _ _ _ _) | (with_reducible refine Co.ite ?_ ?_) | (with_reducible refine Co.bind ?_ (fun _ => ?_))
theorem impl_PutAll.F_eq (l0 : List (S51)) (l1 : List (S47)) : impl_PutAll.F l0 l1 = ((impl_Slot_68.f l0).bind fun t189 => ((some (([] : List Int) : List Int)).bind fun y192 => ((impl_AreSlots.F l0).bind fun t195 => (if t195 = true then ((impl_AreThings.F l1).bind fun t196 => (impl_PutAll.J0 l1 t189 y192 (!t196))) else (impl_PutAll.J0 l1 t189 y192 true))))) := by
  refine Co.same (impl_PutAll.F_co l0 l1) (h := fun k => impl_PutAll.f k l0 l1) (fun _ => rfl) ?_
  unfold impl_PutAll.f
  repeat' first | (with_reducible exact Co.const _) | (with_reducible exact impl_AreSlots.F_co _) | (with_reducible exact impl_AreThings.F_co _) | (with_reducible exact impl_PutAll.J0_co _ _ _ _) | (with_reducible refine Co.ite ?_ ?_) | (with_reducible refine Co.bind ?_ (fun _ => ?_))

noncomputable def spec_AreSlots.L0 (x0 : List (S51)) (x3 : Int) : Option (Bool) := lim (fun k => spec_AreSlots.l0 k x0 x3)
theorem spec_AreSlots.L0_co (x0 : List (S51)) (x3 : Int) : Co (fun k => spec_AreSlots.l0 k x0 x3) (spec_AreSlots.L0 x0 x3) := Co.base (fun k => (spec_AreSlots.mono_l k).1 _ _)
noncomputable def spec_AreSlots.J1 (x0 : List (S51)) (x3 : Int) (x53 : Bool) : Option (Bool) := lim (fun k => spec_AreSlots.j1 k x0 x3 x53)
theorem spec_AreSlots.J1_co (x0 : List (S51)) (x3 : Int) (x53 : Bool) : Co (fun k => spec_AreSlots.j1 k x0 x3 x53) (spec_AreSlots.J1 x0 x3 x53) := Co.base (fun k => (spec_AreSlots.mono_l k).2.1 _ _ _)
noncomputable def spec_AreSlots.L1 (x0 : List (S51)) (x3 : Int) (x4 : Int) : Option (Bool) := lim (fun k => spec_AreSlots.l1 k x0 x3 x4)
theorem spec_AreSlots.L1_co (x0 : List (S51)) (x3 : Int) (x4 : Int) : Co (fun k => spec_AreSlots.l1 k x0 x3 x4) (spec_AreSlots.L1 x0 x3 x4) := Co.base (fun k => (spec_AreSlots.mono_l k).2.2 _ _ _)
noncomputable def spec_AreSlots.F (l0 : List (S51)) : Option (Bool) := lim (fun k => spec_AreSlots.f k l0)
theorem spec_AreSlots.F_co (l0 : List (S51)) : Co (fun k => spec_AreSlots.f k l0) (spec_AreSlots.F l0) := Co.base (fun k => spec_AreSlots.mono _ k)
theorem spec_AreSlots.L0_eq (x0 : List (S51)) (x3 : Int) : spec_AreSlots.L0 x0 x3 = (if x3 < (x0.length : Int) then (if 0 ≤ x3 then ((spec_l1In.f ((rd_T51 x0 x3).f0) 1 99).bind fun D => (if D = true then ((spec_l1In.f ((rd_T51 x0 x3).f1) 1 50).bind fun J => (if J = true then ((spec_l1In.f ((rd_T51 x0 x3).f2) 0 999).bind fun L => (if L = true then (if x3 > 0 then (if 0 ≤ (wrap64 (x3 - 1)) then (if (wrap64 (x3 - 1)) < (x0.length : Int) then (spec_AreSlots.J1 x0 x3 (decide (((rd_T51 x0 (wrap64 (x3 - 1))).f0) ≥ ((rd_T51 x0 x3).f0)))) else (none)) else (none)) else (spec_AreSlots.J1 x0 x3 false)) else (spec_AreSlots.J1 x0 x3 true))) else (spec_AreSlots.J1 x0 x3 true))) else (spec_AreSlots.J1 x0 x3 true))) else (none)) else (some (decide ((x0.length : Int) ≤ 30)))) := by
  refine Co.step (spec_AreSlots.L0_co x0 x3) (h := fun k => spec_AreSlots.l0 (k + 1) x0 x3) (fun _ => rfl) ?_
  simp only [spec_AreSlots.l0]
  repeat' first | (with_reducible exact Co.const _) | (with_reducible exact spec_AreSlots.J1_co _ _ _) | (with_reducible refine Co.ite ?_ ?_) | (with_reducible refine Co.bind ?_ (fun _ => ?_))
theorem spec_AreSlots.J1_eq (x0 : List (S51)) (x3 : Int) (x53 : Bool) : spec_AreSlots.J1 x0 x3 x53 = (if x53 = true then (some false) else (spec_AreSlots.L1 x0 x3 0)) := by
  refine Co.step (spec_AreSlots.J1_co x0 x3 x53) (h := fun k => spec_AreSlots.j1 (k + 1) x0 x3 x53) (fun _ => rfl) ?_
  simp only [spec_AreSlots.j1]
  repeat' first | (with_reducible exact Co.const _) | (with_reducible exact spec_AreSlots.L1_co _ _ _) | (with_reducible refine Co.ite ?_ ?_) | (with_reducible refine Co.bind ?_ (fun _ => ?_))
theorem spec_AreSlots.L1_eq (x0 : List (S51)) (x3 : Int) (x4 : Int) : spec_AreSlots.L1 x0 x3 x4 = (if x4 < x3 then (if 0 ≤ x3 then (if x3 < (x0.length : Int) then (if ((rd_T51 x0 x3).f2) = 0 then (spec_AreSlots.L1 x0 x3 (wrap64 (x4 + 1))) else (if 0 ≤ x4 then (if x4 < (x0.length : Int) then (if ((rd_T51 x0 x4).f2) = ((rd_T51 x0 x3).f2) then (some false) else (spec_AreSlots.L1 x0 x3 (wrap64 (x4 + 1)))) else (none)) else (none))) else (none)) else (none)) else (spec_AreSlots.L0 x0 (wrap64 (x3 + 1)))) := by
  refine Co.step (spec_AreSlots.L1_co x0 x3 x4) (h := fun k => spec_AreSlots.l1 (k + 1) x0 x3 x4) (fun _ => rfl) ?_
  simp only [spec_AreSlots.l1]
  repeat' first | (with_reducible exact Co.const _) | (with_reducible exact spec_AreSlots.L0_co _ _) | (with_reducible exact spec_AreSlots.L1_co _ _ _) | (with_reducible refine Co.ite ?_ ?_) | (with_reducible refine Co.bind ?_ (fun _ => ?_))
theorem spec_AreSlots.F_eq (l0 : List (S51)) : spec_AreSlots.F l0 = (spec_AreSlots.L0 l0 0) := by
  refine Co.same (spec_AreSlots.F_co l0) (h := fun k => spec_AreSlots.f k l0) (fun _ => rfl) ?_
  unfold spec_AreSlots.f
  repeat' first | (with_reducible exact Co.const _) | (with_reducible exact spec_AreSlots.L0_co _ _) | (with_reducible refine Co.ite ?_ ?_) | (with_reducible refine Co.bind ?_ (fun _ => ?_))

noncomputable def spec_AreThings.L0 (x0 : List (S47)) (x3 : Int) : Option (Bool) := lim (fun k => spec_AreThings.l0 k x0 x3)
theorem spec_AreThings.L0_co (x0 : List (S47)) (x3 : Int) : Co (fun k => spec_AreThings.l0 k x0 x3) (spec_AreThings.L0 x0 x3) := Co.base (fun k => (spec_AreThings.mono_l k) _ _)
noncomputable def spec_AreThings.F (l0 : List (S47)) : Option (Bool) := lim (fun k => spec_AreThings.f k l0)
theorem spec_AreThings.F_co (l0 : List (S47)) : Co (fun k => spec_AreThings.f k l0) (spec_AreThings.F l0) := Co.base (fun k => spec_AreThings.mono _ k)
theorem spec_AreThings.L0_eq (x0 : List (S47)) (x3 : Int) : spec_AreThings.L0 x0 x3 = (if x3 < (x0.length : Int) then (if 0 ≤ x3 then ((spec_IsThing.f ((rd_T47 x0 x3).f0) ((rd_T47 x0 x3).f1) ((rd_T47 x0 x3).f2) ((rd_T47 x0 x3).f3) ((rd_T47 x0 x3).f4)).bind fun D => (if D = true then (if x3 > 0 then (if 0 ≤ (wrap64 (x3 - 1)) then (if (wrap64 (x3 - 1)) < (x0.length : Int) then (if ((rd_T47 x0 (wrap64 (x3 - 1))).f0) ≥ ((rd_T47 x0 x3).f0) then (some false) else (spec_AreThings.L0 x0 (wrap64 (x3 + 1)))) else (none)) else (none)) else (spec_AreThings.L0 x0 (wrap64 (x3 + 1)))) else (some false))) else (none)) else (some (decide ((x0.length : Int) ≤ 20)))) := by
  refine Co.step (spec_AreThings.L0_co x0 x3) (h := fun k => spec_AreThings.l0 (k + 1) x0 x3) (fun _ => rfl) ?_
  simp only [spec_AreThings.l0]
  repeat' first | (with_reducible exact Co.const _) | (with_reducible exact spec_AreThings.L0_co _ _) | (with_reducible refine Co.ite ?_ ?_) | (with_reducible refine Co.bind ?_ (fun _ => ?_))
theorem spec_AreThings.F_eq (l0 : List (S47)) : spec_AreThings.F l0 = (spec_AreThings.L0 l0 0) := by
  refine Co.same (spec_AreThings.F_co l0) (h := fun k => spec_AreThings.f k l0) (fun _ => rfl) ?_
  unfold spec_AreThings.f
  repeat' first | (with_reducible exact Co.const _) | (with_reducible exact spec_AreThings.L0_co _ _) | (with_reducible refine Co.ite ?_ ?_) | (with_reducible refine Co.bind ?_ (fun _ => ?_))

noncomputable def spec_SlotOf.L0 (x0 : List (S51)) (x1 : Int) (x5 : Int) : Option (Int) := lim (fun k => spec_SlotOf.l0 k x0 x1 x5)
theorem spec_SlotOf.L0_co (x0 : List (S51)) (x1 : Int) (x5 : Int) : Co (fun k => spec_SlotOf.l0 k x0 x1 x5) (spec_SlotOf.L0 x0 x1 x5) := Co.base (fun k => (spec_SlotOf.mono_l k) _ _ _)
noncomputable def spec_SlotOf.F (l0 : List (S51)) (a1 : Int) : Option (Int) := lim (fun k => spec_SlotOf.f k l0 a1)
theorem spec_SlotOf.F_co (l0 : List (S51)) (a1 : Int) : Co (fun k => spec_SlotOf.f k l0 a1) (spec_SlotOf.F l0 a1) := Co.base (fun k => spec_SlotOf.mono _ _ k)
theorem spec_SlotOf.L0_eq (x0 : List (S51)) (x1 : Int) (x5 : Int) : spec_SlotOf.L0 x0 x1 x5 = (if x5 < (x0.length : Int) then (if x1 = 0 then (spec_SlotOf.L0 x0 x1 (wrap64 (x5 + 1))) else (if 0 ≤ x5 then (if ((rd_T51 x0 x5).f2) = x1 then (some ((rd_T51 x0 x5).f0)) else (spec_SlotOf.L0 x0 x1 (wrap64 (x5 + 1)))) else (none))) else (some 0)) := by
  refine Co.step (spec_SlotOf.L0_co x0 x1 x5) (h := fun k => spec_SlotOf.l0 (k + 1) x0 x1 x5) (fun _ => rfl) ?_
  simp only [spec_SlotOf.l0]
  repeat' first | (with_reducible exact Co.const _) | (with_reducible exact spec_SlotOf.L0_co _ _ _) | (with_reducible refine Co.ite ?_ ?_) | (with_reducible refine Co.bind ?_ (fun _ => ?_))
theorem spec_SlotOf.F_eq (l0 : List (S51)) (a1 : Int) : spec_SlotOf.F l0 a1 = (spec_SlotOf.L0 l0 a1 0) := by
  refine Co.same (spec_SlotOf.F_co l0 a1) (h := fun k => spec_SlotOf.f k l0 a1) (fun _ => rfl) ?_
  unfold spec_SlotOf.f
  repeat' first | (with_reducible exact Co.const _) | (with_reducible exact spec_SlotOf.L0_co _ _ _) | (with_reducible refine Co.ite ?_ ?_) | (with_reducible refine Co.bind ?_ (fun _ => ?_))

noncomputable def spec_SmallestFree.L0 (x0 : List (S51)) (x1 : Int) (x5 : Int) (x6 : Int) : Option (Int) := lim (fun k => spec_SmallestFree.l0 k x0 x1 x5 x6)
theorem spec_SmallestFree.L0_co (x0 : List (S51)) (x1 : Int) (x5 : Int) (x6 : Int) : Co (fun k => spec_SmallestFree.l0 k x0 x1 x5 x6) (spec_SmallestFree.L0 x0 x1 x5 x6) := Co.base (fun k => (spec_SmallestFree.mono_l k) _ _ _ _)
noncomputable def spec_SmallestFree.F (l0 : List (S51)) (a1 : Int) : Option (Int) := lim (fun k => spec_SmallestFree.f k l0 a1)
theorem spec_SmallestFree.F_co (l0 : List (S51)) (a1 : Int) : Co (fun k => spec_SmallestFree.f k l0 a1) (spec_SmallestFree.F l0 a1) := Co.base (fun k => spec_SmallestFree.mono _ _ k)
theorem spec_SmallestFree.L0_eq (x0 : List (S51)) (x1 : Int) (x5 : Int) (x6 : Int) : spec_SmallestFree.L0 x0 x1 x5 x6 = (if x6 < (x0.length : Int) then (if 0 ≤ x6 then (if ((rd_T51 x0 x6).f2) = 0 then (if ((rd_T51 x0 x6).f1) ≥ x1 then (if x5 < 0 then (spec_SmallestFree.L0 x0 x1 x6 (wrap64 (x6 + 1))) else (if 0 ≤ x5 then (if x5 < (x0.length : Int) then (if ((rd_T51 x0 x6).f1) < ((rd_T51 x0 x5).f1) then (spec_SmallestFree.L0 x0 x1 x6 (wrap64 (x6 + 1))) else (spec_SmallestFree.L0 x0 x1 x5 (wrap64 (x6 + 1)))) else (none)) else (none))) else (spec_SmallestFree.L0 x0 x1 x5 (wrap64 (x6 + 1)))) else (spec_SmallestFree.L0 x0 x1 x5 (wrap64 (x6 + 1)))) else (none)) else (if x5 < 0 then (some 0) else (if 0 ≤ x5 then (if x5 < (x0.length : Int) then (some ((rd_T51 x0 x5).f0)) else (none)) else (none)))) := by
  refine Co.step (spec_SmallestFree.L0_co x0 x1 x5 x6) (h := fun k => spec_SmallestFree.l0 (k + 1) x0 x1 x5 x6) (fun _ => rfl) ?_
  simp only [spec_SmallestFree.l0]
  repeat' first | (with_reducible exact Co.const _) | (with_reducible exact spec_SmallestFree.L0_co _ _ _ _) | (with_reducible refine Co.ite ?_ ?_) | (with_reducible refine Co.bind ?_ (fun _ => ?_))
theorem spec_SmallestFree.F_eq (l0 : List (S51)) (a1 : Int) : spec_SmallestFree.F l0 a1 = (spec_SmallestFree.L0 l0 a1 (-1) 0) := by
  refine Co.same (spec_SmallestFree.F_co l0 a1) (h := fun k => spec_SmallestFree.f k l0 a1) (fun _ => rfl) ?_
  unfold spec_SmallestFree.f
  repeat' first | (with_reducible exact Co.const _) | (with_reducible exact spec_SmallestFree.L0_co _ _ _ _) | (with_reducible refine Co.ite ?_ ?_) | (with_reducible refine Co.bind ?_ (fun _ => ?_))

noncomputable def spec_PutAway.J0 (x6 : List (S51)) (x7 : Int) (x34 : Bool) (x240000 : Int) (x240001 : Int) (x240002 : Int) (x240003 : Int) (x240004 : Int) : Option ((List (S51)) × Bool) := lim (fun k => spec_PutAway.j0 k x6 x7 x34 x240000 x240001 x240002 x240003 x240004)
theorem spec_PutAway.J0_co (x6 : List (S51)) (x7 : Int) (x34 : Bool) (x240000 : Int) (x240001 : Int) (x240002 : Int) (x240003 : Int) (x240004 : Int) : Co (fun k => spec_PutAway.j0 k x6 x7 x34 x240000 x240001 x240002 x240003 x240004) (spec_PutAway.J0 x6 x7 x34 x240000 x240001 x240002 x240003 x240004) := Co.base (fun k => (spec_PutAway.mono_l k).1 _ _ _ _ _ _ _ _)
noncomputable def spec_PutAway.L0 (x6 : List (S51)) (x7 : Int) (x8 : Int) (D : Int) (J : Int) (L : Int) (Y : Int) (aa : Int) : Option ((List (S51)) × Bool) := lim (fun k => spec_PutAway.l0 k x6 x7 x8 D J L Y aa)
theorem spec_PutAway.L0_co (x6 : List (S51)) (x7 : Int) (x8 : Int) (D : Int) (J : Int) (L : Int) (Y : Int) (aa : Int) : Co (fun k => spec_PutAway.l0 k x6 x7 x8 D J L Y aa) (spec_PutAway.L0 x6 x7 x8 D J L Y aa) := Co.base (fun k => (spec_PutAway.mono_l k).2 _ _ _ _ _ _ _ _)
noncomputable def spec_PutAway.F (l0 : List (S51)) (a1_0 : Int) (a1_1 : Int) (a1_2 : Int) (a1_3 : Int) (a1_4 : Int) : Option ((List (S51)) × Bool) := lim (fun k => spec_PutAway.f k l0 a1_0 a1_1 a1_2 a1_3 a1_4)
theorem spec_PutAway.F_co (l0 : List (S51)) (a1_0 : Int) (a1_1 : Int) (a1_2 : Int) (a1_3 : Int) (a1_4 : Int) : Co (fun k => spec_PutAway.f k l0 a1_0 a1_1 a1_2 a1_3 a1_4) (spec_PutAway.F l0 a1_0 a1_1 a1_2 a1_3 a1_4) := Co.base (fun k => spec_PutAway.mono _ _ _ _ _ _ k)
theorem spec_PutAway.J0_eq (x6 : List (S51)) (x7 : Int) (x34 : Bool) (x240000 : Int) (x240001 : Int) (x240002 : Int) (x240003 : Int) (x240004 : Int) : spec_PutAway.J0 x6 x7 x34 x240000 x240001 x240002 x240003 x240004 = (if x34 = true then (some (x6, false)) else (spec_PutAway.L0 x6 x7 0 x240000 x240001 x240002 x240003 x240004)) := by
  refine Co.step (spec_PutAway.J0_co x6 x7 x34 x240000 x240001 x240002 x240003 x240004) (h := fun k => spec_PutAway.j0 (k + 1) x6 x7 x34 x240000 x240001 x240002 x240003 x240004) (fun _ => rfl) ?_
  simp only [spec_PutAway.j0]
  repeat' first | (with_reducible exact Co.const _) | (with_reducible exact spec_PutAway.L0_co _ _ _ _ _ _ _ _) | (with_reducible refine Co.ite ?_ ?_) | (with_reducible refine Co.bind ?_ (fun _ => ?_))
theorem spec_PutAway.L0_eq (x6 : List (S51)) (x7 : Int) (x8 : Int) (D : Int) (J : Int) (L : Int) (Y : Int) (aa : Int) : spec_PutAway.L0 x6 x7 x8 D J L Y aa = (if x8 < (x6.length : Int) then (if 0 ≤ x8 then (if ((rd_T51 x6 x8).f0) = x7 then (spec_PutAway.L0 (x6.set (x8 : Int).toNat (⟨(rd_T51 x6 x8).f0, (rd_T51 x6 x8).f1, D⟩ : S51)) x7 (wrap64 (x8 + 1)) D J L Y aa) else (spec_PutAway.L0 x6 x7 (wrap64 (x8 + 1)) D J L Y aa)) else (none)) else (some (x6, true))) := by
  refine Co.step (spec_PutAway.L0_co x6 x7 x8 D J L Y aa) (h := fun k => spec_PutAway.l0 (k + 1) x6 x7 x8 D J L Y aa) (fun _ => rfl) ?_
  simp only [spec_PutAway.l0]
  repeat' first | (with_reducible exact Co.const _) | (with_reducible exact spec_PutAway.L0_co _ _ _ _ _ _ _ _) | (with_reducible refine Co.ite ?_ ?_) | (with_reducible refine Co.bind ?_ (fun _ => ?_))
theorem spec_PutAway.F_eq (l0 : List (S51)) (a1_0 : Int) (a1_1 : Int) (a1_2 : Int) (a1_3 : Int) (a1_4 : Int) : spec_PutAway.F l0 a1_0 a1_1 a1_2 a1_3 a1_4 = ((some (([] : List (S51)) : List (S51))).bind fun L => (if L.length + l0.length < 5864062014805 then ((some (L ++ l0 : List (S51))).bind fun J => ((spec_SmallestFree.F l0 a1_3).bind fun D => ((spec_AreSlots.F l0).bind fun Y => (if Y = true then ((spec_IsThing.f a1_0 a1_1 a1_2 a1_3 a1_4).bind fun aa => (if aa = true then (if D = 0 then (spec_PutAway.J0 J D true a1_0 a1_1 a1_2 a1_3 a1_4) else ((spec_SlotOf.F l0 a1_0).bind fun ab => (spec_PutAway.J0 J D (ab != 0) a1_0 a1_1 a1_2 a1_3 a1_4))) else (spec_PutAway.J0 J D true a1_0 a1_1 a1_2 a1_3 a1_4))) else (spec_PutAway.J0 J D true a1_0 a1_1 a1_2 a1_3 a1_4))))) else (none))) := by
  refine Co.same (spec_PutAway.F_co l0 a1_0 a1_1 a1_2 a1_3 a1_4) (h := fun k => spec_PutAway.f k l0 a1_0 a1_1 a1_2 a1_3 a1_4) (fun _ => rfl) ?_
  unfold spec_PutAway.f
  repeat' first | (with_reducible exact Co.const _) | (with_reducible exact spec_AreSlots.F_co _) | (with_reducible exact spec_PutAway.J0_co _ _ _ _ _ _ _ _) | (with_reducible exact spec_SlotOf.F_co _ _) | (with_reducible exact spec_SmallestFree.F_co _ _) | (with_reducible refine Co.ite ?_ ?_) | (with_reducible refine Co.bind ?_ (fun _ => ?_))

noncomputable def spec_l9Put.L0 (x0 : List Int) (x1 : Int) (x5 : Int) : Option (List Int) := lim (fun k => spec_l9Put.l0 k x0 x1 x5)
theorem spec_l9Put.L0_co (x0 : List Int) (x1 : Int) (x5 : Int) : Co (fun k => spec_l9Put.l0 k x0 x1 x5) (spec_l9Put.L0 x0 x1 x5) := Co.base (fun k => (spec_l9Put.mono_l k) _ _ _)
noncomputable def spec_l9Put.F (l0 : List Int) (a1 : Int) : Option (List Int) := lim (fun k => spec_l9Put.f k l0 a1)
theorem spec_l9Put.F_co (l0 : List Int) (a1 : Int) : Co (fun k => spec_l9Put.f k l0 a1) (spec_l9Put.F l0 a1) := Co.base (fun k => spec_l9Put.mono _ _ k)
theorem spec_l9Put.L0_eq (x0 : List Int) (x1 : Int) (x5 : Int) : spec_l9Put.L0 x0 x1 x5 = (if x5 < (x0.length : Int) then (if 0 ≤ x5 then (if (rd x0 x5) < x1 then (spec_l9Put.L0 x0 x1 (wrap64 (x5 + 1))) else (if (rd x0 x5) = x1 then ((some (([] : List Int) : List Int)).bind fun D => (if D.length + x0.length < 17592186044416 then (some (D ++ x0)) else (none))) else ((some (([] : List Int) : List Int)).bind fun J => (if x5 ≤ (x0.length : Int) then (if J.length + (x0.take (x5 : Int).toNat).length < 17592186044416 then ((some (J ++ (x0.take (x5 : Int).toNat) : List Int)).bind fun L => ((some (([x1] : List Int) : List Int)).bind fun Y => (if L.length + Y.length < 17592186044416 then ((some (L ++ Y : List Int)).bind fun aa => (if aa.length + (x0.drop (x5 : Int).toNat).length < 17592186044416 then (some (aa ++ (x0.drop (x5 : Int).toNat))) else (none))) else (none)))) else (none)) else (none))))) else (none)) else ((some (([] : List Int) : List Int)).bind fun ab => (if 0 ≤ x5 then (if x5 ≤ (x0.length : Int) then (if ab.length + (x0.take (x5 : Int).toNat).length < 17592186044416 then ((some (ab ++ (x0.take (x5 : Int).toNat) : List Int)).bind fun ac => ((some (([x1] : List Int) : List Int)).bind fun ad => (if ac.length + ad.length < 17592186044416 then ((some (ac ++ ad : List Int)).bind fun ae => (if ae.length + (x0.drop (x5 : Int).toNat).length < 17592186044416 then (some (ae ++ (x0.drop (x5 : Int).toNat))) else (none))) else (none)))) else (none)) else (none)) else (none)))) := by
  refine Co.step (spec_l9Put.L0_co x0 x1 x5) (h := fun k => spec_l9Put.l0 (k + 1) x0 x1 x5) (fun _ => rfl) ?_
  simp only [spec_l9Put.l0]
  repeat' first | (with_reducible exact Co.const _) | (with_reducible exact spec_l9Put.L0_co _ _ _) | (with_reducible refine Co.ite ?_ ?_) | (with_reducible refine Co.bind ?_ (fun _ => ?_))
theorem spec_l9Put.F_eq (l0 : List Int) (a1 : Int) : spec_l9Put.F l0 a1 = (spec_l9Put.L0 l0 a1 0) := by
  refine Co.same (spec_l9Put.F_co l0 a1) (h := fun k => spec_l9Put.f k l0 a1) (fun _ => rfl) ?_
  unfold spec_l9Put.f
  repeat' first | (with_reducible exact Co.const _) | (with_reducible exact spec_l9Put.L0_co _ _ _) | (with_reducible refine Co.ite ?_ ?_) | (with_reducible refine Co.bind ?_ (fun _ => ?_))

noncomputable def spec_PutAll.L0 (x0 : List (S51)) (x1 : List (S47)) (x6 : List (S51)) (x7 : List Int) (x8 : List (S47)) (x9 : Int) : Option ((List (S51)) × List Int) := lim (fun k => spec_PutAll.l0 k x0 x1 x6 x7 x8 x9)
theorem spec_PutAll.L0_co (x0 : List (S51)) (x1 : List (S47)) (x6 : List (S51)) (x7 : List Int) (x8 : List (S47)) (x9 : Int) : Co (fun k => spec_PutAll.l0 k x0 x1 x6 x7 x8 x9) (spec_PutAll.L0 x0 x1 x6 x7 x8 x9) := Co.base (fun k => (spec_PutAll.mono_l k).1 _ _ _ _ _ _)
noncomputable def spec_PutAll.J1 (x0 : List (S51)) (x1 : List (S47)) (x6 : List (S51)) (x7 : List Int) (x8 : List (S47)) (x9 : Int) (J : Bool) : Option ((List (S51)) × List Int) := lim (fun k => spec_PutAll.j1 k x0 x1 x6 x7 x8 x9 J)
theorem spec_PutAll.J1_co (x0 : List (S51)) (x1 : List (S47)) (x6 : List (S51)) (x7 : List Int) (x8 : List (S47)) (x9 : Int) (J : Bool) : Co (fun k => spec_PutAll.j1 k x0 x1 x6 x7 x8 x9 J) (spec_PutAll.J1 x0 x1 x6 x7 x8 x9 J) := Co.base (fun k => (spec_PutAll.mono_l k).2 _ _ _ _ _ _ _)
noncomputable def spec_PutAll.F (l0 : List (S51)) (l1 : List (S47)) : Option ((List (S51)) × List Int) := lim (fun k => spec_PutAll.f k l0 l1)
theorem spec_PutAll.F_co (l0 : List (S51)) (l1 : List (S47)) : Co (fun k => spec_PutAll.f k l0 l1) (spec_PutAll.F l0 l1) := Co.base (fun k => spec_PutAll.mono _ _ k)
theorem spec_PutAll.L0_eq (x0 : List (S51)) (x1 : List (S47)) (x6 : List (S51)) (x7 : List Int) (x8 : List (S47)) (x9 : Int) : spec_PutAll.L0 x0 x1 x6 x7 x8 x9 = (if x9 < (x8.length : Int) then ((spec_AreSlots.F x0).bind fun t306 => (if t306 = true then ((spec_AreThings.F x1).bind fun t307 => (spec_PutAll.J1 x0 x1 x6 x7 x8 x9 t307)) else (spec_PutAll.J1 x0 x1 x6 x7 x8 x9 false))) else (spec_PutAll.J1 x0 x1 x6 x7 x8 x9 false)) := by
  refine Co.step (spec_PutAll.L0_co x0 x1 x6 x7 x8 x9) (h := fun k => spec_PutAll.l0 (k + 1) x0 x1 x6 x7 x8 x9) (fun _ => rfl) ?_
  simp only [spec_PutAll.l0]
  repeat' first | (with_reducible exact Co.const _) | (with_reducible exact spec_AreSlots.F_co _) | (with_reducible exact spec_AreThings.F_co _) | (with_reducible exact spec_PutAll.J1_co _ _ _ _ _ _ _) | (with_reducible refine Co.ite ?_ ?_) | (with_reducible refine Co.bind ?_ (fun _ => ?_))
theorem spec_PutAll.J1_eq (x0 : List (S51)) (x1 : List (S47)) (x6 : List (S51)) (x7 : List Int) (x8 : List (S47)) (x9 : Int) (J : Bool) : spec_PutAll.J1 x0 x1 x6 x7 x8 x9 J = (if J = true then (if 0 ≤ x9 then (if x9 < (x8.length : Int) then ((spec_PutAway.F x6 ((rd_T47 x8 x9).f0) ((rd_T47 x8 x9).f1) ((rd_T47 x8 x9).f2) ((rd_T47 x8 x9).f3) ((rd_T47 x8 x9).f4)).bind fun D => (if D.2 = true then (spec_PutAll.L0 x0 x1 D.1 x7 x8 (wrap64 (x9 + 1))) else ((spec_l9Put.F x7 ((rd_T47 x8 x9).f0)).bind fun L => (spec_PutAll.L0 x0 x1 D.1 L x8 (wrap64 (x9 + 1)))))) else (none)) else (none)) else (some (x6, x7))) := by
  refine Co.step (spec_PutAll.J1_co x0 x1 x6 x7 x8 x9 J) (h := fun k => spec_PutAll.j1 (k + 1) x0 x1 x6 x7 x8 x9 J) (fun _ => rfl) ?_
  simp only [spec_PutAll.j1]
  repeat' first | (with_reducible exact Co.const _) | (with_reducible exact spec_PutAll.L0_co _ _ _ _ _ _) | (with_reducible exact spec_PutAway.F_co _ _ _ _ _ _) | (with_reducible exact spec_l9Put.F_co _ _) | (with_reducible refine Co.ite ?_ ?_) | (with_reducible refine Co.bind ?_ (fun _ => ?_))
theorem spec_PutAll.F_eq (l0 : List (S51)) (l1 : List (S47)) : spec_PutAll.F l0 l1 = ((some (([] : List (S51)) : List (S51))).bind fun y294 => (if y294.length + l0.length < 5864062014805 then ((spec_l15Sorted.f l1).bind fun t303 => (spec_PutAll.L0 l0 l1 (y294 ++ l0) (([] : List Int)) t303 0)) else (none))) := by
  refine Co.same (spec_PutAll.F_co l0 l1) (h := fun k => spec_PutAll.f k l0 l1) (fun _ => rfl) ?_
  unfold spec_PutAll.f
  repeat' first | (with_reducible exact Co.const _) | (with_reducible exact spec_PutAll.L0_co _ _ _ _ _ _) | (with_reducible refine Co.ite ?_ ?_) | (with_reducible refine Co.bind ?_ (fun _ => ?_))

noncomputable def laws_eqIntS.L0 (x0 : List Int) (x1 : List Int) (x5 : Int) : Option (Bool) := lim (fun k => laws_eqIntS.l0 k x0 x1 x5)
theorem laws_eqIntS.L0_co (x0 : List Int) (x1 : List Int) (x5 : Int) : Co (fun k => laws_eqIntS.l0 k x0 x1 x5) (laws_eqIntS.L0 x0 x1 x5) := Co.base (fun k => (laws_eqIntS.mono_l k) _ _ _)
noncomputable def laws_eqIntS.F (l0 : List Int) (l1 : List Int) : Option (Bool) := lim (fun k => laws_eqIntS.f k l0 l1)
theorem laws_eqIntS.F_co (l0 : List Int) (l1 : List Int) : Co (fun k => laws_eqIntS.f k l0 l1) (laws_eqIntS.F l0 l1) := Co.base (fun k => laws_eqIntS.mono _ _ k)
theorem laws_eqIntS.L0_eq (x0 : List Int) (x1 : List Int) (x5 : Int) : laws_eqIntS.L0 x0 x1 x5 = (if x5 < (x0.length : Int) then (if 0 ≤ x5 then (if x5 < (x1.length : Int) then (if (rd x0 x5) = (rd x1 x5) then (laws_eqIntS.L0 x0 x1 (wrap64 (x5 + 1))) else (some false)) else (none)) else (none)) else (some true)) := by
  refine Co.step (laws_eqIntS.L0_co x0 x1 x5) (h := fun k => laws_eqIntS.l0 (k + 1) x0 x1 x5) (fun _ => rfl) ?_
  simp only [laws_eqIntS.l0]
  repeat' first | (with_reducible exact Co.const _) | (with_reducible exact laws_eqIntS.L0_co _ _ _) | (with_reducible refine Co.ite ?_ ?_) | (with_reducible refine Co.bind ?_ (fun _ => ?_))
theorem laws_eqIntS.F_eq (l0 : List Int) (l1 : List Int) : laws_eqIntS.F l0 l1 = (if (l0.length : Int) = (l1.length : Int) then (laws_eqIntS.L0 l0 l1 0) else (some false)) := by
  refine Co.same (laws_eqIntS.F_co l0 l1) (h := fun k => laws_eqIntS.f k l0 l1) (fun _ => rfl) ?_
  unfold laws_eqIntS.f
  repeat' first | (with_reducible exact Co.const _) | (with_reducible exact laws_eqIntS.L0_co _ _ _) | (with_reducible refine Co.ite ?_ ?_) | (with_reducible refine Co.bind ?_ (fun _ => ?_))

noncomputable def laws_markSlotS.L0 (x0 : List (S51)) (x1 : Int) (x5 : Int) : Option (Int × (List (S51))) := lim (fun k => laws_markSlotS.l0 k x0 x1 x5)
theorem laws_markSlotS.L0_co (x0 : List (S51)) (x1 : Int) (x5 : Int) : Co (fun k => laws_markSlotS.l0 k x0 x1 x5) (laws_markSlotS.L0 x0 x1 x5) := Co.base (fun k => (laws_markSlotS.mono_l k) _ _ _)
noncomputable def laws_markSlotS.F (l0 : List (S51)) (a1 : Int) : Option (Int × (List (S51))) := lim (fun k => laws_markSlotS.f k l0 a1)
theorem laws_markSlotS.F_co (l0 : List (S51)) (a1 : Int) : Co (fun k => laws_markSlotS.f k l0 a1) (laws_markSlotS.F l0 a1) := Co.base (fun k => laws_markSlotS.mono _ _ k)
theorem laws_markSlotS.L0_eq (x0 : List (S51)) (x1 : Int) (x5 : Int) : laws_markSlotS.L0 x0 x1 x5 = (if x5 < (x0.length : Int) then (if 0 ≤ x5 then ((some (x0.set (x5 : Int).toNat (⟨x1, (rd_T51 x0 x5).f1, (rd_T51 x0 x5).f2⟩ : S51) : List (S51))).bind fun D => ((some (D.set (x5 : Int).toNat (⟨(rd_T51 D x5).f0, wrap64 (x1 + 1), (rd_T51 D x5).f2⟩ : S51) : List (S51))).bind fun J => (laws_markSlotS.L0 (J.set (x5 : Int).toNat (⟨(rd_T51 J x5).f0, (rd_T51 J x5).f1, wrap64 ((wrap64 (x1 + 1)) + 1)⟩ : S51)) (wrap64 ((wrap64 ((wrap64 (x1 + 1)) + 1)) + 1)) (wrap64 (x5 + 1))))) else (none)) else (some (x1, x0))) := by
  refine Co.step (laws_markSlotS.L0_co x0 x1 x5) (h := fun k => laws_markSlotS.l0 (k + 1) x0 x1 x5) (fun _ => rfl) ?_
  simp only [laws_markSlotS.l0]
  repeat' first | (with_reducible exact Co.const _) | (with_reducible exact laws_markSlotS.L0_co _ _ _) | (with_reducible refine Co.ite ?_ ?_) | (with_reducible refine Co.bind ?_ (fun _ => ?_))
theorem laws_markSlotS.F_eq (l0 : List (S51)) (a1 : Int) : laws_markSlotS.F l0 a1 = (laws_markSlotS.L0 l0 a1 0) := by
  refine Co.same (laws_markSlotS.F_co l0 a1) (h := fun k => laws_markSlotS.f k l0 a1) (fun _ => rfl) ?_
  unfold laws_markSlotS.f
  repeat' first | (with_reducible exact Co.const _) | (with_reducible exact laws_markSlotS.L0_co _ _ _) | (with_reducible refine Co.ite ?_ ?_) | (with_reducible refine Co.bind ?_ (fun _ => ?_))

noncomputable def laws_markThingS.L0 (x0 : List (S47)) (x1 : Int) (x5 : Int) : Option (Int × (List (S47))) := lim (fun k => laws_markThingS.l0 k x0 x1 x5)
theorem laws_markThingS.L0_co (x0 : List (S47)) (x1 : Int) (x5 : Int) : Co (fun k => laws_markThingS.l0 k x0 x1 x5) (laws_markThingS.L0 x0 x1 x5) := Co.base (fun k => (laws_markThingS.mono_l k) _ _ _)
noncomputable def laws_markThingS.F (l0 : List (S47)) (a1 : Int) : Option (Int × (List (S47))) := lim (fun k => laws_markThingS.f k l0 a1)
theorem laws_markThingS.F_co (l0 : List (S47)) (a1 : Int) : Co (fun k => laws_markThingS.f k l0 a1) (laws_markThingS.F l0 a1) := Co.base (fun k => laws_markThingS.mono _ _ k)
theorem laws_markThingS.L0_eq (x0 : List (S47)) (x1 : Int) (x5 : Int) : laws_markThingS.L0 x0 x1 x5 = (if x5 < (x0.length : Int) then (if 0 ≤ x5 then ((some (x0.set (x5 : Int).toNat (⟨x1, (rd_T47 x0 x5).f1, (rd_T47 x0 x5).f2, (rd_T47 x0 x5).f3, (rd_T47 x0 x5).f4⟩ : S47) : List (S47))).bind fun D => ((some (D.set (x5 : Int).toNat (⟨(rd_T47 D x5).f0, wrap64 (x1 + 1), (rd_T47 D x5).f2, (rd_T47 D x5).f3, (rd_T47 D x5).f4⟩ : S47) : List (S47))).bind fun J => ((some (J.set (x5 : Int).toNat (⟨(rd_T47 J x5).f0, (rd_T47 J x5).f1, wrap64 ((wrap64 (x1 + 1)) + 1), (rd_T47 J x5).f3, (rd_T47 J x5).f4⟩ : S47) : List (S47))).bind fun L => ((some (L.set (x5 : Int).toNat (⟨(rd_T47 L x5).f0, (rd_T47 L x5).f1, (rd_T47 L x5).f2, wrap64 ((wrap64 ((wrap64 (x1 + 1)) + 1)) + 1), (rd_T47 L x5).f4⟩ : S47) : List (S47))).bind fun Y => (laws_markThingS.L0 (Y.set (x5 : Int).toNat (⟨(rd_T47 Y x5).f0, (rd_T47 Y x5).f1, (rd_T47 Y x5).f2, (rd_T47 Y x5).f3, wrap64 ((wrap64 ((wrap64 ((wrap64 (x1 + 1)) + 1)) + 1)) + 1)⟩ : S47)) (wrap64 ((wrap64 ((wrap64 ((wrap64 ((wrap64 (x1 + 1)) + 1)) + 1)) + 1)) + 1)) (wrap64 (x5 + 1))))))) else (none)) else (some (x1, x0))) := by
  refine Co.step (laws_markThingS.L0_co x0 x1 x5) (h := fun k => laws_markThingS.l0 (k + 1) x0 x1 x5) (fun _ => rfl) ?_
  simp only [laws_markThingS.l0]
  repeat' first | (with_reducible exact Co.const _) | (with_reducible exact laws_markThingS.L0_co _ _ _) | (with_reducible refine Co.ite ?_ ?_) | (with_reducible refine Co.bind ?_ (fun _ => ?_))
theorem laws_markThingS.F_eq (l0 : List (S47)) (a1 : Int) : laws_markThingS.F l0 a1 = (laws_markThingS.L0 l0 a1 0) := by
  refine Co.same (laws_markThingS.F_co l0 a1) (h := fun k => laws_markThingS.f k l0 a1) (fun _ => rfl) ?_
  unfold laws_markThingS.f
  repeat' first | (with_reducible exact Co.const _) | (with_reducible exact laws_markThingS.L0_co _ _ _) | (with_reducible refine Co.ite ?_ ?_) | (with_reducible refine Co.bind ?_ (fun _ => ?_))

noncomputable def laws_markIntS.L0 (x0 : List Int) (x1 : Int) (x5 : Int) : Option (Int × List Int) := lim (fun k => laws_markIntS.l0 k x0 x1 x5)
theorem laws_markIntS.L0_co (x0 : List Int) (x1 : Int) (x5 : Int) : Co (fun k => laws_markIntS.l0 k x0 x1 x5) (laws_markIntS.L0 x0 x1 x5) := Co.base (fun k => (laws_markIntS.mono_l k) _ _ _)
noncomputable def laws_markIntS.F (l0 : List Int) (a1 : Int) : Option (Int × List Int) := lim (fun k => laws_markIntS.f k l0 a1)
theorem laws_markIntS.F_co (l0 : List Int) (a1 : Int) : Co (fun k => laws_markIntS.f k l0 a1) (laws_markIntS.F l0 a1) := Co.base (fun k => laws_markIntS.mono _ _ k)
theorem laws_markIntS.L0_eq (x0 : List Int) (x1 : Int) (x5 : Int) : laws_markIntS.L0 x0 x1 x5 = (if x5 < (x0.length : Int) then (if 0 ≤ x5 then (laws_markIntS.L0 (x0.set (x5 : Int).toNat x1) (wrap64 (x1 + 1)) (wrap64 (x5 + 1))) else (none)) else (some (x1, x0))) := by
  refine Co.step (laws_markIntS.L0_co x0 x1 x5) (h := fun k => laws_markIntS.l0 (k + 1) x0 x1 x5) (fun _ => rfl) ?_
  simp only [laws_markIntS.l0]
  repeat' first | (with_reducible exact Co.const _) | (with_reducible exact laws_markIntS.L0_co _ _ _) | (with_reducible refine Co.ite ?_ ?_) | (with_reducible refine Co.bind ?_ (fun _ => ?_))
theorem laws_markIntS.F_eq (l0 : List Int) (a1 : Int) : laws_markIntS.F l0 a1 = (laws_markIntS.L0 l0 a1 0) := by
  refine Co.same (laws_markIntS.F_co l0 a1) (h := fun k => laws_markIntS.f k l0 a1) (fun _ => rfl) ?_
  unfold laws_markIntS.f
  repeat' first | (with_reducible exact Co.const _) | (with_reducible exact laws_markIntS.L0_co _ _ _) | (with_reducible refine Co.ite ?_ ?_) | (with_reducible refine Co.bind ?_ (fun _ => ?_))

noncomputable def laws_heldSlotS.L0 (x0 : List (S51)) (x1 : Int) (x5 : Int) : Option (Int) := lim (fun k => laws_heldSlotS.l0 k x0 x1 x5)
theorem laws_heldSlotS.L0_co (x0 : List (S51)) (x1 : Int) (x5 : Int) : Co (fun k => laws_heldSlotS.l0 k x0 x1 x5) (laws_heldSlotS.L0 x0 x1 x5) := Co.base (fun k => (laws_heldSlotS.mono_l k) _ _ _)
noncomputable def laws_heldSlotS.F (l0 : List (S51)) (a1 : Int) : Option (Int) := lim (fun k => laws_heldSlotS.f k l0 a1)
theorem laws_heldSlotS.F_co (l0 : List (S51)) (a1 : Int) : Co (fun k => laws_heldSlotS.f k l0 a1) (laws_heldSlotS.F l0 a1) := Co.base (fun k => laws_heldSlotS.mono _ _ k)
theorem laws_heldSlotS.L0_eq (x0 : List (S51)) (x1 : Int) (x5 : Int) : laws_heldSlotS.L0 x0 x1 x5 = (if x5 < (x0.length : Int) then (if 0 ≤ x5 then (if ((rd_T51 x0 x5).f0) = x1 then (if ((rd_T51 x0 x5).f1) = (wrap64 (x1 + 1)) then (if ((rd_T51 x0 x5).f2) = (wrap64 ((wrap64 (x1 + 1)) + 1)) then (laws_heldSlotS.L0 x0 (wrap64 ((wrap64 ((wrap64 (x1 + 1)) + 1)) + 1)) (wrap64 (x5 + 1))) else (some (-1))) else (some (-1))) else (some (-1))) else (none)) else (some x1)) := by
  refine Co.step (laws_heldSlotS.L0_co x0 x1 x5) (h := fun k => laws_heldSlotS.l0 (k + 1) x0 x1 x5) (fun _ => rfl) ?_
  simp only [laws_heldSlotS.l0]
  repeat' first | (with_reducible exact Co.const _) | (with_reducible exact laws_heldSlotS.L0_co _ _ _) | (with_reducible refine Co.ite ?_ ?_) | (with_reducible refine Co.bind ?_ (fun _ => ?_))
theorem laws_heldSlotS.F_eq (l0 : List (S51)) (a1 : Int) : laws_heldSlotS.F l0 a1 = (laws_heldSlotS.L0 l0 a1 0) := by
  refine Co.same (laws_heldSlotS.F_co l0 a1) (h := fun k => laws_heldSlotS.f k l0 a1) (fun _ => rfl) ?_
  unfold laws_heldSlotS.f
  repeat' first | (with_reducible exact Co.const _) | (with_reducible exact laws_heldSlotS.L0_co _ _ _) | (with_reducible refine Co.ite ?_ ?_) | (with_reducible refine Co.bind ?_ (fun _ => ?_))

noncomputable def laws_heldIntS.L0 (x0 : List Int) (x1 : Int) (x5 : Int) : Option (Int) := lim (fun k => laws_heldIntS.l0 k x0 x1 x5)
theorem laws_heldIntS.L0_co (x0 : List Int) (x1 : Int) (x5 : Int) : Co (fun k => laws_heldIntS.l0 k x0 x1 x5) (laws_heldIntS.L0 x0 x1 x5) := Co.base (fun k => (laws_heldIntS.mono_l k) _ _ _)
noncomputable def laws_heldIntS.F (l0 : List Int) (a1 : Int) : Option (Int) := lim (fun k => laws_heldIntS.f k l0 a1)
theorem laws_heldIntS.F_co (l0 : List Int) (a1 : Int) : Co (fun k => laws_heldIntS.f k l0 a1) (laws_heldIntS.F l0 a1) := Co.base (fun k => laws_heldIntS.mono _ _ k)
theorem laws_heldIntS.L0_eq (x0 : List Int) (x1 : Int) (x5 : Int) : laws_heldIntS.L0 x0 x1 x5 = (if x5 < (x0.length : Int) then (if 0 ≤ x5 then (if (rd x0 x5) = x1 then (laws_heldIntS.L0 x0 (wrap64 (x1 + 1)) (wrap64 (x5 + 1))) else (some (-1))) else (none)) else (some x1)) := by
  refine Co.step (laws_heldIntS.L0_co x0 x1 x5) (h := fun k => laws_heldIntS.l0 (k + 1) x0 x1 x5) (fun _ => rfl) ?_
  simp only [laws_heldIntS.l0]
  repeat' first | (with_reducible exact Co.const _) | (with_reducible exact laws_heldIntS.L0_co _ _ _) | (with_reducible refine Co.ite ?_ ?_) | (with_reducible refine Co.bind ?_ (fun _ => ?_))
theorem laws_heldIntS.F_eq (l0 : List Int) (a1 : Int) : laws_heldIntS.F l0 a1 = (laws_heldIntS.L0 l0 a1 0) := by
  refine Co.same (laws_heldIntS.F_co l0 a1) (h := fun k => laws_heldIntS.f k l0 a1) (fun _ => rfl) ?_
  unfold laws_heldIntS.f
  repeat' first | (with_reducible exact Co.const _) | (with_reducible exact laws_heldIntS.L0_co _ _ _) | (with_reducible refine Co.ite ?_ ?_) | (with_reducible refine Co.bind ?_ (fun _ => ?_))

noncomputable def laws_FnExactPutAll.J0 (x0 : List (S91)) (x1 : List (S55)) (x6 : List (S51)) (x7 : List Int) (x8 : List (S51)) (x9 : List (S47)) (D : List (S51)) (J : List Int) (L : Bool) : Option (Bool) := lim (fun k => laws_FnExactPutAll.j0 k x0 x1 x6 x7 x8 x9 D J L)
theorem laws_FnExactPutAll.J0_co (x0 : List (S91)) (x1 : List (S55)) (x6 : List (S51)) (x7 : List Int) (x8 : List (S51)) (x9 : List (S47)) (D : List (S51)) (J : List Int) (L : Bool) : Co (fun k => laws_FnExactPutAll.j0 k x0 x1 x6 x7 x8 x9 D J L) (laws_FnExactPutAll.J0 x0 x1 x6 x7 x8 x9 D J L) := Co.base (fun k => (laws_FnExactPutAll.mono_l k).1 _ _ _ _ _ _ _ _ _)
noncomputable def laws_FnExactPutAll.J1 (x0 : List (S91)) (x1 : List (S55)) (x6 : List (S51)) (x7 : List Int) (ab : List (S51)) (ac : List Int) (ad : Bool) : Option (Bool) := lim (fun k => laws_FnExactPutAll.j1 k x0 x1 x6 x7 ab ac ad)
theorem laws_FnExactPutAll.J1_co (x0 : List (S91)) (x1 : List (S55)) (x6 : List (S51)) (x7 : List Int) (ab : List (S51)) (ac : List Int) (ad : Bool) : Co (fun k => laws_FnExactPutAll.j1 k x0 x1 x6 x7 ab ac ad) (laws_FnExactPutAll.J1 x0 x1 x6 x7 ab ac ad) := Co.base (fun k => (laws_FnExactPutAll.mono_l k).2.1 _ _ _ _ _ _ _)
noncomputable def laws_FnExactPutAll.J2 (x10 : List (S51)) (x11 : List Int) (x13 : Int) (x121 : Bool) : Option (Bool) := lim (fun k => laws_FnExactPutAll.j2 k x10 x11 x13 x121)
theorem laws_FnExactPutAll.J2_co (x10 : List (S51)) (x11 : List Int) (x13 : Int) (x121 : Bool) : Co (fun k => laws_FnExactPutAll.j2 k x10 x11 x13 x121) (laws_FnExactPutAll.J2 x10 x11 x13 x121) := Co.base (fun k => (laws_FnExactPutAll.mono_l k).2.2 _ _ _ _)
noncomputable def laws_FnExactPutAll.F (l0 : List (S91)) (l1 : List (S55)) : Option (Bool) := lim (fun k => laws_FnExactPutAll.f k l0 l1)
theorem laws_FnExactPutAll.F_co (l0 : List (S91)) (l1 : List (S55)) : Co (fun k => laws_FnExactPutAll.f k l0 l1) (laws_FnExactPutAll.F l0 l1) := Co.base (fun k => laws_FnExactPutAll.mono _ _ k)
theorem laws_FnExactPutAll.J0_eq (x0 : List (S91)) (x1 : List (S55)) (x6 : List (S51)) (x7 : List Int) (x8 : List (S51)) (x9 : List (S47)) (D : List (S51)) (J : List Int) (L : Bool) : laws_FnExactPutAll.J0 x0 x1 x6 x7 x8 x9 D J L = (if L = true then (some false) else ((laws_toSlotS.F x0).bind fun Y => ((laws_eqSlotS.F x8 Y).bind fun aa => (if aa = true then ((laws_toThingS.F x1).bind fun ab => ((laws_eqThingS.F x9 ab).bind fun ac => (if ac = true then ((laws_markSlotS.F x8 1).bind fun ad => ((laws_markThingS.F x9 ad.1).bind fun ae => (if ae.1 < 0 then (laws_FnExactPutAll.J1 x0 x1 x6 x7 D J true) else ((laws_eqSlotS.F D x6).bind fun af => (if af = true then ((laws_eqIntS.F J x7).bind fun ag => (laws_FnExactPutAll.J1 x0 x1 x6 x7 D J (!ag))) else (laws_FnExactPutAll.J1 x0 x1 x6 x7 D J true)))))) else (some false)))) else (some false))))) := by
  refine Co.step (laws_FnExactPutAll.J0_co x0 x1 x6 x7 x8 x9 D J L) (h := fun k => laws_FnExactPutAll.j0 (k + 1) x0 x1 x6 x7 x8 x9 D J L) (fun _ => rfl) ?_
  simp only [laws_FnExactPutAll.j0]
  repeat' first | (with_reducible exact Co.const _) | (with_reducible exact laws_FnExactPutAll.J1_co _ _ _ _ _ _ _) | (with_reducible exact laws_eqIntS.F_co _ _) | (with_reducible exact laws_eqSlotS.F_co _ _) | (with_reducible exact laws_eqThingS.F_co _ _) | (with_reducible exact laws_markSlotS.F_co _ _) | (with_reducible exact laws_markThingS.F_co _ _) | (with_reducible exact laws_toSlotS.F_co _) | (with_reducible exact laws_toThingS.F_co _) | (with_reducible refine Co.ite ?_ ?_) | (with_reducible refine Co.bind ?_ (fun _ => ?_))
theorem laws_FnExactPutAll.J1_eq (x0 : List (S91)) (x1 : List (S55)) (x6 : List (S51)) (x7 : List Int) (ab : List (S51)) (ac : List Int) (ad : Bool) : laws_FnExactPutAll.J1 x0 x1 x6 x7 ab ac ad = (if ad = true then (some false) else ((laws_markSlotS.F ab 1).bind fun J => ((laws_markIntS.F ac J.1).bind fun D => ((laws_heldSlotS.F J.2 1).bind fun L => (if L < 0 then (some false) else ((laws_heldIntS.F D.2 L).bind fun Y => (if Y < 0 then (some false) else (if Y = D.1 then ((laws_toSlotS.F x0).bind fun ae => ((laws_toThingS.F x1).bind fun af => ((impl_PutAll.F ae af).bind fun aa => ((laws_eqSlotS.F aa.1 x6).bind fun ag => (if ag = true then ((laws_eqIntS.F aa.2 x7).bind fun ah => (laws_FnExactPutAll.J2 J.2 D.2 D.1 (!ah))) else (laws_FnExactPutAll.J2 J.2 D.2 D.1 true)))))) else (some false))))))))) := by
  refine Co.step (laws_FnExactPutAll.J1_co x0 x1 x6 x7 ab ac ad) (h := fun k => laws_FnExactPutAll.j1 (k + 1) x0 x1 x6 x7 ab ac ad) (fun _ => rfl) ?_
  simp only [laws_FnExactPutAll.j1]
  repeat' first | (with_reducible exact Co.const _) | (with_reducible exact impl_PutAll.F_co _ _) | (with_reducible exact laws_FnExactPutAll.J2_co _ _ _ _) | (with_reducible exact laws_eqIntS.F_co _ _) | (with_reducible exact laws_eqSlotS.F_co _ _) | (with_reducible exact laws_heldIntS.F_co _ _) | (with_reducible exact laws_heldSlotS.F_co _ _) | (with_reducible exact laws_markIntS.F_co _ _) | (with_reducible exact laws_markSlotS.F_co _ _) | (with_reducible exact laws_toSlotS.F_co _) | (with_reducible exact laws_toThingS.F_co _) | (with_reducible refine Co.ite ?_ ?_) | (with_reducible refine Co.bind ?_ (fun _ => ?_))
theorem laws_FnExactPutAll.J2_eq (x10 : List (S51)) (x11 : List Int) (x13 : Int) (x121 : Bool) : laws_FnExactPutAll.J2 x10 x11 x13 x121 = (if x121 = true then (some false) else ((laws_heldSlotS.F x10 1).bind fun t394 => (if t394 < 0 then (some false) else ((laws_heldIntS.F x11 t394).bind fun t395 => (if t395 < 0 then (some false) else (if t395 = x13 then (some true) else (some false))))))) := by
  refine Co.step (laws_FnExactPutAll.J2_co x10 x11 x13 x121) (h := fun k => laws_FnExactPutAll.j2 (k + 1) x10 x11 x13 x121) (fun _ => rfl) ?_
  simp only [laws_FnExactPutAll.j2]
  repeat' first | (with_reducible exact Co.const _) | (with_reducible exact laws_heldIntS.F_co _ _) | (with_reducible exact laws_heldSlotS.F_co _ _) | (with_reducible refine Co.ite ?_ ?_) | (with_reducible refine Co.bind ?_ (fun _ => ?_))
theorem laws_FnExactPutAll.F_eq (l0 : List (S91)) (l1 : List (S55)) : laws_FnExactPutAll.F l0 l1 = ((laws_szSlotS.f l0 1048576).bind fun aa => (if aa < 0 then (some true) else ((laws_szThingS.f l1 aa).bind fun ab => (if ab < 0 then (some true) else ((laws_toSlotS.F l0).bind fun ac => ((laws_toThingS.F l1).bind fun ad => ((spec_PutAll.F ac ad).bind fun D => ((laws_toSlotS.F l0).bind fun L => ((laws_toThingS.F l1).bind fun Y => ((impl_PutAll.F L Y).bind fun J => ((laws_eqSlotS.F J.1 D.1).bind fun ae => (if ae = true then ((laws_eqIntS.F J.2 D.2).bind fun af => (laws_FnExactPutAll.J0 l0 l1 D.1 D.2 L Y J.1 J.2 (!af))) else (laws_FnExactPutAll.J0 l0 l1 D.1 D.2 L Y J.1 J.2 true))))))))))))) := by
  refine Co.same (laws_FnExactPutAll.F_co l0 l1) (h := fun k => laws_FnExactPutAll.f k l0 l1) (fun _ => rfl) ?_
  unfold laws_FnExactPutAll.f
  repeat' first | (with_reducible exact Co.const _) | (with_reducible exact impl_PutAll.F_co _ _) | (with_reducible exact laws_FnExactPutAll.J0_co _ _ _ _ _ _ _ _ _) | (with_reducible exact laws_eqIntS.F_co _ _) | (with_reducible exact laws_eqSlotS.F_co _ _) | (with_reducible exact laws_toSlotS.F_co _) | (with_reducible exact laws_toThingS.F_co _) | (with_reducible exact spec_PutAll.F_co _ _) | (with_reducible refine Co.ite ?_ ?_) | (with_reducible refine Co.bind ?_ (fun _ => ?_))

end Go.Proofs.Ytbacepkkamfeoaa.PFnExactPutAll.Pure
