/-
  The printed functions that this law reaches, their rounds used up, and the equations that they meet.
-/
import Derived.Test.YtbacepkkamfeoaaPFnPackedx1
import Derived.Test.YtbacepkkamfeoaaPFnPackedx10
import Derived.Test.YtbacepkkamfeoaaPFnPackedx11
import Derived.Test.YtbacepkkamfeoaaPFnPackedx12
import Derived.Test.YtbacepkkamfeoaaPFnPackedx13
import Derived.Test.YtbacepkkamfeoaaPFnPackedx14
import Derived.Test.YtbacepkkamfeoaaPFnPackedx15
import Derived.Test.YtbacepkkamfeoaaPFnPackedx2
import Derived.Test.YtbacepkkamfeoaaPFnPackedx3
import Derived.Test.YtbacepkkamfeoaaPFnPackedx4
import Derived.Test.YtbacepkkamfeoaaPFnPackedx5
import Derived.Test.YtbacepkkamfeoaaPFnPackedx6
import Derived.Test.YtbacepkkamfeoaaPFnPackedx7
import Derived.Test.YtbacepkkamfeoaaPFnPackedx8
import Derived.Test.YtbacepkkamfeoaaPFnPackedx9
import Derived.Test.YtbacepkkamfeoaaLim
namespace Go.Proofs.Ytbacepkkamfeoaa.PFnPacked.Pure
open Go.RowKit Go.Proofs.YtbacepkkamfeoaaW.PrintWords Go.Proofs.YtbacepkkamfeoaaW.PrintLast Go.Proofs.YtbacepkkamfeoaaW.PrintMore Go.Proofs.Ytbacepkkamfeoaa.PFnPacked Go.Proofs.Ytbacepkkamfeoaa.Lim
set_option linter.unusedVariables false
set_option maxRecDepth 100000

noncomputable def impl_AreSlots.L0 (x0 : List (S51)) (x8 : List (S51)) (x9 : Int) (D : Int) : Option (Bool) := lim (fun k => impl_AreSlots.l0 k x0 x8 x9 D)
theorem impl_AreSlots.L0_co (x0 : List (S51)) (x8 : List (S51)) (x9 : Int) (D : Int) : Co (fun k => impl_AreSlots.l0 k x0 x8 x9 D) (impl_AreSlots.L0 x0 x8 x9 D) := Co.base (fun k => (impl_AreSlots.mono_l k) _ _ _ _)
noncomputable def impl_AreSlots.F (l0 : List (S51)) : Option (Bool) := lim (fun k => impl_AreSlots.f k l0)
theorem impl_AreSlots.F_co (l0 : List (S51)) : Co (fun k => impl_AreSlots.f k l0) (impl_AreSlots.F l0) := Co.base (fun k => impl_AreSlots.mono _ k)
theorem impl_AreSlots.L0_eq (x0 : List (S51)) (x8 : List (S51)) (x9 : Int) (D : Int) : impl_AreSlots.L0 x0 x8 x9 D = (if D < x9 then (if 0 ≤ D then (if D < (x8.length : Int) then ((impl_InRange.f ((rd_T51 x8 D).f0) 1 99).bind fun J => (if J = true then (if D > 0 then (if 0 ≤ (wrap64 (D - 1)) then (if (wrap64 (D - 1)) < (x0.length : Int) then (if ((rd_T51 x8 D).f0) ≤ ((rd_T51 x0 (wrap64 (D - 1))).f0) then (some false) else ((impl_InRange.f ((rd_T51 x8 D).f1) 1 50).bind fun L => (if L = true then ((impl_InRange.f ((rd_T51 x8 D).f2) 0 999).bind fun Y => (if Y = true then (if D ≤ (x0.length : Int) then ((impl_SlotOf.f (x0.take (D : Int).toNat) ((rd_T51 x8 D).f2)).bind fun aa => (if aa = 0 then (impl_AreSlots.L0 x0 x8 x9 (wrap64 (D + 1))) else (some false))) else (none)) else (some false))) else (some false)))) else (none)) else (none)) else ((impl_InRange.f ((rd_T51 x8 D).f1) 1 50).bind fun ab => (if ab = true then ((impl_InRange.f ((rd_T51 x8 D).f2) 0 999).bind fun ac => (if ac = true then (if D ≤ (x0.length : Int) then ((impl_SlotOf.f (x0.take (D : Int).toNat) ((rd_T51 x8 D).f2)).bind fun ad => (if ad = 0 then (impl_AreSlots.L0 x0 x8 x9 (wrap64 (D + 1))) else (some false))) else (none)) else (some false))) else (some false)))) else (some false))) else (none)) else (none)) else (some true)) := by
  refine Co.step (impl_AreSlots.L0_co x0 x8 x9 D) (h := fun k => impl_AreSlots.l0 (k + 1) x0 x8 x9 D) (fun _ => rfl) ?_
  simp only [impl_AreSlots.l0]
  repeat' first | (with_reducible exact Co.const _) | (with_reducible exact impl_AreSlots.L0_co _ _ _ _) | (with_reducible refine Co.ite ?_ ?_) | (with_reducible refine Co.bind ?_ (fun _ => ?_))
theorem impl_AreSlots.F_eq (l0 : List (S51)) : impl_AreSlots.F l0 = (if (l0.length : Int) > 30 then (some false) else (impl_AreSlots.L0 l0 l0 (l0.length : Int) 0)) := by
  refine Co.same (impl_AreSlots.F_co l0) (h := fun k => impl_AreSlots.f k l0) (fun _ => rfl) ?_
  unfold impl_AreSlots.f
  repeat' first | (with_reducible exact Co.const _) | (with_reducible exact impl_AreSlots.L0_co _ _ _ _) | (with_reducible refine Co.ite ?_ ?_) | (with_reducible refine Co.bind ?_ (fun _ => ?_))

noncomputable def impl_AreThings.L0 (x0 : List (S47)) (x8 : List (S47)) (x9 : Int) (D : Int) : Option (Bool) := lim (fun k => impl_AreThings.l0 k x0 x8 x9 D)
theorem impl_AreThings.L0_co (x0 : List (S47)) (x8 : List (S47)) (x9 : Int) (D : Int) : Co (fun k => impl_AreThings.l0 k x0 x8 x9 D) (impl_AreThings.L0 x0 x8 x9 D) := Co.base (fun k => (impl_AreThings.mono_l k) _ _ _ _)
noncomputable def impl_AreThings.F (l0 : List (S47)) : Option (Bool) := lim (fun k => impl_AreThings.f k l0)
theorem impl_AreThings.F_co (l0 : List (S47)) : Co (fun k => impl_AreThings.f k l0) (impl_AreThings.F l0) := Co.base (fun k => impl_AreThings.mono _ k)
theorem impl_AreThings.L0_eq (x0 : List (S47)) (x8 : List (S47)) (x9 : Int) (D : Int) : impl_AreThings.L0 x0 x8 x9 D = (if D < x9 then (if 0 ≤ D then (if D < (x8.length : Int) then ((impl_IsThing.f ((rd_T47 x8 D).f0) ((rd_T47 x8 D).f1) ((rd_T47 x8 D).f2) ((rd_T47 x8 D).f3) ((rd_T47 x8 D).f4)).bind fun J => (if J = true then (if D > 0 then (if 0 ≤ (wrap64 (D - 1)) then (if (wrap64 (D - 1)) < (x0.length : Int) then (if ((rd_T47 x8 D).f0) ≤ ((rd_T47 x0 (wrap64 (D - 1))).f0) then (some false) else (impl_AreThings.L0 x0 x8 x9 (wrap64 (D + 1)))) else (none)) else (none)) else (impl_AreThings.L0 x0 x8 x9 (wrap64 (D + 1)))) else (some false))) else (none)) else (none)) else (some true)) := by
  refine Co.step (impl_AreThings.L0_co x0 x8 x9 D) (h := fun k => impl_AreThings.l0 (k + 1) x0 x8 x9 D) (fun _ => rfl) ?_
  simp only [impl_AreThings.l0]
  repeat' first | (with_reducible exact Co.const _) | (with_reducible exact impl_AreThings.L0_co _ _ _ _) | (with_reducible refine Co.ite ?_ ?_) | (with_reducible refine Co.bind ?_ (fun _ => ?_))
theorem impl_AreThings.F_eq (l0 : List (S47)) : impl_AreThings.F l0 = (if (l0.length : Int) > 20 then (some false) else (impl_AreThings.L0 l0 l0 (l0.length : Int) 0)) := by
  refine Co.same (impl_AreThings.F_co l0) (h := fun k => impl_AreThings.f k l0) (fun _ => rfl) ?_
  unfold impl_AreThings.f
  repeat' first | (with_reducible exact Co.const _) | (with_reducible exact impl_AreThings.L0_co _ _ _ _) | (with_reducible refine Co.ite ?_ ?_) | (with_reducible refine Co.bind ?_ (fun _ => ?_))

noncomputable def impl_freeFor.L0 (x0 : List (S51)) (x1 : Int) (x5 : Int) (x8 : List (S51)) (x9 : Int) (D : Int) : Option (Int) := lim (fun k => impl_freeFor.l0 k x0 x1 x5 x8 x9 D)
theorem impl_freeFor.L0_co (x0 : List (S51)) (x1 : Int) (x5 : Int) (x8 : List (S51)) (x9 : Int) (D : Int) : Co (fun k => impl_freeFor.l0 k x0 x1 x5 x8 x9 D) (impl_freeFor.L0 x0 x1 x5 x8 x9 D) := Co.base (fun k => (impl_freeFor.mono_l k) _ _ _ _ _ _)
noncomputable def impl_freeFor.F (l0 : List (S51)) (a1 : Int) : Option (Int) := lim (fun k => impl_freeFor.f k l0 a1)
theorem impl_freeFor.F_co (l0 : List (S51)) (a1 : Int) : Co (fun k => impl_freeFor.f k l0 a1) (impl_freeFor.F l0 a1) := Co.base (fun k => impl_freeFor.mono _ _ k)
theorem impl_freeFor.L0_eq (x0 : List (S51)) (x1 : Int) (x5 : Int) (x8 : List (S51)) (x9 : Int) (D : Int) : impl_freeFor.L0 x0 x1 x5 x8 x9 D = (if D < x9 then (if 0 ≤ D then (if D < (x8.length : Int) then (if ((rd_T51 x8 D).f2) = 0 then (if ((rd_T51 x8 D).f1) ≥ x1 then (if x5 < 0 then (impl_freeFor.L0 x0 x1 D x8 x9 (wrap64 (D + 1))) else (if 0 ≤ x5 then (if x5 < (x0.length : Int) then (if ((rd_T51 x8 D).f1) < ((rd_T51 x0 x5).f1) then (impl_freeFor.L0 x0 x1 D x8 x9 (wrap64 (D + 1))) else (impl_freeFor.L0 x0 x1 x5 x8 x9 (wrap64 (D + 1)))) else (none)) else (none))) else (impl_freeFor.L0 x0 x1 x5 x8 x9 (wrap64 (D + 1)))) else (impl_freeFor.L0 x0 x1 x5 x8 x9 (wrap64 (D + 1)))) else (none)) else (none)) else (some x5)) := by
  refine Co.step (impl_freeFor.L0_co x0 x1 x5 x8 x9 D) (h := fun k => impl_freeFor.l0 (k + 1) x0 x1 x5 x8 x9 D) (fun _ => rfl) ?_
  simp only [impl_freeFor.l0]
  repeat' first | (with_reducible exact Co.const _) | (with_reducible exact impl_freeFor.L0_co _ _ _ _ _ _) | (with_reducible refine Co.ite ?_ ?_) | (with_reducible refine Co.bind ?_ (fun _ => ?_))
theorem impl_freeFor.F_eq (l0 : List (S51)) (a1 : Int) : impl_freeFor.F l0 a1 = (impl_freeFor.L0 l0 a1 (-1) l0 (l0.length : Int) 0) := by
  refine Co.same (impl_freeFor.F_co l0 a1) (h := fun k => impl_freeFor.f k l0 a1) (fun _ => rfl) ?_
  unfold impl_freeFor.f
  repeat' first | (with_reducible exact Co.const _) | (with_reducible exact impl_freeFor.L0_co _ _ _ _ _ _) | (with_reducible refine Co.ite ?_ ?_) | (with_reducible refine Co.bind ?_ (fun _ => ?_))

noncomputable def impl_PutAway.F (l0 : List (S51)) (a1_0 : Int) (a1_1 : Int) (a1_2 : Int) (a1_3 : Int) (a1_4 : Int) : Option ((List (S51)) × Bool) := lim (fun k => impl_PutAway.f k l0 a1_0 a1_1 a1_2 a1_3 a1_4)
theorem impl_PutAway.F_co (l0 : List (S51)) (a1_0 : Int) (a1_1 : Int) (a1_2 : Int) (a1_3 : Int) (a1_4 : Int) : Co (fun k => impl_PutAway.f k l0 a1_0 a1_1 a1_2 a1_3 a1_4) (impl_PutAway.F l0 a1_0 a1_1 a1_2 a1_3 a1_4) := Co.base (fun k => impl_PutAway.mono _ _ _ _ _ _ k)
theorem impl_PutAway.F_eq (l0 : List (S51)) (a1_0 : Int) (a1_1 : Int) (a1_2 : Int) (a1_3 : Int) (a1_4 : Int) : impl_PutAway.F l0 a1_0 a1_1 a1_2 a1_3 a1_4 = ((impl_Slot_68.f l0).bind fun D => ((impl_freeFor.F l0 a1_3).bind fun J => ((impl_AreSlots.F l0).bind fun L => (if L = true then ((impl_IsThing.f a1_0 a1_1 a1_2 a1_3 a1_4).bind fun Y => (if Y = true then (if J < 0 then (some (D, false)) else ((impl_slotWith.f l0 a1_0).bind fun aa => (if aa ≥ 0 then (some (D, false)) else (if 0 ≤ J then (if J < (D.length : Int) then (some ((D.set (J : Int).toNat (⟨(rd_T51 D J).f0, (rd_T51 D J).f1, a1_0⟩ : S51)), true)) else (none)) else (none))))) else (some (D, false)))) else (some (D, false)))))) := by
  refine Co.same (impl_PutAway.F_co l0 a1_0 a1_1 a1_2 a1_3 a1_4) (h := fun k => impl_PutAway.f k l0 a1_0 a1_1 a1_2 a1_3 a1_4) (fun _ => rfl) ?_
  unfold impl_PutAway.f
  repeat' first | (with_reducible exact Co.const _) | (with_reducible exact impl_AreSlots.F_co _) | (with_reducible exact impl_freeFor.F_co _ _) | (with_reducible refine Co.ite ?_ ?_) | (with_reducible refine Co.bind ?_ (fun _ => ?_))

noncomputable def impl_PutAll.J0 (x1 : List (S47)) (x6 : List (S51)) (x7 : List Int) (x22 : Bool) : Option ((List (S51)) × List Int) := lim (fun k => impl_PutAll.j0 k x1 x6 x7 x22)
theorem impl_PutAll.J0_co (x1 : List (S47)) (x6 : List (S51)) (x7 : List Int) (x22 : Bool) : Co (fun k => impl_PutAll.j0 k x1 x6 x7 x22) (impl_PutAll.J0 x1 x6 x7 x22) := Co.base (fun k => (impl_PutAll.mono_l k).1 _ _ _ _)
noncomputable def impl_PutAll.L0 (x6 : List (S51)) (x7 : List Int) (J : List (S47)) (L : Int) (D : Int) : Option ((List (S51)) × List Int) := lim (fun k => impl_PutAll.l0 k x6 x7 J L D)
theorem impl_PutAll.L0_co (x6 : List (S51)) (x7 : List Int) (J : List (S47)) (L : Int) (D : Int) : Co (fun k => impl_PutAll.l0 k x6 x7 J L D) (impl_PutAll.L0 x6 x7 J L D) := Co.base (fun k => (impl_PutAll.mono_l k).2 _ _ _ _ _)
noncomputable def impl_PutAll.F (l0 : List (S51)) (l1 : List (S47)) : Option ((List (S51)) × List Int) := lim (fun k => impl_PutAll.f k l0 l1)
theorem impl_PutAll.F_co (l0 : List (S51)) (l1 : List (S47)) : Co (fun k => impl_PutAll.f k l0 l1) (impl_PutAll.F l0 l1) := Co.base (fun k => impl_PutAll.mono _ _ k)
theorem impl_PutAll.J0_eq (x1 : List (S47)) (x6 : List (S51)) (x7 : List Int) (x22 : Bool) : impl_PutAll.J0 x1 x6 x7 x22 = (if x22 = true then (some (x6, x7)) else ((impl_Thing_69.f x1).bind fun t163 => ((impl_Thing_70.f t163 777777).bind fun t166 => (impl_PutAll.L0 x6 x7 t166 (t163.length : Int) 0)))) := by
  refine Co.step (impl_PutAll.J0_co x1 x6 x7 x22) (h := fun k => impl_PutAll.j0 (k + 1) x1 x6 x7 x22) (fun _ => rfl) ?_
  simp only [impl_PutAll.j0]
  repeat' first | (with_reducible exact Co.const _) | (with_reducible exact impl_PutAll.L0_co _ _ _ _ _) | (with_reducible refine Co.ite ?_ ?_) | (with_reducible refine Co.bind ?_ (fun _ => ?_))
theorem impl_PutAll.L0_eq (x6 : List (S51)) (x7 : List Int) (J : List (S47)) (L : Int) (D : Int) : impl_PutAll.L0 x6 x7 J L D = (if D < L then (if 0 ≤ D then (if D < (J.length : Int) then ((impl_PutAway.F x6 ((rd_T47 J D).f0) ((rd_T47 J D).f1) ((rd_T47 J D).f2) ((rd_T47 J D).f3) ((rd_T47 J D).f4)).bind fun Y => (if Y.2 = true then (impl_PutAll.L0 Y.1 x7 J L (wrap64 (D + 1))) else (if x7.length < 17592186044416 then (impl_PutAll.L0 Y.1 (x7 ++ [(rd_T47 J D).f0]) J L (wrap64 (D + 1))) else (none)))) else (none)) else (none)) else ((slices_Sort_int_int.f x7).bind fun aa => (some (x6, aa)))) := by
  refine Co.step (impl_PutAll.L0_co x6 x7 J L D) (h := fun k => impl_PutAll.l0 (k + 1) x6 x7 J L D) (fun _ => rfl) ?_
  simp only [impl_PutAll.l0]
  repeat' first | (with_reducible exact Co.const _) | (with_reducible exact impl_PutAll.L0_co _ _ _ _ _) | (with_reducible exact impl_PutAway.F_co _ _ _ _ _ _) | (with_reducible refine Co.ite ?_ ?_) | (with_reducible refine Co.bind ?_ (fun _ => ?_))
theorem impl_PutAll.F_eq (l0 : List (S51)) (l1 : List (S47)) : impl_PutAll.F l0 l1 = ((impl_Slot_68.f l0).bind fun t155 => ((some (([] : List Int) : List Int)).bind fun y158 => ((impl_AreSlots.F l0).bind fun t161 => (if t161 = true then ((impl_AreThings.F l1).bind fun t162 => (impl_PutAll.J0 l1 t155 y158 (!t162))) else (impl_PutAll.J0 l1 t155 y158 true))))) := by
  refine Co.same (impl_PutAll.F_co l0 l1) (h := fun k => impl_PutAll.f k l0 l1) (fun _ => rfl) ?_
  unfold impl_PutAll.f
  repeat' first | (with_reducible exact Co.const _) | (with_reducible exact impl_AreSlots.F_co _) | (with_reducible exact impl_AreThings.F_co _) | (with_reducible exact impl_PutAll.J0_co _ _ _ _) | (with_reducible refine Co.ite ?_ ?_) | (with_reducible refine Co.bind ?_ (fun _ => ?_))

noncomputable def impl_CanHold.F (l0 : List (S51)) (l1 : List (S47)) : Option (Bool) := lim (fun k => impl_CanHold.f k l0 l1)
theorem impl_CanHold.F_co (l0 : List (S51)) (l1 : List (S47)) : Co (fun k => impl_CanHold.f k l0 l1) (impl_CanHold.F l0 l1) := Co.base (fun k => impl_CanHold.mono _ _ k)
theorem impl_CanHold.F_eq (l0 : List (S51)) (l1 : List (S47)) : impl_CanHold.F l0 l1 = ((impl_AreSlots.F l0).bind fun t177 => (if t177 = true then ((impl_AreThings.F l1).bind fun t178 => (if t178 = true then ((impl_PutAll.F l0 l1).bind fun bt179 => (some ((bt179.2.length : Int) == 0))) else (some false))) else (some false))) := by
  refine Co.same (impl_CanHold.F_co l0 l1) (h := fun k => impl_CanHold.f k l0 l1) (fun _ => rfl) ?_
  unfold impl_CanHold.f
  repeat' first | (with_reducible exact Co.const _) | (with_reducible exact impl_AreSlots.F_co _) | (with_reducible exact impl_AreThings.F_co _) | (with_reducible exact impl_PutAll.F_co _ _) | (with_reducible refine Co.ite ?_ ?_) | (with_reducible refine Co.bind ?_ (fun _ => ?_))

noncomputable def spec_l1New.L0 (x0 : List Int) (x3 : Int) (x4 : Int) : Option (List Int × Int × Int) := lim (fun k => spec_l1New.l0 k x0 x3 x4)
theorem spec_l1New.L0_co (x0 : List Int) (x3 : Int) (x4 : Int) : Co (fun k => spec_l1New.l0 k x0 x3 x4) (spec_l1New.L0 x0 x3 x4) := Co.base (fun k => (spec_l1New.mono_l k) _ _ _)
noncomputable def spec_l1New.F (l0 : List Int) : Option (List Int × Int × Int) := lim (fun k => spec_l1New.f k l0)
theorem spec_l1New.F_co (l0 : List Int) : Co (fun k => spec_l1New.f k l0) (spec_l1New.F l0) := Co.base (fun k => spec_l1New.mono _ k)
theorem spec_l1New.L0_eq (x0 : List Int) (x3 : Int) (x4 : Int) : spec_l1New.L0 x0 x3 x4 = (if x4 < (x0.length : Int) then (if x4 < 4000 then (if 0 ≤ x4 then (spec_l1New.L0 x0 (Go.bits .and .i64 (wrap64 ((wrap64 ((wrap64 (x3 * 137)) + (wrap64 (rd x0 x4)))) + 11)) 1073741823) (wrap64 (x4 + 1))) else (none)) else (some (x0, 0, x3))) else (some (x0, 0, x3))) := by
  refine Co.step (spec_l1New.L0_co x0 x3 x4) (h := fun k => spec_l1New.l0 (k + 1) x0 x3 x4) (fun _ => rfl) ?_
  simp only [spec_l1New.l0]
  repeat' first | (with_reducible exact Co.const _) | (with_reducible exact spec_l1New.L0_co _ _ _) | (with_reducible refine Co.ite ?_ ?_) | (with_reducible refine Co.bind ?_ (fun _ => ?_))
theorem spec_l1New.F_eq (l0 : List Int) : spec_l1New.F l0 = (spec_l1New.L0 l0 (wrap64 (193017 + (l0.length : Int))) 0) := by
  refine Co.same (spec_l1New.F_co l0) (h := fun k => spec_l1New.f k l0) (fun _ => rfl) ?_
  unfold spec_l1New.f
  repeat' first | (with_reducible exact Co.const _) | (with_reducible exact spec_l1New.L0_co _ _ _) | (with_reducible refine Co.ite ?_ ?_) | (with_reducible refine Co.bind ?_ (fun _ => ?_))

noncomputable def spec_SlotOf.L0 (x0 : List (S51)) (x1 : Int) (x5 : Int) : Option (Int) := lim (fun k => spec_SlotOf.l0 k x0 x1 x5)
theorem spec_SlotOf.L0_co (x0 : List (S51)) (x1 : Int) (x5 : Int) : Co (fun k => spec_SlotOf.l0 k x0 x1 x5) (spec_SlotOf.L0 x0 x1 x5) := Co.base (fun k => (spec_SlotOf.mono_l k) _ _ _)
noncomputable def spec_SlotOf.F (l0 : List (S51)) (a1 : Int) : Option (Int) := lim (fun k => spec_SlotOf.f k l0 a1)
theorem spec_SlotOf.F_co (l0 : List (S51)) (a1 : Int) : Co (fun k => spec_SlotOf.f k l0 a1) (spec_SlotOf.F l0 a1) := Co.base (fun k => spec_SlotOf.mono _ _ k)
theorem spec_SlotOf.L0_eq (x0 : List (S51)) (x1 : Int) (x5 : Int) : spec_SlotOf.L0 x0 x1 x5 = (if x5 < (x0.length : Int) then (if x1 = 0 then (spec_SlotOf.L0 x0 x1 (wrap64 (x5 + 1))) else (if 0 ≤ x5 then (if ((rd_T51 x0 x5).f2) = x1 then (some ((rd_T51 x0 x5).f0)) else (spec_SlotOf.L0 x0 x1 (wrap64 (x5 + 1)))) else (none))) else (some 0)) := by
  refine Co.step (spec_SlotOf.L0_co x0 x1 x5) (h := fun k => spec_SlotOf.l0 (k + 1) x0 x1 x5) (fun _ => rfl) ?_
  simp only [spec_SlotOf.l0]
  repeat' first | (with_reducible exact Co.const _) | (with_reducible exact spec_SlotOf.L0_co _ _ _) | (with_reducible refine Co.ite ?_ ?_) | (with_reducible refine Co.bind ?_ (fun _ => ?_))
theorem spec_SlotOf.F_eq (l0 : List (S51)) (a1 : Int) : spec_SlotOf.F l0 a1 = (spec_SlotOf.L0 l0 a1 0) := by
  refine Co.same (spec_SlotOf.F_co l0 a1) (h := fun k => spec_SlotOf.f k l0 a1) (fun _ => rfl) ?_
  unfold spec_SlotOf.f
  repeat' first | (with_reducible exact Co.const _) | (with_reducible exact spec_SlotOf.L0_co _ _ _) | (with_reducible refine Co.ite ?_ ?_) | (with_reducible refine Co.bind ?_ (fun _ => ?_))

noncomputable def spec_AreSlots.L0 (x0 : List (S51)) (x3 : Int) : Option (Bool) := lim (fun k => spec_AreSlots.l0 k x0 x3)
theorem spec_AreSlots.L0_co (x0 : List (S51)) (x3 : Int) : Co (fun k => spec_AreSlots.l0 k x0 x3) (spec_AreSlots.L0 x0 x3) := Co.base (fun k => (spec_AreSlots.mono_l k).1 _ _)
noncomputable def spec_AreSlots.J1 (x0 : List (S51)) (x3 : Int) (x53 : Bool) : Option (Bool) := lim (fun k => spec_AreSlots.j1 k x0 x3 x53)
theorem spec_AreSlots.J1_co (x0 : List (S51)) (x3 : Int) (x53 : Bool) : Co (fun k => spec_AreSlots.j1 k x0 x3 x53) (spec_AreSlots.J1 x0 x3 x53) := Co.base (fun k => (spec_AreSlots.mono_l k).2.1 _ _ _)
noncomputable def spec_AreSlots.L1 (x0 : List (S51)) (x3 : Int) (x4 : Int) : Option (Bool) := lim (fun k => spec_AreSlots.l1 k x0 x3 x4)
theorem spec_AreSlots.L1_co (x0 : List (S51)) (x3 : Int) (x4 : Int) : Co (fun k => spec_AreSlots.l1 k x0 x3 x4) (spec_AreSlots.L1 x0 x3 x4) := Co.base (fun k => (spec_AreSlots.mono_l k).2.2 _ _ _)
noncomputable def spec_AreSlots.F (l0 : List (S51)) : Option (Bool) := lim (fun k => spec_AreSlots.f k l0)
theorem spec_AreSlots.F_co (l0 : List (S51)) : Co (fun k => spec_AreSlots.f k l0) (spec_AreSlots.F l0) := Co.base (fun k => spec_AreSlots.mono _ k)
theorem spec_AreSlots.L0_eq (x0 : List (S51)) (x3 : Int) : spec_AreSlots.L0 x0 x3 = (if x3 < (x0.length : Int) then (if 0 ≤ x3 then ((spec_l1In.f ((rd_T51 x0 x3).f0) 1 99).bind fun D => (if D = true then ((spec_l1In.f ((rd_T51 x0 x3).f1) 1 50).bind fun J => (if J = true then ((spec_l1In.f ((rd_T51 x0 x3).f2) 0 999).bind fun L => (if L = true then (if x3 > 0 then (if 0 ≤ (wrap64 (x3 - 1)) then (if (wrap64 (x3 - 1)) < (x0.length : Int) then (spec_AreSlots.J1 x0 x3 (decide (((rd_T51 x0 (wrap64 (x3 - 1))).f0) ≥ ((rd_T51 x0 x3).f0)))) else (none)) else (none)) else (spec_AreSlots.J1 x0 x3 false)) else (spec_AreSlots.J1 x0 x3 true))) else (spec_AreSlots.J1 x0 x3 true))) else (spec_AreSlots.J1 x0 x3 true))) else (none)) else (some (decide ((x0.length : Int) ≤ 30)))) := by
  refine Co.step (spec_AreSlots.L0_co x0 x3) (h := fun k => spec_AreSlots.l0 (k + 1) x0 x3) (fun _ => rfl) ?_
  simp only [spec_AreSlots.l0]
  repeat' first | (with_reducible exact Co.const _) | (with_reducible exact spec_AreSlots.J1_co _ _ _) | (with_reducible refine Co.ite ?_ ?_) | (with_reducible refine Co.bind ?_ (fun _ => ?_))
theorem spec_AreSlots.J1_eq (x0 : List (S51)) (x3 : Int) (x53 : Bool) : spec_AreSlots.J1 x0 x3 x53 = (if x53 = true then (some false) else (spec_AreSlots.L1 x0 x3 0)) := by
  refine Co.step (spec_AreSlots.J1_co x0 x3 x53) (h := fun k => spec_AreSlots.j1 (k + 1) x0 x3 x53) (fun _ => rfl) ?_
  simp only [spec_AreSlots.j1]
  repeat' first | (with_reducible exact Co.const _) | (with_reducible exact spec_AreSlots.L1_co _ _ _) | (with_reducible refine Co.ite ?_ ?_) | (with_reducible refine Co.bind ?_ (fun _ => ?_))
theorem spec_AreSlots.L1_eq (x0 : List (S51)) (x3 : Int) (x4 : Int) : spec_AreSlots.L1 x0 x3 x4 = (if x4 < x3 then (if 0 ≤ x3 then (if x3 < (x0.length : Int) then (if ((rd_T51 x0 x3).f2) = 0 then (spec_AreSlots.L1 x0 x3 (wrap64 (x4 + 1))) else (if 0 ≤ x4 then (if x4 < (x0.length : Int) then (if ((rd_T51 x0 x4).f2) = ((rd_T51 x0 x3).f2) then (some false) else (spec_AreSlots.L1 x0 x3 (wrap64 (x4 + 1)))) else (none)) else (none))) else (none)) else (none)) else (spec_AreSlots.L0 x0 (wrap64 (x3 + 1)))) := by
  refine Co.step (spec_AreSlots.L1_co x0 x3 x4) (h := fun k => spec_AreSlots.l1 (k + 1) x0 x3 x4) (fun _ => rfl) ?_
  simp only [spec_AreSlots.l1]
  repeat' first | (with_reducible exact Co.const _) | (with_reducible exact spec_AreSlots.L0_co _ _) | (with_reducible exact spec_AreSlots.L1_co _ _ _) | (with_reducible refine Co.ite ?_ ?_) | (with_reducible refine Co.bind ?_ (fun _ => ?_))
theorem spec_AreSlots.F_eq (l0 : List (S51)) : spec_AreSlots.F l0 = (spec_AreSlots.L0 l0 0) := by
  refine Co.same (spec_AreSlots.F_co l0) (h := fun k => spec_AreSlots.f k l0) (fun _ => rfl) ?_
  unfold spec_AreSlots.f
  repeat' first | (with_reducible exact Co.const _) | (with_reducible exact spec_AreSlots.L0_co _ _) | (with_reducible refine Co.ite ?_ ?_) | (with_reducible refine Co.bind ?_ (fun _ => ?_))

noncomputable def spec_SmallestFree.L0 (x0 : List (S51)) (x1 : Int) (x5 : Int) (x6 : Int) : Option (Int) := lim (fun k => spec_SmallestFree.l0 k x0 x1 x5 x6)
theorem spec_SmallestFree.L0_co (x0 : List (S51)) (x1 : Int) (x5 : Int) (x6 : Int) : Co (fun k => spec_SmallestFree.l0 k x0 x1 x5 x6) (spec_SmallestFree.L0 x0 x1 x5 x6) := Co.base (fun k => (spec_SmallestFree.mono_l k) _ _ _ _)
noncomputable def spec_SmallestFree.F (l0 : List (S51)) (a1 : Int) : Option (Int) := lim (fun k => spec_SmallestFree.f k l0 a1)
theorem spec_SmallestFree.F_co (l0 : List (S51)) (a1 : Int) : Co (fun k => spec_SmallestFree.f k l0 a1) (spec_SmallestFree.F l0 a1) := Co.base (fun k => spec_SmallestFree.mono _ _ k)
theorem spec_SmallestFree.L0_eq (x0 : List (S51)) (x1 : Int) (x5 : Int) (x6 : Int) : spec_SmallestFree.L0 x0 x1 x5 x6 = (if x6 < (x0.length : Int) then (if 0 ≤ x6 then (if ((rd_T51 x0 x6).f2) = 0 then (if ((rd_T51 x0 x6).f1) ≥ x1 then (if x5 < 0 then (spec_SmallestFree.L0 x0 x1 x6 (wrap64 (x6 + 1))) else (if 0 ≤ x5 then (if x5 < (x0.length : Int) then (if ((rd_T51 x0 x6).f1) < ((rd_T51 x0 x5).f1) then (spec_SmallestFree.L0 x0 x1 x6 (wrap64 (x6 + 1))) else (spec_SmallestFree.L0 x0 x1 x5 (wrap64 (x6 + 1)))) else (none)) else (none))) else (spec_SmallestFree.L0 x0 x1 x5 (wrap64 (x6 + 1)))) else (spec_SmallestFree.L0 x0 x1 x5 (wrap64 (x6 + 1)))) else (none)) else (if x5 < 0 then (some 0) else (if 0 ≤ x5 then (if x5 < (x0.length : Int) then (some ((rd_T51 x0 x5).f0)) else (none)) else (none)))) := by
  refine Co.step (spec_SmallestFree.L0_co x0 x1 x5 x6) (h := fun k => spec_SmallestFree.l0 (k + 1) x0 x1 x5 x6) (fun _ => rfl) ?_
  simp only [spec_SmallestFree.l0]
  repeat' first | (with_reducible exact Co.const _) | (with_reducible exact spec_SmallestFree.L0_co _ _ _ _) | (with_reducible refine Co.ite ?_ ?_) | (with_reducible refine Co.bind ?_ (fun _ => ?_))
theorem spec_SmallestFree.F_eq (l0 : List (S51)) (a1 : Int) : spec_SmallestFree.F l0 a1 = (spec_SmallestFree.L0 l0 a1 (-1) 0) := by
  refine Co.same (spec_SmallestFree.F_co l0 a1) (h := fun k => spec_SmallestFree.f k l0 a1) (fun _ => rfl) ?_
  unfold spec_SmallestFree.f
  repeat' first | (with_reducible exact Co.const _) | (with_reducible exact spec_SmallestFree.L0_co _ _ _ _) | (with_reducible refine Co.ite ?_ ?_) | (with_reducible refine Co.bind ?_ (fun _ => ?_))

noncomputable def spec_PutAway.J0 (x6 : List (S51)) (x7 : Int) (x34 : Bool) (x213000 : Int) (x213001 : Int) (x213002 : Int) (x213003 : Int) (x213004 : Int) : Option ((List (S51)) × Bool) := lim (fun k => spec_PutAway.j0 k x6 x7 x34 x213000 x213001 x213002 x213003 x213004)
theorem spec_PutAway.J0_co (x6 : List (S51)) (x7 : Int) (x34 : Bool) (x213000 : Int) (x213001 : Int) (x213002 : Int) (x213003 : Int) (x213004 : Int) : Co (fun k => spec_PutAway.j0 k x6 x7 x34 x213000 x213001 x213002 x213003 x213004) (spec_PutAway.J0 x6 x7 x34 x213000 x213001 x213002 x213003 x213004) := Co.base (fun k => (spec_PutAway.mono_l k).1 _ _ _ _ _ _ _ _)
noncomputable def spec_PutAway.L0 (x6 : List (S51)) (x7 : Int) (x8 : Int) (D : Int) (J : Int) (L : Int) (Y : Int) (aa : Int) : Option ((List (S51)) × Bool) := lim (fun k => spec_PutAway.l0 k x6 x7 x8 D J L Y aa)
theorem spec_PutAway.L0_co (x6 : List (S51)) (x7 : Int) (x8 : Int) (D : Int) (J : Int) (L : Int) (Y : Int) (aa : Int) : Co (fun k => spec_PutAway.l0 k x6 x7 x8 D J L Y aa) (spec_PutAway.L0 x6 x7 x8 D J L Y aa) := Co.base (fun k => (spec_PutAway.mono_l k).2 _ _ _ _ _ _ _ _)
noncomputable def spec_PutAway.F (l0 : List (S51)) (a1_0 : Int) (a1_1 : Int) (a1_2 : Int) (a1_3 : Int) (a1_4 : Int) : Option ((List (S51)) × Bool) := lim (fun k => spec_PutAway.f k l0 a1_0 a1_1 a1_2 a1_3 a1_4)
theorem spec_PutAway.F_co (l0 : List (S51)) (a1_0 : Int) (a1_1 : Int) (a1_2 : Int) (a1_3 : Int) (a1_4 : Int) : Co (fun k => spec_PutAway.f k l0 a1_0 a1_1 a1_2 a1_3 a1_4) (spec_PutAway.F l0 a1_0 a1_1 a1_2 a1_3 a1_4) := Co.base (fun k => spec_PutAway.mono _ _ _ _ _ _ k)
theorem spec_PutAway.J0_eq (x6 : List (S51)) (x7 : Int) (x34 : Bool) (x213000 : Int) (x213001 : Int) (x213002 : Int) (x213003 : Int) (x213004 : Int) : spec_PutAway.J0 x6 x7 x34 x213000 x213001 x213002 x213003 x213004 = (if x34 = true then (some (x6, false)) else (spec_PutAway.L0 x6 x7 0 x213000 x213001 x213002 x213003 x213004)) := by
  refine Co.step (spec_PutAway.J0_co x6 x7 x34 x213000 x213001 x213002 x213003 x213004) (h := fun k => spec_PutAway.j0 (k + 1) x6 x7 x34 x213000 x213001 x213002 x213003 x213004) (fun _ => rfl) ?_
  simp only [spec_PutAway.j0]
  repeat' first | (with_reducible exact Co.const _) | (with_reducible exact spec_PutAway.L0_co _ _ _ _ _ _ _ _) | (with_reducible refine Co.ite ?_ ?_) | (with_reducible refine Co.bind ?_ (fun _ => ?_))
theorem spec_PutAway.L0_eq (x6 : List (S51)) (x7 : Int) (x8 : Int) (D : Int) (J : Int) (L : Int) (Y : Int) (aa : Int) : spec_PutAway.L0 x6 x7 x8 D J L Y aa = (if x8 < (x6.length : Int) then (if 0 ≤ x8 then (if ((rd_T51 x6 x8).f0) = x7 then (spec_PutAway.L0 (x6.set (x8 : Int).toNat (⟨(rd_T51 x6 x8).f0, (rd_T51 x6 x8).f1, D⟩ : S51)) x7 (wrap64 (x8 + 1)) D J L Y aa) else (spec_PutAway.L0 x6 x7 (wrap64 (x8 + 1)) D J L Y aa)) else (none)) else (some (x6, true))) := by
  refine Co.step (spec_PutAway.L0_co x6 x7 x8 D J L Y aa) (h := fun k => spec_PutAway.l0 (k + 1) x6 x7 x8 D J L Y aa) (fun _ => rfl) ?_
  simp only [spec_PutAway.l0]
  repeat' first | (with_reducible exact Co.const _) | (with_reducible exact spec_PutAway.L0_co _ _ _ _ _ _ _ _) | (with_reducible refine Co.ite ?_ ?_) | (with_reducible refine Co.bind ?_ (fun _ => ?_))
theorem spec_PutAway.F_eq (l0 : List (S51)) (a1_0 : Int) (a1_1 : Int) (a1_2 : Int) (a1_3 : Int) (a1_4 : Int) : spec_PutAway.F l0 a1_0 a1_1 a1_2 a1_3 a1_4 = ((some (([] : List (S51)) : List (S51))).bind fun L => (if L.length + l0.length < 5864062014805 then ((some (L ++ l0 : List (S51))).bind fun J => ((spec_SmallestFree.F l0 a1_3).bind fun D => ((spec_AreSlots.F l0).bind fun Y => (if Y = true then ((spec_IsThing.f a1_0 a1_1 a1_2 a1_3 a1_4).bind fun aa => (if aa = true then (if D = 0 then (spec_PutAway.J0 J D true a1_0 a1_1 a1_2 a1_3 a1_4) else ((spec_SlotOf.F l0 a1_0).bind fun ab => (spec_PutAway.J0 J D (ab != 0) a1_0 a1_1 a1_2 a1_3 a1_4))) else (spec_PutAway.J0 J D true a1_0 a1_1 a1_2 a1_3 a1_4))) else (spec_PutAway.J0 J D true a1_0 a1_1 a1_2 a1_3 a1_4))))) else (none))) := by
  refine Co.same (spec_PutAway.F_co l0 a1_0 a1_1 a1_2 a1_3 a1_4) (h := fun k => spec_PutAway.f k l0 a1_0 a1_1 a1_2 a1_3 a1_4) (fun _ => rfl) ?_
  unfold spec_PutAway.f
  repeat' first | (with_reducible exact Co.const _) | (with_reducible exact spec_AreSlots.F_co _) | (with_reducible exact spec_PutAway.J0_co _ _ _ _ _ _ _ _) | (with_reducible exact spec_SlotOf.F_co _ _) | (with_reducible exact spec_SmallestFree.F_co _ _) | (with_reducible refine Co.ite ?_ ?_) | (with_reducible refine Co.bind ?_ (fun _ => ?_))

noncomputable def spec_l14Draw.L0 (x3 : List (S51)) (x4 : Int) (D : List Int) (aa : Int) (ab : Int) : Option ((List (S51)) × Int × Int) := lim (fun k => spec_l14Draw.l0 k x3 x4 D aa ab)
theorem spec_l14Draw.L0_co (x3 : List (S51)) (x4 : Int) (D : List Int) (aa : Int) (ab : Int) : Co (fun k => spec_l14Draw.l0 k x3 x4 D aa ab) (spec_l14Draw.L0 x3 x4 D aa ab) := Co.base (fun k => (spec_l14Draw.mono_l k).1 _ _ _ _ _)
noncomputable def spec_l14Draw.L1 (x3 : List (S51)) (x5 : Int) (x1000 : List Int) (x1001 : Int) (x1002 : Int) : Option ((List (S51)) × Int × Int) := lim (fun k => spec_l14Draw.l1 k x3 x5 x1000 x1001 x1002)
theorem spec_l14Draw.L1_co (x3 : List (S51)) (x5 : Int) (x1000 : List Int) (x1001 : Int) (x1002 : Int) : Co (fun k => spec_l14Draw.l1 k x3 x5 x1000 x1001 x1002) (spec_l14Draw.L1 x3 x5 x1000 x1001 x1002) := Co.base (fun k => (spec_l14Draw.mono_l k).2 _ _ _ _ _)
noncomputable def spec_l14Draw.F (s0_0 : List Int) (s0_1 : Int) (s0_2 : Int) : Option ((List (S51)) × Int × Int) := lim (fun k => spec_l14Draw.f k s0_0 s0_1 s0_2)
theorem spec_l14Draw.F_co (s0_0 : List Int) (s0_1 : Int) (s0_2 : Int) : Co (fun k => spec_l14Draw.f k s0_0 s0_1 s0_2) (spec_l14Draw.F s0_0 s0_1 s0_2) := Co.base (fun k => spec_l14Draw.mono _ _ _ k)
theorem spec_l14Draw.L0_eq (x3 : List (S51)) (x4 : Int) (D : List Int) (aa : Int) (ab : Int) : spec_l14Draw.L0 x3 x4 D aa ab = ((spec_l1Below.f D aa ab 7).bind fun J => (if x4 ≤ (wrap64 (2 + J.1)) then ((spec_l1Below.f D J.2.1 J.2.2 6).bind fun L => (if x3.length < 5864062014805 then (spec_l14Draw.L0 (x3 ++ [(⟨x4, wrap64 (5 * (wrap64 (1 + L.1))), 0⟩ : S51)]) (wrap64 (x4 + 1)) D L.2.1 L.2.2) else (none))) else ((spec_l1Below.f D J.2.1 J.2.2 5).bind fun Y => (spec_l14Draw.L1 x3 Y.1 D Y.2.1 Y.2.2)))) := by
  refine Co.step (spec_l14Draw.L0_co x3 x4 D aa ab) (h := fun k => spec_l14Draw.l0 (k + 1) x3 x4 D aa ab) (fun _ => rfl) ?_
  simp only [spec_l14Draw.l0]
  repeat' first | (with_reducible exact Co.const _) | (with_reducible exact spec_l14Draw.L0_co _ _ _ _ _) | (with_reducible exact spec_l14Draw.L1_co _ _ _ _ _) | (with_reducible refine Co.ite ?_ ?_) | (with_reducible refine Co.bind ?_ (fun _ => ?_))
theorem spec_l14Draw.L1_eq (x3 : List (S51)) (x5 : Int) (x1000 : List Int) (x1001 : Int) (x1002 : Int) : spec_l14Draw.L1 x3 x5 x1000 x1001 x1002 = (if x5 > 0 then ((spec_l1Below.f x1000 x1001 x1002 20).bind fun bt266 => ((spec_l4Draw.f x1000 bt266.2.1 bt266.2.2 (wrap64 (1 + bt266.1))).bind fun bt269 => ((spec_PutAway.F x3 bt269.1 bt269.2.1 bt269.2.2.1 bt269.2.2.2.1 bt269.2.2.2.2.1).bind fun bt276 => (spec_l14Draw.L1 bt276.1 (wrap64 (x5 - 1)) x1000 bt269.2.2.2.2.2.1 bt269.2.2.2.2.2.2)))) else (some (x3, x1001, x1002))) := by
  refine Co.step (spec_l14Draw.L1_co x3 x5 x1000 x1001 x1002) (h := fun k => spec_l14Draw.l1 (k + 1) x3 x5 x1000 x1001 x1002) (fun _ => rfl) ?_
  simp only [spec_l14Draw.l1]
  repeat' first | (with_reducible exact Co.const _) | (with_reducible exact spec_PutAway.F_co _ _ _ _ _ _) | (with_reducible exact spec_l14Draw.L1_co _ _ _ _ _) | (with_reducible refine Co.ite ?_ ?_) | (with_reducible refine Co.bind ?_ (fun _ => ?_))
theorem spec_l14Draw.F_eq (s0_0 : List Int) (s0_1 : Int) (s0_2 : Int) : spec_l14Draw.F s0_0 s0_1 s0_2 = (spec_l14Draw.L0 (([] : List (S51))) 1 s0_0 s0_1 s0_2) := by
  refine Co.same (spec_l14Draw.F_co s0_0 s0_1 s0_2) (h := fun k => spec_l14Draw.f k s0_0 s0_1 s0_2) (fun _ => rfl) ?_
  unfold spec_l14Draw.f
  repeat' first | (with_reducible exact Co.const _) | (with_reducible exact spec_l14Draw.L0_co _ _ _ _ _) | (with_reducible refine Co.ite ?_ ?_) | (with_reducible refine Co.bind ?_ (fun _ => ?_))

noncomputable def spec_l14Any.F (s0_0 : List Int) (s0_1 : Int) (s0_2 : Int) : Option ((List (S51)) × Int × Int) := lim (fun k => spec_l14Any.f k s0_0 s0_1 s0_2)
theorem spec_l14Any.F_co (s0_0 : List Int) (s0_1 : Int) (s0_2 : Int) : Co (fun k => spec_l14Any.f k s0_0 s0_1 s0_2) (spec_l14Any.F s0_0 s0_1 s0_2) := Co.base (fun k => spec_l14Any.mono _ _ _ k)
theorem spec_l14Any.F_eq (s0_0 : List Int) (s0_1 : Int) (s0_2 : Int) : spec_l14Any.F s0_0 s0_1 s0_2 = ((spec_l14Draw.F s0_0 s0_1 s0_2).bind fun D => ((spec_l1Below.f s0_0 D.2.1 D.2.2 (D.1.length : Int)).bind fun J => ((spec_l1Below.f s0_0 J.2.1 J.2.2 10).bind fun L => (if L.1 = 0 then ((spec_l1Int.f s0_0 L.2.1 L.2.2 (([0, 1, 99, 100] : List Int))).bind fun Y => (if 0 ≤ J.1 then (if J.1 < (D.1.length : Int) then (some ((D.1.set (J.1 : Int).toNat (⟨Y.1, (rd_T51 D.1 J.1).f1, (rd_T51 D.1 J.1).f2⟩ : S51)), Y.2.1, Y.2.2)) else (none)) else (none))) else (if L.1 = 1 then ((spec_l4Raw.f s0_0 L.2.1 L.2.2).bind fun aa => (if 0 ≤ J.1 then (if J.1 < (D.1.length : Int) then (some ((D.1.set (J.1 : Int).toNat (⟨(rd_T51 D.1 J.1).f0, aa.1, (rd_T51 D.1 J.1).f2⟩ : S51)), aa.2.1, aa.2.2)) else (none)) else (none))) else (if L.1 = 2 then ((spec_l1Int.f s0_0 L.2.1 L.2.2 (([(-1), 999, 1000] : List Int))).bind fun ab => (if 0 ≤ J.1 then (if J.1 < (D.1.length : Int) then (some ((D.1.set (J.1 : Int).toNat (⟨(rd_T51 D.1 J.1).f0, (rd_T51 D.1 J.1).f1, ab.1⟩ : S51)), ab.2.1, ab.2.2)) else (none)) else (none))) else (if L.1 = 3 then (if 0 < (D.1.length : Int) then (if 0 ≤ J.1 then (if J.1 < (D.1.length : Int) then (some ((D.1.set (J.1 : Int).toNat (⟨(rd_T51 D.1 J.1).f0, (rd_T51 D.1 J.1).f1, (rd_T51 D.1 0).f2⟩ : S51)), L.2.1, L.2.2)) else (none)) else (none)) else (none)) else (some (D.1, L.2.1, L.2.2))))))))) := by
  refine Co.same (spec_l14Any.F_co s0_0 s0_1 s0_2) (h := fun k => spec_l14Any.f k s0_0 s0_1 s0_2) (fun _ => rfl) ?_
  unfold spec_l14Any.f
  repeat' first | (with_reducible exact Co.const _) | (with_reducible exact spec_l14Draw.F_co _ _ _) | (with_reducible refine Co.ite ?_ ?_) | (with_reducible refine Co.bind ?_ (fun _ => ?_))

noncomputable def spec_l4List.L0 (x3 : List (S47)) (x4 : Int) (L : List Int) (aa : Int) (ab : Int) : Option ((List (S47)) × Int × Int) := lim (fun k => spec_l4List.l0 k x3 x4 L aa ab)
theorem spec_l4List.L0_co (x3 : List (S47)) (x4 : Int) (L : List Int) (aa : Int) (ab : Int) : Co (fun k => spec_l4List.l0 k x3 x4 L aa ab) (spec_l4List.L0 x3 x4 L aa ab) := Co.base (fun k => (spec_l4List.mono_l k).1 _ _ _ _ _)
noncomputable def spec_l4List.J1 (x3 : List (S47)) (ab : Bool) (L : List Int) (Y : Int) (aa : Int) : Option ((List (S47)) × Int × Int) := lim (fun k => spec_l4List.j1 k x3 ab L Y aa)
theorem spec_l4List.J1_co (x3 : List (S47)) (ab : Bool) (L : List Int) (Y : Int) (aa : Int) : Co (fun k => spec_l4List.j1 k x3 ab L Y aa) (spec_l4List.J1 x3 ab L Y aa) := Co.base (fun k => (spec_l4List.mono_l k).2 _ _ _ _ _)
noncomputable def spec_l4List.F (s0_0 : List Int) (s0_1 : Int) (s0_2 : Int) : Option ((List (S47)) × Int × Int) := lim (fun k => spec_l4List.f k s0_0 s0_1 s0_2)
theorem spec_l4List.F_co (s0_0 : List Int) (s0_1 : Int) (s0_2 : Int) : Co (fun k => spec_l4List.f k s0_0 s0_1 s0_2) (spec_l4List.F s0_0 s0_1 s0_2) := Co.base (fun k => spec_l4List.mono _ _ _ k)
theorem spec_l4List.L0_eq (x3 : List (S47)) (x4 : Int) (L : List Int) (aa : Int) (ab : Int) : spec_l4List.L0 x3 x4 L aa ab = ((spec_l1Below.f L aa ab 7).bind fun D => (if x4 ≤ D.1 then ((spec_l4Draw.f L D.2.1 D.2.2 (wrap64 (2 * x4))).bind fun J => (if x3.length < 3518437208883 then (spec_l4List.L0 (x3 ++ [(⟨J.1, J.2.1, J.2.2.1, J.2.2.2.1, J.2.2.2.2.1⟩ : S47)]) (wrap64 (x4 + 1)) L J.2.2.2.2.2.1 J.2.2.2.2.2.2) else (none))) else (if (x3.length : Int) > 0 then ((spec_l1Once.f L D.2.1 D.2.2 8).bind fun Y => (spec_l4List.J1 x3 Y.1 L Y.2.1 Y.2.2)) else (spec_l4List.J1 x3 false L D.2.1 D.2.2)))) := by
  refine Co.step (spec_l4List.L0_co x3 x4 L aa ab) (h := fun k => spec_l4List.l0 (k + 1) x3 x4 L aa ab) (fun _ => rfl) ?_
  simp only [spec_l4List.l0]
  repeat' first | (with_reducible exact Co.const _) | (with_reducible exact spec_l4List.J1_co _ _ _ _ _) | (with_reducible exact spec_l4List.L0_co _ _ _ _ _) | (with_reducible refine Co.ite ?_ ?_) | (with_reducible refine Co.bind ?_ (fun _ => ?_))
theorem spec_l4List.J1_eq (x3 : List (S47)) (ab : Bool) (L : List Int) (Y : Int) (aa : Int) : spec_l4List.J1 x3 ab L Y aa = (if ab = true then ((spec_l1Below.f L Y aa (x3.length : Int)).bind fun J => ((spec_l4Any.f L J.2.1 J.2.2).bind fun D => (if 0 ≤ J.1 then (if J.1 < (x3.length : Int) then (some ((x3.set (J.1 : Int).toNat (⟨D.1, D.2.1, D.2.2.1, D.2.2.2.1, D.2.2.2.2.1⟩ : S47)), D.2.2.2.2.2.1, D.2.2.2.2.2.2)) else (none)) else (none)))) else (some (x3, Y, aa))) := by
  refine Co.step (spec_l4List.J1_co x3 ab L Y aa) (h := fun k => spec_l4List.j1 (k + 1) x3 ab L Y aa) (fun _ => rfl) ?_
  simp only [spec_l4List.j1]
  repeat' first | (with_reducible exact Co.const _) | (with_reducible refine Co.ite ?_ ?_) | (with_reducible refine Co.bind ?_ (fun _ => ?_))
theorem spec_l4List.F_eq (s0_0 : List Int) (s0_1 : Int) (s0_2 : Int) : spec_l4List.F s0_0 s0_1 s0_2 = (spec_l4List.L0 (([] : List (S47))) 1 s0_0 s0_1 s0_2) := by
  refine Co.same (spec_l4List.F_co s0_0 s0_1 s0_2) (h := fun k => spec_l4List.f k s0_0 s0_1 s0_2) (fun _ => rfl) ?_
  unfold spec_l4List.f
  repeat' first | (with_reducible exact Co.const _) | (with_reducible exact spec_l4List.L0_co _ _ _ _ _) | (with_reducible refine Co.ite ?_ ?_) | (with_reducible refine Co.bind ?_ (fun _ => ?_))

noncomputable def spec_DrawPutAll.F (l0 : List Int) : Option ((List (S51)) × (List (S47))) := lim (fun k => spec_DrawPutAll.f k l0)
theorem spec_DrawPutAll.F_co (l0 : List Int) : Co (fun k => spec_DrawPutAll.f k l0) (spec_DrawPutAll.F l0) := Co.base (fun k => spec_DrawPutAll.mono _ k)
theorem spec_DrawPutAll.F_eq (l0 : List Int) : spec_DrawPutAll.F l0 = ((spec_l1New.F l0).bind fun bt396 => ((spec_l14Any.F bt396.1 bt396.2.1 bt396.2.2).bind fun bt400 => ((spec_l4List.F bt396.1 bt400.2.1 bt400.2.2).bind fun bt405 => (some (bt400.1, bt405.1))))) := by
  refine Co.same (spec_DrawPutAll.F_co l0) (h := fun k => spec_DrawPutAll.f k l0) (fun _ => rfl) ?_
  unfold spec_DrawPutAll.f
  repeat' first | (with_reducible exact Co.const _) | (with_reducible exact spec_l14Any.F_co _ _ _) | (with_reducible exact spec_l1New.F_co _) | (with_reducible exact spec_l4List.F_co _ _ _) | (with_reducible refine Co.ite ?_ ?_) | (with_reducible refine Co.bind ?_ (fun _ => ?_))

noncomputable def laws_ascends.L0 (x0 : List Int) (x3 : Int) : Option (Bool) := lim (fun k => laws_ascends.l0 k x0 x3)
theorem laws_ascends.L0_co (x0 : List Int) (x3 : Int) : Co (fun k => laws_ascends.l0 k x0 x3) (laws_ascends.L0 x0 x3) := Co.base (fun k => (laws_ascends.mono_l k) _ _)
noncomputable def laws_ascends.F (l0 : List Int) : Option (Bool) := lim (fun k => laws_ascends.f k l0)
theorem laws_ascends.F_co (l0 : List Int) : Co (fun k => laws_ascends.f k l0) (laws_ascends.F l0) := Co.base (fun k => laws_ascends.mono _ k)
theorem laws_ascends.L0_eq (x0 : List Int) (x3 : Int) : laws_ascends.L0 x0 x3 = (if x3 < (x0.length : Int) then (if 0 ≤ (wrap64 (x3 - 1)) then (if (wrap64 (x3 - 1)) < (x0.length : Int) then (if 0 ≤ x3 then (if (rd x0 (wrap64 (x3 - 1))) ≥ (rd x0 x3) then (some false) else (laws_ascends.L0 x0 (wrap64 (x3 + 1)))) else (none)) else (none)) else (none)) else (some true)) := by
  refine Co.step (laws_ascends.L0_co x0 x3) (h := fun k => laws_ascends.l0 (k + 1) x0 x3) (fun _ => rfl) ?_
  simp only [laws_ascends.l0]
  repeat' first | (with_reducible exact Co.const _) | (with_reducible exact laws_ascends.L0_co _ _) | (with_reducible refine Co.ite ?_ ?_) | (with_reducible refine Co.bind ?_ (fun _ => ?_))
theorem laws_ascends.F_eq (l0 : List Int) : laws_ascends.F l0 = (laws_ascends.L0 l0 1) := by
  refine Co.same (laws_ascends.F_co l0) (h := fun k => laws_ascends.f k l0) (fun _ => rfl) ?_
  unfold laws_ascends.f
  repeat' first | (with_reducible exact Co.const _) | (with_reducible exact laws_ascends.L0_co _ _) | (with_reducible refine Co.ite ?_ ?_) | (with_reducible refine Co.bind ?_ (fun _ => ?_))

noncomputable def impl_FreeSlots.L0 (x3 : Int) (x6 : List (S51)) (x7 : Int) (x8 : Int) : Option (Int) := lim (fun k => impl_FreeSlots.l0 k x3 x6 x7 x8)
theorem impl_FreeSlots.L0_co (x3 : Int) (x6 : List (S51)) (x7 : Int) (x8 : Int) : Co (fun k => impl_FreeSlots.l0 k x3 x6 x7 x8) (impl_FreeSlots.L0 x3 x6 x7 x8) := Co.base (fun k => (impl_FreeSlots.mono_l k) _ _ _ _)
noncomputable def impl_FreeSlots.F (l0 : List (S51)) : Option (Int) := lim (fun k => impl_FreeSlots.f k l0)
theorem impl_FreeSlots.F_co (l0 : List (S51)) : Co (fun k => impl_FreeSlots.f k l0) (impl_FreeSlots.F l0) := Co.base (fun k => impl_FreeSlots.mono _ k)
theorem impl_FreeSlots.L0_eq (x3 : Int) (x6 : List (S51)) (x7 : Int) (x8 : Int) : impl_FreeSlots.L0 x3 x6 x7 x8 = (if x8 < x7 then (if 0 ≤ x8 then (if x8 < (x6.length : Int) then (if ((rd_T51 x6 x8).f2) = 0 then (impl_FreeSlots.L0 (wrap64 (x3 + 1)) x6 x7 (wrap64 (x8 + 1))) else (impl_FreeSlots.L0 x3 x6 x7 (wrap64 (x8 + 1)))) else (none)) else (none)) else (some x3)) := by
  refine Co.step (impl_FreeSlots.L0_co x3 x6 x7 x8) (h := fun k => impl_FreeSlots.l0 (k + 1) x3 x6 x7 x8) (fun _ => rfl) ?_
  simp only [impl_FreeSlots.l0]
  repeat' first | (with_reducible exact Co.const _) | (with_reducible exact impl_FreeSlots.L0_co _ _ _ _) | (with_reducible refine Co.ite ?_ ?_) | (with_reducible refine Co.bind ?_ (fun _ => ?_))
theorem impl_FreeSlots.F_eq (l0 : List (S51)) : impl_FreeSlots.F l0 = (impl_FreeSlots.L0 0 l0 (l0.length : Int) 0) := by
  refine Co.same (impl_FreeSlots.F_co l0) (h := fun k => impl_FreeSlots.f k l0) (fun _ => rfl) ?_
  unfold impl_FreeSlots.f
  repeat' first | (with_reducible exact Co.const _) | (with_reducible exact impl_FreeSlots.L0_co _ _ _ _) | (with_reducible refine Co.ite ?_ ?_) | (with_reducible refine Co.bind ?_ (fun _ => ?_))

noncomputable def laws_contains.L0 (x0 : List Int) (x1 : Int) (x5 : Int) : Option (Bool) := lim (fun k => laws_contains.l0 k x0 x1 x5)
theorem laws_contains.L0_co (x0 : List Int) (x1 : Int) (x5 : Int) : Co (fun k => laws_contains.l0 k x0 x1 x5) (laws_contains.L0 x0 x1 x5) := Co.base (fun k => (laws_contains.mono_l k) _ _ _)
noncomputable def laws_contains.F (l0 : List Int) (a1 : Int) : Option (Bool) := lim (fun k => laws_contains.f k l0 a1)
theorem laws_contains.F_co (l0 : List Int) (a1 : Int) : Co (fun k => laws_contains.f k l0 a1) (laws_contains.F l0 a1) := Co.base (fun k => laws_contains.mono _ _ k)
theorem laws_contains.L0_eq (x0 : List Int) (x1 : Int) (x5 : Int) : laws_contains.L0 x0 x1 x5 = (if x5 < (x0.length : Int) then (if 0 ≤ x5 then (if (rd x0 x5) = x1 then (some true) else (laws_contains.L0 x0 x1 (wrap64 (x5 + 1)))) else (none)) else (some false)) := by
  refine Co.step (laws_contains.L0_co x0 x1 x5) (h := fun k => laws_contains.l0 (k + 1) x0 x1 x5) (fun _ => rfl) ?_
  simp only [laws_contains.l0]
  repeat' first | (with_reducible exact Co.const _) | (with_reducible exact laws_contains.L0_co _ _ _) | (with_reducible refine Co.ite ?_ ?_) | (with_reducible refine Co.bind ?_ (fun _ => ?_))
theorem laws_contains.F_eq (l0 : List Int) (a1 : Int) : laws_contains.F l0 a1 = (laws_contains.L0 l0 a1 0) := by
  refine Co.same (laws_contains.F_co l0 a1) (h := fun k => laws_contains.f k l0 a1) (fun _ => rfl) ?_
  unfold laws_contains.f
  repeat' first | (with_reducible exact Co.const _) | (with_reducible exact laws_contains.L0_co _ _ _) | (with_reducible refine Co.ite ?_ ?_) | (with_reducible refine Co.bind ?_ (fun _ => ?_))

noncomputable def spec_AreThings.L0 (x0 : List (S47)) (x3 : Int) : Option (Bool) := lim (fun k => spec_AreThings.l0 k x0 x3)
theorem spec_AreThings.L0_co (x0 : List (S47)) (x3 : Int) : Co (fun k => spec_AreThings.l0 k x0 x3) (spec_AreThings.L0 x0 x3) := Co.base (fun k => (spec_AreThings.mono_l k) _ _)
noncomputable def spec_AreThings.F (l0 : List (S47)) : Option (Bool) := lim (fun k => spec_AreThings.f k l0)
theorem spec_AreThings.F_co (l0 : List (S47)) : Co (fun k => spec_AreThings.f k l0) (spec_AreThings.F l0) := Co.base (fun k => spec_AreThings.mono _ k)
theorem spec_AreThings.L0_eq (x0 : List (S47)) (x3 : Int) : spec_AreThings.L0 x0 x3 = (if x3 < (x0.length : Int) then (if 0 ≤ x3 then ((spec_IsThing.f ((rd_T47 x0 x3).f0) ((rd_T47 x0 x3).f1) ((rd_T47 x0 x3).f2) ((rd_T47 x0 x3).f3) ((rd_T47 x0 x3).f4)).bind fun D => (if D = true then (if x3 > 0 then (if 0 ≤ (wrap64 (x3 - 1)) then (if (wrap64 (x3 - 1)) < (x0.length : Int) then (if ((rd_T47 x0 (wrap64 (x3 - 1))).f0) ≥ ((rd_T47 x0 x3).f0) then (some false) else (spec_AreThings.L0 x0 (wrap64 (x3 + 1)))) else (none)) else (none)) else (spec_AreThings.L0 x0 (wrap64 (x3 + 1)))) else (some false))) else (none)) else (some (decide ((x0.length : Int) ≤ 20)))) := by
  refine Co.step (spec_AreThings.L0_co x0 x3) (h := fun k => spec_AreThings.l0 (k + 1) x0 x3) (fun _ => rfl) ?_
  simp only [spec_AreThings.l0]
  repeat' first | (with_reducible exact Co.const _) | (with_reducible exact spec_AreThings.L0_co _ _) | (with_reducible refine Co.ite ?_ ?_) | (with_reducible refine Co.bind ?_ (fun _ => ?_))
theorem spec_AreThings.F_eq (l0 : List (S47)) : spec_AreThings.F l0 = (spec_AreThings.L0 l0 0) := by
  refine Co.same (spec_AreThings.F_co l0) (h := fun k => spec_AreThings.f k l0) (fun _ => rfl) ?_
  unfold spec_AreThings.f
  repeat' first | (with_reducible exact Co.const _) | (with_reducible exact spec_AreThings.L0_co _ _) | (with_reducible refine Co.ite ?_ ?_) | (with_reducible refine Co.bind ?_ (fun _ => ?_))

noncomputable def spec_l9Put.L0 (x0 : List Int) (x1 : Int) (x5 : Int) : Option (List Int) := lim (fun k => spec_l9Put.l0 k x0 x1 x5)
theorem spec_l9Put.L0_co (x0 : List Int) (x1 : Int) (x5 : Int) : Co (fun k => spec_l9Put.l0 k x0 x1 x5) (spec_l9Put.L0 x0 x1 x5) := Co.base (fun k => (spec_l9Put.mono_l k) _ _ _)
noncomputable def spec_l9Put.F (l0 : List Int) (a1 : Int) : Option (List Int) := lim (fun k => spec_l9Put.f k l0 a1)
theorem spec_l9Put.F_co (l0 : List Int) (a1 : Int) : Co (fun k => spec_l9Put.f k l0 a1) (spec_l9Put.F l0 a1) := Co.base (fun k => spec_l9Put.mono _ _ k)
theorem spec_l9Put.L0_eq (x0 : List Int) (x1 : Int) (x5 : Int) : spec_l9Put.L0 x0 x1 x5 = (if x5 < (x0.length : Int) then (if 0 ≤ x5 then (if (rd x0 x5) < x1 then (spec_l9Put.L0 x0 x1 (wrap64 (x5 + 1))) else (if (rd x0 x5) = x1 then ((some (([] : List Int) : List Int)).bind fun D => (if D.length + x0.length < 17592186044416 then (some (D ++ x0)) else (none))) else ((some (([] : List Int) : List Int)).bind fun J => (if x5 ≤ (x0.length : Int) then (if J.length + (x0.take (x5 : Int).toNat).length < 17592186044416 then ((some (J ++ (x0.take (x5 : Int).toNat) : List Int)).bind fun L => ((some (([x1] : List Int) : List Int)).bind fun Y => (if L.length + Y.length < 17592186044416 then ((some (L ++ Y : List Int)).bind fun aa => (if aa.length + (x0.drop (x5 : Int).toNat).length < 17592186044416 then (some (aa ++ (x0.drop (x5 : Int).toNat))) else (none))) else (none)))) else (none)) else (none))))) else (none)) else ((some (([] : List Int) : List Int)).bind fun ab => (if 0 ≤ x5 then (if x5 ≤ (x0.length : Int) then (if ab.length + (x0.take (x5 : Int).toNat).length < 17592186044416 then ((some (ab ++ (x0.take (x5 : Int).toNat) : List Int)).bind fun ac => ((some (([x1] : List Int) : List Int)).bind fun ad => (if ac.length + ad.length < 17592186044416 then ((some (ac ++ ad : List Int)).bind fun ae => (if ae.length + (x0.drop (x5 : Int).toNat).length < 17592186044416 then (some (ae ++ (x0.drop (x5 : Int).toNat))) else (none))) else (none)))) else (none)) else (none)) else (none)))) := by
  refine Co.step (spec_l9Put.L0_co x0 x1 x5) (h := fun k => spec_l9Put.l0 (k + 1) x0 x1 x5) (fun _ => rfl) ?_
  simp only [spec_l9Put.l0]
  repeat' first | (with_reducible exact Co.const _) | (with_reducible exact spec_l9Put.L0_co _ _ _) | (with_reducible refine Co.ite ?_ ?_) | (with_reducible refine Co.bind ?_ (fun _ => ?_))
theorem spec_l9Put.F_eq (l0 : List Int) (a1 : Int) : spec_l9Put.F l0 a1 = (spec_l9Put.L0 l0 a1 0) := by
  refine Co.same (spec_l9Put.F_co l0 a1) (h := fun k => spec_l9Put.f k l0 a1) (fun _ => rfl) ?_
  unfold spec_l9Put.f
  repeat' first | (with_reducible exact Co.const _) | (with_reducible exact spec_l9Put.L0_co _ _ _) | (with_reducible refine Co.ite ?_ ?_) | (with_reducible refine Co.bind ?_ (fun _ => ?_))

noncomputable def spec_PutAll.L0 (x0 : List (S51)) (x1 : List (S47)) (x6 : List (S51)) (x7 : List Int) (x8 : List (S47)) (x9 : Int) : Option ((List (S51)) × List Int) := lim (fun k => spec_PutAll.l0 k x0 x1 x6 x7 x8 x9)
theorem spec_PutAll.L0_co (x0 : List (S51)) (x1 : List (S47)) (x6 : List (S51)) (x7 : List Int) (x8 : List (S47)) (x9 : Int) : Co (fun k => spec_PutAll.l0 k x0 x1 x6 x7 x8 x9) (spec_PutAll.L0 x0 x1 x6 x7 x8 x9) := Co.base (fun k => (spec_PutAll.mono_l k).1 _ _ _ _ _ _)
noncomputable def spec_PutAll.J1 (x0 : List (S51)) (x1 : List (S47)) (x6 : List (S51)) (x7 : List Int) (x8 : List (S47)) (x9 : Int) (J : Bool) : Option ((List (S51)) × List Int) := lim (fun k => spec_PutAll.j1 k x0 x1 x6 x7 x8 x9 J)
theorem spec_PutAll.J1_co (x0 : List (S51)) (x1 : List (S47)) (x6 : List (S51)) (x7 : List Int) (x8 : List (S47)) (x9 : Int) (J : Bool) : Co (fun k => spec_PutAll.j1 k x0 x1 x6 x7 x8 x9 J) (spec_PutAll.J1 x0 x1 x6 x7 x8 x9 J) := Co.base (fun k => (spec_PutAll.mono_l k).2 _ _ _ _ _ _ _)
noncomputable def spec_PutAll.F (l0 : List (S51)) (l1 : List (S47)) : Option ((List (S51)) × List Int) := lim (fun k => spec_PutAll.f k l0 l1)
theorem spec_PutAll.F_co (l0 : List (S51)) (l1 : List (S47)) : Co (fun k => spec_PutAll.f k l0 l1) (spec_PutAll.F l0 l1) := Co.base (fun k => spec_PutAll.mono _ _ k)
theorem spec_PutAll.L0_eq (x0 : List (S51)) (x1 : List (S47)) (x6 : List (S51)) (x7 : List Int) (x8 : List (S47)) (x9 : Int) : spec_PutAll.L0 x0 x1 x6 x7 x8 x9 = (if x9 < (x8.length : Int) then ((spec_AreSlots.F x0).bind fun t473 => (if t473 = true then ((spec_AreThings.F x1).bind fun t474 => (spec_PutAll.J1 x0 x1 x6 x7 x8 x9 t474)) else (spec_PutAll.J1 x0 x1 x6 x7 x8 x9 false))) else (spec_PutAll.J1 x0 x1 x6 x7 x8 x9 false)) := by
  refine Co.step (spec_PutAll.L0_co x0 x1 x6 x7 x8 x9) (h := fun k => spec_PutAll.l0 (k + 1) x0 x1 x6 x7 x8 x9) (fun _ => rfl) ?_
  simp only [spec_PutAll.l0]
  repeat' first | (with_reducible exact Co.const _) | (with_reducible exact spec_AreSlots.F_co _) | (with_reducible exact spec_AreThings.F_co _) | (with_reducible exact spec_PutAll.J1_co _ _ _ _ _ _ _) | (with_reducible refine Co.ite ?_ ?_) | (with_reducible refine Co.bind ?_ (fun _ => ?_))
theorem spec_PutAll.J1_eq (x0 : List (S51)) (x1 : List (S47)) (x6 : List (S51)) (x7 : List Int) (x8 : List (S47)) (x9 : Int) (J : Bool) : spec_PutAll.J1 x0 x1 x6 x7 x8 x9 J = (if J = true then (if 0 ≤ x9 then (if x9 < (x8.length : Int) then ((spec_PutAway.F x6 ((rd_T47 x8 x9).f0) ((rd_T47 x8 x9).f1) ((rd_T47 x8 x9).f2) ((rd_T47 x8 x9).f3) ((rd_T47 x8 x9).f4)).bind fun D => (if D.2 = true then (spec_PutAll.L0 x0 x1 D.1 x7 x8 (wrap64 (x9 + 1))) else ((spec_l9Put.F x7 ((rd_T47 x8 x9).f0)).bind fun L => (spec_PutAll.L0 x0 x1 D.1 L x8 (wrap64 (x9 + 1)))))) else (none)) else (none)) else (some (x6, x7))) := by
  refine Co.step (spec_PutAll.J1_co x0 x1 x6 x7 x8 x9 J) (h := fun k => spec_PutAll.j1 (k + 1) x0 x1 x6 x7 x8 x9 J) (fun _ => rfl) ?_
  simp only [spec_PutAll.j1]
  repeat' first | (with_reducible exact Co.const _) | (with_reducible exact spec_PutAll.L0_co _ _ _ _ _ _) | (with_reducible exact spec_PutAway.F_co _ _ _ _ _ _) | (with_reducible exact spec_l9Put.F_co _ _) | (with_reducible refine Co.ite ?_ ?_) | (with_reducible refine Co.bind ?_ (fun _ => ?_))
theorem spec_PutAll.F_eq (l0 : List (S51)) (l1 : List (S47)) : spec_PutAll.F l0 l1 = ((some (([] : List (S51)) : List (S51))).bind fun y461 => (if y461.length + l0.length < 5864062014805 then ((spec_l15Sorted.f l1).bind fun t470 => (spec_PutAll.L0 l0 l1 (y461 ++ l0) (([] : List Int)) t470 0)) else (none))) := by
  refine Co.same (spec_PutAll.F_co l0 l1) (h := fun k => spec_PutAll.f k l0 l1) (fun _ => rfl) ?_
  unfold spec_PutAll.f
  repeat' first | (with_reducible exact Co.const _) | (with_reducible exact spec_PutAll.L0_co _ _ _ _ _ _) | (with_reducible refine Co.ite ?_ ?_) | (with_reducible refine Co.bind ?_ (fun _ => ?_))

noncomputable def spec_DrawWasted.F (l0 : List Int) : Option ((List (S51)) × (List (S47))) := lim (fun k => spec_DrawWasted.f k l0)
theorem spec_DrawWasted.F_co (l0 : List Int) : Co (fun k => spec_DrawWasted.f k l0) (spec_DrawWasted.F l0) := Co.base (fun k => spec_DrawWasted.mono _ k)
theorem spec_DrawWasted.F_eq (l0 : List Int) : spec_DrawWasted.F l0 = ((spec_DrawPutAll.F l0).bind fun bt484 => ((spec_PutAll.F bt484.1 bt484.2).bind fun bt490 => (some (bt490.1, bt484.2)))) := by
  refine Co.same (spec_DrawWasted.F_co l0) (h := fun k => spec_DrawWasted.f k l0) (fun _ => rfl) ?_
  unfold spec_DrawWasted.f
  repeat' first | (with_reducible exact Co.const _) | (with_reducible exact spec_DrawPutAll.F_co _) | (with_reducible exact spec_PutAll.F_co _ _) | (with_reducible refine Co.ite ?_ ?_) | (with_reducible refine Co.bind ?_ (fun _ => ?_))

noncomputable def spec_DrawTighten.F (l0 : List Int) : Option ((List (S51)) × (List (S47))) := lim (fun k => spec_DrawTighten.f k l0)
theorem spec_DrawTighten.F_co (l0 : List Int) : Co (fun k => spec_DrawTighten.f k l0) (spec_DrawTighten.F l0) := Co.base (fun k => spec_DrawTighten.mono _ k)
theorem spec_DrawTighten.F_eq (l0 : List Int) : spec_DrawTighten.F l0 = ((spec_DrawWasted.F l0).bind fun bt496 => (some (bt496.1, bt496.2))) := by
  refine Co.same (spec_DrawTighten.F_co l0) (h := fun k => spec_DrawTighten.f k l0) (fun _ => rfl) ?_
  unfold spec_DrawTighten.f
  repeat' first | (with_reducible exact Co.const _) | (with_reducible exact spec_DrawWasted.F_co _) | (with_reducible refine Co.ite ?_ ?_) | (with_reducible refine Co.bind ?_ (fun _ => ?_))

noncomputable def impl_Tighten.J0 (x0 : List (S51)) (x1 : List (S47)) (x18 : Bool) : Option ((List (S51))) := lim (fun k => impl_Tighten.j0 k x0 x1 x18)
theorem impl_Tighten.J0_co (x0 : List (S51)) (x1 : List (S47)) (x18 : Bool) : Co (fun k => impl_Tighten.j0 k x0 x1 x18) (impl_Tighten.J0 x0 x1 x18) := Co.base (fun k => (impl_Tighten.mono_l k).1 _ _ _)
noncomputable def impl_Tighten.L0 (x0 : List (S51)) (x5 : List (S51)) (x6 : List (S47)) (J : List (S47)) (Y : Int) (D : Int) : Option ((List (S51))) := lim (fun k => impl_Tighten.l0 k x0 x5 x6 J Y D)
theorem impl_Tighten.L0_co (x0 : List (S51)) (x5 : List (S51)) (x6 : List (S47)) (J : List (S47)) (Y : Int) (D : Int) : Co (fun k => impl_Tighten.l0 k x0 x5 x6 J Y D) (impl_Tighten.L0 x0 x5 x6 J Y D) := Co.base (fun k => (impl_Tighten.mono_l k).2 _ _ _ _ _ _)
noncomputable def impl_Tighten.F (l0 : List (S51)) (l1 : List (S47)) : Option ((List (S51))) := lim (fun k => impl_Tighten.f k l0 l1)
theorem impl_Tighten.F_co (l0 : List (S51)) (l1 : List (S47)) : Co (fun k => impl_Tighten.f k l0 l1) (impl_Tighten.F l0 l1) := Co.base (fun k => impl_Tighten.mono _ _ k)
theorem impl_Tighten.J0_eq (x0 : List (S51)) (x1 : List (S47)) (x18 : Bool) : impl_Tighten.J0 x0 x1 x18 = (if x18 = true then ((impl_Slot_68.f x0).bind fun t504 => (some t504)) else ((impl_Slot_68.f x0).bind fun t507 => (impl_Tighten.L0 x0 t507 (([] : List (S47))) x1 (x1.length : Int) 0))) := by
  refine Co.step (impl_Tighten.J0_co x0 x1 x18) (h := fun k => impl_Tighten.j0 (k + 1) x0 x1 x18) (fun _ => rfl) ?_
  simp only [impl_Tighten.j0]
  repeat' first | (with_reducible exact Co.const _) | (with_reducible exact impl_Tighten.L0_co _ _ _ _ _ _) | (with_reducible refine Co.ite ?_ ?_) | (with_reducible refine Co.bind ?_ (fun _ => ?_))
theorem impl_Tighten.L0_eq (x0 : List (S51)) (x5 : List (S51)) (x6 : List (S47)) (J : List (S47)) (Y : Int) (D : Int) : impl_Tighten.L0 x0 x5 x6 J Y D = (if D < Y then (if 0 ≤ D then (if D < (J.length : Int) then ((impl_slotWith.f x0 ((rd_T47 J D).f0)).bind fun L => (if L ≥ 0 then (if 0 ≤ L then (if L < (x5.length : Int) then (if x6.length < 3518437208883 then (impl_Tighten.L0 x0 (x5.set (L : Int).toNat (⟨(rd_T51 x5 L).f0, (rd_T51 x5 L).f1, 0⟩ : S51)) (x6 ++ [(⟨(rd_T47 J D).f0, (rd_T47 J D).f1, (rd_T47 J D).f2, (rd_T47 J D).f3, (rd_T47 J D).f4⟩ : S47)]) J Y (wrap64 (D + 1))) else (none)) else (none)) else (none)) else (impl_Tighten.L0 x0 x5 x6 J Y (wrap64 (D + 1))))) else (none)) else (none)) else ((impl_PutAll.F x5 x6).bind fun aa => (if (aa.2.length : Int) > 0 then ((impl_Slot_68.f x0).bind fun ab => (some ab)) else (some aa.1)))) := by
  refine Co.step (impl_Tighten.L0_co x0 x5 x6 J Y D) (h := fun k => impl_Tighten.l0 (k + 1) x0 x5 x6 J Y D) (fun _ => rfl) ?_
  simp only [impl_Tighten.l0]
  repeat' first | (with_reducible exact Co.const _) | (with_reducible exact impl_PutAll.F_co _ _) | (with_reducible exact impl_Tighten.L0_co _ _ _ _ _ _) | (with_reducible refine Co.ite ?_ ?_) | (with_reducible refine Co.bind ?_ (fun _ => ?_))
theorem impl_Tighten.F_eq (l0 : List (S51)) (l1 : List (S47)) : impl_Tighten.F l0 l1 = ((impl_AreSlots.F l0).bind fun t502 => (if t502 = true then ((impl_AreThings.F l1).bind fun t503 => (impl_Tighten.J0 l0 l1 (!t503))) else (impl_Tighten.J0 l0 l1 true))) := by
  refine Co.same (impl_Tighten.F_co l0 l1) (h := fun k => impl_Tighten.f k l0 l1) (fun _ => rfl) ?_
  unfold impl_Tighten.f
  repeat' first | (with_reducible exact Co.const _) | (with_reducible exact impl_AreSlots.F_co _) | (with_reducible exact impl_AreThings.F_co _) | (with_reducible exact impl_Tighten.J0_co _ _ _) | (with_reducible refine Co.ite ?_ ?_) | (with_reducible refine Co.bind ?_ (fun _ => ?_))

noncomputable def impl_LargestFree.L0 (x3 : Int) (x6 : List (S51)) (x7 : Int) (x8 : Int) : Option (Int) := lim (fun k => impl_LargestFree.l0 k x3 x6 x7 x8)
theorem impl_LargestFree.L0_co (x3 : Int) (x6 : List (S51)) (x7 : Int) (x8 : Int) : Co (fun k => impl_LargestFree.l0 k x3 x6 x7 x8) (impl_LargestFree.L0 x3 x6 x7 x8) := Co.base (fun k => (impl_LargestFree.mono_l k) _ _ _ _)
noncomputable def impl_LargestFree.F (l0 : List (S51)) : Option (Int) := lim (fun k => impl_LargestFree.f k l0)
theorem impl_LargestFree.F_co (l0 : List (S51)) : Co (fun k => impl_LargestFree.f k l0) (impl_LargestFree.F l0) := Co.base (fun k => impl_LargestFree.mono _ k)
theorem impl_LargestFree.L0_eq (x3 : Int) (x6 : List (S51)) (x7 : Int) (x8 : Int) : impl_LargestFree.L0 x3 x6 x7 x8 = (if x8 < x7 then (if 0 ≤ x8 then (if x8 < (x6.length : Int) then (if ((rd_T51 x6 x8).f2) = 0 then (impl_LargestFree.L0 (mx x3 ((rd_T51 x6 x8).f1)) x6 x7 (wrap64 (x8 + 1))) else (impl_LargestFree.L0 x3 x6 x7 (wrap64 (x8 + 1)))) else (none)) else (none)) else (some x3)) := by
  refine Co.step (impl_LargestFree.L0_co x3 x6 x7 x8) (h := fun k => impl_LargestFree.l0 (k + 1) x3 x6 x7 x8) (fun _ => rfl) ?_
  simp only [impl_LargestFree.l0]
  repeat' first | (with_reducible exact Co.const _) | (with_reducible exact impl_LargestFree.L0_co _ _ _ _) | (with_reducible refine Co.ite ?_ ?_) | (with_reducible refine Co.bind ?_ (fun _ => ?_))
theorem impl_LargestFree.F_eq (l0 : List (S51)) : impl_LargestFree.F l0 = (impl_LargestFree.L0 0 l0 (l0.length : Int) 0) := by
  refine Co.same (impl_LargestFree.F_co l0) (h := fun k => impl_LargestFree.f k l0) (fun _ => rfl) ?_
  unfold impl_LargestFree.f
  repeat' first | (with_reducible exact Co.const _) | (with_reducible exact impl_LargestFree.L0_co _ _ _ _) | (with_reducible refine Co.ite ?_ ?_) | (with_reducible refine Co.bind ?_ (fun _ => ?_))

noncomputable def laws_FnPacked.J0 (x0 : List Int) (x3 : List (S51)) (x4 : List (S47)) (x5 : List (S51)) (x6 : List Int) (x34 : Bool) : Option (Bool) := lim (fun k => laws_FnPacked.j0 k x0 x3 x4 x5 x6 x34)
theorem laws_FnPacked.J0_co (x0 : List Int) (x3 : List (S51)) (x4 : List (S47)) (x5 : List (S51)) (x6 : List Int) (x34 : Bool) : Co (fun k => laws_FnPacked.j0 k x0 x3 x4 x5 x6 x34) (laws_FnPacked.J0 x0 x3 x4 x5 x6 x34) := Co.base (fun k => (laws_FnPacked.mono_l k).1 _ _ _ _ _ _)
noncomputable def laws_FnPacked.J1 (x0 : List Int) (x3 : List (S51)) (x4 : List (S47)) (x5 : List (S51)) (x6 : List Int) (x40 : Bool) : Option (Bool) := lim (fun k => laws_FnPacked.j1 k x0 x3 x4 x5 x6 x40)
theorem laws_FnPacked.J1_co (x0 : List Int) (x3 : List (S51)) (x4 : List (S47)) (x5 : List (S51)) (x6 : List Int) (x40 : Bool) : Co (fun k => laws_FnPacked.j1 k x0 x3 x4 x5 x6 x40) (laws_FnPacked.J1 x0 x3 x4 x5 x6 x40) := Co.base (fun k => (laws_FnPacked.mono_l k).2.1 _ _ _ _ _ _)
noncomputable def laws_FnPacked.J4 (x0 : List Int) (x3 : List (S51)) : Option (Bool) := lim (fun k => laws_FnPacked.j4 k x0 x3)
theorem laws_FnPacked.J4_co (x0 : List Int) (x3 : List (S51)) : Co (fun k => laws_FnPacked.j4 k x0 x3) (laws_FnPacked.J4 x0 x3) := Co.base (fun k => (laws_FnPacked.mono_l k).2.2.1 _ _)
noncomputable def laws_FnPacked.L1 (x3 : List (S51)) (x8 : List (S51)) (x10 : List (S51)) (x11 : Int) : Option (Bool) := lim (fun k => laws_FnPacked.l1 k x3 x8 x10 x11)
theorem laws_FnPacked.L1_co (x3 : List (S51)) (x8 : List (S51)) (x10 : List (S51)) (x11 : Int) : Co (fun k => laws_FnPacked.l1 k x3 x8 x10 x11) (laws_FnPacked.L1 x3 x8 x10 x11) := Co.base (fun k => (laws_FnPacked.mono_l k).2.2.2.1 _ _ _ _)
noncomputable def laws_FnPacked.J6 (x3 : List (S51)) (x8 : List (S51)) (J : List (S51)) (D : Int) (L : Bool) : Option (Bool) := lim (fun k => laws_FnPacked.j6 k x3 x8 J D L)
theorem laws_FnPacked.J6_co (x3 : List (S51)) (x8 : List (S51)) (J : List (S51)) (D : Int) (L : Bool) : Co (fun k => laws_FnPacked.j6 k x3 x8 J D L) (laws_FnPacked.J6 x3 x8 J D L) := Co.base (fun k => (laws_FnPacked.mono_l k).2.2.2.2.1 _ _ _ _ _)
noncomputable def laws_FnPacked.J2 (x0 : List Int) (x3 : List (S51)) (x4 : List (S47)) (x5 : List (S51)) (x6 : List Int) (x56 : Bool) : Option (Bool) := lim (fun k => laws_FnPacked.j2 k x0 x3 x4 x5 x6 x56)
theorem laws_FnPacked.J2_co (x0 : List Int) (x3 : List (S51)) (x4 : List (S47)) (x5 : List (S51)) (x6 : List Int) (x56 : Bool) : Co (fun k => laws_FnPacked.j2 k x0 x3 x4 x5 x6 x56) (laws_FnPacked.J2 x0 x3 x4 x5 x6 x56) := Co.base (fun k => (laws_FnPacked.mono_l k).2.2.2.2.2.1 _ _ _ _ _ _)
noncomputable def laws_FnPacked.L0 (x0 : List Int) (x3 : List (S51)) (x4 : List (S47)) (x5 : List (S51)) (x6 : List Int) (x7 : Int) : Option (Bool) := lim (fun k => laws_FnPacked.l0 k x0 x3 x4 x5 x6 x7)
theorem laws_FnPacked.L0_co (x0 : List Int) (x3 : List (S51)) (x4 : List (S47)) (x5 : List (S51)) (x6 : List Int) (x7 : Int) : Co (fun k => laws_FnPacked.l0 k x0 x3 x4 x5 x6 x7) (laws_FnPacked.L0 x0 x3 x4 x5 x6 x7) := Co.base (fun k => (laws_FnPacked.mono_l k).2.2.2.2.2.2 _ _ _ _ _ _)
noncomputable def laws_FnPacked.F (l0 : List Int) : Option (Bool) := lim (fun k => laws_FnPacked.f k l0)
theorem laws_FnPacked.F_co (l0 : List Int) : Co (fun k => laws_FnPacked.f k l0) (laws_FnPacked.F l0) := Co.base (fun k => laws_FnPacked.mono _ k)
theorem laws_FnPacked.J0_eq (x0 : List Int) (x3 : List (S51)) (x4 : List (S47)) (x5 : List (S51)) (x6 : List Int) (x34 : Bool) : laws_FnPacked.J0 x0 x3 x4 x5 x6 x34 = (if x34 = true then (some false) else ((impl_AreSlots.F x3).bind fun t545 => (if t545 = true then ((impl_AreThings.F x4).bind fun t546 => (laws_FnPacked.J1 x0 x3 x4 x5 x6 t546)) else (laws_FnPacked.J1 x0 x3 x4 x5 x6 false)))) := by
  refine Co.step (laws_FnPacked.J0_co x0 x3 x4 x5 x6 x34) (h := fun k => laws_FnPacked.j0 (k + 1) x0 x3 x4 x5 x6 x34) (fun _ => rfl) ?_
  simp only [laws_FnPacked.j0]
  repeat' first | (with_reducible exact Co.const _) | (with_reducible exact impl_AreSlots.F_co _) | (with_reducible exact impl_AreThings.F_co _) | (with_reducible exact laws_FnPacked.J1_co _ _ _ _ _ _) | (with_reducible refine Co.ite ?_ ?_) | (with_reducible refine Co.bind ?_ (fun _ => ?_))
theorem laws_FnPacked.J1_eq (x0 : List Int) (x3 : List (S51)) (x4 : List (S47)) (x5 : List (S51)) (x6 : List Int) (x40 : Bool) : laws_FnPacked.J1 x0 x3 x4 x5 x6 x40 = (if x40 = true then ((impl_AreSlots.F x5).bind fun t547 => (if t547 = true then ((impl_FreeSlots.F x3).bind fun t548 => ((impl_FreeSlots.F x5).bind fun t549 => (laws_FnPacked.J2 x0 x3 x4 x5 x6 ((wrap64 (t548 - t549)) != (wrap64 ((x4.length : Int) - (x6.length : Int))))))) else (laws_FnPacked.J2 x0 x3 x4 x5 x6 true))) else (laws_FnPacked.J4 x0 x3)) := by
  refine Co.step (laws_FnPacked.J1_co x0 x3 x4 x5 x6 x40) (h := fun k => laws_FnPacked.j1 (k + 1) x0 x3 x4 x5 x6 x40) (fun _ => rfl) ?_
  simp only [laws_FnPacked.j1]
  repeat' first | (with_reducible exact Co.const _) | (with_reducible exact impl_AreSlots.F_co _) | (with_reducible exact impl_FreeSlots.F_co _) | (with_reducible exact laws_FnPacked.J2_co _ _ _ _ _ _) | (with_reducible exact laws_FnPacked.J4_co _ _) | (with_reducible refine Co.ite ?_ ?_) | (with_reducible refine Co.bind ?_ (fun _ => ?_))
theorem laws_FnPacked.J4_eq (x0 : List Int) (x3 : List (S51)) : laws_FnPacked.J4 x0 x3 = ((spec_DrawTighten.F x0).bind fun bt560 => ((impl_Tighten.F bt560.1 bt560.2).bind fun t566 => (laws_FnPacked.L1 x3 bt560.1 t566 0))) := by
  refine Co.step (laws_FnPacked.J4_co x0 x3) (h := fun k => laws_FnPacked.j4 (k + 1) x0 x3) (fun _ => rfl) ?_
  simp only [laws_FnPacked.j4]
  repeat' first | (with_reducible exact Co.const _) | (with_reducible exact impl_Tighten.F_co _ _) | (with_reducible exact laws_FnPacked.L1_co _ _ _ _) | (with_reducible exact spec_DrawTighten.F_co _) | (with_reducible refine Co.ite ?_ ?_) | (with_reducible refine Co.bind ?_ (fun _ => ?_))
theorem laws_FnPacked.L1_eq (x3 : List (S51)) (x8 : List (S51)) (x10 : List (S51)) (x11 : Int) : laws_FnPacked.L1 x3 x8 x10 x11 = (if x11 < (x8.length : Int) then ((impl_AreSlots.F x8).bind fun t569 => (laws_FnPacked.J6 x3 x8 x10 x11 t569)) else (laws_FnPacked.J6 x3 x8 x10 x11 false)) := by
  refine Co.step (laws_FnPacked.L1_co x3 x8 x10 x11) (h := fun k => laws_FnPacked.l1 (k + 1) x3 x8 x10 x11) (fun _ => rfl) ?_
  simp only [laws_FnPacked.l1]
  repeat' first | (with_reducible exact Co.const _) | (with_reducible exact impl_AreSlots.F_co _) | (with_reducible exact laws_FnPacked.J6_co _ _ _ _ _) | (with_reducible refine Co.ite ?_ ?_) | (with_reducible refine Co.bind ?_ (fun _ => ?_))
theorem laws_FnPacked.J6_eq (x3 : List (S51)) (x8 : List (S51)) (J : List (S51)) (D : Int) (L : Bool) : laws_FnPacked.J6 x3 x8 J D L = (if L = true then (if 0 ≤ D then (if D < (x8.length : Int) then (if ((rd_T51 x8 D).f2) = 0 then (laws_FnPacked.L1 x3 x8 J (wrap64 (D + 1))) else ((impl_SlotOf.f J ((rd_T51 x8 D).f2)).bind fun Y => (if Y = 0 then (some false) else (laws_FnPacked.L1 x3 x8 J (wrap64 (D + 1)))))) else (none)) else (none)) else ((impl_FreeSlots.F J).bind fun aa => ((impl_FreeSlots.F x8).bind fun ab => (if aa = ab then ((impl_LargestFree.F x3).bind fun ac => (some (decide (ac ≥ 0)))) else (some false))))) := by
  refine Co.step (laws_FnPacked.J6_co x3 x8 J D L) (h := fun k => laws_FnPacked.j6 (k + 1) x3 x8 J D L) (fun _ => rfl) ?_
  simp only [laws_FnPacked.j6]
  repeat' first | (with_reducible exact Co.const _) | (with_reducible exact impl_FreeSlots.F_co _) | (with_reducible exact impl_LargestFree.F_co _) | (with_reducible exact laws_FnPacked.L1_co _ _ _ _) | (with_reducible refine Co.ite ?_ ?_) | (with_reducible refine Co.bind ?_ (fun _ => ?_))
theorem laws_FnPacked.J2_eq (x0 : List Int) (x3 : List (S51)) (x4 : List (S47)) (x5 : List (S51)) (x6 : List Int) (x56 : Bool) : laws_FnPacked.J2 x0 x3 x4 x5 x6 x56 = (if x56 = true then (some false) else (laws_FnPacked.L0 x0 x3 x4 x5 x6 0)) := by
  refine Co.step (laws_FnPacked.J2_co x0 x3 x4 x5 x6 x56) (h := fun k => laws_FnPacked.j2 (k + 1) x0 x3 x4 x5 x6 x56) (fun _ => rfl) ?_
  simp only [laws_FnPacked.j2]
  repeat' first | (with_reducible exact Co.const _) | (with_reducible exact laws_FnPacked.L0_co _ _ _ _ _ _) | (with_reducible refine Co.ite ?_ ?_) | (with_reducible refine Co.bind ?_ (fun _ => ?_))
theorem laws_FnPacked.L0_eq (x0 : List Int) (x3 : List (S51)) (x4 : List (S47)) (x5 : List (S51)) (x6 : List Int) (x7 : Int) : laws_FnPacked.L0 x0 x3 x4 x5 x6 x7 = (if x7 < (x4.length : Int) then (if 0 ≤ x7 then ((laws_contains.F x6 ((rd_T47 x4 x7).f0)).bind fun D => (if D = true then ((impl_CanHold.F x3 x4).bind fun J => (if J = true then ((laws_contains.F x6 ((rd_T47 x4 x7).f0)).bind fun L => (if L = true then (some false) else (laws_FnPacked.L0 x0 x3 x4 x5 x6 (wrap64 (x7 + 1))))) else (laws_FnPacked.L0 x0 x3 x4 x5 x6 (wrap64 (x7 + 1))))) else ((impl_SlotOf.f x5 ((rd_T47 x4 x7).f0)).bind fun Y => (if Y = 0 then (some false) else ((impl_CanHold.F x3 x4).bind fun aa => (if aa = true then ((laws_contains.F x6 ((rd_T47 x4 x7).f0)).bind fun ab => (if ab = true then (some false) else (laws_FnPacked.L0 x0 x3 x4 x5 x6 (wrap64 (x7 + 1))))) else (laws_FnPacked.L0 x0 x3 x4 x5 x6 (wrap64 (x7 + 1))))))))) else (none)) else (laws_FnPacked.J4 x0 x3)) := by
  refine Co.step (laws_FnPacked.L0_co x0 x3 x4 x5 x6 x7) (h := fun k => laws_FnPacked.l0 (k + 1) x0 x3 x4 x5 x6 x7) (fun _ => rfl) ?_
  simp only [laws_FnPacked.l0]
  repeat' first | (with_reducible exact Co.const _) | (with_reducible exact impl_CanHold.F_co _ _) | (with_reducible exact laws_FnPacked.J4_co _ _) | (with_reducible exact laws_FnPacked.L0_co _ _ _ _ _ _) | (with_reducible exact laws_contains.F_co _ _) | (with_reducible refine Co.ite ?_ ?_) | (with_reducible refine Co.bind ?_ (fun _ => ?_))
theorem laws_FnPacked.F_eq (l0 : List Int) : laws_FnPacked.F l0 = ((laws_big.f l0).bind fun t531 => (if t531 = true then (some true) else ((spec_DrawPutAll.F l0).bind fun bt532 => ((impl_PutAll.F bt532.1 bt532.2).bind fun bt538 => ((laws_ascends.F bt538.2).bind fun t544 => (if t544 = true then (laws_FnPacked.J0 l0 bt532.1 bt532.2 bt538.1 bt538.2 ((bt538.1.length : Int) != (bt532.1.length : Int))) else (laws_FnPacked.J0 l0 bt532.1 bt532.2 bt538.1 bt538.2 true))))))) := by
  refine Co.same (laws_FnPacked.F_co l0) (h := fun k => laws_FnPacked.f k l0) (fun _ => rfl) ?_
  unfold laws_FnPacked.f
  repeat' first | (with_reducible exact Co.const _) | (with_reducible exact impl_PutAll.F_co _ _) | (with_reducible exact laws_FnPacked.J0_co _ _ _ _ _ _) | (with_reducible exact laws_ascends.F_co _) | (with_reducible exact spec_DrawPutAll.F_co _) | (with_reducible refine Co.ite ?_ ?_) | (with_reducible refine Co.bind ?_ (fun _ => ?_))

end Go.Proofs.Ytbacepkkamfeoaa.PFnPacked.Pure
