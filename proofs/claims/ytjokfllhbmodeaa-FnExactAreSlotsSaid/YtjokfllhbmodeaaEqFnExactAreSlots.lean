/-
  The printed functions that this law reaches, their rounds used up, and the equations that they meet.
-/
import Derived.Test.YtjokfllhbmodeaaPFnExactAreSlotsx1
import Derived.Test.YtjokfllhbmodeaaPFnExactAreSlotsx2
import Derived.Test.YtjokfllhbmodeaaPFnExactAreSlotsx3
import Derived.Test.YtjokfllhbmodeaaPFnExactAreSlotsx4
import Derived.Test.YtjokfllhbmodeaaPFnExactAreSlotsx5
import Derived.Test.YtjokfllhbmodeaaLim
namespace Go.Proofs.Ytjokfllhbmodeaa.PFnExactAreSlots.Pure
open Go.RowKit Go.Proofs.YtjokfllhbmodeaaW.PrintWords Go.Proofs.YtjokfllhbmodeaaW.PrintLast Go.Proofs.YtjokfllhbmodeaaW.PrintMore Go.Proofs.Ytjokfllhbmodeaa.PFnExactAreSlots Go.Proofs.Ytjokfllhbmodeaa.Lim
set_option linter.unusedVariables false
set_option maxRecDepth 100000

noncomputable def impl_AreSlots.L0 (x0 : List (S49)) (x8 : List (S49)) (x9 : Int) (x10 : Int) : Option (Bool) := lim (fun k => impl_AreSlots.l0 k x0 x8 x9 x10)
theorem impl_AreSlots.L0_co (x0 : List (S49)) (x8 : List (S49)) (x9 : Int) (x10 : Int) : Co (fun k => impl_AreSlots.l0 k x0 x8 x9 x10) (impl_AreSlots.L0 x0 x8 x9 x10) := Co.base (fun k => (impl_AreSlots.mono_l k) _ _ _ _)
noncomputable def impl_AreSlots.F (l0 : List (S49)) : Option (Bool) := lim (fun k => impl_AreSlots.f k l0)
theorem impl_AreSlots.F_co (l0 : List (S49)) : Co (fun k => impl_AreSlots.f k l0) (impl_AreSlots.F l0) := Co.base (fun k => impl_AreSlots.mono _ k)
theorem impl_AreSlots.L0_eq (x0 : List (S49)) (x8 : List (S49)) (x9 : Int) (x10 : Int) : impl_AreSlots.L0 x0 x8 x9 x10 = (if x10 < x9 then (if 0 ≤ x10 then (if x10 < (x8.length : Int) then ((impl_InRange.f ((rd_T49 x8 x10).f0) 1 99).bind fun t105 => (if t105 = true then (if x10 > 0 then (if 0 ≤ (wrap64 (x10 - 1)) then (if (wrap64 (x10 - 1)) < (x0.length : Int) then (if ((rd_T49 x8 x10).f0) ≤ ((rd_T49 x0 (wrap64 (x10 - 1))).f0) then (some false) else ((impl_InRange.f ((rd_T49 x8 x10).f1) 1 50).bind fun t107 => (if t107 = true then ((impl_InRange.f ((rd_T49 x8 x10).f2) 0 999).bind fun t108 => (if t108 = true then (if x10 ≤ (x0.length : Int) then ((impl_SlotOf.f (x0.take (x10 : Int).toNat) ((rd_T49 x8 x10).f2)).bind fun t113 => (if t113 = 0 then (impl_AreSlots.L0 x0 x8 x9 (wrap64 (x10 + 1))) else (some false))) else (none)) else (some false))) else (some false)))) else (none)) else (none)) else ((impl_InRange.f ((rd_T49 x8 x10).f1) 1 50).bind fun t114 => (if t114 = true then ((impl_InRange.f ((rd_T49 x8 x10).f2) 0 999).bind fun t115 => (if t115 = true then (if x10 ≤ (x0.length : Int) then ((impl_SlotOf.f (x0.take (x10 : Int).toNat) ((rd_T49 x8 x10).f2)).bind fun t120 => (if t120 = 0 then (impl_AreSlots.L0 x0 x8 x9 (wrap64 (x10 + 1))) else (some false))) else (none)) else (some false))) else (some false)))) else (some false))) else (none)) else (none)) else (some true)) := by
  refine Co.step (impl_AreSlots.L0_co x0 x8 x9 x10) (h := fun k => (if x10 < x9 then (if 0 ≤ x10 then (if x10 < (x8.length : Int) then ((impl_InRange.f ((rd_T49 x8 x10).f0) 1 99).bind fun t105 => (if t105 = true then (if x10 > 0 then (if 0 ≤ (wrap64 (x10 - 1)) then (if (wrap64 (x10 - 1)) < (x0.length : Int) then (if ((rd_T49 x8 x10).f0) ≤ ((rd_T49 x0 (wrap64 (x10 - 1))).f0) then (some false) else ((impl_InRange.f ((rd_T49 x8 x10).f1) 1 50).bind fun t107 => (if t107 = true then ((impl_InRange.f ((rd_T49 x8 x10).f2) 0 999).bind fun t108 => (if t108 = true then (if x10 ≤ (x0.length : Int) then ((impl_SlotOf.f (x0.take (x10 : Int).toNat) ((rd_T49 x8 x10).f2)).bind fun t113 => (if t113 = 0 then (impl_AreSlots.l0 k x0 x8 x9 (wrap64 (x10 + 1))) else (some false))) else (none)) else (some false))) else (some false)))) else (none)) else (none)) else ((impl_InRange.f ((rd_T49 x8 x10).f1) 1 50).bind fun t114 => (if t114 = true then ((impl_InRange.f ((rd_T49 x8 x10).f2) 0 999).bind fun t115 => (if t115 = true then (if x10 ≤ (x0.length : Int) then ((impl_SlotOf.f (x0.take (x10 : Int).toNat) ((rd_T49 x8 x10).f2)).bind fun t120 => (if t120 = 0 then (impl_AreSlots.l0 k x0 x8 x9 (wrap64 (x10 + 1))) else (some false))) else (none)) else (some false))) else (some false)))) else (some false))) else (none)) else (none)) else (some true))) (fun k => by first | rfl | (simp only [impl_AreSlots.l0])) ?_
  repeat' first
    | (with_reducible exact Co.const _)
    | (with_reducible exact impl_AreSlots.L0_co _ _ _ _)
    | (with_reducible refine Co.ite ?_ ?_)
    | (with_reducible refine Co.bind ?_ (fun _ => ?_))
theorem impl_AreSlots.F_eq (l0 : List (S49)) : impl_AreSlots.F l0 = (if (l0.length : Int) > 30 then (some false) else (impl_AreSlots.L0 l0 l0 (l0.length : Int) 0)) := by
  refine Co.same (impl_AreSlots.F_co l0) (h := fun k => (if (l0.length : Int) > 30 then (some false) else (impl_AreSlots.l0 k l0 l0 (l0.length : Int) 0))) (fun k => by first | rfl | unfold impl_AreSlots.f; rfl) ?_
  repeat' first
    | (with_reducible exact Co.const _)
    | (with_reducible exact impl_AreSlots.L0_co _ _ _ _)
    | (with_reducible refine Co.ite ?_ ?_)
    | (with_reducible refine Co.bind ?_ (fun _ => ?_))

noncomputable def spec_AreSlots.L0 (x0 : List (S49)) (x3 : Int) : Option (Bool) := lim (fun k => spec_AreSlots.l0 k x0 x3)
theorem spec_AreSlots.L0_co (x0 : List (S49)) (x3 : Int) : Co (fun k => spec_AreSlots.l0 k x0 x3) (spec_AreSlots.L0 x0 x3) := Co.base (fun k => (spec_AreSlots.mono_l k).1 _ _)
noncomputable def spec_AreSlots.J1 (x0 : List (S49)) (x3 : Int) (x53 : Bool) : Option (Bool) := lim (fun k => spec_AreSlots.j1 k x0 x3 x53)
theorem spec_AreSlots.J1_co (x0 : List (S49)) (x3 : Int) (x53 : Bool) : Co (fun k => spec_AreSlots.j1 k x0 x3 x53) (spec_AreSlots.J1 x0 x3 x53) := Co.base (fun k => (spec_AreSlots.mono_l k).2.1 _ _ _)
noncomputable def spec_AreSlots.L1 (x0 : List (S49)) (x3 : Int) (x4 : Int) : Option (Bool) := lim (fun k => spec_AreSlots.l1 k x0 x3 x4)
theorem spec_AreSlots.L1_co (x0 : List (S49)) (x3 : Int) (x4 : Int) : Co (fun k => spec_AreSlots.l1 k x0 x3 x4) (spec_AreSlots.L1 x0 x3 x4) := Co.base (fun k => (spec_AreSlots.mono_l k).2.2 _ _ _)
noncomputable def spec_AreSlots.F (l0 : List (S49)) : Option (Bool) := lim (fun k => spec_AreSlots.f k l0)
theorem spec_AreSlots.F_co (l0 : List (S49)) : Co (fun k => spec_AreSlots.f k l0) (spec_AreSlots.F l0) := Co.base (fun k => spec_AreSlots.mono _ k)
theorem spec_AreSlots.L0_eq (x0 : List (S49)) (x3 : Int) : spec_AreSlots.L0 x0 x3 = (if x3 < (x0.length : Int) then (if 0 ≤ x3 then ((spec_l1In.f ((rd_T49 x0 x3).f0) 1 99).bind fun t122 => (if t122 = true then ((spec_l1In.f ((rd_T49 x0 x3).f1) 1 50).bind fun t124 => (if t124 = true then ((spec_l1In.f ((rd_T49 x0 x3).f2) 0 999).bind fun t126 => (if t126 = true then (if x3 > 0 then (if 0 ≤ (wrap64 (x3 - 1)) then (if (wrap64 (x3 - 1)) < (x0.length : Int) then (spec_AreSlots.J1 x0 x3 (decide (((rd_T49 x0 (wrap64 (x3 - 1))).f0) ≥ ((rd_T49 x0 x3).f0)))) else (none)) else (none)) else (spec_AreSlots.J1 x0 x3 false)) else (spec_AreSlots.J1 x0 x3 true))) else (spec_AreSlots.J1 x0 x3 true))) else (spec_AreSlots.J1 x0 x3 true))) else (none)) else (some (decide ((x0.length : Int) ≤ 30)))) := by
  refine Co.step (spec_AreSlots.L0_co x0 x3) (h := fun k => (if x3 < (x0.length : Int) then (if 0 ≤ x3 then ((spec_l1In.f ((rd_T49 x0 x3).f0) 1 99).bind fun t122 => (if t122 = true then ((spec_l1In.f ((rd_T49 x0 x3).f1) 1 50).bind fun t124 => (if t124 = true then ((spec_l1In.f ((rd_T49 x0 x3).f2) 0 999).bind fun t126 => (if t126 = true then (if x3 > 0 then (if 0 ≤ (wrap64 (x3 - 1)) then (if (wrap64 (x3 - 1)) < (x0.length : Int) then (spec_AreSlots.j1 k x0 x3 (decide (((rd_T49 x0 (wrap64 (x3 - 1))).f0) ≥ ((rd_T49 x0 x3).f0)))) else (none)) else (none)) else (spec_AreSlots.j1 k x0 x3 false)) else (spec_AreSlots.j1 k x0 x3 true))) else (spec_AreSlots.j1 k x0 x3 true))) else (spec_AreSlots.j1 k x0 x3 true))) else (none)) else (some (decide ((x0.length : Int) ≤ 30))))) (fun k => by first | rfl | (simp only [spec_AreSlots.l0])) ?_
  repeat' first
    | (with_reducible exact Co.const _)
    | (with_reducible exact spec_AreSlots.J1_co _ _ _)
    | (with_reducible refine Co.ite ?_ ?_)
    | (with_reducible refine Co.bind ?_ (fun _ => ?_))
theorem spec_AreSlots.J1_eq (x0 : List (S49)) (x3 : Int) (x53 : Bool) : spec_AreSlots.J1 x0 x3 x53 = (if x53 = true then (some false) else (spec_AreSlots.L1 x0 x3 0)) := by
  refine Co.step (spec_AreSlots.J1_co x0 x3 x53) (h := fun k => (if x53 = true then (some false) else (spec_AreSlots.l1 k x0 x3 0))) (fun k => by first | rfl | (simp only [spec_AreSlots.j1])) ?_
  repeat' first
    | (with_reducible exact Co.const _)
    | (with_reducible exact spec_AreSlots.L1_co _ _ _)
    | (with_reducible refine Co.ite ?_ ?_)
    | (with_reducible refine Co.bind ?_ (fun _ => ?_))
theorem spec_AreSlots.L1_eq (x0 : List (S49)) (x3 : Int) (x4 : Int) : spec_AreSlots.L1 x0 x3 x4 = (if x4 < x3 then (if 0 ≤ x3 then (if x3 < (x0.length : Int) then (if ((rd_T49 x0 x3).f2) = 0 then (spec_AreSlots.L1 x0 x3 (wrap64 (x4 + 1))) else (if 0 ≤ x4 then (if x4 < (x0.length : Int) then (if ((rd_T49 x0 x4).f2) = ((rd_T49 x0 x3).f2) then (some false) else (spec_AreSlots.L1 x0 x3 (wrap64 (x4 + 1)))) else (none)) else (none))) else (none)) else (none)) else (spec_AreSlots.L0 x0 (wrap64 (x3 + 1)))) := by
  refine Co.step (spec_AreSlots.L1_co x0 x3 x4) (h := fun k => (if x4 < x3 then (if 0 ≤ x3 then (if x3 < (x0.length : Int) then (if ((rd_T49 x0 x3).f2) = 0 then (spec_AreSlots.l1 k x0 x3 (wrap64 (x4 + 1))) else (if 0 ≤ x4 then (if x4 < (x0.length : Int) then (if ((rd_T49 x0 x4).f2) = ((rd_T49 x0 x3).f2) then (some false) else (spec_AreSlots.l1 k x0 x3 (wrap64 (x4 + 1)))) else (none)) else (none))) else (none)) else (none)) else (spec_AreSlots.l0 k x0 (wrap64 (x3 + 1))))) (fun k => by first | rfl | (simp only [spec_AreSlots.l1])) ?_
  repeat' first
    | (with_reducible exact Co.const _)
    | (with_reducible exact spec_AreSlots.L0_co _ _)
    | (with_reducible exact spec_AreSlots.L1_co _ _ _)
    | (with_reducible refine Co.ite ?_ ?_)
    | (with_reducible refine Co.bind ?_ (fun _ => ?_))
theorem spec_AreSlots.F_eq (l0 : List (S49)) : spec_AreSlots.F l0 = (spec_AreSlots.L0 l0 0) := by
  refine Co.same (spec_AreSlots.F_co l0) (h := fun k => (spec_AreSlots.l0 k l0 0)) (fun k => by first | rfl | unfold spec_AreSlots.f; rfl) ?_
  repeat' first
    | (with_reducible exact Co.const _)
    | (with_reducible exact spec_AreSlots.L0_co _ _)
    | (with_reducible refine Co.ite ?_ ?_)
    | (with_reducible refine Co.bind ?_ (fun _ => ?_))

noncomputable def laws_toSlotS.L0 (x0 : List (S133)) (x3 : List (S49)) (x4 : Int) : Option ((List (S49))) := lim (fun k => laws_toSlotS.l0 k x0 x3 x4)
theorem laws_toSlotS.L0_co (x0 : List (S133)) (x3 : List (S49)) (x4 : Int) : Co (fun k => laws_toSlotS.l0 k x0 x3 x4) (laws_toSlotS.L0 x0 x3 x4) := Co.base (fun k => (laws_toSlotS.mono_l k) _ _ _)
noncomputable def laws_toSlotS.F (l0 : List (S133)) : Option ((List (S49))) := lim (fun k => laws_toSlotS.f k l0)
theorem laws_toSlotS.F_co (l0 : List (S133)) : Co (fun k => laws_toSlotS.f k l0) (laws_toSlotS.F l0) := Co.base (fun k => laws_toSlotS.mono _ k)
theorem laws_toSlotS.L0_eq (x0 : List (S133)) (x3 : List (S49)) (x4 : Int) : laws_toSlotS.L0 x0 x3 x4 = (if x4 < (x0.length : Int) then (if 0 ≤ x4 then ((laws_toSlot.f ((rd_T133 x0 x4).f0) ((rd_T133 x0 x4).f1) ((rd_T133 x0 x4).f2)).bind fun bt139 => (if x4 < (x3.length : Int) then (laws_toSlotS.L0 x0 (x3.set (x4 : Int).toNat (⟨bt139.1, bt139.2.1, bt139.2.2⟩ : S49)) (wrap64 (x4 + 1))) else (none))) else (none)) else (some x3)) := by
  refine Co.step (laws_toSlotS.L0_co x0 x3 x4) (h := fun k => (if x4 < (x0.length : Int) then (if 0 ≤ x4 then ((laws_toSlot.f ((rd_T133 x0 x4).f0) ((rd_T133 x0 x4).f1) ((rd_T133 x0 x4).f2)).bind fun bt139 => (if x4 < (x3.length : Int) then (laws_toSlotS.l0 k x0 (x3.set (x4 : Int).toNat (⟨bt139.1, bt139.2.1, bt139.2.2⟩ : S49)) (wrap64 (x4 + 1))) else (none))) else (none)) else (some x3))) (fun k => by first | rfl | (simp only [laws_toSlotS.l0])) ?_
  repeat' first
    | (with_reducible exact Co.const _)
    | (with_reducible exact laws_toSlotS.L0_co _ _ _)
    | (with_reducible refine Co.ite ?_ ?_)
    | (with_reducible refine Co.bind ?_ (fun _ => ?_))
theorem laws_toSlotS.F_eq (l0 : List (S133)) : laws_toSlotS.F l0 = (if 0 ≤ (l0.length : Int) then (if ((l0.length : Int) : Int).toNat ≤ 11728124029610 then (laws_toSlotS.L0 l0 (List.replicate ((l0.length : Int) : Int).toNat z49) 0) else (none)) else (none)) := by
  refine Co.same (laws_toSlotS.F_co l0) (h := fun k => (if 0 ≤ (l0.length : Int) then (if ((l0.length : Int) : Int).toNat ≤ 11728124029610 then (laws_toSlotS.l0 k l0 (List.replicate ((l0.length : Int) : Int).toNat z49) 0) else (none)) else (none))) (fun k => by first | rfl | unfold laws_toSlotS.f; rfl) ?_
  repeat' first
    | (with_reducible exact Co.const _)
    | (with_reducible exact laws_toSlotS.L0_co _ _ _)
    | (with_reducible refine Co.ite ?_ ?_)
    | (with_reducible refine Co.bind ?_ (fun _ => ?_))

noncomputable def laws_eqSlotS.L0 (x0 : List (S49)) (x1 : List (S49)) (x5 : Int) : Option (Bool) := lim (fun k => laws_eqSlotS.l0 k x0 x1 x5)
theorem laws_eqSlotS.L0_co (x0 : List (S49)) (x1 : List (S49)) (x5 : Int) : Co (fun k => laws_eqSlotS.l0 k x0 x1 x5) (laws_eqSlotS.L0 x0 x1 x5) := Co.base (fun k => (laws_eqSlotS.mono_l k) _ _ _)
noncomputable def laws_eqSlotS.F (l0 : List (S49)) (l1 : List (S49)) : Option (Bool) := lim (fun k => laws_eqSlotS.f k l0 l1)
theorem laws_eqSlotS.F_co (l0 : List (S49)) (l1 : List (S49)) : Co (fun k => laws_eqSlotS.f k l0 l1) (laws_eqSlotS.F l0 l1) := Co.base (fun k => laws_eqSlotS.mono _ _ k)
theorem laws_eqSlotS.L0_eq (x0 : List (S49)) (x1 : List (S49)) (x5 : Int) : laws_eqSlotS.L0 x0 x1 x5 = (if x5 < (x0.length : Int) then (if 0 ≤ x5 then (if x5 < (x1.length : Int) then ((laws_eqSlot.f ((rd_T49 x0 x5).f0) ((rd_T49 x0 x5).f1) ((rd_T49 x0 x5).f2) ((rd_T49 x1 x5).f0) ((rd_T49 x1 x5).f1) ((rd_T49 x1 x5).f2)).bind fun t147 => (if t147 = true then (laws_eqSlotS.L0 x0 x1 (wrap64 (x5 + 1))) else (some false))) else (none)) else (none)) else (some true)) := by
  refine Co.step (laws_eqSlotS.L0_co x0 x1 x5) (h := fun k => (if x5 < (x0.length : Int) then (if 0 ≤ x5 then (if x5 < (x1.length : Int) then ((laws_eqSlot.f ((rd_T49 x0 x5).f0) ((rd_T49 x0 x5).f1) ((rd_T49 x0 x5).f2) ((rd_T49 x1 x5).f0) ((rd_T49 x1 x5).f1) ((rd_T49 x1 x5).f2)).bind fun t147 => (if t147 = true then (laws_eqSlotS.l0 k x0 x1 (wrap64 (x5 + 1))) else (some false))) else (none)) else (none)) else (some true))) (fun k => by first | rfl | (simp only [laws_eqSlotS.l0])) ?_
  repeat' first
    | (with_reducible exact Co.const _)
    | (with_reducible exact laws_eqSlotS.L0_co _ _ _)
    | (with_reducible refine Co.ite ?_ ?_)
    | (with_reducible refine Co.bind ?_ (fun _ => ?_))
theorem laws_eqSlotS.F_eq (l0 : List (S49)) (l1 : List (S49)) : laws_eqSlotS.F l0 l1 = (if (l0.length : Int) = (l1.length : Int) then (laws_eqSlotS.L0 l0 l1 0) else (some false)) := by
  refine Co.same (laws_eqSlotS.F_co l0 l1) (h := fun k => (if (l0.length : Int) = (l1.length : Int) then (laws_eqSlotS.l0 k l0 l1 0) else (some false))) (fun k => by first | rfl | unfold laws_eqSlotS.f; rfl) ?_
  repeat' first
    | (with_reducible exact Co.const _)
    | (with_reducible exact laws_eqSlotS.L0_co _ _ _)
    | (with_reducible refine Co.ite ?_ ?_)
    | (with_reducible refine Co.bind ?_ (fun _ => ?_))

noncomputable def laws_FnExactAreSlots.F (l0 : List (S133)) : Option (Bool) := lim (fun k => laws_FnExactAreSlots.f k l0)
theorem laws_FnExactAreSlots.F_co (l0 : List (S133)) : Co (fun k => laws_FnExactAreSlots.f k l0) (laws_FnExactAreSlots.F l0) := Co.base (fun k => laws_FnExactAreSlots.mono _ k)
theorem laws_FnExactAreSlots.F_eq (l0 : List (S133)) : laws_FnExactAreSlots.F l0 = ((laws_szSlotS.f l0 1048576).bind fun t148 => (if t148 < 0 then (some true) else ((laws_toSlotS.F l0).bind fun t149 => ((spec_AreSlots.F t149).bind fun t152 => ((laws_toSlotS.F l0).bind fun t153 => ((impl_AreSlots.F t153).bind fun t156 => (if (t156 != t152) = true then (some false) else ((laws_toSlotS.F l0).bind fun t157 => ((laws_eqSlotS.F t153 t157).bind fun t160 => (if t160 = true then (some true) else (some false))))))))))) := by
  refine Co.same (laws_FnExactAreSlots.F_co l0) (h := fun k => ((laws_szSlotS.f l0 1048576).bind fun t148 => (if t148 < 0 then (some true) else ((laws_toSlotS.f k l0).bind fun t149 => ((spec_AreSlots.f k t149).bind fun t152 => ((laws_toSlotS.f k l0).bind fun t153 => ((impl_AreSlots.f k t153).bind fun t156 => (if (t156 != t152) = true then (some false) else ((laws_toSlotS.f k l0).bind fun t157 => ((laws_eqSlotS.f k t153 t157).bind fun t160 => (if t160 = true then (some true) else (some false)))))))))))) (fun k => by first | rfl | unfold laws_FnExactAreSlots.f; rfl) ?_
  repeat' first
    | (with_reducible exact Co.const _)
    | (with_reducible exact impl_AreSlots.F_co _)
    | (with_reducible exact laws_eqSlotS.F_co _ _)
    | (with_reducible exact laws_toSlotS.F_co _)
    | (with_reducible exact spec_AreSlots.F_co _)
    | (with_reducible refine Co.ite ?_ ?_)
    | (with_reducible refine Co.bind ?_ (fun _ => ?_))

end Go.Proofs.Ytjokfllhbmodeaa.PFnExactAreSlots.Pure
