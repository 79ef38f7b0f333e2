/-
  The printed functions that this law reaches, their rounds used up, and the equations that they meet.
-/
import Derived.Test.YtbbfelgojaioaaaPFnExactWastedx1
import Derived.Test.YtbbfelgojaioaaaPFnExactWastedx10
import Derived.Test.YtbbfelgojaioaaaPFnExactWastedx2
import Derived.Test.YtbbfelgojaioaaaPFnExactWastedx3
import Derived.Test.YtbbfelgojaioaaaPFnExactWastedx4
import Derived.Test.YtbbfelgojaioaaaPFnExactWastedx5
import Derived.Test.YtbbfelgojaioaaaPFnExactWastedx6
import Derived.Test.YtbbfelgojaioaaaPFnExactWastedx7
import Derived.Test.YtbbfelgojaioaaaPFnExactWastedx8
import Derived.Test.YtbbfelgojaioaaaPFnExactWastedx9
import Derived.Test.YtbbfelgojaioaaaLim
namespace Go.Proofs.Ytbbfelgojaioaaa.PFnExactWasted.Pure
open Go.RowKit Go.Proofs.YtbbfelgojaioaaaW.PrintWords Go.Proofs.YtbbfelgojaioaaaW.PrintLast Go.Proofs.YtbbfelgojaioaaaW.PrintMore Go.Proofs.Ytbbfelgojaioaaa.PFnExactWasted Go.Proofs.Ytbbfelgojaioaaa.Lim
set_option linter.unusedVariables false
set_option maxRecDepth 100000

noncomputable def laws_toSlotS.L0 (x0 : List (S110)) (x3 : List (S95)) (x4 : Int) : Option ((List (S95))) := lim (fun k => laws_toSlotS.l0 k x0 x3 x4)
theorem laws_toSlotS.L0_co (x0 : List (S110)) (x3 : List (S95)) (x4 : Int) : Co (fun k => laws_toSlotS.l0 k x0 x3 x4) (laws_toSlotS.L0 x0 x3 x4) := Co.base (fun k => (laws_toSlotS.mono_l k) _ _ _)
noncomputable def laws_toSlotS.F (l0 : List (S110)) : Option ((List (S95))) := lim (fun k => laws_toSlotS.f k l0)
theorem laws_toSlotS.F_co (l0 : List (S110)) : Co (fun k => laws_toSlotS.f k l0) (laws_toSlotS.F l0) := Co.base (fun k => laws_toSlotS.mono _ k)
theorem laws_toSlotS.L0_eq (x0 : List (S110)) (x3 : List (S95)) (x4 : Int) : laws_toSlotS.L0 x0 x3 x4 = (if x4 < (x0.length : Int) then (if 0 ≤ x4 then ((laws_toSlot.f ((rd_T110 x0 x4).f0) ((rd_T110 x0 x4).f1) ((rd_T110 x0 x4).f2)).bind fun bt108 => (if x4 < (x3.length : Int) then (laws_toSlotS.L0 x0 (x3.set (x4 : Int).toNat (⟨bt108.1, bt108.2.1, bt108.2.2⟩ : S95)) (wrap64 (x4 + 1))) else (none))) else (none)) else (some x3)) := by
  refine Co.step (laws_toSlotS.L0_co x0 x3 x4) (h := fun k => (if x4 < (x0.length : Int) then (if 0 ≤ x4 then ((laws_toSlot.f ((rd_T110 x0 x4).f0) ((rd_T110 x0 x4).f1) ((rd_T110 x0 x4).f2)).bind fun bt108 => (if x4 < (x3.length : Int) then (laws_toSlotS.l0 k x0 (x3.set (x4 : Int).toNat (⟨bt108.1, bt108.2.1, bt108.2.2⟩ : S95)) (wrap64 (x4 + 1))) else (none))) else (none)) else (some x3))) (fun k => by first | rfl | (simp only [laws_toSlotS.l0])) ?_
  repeat' first
    | (with_reducible exact Co.const _)
    | (with_reducible exact laws_toSlotS.L0_co _ _ _)
    | (with_reducible refine Co.ite ?_ ?_)
    | (with_reducible refine Co.bind ?_ (fun _ => ?_))
theorem laws_toSlotS.F_eq (l0 : List (S110)) : laws_toSlotS.F l0 = (if 0 ≤ (l0.length : Int) then (if ((l0.length : Int) : Int).toNat ≤ 11728124029610 then (laws_toSlotS.L0 l0 (List.replicate ((l0.length : Int) : Int).toNat z95) 0) else (none)) else (none)) := by
  refine Co.same (laws_toSlotS.F_co l0) (h := fun k => (if 0 ≤ (l0.length : Int) then (if ((l0.length : Int) : Int).toNat ≤ 11728124029610 then (laws_toSlotS.l0 k l0 (List.replicate ((l0.length : Int) : Int).toNat z95) 0) else (none)) else (none))) (fun k => by first | rfl | unfold laws_toSlotS.f; rfl) ?_
  repeat' first
    | (with_reducible exact Co.const _)
    | (with_reducible exact laws_toSlotS.L0_co _ _ _)
    | (with_reducible refine Co.ite ?_ ?_)
    | (with_reducible refine Co.bind ?_ (fun _ => ?_))

noncomputable def laws_eqSlotS.L0 (x0 : List (S95)) (x1 : List (S95)) (x5 : Int) : Option (Bool) := lim (fun k => laws_eqSlotS.l0 k x0 x1 x5)
theorem laws_eqSlotS.L0_co (x0 : List (S95)) (x1 : List (S95)) (x5 : Int) : Co (fun k => laws_eqSlotS.l0 k x0 x1 x5) (laws_eqSlotS.L0 x0 x1 x5) := Co.base (fun k => (laws_eqSlotS.mono_l k) _ _ _)
noncomputable def laws_eqSlotS.F (l0 : List (S95)) (l1 : List (S95)) : Option (Bool) := lim (fun k => laws_eqSlotS.f k l0 l1)
theorem laws_eqSlotS.F_co (l0 : List (S95)) (l1 : List (S95)) : Co (fun k => laws_eqSlotS.f k l0 l1) (laws_eqSlotS.F l0 l1) := Co.base (fun k => laws_eqSlotS.mono _ _ k)
theorem laws_eqSlotS.L0_eq (x0 : List (S95)) (x1 : List (S95)) (x5 : Int) : laws_eqSlotS.L0 x0 x1 x5 = (if x5 < (x0.length : Int) then (if 0 ≤ x5 then (if x5 < (x1.length : Int) then ((laws_eqSlot.f ((rd_T95 x0 x5).f0) ((rd_T95 x0 x5).f1) ((rd_T95 x0 x5).f2) ((rd_T95 x1 x5).f0) ((rd_T95 x1 x5).f1) ((rd_T95 x1 x5).f2)).bind fun t116 => (if t116 = true then (laws_eqSlotS.L0 x0 x1 (wrap64 (x5 + 1))) else (some false))) else (none)) else (none)) else (some true)) := by
  refine Co.step (laws_eqSlotS.L0_co x0 x1 x5) (h := fun k => (if x5 < (x0.length : Int) then (if 0 ≤ x5 then (if x5 < (x1.length : Int) then ((laws_eqSlot.f ((rd_T95 x0 x5).f0) ((rd_T95 x0 x5).f1) ((rd_T95 x0 x5).f2) ((rd_T95 x1 x5).f0) ((rd_T95 x1 x5).f1) ((rd_T95 x1 x5).f2)).bind fun t116 => (if t116 = true then (laws_eqSlotS.l0 k x0 x1 (wrap64 (x5 + 1))) else (some false))) else (none)) else (none)) else (some true))) (fun k => by first | rfl | (simp only [laws_eqSlotS.l0])) ?_
  repeat' first
    | (with_reducible exact Co.const _)
    | (with_reducible exact laws_eqSlotS.L0_co _ _ _)
    | (with_reducible refine Co.ite ?_ ?_)
    | (with_reducible refine Co.bind ?_ (fun _ => ?_))
theorem laws_eqSlotS.F_eq (l0 : List (S95)) (l1 : List (S95)) : laws_eqSlotS.F l0 l1 = (if (l0.length : Int) = (l1.length : Int) then (laws_eqSlotS.L0 l0 l1 0) else (some false)) := by
  refine Co.same (laws_eqSlotS.F_co l0 l1) (h := fun k => (if (l0.length : Int) = (l1.length : Int) then (laws_eqSlotS.l0 k l0 l1 0) else (some false))) (fun k => by first | rfl | unfold laws_eqSlotS.f; rfl) ?_
  repeat' first
    | (with_reducible exact Co.const _)
    | (with_reducible exact laws_eqSlotS.L0_co _ _ _)
    | (with_reducible refine Co.ite ?_ ?_)
    | (with_reducible refine Co.bind ?_ (fun _ => ?_))

noncomputable def spec_AreSlots.L0 (x0 : List (S95)) (x3 : Int) : Option (Bool) := lim (fun k => spec_AreSlots.l0 k x0 x3)
theorem spec_AreSlots.L0_co (x0 : List (S95)) (x3 : Int) : Co (fun k => spec_AreSlots.l0 k x0 x3) (spec_AreSlots.L0 x0 x3) := Co.base (fun k => (spec_AreSlots.mono_l k).1 _ _)
noncomputable def spec_AreSlots.J1 (x0 : List (S95)) (x3 : Int) (x53 : Bool) : Option (Bool) := lim (fun k => spec_AreSlots.j1 k x0 x3 x53)
theorem spec_AreSlots.J1_co (x0 : List (S95)) (x3 : Int) (x53 : Bool) : Co (fun k => spec_AreSlots.j1 k x0 x3 x53) (spec_AreSlots.J1 x0 x3 x53) := Co.base (fun k => (spec_AreSlots.mono_l k).2.1 _ _ _)
noncomputable def spec_AreSlots.L1 (x0 : List (S95)) (x3 : Int) (x4 : Int) : Option (Bool) := lim (fun k => spec_AreSlots.l1 k x0 x3 x4)
theorem spec_AreSlots.L1_co (x0 : List (S95)) (x3 : Int) (x4 : Int) : Co (fun k => spec_AreSlots.l1 k x0 x3 x4) (spec_AreSlots.L1 x0 x3 x4) := Co.base (fun k => (spec_AreSlots.mono_l k).2.2 _ _ _)
noncomputable def spec_AreSlots.F (l0 : List (S95)) : Option (Bool) := lim (fun k => spec_AreSlots.f k l0)
theorem spec_AreSlots.F_co (l0 : List (S95)) : Co (fun k => spec_AreSlots.f k l0) (spec_AreSlots.F l0) := Co.base (fun k => spec_AreSlots.mono _ k)
theorem spec_AreSlots.L0_eq (x0 : List (S95)) (x3 : Int) : spec_AreSlots.L0 x0 x3 = (if x3 < (x0.length : Int) then (if 0 ≤ x3 then ((spec_l1In.f ((rd_T95 x0 x3).f0) 1 99).bind fun t118 => (if t118 = true then ((spec_l1In.f ((rd_T95 x0 x3).f1) 1 50).bind fun t120 => (if t120 = true then ((spec_l1In.f ((rd_T95 x0 x3).f2) 0 999).bind fun t122 => (if t122 = true then (if x3 > 0 then (if 0 ≤ (wrap64 (x3 - 1)) then (if (wrap64 (x3 - 1)) < (x0.length : Int) then (spec_AreSlots.J1 x0 x3 (decide (((rd_T95 x0 (wrap64 (x3 - 1))).f0) ≥ ((rd_T95 x0 x3).f0)))) else (none)) else (none)) else (spec_AreSlots.J1 x0 x3 false)) else (spec_AreSlots.J1 x0 x3 true))) else (spec_AreSlots.J1 x0 x3 true))) else (spec_AreSlots.J1 x0 x3 true))) else (none)) else (some (decide ((x0.length : Int) ≤ 30)))) := by
  refine Co.step (spec_AreSlots.L0_co x0 x3) (h := fun k => (if x3 < (x0.length : Int) then (if 0 ≤ x3 then ((spec_l1In.f ((rd_T95 x0 x3).f0) 1 99).bind fun t118 => (if t118 = true then ((spec_l1In.f ((rd_T95 x0 x3).f1) 1 50).bind fun t120 => (if t120 = true then ((spec_l1In.f ((rd_T95 x0 x3).f2) 0 999).bind fun t122 => (if t122 = true then (if x3 > 0 then (if 0 ≤ (wrap64 (x3 - 1)) then (if (wrap64 (x3 - 1)) < (x0.length : Int) then (spec_AreSlots.j1 k x0 x3 (decide (((rd_T95 x0 (wrap64 (x3 - 1))).f0) ≥ ((rd_T95 x0 x3).f0)))) else (none)) else (none)) else (spec_AreSlots.j1 k x0 x3 false)) else (spec_AreSlots.j1 k x0 x3 true))) else (spec_AreSlots.j1 k x0 x3 true))) else (spec_AreSlots.j1 k x0 x3 true))) else (none)) else (some (decide ((x0.length : Int) ≤ 30))))) (fun k => by first | rfl | (simp only [spec_AreSlots.l0])) ?_
  repeat' first
    | (with_reducible exact Co.const _)
    | (with_reducible exact spec_AreSlots.J1_co _ _ _)
    | (with_reducible refine Co.ite ?_ ?_)
    | (with_reducible refine Co.bind ?_ (fun _ => ?_))
theorem spec_AreSlots.J1_eq (x0 : List (S95)) (x3 : Int) (x53 : Bool) : spec_AreSlots.J1 x0 x3 x53 = (if x53 = true then (some false) else (spec_AreSlots.L1 x0 x3 0)) := by
  refine Co.step (spec_AreSlots.J1_co x0 x3 x53) (h := fun k => (if x53 = true then (some false) else (spec_AreSlots.l1 k x0 x3 0))) (fun k => by first | rfl | (simp only [spec_AreSlots.j1])) ?_
  repeat' first
    | (with_reducible exact Co.const _)
    | (with_reducible exact spec_AreSlots.L1_co _ _ _)
    | (with_reducible refine Co.ite ?_ ?_)
    | (with_reducible refine Co.bind ?_ (fun _ => ?_))
theorem spec_AreSlots.L1_eq (x0 : List (S95)) (x3 : Int) (x4 : Int) : spec_AreSlots.L1 x0 x3 x4 = (if x4 < x3 then (if 0 ≤ x3 then (if x3 < (x0.length : Int) then (if ((rd_T95 x0 x3).f2) = 0 then (spec_AreSlots.L1 x0 x3 (wrap64 (x4 + 1))) else (if 0 ≤ x4 then (if x4 < (x0.length : Int) then (if ((rd_T95 x0 x4).f2) = ((rd_T95 x0 x3).f2) then (some false) else (spec_AreSlots.L1 x0 x3 (wrap64 (x4 + 1)))) else (none)) else (none))) else (none)) else (none)) else (spec_AreSlots.L0 x0 (wrap64 (x3 + 1)))) := by
  refine Co.step (spec_AreSlots.L1_co x0 x3 x4) (h := fun k => (if x4 < x3 then (if 0 ≤ x3 then (if x3 < (x0.length : Int) then (if ((rd_T95 x0 x3).f2) = 0 then (spec_AreSlots.l1 k x0 x3 (wrap64 (x4 + 1))) else (if 0 ≤ x4 then (if x4 < (x0.length : Int) then (if ((rd_T95 x0 x4).f2) = ((rd_T95 x0 x3).f2) then (some false) else (spec_AreSlots.l1 k x0 x3 (wrap64 (x4 + 1)))) else (none)) else (none))) else (none)) else (none)) else (spec_AreSlots.l0 k x0 (wrap64 (x3 + 1))))) (fun k => by first | rfl | (simp only [spec_AreSlots.l1])) ?_
  repeat' first
    | (with_reducible exact Co.const _)
    | (with_reducible exact spec_AreSlots.L0_co _ _)
    | (with_reducible exact spec_AreSlots.L1_co _ _ _)
    | (with_reducible refine Co.ite ?_ ?_)
    | (with_reducible refine Co.bind ?_ (fun _ => ?_))
theorem spec_AreSlots.F_eq (l0 : List (S95)) : spec_AreSlots.F l0 = (spec_AreSlots.L0 l0 0) := by
  refine Co.same (spec_AreSlots.F_co l0) (h := fun k => (spec_AreSlots.l0 k l0 0)) (fun k => by first | rfl | unfold spec_AreSlots.f; rfl) ?_
  repeat' first
    | (with_reducible exact Co.const _)
    | (with_reducible exact spec_AreSlots.L0_co _ _)
    | (with_reducible refine Co.ite ?_ ?_)
    | (with_reducible refine Co.bind ?_ (fun _ => ?_))

noncomputable def spec_AreThings.L0 (x0 : List (S73)) (x3 : Int) : Option (Bool) := lim (fun k => spec_AreThings.l0 k x0 x3)
theorem spec_AreThings.L0_co (x0 : List (S73)) (x3 : Int) : Co (fun k => spec_AreThings.l0 k x0 x3) (spec_AreThings.L0 x0 x3) := Co.base (fun k => (spec_AreThings.mono_l k) _ _)
noncomputable def spec_AreThings.F (l0 : List (S73)) : Option (Bool) := lim (fun k => spec_AreThings.f k l0)
theorem spec_AreThings.F_co (l0 : List (S73)) : Co (fun k => spec_AreThings.f k l0) (spec_AreThings.F l0) := Co.base (fun k => spec_AreThings.mono _ k)
theorem spec_AreThings.L0_eq (x0 : List (S73)) (x3 : Int) : spec_AreThings.L0 x0 x3 = (if x3 < (x0.length : Int) then (if 0 ≤ x3 then ((spec_IsThing.f ((rd_T73 x0 x3).f0) ((rd_T73 x0 x3).f1) ((rd_T73 x0 x3).f2) ((rd_T73 x0 x3).f3) ((rd_T73 x0 x3).f4)).bind fun t135 => (if t135 = true then (if x3 > 0 then (if 0 ≤ (wrap64 (x3 - 1)) then (if (wrap64 (x3 - 1)) < (x0.length : Int) then (if ((rd_T73 x0 (wrap64 (x3 - 1))).f0) ≥ ((rd_T73 x0 x3).f0) then (some false) else (spec_AreThings.L0 x0 (wrap64 (x3 + 1)))) else (none)) else (none)) else (spec_AreThings.L0 x0 (wrap64 (x3 + 1)))) else (some false))) else (none)) else (some (decide ((x0.length : Int) ≤ 20)))) := by
  refine Co.step (spec_AreThings.L0_co x0 x3) (h := fun k => (if x3 < (x0.length : Int) then (if 0 ≤ x3 then ((spec_IsThing.f ((rd_T73 x0 x3).f0) ((rd_T73 x0 x3).f1) ((rd_T73 x0 x3).f2) ((rd_T73 x0 x3).f3) ((rd_T73 x0 x3).f4)).bind fun t135 => (if t135 = true then (if x3 > 0 then (if 0 ≤ (wrap64 (x3 - 1)) then (if (wrap64 (x3 - 1)) < (x0.length : Int) then (if ((rd_T73 x0 (wrap64 (x3 - 1))).f0) ≥ ((rd_T73 x0 x3).f0) then (some false) else (spec_AreThings.l0 k x0 (wrap64 (x3 + 1)))) else (none)) else (none)) else (spec_AreThings.l0 k x0 (wrap64 (x3 + 1)))) else (some false))) else (none)) else (some (decide ((x0.length : Int) ≤ 20))))) (fun k => by first | rfl | (simp only [spec_AreThings.l0])) ?_
  repeat' first
    | (with_reducible exact Co.const _)
    | (with_reducible exact spec_AreThings.L0_co _ _)
    | (with_reducible refine Co.ite ?_ ?_)
    | (with_reducible refine Co.bind ?_ (fun _ => ?_))
theorem spec_AreThings.F_eq (l0 : List (S73)) : spec_AreThings.F l0 = (spec_AreThings.L0 l0 0) := by
  refine Co.same (spec_AreThings.F_co l0) (h := fun k => (spec_AreThings.l0 k l0 0)) (fun k => by first | rfl | unfold spec_AreThings.f; rfl) ?_
  repeat' first
    | (with_reducible exact Co.const _)
    | (with_reducible exact spec_AreThings.L0_co _ _)
    | (with_reducible refine Co.ite ?_ ?_)
    | (with_reducible refine Co.bind ?_ (fun _ => ?_))

noncomputable def spec_Wasted.L0 (x0 : List (S95)) (x1 : List (S73)) (x5 : Int) (x6 : Int) : Option (Int) := lim (fun k => spec_Wasted.l0 k x0 x1 x5 x6)
theorem spec_Wasted.L0_co (x0 : List (S95)) (x1 : List (S73)) (x5 : Int) (x6 : Int) : Co (fun k => spec_Wasted.l0 k x0 x1 x5 x6) (spec_Wasted.L0 x0 x1 x5 x6) := Co.base (fun k => (spec_Wasted.mono_l k).1 _ _ _ _)
noncomputable def spec_Wasted.J1 (x0 : List (S95)) (x1 : List (S73)) (x5 : Int) (x6 : Int) (x19 : Bool) : Option (Int) := lim (fun k => spec_Wasted.j1 k x0 x1 x5 x6 x19)
theorem spec_Wasted.J1_co (x0 : List (S95)) (x1 : List (S73)) (x5 : Int) (x6 : Int) (x19 : Bool) : Co (fun k => spec_Wasted.j1 k x0 x1 x5 x6 x19) (spec_Wasted.J1 x0 x1 x5 x6 x19) := Co.base (fun k => (spec_Wasted.mono_l k).2.1 _ _ _ _ _)
noncomputable def spec_Wasted.L1 (x0 : List (S95)) (x1 : List (S73)) (x5 : Int) (x6 : Int) (x7 : Int) : Option (Int) := lim (fun k => spec_Wasted.l1 k x0 x1 x5 x6 x7)
theorem spec_Wasted.L1_co (x0 : List (S95)) (x1 : List (S73)) (x5 : Int) (x6 : Int) (x7 : Int) : Co (fun k => spec_Wasted.l1 k x0 x1 x5 x6 x7) (spec_Wasted.L1 x0 x1 x5 x6 x7) := Co.base (fun k => (spec_Wasted.mono_l k).2.2 _ _ _ _ _)
noncomputable def spec_Wasted.F (l0 : List (S95)) (l1 : List (S73)) : Option (Int) := lim (fun k => spec_Wasted.f k l0 l1)
theorem spec_Wasted.F_co (l0 : List (S95)) (l1 : List (S73)) : Co (fun k => spec_Wasted.f k l0 l1) (spec_Wasted.F l0 l1) := Co.base (fun k => spec_Wasted.mono _ _ k)
theorem spec_Wasted.L0_eq (x0 : List (S95)) (x1 : List (S73)) (x5 : Int) (x6 : Int) : spec_Wasted.L0 x0 x1 x5 x6 = (if x6 < (x0.length : Int) then ((spec_AreSlots.F x0).bind fun t138 => (if t138 = true then ((spec_AreThings.F x1).bind fun t139 => (spec_Wasted.J1 x0 x1 x5 x6 t139)) else (spec_Wasted.J1 x0 x1 x5 x6 false))) else (spec_Wasted.J1 x0 x1 x5 x6 false)) := by
  refine Co.step (spec_Wasted.L0_co x0 x1 x5 x6) (h := fun k => (if x6 < (x0.length : Int) then ((spec_AreSlots.f k x0).bind fun t138 => (if t138 = true then ((spec_AreThings.f k x1).bind fun t139 => (spec_Wasted.j1 k x0 x1 x5 x6 t139)) else (spec_Wasted.j1 k x0 x1 x5 x6 false))) else (spec_Wasted.j1 k x0 x1 x5 x6 false))) (fun k => by first | rfl | (simp only [spec_Wasted.l0])) ?_
  repeat' first
    | (with_reducible exact Co.const _)
    | (with_reducible exact spec_AreSlots.F_co _)
    | (with_reducible exact spec_AreThings.F_co _)
    | (with_reducible exact spec_Wasted.J1_co _ _ _ _ _)
    | (with_reducible refine Co.ite ?_ ?_)
    | (with_reducible refine Co.bind ?_ (fun _ => ?_))
theorem spec_Wasted.J1_eq (x0 : List (S95)) (x1 : List (S73)) (x5 : Int) (x6 : Int) (x19 : Bool) : spec_Wasted.J1 x0 x1 x5 x6 x19 = (if x19 = true then (spec_Wasted.L1 x0 x1 x5 x6 0) else (some x5)) := by
  refine Co.step (spec_Wasted.J1_co x0 x1 x5 x6 x19) (h := fun k => (if x19 = true then (spec_Wasted.l1 k x0 x1 x5 x6 0) else (some x5))) (fun k => by first | rfl | (simp only [spec_Wasted.j1])) ?_
  repeat' first
    | (with_reducible exact Co.const _)
    | (with_reducible exact spec_Wasted.L1_co _ _ _ _ _)
    | (with_reducible refine Co.ite ?_ ?_)
    | (with_reducible refine Co.bind ?_ (fun _ => ?_))
theorem spec_Wasted.L1_eq (x0 : List (S95)) (x1 : List (S73)) (x5 : Int) (x6 : Int) (x7 : Int) : spec_Wasted.L1 x0 x1 x5 x6 x7 = (if x7 < (x1.length : Int) then (if 0 ≤ x6 then (if x6 < (x0.length : Int) then (if 0 ≤ x7 then (if ((rd_T95 x0 x6).f2) = ((rd_T73 x1 x7).f0) then (spec_Wasted.L1 x0 x1 (wrap64 ((wrap64 (x5 + ((rd_T95 x0 x6).f1))) - ((rd_T73 x1 x7).f3))) x6 (wrap64 (x7 + 1))) else (spec_Wasted.L1 x0 x1 x5 x6 (wrap64 (x7 + 1)))) else (none)) else (none)) else (none)) else (spec_Wasted.L0 x0 x1 x5 (wrap64 (x6 + 1)))) := by
  refine Co.step (spec_Wasted.L1_co x0 x1 x5 x6 x7) (h := fun k => (if x7 < (x1.length : Int) then (if 0 ≤ x6 then (if x6 < (x0.length : Int) then (if 0 ≤ x7 then (if ((rd_T95 x0 x6).f2) = ((rd_T73 x1 x7).f0) then (spec_Wasted.l1 k x0 x1 (wrap64 ((wrap64 (x5 + ((rd_T95 x0 x6).f1))) - ((rd_T73 x1 x7).f3))) x6 (wrap64 (x7 + 1))) else (spec_Wasted.l1 k x0 x1 x5 x6 (wrap64 (x7 + 1)))) else (none)) else (none)) else (none)) else (spec_Wasted.l0 k x0 x1 x5 (wrap64 (x6 + 1))))) (fun k => by first | rfl | (simp only [spec_Wasted.l1])) ?_
  repeat' first
    | (with_reducible exact Co.const _)
    | (with_reducible exact spec_Wasted.L0_co _ _ _ _)
    | (with_reducible exact spec_Wasted.L1_co _ _ _ _ _)
    | (with_reducible refine Co.ite ?_ ?_)
    | (with_reducible refine Co.bind ?_ (fun _ => ?_))
theorem spec_Wasted.F_eq (l0 : List (S95)) (l1 : List (S73)) : spec_Wasted.F l0 l1 = (spec_Wasted.L0 l0 l1 0 0) := by
  refine Co.same (spec_Wasted.F_co l0 l1) (h := fun k => (spec_Wasted.l0 k l0 l1 0 0)) (fun k => by first | rfl | unfold spec_Wasted.f; rfl) ?_
  repeat' first
    | (with_reducible exact Co.const _)
    | (with_reducible exact spec_Wasted.L0_co _ _ _ _)
    | (with_reducible refine Co.ite ?_ ?_)
    | (with_reducible refine Co.bind ?_ (fun _ => ?_))

noncomputable def laws_toThingS.L0 (x0 : List (S71)) (x3 : List (S73)) (x4 : Int) : Option ((List (S73))) := lim (fun k => laws_toThingS.l0 k x0 x3 x4)
theorem laws_toThingS.L0_co (x0 : List (S71)) (x3 : List (S73)) (x4 : Int) : Co (fun k => laws_toThingS.l0 k x0 x3 x4) (laws_toThingS.L0 x0 x3 x4) := Co.base (fun k => (laws_toThingS.mono_l k) _ _ _)
noncomputable def laws_toThingS.F (l0 : List (S71)) : Option ((List (S73))) := lim (fun k => laws_toThingS.f k l0)
theorem laws_toThingS.F_co (l0 : List (S71)) : Co (fun k => laws_toThingS.f k l0) (laws_toThingS.F l0) := Co.base (fun k => laws_toThingS.mono _ k)
theorem laws_toThingS.L0_eq (x0 : List (S71)) (x3 : List (S73)) (x4 : Int) : laws_toThingS.L0 x0 x3 x4 = (if x4 < (x0.length : Int) then (if 0 ≤ x4 then ((laws_toThing.f ((rd_T71 x0 x4).f0) ((rd_T71 x0 x4).f1) ((rd_T71 x0 x4).f2) ((rd_T71 x0 x4).f3) ((rd_T71 x0 x4).f4)).bind fun bt151 => (if x4 < (x3.length : Int) then (laws_toThingS.L0 x0 (x3.set (x4 : Int).toNat (⟨bt151.1, bt151.2.1, bt151.2.2.1, bt151.2.2.2.1, bt151.2.2.2.2⟩ : S73)) (wrap64 (x4 + 1))) else (none))) else (none)) else (some x3)) := by
  refine Co.step (laws_toThingS.L0_co x0 x3 x4) (h := fun k => (if x4 < (x0.length : Int) then (if 0 ≤ x4 then ((laws_toThing.f ((rd_T71 x0 x4).f0) ((rd_T71 x0 x4).f1) ((rd_T71 x0 x4).f2) ((rd_T71 x0 x4).f3) ((rd_T71 x0 x4).f4)).bind fun bt151 => (if x4 < (x3.length : Int) then (laws_toThingS.l0 k x0 (x3.set (x4 : Int).toNat (⟨bt151.1, bt151.2.1, bt151.2.2.1, bt151.2.2.2.1, bt151.2.2.2.2⟩ : S73)) (wrap64 (x4 + 1))) else (none))) else (none)) else (some x3))) (fun k => by first | rfl | (simp only [laws_toThingS.l0])) ?_
  repeat' first
    | (with_reducible exact Co.const _)
    | (with_reducible exact laws_toThingS.L0_co _ _ _)
    | (with_reducible refine Co.ite ?_ ?_)
    | (with_reducible refine Co.bind ?_ (fun _ => ?_))
theorem laws_toThingS.F_eq (l0 : List (S71)) : laws_toThingS.F l0 = (if 0 ≤ (l0.length : Int) then (if ((l0.length : Int) : Int).toNat ≤ 7036874417766 then (laws_toThingS.L0 l0 (List.replicate ((l0.length : Int) : Int).toNat z73) 0) else (none)) else (none)) := by
  refine Co.same (laws_toThingS.F_co l0) (h := fun k => (if 0 ≤ (l0.length : Int) then (if ((l0.length : Int) : Int).toNat ≤ 7036874417766 then (laws_toThingS.l0 k l0 (List.replicate ((l0.length : Int) : Int).toNat z73) 0) else (none)) else (none))) (fun k => by first | rfl | unfold laws_toThingS.f; rfl) ?_
  repeat' first
    | (with_reducible exact Co.const _)
    | (with_reducible exact laws_toThingS.L0_co _ _ _)
    | (with_reducible refine Co.ite ?_ ?_)
    | (with_reducible refine Co.bind ?_ (fun _ => ?_))

noncomputable def impl_AreSlots.L0 (x0 : List (S95)) (x8 : List (S95)) (x9 : Int) (x10 : Int) : Option (Bool) := lim (fun k => impl_AreSlots.l0 k x0 x8 x9 x10)
theorem impl_AreSlots.L0_co (x0 : List (S95)) (x8 : List (S95)) (x9 : Int) (x10 : Int) : Co (fun k => impl_AreSlots.l0 k x0 x8 x9 x10) (impl_AreSlots.L0 x0 x8 x9 x10) := Co.base (fun k => (impl_AreSlots.mono_l k) _ _ _ _)
noncomputable def impl_AreSlots.F (l0 : List (S95)) : Option (Bool) := lim (fun k => impl_AreSlots.f k l0)
theorem impl_AreSlots.F_co (l0 : List (S95)) : Co (fun k => impl_AreSlots.f k l0) (impl_AreSlots.F l0) := Co.base (fun k => impl_AreSlots.mono _ k)
theorem impl_AreSlots.L0_eq (x0 : List (S95)) (x8 : List (S95)) (x9 : Int) (x10 : Int) : impl_AreSlots.L0 x0 x8 x9 x10 = (if x10 < x9 then (if 0 ≤ x10 then (if x10 < (x8.length : Int) then ((impl_InRange.f ((rd_T95 x8 x10).f0) 1 99).bind fun t161 => (if t161 = true then (if x10 > 0 then (if 0 ≤ (wrap64 (x10 - 1)) then (if (wrap64 (x10 - 1)) < (x0.length : Int) then (if ((rd_T95 x8 x10).f0) ≤ ((rd_T95 x0 (wrap64 (x10 - 1))).f0) then (some false) else ((impl_InRange.f ((rd_T95 x8 x10).f1) 1 50).bind fun t163 => (if t163 = true then ((impl_InRange.f ((rd_T95 x8 x10).f2) 0 999).bind fun t164 => (if t164 = true then (if x10 ≤ (x0.length : Int) then ((impl_SlotOf.f (x0.take (x10 : Int).toNat) ((rd_T95 x8 x10).f2)).bind fun t169 => (if t169 = 0 then (impl_AreSlots.L0 x0 x8 x9 (wrap64 (x10 + 1))) else (some false))) else (none)) else (some false))) else (some false)))) else (none)) else (none)) else ((impl_InRange.f ((rd_T95 x8 x10).f1) 1 50).bind fun t170 => (if t170 = true then ((impl_InRange.f ((rd_T95 x8 x10).f2) 0 999).bind fun t171 => (if t171 = true then (if x10 ≤ (x0.length : Int) then ((impl_SlotOf.f (x0.take (x10 : Int).toNat) ((rd_T95 x8 x10).f2)).bind fun t176 => (if t176 = 0 then (impl_AreSlots.L0 x0 x8 x9 (wrap64 (x10 + 1))) else (some false))) else (none)) else (some false))) else (some false)))) else (some false))) else (none)) else (none)) else (some true)) := by
  refine Co.step (impl_AreSlots.L0_co x0 x8 x9 x10) (h := fun k => (if x10 < x9 then (if 0 ≤ x10 then (if x10 < (x8.length : Int) then ((impl_InRange.f ((rd_T95 x8 x10).f0) 1 99).bind fun t161 => (if t161 = true then (if x10 > 0 then (if 0 ≤ (wrap64 (x10 - 1)) then (if (wrap64 (x10 - 1)) < (x0.length : Int) then (if ((rd_T95 x8 x10).f0) ≤ ((rd_T95 x0 (wrap64 (x10 - 1))).f0) then (some false) else ((impl_InRange.f ((rd_T95 x8 x10).f1) 1 50).bind fun t163 => (if t163 = true then ((impl_InRange.f ((rd_T95 x8 x10).f2) 0 999).bind fun t164 => (if t164 = true then (if x10 ≤ (x0.length : Int) then ((impl_SlotOf.f (x0.take (x10 : Int).toNat) ((rd_T95 x8 x10).f2)).bind fun t169 => (if t169 = 0 then (impl_AreSlots.l0 k x0 x8 x9 (wrap64 (x10 + 1))) else (some false))) else (none)) else (some false))) else (some false)))) else (none)) else (none)) else ((impl_InRange.f ((rd_T95 x8 x10).f1) 1 50).bind fun t170 => (if t170 = true then ((impl_InRange.f ((rd_T95 x8 x10).f2) 0 999).bind fun t171 => (if t171 = true then (if x10 ≤ (x0.length : Int) then ((impl_SlotOf.f (x0.take (x10 : Int).toNat) ((rd_T95 x8 x10).f2)).bind fun t176 => (if t176 = 0 then (impl_AreSlots.l0 k x0 x8 x9 (wrap64 (x10 + 1))) else (some false))) else (none)) else (some false))) else (some false)))) else (some false))) else (none)) else (none)) else (some true))) (fun k => by first | rfl | (simp only [impl_AreSlots.l0])) ?_
  repeat' first
    | (with_reducible exact Co.const _)
    | (with_reducible exact impl_AreSlots.L0_co _ _ _ _)
    | (with_reducible refine Co.ite ?_ ?_)
    | (with_reducible refine Co.bind ?_ (fun _ => ?_))
theorem impl_AreSlots.F_eq (l0 : List (S95)) : impl_AreSlots.F l0 = (if (l0.length : Int) > 30 then (some false) else (impl_AreSlots.L0 l0 l0 (l0.length : Int) 0)) := by
  refine Co.same (impl_AreSlots.F_co l0) (h := fun k => (if (l0.length : Int) > 30 then (some false) else (impl_AreSlots.l0 k l0 l0 (l0.length : Int) 0))) (fun k => by first | rfl | unfold impl_AreSlots.f; rfl) ?_
  repeat' first
    | (with_reducible exact Co.const _)
    | (with_reducible exact impl_AreSlots.L0_co _ _ _ _)
    | (with_reducible refine Co.ite ?_ ?_)
    | (with_reducible refine Co.bind ?_ (fun _ => ?_))

noncomputable def impl_AreThings.L0 (x0 : List (S73)) (x8 : List (S73)) (x9 : Int) (x10 : Int) : Option (Bool) := lim (fun k => impl_AreThings.l0 k x0 x8 x9 x10)
theorem impl_AreThings.L0_co (x0 : List (S73)) (x8 : List (S73)) (x9 : Int) (x10 : Int) : Co (fun k => impl_AreThings.l0 k x0 x8 x9 x10) (impl_AreThings.L0 x0 x8 x9 x10) := Co.base (fun k => (impl_AreThings.mono_l k) _ _ _ _)
noncomputable def impl_AreThings.F (l0 : List (S73)) : Option (Bool) := lim (fun k => impl_AreThings.f k l0)
theorem impl_AreThings.F_co (l0 : List (S73)) : Co (fun k => impl_AreThings.f k l0) (impl_AreThings.F l0) := Co.base (fun k => impl_AreThings.mono _ k)
theorem impl_AreThings.L0_eq (x0 : List (S73)) (x8 : List (S73)) (x9 : Int) (x10 : Int) : impl_AreThings.L0 x0 x8 x9 x10 = (if x10 < x9 then (if 0 ≤ x10 then (if x10 < (x8.length : Int) then ((impl_IsThing.f ((rd_T73 x8 x10).f0) ((rd_T73 x8 x10).f1) ((rd_T73 x8 x10).f2) ((rd_T73 x8 x10).f3) ((rd_T73 x8 x10).f4)).bind fun t185 => (if t185 = true then (if x10 > 0 then (if 0 ≤ (wrap64 (x10 - 1)) then (if (wrap64 (x10 - 1)) < (x0.length : Int) then (if ((rd_T73 x8 x10).f0) ≤ ((rd_T73 x0 (wrap64 (x10 - 1))).f0) then (some false) else (impl_AreThings.L0 x0 x8 x9 (wrap64 (x10 + 1)))) else (none)) else (none)) else (impl_AreThings.L0 x0 x8 x9 (wrap64 (x10 + 1)))) else (some false))) else (none)) else (none)) else (some true)) := by
  refine Co.step (impl_AreThings.L0_co x0 x8 x9 x10) (h := fun k => (if x10 < x9 then (if 0 ≤ x10 then (if x10 < (x8.length : Int) then ((impl_IsThing.f ((rd_T73 x8 x10).f0) ((rd_T73 x8 x10).f1) ((rd_T73 x8 x10).f2) ((rd_T73 x8 x10).f3) ((rd_T73 x8 x10).f4)).bind fun t185 => (if t185 = true then (if x10 > 0 then (if 0 ≤ (wrap64 (x10 - 1)) then (if (wrap64 (x10 - 1)) < (x0.length : Int) then (if ((rd_T73 x8 x10).f0) ≤ ((rd_T73 x0 (wrap64 (x10 - 1))).f0) then (some false) else (impl_AreThings.l0 k x0 x8 x9 (wrap64 (x10 + 1)))) else (none)) else (none)) else (impl_AreThings.l0 k x0 x8 x9 (wrap64 (x10 + 1)))) else (some false))) else (none)) else (none)) else (some true))) (fun k => by first | rfl | (simp only [impl_AreThings.l0])) ?_
  repeat' first
    | (with_reducible exact Co.const _)
    | (with_reducible exact impl_AreThings.L0_co _ _ _ _)
    | (with_reducible refine Co.ite ?_ ?_)
    | (with_reducible refine Co.bind ?_ (fun _ => ?_))
theorem impl_AreThings.F_eq (l0 : List (S73)) : impl_AreThings.F l0 = (if (l0.length : Int) > 20 then (some false) else (impl_AreThings.L0 l0 l0 (l0.length : Int) 0)) := by
  refine Co.same (impl_AreThings.F_co l0) (h := fun k => (if (l0.length : Int) > 20 then (some false) else (impl_AreThings.l0 k l0 l0 (l0.length : Int) 0))) (fun k => by first | rfl | unfold impl_AreThings.f; rfl) ?_
  repeat' first
    | (with_reducible exact Co.const _)
    | (with_reducible exact impl_AreThings.L0_co _ _ _ _)
    | (with_reducible refine Co.ite ?_ ?_)
    | (with_reducible refine Co.bind ?_ (fun _ => ?_))

noncomputable def impl_Wasted.J0 (x0 : List (S95)) (x1 : List (S73)) (x5 : Int) (x16 : Bool) : Option (Int) := lim (fun k => impl_Wasted.j0 k x0 x1 x5 x16)
theorem impl_Wasted.J0_co (x0 : List (S95)) (x1 : List (S73)) (x5 : Int) (x16 : Bool) : Co (fun k => impl_Wasted.j0 k x0 x1 x5 x16) (impl_Wasted.J0 x0 x1 x5 x16) := Co.base (fun k => (impl_Wasted.mono_l k).1 _ _ _ _)
noncomputable def impl_Wasted.L0 (x0 : List (S95)) (x5 : Int) (x18 : List (S73)) (x19 : Int) (x20 : Int) : Option (Int) := lim (fun k => impl_Wasted.l0 k x0 x5 x18 x19 x20)
theorem impl_Wasted.L0_co (x0 : List (S95)) (x5 : Int) (x18 : List (S73)) (x19 : Int) (x20 : Int) : Co (fun k => impl_Wasted.l0 k x0 x5 x18 x19 x20) (impl_Wasted.L0 x0 x5 x18 x19 x20) := Co.base (fun k => (impl_Wasted.mono_l k).2 _ _ _ _ _)
noncomputable def impl_Wasted.F (l0 : List (S95)) (l1 : List (S73)) : Option (Int) := lim (fun k => impl_Wasted.f k l0 l1)
theorem impl_Wasted.F_co (l0 : List (S95)) (l1 : List (S73)) : Co (fun k => impl_Wasted.f k l0 l1) (impl_Wasted.F l0 l1) := Co.base (fun k => impl_Wasted.mono _ _ k)
theorem impl_Wasted.J0_eq (x0 : List (S95)) (x1 : List (S73)) (x5 : Int) (x16 : Bool) : impl_Wasted.J0 x0 x1 x5 x16 = (if x16 = true then (some x5) else (impl_Wasted.L0 x0 x5 x1 (x1.length : Int) 0)) := by
  refine Co.step (impl_Wasted.J0_co x0 x1 x5 x16) (h := fun k => (if x16 = true then (some x5) else (impl_Wasted.l0 k x0 x5 x1 (x1.length : Int) 0))) (fun k => by first | rfl | (simp only [impl_Wasted.j0])) ?_
  repeat' first
    | (with_reducible exact Co.const _)
    | (with_reducible exact impl_Wasted.L0_co _ _ _ _ _)
    | (with_reducible refine Co.ite ?_ ?_)
    | (with_reducible refine Co.bind ?_ (fun _ => ?_))
theorem impl_Wasted.L0_eq (x0 : List (S95)) (x5 : Int) (x18 : List (S73)) (x19 : Int) (x20 : Int) : impl_Wasted.L0 x0 x5 x18 x19 x20 = (if x20 < x19 then (if 0 ≤ x20 then (if x20 < (x18.length : Int) then ((impl_slotWith.f x0 ((rd_T73 x18 x20).f0)).bind fun t191 => (if t191 ≥ 0 then (if 0 ≤ t191 then (if t191 < (x0.length : Int) then (impl_Wasted.L0 x0 (wrap64 (x5 + (wrap64 (((rd_T95 x0 t191).f1) - ((rd_T73 x18 x20).f3))))) x18 x19 (wrap64 (x20 + 1))) else (none)) else (none)) else (impl_Wasted.L0 x0 x5 x18 x19 (wrap64 (x20 + 1))))) else (none)) else (none)) else (some x5)) := by
  refine Co.step (impl_Wasted.L0_co x0 x5 x18 x19 x20) (h := fun k => (if x20 < x19 then (if 0 ≤ x20 then (if x20 < (x18.length : Int) then ((impl_slotWith.f x0 ((rd_T73 x18 x20).f0)).bind fun t191 => (if t191 ≥ 0 then (if 0 ≤ t191 then (if t191 < (x0.length : Int) then (impl_Wasted.l0 k x0 (wrap64 (x5 + (wrap64 (((rd_T95 x0 t191).f1) - ((rd_T73 x18 x20).f3))))) x18 x19 (wrap64 (x20 + 1))) else (none)) else (none)) else (impl_Wasted.l0 k x0 x5 x18 x19 (wrap64 (x20 + 1))))) else (none)) else (none)) else (some x5))) (fun k => by first | rfl | (simp only [impl_Wasted.l0])) ?_
  repeat' first
    | (with_reducible exact Co.const _)
    | (with_reducible exact impl_Wasted.L0_co _ _ _ _ _)
    | (with_reducible refine Co.ite ?_ ?_)
    | (with_reducible refine Co.bind ?_ (fun _ => ?_))
theorem impl_Wasted.F_eq (l0 : List (S95)) (l1 : List (S73)) : impl_Wasted.F l0 l1 = ((impl_AreSlots.F l0).bind fun t187 => (if t187 = true then ((impl_AreThings.F l1).bind fun t188 => (impl_Wasted.J0 l0 l1 0 (!t188))) else (impl_Wasted.J0 l0 l1 0 true))) := by
  refine Co.same (impl_Wasted.F_co l0 l1) (h := fun k => ((impl_AreSlots.f k l0).bind fun t187 => (if t187 = true then ((impl_AreThings.f k l1).bind fun t188 => (impl_Wasted.j0 k l0 l1 0 (!t188))) else (impl_Wasted.j0 k l0 l1 0 true)))) (fun k => by first | rfl | unfold impl_Wasted.f; rfl) ?_
  repeat' first
    | (with_reducible exact Co.const _)
    | (with_reducible exact impl_AreSlots.F_co _)
    | (with_reducible exact impl_AreThings.F_co _)
    | (with_reducible exact impl_Wasted.J0_co _ _ _ _)
    | (with_reducible refine Co.ite ?_ ?_)
    | (with_reducible refine Co.bind ?_ (fun _ => ?_))

noncomputable def laws_eqThingS.L0 (x0 : List (S73)) (x1 : List (S73)) (x5 : Int) : Option (Bool) := lim (fun k => laws_eqThingS.l0 k x0 x1 x5)
theorem laws_eqThingS.L0_co (x0 : List (S73)) (x1 : List (S73)) (x5 : Int) : Co (fun k => laws_eqThingS.l0 k x0 x1 x5) (laws_eqThingS.L0 x0 x1 x5) := Co.base (fun k => (laws_eqThingS.mono_l k) _ _ _)
noncomputable def laws_eqThingS.F (l0 : List (S73)) (l1 : List (S73)) : Option (Bool) := lim (fun k => laws_eqThingS.f k l0 l1)
theorem laws_eqThingS.F_co (l0 : List (S73)) (l1 : List (S73)) : Co (fun k => laws_eqThingS.f k l0 l1) (laws_eqThingS.F l0 l1) := Co.base (fun k => laws_eqThingS.mono _ _ k)
theorem laws_eqThingS.L0_eq (x0 : List (S73)) (x1 : List (S73)) (x5 : Int) : laws_eqThingS.L0 x0 x1 x5 = (if x5 < (x0.length : Int) then (if 0 ≤ x5 then (if x5 < (x1.length : Int) then ((laws_eqThing.f ((rd_T73 x0 x5).f0) ((rd_T73 x0 x5).f1) ((rd_T73 x0 x5).f2) ((rd_T73 x0 x5).f3) ((rd_T73 x0 x5).f4) ((rd_T73 x1 x5).f0) ((rd_T73 x1 x5).f1) ((rd_T73 x1 x5).f2) ((rd_T73 x1 x5).f3) ((rd_T73 x1 x5).f4)).bind fun t197 => (if t197 = true then (laws_eqThingS.L0 x0 x1 (wrap64 (x5 + 1))) else (some false))) else (none)) else (none)) else (some true)) := by
  refine Co.step (laws_eqThingS.L0_co x0 x1 x5) (h := fun k => (if x5 < (x0.length : Int) then (if 0 ≤ x5 then (if x5 < (x1.length : Int) then ((laws_eqThing.f ((rd_T73 x0 x5).f0) ((rd_T73 x0 x5).f1) ((rd_T73 x0 x5).f2) ((rd_T73 x0 x5).f3) ((rd_T73 x0 x5).f4) ((rd_T73 x1 x5).f0) ((rd_T73 x1 x5).f1) ((rd_T73 x1 x5).f2) ((rd_T73 x1 x5).f3) ((rd_T73 x1 x5).f4)).bind fun t197 => (if t197 = true then (laws_eqThingS.l0 k x0 x1 (wrap64 (x5 + 1))) else (some false))) else (none)) else (none)) else (some true))) (fun k => by first | rfl | (simp only [laws_eqThingS.l0])) ?_
  repeat' first
    | (with_reducible exact Co.const _)
    | (with_reducible exact laws_eqThingS.L0_co _ _ _)
    | (with_reducible refine Co.ite ?_ ?_)
    | (with_reducible refine Co.bind ?_ (fun _ => ?_))
theorem laws_eqThingS.F_eq (l0 : List (S73)) (l1 : List (S73)) : laws_eqThingS.F l0 l1 = (if (l0.length : Int) = (l1.length : Int) then (laws_eqThingS.L0 l0 l1 0) else (some false)) := by
  refine Co.same (laws_eqThingS.F_co l0 l1) (h := fun k => (if (l0.length : Int) = (l1.length : Int) then (laws_eqThingS.l0 k l0 l1 0) else (some false))) (fun k => by first | rfl | unfold laws_eqThingS.f; rfl) ?_
  repeat' first
    | (with_reducible exact Co.const _)
    | (with_reducible exact laws_eqThingS.L0_co _ _ _)
    | (with_reducible refine Co.ite ?_ ?_)
    | (with_reducible refine Co.bind ?_ (fun _ => ?_))

noncomputable def laws_FnExactWasted.F (l0 : List (S110)) (l1 : List (S71)) : Option (Bool) := lim (fun k => laws_FnExactWasted.f k l0 l1)
theorem laws_FnExactWasted.F_co (l0 : List (S110)) (l1 : List (S71)) : Co (fun k => laws_FnExactWasted.f k l0 l1) (laws_FnExactWasted.F l0 l1) := Co.base (fun k => laws_FnExactWasted.mono _ _ k)
theorem laws_FnExactWasted.F_eq (l0 : List (S110)) (l1 : List (S71)) : laws_FnExactWasted.F l0 l1 = ((laws_szSlotS.f l0 1048576).bind fun t198 => (if t198 < 0 then (some true) else ((laws_szThingS.f l1 t198).bind fun t199 => (if t199 < 0 then (some true) else ((laws_toSlotS.F l0).bind fun t200 => ((laws_toThingS.F l1).bind fun t203 => ((spec_Wasted.F t200 t203).bind fun t206 => ((laws_toSlotS.F l0).bind fun t207 => ((laws_toThingS.F l1).bind fun t210 => ((impl_Wasted.F t207 t210).bind fun t213 => (if t213 = t206 then ((laws_toSlotS.F l0).bind fun t214 => ((laws_eqSlotS.F t207 t214).bind fun t217 => (if t217 = true then ((laws_toThingS.F l1).bind fun t218 => ((laws_eqThingS.F t210 t218).bind fun t221 => (if t221 = true then (some true) else (some false)))) else (some false)))) else (some false)))))))))))) := by
  refine Co.same (laws_FnExactWasted.F_co l0 l1) (h := fun k => ((laws_szSlotS.f l0 1048576).bind fun t198 => (if t198 < 0 then (some true) else ((laws_szThingS.f l1 t198).bind fun t199 => (if t199 < 0 then (some true) else ((laws_toSlotS.f k l0).bind fun t200 => ((laws_toThingS.f k l1).bind fun t203 => ((spec_Wasted.f k t200 t203).bind fun t206 => ((laws_toSlotS.f k l0).bind fun t207 => ((laws_toThingS.f k l1).bind fun t210 => ((impl_Wasted.f k t207 t210).bind fun t213 => (if t213 = t206 then ((laws_toSlotS.f k l0).bind fun t214 => ((laws_eqSlotS.f k t207 t214).bind fun t217 => (if t217 = true then ((laws_toThingS.f k l1).bind fun t218 => ((laws_eqThingS.f k t210 t218).bind fun t221 => (if t221 = true then (some true) else (some false)))) else (some false)))) else (some false))))))))))))) (fun k => by first | rfl | unfold laws_FnExactWasted.f; rfl) ?_
  repeat' first
    | (with_reducible exact Co.const _)
    | (with_reducible exact impl_Wasted.F_co _ _)
    | (with_reducible exact laws_eqSlotS.F_co _ _)
    | (with_reducible exact laws_eqThingS.F_co _ _)
    | (with_reducible exact laws_toSlotS.F_co _)
    | (with_reducible exact laws_toThingS.F_co _)
    | (with_reducible exact spec_Wasted.F_co _ _)
    | (with_reducible refine Co.ite ?_ ?_)
    | (with_reducible refine Co.bind ?_ (fun _ => ?_))

end Go.Proofs.Ytbbfelgojaioaaa.PFnExactWasted.Pure
