/-
  The printed functions that this law reaches, their rounds used up, and the equations that they meet.
-/
import Derived.Test.YtbbfelgojaioaaaPFnExactPutAwayx1
import Derived.Test.YtbbfelgojaioaaaPFnExactPutAwayx2
import Derived.Test.YtbbfelgojaioaaaPFnExactPutAwayx3
import Derived.Test.YtbbfelgojaioaaaPFnExactPutAwayx4
import Derived.Test.YtbbfelgojaioaaaPFnExactPutAwayx5
import Derived.Test.YtbbfelgojaioaaaPFnExactPutAwayx6
import Derived.Test.YtbbfelgojaioaaaPFnExactPutAwayx7
import Derived.Test.YtbbfelgojaioaaaPFnExactPutAwayx8
import Derived.Test.YtbbfelgojaioaaaLim
namespace Go.Proofs.Ytbbfelgojaioaaa.PFnExactPutAway.Pure
open Go.RowKit Go.Proofs.YtbbfelgojaioaaaW.PrintWords Go.Proofs.YtbbfelgojaioaaaW.PrintLast Go.Proofs.YtbbfelgojaioaaaW.PrintMore Go.Proofs.Ytbbfelgojaioaaa.PFnExactPutAway Go.Proofs.Ytbbfelgojaioaaa.Lim
set_option linter.unusedVariables false
set_option maxRecDepth 100000

noncomputable def laws_toSlotS.L0 (x0 : List (S110)) (x3 : List (S95)) (x4 : Int) : Option ((List (S95))) := lim (fun k => laws_toSlotS.l0 k x0 x3 x4)
theorem laws_toSlotS.L0_co (x0 : List (S110)) (x3 : List (S95)) (x4 : Int) : Co (fun k => laws_toSlotS.l0 k x0 x3 x4) (laws_toSlotS.L0 x0 x3 x4) := Co.base (fun k => (laws_toSlotS.mono_l k) _ _ _)
noncomputable def laws_toSlotS.F (l0 : List (S110)) : Option ((List (S95))) := lim (fun k => laws_toSlotS.f k l0)
theorem laws_toSlotS.F_co (l0 : List (S110)) : Co (fun k => laws_toSlotS.f k l0) (laws_toSlotS.F l0) := Co.base (fun k => laws_toSlotS.mono _ k)
theorem laws_toSlotS.L0_eq (x0 : List (S110)) (x3 : List (S95)) (x4 : Int) : laws_toSlotS.L0 x0 x3 x4 = (if x4 < (x0.length : Int) then (if 0 ≤ x4 then ((laws_toSlot.f ((rd_T110 x0 x4).f0) ((rd_T110 x0 x4).f1) ((rd_T110 x0 x4).f2)).bind fun bt108 => (if x4 < (x3.length : Int) then (laws_toSlotS.L0 x0 (x3.set (x4 : Int).toNat (⟨bt108.1, bt108.2.1, bt108.2.2⟩ : S95)) (wrap64 (x4 + 1))) else (none))) else (none)) else (some x3)) := by
  refine Co.step (laws_toSlotS.L0_co x0 x3 x4) (h := fun k => (if x4 < (x0.length : Int) then (if 0 ≤ x4 then ((laws_toSlot.f ((rd_T110 x0 x4).f0) ((rd_T110 x0 x4).f1) ((rd_T110 x0 x4).f2)).bind fun bt108 => (if x4 < (x3.length : Int) then (laws_toSlotS.l0 k x0 (x3.set (x4 : Int).toNat (⟨bt108.1, bt108.2.1, bt108.2.2⟩ : S95)) (wrap64 (x4 + 1))) else (none))) else (none)) else (some x3))) (fun k => by first | rfl | (simp only [laws_toSlotS.l0])) ?_
  repeat' first
    | (with_reducible exact Co.const _)
    | (with_reducible exact laws_toSlotS.L0_co _ _ _)
    | (with_reducible refine Co.ite ?_ ?_)
    | (with_reducible refine Co.bind ?_ (fun _ => ?_))
theorem laws_toSlotS.F_eq (l0 : List (S110)) : laws_toSlotS.F l0 = (if 0 ≤ (l0.length : Int) then (if ((l0.length : Int) : Int).toNat ≤ 11728124029610 then (laws_toSlotS.L0 l0 (List.replicate ((l0.length : Int) : Int).toNat z95) 0) else (none)) else (none)) := by
  refine Co.same (laws_toSlotS.F_co l0) (h := fun k => (if 0 ≤ (l0.length : Int) then (if ((l0.length : Int) : Int).toNat ≤ 11728124029610 then (laws_toSlotS.l0 k l0 (List.replicate ((l0.length : Int) : Int).toNat z95) 0) else (none)) else (none))) (fun k => by first | rfl | unfold laws_toSlotS.f; rfl) ?_
  repeat' first
    | (with_reducible exact Co.const _)
    | (with_reducible exact laws_toSlotS.L0_co _ _ _)
    | (with_reducible refine Co.ite ?_ ?_)
    | (with_reducible refine Co.bind ?_ (fun _ => ?_))

noncomputable def laws_eqSlotS.L0 (x0 : List (S95)) (x1 : List (S95)) (x5 : Int) : Option (Bool) := lim (fun k => laws_eqSlotS.l0 k x0 x1 x5)
theorem laws_eqSlotS.L0_co (x0 : List (S95)) (x1 : List (S95)) (x5 : Int) : Co (fun k => laws_eqSlotS.l0 k x0 x1 x5) (laws_eqSlotS.L0 x0 x1 x5) := Co.base (fun k => (laws_eqSlotS.mono_l k) _ _ _)
noncomputable def laws_eqSlotS.F (l0 : List (S95)) (l1 : List (S95)) : Option (Bool) := lim (fun k => laws_eqSlotS.f k l0 l1)
theorem laws_eqSlotS.F_co (l0 : List (S95)) (l1 : List (S95)) : Co (fun k => laws_eqSlotS.f k l0 l1) (laws_eqSlotS.F l0 l1) := Co.base (fun k => laws_eqSlotS.mono _ _ k)
theorem laws_eqSlotS.L0_eq (x0 : List (S95)) (x1 : List (S95)) (x5 : Int) : laws_eqSlotS.L0 x0 x1 x5 = (if x5 < (x0.length : Int) then (if 0 ≤ x5 then (if x5 < (x1.length : Int) then ((laws_eqSlot.f ((rd_T95 x0 x5).f0) ((rd_T95 x0 x5).f1) ((rd_T95 x0 x5).f2) ((rd_T95 x1 x5).f0) ((rd_T95 x1 x5).f1) ((rd_T95 x1 x5).f2)).bind fun t116 => (if t116 = true then (laws_eqSlotS.L0 x0 x1 (wrap64 (x5 + 1))) else (some false))) else (none)) else (none)) else (some true)) := by
  refine Co.step (laws_eqSlotS.L0_co x0 x1 x5) (h := fun k => (if x5 < (x0.length : Int) then (if 0 ≤ x5 then (if x5 < (x1.length : Int) then ((laws_eqSlot.f ((rd_T95 x0 x5).f0) ((rd_T95 x0 x5).f1) ((rd_T95 x0 x5).f2) ((rd_T95 x1 x5).f0) ((rd_T95 x1 x5).f1) ((rd_T95 x1 x5).f2)).bind fun t116 => (if t116 = true then (laws_eqSlotS.l0 k x0 x1 (wrap64 (x5 + 1))) else (some false))) else (none)) else (none)) else (some true))) (fun k => by first | rfl | (simp only [laws_eqSlotS.l0])) ?_
  repeat' first
    | (with_reducible exact Co.const _)
    | (with_reducible exact laws_eqSlotS.L0_co _ _ _)
    | (with_reducible refine Co.ite ?_ ?_)
    | (with_reducible refine Co.bind ?_ (fun _ => ?_))
theorem laws_eqSlotS.F_eq (l0 : List (S95)) (l1 : List (S95)) : laws_eqSlotS.F l0 l1 = (if (l0.length : Int) = (l1.length : Int) then (laws_eqSlotS.L0 l0 l1 0) else (some false)) := by
  refine Co.same (laws_eqSlotS.F_co l0 l1) (h := fun k => (if (l0.length : Int) = (l1.length : Int) then (laws_eqSlotS.l0 k l0 l1 0) else (some false))) (fun k => by first | rfl | unfold laws_eqSlotS.f; rfl) ?_
  repeat' first
    | (with_reducible exact Co.const _)
    | (with_reducible exact laws_eqSlotS.L0_co _ _ _)
    | (with_reducible refine Co.ite ?_ ?_)
    | (with_reducible refine Co.bind ?_ (fun _ => ?_))

noncomputable def laws_markSlotS.L0 (x0 : List (S95)) (x1 : Int) (x5 : Int) : Option (Int × (List (S95))) := lim (fun k => laws_markSlotS.l0 k x0 x1 x5)
theorem laws_markSlotS.L0_co (x0 : List (S95)) (x1 : Int) (x5 : Int) : Co (fun k => laws_markSlotS.l0 k x0 x1 x5) (laws_markSlotS.L0 x0 x1 x5) := Co.base (fun k => (laws_markSlotS.mono_l k) _ _ _)
noncomputable def laws_markSlotS.F (l0 : List (S95)) (a1 : Int) : Option (Int × (List (S95))) := lim (fun k => laws_markSlotS.f k l0 a1)
theorem laws_markSlotS.F_co (l0 : List (S95)) (a1 : Int) : Co (fun k => laws_markSlotS.f k l0 a1) (laws_markSlotS.F l0 a1) := Co.base (fun k => laws_markSlotS.mono _ _ k)
theorem laws_markSlotS.L0_eq (x0 : List (S95)) (x1 : Int) (x5 : Int) : laws_markSlotS.L0 x0 x1 x5 = (if x5 < (x0.length : Int) then (if 0 ≤ x5 then ((some (x0.set (x5 : Int).toNat (⟨x1, (rd_T95 x0 x5).f1, (rd_T95 x0 x5).f2⟩ : S95) : List (S95))).bind fun y117 => ((some (y117.set (x5 : Int).toNat (⟨(rd_T95 y117 x5).f0, wrap64 (x1 + 1), (rd_T95 y117 x5).f2⟩ : S95) : List (S95))).bind fun y118 => (laws_markSlotS.L0 (y118.set (x5 : Int).toNat (⟨(rd_T95 y118 x5).f0, (rd_T95 y118 x5).f1, wrap64 ((wrap64 (x1 + 1)) + 1)⟩ : S95)) (wrap64 ((wrap64 ((wrap64 (x1 + 1)) + 1)) + 1)) (wrap64 (x5 + 1))))) else (none)) else (some (x1, x0))) := by
  refine Co.step (laws_markSlotS.L0_co x0 x1 x5) (h := fun k => (if x5 < (x0.length : Int) then (if 0 ≤ x5 then ((some (x0.set (x5 : Int).toNat (⟨x1, (rd_T95 x0 x5).f1, (rd_T95 x0 x5).f2⟩ : S95) : List (S95))).bind fun y117 => ((some (y117.set (x5 : Int).toNat (⟨(rd_T95 y117 x5).f0, wrap64 (x1 + 1), (rd_T95 y117 x5).f2⟩ : S95) : List (S95))).bind fun y118 => (laws_markSlotS.l0 k (y118.set (x5 : Int).toNat (⟨(rd_T95 y118 x5).f0, (rd_T95 y118 x5).f1, wrap64 ((wrap64 (x1 + 1)) + 1)⟩ : S95)) (wrap64 ((wrap64 ((wrap64 (x1 + 1)) + 1)) + 1)) (wrap64 (x5 + 1))))) else (none)) else (some (x1, x0)))) (fun k => by first | rfl | (simp only [laws_markSlotS.l0])) ?_
  repeat' first
    | (with_reducible exact Co.const _)
    | (with_reducible exact laws_markSlotS.L0_co _ _ _)
    | (with_reducible refine Co.ite ?_ ?_)
    | (with_reducible refine Co.bind ?_ (fun _ => ?_))
theorem laws_markSlotS.F_eq (l0 : List (S95)) (a1 : Int) : laws_markSlotS.F l0 a1 = (laws_markSlotS.L0 l0 a1 0) := by
  refine Co.same (laws_markSlotS.F_co l0 a1) (h := fun k => (laws_markSlotS.l0 k l0 a1 0)) (fun k => by first | rfl | unfold laws_markSlotS.f; rfl) ?_
  repeat' first
    | (with_reducible exact Co.const _)
    | (with_reducible exact laws_markSlotS.L0_co _ _ _)
    | (with_reducible refine Co.ite ?_ ?_)
    | (with_reducible refine Co.bind ?_ (fun _ => ?_))

noncomputable def laws_heldSlotS.L0 (x0 : List (S95)) (x1 : Int) (x5 : Int) : Option (Int) := lim (fun k => laws_heldSlotS.l0 k x0 x1 x5)
theorem laws_heldSlotS.L0_co (x0 : List (S95)) (x1 : Int) (x5 : Int) : Co (fun k => laws_heldSlotS.l0 k x0 x1 x5) (laws_heldSlotS.L0 x0 x1 x5) := Co.base (fun k => (laws_heldSlotS.mono_l k) _ _ _)
noncomputable def laws_heldSlotS.F (l0 : List (S95)) (a1 : Int) : Option (Int) := lim (fun k => laws_heldSlotS.f k l0 a1)
theorem laws_heldSlotS.F_co (l0 : List (S95)) (a1 : Int) : Co (fun k => laws_heldSlotS.f k l0 a1) (laws_heldSlotS.F l0 a1) := Co.base (fun k => laws_heldSlotS.mono _ _ k)
theorem laws_heldSlotS.L0_eq (x0 : List (S95)) (x1 : Int) (x5 : Int) : laws_heldSlotS.L0 x0 x1 x5 = (if x5 < (x0.length : Int) then (if 0 ≤ x5 then (if ((rd_T95 x0 x5).f0) = x1 then (if ((rd_T95 x0 x5).f1) = (wrap64 (x1 + 1)) then (if ((rd_T95 x0 x5).f2) = (wrap64 ((wrap64 (x1 + 1)) + 1)) then (laws_heldSlotS.L0 x0 (wrap64 ((wrap64 ((wrap64 (x1 + 1)) + 1)) + 1)) (wrap64 (x5 + 1))) else (some (-1))) else (some (-1))) else (some (-1))) else (none)) else (some x1)) := by
  refine Co.step (laws_heldSlotS.L0_co x0 x1 x5) (h := fun k => (if x5 < (x0.length : Int) then (if 0 ≤ x5 then (if ((rd_T95 x0 x5).f0) = x1 then (if ((rd_T95 x0 x5).f1) = (wrap64 (x1 + 1)) then (if ((rd_T95 x0 x5).f2) = (wrap64 ((wrap64 (x1 + 1)) + 1)) then (laws_heldSlotS.l0 k x0 (wrap64 ((wrap64 ((wrap64 (x1 + 1)) + 1)) + 1)) (wrap64 (x5 + 1))) else (some (-1))) else (some (-1))) else (some (-1))) else (none)) else (some x1))) (fun k => by first | rfl | (simp only [laws_heldSlotS.l0])) ?_
  repeat' first
    | (with_reducible exact Co.const _)
    | (with_reducible exact laws_heldSlotS.L0_co _ _ _)
    | (with_reducible refine Co.ite ?_ ?_)
    | (with_reducible refine Co.bind ?_ (fun _ => ?_))
theorem laws_heldSlotS.F_eq (l0 : List (S95)) (a1 : Int) : laws_heldSlotS.F l0 a1 = (laws_heldSlotS.L0 l0 a1 0) := by
  refine Co.same (laws_heldSlotS.F_co l0 a1) (h := fun k => (laws_heldSlotS.l0 k l0 a1 0)) (fun k => by first | rfl | unfold laws_heldSlotS.f; rfl) ?_
  repeat' first
    | (with_reducible exact Co.const _)
    | (with_reducible exact laws_heldSlotS.L0_co _ _ _)
    | (with_reducible refine Co.ite ?_ ?_)
    | (with_reducible refine Co.bind ?_ (fun _ => ?_))

noncomputable def spec_SlotOf.L0 (x0 : List (S95)) (x1 : Int) (x5 : Int) : Option (Int) := lim (fun k => spec_SlotOf.l0 k x0 x1 x5)
theorem spec_SlotOf.L0_co (x0 : List (S95)) (x1 : Int) (x5 : Int) : Co (fun k => spec_SlotOf.l0 k x0 x1 x5) (spec_SlotOf.L0 x0 x1 x5) := Co.base (fun k => (spec_SlotOf.mono_l k) _ _ _)
noncomputable def spec_SlotOf.F (l0 : List (S95)) (a1 : Int) : Option (Int) := lim (fun k => spec_SlotOf.f k l0 a1)
theorem spec_SlotOf.F_co (l0 : List (S95)) (a1 : Int) : Co (fun k => spec_SlotOf.f k l0 a1) (spec_SlotOf.F l0 a1) := Co.base (fun k => spec_SlotOf.mono _ _ k)
theorem spec_SlotOf.L0_eq (x0 : List (S95)) (x1 : Int) (x5 : Int) : spec_SlotOf.L0 x0 x1 x5 = (if x5 < (x0.length : Int) then (if x1 = 0 then (spec_SlotOf.L0 x0 x1 (wrap64 (x5 + 1))) else (if 0 ≤ x5 then (if ((rd_T95 x0 x5).f2) = x1 then (some ((rd_T95 x0 x5).f0)) else (spec_SlotOf.L0 x0 x1 (wrap64 (x5 + 1)))) else (none))) else (some 0)) := by
  refine Co.step (spec_SlotOf.L0_co x0 x1 x5) (h := fun k => (if x5 < (x0.length : Int) then (if x1 = 0 then (spec_SlotOf.l0 k x0 x1 (wrap64 (x5 + 1))) else (if 0 ≤ x5 then (if ((rd_T95 x0 x5).f2) = x1 then (some ((rd_T95 x0 x5).f0)) else (spec_SlotOf.l0 k x0 x1 (wrap64 (x5 + 1)))) else (none))) else (some 0))) (fun k => by first | rfl | (simp only [spec_SlotOf.l0])) ?_
  repeat' first
    | (with_reducible exact Co.const _)
    | (with_reducible exact spec_SlotOf.L0_co _ _ _)
    | (with_reducible refine Co.ite ?_ ?_)
    | (with_reducible refine Co.bind ?_ (fun _ => ?_))
theorem spec_SlotOf.F_eq (l0 : List (S95)) (a1 : Int) : spec_SlotOf.F l0 a1 = (spec_SlotOf.L0 l0 a1 0) := by
  refine Co.same (spec_SlotOf.F_co l0 a1) (h := fun k => (spec_SlotOf.l0 k l0 a1 0)) (fun k => by first | rfl | unfold spec_SlotOf.f; rfl) ?_
  repeat' first
    | (with_reducible exact Co.const _)
    | (with_reducible exact spec_SlotOf.L0_co _ _ _)
    | (with_reducible refine Co.ite ?_ ?_)
    | (with_reducible refine Co.bind ?_ (fun _ => ?_))

noncomputable def spec_AreSlots.L0 (x0 : List (S95)) (x3 : Int) : Option (Bool) := lim (fun k => spec_AreSlots.l0 k x0 x3)
theorem spec_AreSlots.L0_co (x0 : List (S95)) (x3 : Int) : Co (fun k => spec_AreSlots.l0 k x0 x3) (spec_AreSlots.L0 x0 x3) := Co.base (fun k => (spec_AreSlots.mono_l k).1 _ _)
noncomputable def spec_AreSlots.J1 (x0 : List (S95)) (x3 : Int) (x53 : Bool) : Option (Bool) := lim (fun k => spec_AreSlots.j1 k x0 x3 x53)
theorem spec_AreSlots.J1_co (x0 : List (S95)) (x3 : Int) (x53 : Bool) : Co (fun k => spec_AreSlots.j1 k x0 x3 x53) (spec_AreSlots.J1 x0 x3 x53) := Co.base (fun k => (spec_AreSlots.mono_l k).2.1 _ _ _)
noncomputable def spec_AreSlots.L1 (x0 : List (S95)) (x3 : Int) (x4 : Int) : Option (Bool) := lim (fun k => spec_AreSlots.l1 k x0 x3 x4)
theorem spec_AreSlots.L1_co (x0 : List (S95)) (x3 : Int) (x4 : Int) : Co (fun k => spec_AreSlots.l1 k x0 x3 x4) (spec_AreSlots.L1 x0 x3 x4) := Co.base (fun k => (spec_AreSlots.mono_l k).2.2 _ _ _)
noncomputable def spec_AreSlots.F (l0 : List (S95)) : Option (Bool) := lim (fun k => spec_AreSlots.f k l0)
theorem spec_AreSlots.F_co (l0 : List (S95)) : Co (fun k => spec_AreSlots.f k l0) (spec_AreSlots.F l0) := Co.base (fun k => spec_AreSlots.mono _ k)
theorem spec_AreSlots.L0_eq (x0 : List (S95)) (x3 : Int) : spec_AreSlots.L0 x0 x3 = (if x3 < (x0.length : Int) then (if 0 ≤ x3 then ((spec_l1In.f ((rd_T95 x0 x3).f0) 1 99).bind fun t126 => (if t126 = true then ((spec_l1In.f ((rd_T95 x0 x3).f1) 1 50).bind fun t128 => (if t128 = true then ((spec_l1In.f ((rd_T95 x0 x3).f2) 0 999).bind fun t130 => (if t130 = true then (if x3 > 0 then (if 0 ≤ (wrap64 (x3 - 1)) then (if (wrap64 (x3 - 1)) < (x0.length : Int) then (spec_AreSlots.J1 x0 x3 (decide (((rd_T95 x0 (wrap64 (x3 - 1))).f0) ≥ ((rd_T95 x0 x3).f0)))) else (none)) else (none)) else (spec_AreSlots.J1 x0 x3 false)) else (spec_AreSlots.J1 x0 x3 true))) else (spec_AreSlots.J1 x0 x3 true))) else (spec_AreSlots.J1 x0 x3 true))) else (none)) else (some (decide ((x0.length : Int) ≤ 30)))) := by
  refine Co.step (spec_AreSlots.L0_co x0 x3) (h := fun k => (if x3 < (x0.length : Int) then (if 0 ≤ x3 then ((spec_l1In.f ((rd_T95 x0 x3).f0) 1 99).bind fun t126 => (if t126 = true then ((spec_l1In.f ((rd_T95 x0 x3).f1) 1 50).bind fun t128 => (if t128 = true then ((spec_l1In.f ((rd_T95 x0 x3).f2) 0 999).bind fun t130 => (if t130 = true then (if x3 > 0 then (if 0 ≤ (wrap64 (x3 - 1)) then (if (wrap64 (x3 - 1)) < (x0.length : Int) then (spec_AreSlots.j1 k x0 x3 (decide (((rd_T95 x0 (wrap64 (x3 - 1))).f0) ≥ ((rd_T95 x0 x3).f0)))) else (none)) else (none)) else (spec_AreSlots.j1 k x0 x3 false)) else (spec_AreSlots.j1 k x0 x3 true))) else (spec_AreSlots.j1 k x0 x3 true))) else (spec_AreSlots.j1 k x0 x3 true))) else (none)) else (some (decide ((x0.length : Int) ≤ 30))))) (fun k => by first | rfl | (simp only [spec_AreSlots.l0])) ?_
  repeat' first
    | (with_reducible exact Co.const _)
    | (with_reducible exact spec_AreSlots.J1_co _ _ _)
    | (with_reducible refine Co.ite ?_ ?_)
    | (with_reducible refine Co.bind ?_ (fun _ => ?_))
theorem spec_AreSlots.J1_eq (x0 : List (S95)) (x3 : Int) (x53 : Bool) : spec_AreSlots.J1 x0 x3 x53 = (if x53 = true then (some false) else (spec_AreSlots.L1 x0 x3 0)) := by
  refine Co.step (spec_AreSlots.J1_co x0 x3 x53) (h := fun k => (if x53 = true then (some false) else (spec_AreSlots.l1 k x0 x3 0))) (fun k => by first | rfl | (simp only [spec_AreSlots.j1])) ?_
  repeat' first
    | (with_reducible exact Co.const _)
    | (with_reducible exact spec_AreSlots.L1_co _ _ _)
    | (with_reducible refine Co.ite ?_ ?_)
    | (with_reducible refine Co.bind ?_ (fun _ => ?_))
theorem spec_AreSlots.L1_eq (x0 : List (S95)) (x3 : Int) (x4 : Int) : spec_AreSlots.L1 x0 x3 x4 = (if x4 < x3 then (if 0 ≤ x3 then (if x3 < (x0.length : Int) then (if ((rd_T95 x0 x3).f2) = 0 then (spec_AreSlots.L1 x0 x3 (wrap64 (x4 + 1))) else (if 0 ≤ x4 then (if x4 < (x0.length : Int) then (if ((rd_T95 x0 x4).f2) = ((rd_T95 x0 x3).f2) then (some false) else (spec_AreSlots.L1 x0 x3 (wrap64 (x4 + 1)))) else (none)) else (none))) else (none)) else (none)) else (spec_AreSlots.L0 x0 (wrap64 (x3 + 1)))) := by
  refine Co.step (spec_AreSlots.L1_co x0 x3 x4) (h := fun k => (if x4 < x3 then (if 0 ≤ x3 then (if x3 < (x0.length : Int) then (if ((rd_T95 x0 x3).f2) = 0 then (spec_AreSlots.l1 k x0 x3 (wrap64 (x4 + 1))) else (if 0 ≤ x4 then (if x4 < (x0.length : Int) then (if ((rd_T95 x0 x4).f2) = ((rd_T95 x0 x3).f2) then (some false) else (spec_AreSlots.l1 k x0 x3 (wrap64 (x4 + 1)))) else (none)) else (none))) else (none)) else (none)) else (spec_AreSlots.l0 k x0 (wrap64 (x3 + 1))))) (fun k => by first | rfl | (simp only [spec_AreSlots.l1])) ?_
  repeat' first
    | (with_reducible exact Co.const _)
    | (with_reducible exact spec_AreSlots.L0_co _ _)
    | (with_reducible exact spec_AreSlots.L1_co _ _ _)
    | (with_reducible refine Co.ite ?_ ?_)
    | (with_reducible refine Co.bind ?_ (fun _ => ?_))
theorem spec_AreSlots.F_eq (l0 : List (S95)) : spec_AreSlots.F l0 = (spec_AreSlots.L0 l0 0) := by
  refine Co.same (spec_AreSlots.F_co l0) (h := fun k => (spec_AreSlots.l0 k l0 0)) (fun k => by first | rfl | unfold spec_AreSlots.f; rfl) ?_
  repeat' first
    | (with_reducible exact Co.const _)
    | (with_reducible exact spec_AreSlots.L0_co _ _)
    | (with_reducible refine Co.ite ?_ ?_)
    | (with_reducible refine Co.bind ?_ (fun _ => ?_))

noncomputable def spec_SmallestFree.L0 (x0 : List (S95)) (x1 : Int) (x5 : Int) (x6 : Int) : Option (Int) := lim (fun k => spec_SmallestFree.l0 k x0 x1 x5 x6)
theorem spec_SmallestFree.L0_co (x0 : List (S95)) (x1 : Int) (x5 : Int) (x6 : Int) : Co (fun k => spec_SmallestFree.l0 k x0 x1 x5 x6) (spec_SmallestFree.L0 x0 x1 x5 x6) := Co.base (fun k => (spec_SmallestFree.mono_l k) _ _ _ _)
noncomputable def spec_SmallestFree.F (l0 : List (S95)) (a1 : Int) : Option (Int) := lim (fun k => spec_SmallestFree.f k l0 a1)
theorem spec_SmallestFree.F_co (l0 : List (S95)) (a1 : Int) : Co (fun k => spec_SmallestFree.f k l0 a1) (spec_SmallestFree.F l0 a1) := Co.base (fun k => spec_SmallestFree.mono _ _ k)
theorem spec_SmallestFree.L0_eq (x0 : List (S95)) (x1 : Int) (x5 : Int) (x6 : Int) : spec_SmallestFree.L0 x0 x1 x5 x6 = (if x6 < (x0.length : Int) then (if 0 ≤ x6 then (if ((rd_T95 x0 x6).f2) = 0 then (if ((rd_T95 x0 x6).f1) ≥ x1 then (if x5 < 0 then (spec_SmallestFree.L0 x0 x1 x6 (wrap64 (x6 + 1))) else (if 0 ≤ x5 then (if x5 < (x0.length : Int) then (if ((rd_T95 x0 x6).f1) < ((rd_T95 x0 x5).f1) then (spec_SmallestFree.L0 x0 x1 x6 (wrap64 (x6 + 1))) else (spec_SmallestFree.L0 x0 x1 x5 (wrap64 (x6 + 1)))) else (none)) else (none))) else (spec_SmallestFree.L0 x0 x1 x5 (wrap64 (x6 + 1)))) else (spec_SmallestFree.L0 x0 x1 x5 (wrap64 (x6 + 1)))) else (none)) else (if x5 < 0 then (some 0) else (if 0 ≤ x5 then (if x5 < (x0.length : Int) then (some ((rd_T95 x0 x5).f0)) else (none)) else (none)))) := by
  refine Co.step (spec_SmallestFree.L0_co x0 x1 x5 x6) (h := fun k => (if x6 < (x0.length : Int) then (if 0 ≤ x6 then (if ((rd_T95 x0 x6).f2) = 0 then (if ((rd_T95 x0 x6).f1) ≥ x1 then (if x5 < 0 then (spec_SmallestFree.l0 k x0 x1 x6 (wrap64 (x6 + 1))) else (if 0 ≤ x5 then (if x5 < (x0.length : Int) then (if ((rd_T95 x0 x6).f1) < ((rd_T95 x0 x5).f1) then (spec_SmallestFree.l0 k x0 x1 x6 (wrap64 (x6 + 1))) else (spec_SmallestFree.l0 k x0 x1 x5 (wrap64 (x6 + 1)))) else (none)) else (none))) else (spec_SmallestFree.l0 k x0 x1 x5 (wrap64 (x6 + 1)))) else (spec_SmallestFree.l0 k x0 x1 x5 (wrap64 (x6 + 1)))) else (none)) else (if x5 < 0 then (some 0) else (if 0 ≤ x5 then (if x5 < (x0.length : Int) then (some ((rd_T95 x0 x5).f0)) else (none)) else (none))))) (fun k => by first | rfl | (simp only [spec_SmallestFree.l0])) ?_
  repeat' first
    | (with_reducible exact Co.const _)
    | (with_reducible exact spec_SmallestFree.L0_co _ _ _ _)
    | (with_reducible refine Co.ite ?_ ?_)
    | (with_reducible refine Co.bind ?_ (fun _ => ?_))
theorem spec_SmallestFree.F_eq (l0 : List (S95)) (a1 : Int) : spec_SmallestFree.F l0 a1 = (spec_SmallestFree.L0 l0 a1 (-1) 0) := by
  refine Co.same (spec_SmallestFree.F_co l0 a1) (h := fun k => (spec_SmallestFree.l0 k l0 a1 (-1) 0)) (fun k => by first | rfl | unfold spec_SmallestFree.f; rfl) ?_
  repeat' first
    | (with_reducible exact Co.const _)
    | (with_reducible exact spec_SmallestFree.L0_co _ _ _ _)
    | (with_reducible refine Co.ite ?_ ?_)
    | (with_reducible refine Co.bind ?_ (fun _ => ?_))

noncomputable def spec_PutAway.J0 (x6 : List (S95)) (x7 : Int) (x34 : Bool) (x148000 : Int) (x148001 : Int) (x148002 : Int) (x148003 : Int) (x148004 : Int) : Option ((List (S95)) × Bool) := lim (fun k => spec_PutAway.j0 k x6 x7 x34 x148000 x148001 x148002 x148003 x148004)
theorem spec_PutAway.J0_co (x6 : List (S95)) (x7 : Int) (x34 : Bool) (x148000 : Int) (x148001 : Int) (x148002 : Int) (x148003 : Int) (x148004 : Int) : Co (fun k => spec_PutAway.j0 k x6 x7 x34 x148000 x148001 x148002 x148003 x148004) (spec_PutAway.J0 x6 x7 x34 x148000 x148001 x148002 x148003 x148004) := Co.base (fun k => (spec_PutAway.mono_l k).1 _ _ _ _ _ _ _ _)
noncomputable def spec_PutAway.L0 (x6 : List (S95)) (x7 : Int) (x8 : Int) (x148000 : Int) (x148001 : Int) (x148002 : Int) (x148003 : Int) (x148004 : Int) : Option ((List (S95)) × Bool) := lim (fun k => spec_PutAway.l0 k x6 x7 x8 x148000 x148001 x148002 x148003 x148004)
theorem spec_PutAway.L0_co (x6 : List (S95)) (x7 : Int) (x8 : Int) (x148000 : Int) (x148001 : Int) (x148002 : Int) (x148003 : Int) (x148004 : Int) : Co (fun k => spec_PutAway.l0 k x6 x7 x8 x148000 x148001 x148002 x148003 x148004) (spec_PutAway.L0 x6 x7 x8 x148000 x148001 x148002 x148003 x148004) := Co.base (fun k => (spec_PutAway.mono_l k).2 _ _ _ _ _ _ _ _)
noncomputable def spec_PutAway.F (l0 : List (S95)) (a1_0 : Int) (a1_1 : Int) (a1_2 : Int) (a1_3 : Int) (a1_4 : Int) : Option ((List (S95)) × Bool) := lim (fun k => spec_PutAway.f k l0 a1_0 a1_1 a1_2 a1_3 a1_4)
theorem spec_PutAway.F_co (l0 : List (S95)) (a1_0 : Int) (a1_1 : Int) (a1_2 : Int) (a1_3 : Int) (a1_4 : Int) : Co (fun k => spec_PutAway.f k l0 a1_0 a1_1 a1_2 a1_3 a1_4) (spec_PutAway.F l0 a1_0 a1_1 a1_2 a1_3 a1_4) := Co.base (fun k => spec_PutAway.mono _ _ _ _ _ _ k)
theorem spec_PutAway.J0_eq (x6 : List (S95)) (x7 : Int) (x34 : Bool) (x148000 : Int) (x148001 : Int) (x148002 : Int) (x148003 : Int) (x148004 : Int) : spec_PutAway.J0 x6 x7 x34 x148000 x148001 x148002 x148003 x148004 = (if x34 = true then (some (x6, false)) else (spec_PutAway.L0 x6 x7 0 x148000 x148001 x148002 x148003 x148004)) := by
  refine Co.step (spec_PutAway.J0_co x6 x7 x34 x148000 x148001 x148002 x148003 x148004) (h := fun k => (if x34 = true then (some (x6, false)) else (spec_PutAway.l0 k x6 x7 0 x148000 x148001 x148002 x148003 x148004))) (fun k => by first | rfl | (simp only [spec_PutAway.j0])) ?_
  repeat' first
    | (with_reducible exact Co.const _)
    | (with_reducible exact spec_PutAway.L0_co _ _ _ _ _ _ _ _)
    | (with_reducible refine Co.ite ?_ ?_)
    | (with_reducible refine Co.bind ?_ (fun _ => ?_))
theorem spec_PutAway.L0_eq (x6 : List (S95)) (x7 : Int) (x8 : Int) (x148000 : Int) (x148001 : Int) (x148002 : Int) (x148003 : Int) (x148004 : Int) : spec_PutAway.L0 x6 x7 x8 x148000 x148001 x148002 x148003 x148004 = (if x8 < (x6.length : Int) then (if 0 ≤ x8 then (if ((rd_T95 x6 x8).f0) = x7 then (spec_PutAway.L0 (x6.set (x8 : Int).toNat (⟨(rd_T95 x6 x8).f0, (rd_T95 x6 x8).f1, x148000⟩ : S95)) x7 (wrap64 (x8 + 1)) x148000 x148001 x148002 x148003 x148004) else (spec_PutAway.L0 x6 x7 (wrap64 (x8 + 1)) x148000 x148001 x148002 x148003 x148004)) else (none)) else (some (x6, true))) := by
  refine Co.step (spec_PutAway.L0_co x6 x7 x8 x148000 x148001 x148002 x148003 x148004) (h := fun k => (if x8 < (x6.length : Int) then (if 0 ≤ x8 then (if ((rd_T95 x6 x8).f0) = x7 then (spec_PutAway.l0 k (x6.set (x8 : Int).toNat (⟨(rd_T95 x6 x8).f0, (rd_T95 x6 x8).f1, x148000⟩ : S95)) x7 (wrap64 (x8 + 1)) x148000 x148001 x148002 x148003 x148004) else (spec_PutAway.l0 k x6 x7 (wrap64 (x8 + 1)) x148000 x148001 x148002 x148003 x148004)) else (none)) else (some (x6, true)))) (fun k => by first | rfl | (simp only [spec_PutAway.l0])) ?_
  repeat' first
    | (with_reducible exact Co.const _)
    | (with_reducible exact spec_PutAway.L0_co _ _ _ _ _ _ _ _)
    | (with_reducible refine Co.ite ?_ ?_)
    | (with_reducible refine Co.bind ?_ (fun _ => ?_))
theorem spec_PutAway.F_eq (l0 : List (S95)) (a1_0 : Int) (a1_1 : Int) (a1_2 : Int) (a1_3 : Int) (a1_4 : Int) : spec_PutAway.F l0 a1_0 a1_1 a1_2 a1_3 a1_4 = ((some (([] : List (S95)) : List (S95))).bind fun y148 => (if y148.length + l0.length < 5864062014805 then ((some (y148 ++ l0 : List (S95))).bind fun y151 => ((spec_SmallestFree.F l0 a1_3).bind fun t154 => ((spec_AreSlots.F l0).bind fun t155 => (if t155 = true then ((spec_IsThing.f a1_0 a1_1 a1_2 a1_3 a1_4).bind fun t156 => (if t156 = true then (if t154 = 0 then (spec_PutAway.J0 y151 t154 true a1_0 a1_1 a1_2 a1_3 a1_4) else ((spec_SlotOf.F l0 a1_0).bind fun t157 => (spec_PutAway.J0 y151 t154 (t157 != 0) a1_0 a1_1 a1_2 a1_3 a1_4))) else (spec_PutAway.J0 y151 t154 true a1_0 a1_1 a1_2 a1_3 a1_4))) else (spec_PutAway.J0 y151 t154 true a1_0 a1_1 a1_2 a1_3 a1_4))))) else (none))) := by
  refine Co.same (spec_PutAway.F_co l0 a1_0 a1_1 a1_2 a1_3 a1_4) (h := fun k => ((some (([] : List (S95)) : List (S95))).bind fun y148 => (if y148.length + l0.length < 5864062014805 then ((some (y148 ++ l0 : List (S95))).bind fun y151 => ((spec_SmallestFree.f k l0 a1_3).bind fun t154 => ((spec_AreSlots.f k l0).bind fun t155 => (if t155 = true then ((spec_IsThing.f a1_0 a1_1 a1_2 a1_3 a1_4).bind fun t156 => (if t156 = true then (if t154 = 0 then (spec_PutAway.j0 k y151 t154 true a1_0 a1_1 a1_2 a1_3 a1_4) else ((spec_SlotOf.f k l0 a1_0).bind fun t157 => (spec_PutAway.j0 k y151 t154 (t157 != 0) a1_0 a1_1 a1_2 a1_3 a1_4))) else (spec_PutAway.j0 k y151 t154 true a1_0 a1_1 a1_2 a1_3 a1_4))) else (spec_PutAway.j0 k y151 t154 true a1_0 a1_1 a1_2 a1_3 a1_4))))) else (none)))) (fun k => by first | rfl | unfold spec_PutAway.f; rfl) ?_
  repeat' first
    | (with_reducible exact Co.const _)
    | (with_reducible exact spec_AreSlots.F_co _)
    | (with_reducible exact spec_PutAway.J0_co _ _ _ _ _ _ _ _)
    | (with_reducible exact spec_SlotOf.F_co _ _)
    | (with_reducible exact spec_SmallestFree.F_co _ _)
    | (with_reducible refine Co.ite ?_ ?_)
    | (with_reducible refine Co.bind ?_ (fun _ => ?_))

noncomputable def impl_AreSlots.L0 (x0 : List (S95)) (x8 : List (S95)) (x9 : Int) (x10 : Int) : Option (Bool) := lim (fun k => impl_AreSlots.l0 k x0 x8 x9 x10)
theorem impl_AreSlots.L0_co (x0 : List (S95)) (x8 : List (S95)) (x9 : Int) (x10 : Int) : Co (fun k => impl_AreSlots.l0 k x0 x8 x9 x10) (impl_AreSlots.L0 x0 x8 x9 x10) := Co.base (fun k => (impl_AreSlots.mono_l k) _ _ _ _)
noncomputable def impl_AreSlots.F (l0 : List (S95)) : Option (Bool) := lim (fun k => impl_AreSlots.f k l0)
theorem impl_AreSlots.F_co (l0 : List (S95)) : Co (fun k => impl_AreSlots.f k l0) (impl_AreSlots.F l0) := Co.base (fun k => impl_AreSlots.mono _ k)
theorem impl_AreSlots.L0_eq (x0 : List (S95)) (x8 : List (S95)) (x9 : Int) (x10 : Int) : impl_AreSlots.L0 x0 x8 x9 x10 = (if x10 < x9 then (if 0 ≤ x10 then (if x10 < (x8.length : Int) then ((impl_InRange.f ((rd_T95 x8 x10).f0) 1 99).bind fun t167 => (if t167 = true then (if x10 > 0 then (if 0 ≤ (wrap64 (x10 - 1)) then (if (wrap64 (x10 - 1)) < (x0.length : Int) then (if ((rd_T95 x8 x10).f0) ≤ ((rd_T95 x0 (wrap64 (x10 - 1))).f0) then (some false) else ((impl_InRange.f ((rd_T95 x8 x10).f1) 1 50).bind fun t169 => (if t169 = true then ((impl_InRange.f ((rd_T95 x8 x10).f2) 0 999).bind fun t170 => (if t170 = true then (if x10 ≤ (x0.length : Int) then ((impl_SlotOf.f (x0.take (x10 : Int).toNat) ((rd_T95 x8 x10).f2)).bind fun t175 => (if t175 = 0 then (impl_AreSlots.L0 x0 x8 x9 (wrap64 (x10 + 1))) else (some false))) else (none)) else (some false))) else (some false)))) else (none)) else (none)) else ((impl_InRange.f ((rd_T95 x8 x10).f1) 1 50).bind fun t176 => (if t176 = true then ((impl_InRange.f ((rd_T95 x8 x10).f2) 0 999).bind fun t177 => (if t177 = true then (if x10 ≤ (x0.length : Int) then ((impl_SlotOf.f (x0.take (x10 : Int).toNat) ((rd_T95 x8 x10).f2)).bind fun t182 => (if t182 = 0 then (impl_AreSlots.L0 x0 x8 x9 (wrap64 (x10 + 1))) else (some false))) else (none)) else (some false))) else (some false)))) else (some false))) else (none)) else (none)) else (some true)) := by
  refine Co.step (impl_AreSlots.L0_co x0 x8 x9 x10) (h := fun k => (if x10 < x9 then (if 0 ≤ x10 then (if x10 < (x8.length : Int) then ((impl_InRange.f ((rd_T95 x8 x10).f0) 1 99).bind fun t167 => (if t167 = true then (if x10 > 0 then (if 0 ≤ (wrap64 (x10 - 1)) then (if (wrap64 (x10 - 1)) < (x0.length : Int) then (if ((rd_T95 x8 x10).f0) ≤ ((rd_T95 x0 (wrap64 (x10 - 1))).f0) then (some false) else ((impl_InRange.f ((rd_T95 x8 x10).f1) 1 50).bind fun t169 => (if t169 = true then ((impl_InRange.f ((rd_T95 x8 x10).f2) 0 999).bind fun t170 => (if t170 = true then (if x10 ≤ (x0.length : Int) then ((impl_SlotOf.f (x0.take (x10 : Int).toNat) ((rd_T95 x8 x10).f2)).bind fun t175 => (if t175 = 0 then (impl_AreSlots.l0 k x0 x8 x9 (wrap64 (x10 + 1))) else (some false))) else (none)) else (some false))) else (some false)))) else (none)) else (none)) else ((impl_InRange.f ((rd_T95 x8 x10).f1) 1 50).bind fun t176 => (if t176 = true then ((impl_InRange.f ((rd_T95 x8 x10).f2) 0 999).bind fun t177 => (if t177 = true then (if x10 ≤ (x0.length : Int) then ((impl_SlotOf.f (x0.take (x10 : Int).toNat) ((rd_T95 x8 x10).f2)).bind fun t182 => (if t182 = 0 then (impl_AreSlots.l0 k x0 x8 x9 (wrap64 (x10 + 1))) else (some false))) else (none)) else (some false))) else (some false)))) else (some false))) else (none)) else (none)) else (some true))) (fun k => by first | rfl | (simp only [impl_AreSlots.l0])) ?_
  repeat' first
    | (with_reducible exact Co.const _)
    | (with_reducible exact impl_AreSlots.L0_co _ _ _ _)
    | (with_reducible refine Co.ite ?_ ?_)
    | (with_reducible refine Co.bind ?_ (fun _ => ?_))
theorem impl_AreSlots.F_eq (l0 : List (S95)) : impl_AreSlots.F l0 = (if (l0.length : Int) > 30 then (some false) else (impl_AreSlots.L0 l0 l0 (l0.length : Int) 0)) := by
  refine Co.same (impl_AreSlots.F_co l0) (h := fun k => (if (l0.length : Int) > 30 then (some false) else (impl_AreSlots.l0 k l0 l0 (l0.length : Int) 0))) (fun k => by first | rfl | unfold impl_AreSlots.f; rfl) ?_
  repeat' first
    | (with_reducible exact Co.const _)
    | (with_reducible exact impl_AreSlots.L0_co _ _ _ _)
    | (with_reducible refine Co.ite ?_ ?_)
    | (with_reducible refine Co.bind ?_ (fun _ => ?_))

noncomputable def impl_freeFor.L0 (x0 : List (S95)) (x1 : Int) (x5 : Int) (x8 : List (S95)) (x9 : Int) (x10 : Int) : Option (Int) := lim (fun k => impl_freeFor.l0 k x0 x1 x5 x8 x9 x10)
theorem impl_freeFor.L0_co (x0 : List (S95)) (x1 : Int) (x5 : Int) (x8 : List (S95)) (x9 : Int) (x10 : Int) : Co (fun k => impl_freeFor.l0 k x0 x1 x5 x8 x9 x10) (impl_freeFor.L0 x0 x1 x5 x8 x9 x10) := Co.base (fun k => (impl_freeFor.mono_l k) _ _ _ _ _ _)
noncomputable def impl_freeFor.F (l0 : List (S95)) (a1 : Int) : Option (Int) := lim (fun k => impl_freeFor.f k l0 a1)
theorem impl_freeFor.F_co (l0 : List (S95)) (a1 : Int) : Co (fun k => impl_freeFor.f k l0 a1) (impl_freeFor.F l0 a1) := Co.base (fun k => impl_freeFor.mono _ _ k)
theorem impl_freeFor.L0_eq (x0 : List (S95)) (x1 : Int) (x5 : Int) (x8 : List (S95)) (x9 : Int) (x10 : Int) : impl_freeFor.L0 x0 x1 x5 x8 x9 x10 = (if x10 < x9 then (if 0 ≤ x10 then (if x10 < (x8.length : Int) then (if ((rd_T95 x8 x10).f2) = 0 then (if ((rd_T95 x8 x10).f1) ≥ x1 then (if x5 < 0 then (impl_freeFor.L0 x0 x1 x10 x8 x9 (wrap64 (x10 + 1))) else (if 0 ≤ x5 then (if x5 < (x0.length : Int) then (if ((rd_T95 x8 x10).f1) < ((rd_T95 x0 x5).f1) then (impl_freeFor.L0 x0 x1 x10 x8 x9 (wrap64 (x10 + 1))) else (impl_freeFor.L0 x0 x1 x5 x8 x9 (wrap64 (x10 + 1)))) else (none)) else (none))) else (impl_freeFor.L0 x0 x1 x5 x8 x9 (wrap64 (x10 + 1)))) else (impl_freeFor.L0 x0 x1 x5 x8 x9 (wrap64 (x10 + 1)))) else (none)) else (none)) else (some x5)) := by
  refine Co.step (impl_freeFor.L0_co x0 x1 x5 x8 x9 x10) (h := fun k => (if x10 < x9 then (if 0 ≤ x10 then (if x10 < (x8.length : Int) then (if ((rd_T95 x8 x10).f2) = 0 then (if ((rd_T95 x8 x10).f1) ≥ x1 then (if x5 < 0 then (impl_freeFor.l0 k x0 x1 x10 x8 x9 (wrap64 (x10 + 1))) else (if 0 ≤ x5 then (if x5 < (x0.length : Int) then (if ((rd_T95 x8 x10).f1) < ((rd_T95 x0 x5).f1) then (impl_freeFor.l0 k x0 x1 x10 x8 x9 (wrap64 (x10 + 1))) else (impl_freeFor.l0 k x0 x1 x5 x8 x9 (wrap64 (x10 + 1)))) else (none)) else (none))) else (impl_freeFor.l0 k x0 x1 x5 x8 x9 (wrap64 (x10 + 1)))) else (impl_freeFor.l0 k x0 x1 x5 x8 x9 (wrap64 (x10 + 1)))) else (none)) else (none)) else (some x5))) (fun k => by first | rfl | (simp only [impl_freeFor.l0])) ?_
  repeat' first
    | (with_reducible exact Co.const _)
    | (with_reducible exact impl_freeFor.L0_co _ _ _ _ _ _)
    | (with_reducible refine Co.ite ?_ ?_)
    | (with_reducible refine Co.bind ?_ (fun _ => ?_))
theorem impl_freeFor.F_eq (l0 : List (S95)) (a1 : Int) : impl_freeFor.F l0 a1 = (impl_freeFor.L0 l0 a1 (-1) l0 (l0.length : Int) 0) := by
  refine Co.same (impl_freeFor.F_co l0 a1) (h := fun k => (impl_freeFor.l0 k l0 a1 (-1) l0 (l0.length : Int) 0)) (fun k => by first | rfl | unfold impl_freeFor.f; rfl) ?_
  repeat' first
    | (with_reducible exact Co.const _)
    | (with_reducible exact impl_freeFor.L0_co _ _ _ _ _ _)
    | (with_reducible refine Co.ite ?_ ?_)
    | (with_reducible refine Co.bind ?_ (fun _ => ?_))

noncomputable def impl_PutAway.F (l0 : List (S95)) (a1_0 : Int) (a1_1 : Int) (a1_2 : Int) (a1_3 : Int) (a1_4 : Int) : Option ((List (S95)) × Bool) := lim (fun k => impl_PutAway.f k l0 a1_0 a1_1 a1_2 a1_3 a1_4)
theorem impl_PutAway.F_co (l0 : List (S95)) (a1_0 : Int) (a1_1 : Int) (a1_2 : Int) (a1_3 : Int) (a1_4 : Int) : Co (fun k => impl_PutAway.f k l0 a1_0 a1_1 a1_2 a1_3 a1_4) (impl_PutAway.F l0 a1_0 a1_1 a1_2 a1_3 a1_4) := Co.base (fun k => impl_PutAway.mono _ _ _ _ _ _ k)
theorem impl_PutAway.F_eq (l0 : List (S95)) (a1_0 : Int) (a1_1 : Int) (a1_2 : Int) (a1_3 : Int) (a1_4 : Int) : impl_PutAway.F l0 a1_0 a1_1 a1_2 a1_3 a1_4 = ((impl_Slot_78.f l0).bind fun t199 => ((impl_freeFor.F l0 a1_3).bind fun t202 => ((impl_AreSlots.F l0).bind fun t203 => (if t203 = true then ((impl_IsThing.f a1_0 a1_1 a1_2 a1_3 a1_4).bind fun t204 => (if t204 = true then (if t202 < 0 then (some (t199, false)) else ((impl_slotWith.f l0 a1_0).bind fun t205 => (if t205 ≥ 0 then (some (t199, false)) else (if 0 ≤ t202 then (if t202 < (t199.length : Int) then (some ((t199.set (t202 : Int).toNat (⟨(rd_T95 t199 t202).f0, (rd_T95 t199 t202).f1, a1_0⟩ : S95)), true)) else (none)) else (none))))) else (some (t199, false)))) else (some (t199, false)))))) := by
  refine Co.same (impl_PutAway.F_co l0 a1_0 a1_1 a1_2 a1_3 a1_4) (h := fun k => ((impl_Slot_78.f l0).bind fun t199 => ((impl_freeFor.f k l0 a1_3).bind fun t202 => ((impl_AreSlots.f k l0).bind fun t203 => (if t203 = true then ((impl_IsThing.f a1_0 a1_1 a1_2 a1_3 a1_4).bind fun t204 => (if t204 = true then (if t202 < 0 then (some (t199, false)) else ((impl_slotWith.f l0 a1_0).bind fun t205 => (if t205 ≥ 0 then (some (t199, false)) else (if 0 ≤ t202 then (if t202 < (t199.length : Int) then (some ((t199.set (t202 : Int).toNat (⟨(rd_T95 t199 t202).f0, (rd_T95 t199 t202).f1, a1_0⟩ : S95)), true)) else (none)) else (none))))) else (some (t199, false)))) else (some (t199, false))))))) (fun k => by first | rfl | unfold impl_PutAway.f; rfl) ?_
  repeat' first
    | (with_reducible exact Co.const _)
    | (with_reducible exact impl_AreSlots.F_co _)
    | (with_reducible exact impl_freeFor.F_co _ _)
    | (with_reducible refine Co.ite ?_ ?_)
    | (with_reducible refine Co.bind ?_ (fun _ => ?_))

noncomputable def laws_FnExactPutAway.J0 (x0 : List (S110)) (x6 : List (S95)) (x7 : Bool) (x8 : List (S95)) (x9 : List (S95)) (x10 : Bool) (x46 : Bool) (x208000 : Int) (x208001 : Int) (x208002 : Int) (x208003 : Int) (x208004 : Int) : Option (Bool) := lim (fun k => laws_FnExactPutAway.j0 k x0 x6 x7 x8 x9 x10 x46 x208000 x208001 x208002 x208003 x208004)
theorem laws_FnExactPutAway.J0_co (x0 : List (S110)) (x6 : List (S95)) (x7 : Bool) (x8 : List (S95)) (x9 : List (S95)) (x10 : Bool) (x46 : Bool) (x208000 : Int) (x208001 : Int) (x208002 : Int) (x208003 : Int) (x208004 : Int) : Co (fun k => laws_FnExactPutAway.j0 k x0 x6 x7 x8 x9 x10 x46 x208000 x208001 x208002 x208003 x208004) (laws_FnExactPutAway.J0 x0 x6 x7 x8 x9 x10 x46 x208000 x208001 x208002 x208003 x208004) := Co.base (fun k => (laws_FnExactPutAway.mono_l k).1 _ _ _ _ _ _ _ _ _ _ _ _)
noncomputable def laws_FnExactPutAway.J1 (x0 : List (S110)) (x6 : List (S95)) (x7 : Bool) (x9 : List (S95)) (x67 : Bool) (x208000 : Int) (x208001 : Int) (x208002 : Int) (x208003 : Int) (x208004 : Int) : Option (Bool) := lim (fun k => laws_FnExactPutAway.j1 k x0 x6 x7 x9 x67 x208000 x208001 x208002 x208003 x208004)
theorem laws_FnExactPutAway.J1_co (x0 : List (S110)) (x6 : List (S95)) (x7 : Bool) (x9 : List (S95)) (x67 : Bool) (x208000 : Int) (x208001 : Int) (x208002 : Int) (x208003 : Int) (x208004 : Int) : Co (fun k => laws_FnExactPutAway.j1 k x0 x6 x7 x9 x67 x208000 x208001 x208002 x208003 x208004) (laws_FnExactPutAway.J1 x0 x6 x7 x9 x67 x208000 x208001 x208002 x208003 x208004) := Co.base (fun k => (laws_FnExactPutAway.mono_l k).2.1 _ _ _ _ _ _ _ _ _ _)
noncomputable def laws_FnExactPutAway.J2 (x9 : List (S95)) (x12 : Int) (x95 : Bool) : Option (Bool) := lim (fun k => laws_FnExactPutAway.j2 k x9 x12 x95)
theorem laws_FnExactPutAway.J2_co (x9 : List (S95)) (x12 : Int) (x95 : Bool) : Co (fun k => laws_FnExactPutAway.j2 k x9 x12 x95) (laws_FnExactPutAway.J2 x9 x12 x95) := Co.base (fun k => (laws_FnExactPutAway.mono_l k).2.2 _ _ _)
noncomputable def laws_FnExactPutAway.F (l0 : List (S110)) (a1_0 : Int) (a1_1 : Int) (a1_2 : Int) (a1_3 : Int) (a1_4 : Int) : Option (Bool) := lim (fun k => laws_FnExactPutAway.f k l0 a1_0 a1_1 a1_2 a1_3 a1_4)
theorem laws_FnExactPutAway.F_co (l0 : List (S110)) (a1_0 : Int) (a1_1 : Int) (a1_2 : Int) (a1_3 : Int) (a1_4 : Int) : Co (fun k => laws_FnExactPutAway.f k l0 a1_0 a1_1 a1_2 a1_3 a1_4) (laws_FnExactPutAway.F l0 a1_0 a1_1 a1_2 a1_3 a1_4) := Co.base (fun k => laws_FnExactPutAway.mono _ _ _ _ _ _ k)
theorem laws_FnExactPutAway.J0_eq (x0 : List (S110)) (x6 : List (S95)) (x7 : Bool) (x8 : List (S95)) (x9 : List (S95)) (x10 : Bool) (x46 : Bool) (x208000 : Int) (x208001 : Int) (x208002 : Int) (x208003 : Int) (x208004 : Int) : laws_FnExactPutAway.J0 x0 x6 x7 x8 x9 x10 x46 x208000 x208001 x208002 x208003 x208004 = (if x46 = true then (some false) else ((laws_toSlotS.F x0).bind fun t234 => ((laws_eqSlotS.F x8 t234).bind fun t237 => (if t237 = true then ((laws_markSlotS.F x8 1).bind fun bt238 => (if bt238.1 < 0 then (laws_FnExactPutAway.J1 x0 x6 x7 x9 true x208000 x208001 x208002 x208003 x208004) else ((laws_eqSlotS.F x9 x6).bind fun t240 => (if t240 = true then (laws_FnExactPutAway.J1 x0 x6 x7 x9 (x10 != x7) x208000 x208001 x208002 x208003 x208004) else (laws_FnExactPutAway.J1 x0 x6 x7 x9 true x208000 x208001 x208002 x208003 x208004))))) else (some false))))) := by
  refine Co.step (laws_FnExactPutAway.J0_co x0 x6 x7 x8 x9 x10 x46 x208000 x208001 x208002 x208003 x208004) (h := fun k => (if x46 = true then (some false) else ((laws_toSlotS.f k x0).bind fun t234 => ((laws_eqSlotS.f k x8 t234).bind fun t237 => (if t237 = true then ((laws_markSlotS.f k x8 1).bind fun bt238 => (if bt238.1 < 0 then (laws_FnExactPutAway.j1 k x0 x6 x7 x9 true x208000 x208001 x208002 x208003 x208004) else ((laws_eqSlotS.f k x9 x6).bind fun t240 => (if t240 = true then (laws_FnExactPutAway.j1 k x0 x6 x7 x9 (x10 != x7) x208000 x208001 x208002 x208003 x208004) else (laws_FnExactPutAway.j1 k x0 x6 x7 x9 true x208000 x208001 x208002 x208003 x208004))))) else (some false)))))) (fun k => by first | rfl | (simp only [laws_FnExactPutAway.j0])) ?_
  repeat' first
    | (with_reducible exact Co.const _)
    | (with_reducible exact laws_FnExactPutAway.J1_co _ _ _ _ _ _ _ _ _ _)
    | (with_reducible exact laws_eqSlotS.F_co _ _)
    | (with_reducible exact laws_markSlotS.F_co _ _)
    | (with_reducible exact laws_toSlotS.F_co _)
    | (with_reducible refine Co.ite ?_ ?_)
    | (with_reducible refine Co.bind ?_ (fun _ => ?_))
theorem laws_FnExactPutAway.J1_eq (x0 : List (S110)) (x6 : List (S95)) (x7 : Bool) (x9 : List (S95)) (x67 : Bool) (x208000 : Int) (x208001 : Int) (x208002 : Int) (x208003 : Int) (x208004 : Int) : laws_FnExactPutAway.J1 x0 x6 x7 x9 x67 x208000 x208001 x208002 x208003 x208004 = (if x67 = true then (some false) else ((laws_markSlotS.F x9 1).bind fun bt241 => ((laws_heldSlotS.F bt241.2 1).bind fun t243 => (if t243 < 0 then (some false) else (if t243 = bt241.1 then ((laws_toSlotS.F x0).bind fun t244 => ((laws_toThing.f x208000 x208001 x208002 x208003 x208004).bind fun bt247 => ((impl_PutAway.F t244 bt247.1 bt247.2.1 bt247.2.2.1 bt247.2.2.2.1 bt247.2.2.2.2).bind fun bt252 => ((laws_eqSlotS.F bt252.1 x6).bind fun t256 => (if t256 = true then (laws_FnExactPutAway.J2 bt241.2 bt241.1 (bt252.2 != x7)) else (laws_FnExactPutAway.J2 bt241.2 bt241.1 true)))))) else (some false)))))) := by
  refine Co.step (laws_FnExactPutAway.J1_co x0 x6 x7 x9 x67 x208000 x208001 x208002 x208003 x208004) (h := fun k => (if x67 = true then (some false) else ((laws_markSlotS.f k x9 1).bind fun bt241 => ((laws_heldSlotS.f k bt241.2 1).bind fun t243 => (if t243 < 0 then (some false) else (if t243 = bt241.1 then ((laws_toSlotS.f k x0).bind fun t244 => ((laws_toThing.f x208000 x208001 x208002 x208003 x208004).bind fun bt247 => ((impl_PutAway.f k t244 bt247.1 bt247.2.1 bt247.2.2.1 bt247.2.2.2.1 bt247.2.2.2.2).bind fun bt252 => ((laws_eqSlotS.f k bt252.1 x6).bind fun t256 => (if t256 = true then (laws_FnExactPutAway.j2 k bt241.2 bt241.1 (bt252.2 != x7)) else (laws_FnExactPutAway.j2 k bt241.2 bt241.1 true)))))) else (some false))))))) (fun k => by first | rfl | (simp only [laws_FnExactPutAway.j1])) ?_
  repeat' first
    | (with_reducible exact Co.const _)
    | (with_reducible exact impl_PutAway.F_co _ _ _ _ _ _)
    | (with_reducible exact laws_FnExactPutAway.J2_co _ _ _)
    | (with_reducible exact laws_eqSlotS.F_co _ _)
    | (with_reducible exact laws_heldSlotS.F_co _ _)
    | (with_reducible exact laws_markSlotS.F_co _ _)
    | (with_reducible exact laws_toSlotS.F_co _)
    | (with_reducible refine Co.ite ?_ ?_)
    | (with_reducible refine Co.bind ?_ (fun _ => ?_))
theorem laws_FnExactPutAway.J2_eq (x9 : List (S95)) (x12 : Int) (x95 : Bool) : laws_FnExactPutAway.J2 x9 x12 x95 = (if x95 = true then (some false) else ((laws_heldSlotS.F x9 1).bind fun t257 => (if t257 < 0 then (some false) else (if t257 = x12 then (some true) else (some false))))) := by
  refine Co.step (laws_FnExactPutAway.J2_co x9 x12 x95) (h := fun k => (if x95 = true then (some false) else ((laws_heldSlotS.f k x9 1).bind fun t257 => (if t257 < 0 then (some false) else (if t257 = x12 then (some true) else (some false)))))) (fun k => by first | rfl | (simp only [laws_FnExactPutAway.j2])) ?_
  repeat' first
    | (with_reducible exact Co.const _)
    | (with_reducible exact laws_heldSlotS.F_co _ _)
    | (with_reducible refine Co.ite ?_ ?_)
    | (with_reducible refine Co.bind ?_ (fun _ => ?_))
theorem laws_FnExactPutAway.F_eq (l0 : List (S110)) (a1_0 : Int) (a1_1 : Int) (a1_2 : Int) (a1_3 : Int) (a1_4 : Int) : laws_FnExactPutAway.F l0 a1_0 a1_1 a1_2 a1_3 a1_4 = ((laws_szSlotS.f l0 1048576).bind fun t208 => (if t208 < 0 then (some true) else ((laws_toSlotS.F l0).bind fun t209 => ((laws_toThing.f a1_0 a1_1 a1_2 a1_3 a1_4).bind fun bt212 => ((spec_PutAway.F t209 bt212.1 bt212.2.1 bt212.2.2.1 bt212.2.2.2.1 bt212.2.2.2.2).bind fun bt217 => ((laws_toSlotS.F l0).bind fun t221 => ((laws_toThing.f a1_0 a1_1 a1_2 a1_3 a1_4).bind fun bt224 => ((impl_PutAway.F t221 bt224.1 bt224.2.1 bt224.2.2.1 bt224.2.2.2.1 bt224.2.2.2.2).bind fun bt229 => ((laws_eqSlotS.F bt229.1 bt217.1).bind fun t233 => (if t233 = true then (laws_FnExactPutAway.J0 l0 bt217.1 bt217.2 t221 bt229.1 bt229.2 (bt229.2 != bt217.2) a1_0 a1_1 a1_2 a1_3 a1_4) else (laws_FnExactPutAway.J0 l0 bt217.1 bt217.2 t221 bt229.1 bt229.2 true a1_0 a1_1 a1_2 a1_3 a1_4))))))))))) := by
  refine Co.same (laws_FnExactPutAway.F_co l0 a1_0 a1_1 a1_2 a1_3 a1_4) (h := fun k => ((laws_szSlotS.f l0 1048576).bind fun t208 => (if t208 < 0 then (some true) else ((laws_toSlotS.f k l0).bind fun t209 => ((laws_toThing.f a1_0 a1_1 a1_2 a1_3 a1_4).bind fun bt212 => ((spec_PutAway.f k t209 bt212.1 bt212.2.1 bt212.2.2.1 bt212.2.2.2.1 bt212.2.2.2.2).bind fun bt217 => ((laws_toSlotS.f k l0).bind fun t221 => ((laws_toThing.f a1_0 a1_1 a1_2 a1_3 a1_4).bind fun bt224 => ((impl_PutAway.f k t221 bt224.1 bt224.2.1 bt224.2.2.1 bt224.2.2.2.1 bt224.2.2.2.2).bind fun bt229 => ((laws_eqSlotS.f k bt229.1 bt217.1).bind fun t233 => (if t233 = true then (laws_FnExactPutAway.j0 k l0 bt217.1 bt217.2 t221 bt229.1 bt229.2 (bt229.2 != bt217.2) a1_0 a1_1 a1_2 a1_3 a1_4) else (laws_FnExactPutAway.j0 k l0 bt217.1 bt217.2 t221 bt229.1 bt229.2 true a1_0 a1_1 a1_2 a1_3 a1_4)))))))))))) (fun k => by first | rfl | unfold laws_FnExactPutAway.f; rfl) ?_
  repeat' first
    | (with_reducible exact Co.const _)
    | (with_reducible exact impl_PutAway.F_co _ _ _ _ _ _)
    | (with_reducible exact laws_FnExactPutAway.J0_co _ _ _ _ _ _ _ _ _ _ _ _)
    | (with_reducible exact laws_eqSlotS.F_co _ _)
    | (with_reducible exact laws_toSlotS.F_co _)
    | (with_reducible exact spec_PutAway.F_co _ _ _ _ _ _)
    | (with_reducible refine Co.ite ?_ ?_)
    | (with_reducible refine Co.bind ?_ (fun _ => ?_))

end Go.Proofs.Ytbbfelgojaioaaa.PFnExactPutAway.Pure
