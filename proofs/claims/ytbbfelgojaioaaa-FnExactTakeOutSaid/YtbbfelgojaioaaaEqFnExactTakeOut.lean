/-
  The printed functions that this law reaches, their rounds used up, and the equations that they meet.
-/
import Derived.Test.YtbbfelgojaioaaaPFnExactTakeOutx1
import Derived.Test.YtbbfelgojaioaaaPFnExactTakeOutx2
import Derived.Test.YtbbfelgojaioaaaPFnExactTakeOutx3
import Derived.Test.YtbbfelgojaioaaaPFnExactTakeOutx4
import Derived.Test.YtbbfelgojaioaaaPFnExactTakeOutx5
import Derived.Test.YtbbfelgojaioaaaPFnExactTakeOutx6
import Derived.Test.YtbbfelgojaioaaaLim
namespace Go.Proofs.Ytbbfelgojaioaaa.PFnExactTakeOut.Pure
open Go.RowKit Go.Proofs.YtbbfelgojaioaaaW.PrintWords Go.Proofs.YtbbfelgojaioaaaW.PrintLast Go.Proofs.YtbbfelgojaioaaaW.PrintMore Go.Proofs.Ytbbfelgojaioaaa.PFnExactTakeOut Go.Proofs.Ytbbfelgojaioaaa.Lim
set_option linter.unusedVariables false
set_option maxRecDepth 100000

noncomputable def spec_SlotOf.L0 (x0 : List (S95)) (x1 : Int) (x5 : Int) : Option (Int) := lim (fun k => spec_SlotOf.l0 k x0 x1 x5)
theorem spec_SlotOf.L0_co (x0 : List (S95)) (x1 : Int) (x5 : Int) : Co (fun k => spec_SlotOf.l0 k x0 x1 x5) (spec_SlotOf.L0 x0 x1 x5) := Co.base (fun k => (spec_SlotOf.mono_l k) _ _ _)
noncomputable def spec_SlotOf.F (l0 : List (S95)) (a1 : Int) : Option (Int) := lim (fun k => spec_SlotOf.f k l0 a1)
theorem spec_SlotOf.F_co (l0 : List (S95)) (a1 : Int) : Co (fun k => spec_SlotOf.f k l0 a1) (spec_SlotOf.F l0 a1) := Co.base (fun k => spec_SlotOf.mono _ _ k)
theorem spec_SlotOf.L0_eq (x0 : List (S95)) (x1 : Int) (x5 : Int) : spec_SlotOf.L0 x0 x1 x5 = (if x5 < (x0.length : Int) then (if x1 = 0 then (spec_SlotOf.L0 x0 x1 (wrap64 (x5 + 1))) else (if 0 ≤ x5 then (if ((rd_T95 x0 x5).f2) = x1 then (some ((rd_T95 x0 x5).f0)) else (spec_SlotOf.L0 x0 x1 (wrap64 (x5 + 1)))) else (none))) else (some 0)) := by
  refine Co.step (spec_SlotOf.L0_co x0 x1 x5) (h := fun k => (if x5 < (x0.length : Int) then (if x1 = 0 then (spec_SlotOf.l0 k x0 x1 (wrap64 (x5 + 1))) else (if 0 ≤ x5 then (if ((rd_T95 x0 x5).f2) = x1 then (some ((rd_T95 x0 x5).f0)) else (spec_SlotOf.l0 k x0 x1 (wrap64 (x5 + 1)))) else (none))) else (some 0))) (fun k => by first | rfl | (simp only [spec_SlotOf.l0])) ?_
  repeat' first
    | (with_reducible exact Co.const _)
    | (with_reducible exact spec_SlotOf.L0_co _ _ _)
    | (with_reducible refine Co.ite ?_ ?_)
    | (with_reducible refine Co.bind ?_ (fun _ => ?_))
theorem spec_SlotOf.F_eq (l0 : List (S95)) (a1 : Int) : spec_SlotOf.F l0 a1 = (spec_SlotOf.L0 l0 a1 0) := by
  refine Co.same (spec_SlotOf.F_co l0 a1) (h := fun k => (spec_SlotOf.l0 k l0 a1 0)) (fun k => by first | rfl | unfold spec_SlotOf.f; rfl) ?_
  repeat' first
    | (with_reducible exact Co.const _)
    | (with_reducible exact spec_SlotOf.L0_co _ _ _)
    | (with_reducible refine Co.ite ?_ ?_)
    | (with_reducible refine Co.bind ?_ (fun _ => ?_))

noncomputable def spec_AreSlots.L0 (x0 : List (S95)) (x3 : Int) : Option (Bool) := lim (fun k => spec_AreSlots.l0 k x0 x3)
theorem spec_AreSlots.L0_co (x0 : List (S95)) (x3 : Int) : Co (fun k => spec_AreSlots.l0 k x0 x3) (spec_AreSlots.L0 x0 x3) := Co.base (fun k => (spec_AreSlots.mono_l k).1 _ _)
noncomputable def spec_AreSlots.J1 (x0 : List (S95)) (x3 : Int) (x53 : Bool) : Option (Bool) := lim (fun k => spec_AreSlots.j1 k x0 x3 x53)
theorem spec_AreSlots.J1_co (x0 : List (S95)) (x3 : Int) (x53 : Bool) : Co (fun k => spec_AreSlots.j1 k x0 x3 x53) (spec_AreSlots.J1 x0 x3 x53) := Co.base (fun k => (spec_AreSlots.mono_l k).2.1 _ _ _)
noncomputable def spec_AreSlots.L1 (x0 : List (S95)) (x3 : Int) (x4 : Int) : Option (Bool) := lim (fun k => spec_AreSlots.l1 k x0 x3 x4)
theorem spec_AreSlots.L1_co (x0 : List (S95)) (x3 : Int) (x4 : Int) : Co (fun k => spec_AreSlots.l1 k x0 x3 x4) (spec_AreSlots.L1 x0 x3 x4) := Co.base (fun k => (spec_AreSlots.mono_l k).2.2 _ _ _)
noncomputable def spec_AreSlots.F (l0 : List (S95)) : Option (Bool) := lim (fun k => spec_AreSlots.f k l0)
theorem spec_AreSlots.F_co (l0 : List (S95)) : Co (fun k => spec_AreSlots.f k l0) (spec_AreSlots.F l0) := Co.base (fun k => spec_AreSlots.mono _ k)
theorem spec_AreSlots.L0_eq (x0 : List (S95)) (x3 : Int) : spec_AreSlots.L0 x0 x3 = (if x3 < (x0.length : Int) then (if 0 ≤ x3 then ((spec_l1In.f ((rd_T95 x0 x3).f0) 1 99).bind fun t104 => (if t104 = true then ((spec_l1In.f ((rd_T95 x0 x3).f1) 1 50).bind fun t106 => (if t106 = true then ((spec_l1In.f ((rd_T95 x0 x3).f2) 0 999).bind fun t108 => (if t108 = true then (if x3 > 0 then (if 0 ≤ (wrap64 (x3 - 1)) then (if (wrap64 (x3 - 1)) < (x0.length : Int) then (spec_AreSlots.J1 x0 x3 (decide (((rd_T95 x0 (wrap64 (x3 - 1))).f0) ≥ ((rd_T95 x0 x3).f0)))) else (none)) else (none)) else (spec_AreSlots.J1 x0 x3 false)) else (spec_AreSlots.J1 x0 x3 true))) else (spec_AreSlots.J1 x0 x3 true))) else (spec_AreSlots.J1 x0 x3 true))) else (none)) else (some (decide ((x0.length : Int) ≤ 30)))) := by
  refine Co.step (spec_AreSlots.L0_co x0 x3) (h := fun k => (if x3 < (x0.length : Int) then (if 0 ≤ x3 then ((spec_l1In.f ((rd_T95 x0 x3).f0) 1 99).bind fun t104 => (if t104 = true then ((spec_l1In.f ((rd_T95 x0 x3).f1) 1 50).bind fun t106 => (if t106 = true then ((spec_l1In.f ((rd_T95 x0 x3).f2) 0 999).bind fun t108 => (if t108 = true then (if x3 > 0 then (if 0 ≤ (wrap64 (x3 - 1)) then (if (wrap64 (x3 - 1)) < (x0.length : Int) then (spec_AreSlots.j1 k x0 x3 (decide (((rd_T95 x0 (wrap64 (x3 - 1))).f0) ≥ ((rd_T95 x0 x3).f0)))) else (none)) else (none)) else (spec_AreSlots.j1 k x0 x3 false)) else (spec_AreSlots.j1 k x0 x3 true))) else (spec_AreSlots.j1 k x0 x3 true))) else (spec_AreSlots.j1 k x0 x3 true))) else (none)) else (some (decide ((x0.length : Int) ≤ 30))))) (fun k => by first | rfl | (simp only [spec_AreSlots.l0])) ?_
  repeat' first
    | (with_reducible exact Co.const _)
    | (with_reducible exact spec_AreSlots.J1_co _ _ _)
    | (with_reducible refine Co.ite ?_ ?_)
    | (with_reducible refine Co.bind ?_ (fun _ => ?_))
theorem spec_AreSlots.J1_eq (x0 : List (S95)) (x3 : Int) (x53 : Bool) : spec_AreSlots.J1 x0 x3 x53 = (if x53 = true then (some false) else (spec_AreSlots.L1 x0 x3 0)) := by
  refine Co.step (spec_AreSlots.J1_co x0 x3 x53) (h := fun k => (if x53 = true then (some false) else (spec_AreSlots.l1 k x0 x3 0))) (fun k => by first | rfl | (simp only [spec_AreSlots.j1])) ?_
  repeat' first
    | (with_reducible exact Co.const _)
    | (with_reducible exact spec_AreSlots.L1_co _ _ _)
    | (with_reducible refine Co.ite ?_ ?_)
    | (with_reducible refine Co.bind ?_ (fun _ => ?_))
theorem spec_AreSlots.L1_eq (x0 : List (S95)) (x3 : Int) (x4 : Int) : spec_AreSlots.L1 x0 x3 x4 = (if x4 < x3 then (if 0 ≤ x3 then (if x3 < (x0.length : Int) then (if ((rd_T95 x0 x3).f2) = 0 then (spec_AreSlots.L1 x0 x3 (wrap64 (x4 + 1))) else (if 0 ≤ x4 then (if x4 < (x0.length : Int) then (if ((rd_T95 x0 x4).f2) = ((rd_T95 x0 x3).f2) then (some false) else (spec_AreSlots.L1 x0 x3 (wrap64 (x4 + 1)))) else (none)) else (none))) else (none)) else (none)) else (spec_AreSlots.L0 x0 (wrap64 (x3 + 1)))) := by
  refine Co.step (spec_AreSlots.L1_co x0 x3 x4) (h := fun k => (if x4 < x3 then (if 0 ≤ x3 then (if x3 < (x0.length : Int) then (if ((rd_T95 x0 x3).f2) = 0 then (spec_AreSlots.l1 k x0 x3 (wrap64 (x4 + 1))) else (if 0 ≤ x4 then (if x4 < (x0.length : Int) then (if ((rd_T95 x0 x4).f2) = ((rd_T95 x0 x3).f2) then (some false) else (spec_AreSlots.l1 k x0 x3 (wrap64 (x4 + 1)))) else (none)) else (none))) else (none)) else (none)) else (spec_AreSlots.l0 k x0 (wrap64 (x3 + 1))))) (fun k => by first | rfl | (simp only [spec_AreSlots.l1])) ?_
  repeat' first
    | (with_reducible exact Co.const _)
    | (with_reducible exact spec_AreSlots.L0_co _ _)
    | (with_reducible exact spec_AreSlots.L1_co _ _ _)
    | (with_reducible refine Co.ite ?_ ?_)
    | (with_reducible refine Co.bind ?_ (fun _ => ?_))
theorem spec_AreSlots.F_eq (l0 : List (S95)) : spec_AreSlots.F l0 = (spec_AreSlots.L0 l0 0) := by
  refine Co.same (spec_AreSlots.F_co l0) (h := fun k => (spec_AreSlots.l0 k l0 0)) (fun k => by first | rfl | unfold spec_AreSlots.f; rfl) ?_
  repeat' first
    | (with_reducible exact Co.const _)
    | (with_reducible exact spec_AreSlots.L0_co _ _)
    | (with_reducible refine Co.ite ?_ ?_)
    | (with_reducible refine Co.bind ?_ (fun _ => ?_))

noncomputable def spec_TakeOut.J0 (x6 : List (S95)) (x7 : Int) (x21 : Bool) : Option ((List (S95)) × Bool) := lim (fun k => spec_TakeOut.j0 k x6 x7 x21)
theorem spec_TakeOut.J0_co (x6 : List (S95)) (x7 : Int) (x21 : Bool) : Co (fun k => spec_TakeOut.j0 k x6 x7 x21) (spec_TakeOut.J0 x6 x7 x21) := Co.base (fun k => (spec_TakeOut.mono_l k).1 _ _ _)
noncomputable def spec_TakeOut.L0 (x6 : List (S95)) (x7 : Int) (x8 : Int) : Option ((List (S95)) × Bool) := lim (fun k => spec_TakeOut.l0 k x6 x7 x8)
theorem spec_TakeOut.L0_co (x6 : List (S95)) (x7 : Int) (x8 : Int) : Co (fun k => spec_TakeOut.l0 k x6 x7 x8) (spec_TakeOut.L0 x6 x7 x8) := Co.base (fun k => (spec_TakeOut.mono_l k).2 _ _ _)
noncomputable def spec_TakeOut.F (l0 : List (S95)) (a1 : Int) : Option ((List (S95)) × Bool) := lim (fun k => spec_TakeOut.f k l0 a1)
theorem spec_TakeOut.F_co (l0 : List (S95)) (a1 : Int) : Co (fun k => spec_TakeOut.f k l0 a1) (spec_TakeOut.F l0 a1) := Co.base (fun k => spec_TakeOut.mono _ _ k)
theorem spec_TakeOut.J0_eq (x6 : List (S95)) (x7 : Int) (x21 : Bool) : spec_TakeOut.J0 x6 x7 x21 = (if x21 = true then (some (x6, false)) else (spec_TakeOut.L0 x6 x7 0)) := by
  refine Co.step (spec_TakeOut.J0_co x6 x7 x21) (h := fun k => (if x21 = true then (some (x6, false)) else (spec_TakeOut.l0 k x6 x7 0))) (fun k => by first | rfl | (simp only [spec_TakeOut.j0])) ?_
  repeat' first
    | (with_reducible exact Co.const _)
    | (with_reducible exact spec_TakeOut.L0_co _ _ _)
    | (with_reducible refine Co.ite ?_ ?_)
    | (with_reducible refine Co.bind ?_ (fun _ => ?_))
theorem spec_TakeOut.L0_eq (x6 : List (S95)) (x7 : Int) (x8 : Int) : spec_TakeOut.L0 x6 x7 x8 = (if x8 < (x6.length : Int) then (if 0 ≤ x8 then (if ((rd_T95 x6 x8).f0) = x7 then (spec_TakeOut.L0 (x6.set (x8 : Int).toNat (⟨(rd_T95 x6 x8).f0, (rd_T95 x6 x8).f1, 0⟩ : S95)) x7 (wrap64 (x8 + 1))) else (spec_TakeOut.L0 x6 x7 (wrap64 (x8 + 1)))) else (none)) else (some (x6, true))) := by
  refine Co.step (spec_TakeOut.L0_co x6 x7 x8) (h := fun k => (if x8 < (x6.length : Int) then (if 0 ≤ x8 then (if ((rd_T95 x6 x8).f0) = x7 then (spec_TakeOut.l0 k (x6.set (x8 : Int).toNat (⟨(rd_T95 x6 x8).f0, (rd_T95 x6 x8).f1, 0⟩ : S95)) x7 (wrap64 (x8 + 1))) else (spec_TakeOut.l0 k x6 x7 (wrap64 (x8 + 1)))) else (none)) else (some (x6, true)))) (fun k => by first | rfl | (simp only [spec_TakeOut.l0])) ?_
  repeat' first
    | (with_reducible exact Co.const _)
    | (with_reducible exact spec_TakeOut.L0_co _ _ _)
    | (with_reducible refine Co.ite ?_ ?_)
    | (with_reducible refine Co.bind ?_ (fun _ => ?_))
theorem spec_TakeOut.F_eq (l0 : List (S95)) (a1 : Int) : spec_TakeOut.F l0 a1 = ((some (([] : List (S95)) : List (S95))).bind fun y114 => (if y114.length + l0.length < 5864062014805 then ((some (y114 ++ l0 : List (S95))).bind fun y117 => ((spec_SlotOf.F l0 a1).bind fun t120 => ((spec_AreSlots.F l0).bind fun t121 => (if t121 = true then (spec_TakeOut.J0 y117 t120 (t120 == 0)) else (spec_TakeOut.J0 y117 t120 true))))) else (none))) := by
  refine Co.same (spec_TakeOut.F_co l0 a1) (h := fun k => ((some (([] : List (S95)) : List (S95))).bind fun y114 => (if y114.length + l0.length < 5864062014805 then ((some (y114 ++ l0 : List (S95))).bind fun y117 => ((spec_SlotOf.f k l0 a1).bind fun t120 => ((spec_AreSlots.f k l0).bind fun t121 => (if t121 = true then (spec_TakeOut.j0 k y117 t120 (t120 == 0)) else (spec_TakeOut.j0 k y117 t120 true))))) else (none)))) (fun k => by first | rfl | unfold spec_TakeOut.f; rfl) ?_
  repeat' first
    | (with_reducible exact Co.const _)
    | (with_reducible exact spec_AreSlots.F_co _)
    | (with_reducible exact spec_SlotOf.F_co _ _)
    | (with_reducible exact spec_TakeOut.J0_co _ _ _)
    | (with_reducible refine Co.ite ?_ ?_)
    | (with_reducible refine Co.bind ?_ (fun _ => ?_))

noncomputable def laws_toSlotS.L0 (x0 : List (S110)) (x3 : List (S95)) (x4 : Int) : Option ((List (S95))) := lim (fun k => laws_toSlotS.l0 k x0 x3 x4)
theorem laws_toSlotS.L0_co (x0 : List (S110)) (x3 : List (S95)) (x4 : Int) : Co (fun k => laws_toSlotS.l0 k x0 x3 x4) (laws_toSlotS.L0 x0 x3 x4) := Co.base (fun k => (laws_toSlotS.mono_l k) _ _ _)
noncomputable def laws_toSlotS.F (l0 : List (S110)) : Option ((List (S95))) := lim (fun k => laws_toSlotS.f k l0)
theorem laws_toSlotS.F_co (l0 : List (S110)) : Co (fun k => laws_toSlotS.f k l0) (laws_toSlotS.F l0) := Co.base (fun k => laws_toSlotS.mono _ k)
theorem laws_toSlotS.L0_eq (x0 : List (S110)) (x3 : List (S95)) (x4 : Int) : laws_toSlotS.L0 x0 x3 x4 = (if x4 < (x0.length : Int) then (if 0 ≤ x4 then ((laws_toSlot.f ((rd_T110 x0 x4).f0) ((rd_T110 x0 x4).f1) ((rd_T110 x0 x4).f2)).bind fun bt131 => (if x4 < (x3.length : Int) then (laws_toSlotS.L0 x0 (x3.set (x4 : Int).toNat (⟨bt131.1, bt131.2.1, bt131.2.2⟩ : S95)) (wrap64 (x4 + 1))) else (none))) else (none)) else (some x3)) := by
  refine Co.step (laws_toSlotS.L0_co x0 x3 x4) (h := fun k => (if x4 < (x0.length : Int) then (if 0 ≤ x4 then ((laws_toSlot.f ((rd_T110 x0 x4).f0) ((rd_T110 x0 x4).f1) ((rd_T110 x0 x4).f2)).bind fun bt131 => (if x4 < (x3.length : Int) then (laws_toSlotS.l0 k x0 (x3.set (x4 : Int).toNat (⟨bt131.1, bt131.2.1, bt131.2.2⟩ : S95)) (wrap64 (x4 + 1))) else (none))) else (none)) else (some x3))) (fun k => by first | rfl | (simp only [laws_toSlotS.l0])) ?_
  repeat' first
    | (with_reducible exact Co.const _)
    | (with_reducible exact laws_toSlotS.L0_co _ _ _)
    | (with_reducible refine Co.ite ?_ ?_)
    | (with_reducible refine Co.bind ?_ (fun _ => ?_))
theorem laws_toSlotS.F_eq (l0 : List (S110)) : laws_toSlotS.F l0 = (if 0 ≤ (l0.length : Int) then (if ((l0.length : Int) : Int).toNat ≤ 11728124029610 then (laws_toSlotS.L0 l0 (List.replicate ((l0.length : Int) : Int).toNat z95) 0) else (none)) else (none)) := by
  refine Co.same (laws_toSlotS.F_co l0) (h := fun k => (if 0 ≤ (l0.length : Int) then (if ((l0.length : Int) : Int).toNat ≤ 11728124029610 then (laws_toSlotS.l0 k l0 (List.replicate ((l0.length : Int) : Int).toNat z95) 0) else (none)) else (none))) (fun k => by first | rfl | unfold laws_toSlotS.f; rfl) ?_
  repeat' first
    | (with_reducible exact Co.const _)
    | (with_reducible exact laws_toSlotS.L0_co _ _ _)
    | (with_reducible refine Co.ite ?_ ?_)
    | (with_reducible refine Co.bind ?_ (fun _ => ?_))

noncomputable def impl_AreSlots.L0 (x0 : List (S95)) (x8 : List (S95)) (x9 : Int) (x10 : Int) : Option (Bool) := lim (fun k => impl_AreSlots.l0 k x0 x8 x9 x10)
theorem impl_AreSlots.L0_co (x0 : List (S95)) (x8 : List (S95)) (x9 : Int) (x10 : Int) : Co (fun k => impl_AreSlots.l0 k x0 x8 x9 x10) (impl_AreSlots.L0 x0 x8 x9 x10) := Co.base (fun k => (impl_AreSlots.mono_l k) _ _ _ _)
noncomputable def impl_AreSlots.F (l0 : List (S95)) : Option (Bool) := lim (fun k => impl_AreSlots.f k l0)
theorem impl_AreSlots.F_co (l0 : List (S95)) : Co (fun k => impl_AreSlots.f k l0) (impl_AreSlots.F l0) := Co.base (fun k => impl_AreSlots.mono _ k)
theorem impl_AreSlots.L0_eq (x0 : List (S95)) (x8 : List (S95)) (x9 : Int) (x10 : Int) : impl_AreSlots.L0 x0 x8 x9 x10 = (if x10 < x9 then (if 0 ≤ x10 then (if x10 < (x8.length : Int) then ((impl_InRange.f ((rd_T95 x8 x10).f0) 1 99).bind fun t139 => (if t139 = true then (if x10 > 0 then (if 0 ≤ (wrap64 (x10 - 1)) then (if (wrap64 (x10 - 1)) < (x0.length : Int) then (if ((rd_T95 x8 x10).f0) ≤ ((rd_T95 x0 (wrap64 (x10 - 1))).f0) then (some false) else ((impl_InRange.f ((rd_T95 x8 x10).f1) 1 50).bind fun t141 => (if t141 = true then ((impl_InRange.f ((rd_T95 x8 x10).f2) 0 999).bind fun t142 => (if t142 = true then (if x10 ≤ (x0.length : Int) then ((impl_SlotOf.f (x0.take (x10 : Int).toNat) ((rd_T95 x8 x10).f2)).bind fun t147 => (if t147 = 0 then (impl_AreSlots.L0 x0 x8 x9 (wrap64 (x10 + 1))) else (some false))) else (none)) else (some false))) else (some false)))) else (none)) else (none)) else ((impl_InRange.f ((rd_T95 x8 x10).f1) 1 50).bind fun t148 => (if t148 = true then ((impl_InRange.f ((rd_T95 x8 x10).f2) 0 999).bind fun t149 => (if t149 = true then (if x10 ≤ (x0.length : Int) then ((impl_SlotOf.f (x0.take (x10 : Int).toNat) ((rd_T95 x8 x10).f2)).bind fun t154 => (if t154 = 0 then (impl_AreSlots.L0 x0 x8 x9 (wrap64 (x10 + 1))) else (some false))) else (none)) else (some false))) else (some false)))) else (some false))) else (none)) else (none)) else (some true)) := by
  refine Co.step (impl_AreSlots.L0_co x0 x8 x9 x10) (h := fun k => (if x10 < x9 then (if 0 ≤ x10 then (if x10 < (x8.length : Int) then ((impl_InRange.f ((rd_T95 x8 x10).f0) 1 99).bind fun t139 => (if t139 = true then (if x10 > 0 then (if 0 ≤ (wrap64 (x10 - 1)) then (if (wrap64 (x10 - 1)) < (x0.length : Int) then (if ((rd_T95 x8 x10).f0) ≤ ((rd_T95 x0 (wrap64 (x10 - 1))).f0) then (some false) else ((impl_InRange.f ((rd_T95 x8 x10).f1) 1 50).bind fun t141 => (if t141 = true then ((impl_InRange.f ((rd_T95 x8 x10).f2) 0 999).bind fun t142 => (if t142 = true then (if x10 ≤ (x0.length : Int) then ((impl_SlotOf.f (x0.take (x10 : Int).toNat) ((rd_T95 x8 x10).f2)).bind fun t147 => (if t147 = 0 then (impl_AreSlots.l0 k x0 x8 x9 (wrap64 (x10 + 1))) else (some false))) else (none)) else (some false))) else (some false)))) else (none)) else (none)) else ((impl_InRange.f ((rd_T95 x8 x10).f1) 1 50).bind fun t148 => (if t148 = true then ((impl_InRange.f ((rd_T95 x8 x10).f2) 0 999).bind fun t149 => (if t149 = true then (if x10 ≤ (x0.length : Int) then ((impl_SlotOf.f (x0.take (x10 : Int).toNat) ((rd_T95 x8 x10).f2)).bind fun t154 => (if t154 = 0 then (impl_AreSlots.l0 k x0 x8 x9 (wrap64 (x10 + 1))) else (some false))) else (none)) else (some false))) else (some false)))) else (some false))) else (none)) else (none)) else (some true))) (fun k => by first | rfl | (simp only [impl_AreSlots.l0])) ?_
  repeat' first
    | (with_reducible exact Co.const _)
    | (with_reducible exact impl_AreSlots.L0_co _ _ _ _)
    | (with_reducible refine Co.ite ?_ ?_)
    | (with_reducible refine Co.bind ?_ (fun _ => ?_))
theorem impl_AreSlots.F_eq (l0 : List (S95)) : impl_AreSlots.F l0 = (if (l0.length : Int) > 30 then (some false) else (impl_AreSlots.L0 l0 l0 (l0.length : Int) 0)) := by
  refine Co.same (impl_AreSlots.F_co l0) (h := fun k => (if (l0.length : Int) > 30 then (some false) else (impl_AreSlots.l0 k l0 l0 (l0.length : Int) 0))) (fun k => by first | rfl | unfold impl_AreSlots.f; rfl) ?_
  repeat' first
    | (with_reducible exact Co.const _)
    | (with_reducible exact impl_AreSlots.L0_co _ _ _ _)
    | (with_reducible refine Co.ite ?_ ?_)
    | (with_reducible refine Co.bind ?_ (fun _ => ?_))

noncomputable def impl_TakeOut.F (l0 : List (S95)) (a1 : Int) : Option ((List (S95)) × Bool) := lim (fun k => impl_TakeOut.f k l0 a1)
theorem impl_TakeOut.F_co (l0 : List (S95)) (a1 : Int) : Co (fun k => impl_TakeOut.f k l0 a1) (impl_TakeOut.F l0 a1) := Co.base (fun k => impl_TakeOut.mono _ _ k)
theorem impl_TakeOut.F_eq (l0 : List (S95)) (a1 : Int) : impl_TakeOut.F l0 a1 = ((impl_Slot_78.f l0).bind fun t161 => ((impl_slotWith.f l0 a1).bind fun t164 => ((impl_AreSlots.F l0).bind fun t165 => (if t165 = true then (if t164 < 0 then (some (t161, false)) else (if 0 ≤ t164 then (if t164 < (t161.length : Int) then (some ((t161.set (t164 : Int).toNat (⟨(rd_T95 t161 t164).f0, (rd_T95 t161 t164).f1, 0⟩ : S95)), true)) else (none)) else (none))) else (some (t161, false)))))) := by
  refine Co.same (impl_TakeOut.F_co l0 a1) (h := fun k => ((impl_Slot_78.f l0).bind fun t161 => ((impl_slotWith.f l0 a1).bind fun t164 => ((impl_AreSlots.f k l0).bind fun t165 => (if t165 = true then (if t164 < 0 then (some (t161, false)) else (if 0 ≤ t164 then (if t164 < (t161.length : Int) then (some ((t161.set (t164 : Int).toNat (⟨(rd_T95 t161 t164).f0, (rd_T95 t161 t164).f1, 0⟩ : S95)), true)) else (none)) else (none))) else (some (t161, false))))))) (fun k => by first | rfl | unfold impl_TakeOut.f; rfl) ?_
  repeat' first
    | (with_reducible exact Co.const _)
    | (with_reducible exact impl_AreSlots.F_co _)
    | (with_reducible refine Co.ite ?_ ?_)
    | (with_reducible refine Co.bind ?_ (fun _ => ?_))

noncomputable def laws_eqSlotS.L0 (x0 : List (S95)) (x1 : List (S95)) (x5 : Int) : Option (Bool) := lim (fun k => laws_eqSlotS.l0 k x0 x1 x5)
theorem laws_eqSlotS.L0_co (x0 : List (S95)) (x1 : List (S95)) (x5 : Int) : Co (fun k => laws_eqSlotS.l0 k x0 x1 x5) (laws_eqSlotS.L0 x0 x1 x5) := Co.base (fun k => (laws_eqSlotS.mono_l k) _ _ _)
noncomputable def laws_eqSlotS.F (l0 : List (S95)) (l1 : List (S95)) : Option (Bool) := lim (fun k => laws_eqSlotS.f k l0 l1)
theorem laws_eqSlotS.F_co (l0 : List (S95)) (l1 : List (S95)) : Co (fun k => laws_eqSlotS.f k l0 l1) (laws_eqSlotS.F l0 l1) := Co.base (fun k => laws_eqSlotS.mono _ _ k)
theorem laws_eqSlotS.L0_eq (x0 : List (S95)) (x1 : List (S95)) (x5 : Int) : laws_eqSlotS.L0 x0 x1 x5 = (if x5 < (x0.length : Int) then (if 0 ≤ x5 then (if x5 < (x1.length : Int) then ((laws_eqSlot.f ((rd_T95 x0 x5).f0) ((rd_T95 x0 x5).f1) ((rd_T95 x0 x5).f2) ((rd_T95 x1 x5).f0) ((rd_T95 x1 x5).f1) ((rd_T95 x1 x5).f2)).bind fun t171 => (if t171 = true then (laws_eqSlotS.L0 x0 x1 (wrap64 (x5 + 1))) else (some false))) else (none)) else (none)) else (some true)) := by
  refine Co.step (laws_eqSlotS.L0_co x0 x1 x5) (h := fun k => (if x5 < (x0.length : Int) then (if 0 ≤ x5 then (if x5 < (x1.length : Int) then ((laws_eqSlot.f ((rd_T95 x0 x5).f0) ((rd_T95 x0 x5).f1) ((rd_T95 x0 x5).f2) ((rd_T95 x1 x5).f0) ((rd_T95 x1 x5).f1) ((rd_T95 x1 x5).f2)).bind fun t171 => (if t171 = true then (laws_eqSlotS.l0 k x0 x1 (wrap64 (x5 + 1))) else (some false))) else (none)) else (none)) else (some true))) (fun k => by first | rfl | (simp only [laws_eqSlotS.l0])) ?_
  repeat' first
    | (with_reducible exact Co.const _)
    | (with_reducible exact laws_eqSlotS.L0_co _ _ _)
    | (with_reducible refine Co.ite ?_ ?_)
    | (with_reducible refine Co.bind ?_ (fun _ => ?_))
theorem laws_eqSlotS.F_eq (l0 : List (S95)) (l1 : List (S95)) : laws_eqSlotS.F l0 l1 = (if (l0.length : Int) = (l1.length : Int) then (laws_eqSlotS.L0 l0 l1 0) else (some false)) := by
  refine Co.same (laws_eqSlotS.F_co l0 l1) (h := fun k => (if (l0.length : Int) = (l1.length : Int) then (laws_eqSlotS.l0 k l0 l1 0) else (some false))) (fun k => by first | rfl | unfold laws_eqSlotS.f; rfl) ?_
  repeat' first
    | (with_reducible exact Co.const _)
    | (with_reducible exact laws_eqSlotS.L0_co _ _ _)
    | (with_reducible refine Co.ite ?_ ?_)
    | (with_reducible refine Co.bind ?_ (fun _ => ?_))

noncomputable def laws_markSlotS.L0 (x0 : List (S95)) (x1 : Int) (x5 : Int) : Option (Int × (List (S95))) := lim (fun k => laws_markSlotS.l0 k x0 x1 x5)
theorem laws_markSlotS.L0_co (x0 : List (S95)) (x1 : Int) (x5 : Int) : Co (fun k => laws_markSlotS.l0 k x0 x1 x5) (laws_markSlotS.L0 x0 x1 x5) := Co.base (fun k => (laws_markSlotS.mono_l k) _ _ _)
noncomputable def laws_markSlotS.F (l0 : List (S95)) (a1 : Int) : Option (Int × (List (S95))) := lim (fun k => laws_markSlotS.f k l0 a1)
theorem laws_markSlotS.F_co (l0 : List (S95)) (a1 : Int) : Co (fun k => laws_markSlotS.f k l0 a1) (laws_markSlotS.F l0 a1) := Co.base (fun k => laws_markSlotS.mono _ _ k)
theorem laws_markSlotS.L0_eq (x0 : List (S95)) (x1 : Int) (x5 : Int) : laws_markSlotS.L0 x0 x1 x5 = (if x5 < (x0.length : Int) then (if 0 ≤ x5 then ((some (x0.set (x5 : Int).toNat (⟨x1, (rd_T95 x0 x5).f1, (rd_T95 x0 x5).f2⟩ : S95) : List (S95))).bind fun y172 => ((some (y172.set (x5 : Int).toNat (⟨(rd_T95 y172 x5).f0, wrap64 (x1 + 1), (rd_T95 y172 x5).f2⟩ : S95) : List (S95))).bind fun y173 => (laws_markSlotS.L0 (y173.set (x5 : Int).toNat (⟨(rd_T95 y173 x5).f0, (rd_T95 y173 x5).f1, wrap64 ((wrap64 (x1 + 1)) + 1)⟩ : S95)) (wrap64 ((wrap64 ((wrap64 (x1 + 1)) + 1)) + 1)) (wrap64 (x5 + 1))))) else (none)) else (some (x1, x0))) := by
  refine Co.step (laws_markSlotS.L0_co x0 x1 x5) (h := fun k => (if x5 < (x0.length : Int) then (if 0 ≤ x5 then ((some (x0.set (x5 : Int).toNat (⟨x1, (rd_T95 x0 x5).f1, (rd_T95 x0 x5).f2⟩ : S95) : List (S95))).bind fun y172 => ((some (y172.set (x5 : Int).toNat (⟨(rd_T95 y172 x5).f0, wrap64 (x1 + 1), (rd_T95 y172 x5).f2⟩ : S95) : List (S95))).bind fun y173 => (laws_markSlotS.l0 k (y173.set (x5 : Int).toNat (⟨(rd_T95 y173 x5).f0, (rd_T95 y173 x5).f1, wrap64 ((wrap64 (x1 + 1)) + 1)⟩ : S95)) (wrap64 ((wrap64 ((wrap64 (x1 + 1)) + 1)) + 1)) (wrap64 (x5 + 1))))) else (none)) else (some (x1, x0)))) (fun k => by first | rfl | (simp only [laws_markSlotS.l0])) ?_
  repeat' first
    | (with_reducible exact Co.const _)
    | (with_reducible exact laws_markSlotS.L0_co _ _ _)
    | (with_reducible refine Co.ite ?_ ?_)
    | (with_reducible refine Co.bind ?_ (fun _ => ?_))
theorem laws_markSlotS.F_eq (l0 : List (S95)) (a1 : Int) : laws_markSlotS.F l0 a1 = (laws_markSlotS.L0 l0 a1 0) := by
  refine Co.same (laws_markSlotS.F_co l0 a1) (h := fun k => (laws_markSlotS.l0 k l0 a1 0)) (fun k => by first | rfl | unfold laws_markSlotS.f; rfl) ?_
  repeat' first
    | (with_reducible exact Co.const _)
    | (with_reducible exact laws_markSlotS.L0_co _ _ _)
    | (with_reducible refine Co.ite ?_ ?_)
    | (with_reducible refine Co.bind ?_ (fun _ => ?_))

noncomputable def laws_heldSlotS.L0 (x0 : List (S95)) (x1 : Int) (x5 : Int) : Option (Int) := lim (fun k => laws_heldSlotS.l0 k x0 x1 x5)
theorem laws_heldSlotS.L0_co (x0 : List (S95)) (x1 : Int) (x5 : Int) : Co (fun k => laws_heldSlotS.l0 k x0 x1 x5) (laws_heldSlotS.L0 x0 x1 x5) := Co.base (fun k => (laws_heldSlotS.mono_l k) _ _ _)
noncomputable def laws_heldSlotS.F (l0 : List (S95)) (a1 : Int) : Option (Int) := lim (fun k => laws_heldSlotS.f k l0 a1)
theorem laws_heldSlotS.F_co (l0 : List (S95)) (a1 : Int) : Co (fun k => laws_heldSlotS.f k l0 a1) (laws_heldSlotS.F l0 a1) := Co.base (fun k => laws_heldSlotS.mono _ _ k)
theorem laws_heldSlotS.L0_eq (x0 : List (S95)) (x1 : Int) (x5 : Int) : laws_heldSlotS.L0 x0 x1 x5 = (if x5 < (x0.length : Int) then (if 0 ≤ x5 then (if ((rd_T95 x0 x5).f0) = x1 then (if ((rd_T95 x0 x5).f1) = (wrap64 (x1 + 1)) then (if ((rd_T95 x0 x5).f2) = (wrap64 ((wrap64 (x1 + 1)) + 1)) then (laws_heldSlotS.L0 x0 (wrap64 ((wrap64 ((wrap64 (x1 + 1)) + 1)) + 1)) (wrap64 (x5 + 1))) else (some (-1))) else (some (-1))) else (some (-1))) else (none)) else (some x1)) := by
  refine Co.step (laws_heldSlotS.L0_co x0 x1 x5) (h := fun k => (if x5 < (x0.length : Int) then (if 0 ≤ x5 then (if ((rd_T95 x0 x5).f0) = x1 then (if ((rd_T95 x0 x5).f1) = (wrap64 (x1 + 1)) then (if ((rd_T95 x0 x5).f2) = (wrap64 ((wrap64 (x1 + 1)) + 1)) then (laws_heldSlotS.l0 k x0 (wrap64 ((wrap64 ((wrap64 (x1 + 1)) + 1)) + 1)) (wrap64 (x5 + 1))) else (some (-1))) else (some (-1))) else (some (-1))) else (none)) else (some x1))) (fun k => by first | rfl | (simp only [laws_heldSlotS.l0])) ?_
  repeat' first
    | (with_reducible exact Co.const _)
    | (with_reducible exact laws_heldSlotS.L0_co _ _ _)
    | (with_reducible refine Co.ite ?_ ?_)
    | (with_reducible refine Co.bind ?_ (fun _ => ?_))
theorem laws_heldSlotS.F_eq (l0 : List (S95)) (a1 : Int) : laws_heldSlotS.F l0 a1 = (laws_heldSlotS.L0 l0 a1 0) := by
  refine Co.same (laws_heldSlotS.F_co l0 a1) (h := fun k => (laws_heldSlotS.l0 k l0 a1 0)) (fun k => by first | rfl | unfold laws_heldSlotS.f; rfl) ?_
  repeat' first
    | (with_reducible exact Co.const _)
    | (with_reducible exact laws_heldSlotS.L0_co _ _ _)
    | (with_reducible refine Co.ite ?_ ?_)
    | (with_reducible refine Co.bind ?_ (fun _ => ?_))

noncomputable def laws_FnExactTakeOut.J0 (x0 : List (S110)) (x1 : Int) (x6 : List (S95)) (x7 : Bool) (x8 : List (S95)) (x9 : List (S95)) (x10 : Bool) (x44 : Bool) : Option (Bool) := lim (fun k => laws_FnExactTakeOut.j0 k x0 x1 x6 x7 x8 x9 x10 x44)
theorem laws_FnExactTakeOut.J0_co (x0 : List (S110)) (x1 : Int) (x6 : List (S95)) (x7 : Bool) (x8 : List (S95)) (x9 : List (S95)) (x10 : Bool) (x44 : Bool) : Co (fun k => laws_FnExactTakeOut.j0 k x0 x1 x6 x7 x8 x9 x10 x44) (laws_FnExactTakeOut.J0 x0 x1 x6 x7 x8 x9 x10 x44) := Co.base (fun k => (laws_FnExactTakeOut.mono_l k).1 _ _ _ _ _ _ _ _)
noncomputable def laws_FnExactTakeOut.J1 (x0 : List (S110)) (x1 : Int) (x6 : List (S95)) (x7 : Bool) (x9 : List (S95)) (x65 : Bool) : Option (Bool) := lim (fun k => laws_FnExactTakeOut.j1 k x0 x1 x6 x7 x9 x65)
theorem laws_FnExactTakeOut.J1_co (x0 : List (S110)) (x1 : Int) (x6 : List (S95)) (x7 : Bool) (x9 : List (S95)) (x65 : Bool) : Co (fun k => laws_FnExactTakeOut.j1 k x0 x1 x6 x7 x9 x65) (laws_FnExactTakeOut.J1 x0 x1 x6 x7 x9 x65) := Co.base (fun k => (laws_FnExactTakeOut.mono_l k).2.1 _ _ _ _ _ _)
noncomputable def laws_FnExactTakeOut.J2 (x9 : List (S95)) (x12 : Int) (x92 : Bool) : Option (Bool) := lim (fun k => laws_FnExactTakeOut.j2 k x9 x12 x92)
theorem laws_FnExactTakeOut.J2_co (x9 : List (S95)) (x12 : Int) (x92 : Bool) : Co (fun k => laws_FnExactTakeOut.j2 k x9 x12 x92) (laws_FnExactTakeOut.J2 x9 x12 x92) := Co.base (fun k => (laws_FnExactTakeOut.mono_l k).2.2 _ _ _)
noncomputable def laws_FnExactTakeOut.F (l0 : List (S110)) (a1 : Int) : Option (Bool) := lim (fun k => laws_FnExactTakeOut.f k l0 a1)
theorem laws_FnExactTakeOut.F_co (l0 : List (S110)) (a1 : Int) : Co (fun k => laws_FnExactTakeOut.f k l0 a1) (laws_FnExactTakeOut.F l0 a1) := Co.base (fun k => laws_FnExactTakeOut.mono _ _ k)
theorem laws_FnExactTakeOut.J0_eq (x0 : List (S110)) (x1 : Int) (x6 : List (S95)) (x7 : Bool) (x8 : List (S95)) (x9 : List (S95)) (x10 : Bool) (x44 : Bool) : laws_FnExactTakeOut.J0 x0 x1 x6 x7 x8 x9 x10 x44 = (if x44 = true then (some false) else ((laws_toSlotS.F x0).bind fun t194 => ((laws_eqSlotS.F x8 t194).bind fun t197 => (if t197 = true then ((laws_markSlotS.F x8 1).bind fun bt198 => (if bt198.1 < 0 then (laws_FnExactTakeOut.J1 x0 x1 x6 x7 x9 true) else ((laws_eqSlotS.F x9 x6).bind fun t200 => (if t200 = true then (laws_FnExactTakeOut.J1 x0 x1 x6 x7 x9 (x10 != x7)) else (laws_FnExactTakeOut.J1 x0 x1 x6 x7 x9 true))))) else (some false))))) := by
  refine Co.step (laws_FnExactTakeOut.J0_co x0 x1 x6 x7 x8 x9 x10 x44) (h := fun k => (if x44 = true then (some false) else ((laws_toSlotS.f k x0).bind fun t194 => ((laws_eqSlotS.f k x8 t194).bind fun t197 => (if t197 = true then ((laws_markSlotS.f k x8 1).bind fun bt198 => (if bt198.1 < 0 then (laws_FnExactTakeOut.j1 k x0 x1 x6 x7 x9 true) else ((laws_eqSlotS.f k x9 x6).bind fun t200 => (if t200 = true then (laws_FnExactTakeOut.j1 k x0 x1 x6 x7 x9 (x10 != x7)) else (laws_FnExactTakeOut.j1 k x0 x1 x6 x7 x9 true))))) else (some false)))))) (fun k => by first | rfl | (simp only [laws_FnExactTakeOut.j0])) ?_
  repeat' first
    | (with_reducible exact Co.const _)
    | (with_reducible exact laws_FnExactTakeOut.J1_co _ _ _ _ _ _)
    | (with_reducible exact laws_eqSlotS.F_co _ _)
    | (with_reducible exact laws_markSlotS.F_co _ _)
    | (with_reducible exact laws_toSlotS.F_co _)
    | (with_reducible refine Co.ite ?_ ?_)
    | (with_reducible refine Co.bind ?_ (fun _ => ?_))
theorem laws_FnExactTakeOut.J1_eq (x0 : List (S110)) (x1 : Int) (x6 : List (S95)) (x7 : Bool) (x9 : List (S95)) (x65 : Bool) : laws_FnExactTakeOut.J1 x0 x1 x6 x7 x9 x65 = (if x65 = true then (some false) else ((laws_markSlotS.F x9 1).bind fun bt201 => ((laws_heldSlotS.F bt201.2 1).bind fun t203 => (if t203 < 0 then (some false) else (if t203 = bt201.1 then ((laws_toSlotS.F x0).bind fun t204 => ((impl_TakeOut.F t204 x1).bind fun bt207 => ((laws_eqSlotS.F bt207.1 x6).bind fun t211 => (if t211 = true then (laws_FnExactTakeOut.J2 bt201.2 bt201.1 (bt207.2 != x7)) else (laws_FnExactTakeOut.J2 bt201.2 bt201.1 true))))) else (some false)))))) := by
  refine Co.step (laws_FnExactTakeOut.J1_co x0 x1 x6 x7 x9 x65) (h := fun k => (if x65 = true then (some false) else ((laws_markSlotS.f k x9 1).bind fun bt201 => ((laws_heldSlotS.f k bt201.2 1).bind fun t203 => (if t203 < 0 then (some false) else (if t203 = bt201.1 then ((laws_toSlotS.f k x0).bind fun t204 => ((impl_TakeOut.f k t204 x1).bind fun bt207 => ((laws_eqSlotS.f k bt207.1 x6).bind fun t211 => (if t211 = true then (laws_FnExactTakeOut.j2 k bt201.2 bt201.1 (bt207.2 != x7)) else (laws_FnExactTakeOut.j2 k bt201.2 bt201.1 true))))) else (some false))))))) (fun k => by first | rfl | (simp only [laws_FnExactTakeOut.j1])) ?_
  repeat' first
    | (with_reducible exact Co.const _)
    | (with_reducible exact impl_TakeOut.F_co _ _)
    | (with_reducible exact laws_FnExactTakeOut.J2_co _ _ _)
    | (with_reducible exact laws_eqSlotS.F_co _ _)
    | (with_reducible exact laws_heldSlotS.F_co _ _)
    | (with_reducible exact laws_markSlotS.F_co _ _)
    | (with_reducible exact laws_toSlotS.F_co _)
    | (with_reducible refine Co.ite ?_ ?_)
    | (with_reducible refine Co.bind ?_ (fun _ => ?_))
theorem laws_FnExactTakeOut.J2_eq (x9 : List (S95)) (x12 : Int) (x92 : Bool) : laws_FnExactTakeOut.J2 x9 x12 x92 = (if x92 = true then (some false) else ((laws_heldSlotS.F x9 1).bind fun t212 => (if t212 < 0 then (some false) else (if t212 = x12 then (some true) else (some false))))) := by
  refine Co.step (laws_FnExactTakeOut.J2_co x9 x12 x92) (h := fun k => (if x92 = true then (some false) else ((laws_heldSlotS.f k x9 1).bind fun t212 => (if t212 < 0 then (some false) else (if t212 = x12 then (some true) else (some false)))))) (fun k => by first | rfl | (simp only [laws_FnExactTakeOut.j2])) ?_
  repeat' first
    | (with_reducible exact Co.const _)
    | (with_reducible exact laws_heldSlotS.F_co _ _)
    | (with_reducible refine Co.ite ?_ ?_)
    | (with_reducible refine Co.bind ?_ (fun _ => ?_))
theorem laws_FnExactTakeOut.F_eq (l0 : List (S110)) (a1 : Int) : laws_FnExactTakeOut.F l0 a1 = ((laws_szSlotS.f l0 1048576).bind fun t178 => (if t178 < 0 then (some true) else ((laws_toSlotS.F l0).bind fun t179 => ((spec_TakeOut.F t179 a1).bind fun bt182 => ((laws_toSlotS.F l0).bind fun t186 => ((impl_TakeOut.F t186 a1).bind fun bt189 => ((laws_eqSlotS.F bt189.1 bt182.1).bind fun t193 => (if t193 = true then (laws_FnExactTakeOut.J0 l0 a1 bt182.1 bt182.2 t186 bt189.1 bt189.2 (bt189.2 != bt182.2)) else (laws_FnExactTakeOut.J0 l0 a1 bt182.1 bt182.2 t186 bt189.1 bt189.2 true))))))))) := by
  refine Co.same (laws_FnExactTakeOut.F_co l0 a1) (h := fun k => ((laws_szSlotS.f l0 1048576).bind fun t178 => (if t178 < 0 then (some true) else ((laws_toSlotS.f k l0).bind fun t179 => ((spec_TakeOut.f k t179 a1).bind fun bt182 => ((laws_toSlotS.f k l0).bind fun t186 => ((impl_TakeOut.f k t186 a1).bind fun bt189 => ((laws_eqSlotS.f k bt189.1 bt182.1).bind fun t193 => (if t193 = true then (laws_FnExactTakeOut.j0 k l0 a1 bt182.1 bt182.2 t186 bt189.1 bt189.2 (bt189.2 != bt182.2)) else (laws_FnExactTakeOut.j0 k l0 a1 bt182.1 bt182.2 t186 bt189.1 bt189.2 true)))))))))) (fun k => by first | rfl | unfold laws_FnExactTakeOut.f; rfl) ?_
  repeat' first
    | (with_reducible exact Co.const _)
    | (with_reducible exact impl_TakeOut.F_co _ _)
    | (with_reducible exact laws_FnExactTakeOut.J0_co _ _ _ _ _ _ _ _)
    | (with_reducible exact laws_eqSlotS.F_co _ _)
    | (with_reducible exact laws_toSlotS.F_co _)
    | (with_reducible exact spec_TakeOut.F_co _ _)
    | (with_reducible refine Co.ite ?_ ?_)
    | (with_reducible refine Co.bind ?_ (fun _ => ?_))

end Go.Proofs.Ytbbfelgojaioaaa.PFnExactTakeOut.Pure
