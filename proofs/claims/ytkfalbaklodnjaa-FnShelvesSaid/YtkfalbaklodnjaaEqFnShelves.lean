/-
  The printed functions that this law reaches, their rounds used up, and the equations that they meet.
-/
import Derived.Test.YtkfalbaklodnjaaPFnShelvesx10
import Derived.Test.YtkfalbaklodnjaaPFnShelvesx2
import Derived.Test.YtkfalbaklodnjaaPFnShelvesx3
import Derived.Test.YtkfalbaklodnjaaPFnShelvesx4
import Derived.Test.YtkfalbaklodnjaaPFnShelvesx5
import Derived.Test.YtkfalbaklodnjaaPFnShelvesx6
import Derived.Test.YtkfalbaklodnjaaPFnShelvesx7
import Derived.Test.YtkfalbaklodnjaaPFnShelvesx8
import Derived.Test.YtkfalbaklodnjaaPFnShelvesx9
import Derived.Test.YtkfalbaklodnjaaLim
namespace Go.Proofs.Ytkfalbaklodnjaa.PFnShelves.Pure
open Go.RowKit Go.Proofs.YtkfalbaklodnjaaW.PrintWords Go.Proofs.YtkfalbaklodnjaaW.PrintLast Go.Proofs.YtkfalbaklodnjaaW.PrintMore Go.Proofs.Ytkfalbaklodnjaa.PFnShelves Go.Proofs.Ytkfalbaklodnjaa.Lim
set_option linter.unusedVariables false
set_option maxRecDepth 100000

noncomputable def spec_l1New.L0 (x0 : List Int) (x3 : Int) (x4 : Int) : Option (List Int × Int × Int) := lim (fun k => spec_l1New.l0 k x0 x3 x4)
theorem spec_l1New.L0_co (x0 : List Int) (x3 : Int) (x4 : Int) : Co (fun k => spec_l1New.l0 k x0 x3 x4) (spec_l1New.L0 x0 x3 x4) := Co.base (fun k => (spec_l1New.mono_l k) _ _ _)
noncomputable def spec_l1New.F (l0 : List Int) : Option (List Int × Int × Int) := lim (fun k => spec_l1New.f k l0)
theorem spec_l1New.F_co (l0 : List Int) : Co (fun k => spec_l1New.f k l0) (spec_l1New.F l0) := Co.base (fun k => spec_l1New.mono _ k)
theorem spec_l1New.L0_eq (x0 : List Int) (x3 : Int) (x4 : Int) : spec_l1New.L0 x0 x3 x4 = (if x4 < (x0.length : Int) then (if x4 < 4000 then (if 0 ≤ x4 then (spec_l1New.L0 x0 (Go.bits .and .i64 (wrap64 ((wrap64 ((wrap64 (x3 * 137)) + (wrap64 (rd x0 x4)))) + 11)) 1073741823) (wrap64 (x4 + 1))) else (none)) else (some (x0, 0, x3))) else (some (x0, 0, x3))) := by
  refine Co.step (spec_l1New.L0_co x0 x3 x4) (h := fun k => (if x4 < (x0.length : Int) then (if x4 < 4000 then (if 0 ≤ x4 then (spec_l1New.l0 k x0 (Go.bits .and .i64 (wrap64 ((wrap64 ((wrap64 (x3 * 137)) + (wrap64 (rd x0 x4)))) + 11)) 1073741823) (wrap64 (x4 + 1))) else (none)) else (some (x0, 0, x3))) else (some (x0, 0, x3)))) (fun k => by first | rfl | (simp only [spec_l1New.l0])) ?_
  repeat' first
    | (with_reducible exact Co.const _)
    | (with_reducible exact spec_l1New.L0_co _ _ _)
    | (with_reducible refine Co.ite ?_ ?_)
    | (with_reducible refine Co.bind ?_ (fun _ => ?_))
theorem spec_l1New.F_eq (l0 : List Int) : spec_l1New.F l0 = (spec_l1New.L0 l0 (wrap64 (193017 + (l0.length : Int))) 0) := by
  refine Co.same (spec_l1New.F_co l0) (h := fun k => (spec_l1New.l0 k l0 (wrap64 (193017 + (l0.length : Int))) 0)) (fun k => by first | rfl | unfold spec_l1New.f; rfl) ?_
  repeat' first
    | (with_reducible exact Co.const _)
    | (with_reducible exact spec_l1New.L0_co _ _ _)
    | (with_reducible refine Co.ite ?_ ?_)
    | (with_reducible refine Co.bind ?_ (fun _ => ?_))

noncomputable def spec_AreSlots.L0 (x0 : List (S78)) (x3 : Int) : Option (Bool) := lim (fun k => spec_AreSlots.l0 k x0 x3)
theorem spec_AreSlots.L0_co (x0 : List (S78)) (x3 : Int) : Co (fun k => spec_AreSlots.l0 k x0 x3) (spec_AreSlots.L0 x0 x3) := Co.base (fun k => (spec_AreSlots.mono_l k).1 _ _)
noncomputable def spec_AreSlots.J1 (x0 : List (S78)) (x3 : Int) (x53 : Bool) : Option (Bool) := lim (fun k => spec_AreSlots.j1 k x0 x3 x53)
theorem spec_AreSlots.J1_co (x0 : List (S78)) (x3 : Int) (x53 : Bool) : Co (fun k => spec_AreSlots.j1 k x0 x3 x53) (spec_AreSlots.J1 x0 x3 x53) := Co.base (fun k => (spec_AreSlots.mono_l k).2.1 _ _ _)
noncomputable def spec_AreSlots.L1 (x0 : List (S78)) (x3 : Int) (x4 : Int) : Option (Bool) := lim (fun k => spec_AreSlots.l1 k x0 x3 x4)
theorem spec_AreSlots.L1_co (x0 : List (S78)) (x3 : Int) (x4 : Int) : Co (fun k => spec_AreSlots.l1 k x0 x3 x4) (spec_AreSlots.L1 x0 x3 x4) := Co.base (fun k => (spec_AreSlots.mono_l k).2.2 _ _ _)
noncomputable def spec_AreSlots.F (l0 : List (S78)) : Option (Bool) := lim (fun k => spec_AreSlots.f k l0)
theorem spec_AreSlots.F_co (l0 : List (S78)) : Co (fun k => spec_AreSlots.f k l0) (spec_AreSlots.F l0) := Co.base (fun k => spec_AreSlots.mono _ k)
theorem spec_AreSlots.L0_eq (x0 : List (S78)) (x3 : Int) : spec_AreSlots.L0 x0 x3 = (if x3 < (x0.length : Int) then (if 0 ≤ x3 then ((spec_l1In.f ((rd_T78 x0 x3).f0) 1 99).bind fun t122 => (if t122 = true then ((spec_l1In.f ((rd_T78 x0 x3).f1) 1 50).bind fun t124 => (if t124 = true then ((spec_l1In.f ((rd_T78 x0 x3).f2) 0 999).bind fun t126 => (if t126 = true then (if x3 > 0 then (if 0 ≤ (wrap64 (x3 - 1)) then (if (wrap64 (x3 - 1)) < (x0.length : Int) then (spec_AreSlots.J1 x0 x3 (decide (((rd_T78 x0 (wrap64 (x3 - 1))).f0) ≥ ((rd_T78 x0 x3).f0)))) else (none)) else (none)) else (spec_AreSlots.J1 x0 x3 false)) else (spec_AreSlots.J1 x0 x3 true))) else (spec_AreSlots.J1 x0 x3 true))) else (spec_AreSlots.J1 x0 x3 true))) else (none)) else (some (decide ((x0.length : Int) ≤ 30)))) := by
  refine Co.step (spec_AreSlots.L0_co x0 x3) (h := fun k => (if x3 < (x0.length : Int) then (if 0 ≤ x3 then ((spec_l1In.f ((rd_T78 x0 x3).f0) 1 99).bind fun t122 => (if t122 = true then ((spec_l1In.f ((rd_T78 x0 x3).f1) 1 50).bind fun t124 => (if t124 = true then ((spec_l1In.f ((rd_T78 x0 x3).f2) 0 999).bind fun t126 => (if t126 = true then (if x3 > 0 then (if 0 ≤ (wrap64 (x3 - 1)) then (if (wrap64 (x3 - 1)) < (x0.length : Int) then (spec_AreSlots.j1 k x0 x3 (decide (((rd_T78 x0 (wrap64 (x3 - 1))).f0) ≥ ((rd_T78 x0 x3).f0)))) else (none)) else (none)) else (spec_AreSlots.j1 k x0 x3 false)) else (spec_AreSlots.j1 k x0 x3 true))) else (spec_AreSlots.j1 k x0 x3 true))) else (spec_AreSlots.j1 k x0 x3 true))) else (none)) else (some (decide ((x0.length : Int) ≤ 30))))) (fun k => by first | rfl | (simp only [spec_AreSlots.l0])) ?_
  repeat' first
    | (with_reducible exact Co.const _)
    | (with_reducible exact spec_AreSlots.J1_co _ _ _)
    | (with_reducible refine Co.ite ?_ ?_)
    | (with_reducible refine Co.bind ?_ (fun _ => ?_))
theorem spec_AreSlots.J1_eq (x0 : List (S78)) (x3 : Int) (x53 : Bool) : spec_AreSlots.J1 x0 x3 x53 = (if x53 = true then (some false) else (spec_AreSlots.L1 x0 x3 0)) := by
  refine Co.step (spec_AreSlots.J1_co x0 x3 x53) (h := fun k => (if x53 = true then (some false) else (spec_AreSlots.l1 k x0 x3 0))) (fun k => by first | rfl | (simp only [spec_AreSlots.j1])) ?_
  repeat' first
    | (with_reducible exact Co.const _)
    | (with_reducible exact spec_AreSlots.L1_co _ _ _)
    | (with_reducible refine Co.ite ?_ ?_)
    | (with_reducible refine Co.bind ?_ (fun _ => ?_))
theorem spec_AreSlots.L1_eq (x0 : List (S78)) (x3 : Int) (x4 : Int) : spec_AreSlots.L1 x0 x3 x4 = (if x4 < x3 then (if 0 ≤ x3 then (if x3 < (x0.length : Int) then (if ((rd_T78 x0 x3).f2) = 0 then (spec_AreSlots.L1 x0 x3 (wrap64 (x4 + 1))) else (if 0 ≤ x4 then (if x4 < (x0.length : Int) then (if ((rd_T78 x0 x4).f2) = ((rd_T78 x0 x3).f2) then (some false) else (spec_AreSlots.L1 x0 x3 (wrap64 (x4 + 1)))) else (none)) else (none))) else (none)) else (none)) else (spec_AreSlots.L0 x0 (wrap64 (x3 + 1)))) := by
  refine Co.step (spec_AreSlots.L1_co x0 x3 x4) (h := fun k => (if x4 < x3 then (if 0 ≤ x3 then (if x3 < (x0.length : Int) then (if ((rd_T78 x0 x3).f2) = 0 then (spec_AreSlots.l1 k x0 x3 (wrap64 (x4 + 1))) else (if 0 ≤ x4 then (if x4 < (x0.length : Int) then (if ((rd_T78 x0 x4).f2) = ((rd_T78 x0 x3).f2) then (some false) else (spec_AreSlots.l1 k x0 x3 (wrap64 (x4 + 1)))) else (none)) else (none))) else (none)) else (none)) else (spec_AreSlots.l0 k x0 (wrap64 (x3 + 1))))) (fun k => by first | rfl | (simp only [spec_AreSlots.l1])) ?_
  repeat' first
    | (with_reducible exact Co.const _)
    | (with_reducible exact spec_AreSlots.L0_co _ _)
    | (with_reducible exact spec_AreSlots.L1_co _ _ _)
    | (with_reducible refine Co.ite ?_ ?_)
    | (with_reducible refine Co.bind ?_ (fun _ => ?_))
theorem spec_AreSlots.F_eq (l0 : List (S78)) : spec_AreSlots.F l0 = (spec_AreSlots.L0 l0 0) := by
  refine Co.same (spec_AreSlots.F_co l0) (h := fun k => (spec_AreSlots.l0 k l0 0)) (fun k => by first | rfl | unfold spec_AreSlots.f; rfl) ?_
  repeat' first
    | (with_reducible exact Co.const _)
    | (with_reducible exact spec_AreSlots.L0_co _ _)
    | (with_reducible refine Co.ite ?_ ?_)
    | (with_reducible refine Co.bind ?_ (fun _ => ?_))

noncomputable def spec_SlotOf.L0 (x0 : List (S78)) (x1 : Int) (x5 : Int) : Option (Int) := lim (fun k => spec_SlotOf.l0 k x0 x1 x5)
theorem spec_SlotOf.L0_co (x0 : List (S78)) (x1 : Int) (x5 : Int) : Co (fun k => spec_SlotOf.l0 k x0 x1 x5) (spec_SlotOf.L0 x0 x1 x5) := Co.base (fun k => (spec_SlotOf.mono_l k) _ _ _)
noncomputable def spec_SlotOf.F (l0 : List (S78)) (a1 : Int) : Option (Int) := lim (fun k => spec_SlotOf.f k l0 a1)
theorem spec_SlotOf.F_co (l0 : List (S78)) (a1 : Int) : Co (fun k => spec_SlotOf.f k l0 a1) (spec_SlotOf.F l0 a1) := Co.base (fun k => spec_SlotOf.mono _ _ k)
theorem spec_SlotOf.L0_eq (x0 : List (S78)) (x1 : Int) (x5 : Int) : spec_SlotOf.L0 x0 x1 x5 = (if x5 < (x0.length : Int) then (if x1 = 0 then (spec_SlotOf.L0 x0 x1 (wrap64 (x5 + 1))) else (if 0 ≤ x5 then (if ((rd_T78 x0 x5).f2) = x1 then (some ((rd_T78 x0 x5).f0)) else (spec_SlotOf.L0 x0 x1 (wrap64 (x5 + 1)))) else (none))) else (some 0)) := by
  refine Co.step (spec_SlotOf.L0_co x0 x1 x5) (h := fun k => (if x5 < (x0.length : Int) then (if x1 = 0 then (spec_SlotOf.l0 k x0 x1 (wrap64 (x5 + 1))) else (if 0 ≤ x5 then (if ((rd_T78 x0 x5).f2) = x1 then (some ((rd_T78 x0 x5).f0)) else (spec_SlotOf.l0 k x0 x1 (wrap64 (x5 + 1)))) else (none))) else (some 0))) (fun k => by first | rfl | (simp only [spec_SlotOf.l0])) ?_
  repeat' first
    | (with_reducible exact Co.const _)
    | (with_reducible exact spec_SlotOf.L0_co _ _ _)
    | (with_reducible refine Co.ite ?_ ?_)
    | (with_reducible refine Co.bind ?_ (fun _ => ?_))
theorem spec_SlotOf.F_eq (l0 : List (S78)) (a1 : Int) : spec_SlotOf.F l0 a1 = (spec_SlotOf.L0 l0 a1 0) := by
  refine Co.same (spec_SlotOf.F_co l0 a1) (h := fun k => (spec_SlotOf.l0 k l0 a1 0)) (fun k => by first | rfl | unfold spec_SlotOf.f; rfl) ?_
  repeat' first
    | (with_reducible exact Co.const _)
    | (with_reducible exact spec_SlotOf.L0_co _ _ _)
    | (with_reducible refine Co.ite ?_ ?_)
    | (with_reducible refine Co.bind ?_ (fun _ => ?_))

noncomputable def spec_SmallestFree.L0 (x0 : List (S78)) (x1 : Int) (x5 : Int) (x6 : Int) : Option (Int) := lim (fun k => spec_SmallestFree.l0 k x0 x1 x5 x6)
theorem spec_SmallestFree.L0_co (x0 : List (S78)) (x1 : Int) (x5 : Int) (x6 : Int) : Co (fun k => spec_SmallestFree.l0 k x0 x1 x5 x6) (spec_SmallestFree.L0 x0 x1 x5 x6) := Co.base (fun k => (spec_SmallestFree.mono_l k) _ _ _ _)
noncomputable def spec_SmallestFree.F (l0 : List (S78)) (a1 : Int) : Option (Int) := lim (fun k => spec_SmallestFree.f k l0 a1)
theorem spec_SmallestFree.F_co (l0 : List (S78)) (a1 : Int) : Co (fun k => spec_SmallestFree.f k l0 a1) (spec_SmallestFree.F l0 a1) := Co.base (fun k => spec_SmallestFree.mono _ _ k)
theorem spec_SmallestFree.L0_eq (x0 : List (S78)) (x1 : Int) (x5 : Int) (x6 : Int) : spec_SmallestFree.L0 x0 x1 x5 x6 = (if x6 < (x0.length : Int) then (if 0 ≤ x6 then (if ((rd_T78 x0 x6).f2) = 0 then (if ((rd_T78 x0 x6).f1) ≥ x1 then (if x5 < 0 then (spec_SmallestFree.L0 x0 x1 x6 (wrap64 (x6 + 1))) else (if 0 ≤ x5 then (if x5 < (x0.length : Int) then (if ((rd_T78 x0 x6).f1) < ((rd_T78 x0 x5).f1) then (spec_SmallestFree.L0 x0 x1 x6 (wrap64 (x6 + 1))) else (spec_SmallestFree.L0 x0 x1 x5 (wrap64 (x6 + 1)))) else (none)) else (none))) else (spec_SmallestFree.L0 x0 x1 x5 (wrap64 (x6 + 1)))) else (spec_SmallestFree.L0 x0 x1 x5 (wrap64 (x6 + 1)))) else (none)) else (if x5 < 0 then (some 0) else (if 0 ≤ x5 then (if x5 < (x0.length : Int) then (some ((rd_T78 x0 x5).f0)) else (none)) else (none)))) := by
  refine Co.step (spec_SmallestFree.L0_co x0 x1 x5 x6) (h := fun k => (if x6 < (x0.length : Int) then (if 0 ≤ x6 then (if ((rd_T78 x0 x6).f2) = 0 then (if ((rd_T78 x0 x6).f1) ≥ x1 then (if x5 < 0 then (spec_SmallestFree.l0 k x0 x1 x6 (wrap64 (x6 + 1))) else (if 0 ≤ x5 then (if x5 < (x0.length : Int) then (if ((rd_T78 x0 x6).f1) < ((rd_T78 x0 x5).f1) then (spec_SmallestFree.l0 k x0 x1 x6 (wrap64 (x6 + 1))) else (spec_SmallestFree.l0 k x0 x1 x5 (wrap64 (x6 + 1)))) else (none)) else (none))) else (spec_SmallestFree.l0 k x0 x1 x5 (wrap64 (x6 + 1)))) else (spec_SmallestFree.l0 k x0 x1 x5 (wrap64 (x6 + 1)))) else (none)) else (if x5 < 0 then (some 0) else (if 0 ≤ x5 then (if x5 < (x0.length : Int) then (some ((rd_T78 x0 x5).f0)) else (none)) else (none))))) (fun k => by first | rfl | (simp only [spec_SmallestFree.l0])) ?_
  repeat' first
    | (with_reducible exact Co.const _)
    | (with_reducible exact spec_SmallestFree.L0_co _ _ _ _)
    | (with_reducible refine Co.ite ?_ ?_)
    | (with_reducible refine Co.bind ?_ (fun _ => ?_))
theorem spec_SmallestFree.F_eq (l0 : List (S78)) (a1 : Int) : spec_SmallestFree.F l0 a1 = (spec_SmallestFree.L0 l0 a1 (-1) 0) := by
  refine Co.same (spec_SmallestFree.F_co l0 a1) (h := fun k => (spec_SmallestFree.l0 k l0 a1 (-1) 0)) (fun k => by first | rfl | unfold spec_SmallestFree.f; rfl) ?_
  repeat' first
    | (with_reducible exact Co.const _)
    | (with_reducible exact spec_SmallestFree.L0_co _ _ _ _)
    | (with_reducible refine Co.ite ?_ ?_)
    | (with_reducible refine Co.bind ?_ (fun _ => ?_))

noncomputable def spec_PutAway.J0 (x6 : List (S78)) (x7 : Int) (x34 : Bool) (x146000 : Int) (x146001 : Int) (x146002 : Int) (x146003 : Int) (x146004 : Int) : Option ((List (S78)) × Bool) := lim (fun k => spec_PutAway.j0 k x6 x7 x34 x146000 x146001 x146002 x146003 x146004)
theorem spec_PutAway.J0_co (x6 : List (S78)) (x7 : Int) (x34 : Bool) (x146000 : Int) (x146001 : Int) (x146002 : Int) (x146003 : Int) (x146004 : Int) : Co (fun k => spec_PutAway.j0 k x6 x7 x34 x146000 x146001 x146002 x146003 x146004) (spec_PutAway.J0 x6 x7 x34 x146000 x146001 x146002 x146003 x146004) := Co.base (fun k => (spec_PutAway.mono_l k).1 _ _ _ _ _ _ _ _)
noncomputable def spec_PutAway.L0 (x6 : List (S78)) (x7 : Int) (x8 : Int) (x146000 : Int) (x146001 : Int) (x146002 : Int) (x146003 : Int) (x146004 : Int) : Option ((List (S78)) × Bool) := lim (fun k => spec_PutAway.l0 k x6 x7 x8 x146000 x146001 x146002 x146003 x146004)
theorem spec_PutAway.L0_co (x6 : List (S78)) (x7 : Int) (x8 : Int) (x146000 : Int) (x146001 : Int) (x146002 : Int) (x146003 : Int) (x146004 : Int) : Co (fun k => spec_PutAway.l0 k x6 x7 x8 x146000 x146001 x146002 x146003 x146004) (spec_PutAway.L0 x6 x7 x8 x146000 x146001 x146002 x146003 x146004) := Co.base (fun k => (spec_PutAway.mono_l k).2 _ _ _ _ _ _ _ _)
noncomputable def spec_PutAway.F (l0 : List (S78)) (a1_0 : Int) (a1_1 : Int) (a1_2 : Int) (a1_3 : Int) (a1_4 : Int) : Option ((List (S78)) × Bool) := lim (fun k => spec_PutAway.f k l0 a1_0 a1_1 a1_2 a1_3 a1_4)
theorem spec_PutAway.F_co (l0 : List (S78)) (a1_0 : Int) (a1_1 : Int) (a1_2 : Int) (a1_3 : Int) (a1_4 : Int) : Co (fun k => spec_PutAway.f k l0 a1_0 a1_1 a1_2 a1_3 a1_4) (spec_PutAway.F l0 a1_0 a1_1 a1_2 a1_3 a1_4) := Co.base (fun k => spec_PutAway.mono _ _ _ _ _ _ k)
theorem spec_PutAway.J0_eq (x6 : List (S78)) (x7 : Int) (x34 : Bool) (x146000 : Int) (x146001 : Int) (x146002 : Int) (x146003 : Int) (x146004 : Int) : spec_PutAway.J0 x6 x7 x34 x146000 x146001 x146002 x146003 x146004 = (if x34 = true then (some (x6, false)) else (spec_PutAway.L0 x6 x7 0 x146000 x146001 x146002 x146003 x146004)) := by
  refine Co.step (spec_PutAway.J0_co x6 x7 x34 x146000 x146001 x146002 x146003 x146004) (h := fun k => (if x34 = true then (some (x6, false)) else (spec_PutAway.l0 k x6 x7 0 x146000 x146001 x146002 x146003 x146004))) (fun k => by first | rfl | (simp only [spec_PutAway.j0])) ?_
  repeat' first
    | (with_reducible exact Co.const _)
    | (with_reducible exact spec_PutAway.L0_co _ _ _ _ _ _ _ _)
    | (with_reducible refine Co.ite ?_ ?_)
    | (with_reducible refine Co.bind ?_ (fun _ => ?_))
theorem spec_PutAway.L0_eq (x6 : List (S78)) (x7 : Int) (x8 : Int) (x146000 : Int) (x146001 : Int) (x146002 : Int) (x146003 : Int) (x146004 : Int) : spec_PutAway.L0 x6 x7 x8 x146000 x146001 x146002 x146003 x146004 = (if x8 < (x6.length : Int) then (if 0 ≤ x8 then (if ((rd_T78 x6 x8).f0) = x7 then (spec_PutAway.L0 (x6.set (x8 : Int).toNat (⟨(rd_T78 x6 x8).f0, (rd_T78 x6 x8).f1, x146000⟩ : S78)) x7 (wrap64 (x8 + 1)) x146000 x146001 x146002 x146003 x146004) else (spec_PutAway.L0 x6 x7 (wrap64 (x8 + 1)) x146000 x146001 x146002 x146003 x146004)) else (none)) else (some (x6, true))) := by
  refine Co.step (spec_PutAway.L0_co x6 x7 x8 x146000 x146001 x146002 x146003 x146004) (h := fun k => (if x8 < (x6.length : Int) then (if 0 ≤ x8 then (if ((rd_T78 x6 x8).f0) = x7 then (spec_PutAway.l0 k (x6.set (x8 : Int).toNat (⟨(rd_T78 x6 x8).f0, (rd_T78 x6 x8).f1, x146000⟩ : S78)) x7 (wrap64 (x8 + 1)) x146000 x146001 x146002 x146003 x146004) else (spec_PutAway.l0 k x6 x7 (wrap64 (x8 + 1)) x146000 x146001 x146002 x146003 x146004)) else (none)) else (some (x6, true)))) (fun k => by first | rfl | (simp only [spec_PutAway.l0])) ?_
  repeat' first
    | (with_reducible exact Co.const _)
    | (with_reducible exact spec_PutAway.L0_co _ _ _ _ _ _ _ _)
    | (with_reducible refine Co.ite ?_ ?_)
    | (with_reducible refine Co.bind ?_ (fun _ => ?_))
theorem spec_PutAway.F_eq (l0 : List (S78)) (a1_0 : Int) (a1_1 : Int) (a1_2 : Int) (a1_3 : Int) (a1_4 : Int) : spec_PutAway.F l0 a1_0 a1_1 a1_2 a1_3 a1_4 = ((some (([] : List (S78)) : List (S78))).bind fun y146 => (if y146.length + l0.length < 5864062014805 then ((some (y146 ++ l0 : List (S78))).bind fun y149 => ((spec_SmallestFree.F l0 a1_3).bind fun t152 => ((spec_AreSlots.F l0).bind fun t153 => (if t153 = true then ((spec_IsThing.f a1_0 a1_1 a1_2 a1_3 a1_4).bind fun t154 => (if t154 = true then (if t152 = 0 then (spec_PutAway.J0 y149 t152 true a1_0 a1_1 a1_2 a1_3 a1_4) else ((spec_SlotOf.F l0 a1_0).bind fun t155 => (spec_PutAway.J0 y149 t152 (t155 != 0) a1_0 a1_1 a1_2 a1_3 a1_4))) else (spec_PutAway.J0 y149 t152 true a1_0 a1_1 a1_2 a1_3 a1_4))) else (spec_PutAway.J0 y149 t152 true a1_0 a1_1 a1_2 a1_3 a1_4))))) else (none))) := by
  refine Co.same (spec_PutAway.F_co l0 a1_0 a1_1 a1_2 a1_3 a1_4) (h := fun k => ((some (([] : List (S78)) : List (S78))).bind fun y146 => (if y146.length + l0.length < 5864062014805 then ((some (y146 ++ l0 : List (S78))).bind fun y149 => ((spec_SmallestFree.f k l0 a1_3).bind fun t152 => ((spec_AreSlots.f k l0).bind fun t153 => (if t153 = true then ((spec_IsThing.f a1_0 a1_1 a1_2 a1_3 a1_4).bind fun t154 => (if t154 = true then (if t152 = 0 then (spec_PutAway.j0 k y149 t152 true a1_0 a1_1 a1_2 a1_3 a1_4) else ((spec_SlotOf.f k l0 a1_0).bind fun t155 => (spec_PutAway.j0 k y149 t152 (t155 != 0) a1_0 a1_1 a1_2 a1_3 a1_4))) else (spec_PutAway.j0 k y149 t152 true a1_0 a1_1 a1_2 a1_3 a1_4))) else (spec_PutAway.j0 k y149 t152 true a1_0 a1_1 a1_2 a1_3 a1_4))))) else (none)))) (fun k => by first | rfl | unfold spec_PutAway.f; rfl) ?_
  repeat' first
    | (with_reducible exact Co.const _)
    | (with_reducible exact spec_AreSlots.F_co _)
    | (with_reducible exact spec_PutAway.J0_co _ _ _ _ _ _ _ _)
    | (with_reducible exact spec_SlotOf.F_co _ _)
    | (with_reducible exact spec_SmallestFree.F_co _ _)
    | (with_reducible refine Co.ite ?_ ?_)
    | (with_reducible refine Co.bind ?_ (fun _ => ?_))

noncomputable def spec_l14Draw.L0 (x3 : List (S78)) (x4 : Int) (x1000 : List Int) (x1001 : Int) (x1002 : Int) : Option ((List (S78)) × Int × Int) := lim (fun k => spec_l14Draw.l0 k x3 x4 x1000 x1001 x1002)
theorem spec_l14Draw.L0_co (x3 : List (S78)) (x4 : Int) (x1000 : List Int) (x1001 : Int) (x1002 : Int) : Co (fun k => spec_l14Draw.l0 k x3 x4 x1000 x1001 x1002) (spec_l14Draw.L0 x3 x4 x1000 x1001 x1002) := Co.base (fun k => (spec_l14Draw.mono_l k).1 _ _ _ _ _)
noncomputable def spec_l14Draw.L1 (x3 : List (S78)) (x5 : Int) (x1000 : List Int) (x1001 : Int) (x1002 : Int) : Option ((List (S78)) × Int × Int) := lim (fun k => spec_l14Draw.l1 k x3 x5 x1000 x1001 x1002)
theorem spec_l14Draw.L1_co (x3 : List (S78)) (x5 : Int) (x1000 : List Int) (x1001 : Int) (x1002 : Int) : Co (fun k => spec_l14Draw.l1 k x3 x5 x1000 x1001 x1002) (spec_l14Draw.L1 x3 x5 x1000 x1001 x1002) := Co.base (fun k => (spec_l14Draw.mono_l k).2 _ _ _ _ _)
noncomputable def spec_l14Draw.F (s0_0 : List Int) (s0_1 : Int) (s0_2 : Int) : Option ((List (S78)) × Int × Int) := lim (fun k => spec_l14Draw.f k s0_0 s0_1 s0_2)
theorem spec_l14Draw.F_co (s0_0 : List Int) (s0_1 : Int) (s0_2 : Int) : Co (fun k => spec_l14Draw.f k s0_0 s0_1 s0_2) (spec_l14Draw.F s0_0 s0_1 s0_2) := Co.base (fun k => spec_l14Draw.mono _ _ _ k)
theorem spec_l14Draw.L0_eq (x3 : List (S78)) (x4 : Int) (x1000 : List Int) (x1001 : Int) (x1002 : Int) : spec_l14Draw.L0 x3 x4 x1000 x1001 x1002 = ((spec_l1Below.f x1000 x1001 x1002 7).bind fun bt174 => (if x4 ≤ (wrap64 (2 + bt174.1)) then ((spec_l1Below.f x1000 bt174.2.1 bt174.2.2 6).bind fun bt177 => (if x3.length < 5864062014805 then (spec_l14Draw.L0 (x3 ++ [(⟨x4, wrap64 (5 * (wrap64 (1 + bt177.1))), 0⟩ : S78)]) (wrap64 (x4 + 1)) x1000 bt177.2.1 bt177.2.2) else (none))) else ((spec_l1Below.f x1000 bt174.2.1 bt174.2.2 5).bind fun bt183 => (spec_l14Draw.L1 x3 bt183.1 x1000 bt183.2.1 bt183.2.2)))) := by
  refine Co.step (spec_l14Draw.L0_co x3 x4 x1000 x1001 x1002) (h := fun k => ((spec_l1Below.f x1000 x1001 x1002 7).bind fun bt174 => (if x4 ≤ (wrap64 (2 + bt174.1)) then ((spec_l1Below.f x1000 bt174.2.1 bt174.2.2 6).bind fun bt177 => (if x3.length < 5864062014805 then (spec_l14Draw.l0 k (x3 ++ [(⟨x4, wrap64 (5 * (wrap64 (1 + bt177.1))), 0⟩ : S78)]) (wrap64 (x4 + 1)) x1000 bt177.2.1 bt177.2.2) else (none))) else ((spec_l1Below.f x1000 bt174.2.1 bt174.2.2 5).bind fun bt183 => (spec_l14Draw.l1 k x3 bt183.1 x1000 bt183.2.1 bt183.2.2))))) (fun k => by first | rfl | (simp only [spec_l14Draw.l0])) ?_
  repeat' first
    | (with_reducible exact Co.const _)
    | (with_reducible exact spec_l14Draw.L0_co _ _ _ _ _)
    | (with_reducible exact spec_l14Draw.L1_co _ _ _ _ _)
    | (with_reducible refine Co.ite ?_ ?_)
    | (with_reducible refine Co.bind ?_ (fun _ => ?_))
theorem spec_l14Draw.L1_eq (x3 : List (S78)) (x5 : Int) (x1000 : List Int) (x1001 : Int) (x1002 : Int) : spec_l14Draw.L1 x3 x5 x1000 x1001 x1002 = (if x5 > 0 then ((spec_l1Below.f x1000 x1001 x1002 20).bind fun bt186 => ((spec_l4Draw.f x1000 bt186.2.1 bt186.2.2 (wrap64 (1 + bt186.1))).bind fun bt189 => ((spec_PutAway.F x3 bt189.1 bt189.2.1 bt189.2.2.1 bt189.2.2.2.1 bt189.2.2.2.2.1).bind fun bt196 => (spec_l14Draw.L1 bt196.1 (wrap64 (x5 - 1)) x1000 bt189.2.2.2.2.2.1 bt189.2.2.2.2.2.2)))) else (some (x3, x1001, x1002))) := by
  refine Co.step (spec_l14Draw.L1_co x3 x5 x1000 x1001 x1002) (h := fun k => (if x5 > 0 then ((spec_l1Below.f x1000 x1001 x1002 20).bind fun bt186 => ((spec_l4Draw.f x1000 bt186.2.1 bt186.2.2 (wrap64 (1 + bt186.1))).bind fun bt189 => ((spec_PutAway.f k x3 bt189.1 bt189.2.1 bt189.2.2.1 bt189.2.2.2.1 bt189.2.2.2.2.1).bind fun bt196 => (spec_l14Draw.l1 k bt196.1 (wrap64 (x5 - 1)) x1000 bt189.2.2.2.2.2.1 bt189.2.2.2.2.2.2)))) else (some (x3, x1001, x1002)))) (fun k => by first | rfl | (simp only [spec_l14Draw.l1])) ?_
  repeat' first
    | (with_reducible exact Co.const _)
    | (with_reducible exact spec_PutAway.F_co _ _ _ _ _ _)
    | (with_reducible exact spec_l14Draw.L1_co _ _ _ _ _)
    | (with_reducible refine Co.ite ?_ ?_)
    | (with_reducible refine Co.bind ?_ (fun _ => ?_))
theorem spec_l14Draw.F_eq (s0_0 : List Int) (s0_1 : Int) (s0_2 : Int) : spec_l14Draw.F s0_0 s0_1 s0_2 = (spec_l14Draw.L0 (([] : List (S78))) 1 s0_0 s0_1 s0_2) := by
  refine Co.same (spec_l14Draw.F_co s0_0 s0_1 s0_2) (h := fun k => (spec_l14Draw.l0 k (([] : List (S78))) 1 s0_0 s0_1 s0_2)) (fun k => by first | rfl | unfold spec_l14Draw.f; rfl) ?_
  repeat' first
    | (with_reducible exact Co.const _)
    | (with_reducible exact spec_l14Draw.L0_co _ _ _ _ _)
    | (with_reducible refine Co.ite ?_ ?_)
    | (with_reducible refine Co.bind ?_ (fun _ => ?_))

noncomputable def spec_l14Any.F (s0_0 : List Int) (s0_1 : Int) (s0_2 : Int) : Option ((List (S78)) × Int × Int) := lim (fun k => spec_l14Any.f k s0_0 s0_1 s0_2)
theorem spec_l14Any.F_co (s0_0 : List Int) (s0_1 : Int) (s0_2 : Int) : Co (fun k => spec_l14Any.f k s0_0 s0_1 s0_2) (spec_l14Any.F s0_0 s0_1 s0_2) := Co.base (fun k => spec_l14Any.mono _ _ _ k)
theorem spec_l14Any.F_eq (s0_0 : List Int) (s0_1 : Int) (s0_2 : Int) : spec_l14Any.F s0_0 s0_1 s0_2 = ((spec_l14Draw.F s0_0 s0_1 s0_2).bind fun bt206 => ((spec_l1Below.f s0_0 bt206.2.1 bt206.2.2 (bt206.1.length : Int)).bind fun bt211 => ((spec_l1Below.f s0_0 bt211.2.1 bt211.2.2 10).bind fun bt214 => (if bt214.1 = 0 then ((spec_l1Int.f s0_0 bt214.2.1 bt214.2.2 (([0, 1, 99, 100] : List Int))).bind fun bt220 => (if 0 ≤ bt211.1 then (if bt211.1 < (bt206.1.length : Int) then (some ((bt206.1.set (bt211.1 : Int).toNat (⟨bt220.1, (rd_T78 bt206.1 bt211.1).f1, (rd_T78 bt206.1 bt211.1).f2⟩ : S78)), bt220.2.1, bt220.2.2)) else (none)) else (none))) else (if bt214.1 = 1 then ((spec_l4Raw.f s0_0 bt214.2.1 bt214.2.2).bind fun bt224 => (if 0 ≤ bt211.1 then (if bt211.1 < (bt206.1.length : Int) then (some ((bt206.1.set (bt211.1 : Int).toNat (⟨(rd_T78 bt206.1 bt211.1).f0, bt224.1, (rd_T78 bt206.1 bt211.1).f2⟩ : S78)), bt224.2.1, bt224.2.2)) else (none)) else (none))) else (if bt214.1 = 2 then ((spec_l1Int.f s0_0 bt214.2.1 bt214.2.2 (([(-1), 999, 1000] : List Int))).bind fun bt231 => (if 0 ≤ bt211.1 then (if bt211.1 < (bt206.1.length : Int) then (some ((bt206.1.set (bt211.1 : Int).toNat (⟨(rd_T78 bt206.1 bt211.1).f0, (rd_T78 bt206.1 bt211.1).f1, bt231.1⟩ : S78)), bt231.2.1, bt231.2.2)) else (none)) else (none))) else (if bt214.1 = 3 then (if 0 < (bt206.1.length : Int) then (if 0 ≤ bt211.1 then (if bt211.1 < (bt206.1.length : Int) then (some ((bt206.1.set (bt211.1 : Int).toNat (⟨(rd_T78 bt206.1 bt211.1).f0, (rd_T78 bt206.1 bt211.1).f1, (rd_T78 bt206.1 0).f2⟩ : S78)), bt214.2.1, bt214.2.2)) else (none)) else (none)) else (none)) else (some (bt206.1, bt214.2.1, bt214.2.2))))))))) := by
  refine Co.same (spec_l14Any.F_co s0_0 s0_1 s0_2) (h := fun k => ((spec_l14Draw.f k s0_0 s0_1 s0_2).bind fun bt206 => ((spec_l1Below.f s0_0 bt206.2.1 bt206.2.2 (bt206.1.length : Int)).bind fun bt211 => ((spec_l1Below.f s0_0 bt211.2.1 bt211.2.2 10).bind fun bt214 => (if bt214.1 = 0 then ((spec_l1Int.f s0_0 bt214.2.1 bt214.2.2 (([0, 1, 99, 100] : List Int))).bind fun bt220 => (if 0 ≤ bt211.1 then (if bt211.1 < (bt206.1.length : Int) then (some ((bt206.1.set (bt211.1 : Int).toNat (⟨bt220.1, (rd_T78 bt206.1 bt211.1).f1, (rd_T78 bt206.1 bt211.1).f2⟩ : S78)), bt220.2.1, bt220.2.2)) else (none)) else (none))) else (if bt214.1 = 1 then ((spec_l4Raw.f s0_0 bt214.2.1 bt214.2.2).bind fun bt224 => (if 0 ≤ bt211.1 then (if bt211.1 < (bt206.1.length : Int) then (some ((bt206.1.set (bt211.1 : Int).toNat (⟨(rd_T78 bt206.1 bt211.1).f0, bt224.1, (rd_T78 bt206.1 bt211.1).f2⟩ : S78)), bt224.2.1, bt224.2.2)) else (none)) else (none))) else (if bt214.1 = 2 then ((spec_l1Int.f s0_0 bt214.2.1 bt214.2.2 (([(-1), 999, 1000] : List Int))).bind fun bt231 => (if 0 ≤ bt211.1 then (if bt211.1 < (bt206.1.length : Int) then (some ((bt206.1.set (bt211.1 : Int).toNat (⟨(rd_T78 bt206.1 bt211.1).f0, (rd_T78 bt206.1 bt211.1).f1, bt231.1⟩ : S78)), bt231.2.1, bt231.2.2)) else (none)) else (none))) else (if bt214.1 = 3 then (if 0 < (bt206.1.length : Int) then (if 0 ≤ bt211.1 then (if bt211.1 < (bt206.1.length : Int) then (some ((bt206.1.set (bt211.1 : Int).toNat (⟨(rd_T78 bt206.1 bt211.1).f0, (rd_T78 bt206.1 bt211.1).f1, (rd_T78 bt206.1 0).f2⟩ : S78)), bt214.2.1, bt214.2.2)) else (none)) else (none)) else (none)) else (some (bt206.1, bt214.2.1, bt214.2.2)))))))))) (fun k => by first | rfl | unfold spec_l14Any.f; rfl) ?_
  repeat' first
    | (with_reducible exact Co.const _)
    | (with_reducible exact spec_l14Draw.F_co _ _ _)
    | (with_reducible refine Co.ite ?_ ?_)
    | (with_reducible refine Co.bind ?_ (fun _ => ?_))

noncomputable def spec_DrawPutAway.F (l0 : List Int) : Option ((List (S78)) × Int × Int × Int × Int × Int) := lim (fun k => spec_DrawPutAway.f k l0)
theorem spec_DrawPutAway.F_co (l0 : List Int) : Co (fun k => spec_DrawPutAway.f k l0) (spec_DrawPutAway.F l0) := Co.base (fun k => spec_DrawPutAway.mono _ k)
theorem spec_DrawPutAway.F_eq (l0 : List Int) : spec_DrawPutAway.F l0 = ((spec_l1New.F l0).bind fun bt280 => ((spec_l14Any.F bt280.1 bt280.2.1 bt280.2.2).bind fun bt284 => ((spec_l4Any.f bt280.1 bt284.2.1 bt284.2.2).bind fun bt289 => (some (bt284.1, bt289.1, bt289.2.1, bt289.2.2.1, bt289.2.2.2.1, bt289.2.2.2.2.1))))) := by
  refine Co.same (spec_DrawPutAway.F_co l0) (h := fun k => ((spec_l1New.f k l0).bind fun bt280 => ((spec_l14Any.f k bt280.1 bt280.2.1 bt280.2.2).bind fun bt284 => ((spec_l4Any.f bt280.1 bt284.2.1 bt284.2.2).bind fun bt289 => (some (bt284.1, bt289.1, bt289.2.1, bt289.2.2.1, bt289.2.2.2.1, bt289.2.2.2.2.1)))))) (fun k => by first | rfl | unfold spec_DrawPutAway.f; rfl) ?_
  repeat' first
    | (with_reducible exact Co.const _)
    | (with_reducible exact spec_l14Any.F_co _ _ _)
    | (with_reducible exact spec_l1New.F_co _)
    | (with_reducible refine Co.ite ?_ ?_)
    | (with_reducible refine Co.bind ?_ (fun _ => ?_))

noncomputable def impl_AreSlots.L0 (x0 : List (S78)) (x8 : List (S78)) (x9 : Int) (x10 : Int) : Option (Bool) := lim (fun k => impl_AreSlots.l0 k x0 x8 x9 x10)
theorem impl_AreSlots.L0_co (x0 : List (S78)) (x8 : List (S78)) (x9 : Int) (x10 : Int) : Co (fun k => impl_AreSlots.l0 k x0 x8 x9 x10) (impl_AreSlots.L0 x0 x8 x9 x10) := Co.base (fun k => (impl_AreSlots.mono_l k) _ _ _ _)
noncomputable def impl_AreSlots.F (l0 : List (S78)) : Option (Bool) := lim (fun k => impl_AreSlots.f k l0)
theorem impl_AreSlots.F_co (l0 : List (S78)) : Co (fun k => impl_AreSlots.f k l0) (impl_AreSlots.F l0) := Co.base (fun k => impl_AreSlots.mono _ k)
theorem impl_AreSlots.L0_eq (x0 : List (S78)) (x8 : List (S78)) (x9 : Int) (x10 : Int) : impl_AreSlots.L0 x0 x8 x9 x10 = (if x10 < x9 then (if 0 ≤ x10 then (if x10 < (x8.length : Int) then ((impl_InRange.f ((rd_T78 x8 x10).f0) 1 99).bind fun t300 => (if t300 = true then (if x10 > 0 then (if 0 ≤ (wrap64 (x10 - 1)) then (if (wrap64 (x10 - 1)) < (x0.length : Int) then (if ((rd_T78 x8 x10).f0) ≤ ((rd_T78 x0 (wrap64 (x10 - 1))).f0) then (some false) else ((impl_InRange.f ((rd_T78 x8 x10).f1) 1 50).bind fun t302 => (if t302 = true then ((impl_InRange.f ((rd_T78 x8 x10).f2) 0 999).bind fun t303 => (if t303 = true then (if x10 ≤ (x0.length : Int) then ((impl_SlotOf.f (x0.take (x10 : Int).toNat) ((rd_T78 x8 x10).f2)).bind fun t308 => (if t308 = 0 then (impl_AreSlots.L0 x0 x8 x9 (wrap64 (x10 + 1))) else (some false))) else (none)) else (some false))) else (some false)))) else (none)) else (none)) else ((impl_InRange.f ((rd_T78 x8 x10).f1) 1 50).bind fun t309 => (if t309 = true then ((impl_InRange.f ((rd_T78 x8 x10).f2) 0 999).bind fun t310 => (if t310 = true then (if x10 ≤ (x0.length : Int) then ((impl_SlotOf.f (x0.take (x10 : Int).toNat) ((rd_T78 x8 x10).f2)).bind fun t315 => (if t315 = 0 then (impl_AreSlots.L0 x0 x8 x9 (wrap64 (x10 + 1))) else (some false))) else (none)) else (some false))) else (some false)))) else (some false))) else (none)) else (none)) else (some true)) := by
  refine Co.step (impl_AreSlots.L0_co x0 x8 x9 x10) (h := fun k => (if x10 < x9 then (if 0 ≤ x10 then (if x10 < (x8.length : Int) then ((impl_InRange.f ((rd_T78 x8 x10).f0) 1 99).bind fun t300 => (if t300 = true then (if x10 > 0 then (if 0 ≤ (wrap64 (x10 - 1)) then (if (wrap64 (x10 - 1)) < (x0.length : Int) then (if ((rd_T78 x8 x10).f0) ≤ ((rd_T78 x0 (wrap64 (x10 - 1))).f0) then (some false) else ((impl_InRange.f ((rd_T78 x8 x10).f1) 1 50).bind fun t302 => (if t302 = true then ((impl_InRange.f ((rd_T78 x8 x10).f2) 0 999).bind fun t303 => (if t303 = true then (if x10 ≤ (x0.length : Int) then ((impl_SlotOf.f (x0.take (x10 : Int).toNat) ((rd_T78 x8 x10).f2)).bind fun t308 => (if t308 = 0 then (impl_AreSlots.l0 k x0 x8 x9 (wrap64 (x10 + 1))) else (some false))) else (none)) else (some false))) else (some false)))) else (none)) else (none)) else ((impl_InRange.f ((rd_T78 x8 x10).f1) 1 50).bind fun t309 => (if t309 = true then ((impl_InRange.f ((rd_T78 x8 x10).f2) 0 999).bind fun t310 => (if t310 = true then (if x10 ≤ (x0.length : Int) then ((impl_SlotOf.f (x0.take (x10 : Int).toNat) ((rd_T78 x8 x10).f2)).bind fun t315 => (if t315 = 0 then (impl_AreSlots.l0 k x0 x8 x9 (wrap64 (x10 + 1))) else (some false))) else (none)) else (some false))) else (some false)))) else (some false))) else (none)) else (none)) else (some true))) (fun k => by first | rfl | (simp only [impl_AreSlots.l0])) ?_
  repeat' first
    | (with_reducible exact Co.const _)
    | (with_reducible exact impl_AreSlots.L0_co _ _ _ _)
    | (with_reducible refine Co.ite ?_ ?_)
    | (with_reducible refine Co.bind ?_ (fun _ => ?_))
theorem impl_AreSlots.F_eq (l0 : List (S78)) : impl_AreSlots.F l0 = (if (l0.length : Int) > 30 then (some false) else (impl_AreSlots.L0 l0 l0 (l0.length : Int) 0)) := by
  refine Co.same (impl_AreSlots.F_co l0) (h := fun k => (if (l0.length : Int) > 30 then (some false) else (impl_AreSlots.l0 k l0 l0 (l0.length : Int) 0))) (fun k => by first | rfl | unfold impl_AreSlots.f; rfl) ?_
  repeat' first
    | (with_reducible exact Co.const _)
    | (with_reducible exact impl_AreSlots.L0_co _ _ _ _)
    | (with_reducible refine Co.ite ?_ ?_)
    | (with_reducible refine Co.bind ?_ (fun _ => ?_))

noncomputable def impl_freeFor.L0 (x0 : List (S78)) (x1 : Int) (x5 : Int) (x8 : List (S78)) (x9 : Int) (x10 : Int) : Option (Int) := lim (fun k => impl_freeFor.l0 k x0 x1 x5 x8 x9 x10)
theorem impl_freeFor.L0_co (x0 : List (S78)) (x1 : Int) (x5 : Int) (x8 : List (S78)) (x9 : Int) (x10 : Int) : Co (fun k => impl_freeFor.l0 k x0 x1 x5 x8 x9 x10) (impl_freeFor.L0 x0 x1 x5 x8 x9 x10) := Co.base (fun k => (impl_freeFor.mono_l k) _ _ _ _ _ _)
noncomputable def impl_freeFor.F (l0 : List (S78)) (a1 : Int) : Option (Int) := lim (fun k => impl_freeFor.f k l0 a1)
theorem impl_freeFor.F_co (l0 : List (S78)) (a1 : Int) : Co (fun k => impl_freeFor.f k l0 a1) (impl_freeFor.F l0 a1) := Co.base (fun k => impl_freeFor.mono _ _ k)
theorem impl_freeFor.L0_eq (x0 : List (S78)) (x1 : Int) (x5 : Int) (x8 : List (S78)) (x9 : Int) (x10 : Int) : impl_freeFor.L0 x0 x1 x5 x8 x9 x10 = (if x10 < x9 then (if 0 ≤ x10 then (if x10 < (x8.length : Int) then (if ((rd_T78 x8 x10).f2) = 0 then (if ((rd_T78 x8 x10).f1) ≥ x1 then (if x5 < 0 then (impl_freeFor.L0 x0 x1 x10 x8 x9 (wrap64 (x10 + 1))) else (if 0 ≤ x5 then (if x5 < (x0.length : Int) then (if ((rd_T78 x8 x10).f1) < ((rd_T78 x0 x5).f1) then (impl_freeFor.L0 x0 x1 x10 x8 x9 (wrap64 (x10 + 1))) else (impl_freeFor.L0 x0 x1 x5 x8 x9 (wrap64 (x10 + 1)))) else (none)) else (none))) else (impl_freeFor.L0 x0 x1 x5 x8 x9 (wrap64 (x10 + 1)))) else (impl_freeFor.L0 x0 x1 x5 x8 x9 (wrap64 (x10 + 1)))) else (none)) else (none)) else (some x5)) := by
  refine Co.step (impl_freeFor.L0_co x0 x1 x5 x8 x9 x10) (h := fun k => (if x10 < x9 then (if 0 ≤ x10 then (if x10 < (x8.length : Int) then (if ((rd_T78 x8 x10).f2) = 0 then (if ((rd_T78 x8 x10).f1) ≥ x1 then (if x5 < 0 then (impl_freeFor.l0 k x0 x1 x10 x8 x9 (wrap64 (x10 + 1))) else (if 0 ≤ x5 then (if x5 < (x0.length : Int) then (if ((rd_T78 x8 x10).f1) < ((rd_T78 x0 x5).f1) then (impl_freeFor.l0 k x0 x1 x10 x8 x9 (wrap64 (x10 + 1))) else (impl_freeFor.l0 k x0 x1 x5 x8 x9 (wrap64 (x10 + 1)))) else (none)) else (none))) else (impl_freeFor.l0 k x0 x1 x5 x8 x9 (wrap64 (x10 + 1)))) else (impl_freeFor.l0 k x0 x1 x5 x8 x9 (wrap64 (x10 + 1)))) else (none)) else (none)) else (some x5))) (fun k => by first | rfl | (simp only [impl_freeFor.l0])) ?_
  repeat' first
    | (with_reducible exact Co.const _)
    | (with_reducible exact impl_freeFor.L0_co _ _ _ _ _ _)
    | (with_reducible refine Co.ite ?_ ?_)
    | (with_reducible refine Co.bind ?_ (fun _ => ?_))
theorem impl_freeFor.F_eq (l0 : List (S78)) (a1 : Int) : impl_freeFor.F l0 a1 = (impl_freeFor.L0 l0 a1 (-1) l0 (l0.length : Int) 0) := by
  refine Co.same (impl_freeFor.F_co l0 a1) (h := fun k => (impl_freeFor.l0 k l0 a1 (-1) l0 (l0.length : Int) 0)) (fun k => by first | rfl | unfold impl_freeFor.f; rfl) ?_
  repeat' first
    | (with_reducible exact Co.const _)
    | (with_reducible exact impl_freeFor.L0_co _ _ _ _ _ _)
    | (with_reducible refine Co.ite ?_ ?_)
    | (with_reducible refine Co.bind ?_ (fun _ => ?_))

noncomputable def impl_PutAway.F (l0 : List (S78)) (a1_0 : Int) (a1_1 : Int) (a1_2 : Int) (a1_3 : Int) (a1_4 : Int) : Option ((List (S78)) × Bool) := lim (fun k => impl_PutAway.f k l0 a1_0 a1_1 a1_2 a1_3 a1_4)
theorem impl_PutAway.F_co (l0 : List (S78)) (a1_0 : Int) (a1_1 : Int) (a1_2 : Int) (a1_3 : Int) (a1_4 : Int) : Co (fun k => impl_PutAway.f k l0 a1_0 a1_1 a1_2 a1_3 a1_4) (impl_PutAway.F l0 a1_0 a1_1 a1_2 a1_3 a1_4) := Co.base (fun k => impl_PutAway.mono _ _ _ _ _ _ k)
theorem impl_PutAway.F_eq (l0 : List (S78)) (a1_0 : Int) (a1_1 : Int) (a1_2 : Int) (a1_3 : Int) (a1_4 : Int) : impl_PutAway.F l0 a1_0 a1_1 a1_2 a1_3 a1_4 = ((impl_Slot_124.f l0).bind fun t332 => ((impl_freeFor.F l0 a1_3).bind fun t335 => ((impl_AreSlots.F l0).bind fun t336 => (if t336 = true then ((impl_IsThing.f a1_0 a1_1 a1_2 a1_3 a1_4).bind fun t337 => (if t337 = true then (if t335 < 0 then (some (t332, false)) else ((impl_slotWith.f l0 a1_0).bind fun t338 => (if t338 ≥ 0 then (some (t332, false)) else (if 0 ≤ t335 then (if t335 < (t332.length : Int) then (some ((t332.set (t335 : Int).toNat (⟨(rd_T78 t332 t335).f0, (rd_T78 t332 t335).f1, a1_0⟩ : S78)), true)) else (none)) else (none))))) else (some (t332, false)))) else (some (t332, false)))))) := by
  refine Co.same (impl_PutAway.F_co l0 a1_0 a1_1 a1_2 a1_3 a1_4) (h := fun k => ((impl_Slot_124.f l0).bind fun t332 => ((impl_freeFor.f k l0 a1_3).bind fun t335 => ((impl_AreSlots.f k l0).bind fun t336 => (if t336 = true then ((impl_IsThing.f a1_0 a1_1 a1_2 a1_3 a1_4).bind fun t337 => (if t337 = true then (if t335 < 0 then (some (t332, false)) else ((impl_slotWith.f l0 a1_0).bind fun t338 => (if t338 ≥ 0 then (some (t332, false)) else (if 0 ≤ t335 then (if t335 < (t332.length : Int) then (some ((t332.set (t335 : Int).toNat (⟨(rd_T78 t332 t335).f0, (rd_T78 t332 t335).f1, a1_0⟩ : S78)), true)) else (none)) else (none))))) else (some (t332, false)))) else (some (t332, false))))))) (fun k => by first | rfl | unfold impl_PutAway.f; rfl) ?_
  repeat' first
    | (with_reducible exact Co.const _)
    | (with_reducible exact impl_AreSlots.F_co _)
    | (with_reducible exact impl_freeFor.F_co _ _)
    | (with_reducible refine Co.ite ?_ ?_)
    | (with_reducible refine Co.bind ?_ (fun _ => ?_))

noncomputable def impl_TakeOut.F (l0 : List (S78)) (a1 : Int) : Option ((List (S78)) × Bool) := lim (fun k => impl_TakeOut.f k l0 a1)
theorem impl_TakeOut.F_co (l0 : List (S78)) (a1 : Int) : Co (fun k => impl_TakeOut.f k l0 a1) (impl_TakeOut.F l0 a1) := Co.base (fun k => impl_TakeOut.mono _ _ k)
theorem impl_TakeOut.F_eq (l0 : List (S78)) (a1 : Int) : impl_TakeOut.F l0 a1 = ((impl_Slot_124.f l0).bind fun t340 => ((impl_slotWith.f l0 a1).bind fun t343 => ((impl_AreSlots.F l0).bind fun t344 => (if t344 = true then (if t343 < 0 then (some (t340, false)) else (if 0 ≤ t343 then (if t343 < (t340.length : Int) then (some ((t340.set (t343 : Int).toNat (⟨(rd_T78 t340 t343).f0, (rd_T78 t340 t343).f1, 0⟩ : S78)), true)) else (none)) else (none))) else (some (t340, false)))))) := by
  refine Co.same (impl_TakeOut.F_co l0 a1) (h := fun k => ((impl_Slot_124.f l0).bind fun t340 => ((impl_slotWith.f l0 a1).bind fun t343 => ((impl_AreSlots.f k l0).bind fun t344 => (if t344 = true then (if t343 < 0 then (some (t340, false)) else (if 0 ≤ t343 then (if t343 < (t340.length : Int) then (some ((t340.set (t343 : Int).toNat (⟨(rd_T78 t340 t343).f0, (rd_T78 t340 t343).f1, 0⟩ : S78)), true)) else (none)) else (none))) else (some (t340, false))))))) (fun k => by first | rfl | unfold impl_TakeOut.f; rfl) ?_
  repeat' first
    | (with_reducible exact Co.const _)
    | (with_reducible exact impl_AreSlots.F_co _)
    | (with_reducible refine Co.ite ?_ ?_)
    | (with_reducible refine Co.bind ?_ (fun _ => ?_))

noncomputable def impl_SmallestFree.F (l0 : List (S78)) (a1 : Int) : Option (Int) := lim (fun k => impl_SmallestFree.f k l0 a1)
theorem impl_SmallestFree.F_co (l0 : List (S78)) (a1 : Int) : Co (fun k => impl_SmallestFree.f k l0 a1) (impl_SmallestFree.F l0 a1) := Co.base (fun k => impl_SmallestFree.mono _ _ k)
theorem impl_SmallestFree.F_eq (l0 : List (S78)) (a1 : Int) : impl_SmallestFree.F l0 a1 = ((impl_freeFor.F l0 a1).bind fun t346 => (if t346 < 0 then (some 0) else (if 0 ≤ t346 then (if t346 < (l0.length : Int) then (some ((rd_T78 l0 t346).f0)) else (none)) else (none)))) := by
  refine Co.same (impl_SmallestFree.F_co l0 a1) (h := fun k => ((impl_freeFor.f k l0 a1).bind fun t346 => (if t346 < 0 then (some 0) else (if 0 ≤ t346 then (if t346 < (l0.length : Int) then (some ((rd_T78 l0 t346).f0)) else (none)) else (none))))) (fun k => by first | rfl | unfold impl_SmallestFree.f; rfl) ?_
  repeat' first
    | (with_reducible exact Co.const _)
    | (with_reducible exact impl_freeFor.F_co _ _)
    | (with_reducible refine Co.ite ?_ ?_)
    | (with_reducible refine Co.bind ?_ (fun _ => ?_))

noncomputable def impl_FreeSlots.L0 (x3 : Int) (x6 : List (S78)) (x7 : Int) (x8 : Int) : Option (Int) := lim (fun k => impl_FreeSlots.l0 k x3 x6 x7 x8)
theorem impl_FreeSlots.L0_co (x3 : Int) (x6 : List (S78)) (x7 : Int) (x8 : Int) : Co (fun k => impl_FreeSlots.l0 k x3 x6 x7 x8) (impl_FreeSlots.L0 x3 x6 x7 x8) := Co.base (fun k => (impl_FreeSlots.mono_l k) _ _ _ _)
noncomputable def impl_FreeSlots.F (l0 : List (S78)) : Option (Int) := lim (fun k => impl_FreeSlots.f k l0)
theorem impl_FreeSlots.F_co (l0 : List (S78)) : Co (fun k => impl_FreeSlots.f k l0) (impl_FreeSlots.F l0) := Co.base (fun k => impl_FreeSlots.mono _ k)
theorem impl_FreeSlots.L0_eq (x3 : Int) (x6 : List (S78)) (x7 : Int) (x8 : Int) : impl_FreeSlots.L0 x3 x6 x7 x8 = (if x8 < x7 then (if 0 ≤ x8 then (if x8 < (x6.length : Int) then (if ((rd_T78 x6 x8).f2) = 0 then (impl_FreeSlots.L0 (wrap64 (x3 + 1)) x6 x7 (wrap64 (x8 + 1))) else (impl_FreeSlots.L0 x3 x6 x7 (wrap64 (x8 + 1)))) else (none)) else (none)) else (some x3)) := by
  refine Co.step (impl_FreeSlots.L0_co x3 x6 x7 x8) (h := fun k => (if x8 < x7 then (if 0 ≤ x8 then (if x8 < (x6.length : Int) then (if ((rd_T78 x6 x8).f2) = 0 then (impl_FreeSlots.l0 k (wrap64 (x3 + 1)) x6 x7 (wrap64 (x8 + 1))) else (impl_FreeSlots.l0 k x3 x6 x7 (wrap64 (x8 + 1)))) else (none)) else (none)) else (some x3))) (fun k => by first | rfl | (simp only [impl_FreeSlots.l0])) ?_
  repeat' first
    | (with_reducible exact Co.const _)
    | (with_reducible exact impl_FreeSlots.L0_co _ _ _ _)
    | (with_reducible refine Co.ite ?_ ?_)
    | (with_reducible refine Co.bind ?_ (fun _ => ?_))
theorem impl_FreeSlots.F_eq (l0 : List (S78)) : impl_FreeSlots.F l0 = (impl_FreeSlots.L0 0 l0 (l0.length : Int) 0) := by
  refine Co.same (impl_FreeSlots.F_co l0) (h := fun k => (impl_FreeSlots.l0 k 0 l0 (l0.length : Int) 0)) (fun k => by first | rfl | unfold impl_FreeSlots.f; rfl) ?_
  repeat' first
    | (with_reducible exact Co.const _)
    | (with_reducible exact impl_FreeSlots.L0_co _ _ _ _)
    | (with_reducible refine Co.ite ?_ ?_)
    | (with_reducible refine Co.bind ?_ (fun _ => ?_))

noncomputable def spec_DrawSlotOf.F (l0 : List Int) : Option ((List (S78)) × Int) := lim (fun k => spec_DrawSlotOf.f k l0)
theorem spec_DrawSlotOf.F_co (l0 : List Int) : Co (fun k => spec_DrawSlotOf.f k l0) (spec_DrawSlotOf.F l0) := Co.base (fun k => spec_DrawSlotOf.mono _ k)
theorem spec_DrawSlotOf.F_eq (l0 : List Int) : spec_DrawSlotOf.F l0 = ((spec_l1New.F l0).bind fun bt350 => ((spec_l14Any.F bt350.1 bt350.2.1 bt350.2.2).bind fun bt354 => ((spec_l1Below.f bt350.1 bt354.2.1 bt354.2.2 (bt354.1.length : Int)).bind fun bt359 => (if 0 ≤ bt359.1 then (if bt359.1 < (bt354.1.length : Int) then ((spec_l1Int.f bt350.1 bt359.2.1 bt359.2.2 (([0, (rd_T78 bt354.1 bt359.1).f2, (rd_T78 bt354.1 bt359.1).f2, 7] : List Int))).bind fun bt367 => (some (bt354.1, bt367.1))) else (none)) else (none))))) := by
  refine Co.same (spec_DrawSlotOf.F_co l0) (h := fun k => ((spec_l1New.f k l0).bind fun bt350 => ((spec_l14Any.f k bt350.1 bt350.2.1 bt350.2.2).bind fun bt354 => ((spec_l1Below.f bt350.1 bt354.2.1 bt354.2.2 (bt354.1.length : Int)).bind fun bt359 => (if 0 ≤ bt359.1 then (if bt359.1 < (bt354.1.length : Int) then ((spec_l1Int.f bt350.1 bt359.2.1 bt359.2.2 (([0, (rd_T78 bt354.1 bt359.1).f2, (rd_T78 bt354.1 bt359.1).f2, 7] : List Int))).bind fun bt367 => (some (bt354.1, bt367.1))) else (none)) else (none)))))) (fun k => by first | rfl | unfold spec_DrawSlotOf.f; rfl) ?_
  repeat' first
    | (with_reducible exact Co.const _)
    | (with_reducible exact spec_l14Any.F_co _ _ _)
    | (with_reducible exact spec_l1New.F_co _)
    | (with_reducible refine Co.ite ?_ ?_)
    | (with_reducible refine Co.bind ?_ (fun _ => ?_))

noncomputable def spec_DrawTakeOut.F (l0 : List Int) : Option ((List (S78)) × Int) := lim (fun k => spec_DrawTakeOut.f k l0)
theorem spec_DrawTakeOut.F_co (l0 : List Int) : Co (fun k => spec_DrawTakeOut.f k l0) (spec_DrawTakeOut.F l0) := Co.base (fun k => spec_DrawTakeOut.mono _ k)
theorem spec_DrawTakeOut.F_eq (l0 : List Int) : spec_DrawTakeOut.F l0 = ((spec_DrawSlotOf.F l0).bind fun bt370 => (some (bt370.1, bt370.2))) := by
  refine Co.same (spec_DrawTakeOut.F_co l0) (h := fun k => ((spec_DrawSlotOf.f k l0).bind fun bt370 => (some (bt370.1, bt370.2)))) (fun k => by first | rfl | unfold spec_DrawTakeOut.f; rfl) ?_
  repeat' first
    | (with_reducible exact Co.const _)
    | (with_reducible exact spec_DrawSlotOf.F_co _)
    | (with_reducible refine Co.ite ?_ ?_)
    | (with_reducible refine Co.bind ?_ (fun _ => ?_))

noncomputable def laws_FnShelves.J2 (x0 : List Int) : Option (Bool) := lim (fun k => laws_FnShelves.j2 k x0)
theorem laws_FnShelves.J2_co (x0 : List Int) : Co (fun k => laws_FnShelves.j2 k x0) (laws_FnShelves.J2 x0) := Co.base (fun k => (laws_FnShelves.mono_l k).1 _)
noncomputable def laws_FnShelves.J0 (x0 : List Int) (x3 : List (S78)) (x5 : List (S78)) (x7 : Int) (x8 : List (S78)) (x73 : Bool) (x384000 : Int) (x384001 : Int) (x384002 : Int) (x384003 : Int) (x384004 : Int) : Option (Bool) := lim (fun k => laws_FnShelves.j0 k x0 x3 x5 x7 x8 x73 x384000 x384001 x384002 x384003 x384004)
theorem laws_FnShelves.J0_co (x0 : List Int) (x3 : List (S78)) (x5 : List (S78)) (x7 : Int) (x8 : List (S78)) (x73 : Bool) (x384000 : Int) (x384001 : Int) (x384002 : Int) (x384003 : Int) (x384004 : Int) : Co (fun k => laws_FnShelves.j0 k x0 x3 x5 x7 x8 x73 x384000 x384001 x384002 x384003 x384004) (laws_FnShelves.J0 x0 x3 x5 x7 x8 x73 x384000 x384001 x384002 x384003 x384004) := Co.base (fun k => (laws_FnShelves.mono_l k).2.1 _ _ _ _ _ _ _ _ _ _ _)
noncomputable def laws_FnShelves.L0 (x0 : List Int) (x3 : List (S78)) (x5 : List (S78)) (x7 : Int) (x8 : List (S78)) (x10 : Int) (x384000 : Int) (x384001 : Int) (x384002 : Int) (x384003 : Int) (x384004 : Int) : Option (Bool) := lim (fun k => laws_FnShelves.l0 k x0 x3 x5 x7 x8 x10 x384000 x384001 x384002 x384003 x384004)
theorem laws_FnShelves.L0_co (x0 : List Int) (x3 : List (S78)) (x5 : List (S78)) (x7 : Int) (x8 : List (S78)) (x10 : Int) (x384000 : Int) (x384001 : Int) (x384002 : Int) (x384003 : Int) (x384004 : Int) : Co (fun k => laws_FnShelves.l0 k x0 x3 x5 x7 x8 x10 x384000 x384001 x384002 x384003 x384004) (laws_FnShelves.L0 x0 x3 x5 x7 x8 x10 x384000 x384001 x384002 x384003 x384004) := Co.base (fun k => (laws_FnShelves.mono_l k).2.2 _ _ _ _ _ _ _ _ _ _ _)
noncomputable def laws_FnShelves.F (l0 : List Int) : Option (Bool) := lim (fun k => laws_FnShelves.f k l0)
theorem laws_FnShelves.F_co (l0 : List Int) : Co (fun k => laws_FnShelves.f k l0) (laws_FnShelves.F l0) := Co.base (fun k => laws_FnShelves.mono _ k)
theorem laws_FnShelves.J2_eq (x0 : List Int) : laws_FnShelves.J2 x0 = ((spec_DrawTakeOut.F x0).bind fun bt403 => ((impl_TakeOut.F bt403.1 bt403.2).bind fun bt407 => (if bt407.2 = true then ((impl_SlotOf.f bt407.1 bt403.2).bind fun t411 => (if t411 = 0 then ((impl_AreSlots.F bt407.1).bind fun t412 => (some t412)) else (some false))) else (some true)))) := by
  refine Co.step (laws_FnShelves.J2_co x0) (h := fun k => ((spec_DrawTakeOut.f k x0).bind fun bt403 => ((impl_TakeOut.f k bt403.1 bt403.2).bind fun bt407 => (if bt407.2 = true then ((impl_SlotOf.f bt407.1 bt403.2).bind fun t411 => (if t411 = 0 then ((impl_AreSlots.f k bt407.1).bind fun t412 => (some t412)) else (some false))) else (some true))))) (fun k => by first | rfl | (simp only [laws_FnShelves.j2])) ?_
  repeat' first
    | (with_reducible exact Co.const _)
    | (with_reducible exact impl_AreSlots.F_co _)
    | (with_reducible exact impl_TakeOut.F_co _ _)
    | (with_reducible exact spec_DrawTakeOut.F_co _)
    | (with_reducible refine Co.ite ?_ ?_)
    | (with_reducible refine Co.bind ?_ (fun _ => ?_))
theorem laws_FnShelves.J0_eq (x0 : List Int) (x3 : List (S78)) (x5 : List (S78)) (x7 : Int) (x8 : List (S78)) (x73 : Bool) (x384000 : Int) (x384001 : Int) (x384002 : Int) (x384003 : Int) (x384004 : Int) : laws_FnShelves.J0 x0 x3 x5 x7 x8 x73 x384000 x384001 x384002 x384003 x384004 = (if x73 = true then (some false) else (laws_FnShelves.L0 x0 x3 x5 x7 x8 0 x384000 x384001 x384002 x384003 x384004)) := by
  refine Co.step (laws_FnShelves.J0_co x0 x3 x5 x7 x8 x73 x384000 x384001 x384002 x384003 x384004) (h := fun k => (if x73 = true then (some false) else (laws_FnShelves.l0 k x0 x3 x5 x7 x8 0 x384000 x384001 x384002 x384003 x384004))) (fun k => by first | rfl | (simp only [laws_FnShelves.j0])) ?_
  repeat' first
    | (with_reducible exact Co.const _)
    | (with_reducible exact laws_FnShelves.L0_co _ _ _ _ _ _ _ _ _ _ _)
    | (with_reducible refine Co.ite ?_ ?_)
    | (with_reducible refine Co.bind ?_ (fun _ => ?_))
theorem laws_FnShelves.L0_eq (x0 : List Int) (x3 : List (S78)) (x5 : List (S78)) (x7 : Int) (x8 : List (S78)) (x10 : Int) (x384000 : Int) (x384001 : Int) (x384002 : Int) (x384003 : Int) (x384004 : Int) : laws_FnShelves.L0 x0 x3 x5 x7 x8 x10 x384000 x384001 x384002 x384003 x384004 = (if x10 < (x8.length : Int) then (if 0 ≤ x10 then (if x10 < (x3.length : Int) then (if (!(((rd_T78 x8 x10).f0) == ((rd_T78 x3 x10).f0)) || (!(((rd_T78 x8 x10).f1) == ((rd_T78 x3 x10).f1)) || (!(((rd_T78 x8 x10).f2) == ((rd_T78 x3 x10).f2))))) = true then (some false) else (if x10 < (x5.length : Int) then (if ((rd_T78 x5 x10).f0) = x7 then (if ((rd_T78 x5 x10).f1) < x384003 then (some false) else (laws_FnShelves.L0 x0 x3 x5 x7 x8 (wrap64 (x10 + 1)) x384000 x384001 x384002 x384003 x384004)) else (laws_FnShelves.L0 x0 x3 x5 x7 x8 (wrap64 (x10 + 1)) x384000 x384001 x384002 x384003 x384004)) else (none))) else (none)) else (none)) else (laws_FnShelves.J2 x0)) := by
  refine Co.step (laws_FnShelves.L0_co x0 x3 x5 x7 x8 x10 x384000 x384001 x384002 x384003 x384004) (h := fun k => (if x10 < (x8.length : Int) then (if 0 ≤ x10 then (if x10 < (x3.length : Int) then (if (!(((rd_T78 x8 x10).f0) == ((rd_T78 x3 x10).f0)) || (!(((rd_T78 x8 x10).f1) == ((rd_T78 x3 x10).f1)) || (!(((rd_T78 x8 x10).f2) == ((rd_T78 x3 x10).f2))))) = true then (some false) else (if x10 < (x5.length : Int) then (if ((rd_T78 x5 x10).f0) = x7 then (if ((rd_T78 x5 x10).f1) < x384003 then (some false) else (laws_FnShelves.l0 k x0 x3 x5 x7 x8 (wrap64 (x10 + 1)) x384000 x384001 x384002 x384003 x384004)) else (laws_FnShelves.l0 k x0 x3 x5 x7 x8 (wrap64 (x10 + 1)) x384000 x384001 x384002 x384003 x384004)) else (none))) else (none)) else (none)) else (laws_FnShelves.j2 k x0))) (fun k => by first | rfl | (simp only [laws_FnShelves.l0])) ?_
  repeat' first
    | (with_reducible exact Co.const _)
    | (with_reducible exact laws_FnShelves.J2_co _)
    | (with_reducible exact laws_FnShelves.L0_co _ _ _ _ _ _ _ _ _ _ _)
    | (with_reducible refine Co.ite ?_ ?_)
    | (with_reducible refine Co.bind ?_ (fun _ => ?_))
theorem laws_FnShelves.F_eq (l0 : List Int) : laws_FnShelves.F l0 = ((laws_big.f l0).bind fun t374 => (if t374 = true then (some true) else ((spec_DrawPutAway.F l0).bind fun bt375 => ((impl_PutAway.F bt375.1 bt375.2.1 bt375.2.2.1 bt375.2.2.2.1 bt375.2.2.2.2.1 bt375.2.2.2.2.2).bind fun bt384 => (if bt384.2 = true then ((impl_SlotOf.f bt384.1 bt375.2.1).bind fun t388 => ((impl_TakeOut.F bt384.1 bt375.2.1).bind fun bt389 => ((impl_AreSlots.F bt384.1).bind fun t393 => (if t393 = true then (if t388 = 0 then (laws_FnShelves.J0 l0 bt375.1 bt384.1 t388 bt389.1 true bt375.2.1 bt375.2.2.1 bt375.2.2.2.1 bt375.2.2.2.2.1 bt375.2.2.2.2.2) else ((impl_SmallestFree.F bt375.1 bt375.2.2.2.2.1).bind fun t394 => (if t388 = t394 then ((impl_FreeSlots.F bt384.1).bind fun t395 => ((impl_FreeSlots.F bt375.1).bind fun t396 => (if t395 = (wrap64 (t396 - 1)) then (if bt389.2 = true then ((impl_FreeSlots.F bt389.1).bind fun t397 => ((impl_FreeSlots.F bt375.1).bind fun t398 => (laws_FnShelves.J0 l0 bt375.1 bt384.1 t388 bt389.1 (t397 != t398) bt375.2.1 bt375.2.2.1 bt375.2.2.2.1 bt375.2.2.2.2.1 bt375.2.2.2.2.2))) else (laws_FnShelves.J0 l0 bt375.1 bt384.1 t388 bt389.1 true bt375.2.1 bt375.2.2.1 bt375.2.2.2.1 bt375.2.2.2.2.1 bt375.2.2.2.2.2)) else (laws_FnShelves.J0 l0 bt375.1 bt384.1 t388 bt389.1 true bt375.2.1 bt375.2.2.1 bt375.2.2.2.1 bt375.2.2.2.2.1 bt375.2.2.2.2.2)))) else (laws_FnShelves.J0 l0 bt375.1 bt384.1 t388 bt389.1 true bt375.2.1 bt375.2.2.1 bt375.2.2.2.1 bt375.2.2.2.2.1 bt375.2.2.2.2.2)))) else (laws_FnShelves.J0 l0 bt375.1 bt384.1 t388 bt389.1 true bt375.2.1 bt375.2.2.1 bt375.2.2.2.1 bt375.2.2.2.2.1 bt375.2.2.2.2.2))))) else (if (bt384.1.length : Int) = (bt375.1.length : Int) then (laws_FnShelves.J2 l0) else (some false))))))) := by
  refine Co.same (laws_FnShelves.F_co l0) (h := fun k => ((laws_big.f l0).bind fun t374 => (if t374 = true then (some true) else ((spec_DrawPutAway.f k l0).bind fun bt375 => ((impl_PutAway.f k bt375.1 bt375.2.1 bt375.2.2.1 bt375.2.2.2.1 bt375.2.2.2.2.1 bt375.2.2.2.2.2).bind fun bt384 => (if bt384.2 = true then ((impl_SlotOf.f bt384.1 bt375.2.1).bind fun t388 => ((impl_TakeOut.f k bt384.1 bt375.2.1).bind fun bt389 => ((impl_AreSlots.f k bt384.1).bind fun t393 => (if t393 = true then (if t388 = 0 then (laws_FnShelves.j0 k l0 bt375.1 bt384.1 t388 bt389.1 true bt375.2.1 bt375.2.2.1 bt375.2.2.2.1 bt375.2.2.2.2.1 bt375.2.2.2.2.2) else ((impl_SmallestFree.f k bt375.1 bt375.2.2.2.2.1).bind fun t394 => (if t388 = t394 then ((impl_FreeSlots.f k bt384.1).bind fun t395 => ((impl_FreeSlots.f k bt375.1).bind fun t396 => (if t395 = (wrap64 (t396 - 1)) then (if bt389.2 = true then ((impl_FreeSlots.f k bt389.1).bind fun t397 => ((impl_FreeSlots.f k bt375.1).bind fun t398 => (laws_FnShelves.j0 k l0 bt375.1 bt384.1 t388 bt389.1 (t397 != t398) bt375.2.1 bt375.2.2.1 bt375.2.2.2.1 bt375.2.2.2.2.1 bt375.2.2.2.2.2))) else (laws_FnShelves.j0 k l0 bt375.1 bt384.1 t388 bt389.1 true bt375.2.1 bt375.2.2.1 bt375.2.2.2.1 bt375.2.2.2.2.1 bt375.2.2.2.2.2)) else (laws_FnShelves.j0 k l0 bt375.1 bt384.1 t388 bt389.1 true bt375.2.1 bt375.2.2.1 bt375.2.2.2.1 bt375.2.2.2.2.1 bt375.2.2.2.2.2)))) else (laws_FnShelves.j0 k l0 bt375.1 bt384.1 t388 bt389.1 true bt375.2.1 bt375.2.2.1 bt375.2.2.2.1 bt375.2.2.2.2.1 bt375.2.2.2.2.2)))) else (laws_FnShelves.j0 k l0 bt375.1 bt384.1 t388 bt389.1 true bt375.2.1 bt375.2.2.1 bt375.2.2.2.1 bt375.2.2.2.2.1 bt375.2.2.2.2.2))))) else (if (bt384.1.length : Int) = (bt375.1.length : Int) then (laws_FnShelves.j2 k l0) else (some false)))))))) (fun k => by first | rfl | unfold laws_FnShelves.f; rfl) ?_
  repeat' first
    | (with_reducible exact Co.const _)
    | (with_reducible exact impl_AreSlots.F_co _)
    | (with_reducible exact impl_FreeSlots.F_co _)
    | (with_reducible exact impl_PutAway.F_co _ _ _ _ _ _)
    | (with_reducible exact impl_SmallestFree.F_co _ _)
    | (with_reducible exact impl_TakeOut.F_co _ _)
    | (with_reducible exact laws_FnShelves.J0_co _ _ _ _ _ _ _ _ _ _ _)
    | (with_reducible exact laws_FnShelves.J2_co _)
    | (with_reducible exact spec_DrawPutAway.F_co _)
    | (with_reducible refine Co.ite ?_ ?_)
    | (with_reducible refine Co.bind ?_ (fun _ => ?_))

end Go.Proofs.Ytkfalbaklodnjaa.PFnShelves.Pure
