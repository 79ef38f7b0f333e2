/-
  The printed functions that this law reaches, their rounds used up, and the equations that they meet.
-/
import Derived.Test.YtlijcogbgbgdhaaPFnExactSlotOfx1
import Derived.Test.YtlijcogbgbgdhaaPFnExactSlotOfx2
import Derived.Test.YtlijcogbgbgdhaaLim
namespace Go.Proofs.Ytlijcogbgbgdhaa.PFnExactSlotOf.Pure
open Go.RowKit Go.Proofs.YtlijcogbgbgdhaaW.PrintWords Go.Proofs.YtlijcogbgbgdhaaW.PrintLast Go.Proofs.YtlijcogbgbgdhaaW.PrintMore Go.Proofs.Ytlijcogbgbgdhaa.PFnExactSlotOf Go.Proofs.Ytlijcogbgbgdhaa.Lim
set_option linter.unusedVariables false
set_option maxRecDepth 100000

noncomputable def laws_toSlotS.L0 (x0 : List (S78)) (x3 : List (S76)) (x4 : Int) : Option ((List (S76))) := lim (fun k => laws_toSlotS.l0 k x0 x3 x4)
theorem laws_toSlotS.L0_co (x0 : List (S78)) (x3 : List (S76)) (x4 : Int) : Co (fun k => laws_toSlotS.l0 k x0 x3 x4) (laws_toSlotS.L0 x0 x3 x4) := Co.base (fun k => (laws_toSlotS.mono_l k) _ _ _)
noncomputable def laws_toSlotS.F (l0 : List (S78)) : Option ((List (S76))) := lim (fun k => laws_toSlotS.f k l0)
theorem laws_toSlotS.F_co (l0 : List (S78)) : Co (fun k => laws_toSlotS.f k l0) (laws_toSlotS.F l0) := Co.base (fun k => laws_toSlotS.mono _ k)
theorem laws_toSlotS.L0_eq (x0 : List (S78)) (x3 : List (S76)) (x4 : Int) : laws_toSlotS.L0 x0 x3 x4 = (if x4 < (x0.length : Int) then (if 0 ≤ x4 then ((laws_toSlot.f ((rd_T78 x0 x4).f0) ((rd_T78 x0 x4).f1) ((rd_T78 x0 x4).f2)).bind fun bt108 => (if x4 < (x3.length : Int) then (laws_toSlotS.L0 x0 (x3.set (x4 : Int).toNat (⟨bt108.1, bt108.2.1, bt108.2.2⟩ : S76)) (wrap64 (x4 + 1))) else (none))) else (none)) else (some x3)) := by
  refine Co.step (laws_toSlotS.L0_co x0 x3 x4) (h := fun k => (if x4 < (x0.length : Int) then (if 0 ≤ x4 then ((laws_toSlot.f ((rd_T78 x0 x4).f0) ((rd_T78 x0 x4).f1) ((rd_T78 x0 x4).f2)).bind fun bt108 => (if x4 < (x3.length : Int) then (laws_toSlotS.l0 k x0 (x3.set (x4 : Int).toNat (⟨bt108.1, bt108.2.1, bt108.2.2⟩ : S76)) (wrap64 (x4 + 1))) else (none))) else (none)) else (some x3))) (fun k => by first | rfl | (simp only [laws_toSlotS.l0])) ?_
  repeat' first
    | (with_reducible exact Co.const _)
    | (with_reducible exact laws_toSlotS.L0_co _ _ _)
    | (with_reducible refine Co.ite ?_ ?_)
    | (with_reducible refine Co.bind ?_ (fun _ => ?_))
theorem laws_toSlotS.F_eq (l0 : List (S78)) : laws_toSlotS.F l0 = (if 0 ≤ (l0.length : Int) then (if ((l0.length : Int) : Int).toNat ≤ 11728124029610 then (laws_toSlotS.L0 l0 (List.replicate ((l0.length : Int) : Int).toNat z76) 0) else (none)) else (none)) := by
  refine Co.same (laws_toSlotS.F_co l0) (h := fun k => (if 0 ≤ (l0.length : Int) then (if ((l0.length : Int) : Int).toNat ≤ 11728124029610 then (laws_toSlotS.l0 k l0 (List.replicate ((l0.length : Int) : Int).toNat z76) 0) else (none)) else (none))) (fun k => by first | rfl | unfold laws_toSlotS.f; rfl) ?_
  repeat' first
    | (with_reducible exact Co.const _)
    | (with_reducible exact laws_toSlotS.L0_co _ _ _)
    | (with_reducible refine Co.ite ?_ ?_)
    | (with_reducible refine Co.bind ?_ (fun _ => ?_))

noncomputable def laws_eqSlotS.L0 (x0 : List (S76)) (x1 : List (S76)) (x5 : Int) : Option (Bool) := lim (fun k => laws_eqSlotS.l0 k x0 x1 x5)
theorem laws_eqSlotS.L0_co (x0 : List (S76)) (x1 : List (S76)) (x5 : Int) : Co (fun k => laws_eqSlotS.l0 k x0 x1 x5) (laws_eqSlotS.L0 x0 x1 x5) := Co.base (fun k => (laws_eqSlotS.mono_l k) _ _ _)
noncomputable def laws_eqSlotS.F (l0 : List (S76)) (l1 : List (S76)) : Option (Bool) := lim (fun k => laws_eqSlotS.f k l0 l1)
theorem laws_eqSlotS.F_co (l0 : List (S76)) (l1 : List (S76)) : Co (fun k => laws_eqSlotS.f k l0 l1) (laws_eqSlotS.F l0 l1) := Co.base (fun k => laws_eqSlotS.mono _ _ k)
theorem laws_eqSlotS.L0_eq (x0 : List (S76)) (x1 : List (S76)) (x5 : Int) : laws_eqSlotS.L0 x0 x1 x5 = (if x5 < (x0.length : Int) then (if 0 ≤ x5 then (if x5 < (x1.length : Int) then ((laws_eqSlot.f ((rd_T76 x0 x5).f0) ((rd_T76 x0 x5).f1) ((rd_T76 x0 x5).f2) ((rd_T76 x1 x5).f0) ((rd_T76 x1 x5).f1) ((rd_T76 x1 x5).f2)).bind fun t116 => (if t116 = true then (laws_eqSlotS.L0 x0 x1 (wrap64 (x5 + 1))) else (some false))) else (none)) else (none)) else (some true)) := by
  refine Co.step (laws_eqSlotS.L0_co x0 x1 x5) (h := fun k => (if x5 < (x0.length : Int) then (if 0 ≤ x5 then (if x5 < (x1.length : Int) then ((laws_eqSlot.f ((rd_T76 x0 x5).f0) ((rd_T76 x0 x5).f1) ((rd_T76 x0 x5).f2) ((rd_T76 x1 x5).f0) ((rd_T76 x1 x5).f1) ((rd_T76 x1 x5).f2)).bind fun t116 => (if t116 = true then (laws_eqSlotS.l0 k x0 x1 (wrap64 (x5 + 1))) else (some false))) else (none)) else (none)) else (some true))) (fun k => by first | rfl | (simp only [laws_eqSlotS.l0])) ?_
  repeat' first
    | (with_reducible exact Co.const _)
    | (with_reducible exact laws_eqSlotS.L0_co _ _ _)
    | (with_reducible refine Co.ite ?_ ?_)
    | (with_reducible refine Co.bind ?_ (fun _ => ?_))
theorem laws_eqSlotS.F_eq (l0 : List (S76)) (l1 : List (S76)) : laws_eqSlotS.F l0 l1 = (if (l0.length : Int) = (l1.length : Int) then (laws_eqSlotS.L0 l0 l1 0) else (some false)) := by
  refine Co.same (laws_eqSlotS.F_co l0 l1) (h := fun k => (if (l0.length : Int) = (l1.length : Int) then (laws_eqSlotS.l0 k l0 l1 0) else (some false))) (fun k => by first | rfl | unfold laws_eqSlotS.f; rfl) ?_
  repeat' first
    | (with_reducible exact Co.const _)
    | (with_reducible exact laws_eqSlotS.L0_co _ _ _)
    | (with_reducible refine Co.ite ?_ ?_)
    | (with_reducible refine Co.bind ?_ (fun _ => ?_))

noncomputable def spec_SlotOf.L0 (x0 : List (S76)) (x1 : Int) (x5 : Int) : Option (Int) := lim (fun k => spec_SlotOf.l0 k x0 x1 x5)
theorem spec_SlotOf.L0_co (x0 : List (S76)) (x1 : Int) (x5 : Int) : Co (fun k => spec_SlotOf.l0 k x0 x1 x5) (spec_SlotOf.L0 x0 x1 x5) := Co.base (fun k => (spec_SlotOf.mono_l k) _ _ _)
noncomputable def spec_SlotOf.F (l0 : List (S76)) (a1 : Int) : Option (Int) := lim (fun k => spec_SlotOf.f k l0 a1)
theorem spec_SlotOf.F_co (l0 : List (S76)) (a1 : Int) : Co (fun k => spec_SlotOf.f k l0 a1) (spec_SlotOf.F l0 a1) := Co.base (fun k => spec_SlotOf.mono _ _ k)
theorem spec_SlotOf.L0_eq (x0 : List (S76)) (x1 : Int) (x5 : Int) : spec_SlotOf.L0 x0 x1 x5 = (if x5 < (x0.length : Int) then (if x1 = 0 then (spec_SlotOf.L0 x0 x1 (wrap64 (x5 + 1))) else (if 0 ≤ x5 then (if ((rd_T76 x0 x5).f2) = x1 then (some ((rd_T76 x0 x5).f0)) else (spec_SlotOf.L0 x0 x1 (wrap64 (x5 + 1)))) else (none))) else (some 0)) := by
  refine Co.step (spec_SlotOf.L0_co x0 x1 x5) (h := fun k => (if x5 < (x0.length : Int) then (if x1 = 0 then (spec_SlotOf.l0 k x0 x1 (wrap64 (x5 + 1))) else (if 0 ≤ x5 then (if ((rd_T76 x0 x5).f2) = x1 then (some ((rd_T76 x0 x5).f0)) else (spec_SlotOf.l0 k x0 x1 (wrap64 (x5 + 1)))) else (none))) else (some 0))) (fun k => by first | rfl | (simp only [spec_SlotOf.l0])) ?_
  repeat' first
    | (with_reducible exact Co.const _)
    | (with_reducible exact spec_SlotOf.L0_co _ _ _)
    | (with_reducible refine Co.ite ?_ ?_)
    | (with_reducible refine Co.bind ?_ (fun _ => ?_))
theorem spec_SlotOf.F_eq (l0 : List (S76)) (a1 : Int) : spec_SlotOf.F l0 a1 = (spec_SlotOf.L0 l0 a1 0) := by
  refine Co.same (spec_SlotOf.F_co l0 a1) (h := fun k => (spec_SlotOf.l0 k l0 a1 0)) (fun k => by first | rfl | unfold spec_SlotOf.f; rfl) ?_
  repeat' first
    | (with_reducible exact Co.const _)
    | (with_reducible exact spec_SlotOf.L0_co _ _ _)
    | (with_reducible refine Co.ite ?_ ?_)
    | (with_reducible refine Co.bind ?_ (fun _ => ?_))

noncomputable def laws_FnExactSlotOf.F (l0 : List (S78)) (a1 : Int) : Option (Bool) := lim (fun k => laws_FnExactSlotOf.f k l0 a1)
theorem laws_FnExactSlotOf.F_co (l0 : List (S78)) (a1 : Int) : Co (fun k => laws_FnExactSlotOf.f k l0 a1) (laws_FnExactSlotOf.F l0 a1) := Co.base (fun k => laws_FnExactSlotOf.mono _ _ k)
theorem laws_FnExactSlotOf.F_eq (l0 : List (S78)) (a1 : Int) : laws_FnExactSlotOf.F l0 a1 = ((laws_szSlotS.f l0 1048576).bind fun t121 => (if t121 < 0 then (some true) else ((laws_toSlotS.F l0).bind fun t122 => ((spec_SlotOf.F t122 a1).bind fun t125 => ((laws_toSlotS.F l0).bind fun t126 => ((impl_SlotOf.f t126 a1).bind fun t129 => (if t129 = t125 then ((laws_toSlotS.F l0).bind fun t130 => ((laws_eqSlotS.F t126 t130).bind fun t133 => (if t133 = true then (some true) else (some false)))) else (some false)))))))) := by
  refine Co.same (laws_FnExactSlotOf.F_co l0 a1) (h := fun k => ((laws_szSlotS.f l0 1048576).bind fun t121 => (if t121 < 0 then (some true) else ((laws_toSlotS.f k l0).bind fun t122 => ((spec_SlotOf.f k t122 a1).bind fun t125 => ((laws_toSlotS.f k l0).bind fun t126 => ((impl_SlotOf.f t126 a1).bind fun t129 => (if t129 = t125 then ((laws_toSlotS.f k l0).bind fun t130 => ((laws_eqSlotS.f k t126 t130).bind fun t133 => (if t133 = true then (some true) else (some false)))) else (some false))))))))) (fun k => by first | rfl | unfold laws_FnExactSlotOf.f; rfl) ?_
  repeat' first
    | (with_reducible exact Co.const _)
    | (with_reducible exact laws_eqSlotS.F_co _ _)
    | (with_reducible exact laws_toSlotS.F_co _)
    | (with_reducible exact spec_SlotOf.F_co _ _)
    | (with_reducible refine Co.ite ?_ ?_)
    | (with_reducible refine Co.bind ?_ (fun _ => ?_))

end Go.Proofs.Ytlijcogbgbgdhaa.PFnExactSlotOf.Pure
