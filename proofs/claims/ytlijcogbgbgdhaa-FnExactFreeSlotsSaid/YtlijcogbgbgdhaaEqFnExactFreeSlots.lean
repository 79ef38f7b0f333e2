/-
  The printed functions that this law reaches, their rounds used up, and the equations that they meet.
-/
import Derived.Test.YtlijcogbgbgdhaaPFnExactFreeSlotsx1
import Derived.Test.YtlijcogbgbgdhaaPFnExactFreeSlotsx2
import Derived.Test.YtlijcogbgbgdhaaLim
namespace Go.Proofs.Ytlijcogbgbgdhaa.PFnExactFreeSlots.Pure
open Go.RowKit Go.Proofs.YtlijcogbgbgdhaaW.PrintWords Go.Proofs.YtlijcogbgbgdhaaW.PrintLast Go.Proofs.YtlijcogbgbgdhaaW.PrintMore Go.Proofs.Ytlijcogbgbgdhaa.PFnExactFreeSlots Go.Proofs.Ytlijcogbgbgdhaa.Lim
set_option linter.unusedVariables false
set_option maxRecDepth 100000

noncomputable def spec_FreeSlots.L0 (x0 : List (S76)) (x3 : Int) (x4 : Int) : Option (Int) := lim (fun k => spec_FreeSlots.l0 k x0 x3 x4)
theorem spec_FreeSlots.L0_co (x0 : List (S76)) (x3 : Int) (x4 : Int) : Co (fun k => spec_FreeSlots.l0 k x0 x3 x4) (spec_FreeSlots.L0 x0 x3 x4) := Co.base (fun k => (spec_FreeSlots.mono_l k) _ _ _)
noncomputable def spec_FreeSlots.F (l0 : List (S76)) : Option (Int) := lim (fun k => spec_FreeSlots.f k l0)
theorem spec_FreeSlots.F_co (l0 : List (S76)) : Co (fun k => spec_FreeSlots.f k l0) (spec_FreeSlots.F l0) := Co.base (fun k => spec_FreeSlots.mono _ k)
theorem spec_FreeSlots.L0_eq (x0 : List (S76)) (x3 : Int) (x4 : Int) : spec_FreeSlots.L0 x0 x3 x4 = (if x4 < (x0.length : Int) then (if 0 ≤ x4 then (if ((rd_T76 x0 x4).f2) = 0 then (spec_FreeSlots.L0 x0 (wrap64 (x3 + 1)) (wrap64 (x4 + 1))) else (spec_FreeSlots.L0 x0 x3 (wrap64 (x4 + 1)))) else (none)) else (some x3)) := by
  refine Co.step (spec_FreeSlots.L0_co x0 x3 x4) (h := fun k => (if x4 < (x0.length : Int) then (if 0 ≤ x4 then (if ((rd_T76 x0 x4).f2) = 0 then (spec_FreeSlots.l0 k x0 (wrap64 (x3 + 1)) (wrap64 (x4 + 1))) else (spec_FreeSlots.l0 k x0 x3 (wrap64 (x4 + 1)))) else (none)) else (some x3))) (fun k => by first | rfl | (simp only [spec_FreeSlots.l0])) ?_
  repeat' first
    | (with_reducible exact Co.const _)
    | (with_reducible exact spec_FreeSlots.L0_co _ _ _)
    | (with_reducible refine Co.ite ?_ ?_)
    | (with_reducible refine Co.bind ?_ (fun _ => ?_))
theorem spec_FreeSlots.F_eq (l0 : List (S76)) : spec_FreeSlots.F l0 = (spec_FreeSlots.L0 l0 0 0) := by
  refine Co.same (spec_FreeSlots.F_co l0) (h := fun k => (spec_FreeSlots.l0 k l0 0 0)) (fun k => by first | rfl | unfold spec_FreeSlots.f; rfl) ?_
  repeat' first
    | (with_reducible exact Co.const _)
    | (with_reducible exact spec_FreeSlots.L0_co _ _ _)
    | (with_reducible refine Co.ite ?_ ?_)
    | (with_reducible refine Co.bind ?_ (fun _ => ?_))

noncomputable def laws_toSlotS.L0 (x0 : List (S78)) (x3 : List (S76)) (x4 : Int) : Option ((List (S76))) := lim (fun k => laws_toSlotS.l0 k x0 x3 x4)
theorem laws_toSlotS.L0_co (x0 : List (S78)) (x3 : List (S76)) (x4 : Int) : Co (fun k => laws_toSlotS.l0 k x0 x3 x4) (laws_toSlotS.L0 x0 x3 x4) := Co.base (fun k => (laws_toSlotS.mono_l k) _ _ _)
noncomputable def laws_toSlotS.F (l0 : List (S78)) : Option ((List (S76))) := lim (fun k => laws_toSlotS.f k l0)
theorem laws_toSlotS.F_co (l0 : List (S78)) : Co (fun k => laws_toSlotS.f k l0) (laws_toSlotS.F l0) := Co.base (fun k => laws_toSlotS.mono _ k)
theorem laws_toSlotS.L0_eq (x0 : List (S78)) (x3 : List (S76)) (x4 : Int) : laws_toSlotS.L0 x0 x3 x4 = (if x4 < (x0.length : Int) then (if 0 ≤ x4 then ((laws_toSlot.f ((rd_T78 x0 x4).f0) ((rd_T78 x0 x4).f1) ((rd_T78 x0 x4).f2)).bind fun bt109 => (if x4 < (x3.length : Int) then (laws_toSlotS.L0 x0 (x3.set (x4 : Int).toNat (⟨bt109.1, bt109.2.1, bt109.2.2⟩ : S76)) (wrap64 (x4 + 1))) else (none))) else (none)) else (some x3)) := by
  refine Co.step (laws_toSlotS.L0_co x0 x3 x4) (h := fun k => (if x4 < (x0.length : Int) then (if 0 ≤ x4 then ((laws_toSlot.f ((rd_T78 x0 x4).f0) ((rd_T78 x0 x4).f1) ((rd_T78 x0 x4).f2)).bind fun bt109 => (if x4 < (x3.length : Int) then (laws_toSlotS.l0 k x0 (x3.set (x4 : Int).toNat (⟨bt109.1, bt109.2.1, bt109.2.2⟩ : S76)) (wrap64 (x4 + 1))) else (none))) else (none)) else (some x3))) (fun k => by first | rfl | (simp only [laws_toSlotS.l0])) ?_
  repeat' first
    | (with_reducible exact Co.const _)
    | (with_reducible exact laws_toSlotS.L0_co _ _ _)
    | (with_reducible refine Co.ite ?_ ?_)
    | (with_reducible refine Co.bind ?_ (fun _ => ?_))
theorem laws_toSlotS.F_eq (l0 : List (S78)) : laws_toSlotS.F l0 = (if 0 ≤ (l0.length : Int) then (if ((l0.length : Int) : Int).toNat ≤ 11728124029610 then (laws_toSlotS.L0 l0 (List.replicate ((l0.length : Int) : Int).toNat z76) 0) else (none)) else (none)) := by
  refine Co.same (laws_toSlotS.F_co l0) (h := fun k => (if 0 ≤ (l0.length : Int) then (if ((l0.length : Int) : Int).toNat ≤ 11728124029610 then (laws_toSlotS.l0 k l0 (List.replicate ((l0.length : Int) : Int).toNat z76) 0) else (none)) else (none))) (fun k => by first | rfl | unfold laws_toSlotS.f; rfl) ?_
  repeat' first
    | (with_reducible exact Co.const _)
    | (with_reducible exact laws_toSlotS.L0_co _ _ _)
    | (with_reducible refine Co.ite ?_ ?_)
    | (with_reducible refine Co.bind ?_ (fun _ => ?_))

noncomputable def impl_FreeSlots.L0 (x3 : Int) (x6 : List (S76)) (x7 : Int) (x8 : Int) : Option (Int) := lim (fun k => impl_FreeSlots.l0 k x3 x6 x7 x8)
theorem impl_FreeSlots.L0_co (x3 : Int) (x6 : List (S76)) (x7 : Int) (x8 : Int) : Co (fun k => impl_FreeSlots.l0 k x3 x6 x7 x8) (impl_FreeSlots.L0 x3 x6 x7 x8) := Co.base (fun k => (impl_FreeSlots.mono_l k) _ _ _ _)
noncomputable def impl_FreeSlots.F (l0 : List (S76)) : Option (Int) := lim (fun k => impl_FreeSlots.f k l0)
theorem impl_FreeSlots.F_co (l0 : List (S76)) : Co (fun k => impl_FreeSlots.f k l0) (impl_FreeSlots.F l0) := Co.base (fun k => impl_FreeSlots.mono _ k)
theorem impl_FreeSlots.L0_eq (x3 : Int) (x6 : List (S76)) (x7 : Int) (x8 : Int) : impl_FreeSlots.L0 x3 x6 x7 x8 = (if x8 < x7 then (if 0 ≤ x8 then (if x8 < (x6.length : Int) then (if ((rd_T76 x6 x8).f2) = 0 then (impl_FreeSlots.L0 (wrap64 (x3 + 1)) x6 x7 (wrap64 (x8 + 1))) else (impl_FreeSlots.L0 x3 x6 x7 (wrap64 (x8 + 1)))) else (none)) else (none)) else (some x3)) := by
  refine Co.step (impl_FreeSlots.L0_co x3 x6 x7 x8) (h := fun k => (if x8 < x7 then (if 0 ≤ x8 then (if x8 < (x6.length : Int) then (if ((rd_T76 x6 x8).f2) = 0 then (impl_FreeSlots.l0 k (wrap64 (x3 + 1)) x6 x7 (wrap64 (x8 + 1))) else (impl_FreeSlots.l0 k x3 x6 x7 (wrap64 (x8 + 1)))) else (none)) else (none)) else (some x3))) (fun k => by first | rfl | (simp only [impl_FreeSlots.l0])) ?_
  repeat' first
    | (with_reducible exact Co.const _)
    | (with_reducible exact impl_FreeSlots.L0_co _ _ _ _)
    | (with_reducible refine Co.ite ?_ ?_)
    | (with_reducible refine Co.bind ?_ (fun _ => ?_))
theorem impl_FreeSlots.F_eq (l0 : List (S76)) : impl_FreeSlots.F l0 = (impl_FreeSlots.L0 0 l0 (l0.length : Int) 0) := by
  refine Co.same (impl_FreeSlots.F_co l0) (h := fun k => (impl_FreeSlots.l0 k 0 l0 (l0.length : Int) 0)) (fun k => by first | rfl | unfold impl_FreeSlots.f; rfl) ?_
  repeat' first
    | (with_reducible exact Co.const _)
    | (with_reducible exact impl_FreeSlots.L0_co _ _ _ _)
    | (with_reducible refine Co.ite ?_ ?_)
    | (with_reducible refine Co.bind ?_ (fun _ => ?_))

noncomputable def laws_eqSlotS.L0 (x0 : List (S76)) (x1 : List (S76)) (x5 : Int) : Option (Bool) := lim (fun k => laws_eqSlotS.l0 k x0 x1 x5)
theorem laws_eqSlotS.L0_co (x0 : List (S76)) (x1 : List (S76)) (x5 : Int) : Co (fun k => laws_eqSlotS.l0 k x0 x1 x5) (laws_eqSlotS.L0 x0 x1 x5) := Co.base (fun k => (laws_eqSlotS.mono_l k) _ _ _)
noncomputable def laws_eqSlotS.F (l0 : List (S76)) (l1 : List (S76)) : Option (Bool) := lim (fun k => laws_eqSlotS.f k l0 l1)
theorem laws_eqSlotS.F_co (l0 : List (S76)) (l1 : List (S76)) : Co (fun k => laws_eqSlotS.f k l0 l1) (laws_eqSlotS.F l0 l1) := Co.base (fun k => laws_eqSlotS.mono _ _ k)
theorem laws_eqSlotS.L0_eq (x0 : List (S76)) (x1 : List (S76)) (x5 : Int) : laws_eqSlotS.L0 x0 x1 x5 = (if x5 < (x0.length : Int) then (if 0 ≤ x5 then (if x5 < (x1.length : Int) then ((laws_eqSlot.f ((rd_T76 x0 x5).f0) ((rd_T76 x0 x5).f1) ((rd_T76 x0 x5).f2) ((rd_T76 x1 x5).f0) ((rd_T76 x1 x5).f1) ((rd_T76 x1 x5).f2)).bind fun t119 => (if t119 = true then (laws_eqSlotS.L0 x0 x1 (wrap64 (x5 + 1))) else (some false))) else (none)) else (none)) else (some true)) := by
  refine Co.step (laws_eqSlotS.L0_co x0 x1 x5) (h := fun k => (if x5 < (x0.length : Int) then (if 0 ≤ x5 then (if x5 < (x1.length : Int) then ((laws_eqSlot.f ((rd_T76 x0 x5).f0) ((rd_T76 x0 x5).f1) ((rd_T76 x0 x5).f2) ((rd_T76 x1 x5).f0) ((rd_T76 x1 x5).f1) ((rd_T76 x1 x5).f2)).bind fun t119 => (if t119 = true then (laws_eqSlotS.l0 k x0 x1 (wrap64 (x5 + 1))) else (some false))) else (none)) else (none)) else (some true))) (fun k => by first | rfl | (simp only [laws_eqSlotS.l0])) ?_
  repeat' first
    | (with_reducible exact Co.const _)
    | (with_reducible exact laws_eqSlotS.L0_co _ _ _)
    | (with_reducible refine Co.ite ?_ ?_)
    | (with_reducible refine Co.bind ?_ (fun _ => ?_))
theorem laws_eqSlotS.F_eq (l0 : List (S76)) (l1 : List (S76)) : laws_eqSlotS.F l0 l1 = (if (l0.length : Int) = (l1.length : Int) then (laws_eqSlotS.L0 l0 l1 0) else (some false)) := by
  refine Co.same (laws_eqSlotS.F_co l0 l1) (h := fun k => (if (l0.length : Int) = (l1.length : Int) then (laws_eqSlotS.l0 k l0 l1 0) else (some false))) (fun k => by first | rfl | unfold laws_eqSlotS.f; rfl) ?_
  repeat' first
    | (with_reducible exact Co.const _)
    | (with_reducible exact laws_eqSlotS.L0_co _ _ _)
    | (with_reducible refine Co.ite ?_ ?_)
    | (with_reducible refine Co.bind ?_ (fun _ => ?_))

noncomputable def laws_FnExactFreeSlots.F (l0 : List (S78)) : Option (Bool) := lim (fun k => laws_FnExactFreeSlots.f k l0)
theorem laws_FnExactFreeSlots.F_co (l0 : List (S78)) : Co (fun k => laws_FnExactFreeSlots.f k l0) (laws_FnExactFreeSlots.F l0) := Co.base (fun k => laws_FnExactFreeSlots.mono _ k)
theorem laws_FnExactFreeSlots.F_eq (l0 : List (S78)) : laws_FnExactFreeSlots.F l0 = ((laws_szSlotS.f l0 1048576).bind fun t120 => (if t120 < 0 then (some true) else ((laws_toSlotS.F l0).bind fun t121 => ((spec_FreeSlots.F t121).bind fun t124 => ((laws_toSlotS.F l0).bind fun t125 => ((impl_FreeSlots.F t125).bind fun t128 => (if t128 = t124 then ((laws_toSlotS.F l0).bind fun t129 => ((laws_eqSlotS.F t125 t129).bind fun t132 => (if t132 = true then (some true) else (some false)))) else (some false)))))))) := by
  refine Co.same (laws_FnExactFreeSlots.F_co l0) (h := fun k => ((laws_szSlotS.f l0 1048576).bind fun t120 => (if t120 < 0 then (some true) else ((laws_toSlotS.f k l0).bind fun t121 => ((spec_FreeSlots.f k t121).bind fun t124 => ((laws_toSlotS.f k l0).bind fun t125 => ((impl_FreeSlots.f k t125).bind fun t128 => (if t128 = t124 then ((laws_toSlotS.f k l0).bind fun t129 => ((laws_eqSlotS.f k t125 t129).bind fun t132 => (if t132 = true then (some true) else (some false)))) else (some false))))))))) (fun k => by first | rfl | unfold laws_FnExactFreeSlots.f; rfl) ?_
  repeat' first
    | (with_reducible exact Co.const _)
    | (with_reducible exact impl_FreeSlots.F_co _)
    | (with_reducible exact laws_eqSlotS.F_co _ _)
    | (with_reducible exact laws_toSlotS.F_co _)
    | (with_reducible exact spec_FreeSlots.F_co _)
    | (with_reducible refine Co.ite ?_ ?_)
    | (with_reducible refine Co.bind ?_ (fun _ => ?_))

end Go.Proofs.Ytlijcogbgbgdhaa.PFnExactFreeSlots.Pure
