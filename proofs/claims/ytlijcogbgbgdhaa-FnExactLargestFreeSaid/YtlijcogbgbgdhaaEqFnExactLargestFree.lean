/-
  The printed functions that this law reaches, their rounds used up, and the equations that they meet.
-/
import Derived.Test.YtlijcogbgbgdhaaPFnExactLargestFreex1
import Derived.Test.YtlijcogbgbgdhaaPFnExactLargestFreex2
import Derived.Test.YtlijcogbgbgdhaaLim
namespace Go.Proofs.Ytlijcogbgbgdhaa.PFnExactLargestFree.Pure
open Go.RowKit Go.Proofs.YtlijcogbgbgdhaaW.PrintWords Go.Proofs.YtlijcogbgbgdhaaW.PrintLast Go.Proofs.YtlijcogbgbgdhaaW.PrintMore Go.Proofs.Ytlijcogbgbgdhaa.PFnExactLargestFree Go.Proofs.Ytlijcogbgbgdhaa.Lim
set_option linter.unusedVariables false
set_option maxRecDepth 100000

noncomputable def laws_toSlotS.L0 (x0 : List (S78)) (x3 : List (S76)) (x4 : Int) : Option ((List (S76))) := lim (fun k => laws_toSlotS.l0 k x0 x3 x4)
theorem laws_toSlotS.L0_co (x0 : List (S78)) (x3 : List (S76)) (x4 : Int) : Co (fun k => laws_toSlotS.l0 k x0 x3 x4) (laws_toSlotS.L0 x0 x3 x4) := Co.base (fun k => (laws_toSlotS.mono_l k) _ _ _)
noncomputable def laws_toSlotS.F (l0 : List (S78)) : Option ((List (S76))) := lim (fun k => laws_toSlotS.f k l0)
theorem laws_toSlotS.F_co (l0 : List (S78)) : Co (fun k => laws_toSlotS.f k l0) (laws_toSlotS.F l0) := Co.base (fun k => laws_toSlotS.mono _ k)
theorem laws_toSlotS.L0_eq (x0 : List (S78)) (x3 : List (S76)) (x4 : Int) : laws_toSlotS.L0 x0 x3 x4 = (if x4 < (x0.length : Int) then (if 0 ≤ x4 then ((laws_toSlot.f ((rd_T78 x0 x4).f0) ((rd_T78 x0 x4).f1) ((rd_T78 x0 x4).f2)).bind fun bt108 => (if x4 < (x3.length : Int) then (laws_toSlotS.L0 x0 (x3.set (x4 : Int).toNat (⟨bt108.1, bt108.2.1, bt108.2.2⟩ : S76)) (wrap64 (x4 + 1))) else (none))) else (none)) else (some x3)) := by
  refine Co.step (laws_toSlotS.L0_co x0 x3 x4) (h := fun k => (if x4 < (x0.length : Int) then (if 0 ≤ x4 then ((laws_toSlot.f ((rd_T78 x0 x4).f0) ((rd_T78 x0 x4).f1) ((rd_T78 x0 x4).f2)).bind fun bt108 => (if x4 < (x3.length : Int) then (laws_toSlotS.l0 k x0 (x3.set (x4 : Int).toNat (⟨bt108.1, bt108.2.1, bt108.2.2⟩ : S76)) (wrap64 (x4 + 1))) else (none))) else (none)) else (some x3))) (fun k => by first | rfl | (simp only [laws_toSlotS.l0])) ?_
  repeat' first
    | (with_reducible exact Co.const _)
    | (with_reducible exact laws_toSlotS.L0_co _ _ _)
    | (with_reducible refine Co.ite ?_ ?_)
    | (with_reducible refine Co.bind ?_ (fun _ => ?_))
theorem laws_toSlotS.F_eq (l0 : List (S78)) : laws_toSlotS.F l0 = (if 0 ≤ (l0.length : Int) then (if ((l0.length : Int) : Int).toNat ≤ 11728124029610 then (laws_toSlotS.L0 l0 (List.replicate ((l0.length : Int) : Int).toNat z76) 0) else (none)) else (none)) := by
  refine Co.same (laws_toSlotS.F_co l0) (h := fun k => (if 0 ≤ (l0.length : Int) then (if ((l0.length : Int) : Int).toNat ≤ 11728124029610 then (laws_toSlotS.l0 k l0 (List.replicate ((l0.length : Int) : Int).toNat z76) 0) else (none)) else (none))) (fun k => by first | rfl | unfold laws_toSlotS.f; rfl) ?_
  repeat' first
    | (with_reducible exact Co.const _)
    | (with_reducible exact laws_toSlotS.L0_co _ _ _)
    | (with_reducible refine Co.ite ?_ ?_)
    | (with_reducible refine Co.bind ?_ (fun _ => ?_))

noncomputable def laws_eqSlotS.L0 (x0 : List (S76)) (x1 : List (S76)) (x5 : Int) : Option (Bool) := lim (fun k => laws_eqSlotS.l0 k x0 x1 x5)
theorem laws_eqSlotS.L0_co (x0 : List (S76)) (x1 : List (S76)) (x5 : Int) : Co (fun k => laws_eqSlotS.l0 k x0 x1 x5) (laws_eqSlotS.L0 x0 x1 x5) := Co.base (fun k => (laws_eqSlotS.mono_l k) _ _ _)
noncomputable def laws_eqSlotS.F (l0 : List (S76)) (l1 : List (S76)) : Option (Bool) := lim (fun k => laws_eqSlotS.f k l0 l1)
theorem laws_eqSlotS.F_co (l0 : List (S76)) (l1 : List (S76)) : Co (fun k => laws_eqSlotS.f k l0 l1) (laws_eqSlotS.F l0 l1) := Co.base (fun k => laws_eqSlotS.mono _ _ k)
theorem laws_eqSlotS.L0_eq (x0 : List (S76)) (x1 : List (S76)) (x5 : Int) : laws_eqSlotS.L0 x0 x1 x5 = (if x5 < (x0.length : Int) then (if 0 ≤ x5 then (if x5 < (x1.length : Int) then ((laws_eqSlot.f ((rd_T76 x0 x5).f0) ((rd_T76 x0 x5).f1) ((rd_T76 x0 x5).f2) ((rd_T76 x1 x5).f0) ((rd_T76 x1 x5).f1) ((rd_T76 x1 x5).f2)).bind fun t116 => (if t116 = true then (laws_eqSlotS.L0 x0 x1 (wrap64 (x5 + 1))) else (some false))) else (none)) else (none)) else (some true)) := by
  refine Co.step (laws_eqSlotS.L0_co x0 x1 x5) (h := fun k => (if x5 < (x0.length : Int) then (if 0 ≤ x5 then (if x5 < (x1.length : Int) then ((laws_eqSlot.f ((rd_T76 x0 x5).f0) ((rd_T76 x0 x5).f1) ((rd_T76 x0 x5).f2) ((rd_T76 x1 x5).f0) ((rd_T76 x1 x5).f1) ((rd_T76 x1 x5).f2)).bind fun t116 => (if t116 = true then (laws_eqSlotS.l0 k x0 x1 (wrap64 (x5 + 1))) else (some false))) else (none)) else (none)) else (some true))) (fun k => by first | rfl | (simp only [laws_eqSlotS.l0])) ?_
  repeat' first
    | (with_reducible exact Co.const _)
    | (with_reducible exact laws_eqSlotS.L0_co _ _ _)
    | (with_reducible refine Co.ite ?_ ?_)
    | (with_reducible refine Co.bind ?_ (fun _ => ?_))
theorem laws_eqSlotS.F_eq (l0 : List (S76)) (l1 : List (S76)) : laws_eqSlotS.F l0 l1 = (if (l0.length : Int) = (l1.length : Int) then (laws_eqSlotS.L0 l0 l1 0) else (some false)) := by
  refine Co.same (laws_eqSlotS.F_co l0 l1) (h := fun k => (if (l0.length : Int) = (l1.length : Int) then (laws_eqSlotS.l0 k l0 l1 0) else (some false))) (fun k => by first | rfl | unfold laws_eqSlotS.f; rfl) ?_
  repeat' first
    | (with_reducible exact Co.const _)
    | (with_reducible exact laws_eqSlotS.L0_co _ _ _)
    | (with_reducible refine Co.ite ?_ ?_)
    | (with_reducible refine Co.bind ?_ (fun _ => ?_))

noncomputable def spec_LargestFree.L0 (x0 : List (S76)) (x3 : Int) (x4 : Int) : Option (Int) := lim (fun k => spec_LargestFree.l0 k x0 x3 x4)
theorem spec_LargestFree.L0_co (x0 : List (S76)) (x3 : Int) (x4 : Int) : Co (fun k => spec_LargestFree.l0 k x0 x3 x4) (spec_LargestFree.L0 x0 x3 x4) := Co.base (fun k => (spec_LargestFree.mono_l k) _ _ _)
noncomputable def spec_LargestFree.F (l0 : List (S76)) : Option (Int) := lim (fun k => spec_LargestFree.f k l0)
theorem spec_LargestFree.F_co (l0 : List (S76)) : Co (fun k => spec_LargestFree.f k l0) (spec_LargestFree.F l0) := Co.base (fun k => spec_LargestFree.mono _ k)
theorem spec_LargestFree.L0_eq (x0 : List (S76)) (x3 : Int) (x4 : Int) : spec_LargestFree.L0 x0 x3 x4 = (if x4 < (x0.length : Int) then (if 0 ≤ x4 then (if ((rd_T76 x0 x4).f2) = 0 then ((spec_Max.f x3 ((rd_T76 x0 x4).f1)).bind fun t119 => (spec_LargestFree.L0 x0 t119 (wrap64 (x4 + 1)))) else (spec_LargestFree.L0 x0 x3 (wrap64 (x4 + 1)))) else (none)) else (some x3)) := by
  refine Co.step (spec_LargestFree.L0_co x0 x3 x4) (h := fun k => (if x4 < (x0.length : Int) then (if 0 ≤ x4 then (if ((rd_T76 x0 x4).f2) = 0 then ((spec_Max.f x3 ((rd_T76 x0 x4).f1)).bind fun t119 => (spec_LargestFree.l0 k x0 t119 (wrap64 (x4 + 1)))) else (spec_LargestFree.l0 k x0 x3 (wrap64 (x4 + 1)))) else (none)) else (some x3))) (fun k => by first | rfl | (simp only [spec_LargestFree.l0])) ?_
  repeat' first
    | (with_reducible exact Co.const _)
    | (with_reducible exact spec_LargestFree.L0_co _ _ _)
    | (with_reducible refine Co.ite ?_ ?_)
    | (with_reducible refine Co.bind ?_ (fun _ => ?_))
theorem spec_LargestFree.F_eq (l0 : List (S76)) : spec_LargestFree.F l0 = (spec_LargestFree.L0 l0 0 0) := by
  refine Co.same (spec_LargestFree.F_co l0) (h := fun k => (spec_LargestFree.l0 k l0 0 0)) (fun k => by first | rfl | unfold spec_LargestFree.f; rfl) ?_
  repeat' first
    | (with_reducible exact Co.const _)
    | (with_reducible exact spec_LargestFree.L0_co _ _ _)
    | (with_reducible refine Co.ite ?_ ?_)
    | (with_reducible refine Co.bind ?_ (fun _ => ?_))

noncomputable def impl_LargestFree.L0 (x3 : Int) (x6 : List (S76)) (x7 : Int) (x8 : Int) : Option (Int) := lim (fun k => impl_LargestFree.l0 k x3 x6 x7 x8)
theorem impl_LargestFree.L0_co (x3 : Int) (x6 : List (S76)) (x7 : Int) (x8 : Int) : Co (fun k => impl_LargestFree.l0 k x3 x6 x7 x8) (impl_LargestFree.L0 x3 x6 x7 x8) := Co.base (fun k => (impl_LargestFree.mono_l k) _ _ _ _)
noncomputable def impl_LargestFree.F (l0 : List (S76)) : Option (Int) := lim (fun k => impl_LargestFree.f k l0)
theorem impl_LargestFree.F_co (l0 : List (S76)) : Co (fun k => impl_LargestFree.f k l0) (impl_LargestFree.F l0) := Co.base (fun k => impl_LargestFree.mono _ k)
theorem impl_LargestFree.L0_eq (x3 : Int) (x6 : List (S76)) (x7 : Int) (x8 : Int) : impl_LargestFree.L0 x3 x6 x7 x8 = (if x8 < x7 then (if 0 ≤ x8 then (if x8 < (x6.length : Int) then (if ((rd_T76 x6 x8).f2) = 0 then (impl_LargestFree.L0 (mx x3 ((rd_T76 x6 x8).f1)) x6 x7 (wrap64 (x8 + 1))) else (impl_LargestFree.L0 x3 x6 x7 (wrap64 (x8 + 1)))) else (none)) else (none)) else (some x3)) := by
  refine Co.step (impl_LargestFree.L0_co x3 x6 x7 x8) (h := fun k => (if x8 < x7 then (if 0 ≤ x8 then (if x8 < (x6.length : Int) then (if ((rd_T76 x6 x8).f2) = 0 then (impl_LargestFree.l0 k (mx x3 ((rd_T76 x6 x8).f1)) x6 x7 (wrap64 (x8 + 1))) else (impl_LargestFree.l0 k x3 x6 x7 (wrap64 (x8 + 1)))) else (none)) else (none)) else (some x3))) (fun k => by first | rfl | (simp only [impl_LargestFree.l0])) ?_
  repeat' first
    | (with_reducible exact Co.const _)
    | (with_reducible exact impl_LargestFree.L0_co _ _ _ _)
    | (with_reducible refine Co.ite ?_ ?_)
    | (with_reducible refine Co.bind ?_ (fun _ => ?_))
theorem impl_LargestFree.F_eq (l0 : List (S76)) : impl_LargestFree.F l0 = (impl_LargestFree.L0 0 l0 (l0.length : Int) 0) := by
  refine Co.same (impl_LargestFree.F_co l0) (h := fun k => (impl_LargestFree.l0 k 0 l0 (l0.length : Int) 0)) (fun k => by first | rfl | unfold impl_LargestFree.f; rfl) ?_
  repeat' first
    | (with_reducible exact Co.const _)
    | (with_reducible exact impl_LargestFree.L0_co _ _ _ _)
    | (with_reducible refine Co.ite ?_ ?_)
    | (with_reducible refine Co.bind ?_ (fun _ => ?_))

noncomputable def laws_FnExactLargestFree.F (l0 : List (S78)) : Option (Bool) := lim (fun k => laws_FnExactLargestFree.f k l0)
theorem laws_FnExactLargestFree.F_co (l0 : List (S78)) : Co (fun k => laws_FnExactLargestFree.f k l0) (laws_FnExactLargestFree.F l0) := Co.base (fun k => laws_FnExactLargestFree.mono _ k)
theorem laws_FnExactLargestFree.F_eq (l0 : List (S78)) : laws_FnExactLargestFree.F l0 = ((laws_szSlotS.f l0 1048576).bind fun t122 => (if t122 < 0 then (some true) else ((laws_toSlotS.F l0).bind fun t123 => ((spec_LargestFree.F t123).bind fun t126 => ((laws_toSlotS.F l0).bind fun t127 => ((impl_LargestFree.F t127).bind fun t130 => (if t130 = t126 then ((laws_toSlotS.F l0).bind fun t131 => ((laws_eqSlotS.F t127 t131).bind fun t134 => (if t134 = true then (some true) else (some false)))) else (some false)))))))) := by
  refine Co.same (laws_FnExactLargestFree.F_co l0) (h := fun k => ((laws_szSlotS.f l0 1048576).bind fun t122 => (if t122 < 0 then (some true) else ((laws_toSlotS.f k l0).bind fun t123 => ((spec_LargestFree.f k t123).bind fun t126 => ((laws_toSlotS.f k l0).bind fun t127 => ((impl_LargestFree.f k t127).bind fun t130 => (if t130 = t126 then ((laws_toSlotS.f k l0).bind fun t131 => ((laws_eqSlotS.f k t127 t131).bind fun t134 => (if t134 = true then (some true) else (some false)))) else (some false))))))))) (fun k => by first | rfl | unfold laws_FnExactLargestFree.f; rfl) ?_
  repeat' first
    | (with_reducible exact Co.const _)
    | (with_reducible exact impl_LargestFree.F_co _)
    | (with_reducible exact laws_eqSlotS.F_co _ _)
    | (with_reducible exact laws_toSlotS.F_co _)
    | (with_reducible exact spec_LargestFree.F_co _)
    | (with_reducible refine Co.ite ?_ ?_)
    | (with_reducible refine Co.bind ?_ (fun _ => ?_))

end Go.Proofs.Ytlijcogbgbgdhaa.PFnExactLargestFree.Pure
