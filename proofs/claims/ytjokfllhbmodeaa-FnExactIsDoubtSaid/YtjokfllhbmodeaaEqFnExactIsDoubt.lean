/-
  The printed functions that this law reaches, their rounds used up, and the equations that they meet.
-/
import Derived.Test.YtjokfllhbmodeaaPFnExactIsDoubtx1
import Derived.Test.YtjokfllhbmodeaaPFnExactIsDoubtx2
import Derived.Test.YtjokfllhbmodeaaLim
namespace Go.Proofs.Ytjokfllhbmodeaa.PFnExactIsDoubt.Pure
open Go.RowKit Go.Proofs.YtjokfllhbmodeaaW.PrintWords Go.Proofs.YtjokfllhbmodeaaW.PrintLast Go.Proofs.YtjokfllhbmodeaaW.PrintMore Go.Proofs.Ytjokfllhbmodeaa.PFnExactIsDoubt Go.Proofs.Ytjokfllhbmodeaa.Lim
set_option linter.unusedVariables false
set_option maxRecDepth 100000

noncomputable def spec_l7Ids.L0 (x0 : List Int) (x1 : Int) (x2 : Int) (x7 : Int) : Option (Bool) := lim (fun k => spec_l7Ids.l0 k x0 x1 x2 x7)
theorem spec_l7Ids.L0_co (x0 : List Int) (x1 : Int) (x2 : Int) (x7 : Int) : Co (fun k => spec_l7Ids.l0 k x0 x1 x2 x7) (spec_l7Ids.L0 x0 x1 x2 x7) := Co.base (fun k => (spec_l7Ids.mono_l k) _ _ _ _)
noncomputable def spec_l7Ids.F (l0 : List Int) (a1 : Int) (a2 : Int) : Option (Bool) := lim (fun k => spec_l7Ids.f k l0 a1 a2)
theorem spec_l7Ids.F_co (l0 : List Int) (a1 : Int) (a2 : Int) : Co (fun k => spec_l7Ids.f k l0 a1 a2) (spec_l7Ids.F l0 a1 a2) := Co.base (fun k => spec_l7Ids.mono _ _ _ k)
theorem spec_l7Ids.L0_eq (x0 : List Int) (x1 : Int) (x2 : Int) (x7 : Int) : spec_l7Ids.L0 x0 x1 x2 x7 = (if x7 < (x0.length : Int) then (if 0 ≤ x7 then ((spec_l1In.f (rd x0 x7) x1 x2).bind fun t105 => (if t105 = true then (if x7 > 0 then (if 0 ≤ (wrap64 (x7 - 1)) then (if (wrap64 (x7 - 1)) < (x0.length : Int) then (if (rd x0 (wrap64 (x7 - 1))) ≥ (rd x0 x7) then (some false) else (spec_l7Ids.L0 x0 x1 x2 (wrap64 (x7 + 1)))) else (none)) else (none)) else (spec_l7Ids.L0 x0 x1 x2 (wrap64 (x7 + 1)))) else (some false))) else (none)) else (some true)) := by
  refine Co.step (spec_l7Ids.L0_co x0 x1 x2 x7) (h := fun k => (if x7 < (x0.length : Int) then (if 0 ≤ x7 then ((spec_l1In.f (rd x0 x7) x1 x2).bind fun t105 => (if t105 = true then (if x7 > 0 then (if 0 ≤ (wrap64 (x7 - 1)) then (if (wrap64 (x7 - 1)) < (x0.length : Int) then (if (rd x0 (wrap64 (x7 - 1))) ≥ (rd x0 x7) then (some false) else (spec_l7Ids.l0 k x0 x1 x2 (wrap64 (x7 + 1)))) else (none)) else (none)) else (spec_l7Ids.l0 k x0 x1 x2 (wrap64 (x7 + 1)))) else (some false))) else (none)) else (some true))) (fun k => by first | rfl | (simp only [spec_l7Ids.l0])) ?_
  repeat' first
    | (with_reducible exact Co.const _)
    | (with_reducible exact spec_l7Ids.L0_co _ _ _ _)
    | (with_reducible refine Co.ite ?_ ?_)
    | (with_reducible refine Co.bind ?_ (fun _ => ?_))
theorem spec_l7Ids.F_eq (l0 : List Int) (a1 : Int) (a2 : Int) : spec_l7Ids.F l0 a1 a2 = (spec_l7Ids.L0 l0 a1 a2 0) := by
  refine Co.same (spec_l7Ids.F_co l0 a1 a2) (h := fun k => (spec_l7Ids.l0 k l0 a1 a2 0)) (fun k => by first | rfl | unfold spec_l7Ids.f; rfl) ?_
  repeat' first
    | (with_reducible exact Co.const _)
    | (with_reducible exact spec_l7Ids.L0_co _ _ _ _)
    | (with_reducible refine Co.ite ?_ ?_)
    | (with_reducible refine Co.bind ?_ (fun _ => ?_))

noncomputable def spec_IsDoubt.F (l0_0 : List Int) (a0_1 : Int) (l0_2 : List Int) (a0_3 : Int) : Option (Bool) := lim (fun k => spec_IsDoubt.f k l0_0 a0_1 l0_2 a0_3)
theorem spec_IsDoubt.F_co (l0_0 : List Int) (a0_1 : Int) (l0_2 : List Int) (a0_3 : Int) : Co (fun k => spec_IsDoubt.f k l0_0 a0_1 l0_2 a0_3) (spec_IsDoubt.F l0_0 a0_1 l0_2 a0_3) := Co.base (fun k => spec_IsDoubt.mono _ _ _ _ k)
theorem spec_IsDoubt.F_eq (l0_0 : List Int) (a0_1 : Int) (l0_2 : List Int) (a0_3 : Int) : spec_IsDoubt.F l0_0 a0_1 l0_2 a0_3 = ((spec_l7Ids.F l0_0 0 7).bind fun t109 => (if t109 = true then ((spec_l1In.f a0_1 0 50).bind fun t110 => (if t110 = true then ((spec_l7Ids.F l0_2 1 30).bind fun t111 => (if t111 = true then (if (l0_2.length : Int) ≤ 9 then ((spec_l1In.f a0_3 0 1000).bind fun t112 => (some t112)) else (some false)) else (some false))) else (some false))) else (some false))) := by
  refine Co.same (spec_IsDoubt.F_co l0_0 a0_1 l0_2 a0_3) (h := fun k => ((spec_l7Ids.f k l0_0 0 7).bind fun t109 => (if t109 = true then ((spec_l1In.f a0_1 0 50).bind fun t110 => (if t110 = true then ((spec_l7Ids.f k l0_2 1 30).bind fun t111 => (if t111 = true then (if (l0_2.length : Int) ≤ 9 then ((spec_l1In.f a0_3 0 1000).bind fun t112 => (some t112)) else (some false)) else (some false))) else (some false))) else (some false)))) (fun k => by first | rfl | unfold spec_IsDoubt.f; rfl) ?_
  repeat' first
    | (with_reducible exact Co.const _)
    | (with_reducible exact spec_l7Ids.F_co _ _ _)
    | (with_reducible refine Co.ite ?_ ?_)
    | (with_reducible refine Co.bind ?_ (fun _ => ?_))

noncomputable def laws_toIntS.L0 (x0 : List Int) (x3 : List Int) (x4 : Int) : Option (List Int) := lim (fun k => laws_toIntS.l0 k x0 x3 x4)
theorem laws_toIntS.L0_co (x0 : List Int) (x3 : List Int) (x4 : Int) : Co (fun k => laws_toIntS.l0 k x0 x3 x4) (laws_toIntS.L0 x0 x3 x4) := Co.base (fun k => (laws_toIntS.mono_l k) _ _ _)
noncomputable def laws_toIntS.F (l0 : List Int) : Option (List Int) := lim (fun k => laws_toIntS.f k l0)
theorem laws_toIntS.F_co (l0 : List Int) : Co (fun k => laws_toIntS.f k l0) (laws_toIntS.F l0) := Co.base (fun k => laws_toIntS.mono _ k)
theorem laws_toIntS.L0_eq (x0 : List Int) (x3 : List Int) (x4 : Int) : laws_toIntS.L0 x0 x3 x4 = (if x4 < (x0.length : Int) then (if 0 ≤ x4 then (if x4 < (x3.length : Int) then (laws_toIntS.L0 x0 (x3.set (x4 : Int).toNat (rd x0 x4)) (wrap64 (x4 + 1))) else (none)) else (none)) else (some x3)) := by
  refine Co.step (laws_toIntS.L0_co x0 x3 x4) (h := fun k => (if x4 < (x0.length : Int) then (if 0 ≤ x4 then (if x4 < (x3.length : Int) then (laws_toIntS.l0 k x0 (x3.set (x4 : Int).toNat (rd x0 x4)) (wrap64 (x4 + 1))) else (none)) else (none)) else (some x3))) (fun k => by first | rfl | (simp only [laws_toIntS.l0])) ?_
  repeat' first
    | (with_reducible exact Co.const _)
    | (with_reducible exact laws_toIntS.L0_co _ _ _)
    | (with_reducible refine Co.ite ?_ ?_)
    | (with_reducible refine Co.bind ?_ (fun _ => ?_))
theorem laws_toIntS.F_eq (l0 : List Int) : laws_toIntS.F l0 = (if 0 ≤ (l0.length : Int) then (if ((l0.length : Int) : Int).toNat ≤ 35184372088832 then (laws_toIntS.L0 l0 (List.replicate ((l0.length : Int) : Int).toNat 0) 0) else (none)) else (none)) := by
  refine Co.same (laws_toIntS.F_co l0) (h := fun k => (if 0 ≤ (l0.length : Int) then (if ((l0.length : Int) : Int).toNat ≤ 35184372088832 then (laws_toIntS.l0 k l0 (List.replicate ((l0.length : Int) : Int).toNat 0) 0) else (none)) else (none))) (fun k => by first | rfl | unfold laws_toIntS.f; rfl) ?_
  repeat' first
    | (with_reducible exact Co.const _)
    | (with_reducible exact laws_toIntS.L0_co _ _ _)
    | (with_reducible refine Co.ite ?_ ?_)
    | (with_reducible refine Co.bind ?_ (fun _ => ?_))

noncomputable def laws_toDoubt.F (l0_0 : List Int) (a0_1 : Int) (l0_2 : List Int) (a0_3 : Int) : Option (List Int × Int × List Int × Int) := lim (fun k => laws_toDoubt.f k l0_0 a0_1 l0_2 a0_3)
theorem laws_toDoubt.F_co (l0_0 : List Int) (a0_1 : Int) (l0_2 : List Int) (a0_3 : Int) : Co (fun k => laws_toDoubt.f k l0_0 a0_1 l0_2 a0_3) (laws_toDoubt.F l0_0 a0_1 l0_2 a0_3) := Co.base (fun k => laws_toDoubt.mono _ _ _ _ k)
theorem laws_toDoubt.F_eq (l0_0 : List Int) (a0_1 : Int) (l0_2 : List Int) (a0_3 : Int) : laws_toDoubt.F l0_0 a0_1 l0_2 a0_3 = ((laws_toIntS.F l0_0).bind fun t121 => ((laws_toIntS.F l0_2).bind fun t124 => (some (t121, a0_1, t124, a0_3)))) := by
  refine Co.same (laws_toDoubt.F_co l0_0 a0_1 l0_2 a0_3) (h := fun k => ((laws_toIntS.f k l0_0).bind fun t121 => ((laws_toIntS.f k l0_2).bind fun t124 => (some (t121, a0_1, t124, a0_3))))) (fun k => by first | rfl | unfold laws_toDoubt.f; rfl) ?_
  repeat' first
    | (with_reducible exact Co.const _)
    | (with_reducible exact laws_toIntS.F_co _)
    | (with_reducible refine Co.ite ?_ ?_)
    | (with_reducible refine Co.bind ?_ (fun _ => ?_))

noncomputable def impl_isAscending.L0 (x0 : List Int) (x1 : Int) (x2 : Int) (x9 : List Int) (x10 : Int) (x11 : Int) : Option (Bool) := lim (fun k => impl_isAscending.l0 k x0 x1 x2 x9 x10 x11)
theorem impl_isAscending.L0_co (x0 : List Int) (x1 : Int) (x2 : Int) (x9 : List Int) (x10 : Int) (x11 : Int) : Co (fun k => impl_isAscending.l0 k x0 x1 x2 x9 x10 x11) (impl_isAscending.L0 x0 x1 x2 x9 x10 x11) := Co.base (fun k => (impl_isAscending.mono_l k) _ _ _ _ _ _)
noncomputable def impl_isAscending.F (l0 : List Int) (a1 : Int) (a2 : Int) : Option (Bool) := lim (fun k => impl_isAscending.f k l0 a1 a2)
theorem impl_isAscending.F_co (l0 : List Int) (a1 : Int) (a2 : Int) : Co (fun k => impl_isAscending.f k l0 a1 a2) (impl_isAscending.F l0 a1 a2) := Co.base (fun k => impl_isAscending.mono _ _ _ k)
theorem impl_isAscending.L0_eq (x0 : List Int) (x1 : Int) (x2 : Int) (x9 : List Int) (x10 : Int) (x11 : Int) : impl_isAscending.L0 x0 x1 x2 x9 x10 x11 = (if x11 < x10 then (if 0 ≤ x11 then (if x11 < (x9.length : Int) then ((impl_InRange.f (rd x9 x11) x1 x2).bind fun t128 => (if t128 = true then (if x11 > 0 then (if 0 ≤ (wrap64 (x11 - 1)) then (if (wrap64 (x11 - 1)) < (x0.length : Int) then (if (rd x9 x11) ≤ (rd x0 (wrap64 (x11 - 1))) then (some false) else (impl_isAscending.L0 x0 x1 x2 x9 x10 (wrap64 (x11 + 1)))) else (none)) else (none)) else (impl_isAscending.L0 x0 x1 x2 x9 x10 (wrap64 (x11 + 1)))) else (some false))) else (none)) else (none)) else (some true)) := by
  refine Co.step (impl_isAscending.L0_co x0 x1 x2 x9 x10 x11) (h := fun k => (if x11 < x10 then (if 0 ≤ x11 then (if x11 < (x9.length : Int) then ((impl_InRange.f (rd x9 x11) x1 x2).bind fun t128 => (if t128 = true then (if x11 > 0 then (if 0 ≤ (wrap64 (x11 - 1)) then (if (wrap64 (x11 - 1)) < (x0.length : Int) then (if (rd x9 x11) ≤ (rd x0 (wrap64 (x11 - 1))) then (some false) else (impl_isAscending.l0 k x0 x1 x2 x9 x10 (wrap64 (x11 + 1)))) else (none)) else (none)) else (impl_isAscending.l0 k x0 x1 x2 x9 x10 (wrap64 (x11 + 1)))) else (some false))) else (none)) else (none)) else (some true))) (fun k => by first | rfl | (simp only [impl_isAscending.l0])) ?_
  repeat' first
    | (with_reducible exact Co.const _)
    | (with_reducible exact impl_isAscending.L0_co _ _ _ _ _ _)
    | (with_reducible refine Co.ite ?_ ?_)
    | (with_reducible refine Co.bind ?_ (fun _ => ?_))
theorem impl_isAscending.F_eq (l0 : List Int) (a1 : Int) (a2 : Int) : impl_isAscending.F l0 a1 a2 = (impl_isAscending.L0 l0 a1 a2 l0 (l0.length : Int) 0) := by
  refine Co.same (impl_isAscending.F_co l0 a1 a2) (h := fun k => (impl_isAscending.l0 k l0 a1 a2 l0 (l0.length : Int) 0)) (fun k => by first | rfl | unfold impl_isAscending.f; rfl) ?_
  repeat' first
    | (with_reducible exact Co.const _)
    | (with_reducible exact impl_isAscending.L0_co _ _ _ _ _ _)
    | (with_reducible refine Co.ite ?_ ?_)
    | (with_reducible refine Co.bind ?_ (fun _ => ?_))

noncomputable def impl_IsDoubt.F (l0_0 : List Int) (a0_1 : Int) (l0_2 : List Int) (a0_3 : Int) : Option (Bool) := lim (fun k => impl_IsDoubt.f k l0_0 a0_1 l0_2 a0_3)
theorem impl_IsDoubt.F_co (l0_0 : List Int) (a0_1 : Int) (l0_2 : List Int) (a0_3 : Int) : Co (fun k => impl_IsDoubt.f k l0_0 a0_1 l0_2 a0_3) (impl_IsDoubt.F l0_0 a0_1 l0_2 a0_3) := Co.base (fun k => impl_IsDoubt.mono _ _ _ _ k)
theorem impl_IsDoubt.F_eq (l0_0 : List Int) (a0_1 : Int) (l0_2 : List Int) (a0_3 : Int) : impl_IsDoubt.F l0_0 a0_1 l0_2 a0_3 = ((impl_isAscending.F l0_0 0 7).bind fun t131 => (if t131 = true then ((impl_InRange.f a0_1 0 50).bind fun t132 => (if t132 = true then ((impl_isAscending.F l0_2 1 30).bind fun t133 => (if t133 = true then (if (l0_2.length : Int) ≤ 9 then ((impl_InRange.f a0_3 0 1000).bind fun t134 => (some t134)) else (some false)) else (some false))) else (some false))) else (some false))) := by
  refine Co.same (impl_IsDoubt.F_co l0_0 a0_1 l0_2 a0_3) (h := fun k => ((impl_isAscending.f k l0_0 0 7).bind fun t131 => (if t131 = true then ((impl_InRange.f a0_1 0 50).bind fun t132 => (if t132 = true then ((impl_isAscending.f k l0_2 1 30).bind fun t133 => (if t133 = true then (if (l0_2.length : Int) ≤ 9 then ((impl_InRange.f a0_3 0 1000).bind fun t134 => (some t134)) else (some false)) else (some false))) else (some false))) else (some false)))) (fun k => by first | rfl | unfold impl_IsDoubt.f; rfl) ?_
  repeat' first
    | (with_reducible exact Co.const _)
    | (with_reducible exact impl_isAscending.F_co _ _ _)
    | (with_reducible refine Co.ite ?_ ?_)
    | (with_reducible refine Co.bind ?_ (fun _ => ?_))

noncomputable def laws_eqIntS.L0 (x0 : List Int) (x1 : List Int) (x5 : Int) : Option (Bool) := lim (fun k => laws_eqIntS.l0 k x0 x1 x5)
theorem laws_eqIntS.L0_co (x0 : List Int) (x1 : List Int) (x5 : Int) : Co (fun k => laws_eqIntS.l0 k x0 x1 x5) (laws_eqIntS.L0 x0 x1 x5) := Co.base (fun k => (laws_eqIntS.mono_l k) _ _ _)
noncomputable def laws_eqIntS.F (l0 : List Int) (l1 : List Int) : Option (Bool) := lim (fun k => laws_eqIntS.f k l0 l1)
theorem laws_eqIntS.F_co (l0 : List Int) (l1 : List Int) : Co (fun k => laws_eqIntS.f k l0 l1) (laws_eqIntS.F l0 l1) := Co.base (fun k => laws_eqIntS.mono _ _ k)
theorem laws_eqIntS.L0_eq (x0 : List Int) (x1 : List Int) (x5 : Int) : laws_eqIntS.L0 x0 x1 x5 = (if x5 < (x0.length : Int) then (if 0 ≤ x5 then (if x5 < (x1.length : Int) then (if (rd x0 x5) = (rd x1 x5) then (laws_eqIntS.L0 x0 x1 (wrap64 (x5 + 1))) else (some false)) else (none)) else (none)) else (some true)) := by
  refine Co.step (laws_eqIntS.L0_co x0 x1 x5) (h := fun k => (if x5 < (x0.length : Int) then (if 0 ≤ x5 then (if x5 < (x1.length : Int) then (if (rd x0 x5) = (rd x1 x5) then (laws_eqIntS.l0 k x0 x1 (wrap64 (x5 + 1))) else (some false)) else (none)) else (none)) else (some true))) (fun k => by first | rfl | (simp only [laws_eqIntS.l0])) ?_
  repeat' first
    | (with_reducible exact Co.const _)
    | (with_reducible exact laws_eqIntS.L0_co _ _ _)
    | (with_reducible refine Co.ite ?_ ?_)
    | (with_reducible refine Co.bind ?_ (fun _ => ?_))
theorem laws_eqIntS.F_eq (l0 : List Int) (l1 : List Int) : laws_eqIntS.F l0 l1 = (if (l0.length : Int) = (l1.length : Int) then (laws_eqIntS.L0 l0 l1 0) else (some false)) := by
  refine Co.same (laws_eqIntS.F_co l0 l1) (h := fun k => (if (l0.length : Int) = (l1.length : Int) then (laws_eqIntS.l0 k l0 l1 0) else (some false))) (fun k => by first | rfl | unfold laws_eqIntS.f; rfl) ?_
  repeat' first
    | (with_reducible exact Co.const _)
    | (with_reducible exact laws_eqIntS.L0_co _ _ _)
    | (with_reducible refine Co.ite ?_ ?_)
    | (with_reducible refine Co.bind ?_ (fun _ => ?_))

noncomputable def laws_eqDoubt.F (l0_0 : List Int) (a0_1 : Int) (l0_2 : List Int) (a0_3 : Int) (l1_0 : List Int) (a1_1 : Int) (l1_2 : List Int) (a1_3 : Int) : Option (Bool) := lim (fun k => laws_eqDoubt.f k l0_0 a0_1 l0_2 a0_3 l1_0 a1_1 l1_2 a1_3)
theorem laws_eqDoubt.F_co (l0_0 : List Int) (a0_1 : Int) (l0_2 : List Int) (a0_3 : Int) (l1_0 : List Int) (a1_1 : Int) (l1_2 : List Int) (a1_3 : Int) : Co (fun k => laws_eqDoubt.f k l0_0 a0_1 l0_2 a0_3 l1_0 a1_1 l1_2 a1_3) (laws_eqDoubt.F l0_0 a0_1 l0_2 a0_3 l1_0 a1_1 l1_2 a1_3) := Co.base (fun k => laws_eqDoubt.mono _ _ _ _ _ _ _ _ k)
theorem laws_eqDoubt.F_eq (l0_0 : List Int) (a0_1 : Int) (l0_2 : List Int) (a0_3 : Int) (l1_0 : List Int) (a1_1 : Int) (l1_2 : List Int) (a1_3 : Int) : laws_eqDoubt.F l0_0 a0_1 l0_2 a0_3 l1_0 a1_1 l1_2 a1_3 = ((laws_eqIntS.F l0_0 l1_0).bind fun t139 => (if t139 = true then (if a0_1 = a1_1 then ((laws_eqIntS.F l0_2 l1_2).bind fun t140 => (if t140 = true then (if a0_3 = a1_3 then (some true) else (some false)) else (some false))) else (some false)) else (some false))) := by
  refine Co.same (laws_eqDoubt.F_co l0_0 a0_1 l0_2 a0_3 l1_0 a1_1 l1_2 a1_3) (h := fun k => ((laws_eqIntS.f k l0_0 l1_0).bind fun t139 => (if t139 = true then (if a0_1 = a1_1 then ((laws_eqIntS.f k l0_2 l1_2).bind fun t140 => (if t140 = true then (if a0_3 = a1_3 then (some true) else (some false)) else (some false))) else (some false)) else (some false)))) (fun k => by first | rfl | unfold laws_eqDoubt.f; rfl) ?_
  repeat' first
    | (with_reducible exact Co.const _)
    | (with_reducible exact laws_eqIntS.F_co _ _)
    | (with_reducible refine Co.ite ?_ ?_)
    | (with_reducible refine Co.bind ?_ (fun _ => ?_))

noncomputable def laws_FnExactIsDoubt.F (l0_0 : List Int) (a0_1 : Int) (l0_2 : List Int) (a0_3 : Int) : Option (Bool) := lim (fun k => laws_FnExactIsDoubt.f k l0_0 a0_1 l0_2 a0_3)
theorem laws_FnExactIsDoubt.F_co (l0_0 : List Int) (a0_1 : Int) (l0_2 : List Int) (a0_3 : Int) : Co (fun k => laws_FnExactIsDoubt.f k l0_0 a0_1 l0_2 a0_3) (laws_FnExactIsDoubt.F l0_0 a0_1 l0_2 a0_3) := Co.base (fun k => laws_FnExactIsDoubt.mono _ _ _ _ k)
theorem laws_FnExactIsDoubt.F_eq (l0_0 : List Int) (a0_1 : Int) (l0_2 : List Int) (a0_3 : Int) : laws_FnExactIsDoubt.F l0_0 a0_1 l0_2 a0_3 = ((laws_szDoubt.f l0_0 a0_1 l0_2 a0_3 1048576).bind fun t142 => (if t142 < 0 then (some true) else ((laws_toDoubt.F l0_0 a0_1 l0_2 a0_3).bind fun bt143 => ((spec_IsDoubt.F bt143.1 bt143.2.1 bt143.2.2.1 bt143.2.2.2).bind fun t151 => ((laws_toDoubt.F l0_0 a0_1 l0_2 a0_3).bind fun bt152 => ((impl_IsDoubt.F bt152.1 bt152.2.1 bt152.2.2.1 bt152.2.2.2).bind fun t161 => (if (t161 != t151) = true then (some false) else ((laws_toDoubt.F l0_0 a0_1 l0_2 a0_3).bind fun bt162 => ((laws_eqDoubt.F bt152.1 bt152.2.1 bt152.2.2.1 bt152.2.2.2 bt162.1 bt162.2.1 bt162.2.2.1 bt162.2.2.2).bind fun t170 => (if t170 = true then (some true) else (some false))))))))))) := by
  refine Co.same (laws_FnExactIsDoubt.F_co l0_0 a0_1 l0_2 a0_3) (h := fun k => ((laws_szDoubt.f l0_0 a0_1 l0_2 a0_3 1048576).bind fun t142 => (if t142 < 0 then (some true) else ((laws_toDoubt.f k l0_0 a0_1 l0_2 a0_3).bind fun bt143 => ((spec_IsDoubt.f k bt143.1 bt143.2.1 bt143.2.2.1 bt143.2.2.2).bind fun t151 => ((laws_toDoubt.f k l0_0 a0_1 l0_2 a0_3).bind fun bt152 => ((impl_IsDoubt.f k bt152.1 bt152.2.1 bt152.2.2.1 bt152.2.2.2).bind fun t161 => (if (t161 != t151) = true then (some false) else ((laws_toDoubt.f k l0_0 a0_1 l0_2 a0_3).bind fun bt162 => ((laws_eqDoubt.f k bt152.1 bt152.2.1 bt152.2.2.1 bt152.2.2.2 bt162.1 bt162.2.1 bt162.2.2.1 bt162.2.2.2).bind fun t170 => (if t170 = true then (some true) else (some false)))))))))))) (fun k => by first | rfl | unfold laws_FnExactIsDoubt.f; rfl) ?_
  repeat' first
    | (with_reducible exact Co.const _)
    | (with_reducible exact impl_IsDoubt.F_co _ _ _ _)
    | (with_reducible exact laws_eqDoubt.F_co _ _ _ _ _ _ _ _)
    | (with_reducible exact laws_toDoubt.F_co _ _ _ _)
    | (with_reducible exact spec_IsDoubt.F_co _ _ _ _)
    | (with_reducible refine Co.ite ?_ ?_)
    | (with_reducible refine Co.bind ?_ (fun _ => ?_))

end Go.Proofs.Ytjokfllhbmodeaa.PFnExactIsDoubt.Pure
