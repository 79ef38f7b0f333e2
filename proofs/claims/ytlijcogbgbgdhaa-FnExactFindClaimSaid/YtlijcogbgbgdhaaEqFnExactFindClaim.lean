/-
  The printed functions that this law reaches, their rounds used up, and the equations that they meet.
-/
import Derived.Test.YtlijcogbgbgdhaaPFnExactFindClaimx1
import Derived.Test.YtlijcogbgbgdhaaPFnExactFindClaimx2
import Derived.Test.YtlijcogbgbgdhaaLim
namespace Go.Proofs.Ytlijcogbgbgdhaa.PFnExactFindClaim.Pure
open Go.RowKit Go.Proofs.YtlijcogbgbgdhaaW.PrintWords Go.Proofs.YtlijcogbgbgdhaaW.PrintLast Go.Proofs.YtlijcogbgbgdhaaW.PrintMore Go.Proofs.Ytlijcogbgbgdhaa.PFnExactFindClaim Go.Proofs.Ytlijcogbgbgdhaa.Lim
set_option linter.unusedVariables false
set_option maxRecDepth 100000

noncomputable def spec_FindClaim.L0 (x0 : List (S96)) (x1 : Int) (x5 : Int) : Option (Int) := lim (fun k => spec_FindClaim.l0 k x0 x1 x5)
theorem spec_FindClaim.L0_co (x0 : List (S96)) (x1 : Int) (x5 : Int) : Co (fun k => spec_FindClaim.l0 k x0 x1 x5) (spec_FindClaim.L0 x0 x1 x5) := Co.base (fun k => (spec_FindClaim.mono_l k) _ _ _)
noncomputable def spec_FindClaim.F (l0 : List (S96)) (a1 : Int) : Option (Int) := lim (fun k => spec_FindClaim.f k l0 a1)
theorem spec_FindClaim.F_co (l0 : List (S96)) (a1 : Int) : Co (fun k => spec_FindClaim.f k l0 a1) (spec_FindClaim.F l0 a1) := Co.base (fun k => spec_FindClaim.mono _ _ k)
theorem spec_FindClaim.L0_eq (x0 : List (S96)) (x1 : Int) (x5 : Int) : spec_FindClaim.L0 x0 x1 x5 = (if x5 < (x0.length : Int) then (if 0 ≤ x5 then (if ((rd_T96 x0 x5).f0) = x1 then (some x5) else (spec_FindClaim.L0 x0 x1 (wrap64 (x5 + 1)))) else (none)) else (some (-1))) := by
  refine Co.step (spec_FindClaim.L0_co x0 x1 x5) (h := fun k => (if x5 < (x0.length : Int) then (if 0 ≤ x5 then (if ((rd_T96 x0 x5).f0) = x1 then (some x5) else (spec_FindClaim.l0 k x0 x1 (wrap64 (x5 + 1)))) else (none)) else (some (-1)))) (fun k => by first | rfl | (simp only [spec_FindClaim.l0])) ?_
  repeat' first
    | (with_reducible exact Co.const _)
    | (with_reducible exact spec_FindClaim.L0_co _ _ _)
    | (with_reducible refine Co.ite ?_ ?_)
    | (with_reducible refine Co.bind ?_ (fun _ => ?_))
theorem spec_FindClaim.F_eq (l0 : List (S96)) (a1 : Int) : spec_FindClaim.F l0 a1 = (spec_FindClaim.L0 l0 a1 0) := by
  refine Co.same (spec_FindClaim.F_co l0 a1) (h := fun k => (spec_FindClaim.l0 k l0 a1 0)) (fun k => by first | rfl | unfold spec_FindClaim.f; rfl) ?_
  repeat' first
    | (with_reducible exact Co.const _)
    | (with_reducible exact spec_FindClaim.L0_co _ _ _)
    | (with_reducible refine Co.ite ?_ ?_)
    | (with_reducible refine Co.bind ?_ (fun _ => ?_))

noncomputable def laws_toClaimS.L0 (x0 : List (S98)) (x3 : List (S96)) (x4 : Int) : Option ((List (S96))) := lim (fun k => laws_toClaimS.l0 k x0 x3 x4)
theorem laws_toClaimS.L0_co (x0 : List (S98)) (x3 : List (S96)) (x4 : Int) : Co (fun k => laws_toClaimS.l0 k x0 x3 x4) (laws_toClaimS.L0 x0 x3 x4) := Co.base (fun k => (laws_toClaimS.mono_l k) _ _ _)
noncomputable def laws_toClaimS.F (l0 : List (S98)) : Option ((List (S96))) := lim (fun k => laws_toClaimS.f k l0)
theorem laws_toClaimS.F_co (l0 : List (S98)) : Co (fun k => laws_toClaimS.f k l0) (laws_toClaimS.F l0) := Co.base (fun k => laws_toClaimS.mono _ k)
theorem laws_toClaimS.L0_eq (x0 : List (S98)) (x3 : List (S96)) (x4 : Int) : laws_toClaimS.L0 x0 x3 x4 = (if x4 < (x0.length : Int) then (if 0 ≤ x4 then ((laws_toClaim.f ((rd_T98 x0 x4).f0) ((rd_T98 x0 x4).f1) ((rd_T98 x0 x4).f2) ((rd_T98 x0 x4).f3) ((rd_T98 x0 x4).f4)).bind fun bt109 => (if x4 < (x3.length : Int) then (laws_toClaimS.L0 x0 (x3.set (x4 : Int).toNat (⟨bt109.1, bt109.2.1, bt109.2.2.1, bt109.2.2.2.1, bt109.2.2.2.2⟩ : S96)) (wrap64 (x4 + 1))) else (none))) else (none)) else (some x3)) := by
  refine Co.step (laws_toClaimS.L0_co x0 x3 x4) (h := fun k => (if x4 < (x0.length : Int) then (if 0 ≤ x4 then ((laws_toClaim.f ((rd_T98 x0 x4).f0) ((rd_T98 x0 x4).f1) ((rd_T98 x0 x4).f2) ((rd_T98 x0 x4).f3) ((rd_T98 x0 x4).f4)).bind fun bt109 => (if x4 < (x3.length : Int) then (laws_toClaimS.l0 k x0 (x3.set (x4 : Int).toNat (⟨bt109.1, bt109.2.1, bt109.2.2.1, bt109.2.2.2.1, bt109.2.2.2.2⟩ : S96)) (wrap64 (x4 + 1))) else (none))) else (none)) else (some x3))) (fun k => by first | rfl | (simp only [laws_toClaimS.l0])) ?_
  repeat' first
    | (with_reducible exact Co.const _)
    | (with_reducible exact laws_toClaimS.L0_co _ _ _)
    | (with_reducible refine Co.ite ?_ ?_)
    | (with_reducible refine Co.bind ?_ (fun _ => ?_))
theorem laws_toClaimS.F_eq (l0 : List (S98)) : laws_toClaimS.F l0 = (if 0 ≤ (l0.length : Int) then (if ((l0.length : Int) : Int).toNat ≤ 7036874417766 then (laws_toClaimS.L0 l0 (List.replicate ((l0.length : Int) : Int).toNat z96) 0) else (none)) else (none)) := by
  refine Co.same (laws_toClaimS.F_co l0) (h := fun k => (if 0 ≤ (l0.length : Int) then (if ((l0.length : Int) : Int).toNat ≤ 7036874417766 then (laws_toClaimS.l0 k l0 (List.replicate ((l0.length : Int) : Int).toNat z96) 0) else (none)) else (none))) (fun k => by first | rfl | unfold laws_toClaimS.f; rfl) ?_
  repeat' first
    | (with_reducible exact Co.const _)
    | (with_reducible exact laws_toClaimS.L0_co _ _ _)
    | (with_reducible refine Co.ite ?_ ?_)
    | (with_reducible refine Co.bind ?_ (fun _ => ?_))

noncomputable def laws_eqClaimS.L0 (x0 : List (S96)) (x1 : List (S96)) (x5 : Int) : Option (Bool) := lim (fun k => laws_eqClaimS.l0 k x0 x1 x5)
theorem laws_eqClaimS.L0_co (x0 : List (S96)) (x1 : List (S96)) (x5 : Int) : Co (fun k => laws_eqClaimS.l0 k x0 x1 x5) (laws_eqClaimS.L0 x0 x1 x5) := Co.base (fun k => (laws_eqClaimS.mono_l k) _ _ _)
noncomputable def laws_eqClaimS.F (l0 : List (S96)) (l1 : List (S96)) : Option (Bool) := lim (fun k => laws_eqClaimS.f k l0 l1)
theorem laws_eqClaimS.F_co (l0 : List (S96)) (l1 : List (S96)) : Co (fun k => laws_eqClaimS.f k l0 l1) (laws_eqClaimS.F l0 l1) := Co.base (fun k => laws_eqClaimS.mono _ _ k)
theorem laws_eqClaimS.L0_eq (x0 : List (S96)) (x1 : List (S96)) (x5 : Int) : laws_eqClaimS.L0 x0 x1 x5 = (if x5 < (x0.length : Int) then (if 0 ≤ x5 then (if x5 < (x1.length : Int) then ((laws_eqClaim.f ((rd_T96 x0 x5).f0) ((rd_T96 x0 x5).f1) ((rd_T96 x0 x5).f2) ((rd_T96 x0 x5).f3) ((rd_T96 x0 x5).f4) ((rd_T96 x1 x5).f0) ((rd_T96 x1 x5).f1) ((rd_T96 x1 x5).f2) ((rd_T96 x1 x5).f3) ((rd_T96 x1 x5).f4)).bind fun t119 => (if t119 = true then (laws_eqClaimS.L0 x0 x1 (wrap64 (x5 + 1))) else (some false))) else (none)) else (none)) else (some true)) := by
  refine Co.step (laws_eqClaimS.L0_co x0 x1 x5) (h := fun k => (if x5 < (x0.length : Int) then (if 0 ≤ x5 then (if x5 < (x1.length : Int) then ((laws_eqClaim.f ((rd_T96 x0 x5).f0) ((rd_T96 x0 x5).f1) ((rd_T96 x0 x5).f2) ((rd_T96 x0 x5).f3) ((rd_T96 x0 x5).f4) ((rd_T96 x1 x5).f0) ((rd_T96 x1 x5).f1) ((rd_T96 x1 x5).f2) ((rd_T96 x1 x5).f3) ((rd_T96 x1 x5).f4)).bind fun t119 => (if t119 = true then (laws_eqClaimS.l0 k x0 x1 (wrap64 (x5 + 1))) else (some false))) else (none)) else (none)) else (some true))) (fun k => by first | rfl | (simp only [laws_eqClaimS.l0])) ?_
  repeat' first
    | (with_reducible exact Co.const _)
    | (with_reducible exact laws_eqClaimS.L0_co _ _ _)
    | (with_reducible refine Co.ite ?_ ?_)
    | (with_reducible refine Co.bind ?_ (fun _ => ?_))
theorem laws_eqClaimS.F_eq (l0 : List (S96)) (l1 : List (S96)) : laws_eqClaimS.F l0 l1 = (if (l0.length : Int) = (l1.length : Int) then (laws_eqClaimS.L0 l0 l1 0) else (some false)) := by
  refine Co.same (laws_eqClaimS.F_co l0 l1) (h := fun k => (if (l0.length : Int) = (l1.length : Int) then (laws_eqClaimS.l0 k l0 l1 0) else (some false))) (fun k => by first | rfl | unfold laws_eqClaimS.f; rfl) ?_
  repeat' first
    | (with_reducible exact Co.const _)
    | (with_reducible exact laws_eqClaimS.L0_co _ _ _)
    | (with_reducible refine Co.ite ?_ ?_)
    | (with_reducible refine Co.bind ?_ (fun _ => ?_))

noncomputable def laws_FnExactFindClaim.F (l0 : List (S98)) (a1 : Int) : Option (Bool) := lim (fun k => laws_FnExactFindClaim.f k l0 a1)
theorem laws_FnExactFindClaim.F_co (l0 : List (S98)) (a1 : Int) : Co (fun k => laws_FnExactFindClaim.f k l0 a1) (laws_FnExactFindClaim.F l0 a1) := Co.base (fun k => laws_FnExactFindClaim.mono _ _ k)
theorem laws_FnExactFindClaim.F_eq (l0 : List (S98)) (a1 : Int) : laws_FnExactFindClaim.F l0 a1 = ((laws_szClaimS.f l0 1048576).bind fun t120 => (if t120 < 0 then (some true) else ((laws_toClaimS.F l0).bind fun t121 => ((spec_FindClaim.F t121 a1).bind fun t124 => ((laws_toClaimS.F l0).bind fun t125 => ((impl_FindClaim.f t125 a1).bind fun t128 => (if t128 = t124 then ((laws_toClaimS.F l0).bind fun t129 => ((laws_eqClaimS.F t125 t129).bind fun t132 => (if t132 = true then (some true) else (some false)))) else (some false)))))))) := by
  refine Co.same (laws_FnExactFindClaim.F_co l0 a1) (h := fun k => ((laws_szClaimS.f l0 1048576).bind fun t120 => (if t120 < 0 then (some true) else ((laws_toClaimS.f k l0).bind fun t121 => ((spec_FindClaim.f k t121 a1).bind fun t124 => ((laws_toClaimS.f k l0).bind fun t125 => ((impl_FindClaim.f t125 a1).bind fun t128 => (if t128 = t124 then ((laws_toClaimS.f k l0).bind fun t129 => ((laws_eqClaimS.f k t125 t129).bind fun t132 => (if t132 = true then (some true) else (some false)))) else (some false))))))))) (fun k => by first | rfl | unfold laws_FnExactFindClaim.f; rfl) ?_
  repeat' first
    | (with_reducible exact Co.const _)
    | (with_reducible exact laws_eqClaimS.F_co _ _)
    | (with_reducible exact laws_toClaimS.F_co _)
    | (with_reducible exact spec_FindClaim.F_co _ _)
    | (with_reducible refine Co.ite ?_ ?_)
    | (with_reducible refine Co.bind ?_ (fun _ => ?_))

end Go.Proofs.Ytlijcogbgbgdhaa.PFnExactFindClaim.Pure
