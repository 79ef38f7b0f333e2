/-
  The printed functions that this law reaches, their rounds used up, and the equations that they meet.
-/
import Derived.Test.YtlijcogbgbgdhaaPFnExactAnswerOfx1
import Derived.Test.YtlijcogbgbgdhaaPFnExactAnswerOfx2
import Derived.Test.YtlijcogbgbgdhaaLim
namespace Go.Proofs.Ytlijcogbgbgdhaa.PFnExactAnswerOf.Pure
open Go.RowKit Go.Proofs.YtlijcogbgbgdhaaW.PrintWords Go.Proofs.YtlijcogbgbgdhaaW.PrintLast Go.Proofs.YtlijcogbgbgdhaaW.PrintMore Go.Proofs.Ytlijcogbgbgdhaa.PFnExactAnswerOf Go.Proofs.Ytlijcogbgbgdhaa.Lim
set_option linter.unusedVariables false
set_option maxRecDepth 100000

noncomputable def laws_toMarkS.L0 (x0 : List (S73)) (x3 : List (S71)) (x4 : Int) : Option ((List (S71))) := lim (fun k => laws_toMarkS.l0 k x0 x3 x4)
theorem laws_toMarkS.L0_co (x0 : List (S73)) (x3 : List (S71)) (x4 : Int) : Co (fun k => laws_toMarkS.l0 k x0 x3 x4) (laws_toMarkS.L0 x0 x3 x4) := Co.base (fun k => (laws_toMarkS.mono_l k) _ _ _)
noncomputable def laws_toMarkS.F (l0 : List (S73)) : Option ((List (S71))) := lim (fun k => laws_toMarkS.f k l0)
theorem laws_toMarkS.F_co (l0 : List (S73)) : Co (fun k => laws_toMarkS.f k l0) (laws_toMarkS.F l0) := Co.base (fun k => laws_toMarkS.mono _ k)
theorem laws_toMarkS.L0_eq (x0 : List (S73)) (x3 : List (S71)) (x4 : Int) : laws_toMarkS.L0 x0 x3 x4 = (if x4 < (x0.length : Int) then (if 0 ≤ x4 then ((laws_toMark.f ((rd_T73 x0 x4).f0) ((rd_T73 x0 x4).f1)).bind fun bt108 => (if x4 < (x3.length : Int) then (laws_toMarkS.L0 x0 (x3.set (x4 : Int).toNat (⟨bt108.1, bt108.2⟩ : S71)) (wrap64 (x4 + 1))) else (none))) else (none)) else (some x3)) := by
  refine Co.step (laws_toMarkS.L0_co x0 x3 x4) (h := fun k => (if x4 < (x0.length : Int) then (if 0 ≤ x4 then ((laws_toMark.f ((rd_T73 x0 x4).f0) ((rd_T73 x0 x4).f1)).bind fun bt108 => (if x4 < (x3.length : Int) then (laws_toMarkS.l0 k x0 (x3.set (x4 : Int).toNat (⟨bt108.1, bt108.2⟩ : S71)) (wrap64 (x4 + 1))) else (none))) else (none)) else (some x3))) (fun k => by first | rfl | (simp only [laws_toMarkS.l0])) ?_
  repeat' first
    | (with_reducible exact Co.const _)
    | (with_reducible exact laws_toMarkS.L0_co _ _ _)
    | (with_reducible refine Co.ite ?_ ?_)
    | (with_reducible refine Co.bind ?_ (fun _ => ?_))
theorem laws_toMarkS.F_eq (l0 : List (S73)) : laws_toMarkS.F l0 = (if 0 ≤ (l0.length : Int) then (if ((l0.length : Int) : Int).toNat ≤ 17592186044416 then (laws_toMarkS.L0 l0 (List.replicate ((l0.length : Int) : Int).toNat z71) 0) else (none)) else (none)) := by
  refine Co.same (laws_toMarkS.F_co l0) (h := fun k => (if 0 ≤ (l0.length : Int) then (if ((l0.length : Int) : Int).toNat ≤ 17592186044416 then (laws_toMarkS.l0 k l0 (List.replicate ((l0.length : Int) : Int).toNat z71) 0) else (none)) else (none))) (fun k => by first | rfl | unfold laws_toMarkS.f; rfl) ?_
  repeat' first
    | (with_reducible exact Co.const _)
    | (with_reducible exact laws_toMarkS.L0_co _ _ _)
    | (with_reducible refine Co.ite ?_ ?_)
    | (with_reducible refine Co.bind ?_ (fun _ => ?_))

noncomputable def laws_eqMarkS.L0 (x0 : List (S71)) (x1 : List (S71)) (x5 : Int) : Option (Bool) := lim (fun k => laws_eqMarkS.l0 k x0 x1 x5)
theorem laws_eqMarkS.L0_co (x0 : List (S71)) (x1 : List (S71)) (x5 : Int) : Co (fun k => laws_eqMarkS.l0 k x0 x1 x5) (laws_eqMarkS.L0 x0 x1 x5) := Co.base (fun k => (laws_eqMarkS.mono_l k) _ _ _)
noncomputable def laws_eqMarkS.F (l0 : List (S71)) (l1 : List (S71)) : Option (Bool) := lim (fun k => laws_eqMarkS.f k l0 l1)
theorem laws_eqMarkS.F_co (l0 : List (S71)) (l1 : List (S71)) : Co (fun k => laws_eqMarkS.f k l0 l1) (laws_eqMarkS.F l0 l1) := Co.base (fun k => laws_eqMarkS.mono _ _ k)
theorem laws_eqMarkS.L0_eq (x0 : List (S71)) (x1 : List (S71)) (x5 : Int) : laws_eqMarkS.L0 x0 x1 x5 = (if x5 < (x0.length : Int) then (if 0 ≤ x5 then (if x5 < (x1.length : Int) then ((laws_eqMark.f ((rd_T71 x0 x5).f0) ((rd_T71 x0 x5).f1) ((rd_T71 x1 x5).f0) ((rd_T71 x1 x5).f1)).bind fun t115 => (if t115 = true then (laws_eqMarkS.L0 x0 x1 (wrap64 (x5 + 1))) else (some false))) else (none)) else (none)) else (some true)) := by
  refine Co.step (laws_eqMarkS.L0_co x0 x1 x5) (h := fun k => (if x5 < (x0.length : Int) then (if 0 ≤ x5 then (if x5 < (x1.length : Int) then ((laws_eqMark.f ((rd_T71 x0 x5).f0) ((rd_T71 x0 x5).f1) ((rd_T71 x1 x5).f0) ((rd_T71 x1 x5).f1)).bind fun t115 => (if t115 = true then (laws_eqMarkS.l0 k x0 x1 (wrap64 (x5 + 1))) else (some false))) else (none)) else (none)) else (some true))) (fun k => by first | rfl | (simp only [laws_eqMarkS.l0])) ?_
  repeat' first
    | (with_reducible exact Co.const _)
    | (with_reducible exact laws_eqMarkS.L0_co _ _ _)
    | (with_reducible refine Co.ite ?_ ?_)
    | (with_reducible refine Co.bind ?_ (fun _ => ?_))
theorem laws_eqMarkS.F_eq (l0 : List (S71)) (l1 : List (S71)) : laws_eqMarkS.F l0 l1 = (if (l0.length : Int) = (l1.length : Int) then (laws_eqMarkS.L0 l0 l1 0) else (some false)) := by
  refine Co.same (laws_eqMarkS.F_co l0 l1) (h := fun k => (if (l0.length : Int) = (l1.length : Int) then (laws_eqMarkS.l0 k l0 l1 0) else (some false))) (fun k => by first | rfl | unfold laws_eqMarkS.f; rfl) ?_
  repeat' first
    | (with_reducible exact Co.const _)
    | (with_reducible exact laws_eqMarkS.L0_co _ _ _)
    | (with_reducible refine Co.ite ?_ ?_)
    | (with_reducible refine Co.bind ?_ (fun _ => ?_))

noncomputable def spec_AnswerOf.L0 (x0 : List (S71)) (x1 : Int) (x5 : Int) : Option (Int) := lim (fun k => spec_AnswerOf.l0 k x0 x1 x5)
theorem spec_AnswerOf.L0_co (x0 : List (S71)) (x1 : Int) (x5 : Int) : Co (fun k => spec_AnswerOf.l0 k x0 x1 x5) (spec_AnswerOf.L0 x0 x1 x5) := Co.base (fun k => (spec_AnswerOf.mono_l k) _ _ _)
noncomputable def spec_AnswerOf.F (l0 : List (S71)) (a1 : Int) : Option (Int) := lim (fun k => spec_AnswerOf.f k l0 a1)
theorem spec_AnswerOf.F_co (l0 : List (S71)) (a1 : Int) : Co (fun k => spec_AnswerOf.f k l0 a1) (spec_AnswerOf.F l0 a1) := Co.base (fun k => spec_AnswerOf.mono _ _ k)
theorem spec_AnswerOf.L0_eq (x0 : List (S71)) (x1 : Int) (x5 : Int) : spec_AnswerOf.L0 x0 x1 x5 = (if x5 < (x0.length : Int) then (if 0 ≤ x5 then (if ((rd_T71 x0 x5).f0) = x1 then (some ((rd_T71 x0 x5).f1)) else (spec_AnswerOf.L0 x0 x1 (wrap64 (x5 + 1)))) else (none)) else (some (-1))) := by
  refine Co.step (spec_AnswerOf.L0_co x0 x1 x5) (h := fun k => (if x5 < (x0.length : Int) then (if 0 ≤ x5 then (if ((rd_T71 x0 x5).f0) = x1 then (some ((rd_T71 x0 x5).f1)) else (spec_AnswerOf.l0 k x0 x1 (wrap64 (x5 + 1)))) else (none)) else (some (-1)))) (fun k => by first | rfl | (simp only [spec_AnswerOf.l0])) ?_
  repeat' first
    | (with_reducible exact Co.const _)
    | (with_reducible exact spec_AnswerOf.L0_co _ _ _)
    | (with_reducible refine Co.ite ?_ ?_)
    | (with_reducible refine Co.bind ?_ (fun _ => ?_))
theorem spec_AnswerOf.F_eq (l0 : List (S71)) (a1 : Int) : spec_AnswerOf.F l0 a1 = (spec_AnswerOf.L0 l0 a1 0) := by
  refine Co.same (spec_AnswerOf.F_co l0 a1) (h := fun k => (spec_AnswerOf.l0 k l0 a1 0)) (fun k => by first | rfl | unfold spec_AnswerOf.f; rfl) ?_
  repeat' first
    | (with_reducible exact Co.const _)
    | (with_reducible exact spec_AnswerOf.L0_co _ _ _)
    | (with_reducible refine Co.ite ?_ ?_)
    | (with_reducible refine Co.bind ?_ (fun _ => ?_))

noncomputable def impl_AnswerOf.L0 (x1 : Int) (x7 : List (S71)) (x8 : Int) (x9 : Int) : Option (Int) := lim (fun k => impl_AnswerOf.l0 k x1 x7 x8 x9)
theorem impl_AnswerOf.L0_co (x1 : Int) (x7 : List (S71)) (x8 : Int) (x9 : Int) : Co (fun k => impl_AnswerOf.l0 k x1 x7 x8 x9) (impl_AnswerOf.L0 x1 x7 x8 x9) := Co.base (fun k => (impl_AnswerOf.mono_l k) _ _ _ _)
noncomputable def impl_AnswerOf.F (l0 : List (S71)) (a1 : Int) : Option (Int) := lim (fun k => impl_AnswerOf.f k l0 a1)
theorem impl_AnswerOf.F_co (l0 : List (S71)) (a1 : Int) : Co (fun k => impl_AnswerOf.f k l0 a1) (impl_AnswerOf.F l0 a1) := Co.base (fun k => impl_AnswerOf.mono _ _ k)
theorem impl_AnswerOf.L0_eq (x1 : Int) (x7 : List (S71)) (x8 : Int) (x9 : Int) : impl_AnswerOf.L0 x1 x7 x8 x9 = (if x9 < x8 then (if 0 ≤ x9 then (if x9 < (x7.length : Int) then (if ((rd_T71 x7 x9).f0) = x1 then (some ((rd_T71 x7 x9).f1)) else (impl_AnswerOf.L0 x1 x7 x8 (wrap64 (x9 + 1)))) else (none)) else (none)) else (some (-1))) := by
  refine Co.step (impl_AnswerOf.L0_co x1 x7 x8 x9) (h := fun k => (if x9 < x8 then (if 0 ≤ x9 then (if x9 < (x7.length : Int) then (if ((rd_T71 x7 x9).f0) = x1 then (some ((rd_T71 x7 x9).f1)) else (impl_AnswerOf.l0 k x1 x7 x8 (wrap64 (x9 + 1)))) else (none)) else (none)) else (some (-1)))) (fun k => by first | rfl | (simp only [impl_AnswerOf.l0])) ?_
  repeat' first
    | (with_reducible exact Co.const _)
    | (with_reducible exact impl_AnswerOf.L0_co _ _ _ _)
    | (with_reducible refine Co.ite ?_ ?_)
    | (with_reducible refine Co.bind ?_ (fun _ => ?_))
theorem impl_AnswerOf.F_eq (l0 : List (S71)) (a1 : Int) : impl_AnswerOf.F l0 a1 = (impl_AnswerOf.L0 a1 l0 (l0.length : Int) 0) := by
  refine Co.same (impl_AnswerOf.F_co l0 a1) (h := fun k => (impl_AnswerOf.l0 k a1 l0 (l0.length : Int) 0)) (fun k => by first | rfl | unfold impl_AnswerOf.f; rfl) ?_
  repeat' first
    | (with_reducible exact Co.const _)
    | (with_reducible exact impl_AnswerOf.L0_co _ _ _ _)
    | (with_reducible refine Co.ite ?_ ?_)
    | (with_reducible refine Co.bind ?_ (fun _ => ?_))

noncomputable def laws_FnExactAnswerOf.F (l0 : List (S73)) (a1 : Int) : Option (Bool) := lim (fun k => laws_FnExactAnswerOf.f k l0 a1)
theorem laws_FnExactAnswerOf.F_co (l0 : List (S73)) (a1 : Int) : Co (fun k => laws_FnExactAnswerOf.f k l0 a1) (laws_FnExactAnswerOf.F l0 a1) := Co.base (fun k => laws_FnExactAnswerOf.mono _ _ k)
theorem laws_FnExactAnswerOf.F_eq (l0 : List (S73)) (a1 : Int) : laws_FnExactAnswerOf.F l0 a1 = ((laws_szMarkS.f l0 1048576).bind fun t120 => (if t120 < 0 then (some true) else ((laws_toMarkS.F l0).bind fun t121 => ((spec_AnswerOf.F t121 a1).bind fun t124 => ((laws_toMarkS.F l0).bind fun t125 => ((impl_AnswerOf.F t125 a1).bind fun t128 => (if t128 = t124 then ((laws_toMarkS.F l0).bind fun t129 => ((laws_eqMarkS.F t125 t129).bind fun t132 => (if t132 = true then (some true) else (some false)))) else (some false)))))))) := by
  refine Co.same (laws_FnExactAnswerOf.F_co l0 a1) (h := fun k => ((laws_szMarkS.f l0 1048576).bind fun t120 => (if t120 < 0 then (some true) else ((laws_toMarkS.f k l0).bind fun t121 => ((spec_AnswerOf.f k t121 a1).bind fun t124 => ((laws_toMarkS.f k l0).bind fun t125 => ((impl_AnswerOf.f k t125 a1).bind fun t128 => (if t128 = t124 then ((laws_toMarkS.f k l0).bind fun t129 => ((laws_eqMarkS.f k t125 t129).bind fun t132 => (if t132 = true then (some true) else (some false)))) else (some false))))))))) (fun k => by first | rfl | unfold laws_FnExactAnswerOf.f; rfl) ?_
  repeat' first
    | (with_reducible exact Co.const _)
    | (with_reducible exact impl_AnswerOf.F_co _ _)
    | (with_reducible exact laws_eqMarkS.F_co _ _)
    | (with_reducible exact laws_toMarkS.F_co _)
    | (with_reducible exact spec_AnswerOf.F_co _ _)
    | (with_reducible refine Co.ite ?_ ?_)
    | (with_reducible refine Co.bind ?_ (fun _ => ?_))

end Go.Proofs.Ytlijcogbgbgdhaa.PFnExactAnswerOf.Pure
