/-
  The printed functions that this law reaches, their rounds used up, and the equations that they meet.
-/
import Derived.Test.YtbbfelgojaioaaaPFnExactNextQuestionx1
import Derived.Test.YtbbfelgojaioaaaPFnExactNextQuestionx2
import Derived.Test.YtbbfelgojaioaaaPFnExactNextQuestionx3
import Derived.Test.YtbbfelgojaioaaaPFnExactNextQuestionx4
import Derived.Test.YtbbfelgojaioaaaPFnExactNextQuestionx5
import Derived.Test.YtbbfelgojaioaaaPFnExactNextQuestionx6
import Derived.Test.YtbbfelgojaioaaaPFnExactNextQuestionx7
import Derived.Test.YtbbfelgojaioaaaLim
namespace Go.Proofs.Ytbbfelgojaioaaa.PFnExactNextQuestion.Pure
open Go.RowKit Go.Proofs.YtbbfelgojaioaaaW.PrintWords Go.Proofs.YtbbfelgojaioaaaW.PrintLast Go.Proofs.YtbbfelgojaioaaaW.PrintMore Go.Proofs.Ytbbfelgojaioaaa.PFnExactNextQuestion Go.Proofs.Ytbbfelgojaioaaa.Lim
set_option linter.unusedVariables false
set_option maxRecDepth 100000

noncomputable def spec_AreMarks.L0 (x0 : List (S102)) (x3 : Int) : Option (Bool) := lim (fun k => spec_AreMarks.l0 k x0 x3)
theorem spec_AreMarks.L0_co (x0 : List (S102)) (x3 : Int) : Co (fun k => spec_AreMarks.l0 k x0 x3) (spec_AreMarks.L0 x0 x3) := Co.base (fun k => (spec_AreMarks.mono_l k) _ _)
noncomputable def spec_AreMarks.F (l0 : List (S102)) : Option (Bool) := lim (fun k => spec_AreMarks.f k l0)
theorem spec_AreMarks.F_co (l0 : List (S102)) : Co (fun k => spec_AreMarks.f k l0) (spec_AreMarks.F l0) := Co.base (fun k => spec_AreMarks.mono _ k)
theorem spec_AreMarks.L0_eq (x0 : List (S102)) (x3 : Int) : spec_AreMarks.L0 x0 x3 = (if x3 < (x0.length : Int) then (if 0 ≤ x3 then ((spec_l1In.f ((rd_T102 x0 x3).f0) 1 20).bind fun t102 => (if t102 = true then ((spec_l1In.f ((rd_T102 x0 x3).f1) 0 99).bind fun t104 => (if t104 = true then (if x3 > 0 then (if 0 ≤ (wrap64 (x3 - 1)) then (if (wrap64 (x3 - 1)) < (x0.length : Int) then (if ((rd_T102 x0 (wrap64 (x3 - 1))).f0) ≥ ((rd_T102 x0 x3).f0) then (some false) else (spec_AreMarks.L0 x0 (wrap64 (x3 + 1)))) else (none)) else (none)) else (spec_AreMarks.L0 x0 (wrap64 (x3 + 1)))) else (some false))) else (some false))) else (none)) else (some (decide ((x0.length : Int) ≤ 8)))) := by
  refine Co.step (spec_AreMarks.L0_co x0 x3) (h := fun k => (if x3 < (x0.length : Int) then (if 0 ≤ x3 then ((spec_l1In.f ((rd_T102 x0 x3).f0) 1 20).bind fun t102 => (if t102 = true then ((spec_l1In.f ((rd_T102 x0 x3).f1) 0 99).bind fun t104 => (if t104 = true then (if x3 > 0 then (if 0 ≤ (wrap64 (x3 - 1)) then (if (wrap64 (x3 - 1)) < (x0.length : Int) then (if ((rd_T102 x0 (wrap64 (x3 - 1))).f0) ≥ ((rd_T102 x0 x3).f0) then (some false) else (spec_AreMarks.l0 k x0 (wrap64 (x3 + 1)))) else (none)) else (none)) else (spec_AreMarks.l0 k x0 (wrap64 (x3 + 1)))) else (some false))) else (some false))) else (none)) else (some (decide ((x0.length : Int) ≤ 8))))) (fun k => by first | rfl | (simp only [spec_AreMarks.l0])) ?_
  repeat' first
    | (with_reducible exact Co.const _)
    | (with_reducible exact spec_AreMarks.L0_co _ _)
    | (with_reducible refine Co.ite ?_ ?_)
    | (with_reducible refine Co.bind ?_ (fun _ => ?_))
theorem spec_AreMarks.F_eq (l0 : List (S102)) : spec_AreMarks.F l0 = (spec_AreMarks.L0 l0 0) := by
  refine Co.same (spec_AreMarks.F_co l0) (h := fun k => (spec_AreMarks.l0 k l0 0)) (fun k => by first | rfl | unfold spec_AreMarks.f; rfl) ?_
  repeat' first
    | (with_reducible exact Co.const _)
    | (with_reducible exact spec_AreMarks.L0_co _ _)
    | (with_reducible refine Co.ite ?_ ?_)
    | (with_reducible refine Co.bind ?_ (fun _ => ?_))

noncomputable def spec_TrialState.J0 (x0 : List (S102)) (x5 : Bool) (x113000 : Int) (x113001 : Int) (x113002 : Int) (x113003 : Int) : Option (Int) := lim (fun k => spec_TrialState.j0 k x0 x5 x113000 x113001 x113002 x113003)
theorem spec_TrialState.J0_co (x0 : List (S102)) (x5 : Bool) (x113000 : Int) (x113001 : Int) (x113002 : Int) (x113003 : Int) : Co (fun k => spec_TrialState.j0 k x0 x5 x113000 x113001 x113002 x113003) (spec_TrialState.J0 x0 x5 x113000 x113001 x113002 x113003) := Co.base (fun k => (spec_TrialState.mono_l k) _ _ _ _ _ _)
noncomputable def spec_TrialState.F (l0 : List (S102)) (a1_0 : Int) (a1_1 : Int) (a1_2 : Int) (a1_3 : Int) : Option (Int) := lim (fun k => spec_TrialState.f k l0 a1_0 a1_1 a1_2 a1_3)
theorem spec_TrialState.F_co (l0 : List (S102)) (a1_0 : Int) (a1_1 : Int) (a1_2 : Int) (a1_3 : Int) : Co (fun k => spec_TrialState.f k l0 a1_0 a1_1 a1_2 a1_3) (spec_TrialState.F l0 a1_0 a1_1 a1_2 a1_3) := Co.base (fun k => spec_TrialState.mono _ _ _ _ _ k)
theorem spec_TrialState.J0_eq (x0 : List (S102)) (x5 : Bool) (x113000 : Int) (x113001 : Int) (x113002 : Int) (x113003 : Int) : spec_TrialState.J0 x0 x5 x113000 x113001 x113002 x113003 = (if x5 = true then (some 2) else (if (x0.length : Int) > 0 then ((spec_NeedFor.f x0).bind fun t115 => (if x113002 ≥ t115 then (some 1) else (some 0))) else (some 0))) := by
  refine Co.step (spec_TrialState.J0_co x0 x5 x113000 x113001 x113002 x113003) (h := fun k => (if x5 = true then (some 2) else (if (x0.length : Int) > 0 then ((spec_NeedFor.f x0).bind fun t115 => (if x113002 ≥ t115 then (some 1) else (some 0))) else (some 0)))) (fun k => by first | rfl | (simp only [spec_TrialState.j0])) ?_
  repeat' first
    | (with_reducible exact Co.const _)
    | (with_reducible refine Co.ite ?_ ?_)
    | (with_reducible refine Co.bind ?_ (fun _ => ?_))
theorem spec_TrialState.F_eq (l0 : List (S102)) (a1_0 : Int) (a1_1 : Int) (a1_2 : Int) (a1_3 : Int) : spec_TrialState.F l0 a1_0 a1_1 a1_2 a1_3 = ((spec_IsTrial.f a1_0 a1_1 a1_2 a1_3).bind fun t113 => (if t113 = true then ((spec_AreMarks.F l0).bind fun t114 => (if t114 = true then (spec_TrialState.J0 l0 (decide (a1_3 > 1)) a1_0 a1_1 a1_2 a1_3) else (spec_TrialState.J0 l0 true a1_0 a1_1 a1_2 a1_3))) else (spec_TrialState.J0 l0 true a1_0 a1_1 a1_2 a1_3))) := by
  refine Co.same (spec_TrialState.F_co l0 a1_0 a1_1 a1_2 a1_3) (h := fun k => ((spec_IsTrial.f a1_0 a1_1 a1_2 a1_3).bind fun t113 => (if t113 = true then ((spec_AreMarks.f k l0).bind fun t114 => (if t114 = true then (spec_TrialState.j0 k l0 (decide (a1_3 > 1)) a1_0 a1_1 a1_2 a1_3) else (spec_TrialState.j0 k l0 true a1_0 a1_1 a1_2 a1_3))) else (spec_TrialState.j0 k l0 true a1_0 a1_1 a1_2 a1_3)))) (fun k => by first | rfl | unfold spec_TrialState.f; rfl) ?_
  repeat' first
    | (with_reducible exact Co.const _)
    | (with_reducible exact spec_AreMarks.F_co _)
    | (with_reducible exact spec_TrialState.J0_co _ _ _ _ _ _)
    | (with_reducible refine Co.ite ?_ ?_)
    | (with_reducible refine Co.bind ?_ (fun _ => ?_))

noncomputable def spec_Hash.L0 (x0 : List Int) (x3 : Int) (x4 : Int) : Option (Int) := lim (fun k => spec_Hash.l0 k x0 x3 x4)
theorem spec_Hash.L0_co (x0 : List Int) (x3 : Int) (x4 : Int) : Co (fun k => spec_Hash.l0 k x0 x3 x4) (spec_Hash.L0 x0 x3 x4) := Co.base (fun k => (spec_Hash.mono_l k) _ _ _)
noncomputable def spec_Hash.F (l0 : List Int) : Option (Int) := lim (fun k => spec_Hash.f k l0)
theorem spec_Hash.F_co (l0 : List Int) : Co (fun k => spec_Hash.f k l0) (spec_Hash.F l0) := Co.base (fun k => spec_Hash.mono _ k)
theorem spec_Hash.L0_eq (x0 : List Int) (x3 : Int) (x4 : Int) : spec_Hash.L0 x0 x3 x4 = (if x4 < (x0.length : Int) then (if 0 ≤ x4 then ((spec_Mod.f (rd x0 x4) 2147483647).bind fun t118 => (spec_Hash.L0 x0 (Int.tmod (wrap64 ((wrap64 ((wrap64 (x3 * 1000003)) + t118)) + 13)) 2147483647) (wrap64 (x4 + 1)))) else (none)) else (some x3)) := by
  refine Co.step (spec_Hash.L0_co x0 x3 x4) (h := fun k => (if x4 < (x0.length : Int) then (if 0 ≤ x4 then ((spec_Mod.f (rd x0 x4) 2147483647).bind fun t118 => (spec_Hash.l0 k x0 (Int.tmod (wrap64 ((wrap64 ((wrap64 (x3 * 1000003)) + t118)) + 13)) 2147483647) (wrap64 (x4 + 1)))) else (none)) else (some x3))) (fun k => by first | rfl | (simp only [spec_Hash.l0])) ?_
  repeat' first
    | (with_reducible exact Co.const _)
    | (with_reducible exact spec_Hash.L0_co _ _ _)
    | (with_reducible refine Co.ite ?_ ?_)
    | (with_reducible refine Co.bind ?_ (fun _ => ?_))
theorem spec_Hash.F_eq (l0 : List Int) : spec_Hash.F l0 = (spec_Hash.L0 l0 11 0) := by
  refine Co.same (spec_Hash.F_co l0) (h := fun k => (spec_Hash.l0 k l0 11 0)) (fun k => by first | rfl | unfold spec_Hash.f; rfl) ?_
  repeat' first
    | (with_reducible exact Co.const _)
    | (with_reducible exact spec_Hash.L0_co _ _ _)
    | (with_reducible refine Co.ite ?_ ?_)
    | (with_reducible refine Co.bind ?_ (fun _ => ?_))

noncomputable def spec_QuestionFor.J0 (x0 : List (S102)) (x1 : Int) (x2 : Int) (x19 : Bool) : Option (Int) := lim (fun k => spec_QuestionFor.j0 k x0 x1 x2 x19)
theorem spec_QuestionFor.J0_co (x0 : List (S102)) (x1 : Int) (x2 : Int) (x19 : Bool) : Co (fun k => spec_QuestionFor.j0 k x0 x1 x2 x19) (spec_QuestionFor.J0 x0 x1 x2 x19) := Co.base (fun k => (spec_QuestionFor.mono_l k) _ _ _ _)
noncomputable def spec_QuestionFor.F (l0 : List (S102)) (a1 : Int) (a2 : Int) : Option (Int) := lim (fun k => spec_QuestionFor.f k l0 a1 a2)
theorem spec_QuestionFor.F_co (l0 : List (S102)) (a1 : Int) (a2 : Int) : Co (fun k => spec_QuestionFor.f k l0 a1 a2) (spec_QuestionFor.F l0 a1 a2) := Co.base (fun k => spec_QuestionFor.mono _ _ _ k)
theorem spec_QuestionFor.J0_eq (x0 : List (S102)) (x1 : Int) (x2 : Int) (x19 : Bool) : spec_QuestionFor.J0 x0 x1 x2 x19 = (if x19 = true then (some 0) else ((spec_Hash.F (([x1] : List Int))).bind fun t124 => ((spec_Mod.f t124 (x0.length : Int)).bind fun t125 => (if (x0.length : Int) = 0 then (none) else (if 0 ≤ (Int.tmod (wrap64 (t125 + x2)) (x0.length : Int)) then (if (Int.tmod (wrap64 (t125 + x2)) (x0.length : Int)) < (x0.length : Int) then (some ((rd_T102 x0 (Int.tmod (wrap64 (t125 + x2)) (x0.length : Int))).f0)) else (none)) else (none)))))) := by
  refine Co.step (spec_QuestionFor.J0_co x0 x1 x2 x19) (h := fun k => (if x19 = true then (some 0) else ((spec_Hash.f k (([x1] : List Int))).bind fun t124 => ((spec_Mod.f t124 (x0.length : Int)).bind fun t125 => (if (x0.length : Int) = 0 then (none) else (if 0 ≤ (Int.tmod (wrap64 (t125 + x2)) (x0.length : Int)) then (if (Int.tmod (wrap64 (t125 + x2)) (x0.length : Int)) < (x0.length : Int) then (some ((rd_T102 x0 (Int.tmod (wrap64 (t125 + x2)) (x0.length : Int))).f0)) else (none)) else (none))))))) (fun k => by first | rfl | (simp only [spec_QuestionFor.j0])) ?_
  repeat' first
    | (with_reducible exact Co.const _)
    | (with_reducible exact spec_Hash.F_co _)
    | (with_reducible refine Co.ite ?_ ?_)
    | (with_reducible refine Co.bind ?_ (fun _ => ?_))
theorem spec_QuestionFor.F_eq (l0 : List (S102)) (a1 : Int) (a2 : Int) : spec_QuestionFor.F l0 a1 a2 = (if (l0.length : Int) = 0 then (spec_QuestionFor.J0 l0 a1 a2 true) else ((spec_AreMarks.F l0).bind fun t119 => (if t119 = true then ((spec_l1In.f a2 0 1000).bind fun t120 => (spec_QuestionFor.J0 l0 a1 a2 (!t120))) else (spec_QuestionFor.J0 l0 a1 a2 true)))) := by
  refine Co.same (spec_QuestionFor.F_co l0 a1 a2) (h := fun k => (if (l0.length : Int) = 0 then (spec_QuestionFor.j0 k l0 a1 a2 true) else ((spec_AreMarks.f k l0).bind fun t119 => (if t119 = true then ((spec_l1In.f a2 0 1000).bind fun t120 => (spec_QuestionFor.j0 k l0 a1 a2 (!t120))) else (spec_QuestionFor.j0 k l0 a1 a2 true))))) (fun k => by first | rfl | unfold spec_QuestionFor.f; rfl) ?_
  repeat' first
    | (with_reducible exact Co.const _)
    | (with_reducible exact spec_AreMarks.F_co _)
    | (with_reducible exact spec_QuestionFor.J0_co _ _ _ _)
    | (with_reducible refine Co.ite ?_ ?_)
    | (with_reducible refine Co.bind ?_ (fun _ => ?_))

noncomputable def spec_NextQuestion.F (l0 : List (S102)) (a1_0 : Int) (a1_1 : Int) (a1_2 : Int) (a1_3 : Int) : Option (Int) := lim (fun k => spec_NextQuestion.f k l0 a1_0 a1_1 a1_2 a1_3)
theorem spec_NextQuestion.F_co (l0 : List (S102)) (a1_0 : Int) (a1_1 : Int) (a1_2 : Int) (a1_3 : Int) : Co (fun k => spec_NextQuestion.f k l0 a1_0 a1_1 a1_2 a1_3) (spec_NextQuestion.F l0 a1_0 a1_1 a1_2 a1_3) := Co.base (fun k => spec_NextQuestion.mono _ _ _ _ _ k)
theorem spec_NextQuestion.F_eq (l0 : List (S102)) (a1_0 : Int) (a1_1 : Int) (a1_2 : Int) (a1_3 : Int) : spec_NextQuestion.F l0 a1_0 a1_1 a1_2 a1_3 = ((spec_TrialState.F l0 a1_0 a1_1 a1_2 a1_3).bind fun t128 => (if t128 = 0 then ((spec_QuestionFor.F l0 a1_0 a1_1).bind fun t129 => (some t129)) else (some 0))) := by
  refine Co.same (spec_NextQuestion.F_co l0 a1_0 a1_1 a1_2 a1_3) (h := fun k => ((spec_TrialState.f k l0 a1_0 a1_1 a1_2 a1_3).bind fun t128 => (if t128 = 0 then ((spec_QuestionFor.f k l0 a1_0 a1_1).bind fun t129 => (some t129)) else (some 0)))) (fun k => by first | rfl | unfold spec_NextQuestion.f; rfl) ?_
  repeat' first
    | (with_reducible exact Co.const _)
    | (with_reducible exact spec_QuestionFor.F_co _ _ _)
    | (with_reducible exact spec_TrialState.F_co _ _ _ _ _)
    | (with_reducible refine Co.ite ?_ ?_)
    | (with_reducible refine Co.bind ?_ (fun _ => ?_))

noncomputable def laws_toMarkS.L0 (x0 : List (S99)) (x3 : List (S102)) (x4 : Int) : Option ((List (S102))) := lim (fun k => laws_toMarkS.l0 k x0 x3 x4)
theorem laws_toMarkS.L0_co (x0 : List (S99)) (x3 : List (S102)) (x4 : Int) : Co (fun k => laws_toMarkS.l0 k x0 x3 x4) (laws_toMarkS.L0 x0 x3 x4) := Co.base (fun k => (laws_toMarkS.mono_l k) _ _ _)
noncomputable def laws_toMarkS.F (l0 : List (S99)) : Option ((List (S102))) := lim (fun k => laws_toMarkS.f k l0)
theorem laws_toMarkS.F_co (l0 : List (S99)) : Co (fun k => laws_toMarkS.f k l0) (laws_toMarkS.F l0) := Co.base (fun k => laws_toMarkS.mono _ k)
theorem laws_toMarkS.L0_eq (x0 : List (S99)) (x3 : List (S102)) (x4 : Int) : laws_toMarkS.L0 x0 x3 x4 = (if x4 < (x0.length : Int) then (if 0 ≤ x4 then ((laws_toMark.f ((rd_T99 x0 x4).f0) ((rd_T99 x0 x4).f1)).bind fun bt137 => (if x4 < (x3.length : Int) then (laws_toMarkS.L0 x0 (x3.set (x4 : Int).toNat (⟨bt137.1, bt137.2⟩ : S102)) (wrap64 (x4 + 1))) else (none))) else (none)) else (some x3)) := by
  refine Co.step (laws_toMarkS.L0_co x0 x3 x4) (h := fun k => (if x4 < (x0.length : Int) then (if 0 ≤ x4 then ((laws_toMark.f ((rd_T99 x0 x4).f0) ((rd_T99 x0 x4).f1)).bind fun bt137 => (if x4 < (x3.length : Int) then (laws_toMarkS.l0 k x0 (x3.set (x4 : Int).toNat (⟨bt137.1, bt137.2⟩ : S102)) (wrap64 (x4 + 1))) else (none))) else (none)) else (some x3))) (fun k => by first | rfl | (simp only [laws_toMarkS.l0])) ?_
  repeat' first
    | (with_reducible exact Co.const _)
    | (with_reducible exact laws_toMarkS.L0_co _ _ _)
    | (with_reducible refine Co.ite ?_ ?_)
    | (with_reducible refine Co.bind ?_ (fun _ => ?_))
theorem laws_toMarkS.F_eq (l0 : List (S99)) : laws_toMarkS.F l0 = (if 0 ≤ (l0.length : Int) then (if ((l0.length : Int) : Int).toNat ≤ 17592186044416 then (laws_toMarkS.L0 l0 (List.replicate ((l0.length : Int) : Int).toNat z102) 0) else (none)) else (none)) := by
  refine Co.same (laws_toMarkS.F_co l0) (h := fun k => (if 0 ≤ (l0.length : Int) then (if ((l0.length : Int) : Int).toNat ≤ 17592186044416 then (laws_toMarkS.l0 k l0 (List.replicate ((l0.length : Int) : Int).toNat z102) 0) else (none)) else (none))) (fun k => by first | rfl | unfold laws_toMarkS.f; rfl) ?_
  repeat' first
    | (with_reducible exact Co.const _)
    | (with_reducible exact laws_toMarkS.L0_co _ _ _)
    | (with_reducible refine Co.ite ?_ ?_)
    | (with_reducible refine Co.bind ?_ (fun _ => ?_))

noncomputable def impl_AreMarks.L0 (x0 : List (S102)) (x8 : List (S102)) (x9 : Int) (x10 : Int) : Option (Bool) := lim (fun k => impl_AreMarks.l0 k x0 x8 x9 x10)
theorem impl_AreMarks.L0_co (x0 : List (S102)) (x8 : List (S102)) (x9 : Int) (x10 : Int) : Co (fun k => impl_AreMarks.l0 k x0 x8 x9 x10) (impl_AreMarks.L0 x0 x8 x9 x10) := Co.base (fun k => (impl_AreMarks.mono_l k) _ _ _ _)
noncomputable def impl_AreMarks.F (l0 : List (S102)) : Option (Bool) := lim (fun k => impl_AreMarks.f k l0)
theorem impl_AreMarks.F_co (l0 : List (S102)) : Co (fun k => impl_AreMarks.f k l0) (impl_AreMarks.F l0) := Co.base (fun k => impl_AreMarks.mono _ k)
theorem impl_AreMarks.L0_eq (x0 : List (S102)) (x8 : List (S102)) (x9 : Int) (x10 : Int) : impl_AreMarks.L0 x0 x8 x9 x10 = (if x10 < x9 then (if 0 ≤ x10 then (if x10 < (x8.length : Int) then ((impl_InRange.f ((rd_T102 x8 x10).f0) 1 20).bind fun t145 => (if t145 = true then ((impl_InRange.f ((rd_T102 x8 x10).f1) 0 99).bind fun t146 => (if t146 = true then (if x10 > 0 then (if 0 ≤ (wrap64 (x10 - 1)) then (if (wrap64 (x10 - 1)) < (x0.length : Int) then (if ((rd_T102 x8 x10).f0) ≤ ((rd_T102 x0 (wrap64 (x10 - 1))).f0) then (some false) else (impl_AreMarks.L0 x0 x8 x9 (wrap64 (x10 + 1)))) else (none)) else (none)) else (impl_AreMarks.L0 x0 x8 x9 (wrap64 (x10 + 1)))) else (some false))) else (some false))) else (none)) else (none)) else (some true)) := by
  refine Co.step (impl_AreMarks.L0_co x0 x8 x9 x10) (h := fun k => (if x10 < x9 then (if 0 ≤ x10 then (if x10 < (x8.length : Int) then ((impl_InRange.f ((rd_T102 x8 x10).f0) 1 20).bind fun t145 => (if t145 = true then ((impl_InRange.f ((rd_T102 x8 x10).f1) 0 99).bind fun t146 => (if t146 = true then (if x10 > 0 then (if 0 ≤ (wrap64 (x10 - 1)) then (if (wrap64 (x10 - 1)) < (x0.length : Int) then (if ((rd_T102 x8 x10).f0) ≤ ((rd_T102 x0 (wrap64 (x10 - 1))).f0) then (some false) else (impl_AreMarks.l0 k x0 x8 x9 (wrap64 (x10 + 1)))) else (none)) else (none)) else (impl_AreMarks.l0 k x0 x8 x9 (wrap64 (x10 + 1)))) else (some false))) else (some false))) else (none)) else (none)) else (some true))) (fun k => by first | rfl | (simp only [impl_AreMarks.l0])) ?_
  repeat' first
    | (with_reducible exact Co.const _)
    | (with_reducible exact impl_AreMarks.L0_co _ _ _ _)
    | (with_reducible refine Co.ite ?_ ?_)
    | (with_reducible refine Co.bind ?_ (fun _ => ?_))
theorem impl_AreMarks.F_eq (l0 : List (S102)) : impl_AreMarks.F l0 = (if (l0.length : Int) > 8 then (some false) else (impl_AreMarks.L0 l0 l0 (l0.length : Int) 0)) := by
  refine Co.same (impl_AreMarks.F_co l0) (h := fun k => (if (l0.length : Int) > 8 then (some false) else (impl_AreMarks.l0 k l0 l0 (l0.length : Int) 0))) (fun k => by first | rfl | unfold impl_AreMarks.f; rfl) ?_
  repeat' first
    | (with_reducible exact Co.const _)
    | (with_reducible exact impl_AreMarks.L0_co _ _ _ _)
    | (with_reducible refine Co.ite ?_ ?_)
    | (with_reducible refine Co.bind ?_ (fun _ => ?_))

noncomputable def impl_TrialState.J0 (x0 : List (S102)) (x5 : Bool) (x153000 : Int) (x153001 : Int) (x153002 : Int) (x153003 : Int) : Option (Int) := lim (fun k => impl_TrialState.j0 k x0 x5 x153000 x153001 x153002 x153003)
theorem impl_TrialState.J0_co (x0 : List (S102)) (x5 : Bool) (x153000 : Int) (x153001 : Int) (x153002 : Int) (x153003 : Int) : Co (fun k => impl_TrialState.j0 k x0 x5 x153000 x153001 x153002 x153003) (impl_TrialState.J0 x0 x5 x153000 x153001 x153002 x153003) := Co.base (fun k => (impl_TrialState.mono_l k) _ _ _ _ _ _)
noncomputable def impl_TrialState.F (l0 : List (S102)) (a1_0 : Int) (a1_1 : Int) (a1_2 : Int) (a1_3 : Int) : Option (Int) := lim (fun k => impl_TrialState.f k l0 a1_0 a1_1 a1_2 a1_3)
theorem impl_TrialState.F_co (l0 : List (S102)) (a1_0 : Int) (a1_1 : Int) (a1_2 : Int) (a1_3 : Int) : Co (fun k => impl_TrialState.f k l0 a1_0 a1_1 a1_2 a1_3) (impl_TrialState.F l0 a1_0 a1_1 a1_2 a1_3) := Co.base (fun k => impl_TrialState.mono _ _ _ _ _ k)
theorem impl_TrialState.J0_eq (x0 : List (S102)) (x5 : Bool) (x153000 : Int) (x153001 : Int) (x153002 : Int) (x153003 : Int) : impl_TrialState.J0 x0 x5 x153000 x153001 x153002 x153003 = (if x5 = true then (some 2) else (if (x0.length : Int) > 0 then ((impl_NeedFor.f x0).bind fun t155 => (if x153002 ≥ t155 then (some 1) else (some 0))) else (some 0))) := by
  refine Co.step (impl_TrialState.J0_co x0 x5 x153000 x153001 x153002 x153003) (h := fun k => (if x5 = true then (some 2) else (if (x0.length : Int) > 0 then ((impl_NeedFor.f x0).bind fun t155 => (if x153002 ≥ t155 then (some 1) else (some 0))) else (some 0)))) (fun k => by first | rfl | (simp only [impl_TrialState.j0])) ?_
  repeat' first
    | (with_reducible exact Co.const _)
    | (with_reducible refine Co.ite ?_ ?_)
    | (with_reducible refine Co.bind ?_ (fun _ => ?_))
theorem impl_TrialState.F_eq (l0 : List (S102)) (a1_0 : Int) (a1_1 : Int) (a1_2 : Int) (a1_3 : Int) : impl_TrialState.F l0 a1_0 a1_1 a1_2 a1_3 = ((impl_IsTrial.f a1_0 a1_1 a1_2 a1_3).bind fun t153 => (if t153 = true then ((impl_AreMarks.F l0).bind fun t154 => (if t154 = true then (impl_TrialState.J0 l0 (decide (a1_3 > 1)) a1_0 a1_1 a1_2 a1_3) else (impl_TrialState.J0 l0 true a1_0 a1_1 a1_2 a1_3))) else (impl_TrialState.J0 l0 true a1_0 a1_1 a1_2 a1_3))) := by
  refine Co.same (impl_TrialState.F_co l0 a1_0 a1_1 a1_2 a1_3) (h := fun k => ((impl_IsTrial.f a1_0 a1_1 a1_2 a1_3).bind fun t153 => (if t153 = true then ((impl_AreMarks.f k l0).bind fun t154 => (if t154 = true then (impl_TrialState.j0 k l0 (decide (a1_3 > 1)) a1_0 a1_1 a1_2 a1_3) else (impl_TrialState.j0 k l0 true a1_0 a1_1 a1_2 a1_3))) else (impl_TrialState.j0 k l0 true a1_0 a1_1 a1_2 a1_3)))) (fun k => by first | rfl | unfold impl_TrialState.f; rfl) ?_
  repeat' first
    | (with_reducible exact Co.const _)
    | (with_reducible exact impl_AreMarks.F_co _)
    | (with_reducible exact impl_TrialState.J0_co _ _ _ _ _ _)
    | (with_reducible refine Co.ite ?_ ?_)
    | (with_reducible refine Co.bind ?_ (fun _ => ?_))

noncomputable def impl_Hash.L0 (x3 : Int) (x6 : List Int) (x7 : Int) (x8 : Int) : Option (Int) := lim (fun k => impl_Hash.l0 k x3 x6 x7 x8)
theorem impl_Hash.L0_co (x3 : Int) (x6 : List Int) (x7 : Int) (x8 : Int) : Co (fun k => impl_Hash.l0 k x3 x6 x7 x8) (impl_Hash.L0 x3 x6 x7 x8) := Co.base (fun k => (impl_Hash.mono_l k) _ _ _ _)
noncomputable def impl_Hash.F (l0 : List Int) : Option (Int) := lim (fun k => impl_Hash.f k l0)
theorem impl_Hash.F_co (l0 : List Int) : Co (fun k => impl_Hash.f k l0) (impl_Hash.F l0) := Co.base (fun k => impl_Hash.mono _ k)
theorem impl_Hash.L0_eq (x3 : Int) (x6 : List Int) (x7 : Int) (x8 : Int) : impl_Hash.L0 x3 x6 x7 x8 = (if x8 < x7 then (if 0 ≤ x8 then (if x8 < (x6.length : Int) then ((impl_fold.f x3 (rd x6 x8)).bind fun t159 => (impl_Hash.L0 t159 x6 x7 (wrap64 (x8 + 1)))) else (none)) else (none)) else (some x3)) := by
  refine Co.step (impl_Hash.L0_co x3 x6 x7 x8) (h := fun k => (if x8 < x7 then (if 0 ≤ x8 then (if x8 < (x6.length : Int) then ((impl_fold.f x3 (rd x6 x8)).bind fun t159 => (impl_Hash.l0 k t159 x6 x7 (wrap64 (x8 + 1)))) else (none)) else (none)) else (some x3))) (fun k => by first | rfl | (simp only [impl_Hash.l0])) ?_
  repeat' first
    | (with_reducible exact Co.const _)
    | (with_reducible exact impl_Hash.L0_co _ _ _ _)
    | (with_reducible refine Co.ite ?_ ?_)
    | (with_reducible refine Co.bind ?_ (fun _ => ?_))
theorem impl_Hash.F_eq (l0 : List Int) : impl_Hash.F l0 = (impl_Hash.L0 11 l0 (l0.length : Int) 0) := by
  refine Co.same (impl_Hash.F_co l0) (h := fun k => (impl_Hash.l0 k 11 l0 (l0.length : Int) 0)) (fun k => by first | rfl | unfold impl_Hash.f; rfl) ?_
  repeat' first
    | (with_reducible exact Co.const _)
    | (with_reducible exact impl_Hash.L0_co _ _ _ _)
    | (with_reducible refine Co.ite ?_ ?_)
    | (with_reducible refine Co.bind ?_ (fun _ => ?_))

noncomputable def impl_QuestionFor.F (l0 : List (S102)) (a1 : Int) (a2 : Int) : Option (Int) := lim (fun k => impl_QuestionFor.f k l0 a1 a2)
theorem impl_QuestionFor.F_co (l0 : List (S102)) (a1 : Int) (a2 : Int) : Co (fun k => impl_QuestionFor.f k l0 a1 a2) (impl_QuestionFor.F l0 a1 a2) := Co.base (fun k => impl_QuestionFor.mono _ _ _ k)
theorem impl_QuestionFor.F_eq (l0 : List (S102)) (a1 : Int) (a2 : Int) : impl_QuestionFor.F l0 a1 a2 = (if (l0.length : Int) = 0 then (some 0) else ((impl_AreMarks.F l0).bind fun t160 => (if t160 = true then ((impl_InRange.f a2 0 1000).bind fun t161 => (if t161 = true then ((impl_Hash.F (([a1] : List Int))).bind fun t165 => (if 0 ≤ (Int.tmod (wrap64 ((Int.tmod t165 (l0.length : Int)) + a2)) (l0.length : Int)) then (if (Int.tmod (wrap64 ((Int.tmod t165 (l0.length : Int)) + a2)) (l0.length : Int)) < (l0.length : Int) then (some ((rd_T102 l0 (Int.tmod (wrap64 ((Int.tmod t165 (l0.length : Int)) + a2)) (l0.length : Int))).f0)) else (none)) else (none))) else (some 0))) else (some 0)))) := by
  refine Co.same (impl_QuestionFor.F_co l0 a1 a2) (h := fun k => (if (l0.length : Int) = 0 then (some 0) else ((impl_AreMarks.f k l0).bind fun t160 => (if t160 = true then ((impl_InRange.f a2 0 1000).bind fun t161 => (if t161 = true then ((impl_Hash.f k (([a1] : List Int))).bind fun t165 => (if 0 ≤ (Int.tmod (wrap64 ((Int.tmod t165 (l0.length : Int)) + a2)) (l0.length : Int)) then (if (Int.tmod (wrap64 ((Int.tmod t165 (l0.length : Int)) + a2)) (l0.length : Int)) < (l0.length : Int) then (some ((rd_T102 l0 (Int.tmod (wrap64 ((Int.tmod t165 (l0.length : Int)) + a2)) (l0.length : Int))).f0)) else (none)) else (none))) else (some 0))) else (some 0))))) (fun k => by first | rfl | unfold impl_QuestionFor.f; rfl) ?_
  repeat' first
    | (with_reducible exact Co.const _)
    | (with_reducible exact impl_AreMarks.F_co _)
    | (with_reducible exact impl_Hash.F_co _)
    | (with_reducible refine Co.ite ?_ ?_)
    | (with_reducible refine Co.bind ?_ (fun _ => ?_))

noncomputable def impl_NextQuestion.F (l0 : List (S102)) (a1_0 : Int) (a1_1 : Int) (a1_2 : Int) (a1_3 : Int) : Option (Int) := lim (fun k => impl_NextQuestion.f k l0 a1_0 a1_1 a1_2 a1_3)
theorem impl_NextQuestion.F_co (l0 : List (S102)) (a1_0 : Int) (a1_1 : Int) (a1_2 : Int) (a1_3 : Int) : Co (fun k => impl_NextQuestion.f k l0 a1_0 a1_1 a1_2 a1_3) (impl_NextQuestion.F l0 a1_0 a1_1 a1_2 a1_3) := Co.base (fun k => impl_NextQuestion.mono _ _ _ _ _ k)
theorem impl_NextQuestion.F_eq (l0 : List (S102)) (a1_0 : Int) (a1_1 : Int) (a1_2 : Int) (a1_3 : Int) : impl_NextQuestion.F l0 a1_0 a1_1 a1_2 a1_3 = ((impl_TrialState.F l0 a1_0 a1_1 a1_2 a1_3).bind fun t168 => (if t168 = 0 then ((impl_QuestionFor.F l0 a1_0 a1_1).bind fun t169 => (some t169)) else (some 0))) := by
  refine Co.same (impl_NextQuestion.F_co l0 a1_0 a1_1 a1_2 a1_3) (h := fun k => ((impl_TrialState.f k l0 a1_0 a1_1 a1_2 a1_3).bind fun t168 => (if t168 = 0 then ((impl_QuestionFor.f k l0 a1_0 a1_1).bind fun t169 => (some t169)) else (some 0)))) (fun k => by first | rfl | unfold impl_NextQuestion.f; rfl) ?_
  repeat' first
    | (with_reducible exact Co.const _)
    | (with_reducible exact impl_QuestionFor.F_co _ _ _)
    | (with_reducible exact impl_TrialState.F_co _ _ _ _ _)
    | (with_reducible refine Co.ite ?_ ?_)
    | (with_reducible refine Co.bind ?_ (fun _ => ?_))

noncomputable def laws_eqMarkS.L0 (x0 : List (S102)) (x1 : List (S102)) (x5 : Int) : Option (Bool) := lim (fun k => laws_eqMarkS.l0 k x0 x1 x5)
theorem laws_eqMarkS.L0_co (x0 : List (S102)) (x1 : List (S102)) (x5 : Int) : Co (fun k => laws_eqMarkS.l0 k x0 x1 x5) (laws_eqMarkS.L0 x0 x1 x5) := Co.base (fun k => (laws_eqMarkS.mono_l k) _ _ _)
noncomputable def laws_eqMarkS.F (l0 : List (S102)) (l1 : List (S102)) : Option (Bool) := lim (fun k => laws_eqMarkS.f k l0 l1)
theorem laws_eqMarkS.F_co (l0 : List (S102)) (l1 : List (S102)) : Co (fun k => laws_eqMarkS.f k l0 l1) (laws_eqMarkS.F l0 l1) := Co.base (fun k => laws_eqMarkS.mono _ _ k)
theorem laws_eqMarkS.L0_eq (x0 : List (S102)) (x1 : List (S102)) (x5 : Int) : laws_eqMarkS.L0 x0 x1 x5 = (if x5 < (x0.length : Int) then (if 0 ≤ x5 then (if x5 < (x1.length : Int) then ((laws_eqMark.f ((rd_T102 x0 x5).f0) ((rd_T102 x0 x5).f1) ((rd_T102 x1 x5).f0) ((rd_T102 x1 x5).f1)).bind fun t174 => (if t174 = true then (laws_eqMarkS.L0 x0 x1 (wrap64 (x5 + 1))) else (some false))) else (none)) else (none)) else (some true)) := by
  refine Co.step (laws_eqMarkS.L0_co x0 x1 x5) (h := fun k => (if x5 < (x0.length : Int) then (if 0 ≤ x5 then (if x5 < (x1.length : Int) then ((laws_eqMark.f ((rd_T102 x0 x5).f0) ((rd_T102 x0 x5).f1) ((rd_T102 x1 x5).f0) ((rd_T102 x1 x5).f1)).bind fun t174 => (if t174 = true then (laws_eqMarkS.l0 k x0 x1 (wrap64 (x5 + 1))) else (some false))) else (none)) else (none)) else (some true))) (fun k => by first | rfl | (simp only [laws_eqMarkS.l0])) ?_
  repeat' first
    | (with_reducible exact Co.const _)
    | (with_reducible exact laws_eqMarkS.L0_co _ _ _)
    | (with_reducible refine Co.ite ?_ ?_)
    | (with_reducible refine Co.bind ?_ (fun _ => ?_))
theorem laws_eqMarkS.F_eq (l0 : List (S102)) (l1 : List (S102)) : laws_eqMarkS.F l0 l1 = (if (l0.length : Int) = (l1.length : Int) then (laws_eqMarkS.L0 l0 l1 0) else (some false)) := by
  refine Co.same (laws_eqMarkS.F_co l0 l1) (h := fun k => (if (l0.length : Int) = (l1.length : Int) then (laws_eqMarkS.l0 k l0 l1 0) else (some false))) (fun k => by first | rfl | unfold laws_eqMarkS.f; rfl) ?_
  repeat' first
    | (with_reducible exact Co.const _)
    | (with_reducible exact laws_eqMarkS.L0_co _ _ _)
    | (with_reducible refine Co.ite ?_ ?_)
    | (with_reducible refine Co.bind ?_ (fun _ => ?_))

noncomputable def laws_FnExactNextQuestion.F (l0 : List (S99)) (a1_0 : Int) (a1_1 : Int) (a1_2 : Int) (a1_3 : Int) : Option (Bool) := lim (fun k => laws_FnExactNextQuestion.f k l0 a1_0 a1_1 a1_2 a1_3)
theorem laws_FnExactNextQuestion.F_co (l0 : List (S99)) (a1_0 : Int) (a1_1 : Int) (a1_2 : Int) (a1_3 : Int) : Co (fun k => laws_FnExactNextQuestion.f k l0 a1_0 a1_1 a1_2 a1_3) (laws_FnExactNextQuestion.F l0 a1_0 a1_1 a1_2 a1_3) := Co.base (fun k => laws_FnExactNextQuestion.mono _ _ _ _ _ k)
theorem laws_FnExactNextQuestion.F_eq (l0 : List (S99)) (a1_0 : Int) (a1_1 : Int) (a1_2 : Int) (a1_3 : Int) : laws_FnExactNextQuestion.F l0 a1_0 a1_1 a1_2 a1_3 = ((laws_szMarkS.f l0 1048576).bind fun t176 => (if t176 < 0 then (some true) else ((laws_toMarkS.F l0).bind fun t177 => ((laws_toTrial.f a1_0 a1_1 a1_2 a1_3).bind fun bt180 => ((spec_NextQuestion.F t177 bt180.1 bt180.2.1 bt180.2.2.1 bt180.2.2.2).bind fun t184 => ((laws_toMarkS.F l0).bind fun t185 => ((laws_toTrial.f a1_0 a1_1 a1_2 a1_3).bind fun bt188 => ((impl_NextQuestion.F t185 bt188.1 bt188.2.1 bt188.2.2.1 bt188.2.2.2).bind fun t192 => (if t192 = t184 then ((laws_toMarkS.F l0).bind fun t193 => ((laws_eqMarkS.F t185 t193).bind fun t196 => (if t196 = true then (some true) else (some false)))) else (some false)))))))))) := by
  refine Co.same (laws_FnExactNextQuestion.F_co l0 a1_0 a1_1 a1_2 a1_3) (h := fun k => ((laws_szMarkS.f l0 1048576).bind fun t176 => (if t176 < 0 then (some true) else ((laws_toMarkS.f k l0).bind fun t177 => ((laws_toTrial.f a1_0 a1_1 a1_2 a1_3).bind fun bt180 => ((spec_NextQuestion.f k t177 bt180.1 bt180.2.1 bt180.2.2.1 bt180.2.2.2).bind fun t184 => ((laws_toMarkS.f k l0).bind fun t185 => ((laws_toTrial.f a1_0 a1_1 a1_2 a1_3).bind fun bt188 => ((impl_NextQuestion.f k t185 bt188.1 bt188.2.1 bt188.2.2.1 bt188.2.2.2).bind fun t192 => (if t192 = t184 then ((laws_toMarkS.f k l0).bind fun t193 => ((laws_eqMarkS.f k t185 t193).bind fun t196 => (if t196 = true then (some true) else (some false)))) else (some false))))))))))) (fun k => by first | rfl | unfold laws_FnExactNextQuestion.f; rfl) ?_
  repeat' first
    | (with_reducible exact Co.const _)
    | (with_reducible exact impl_NextQuestion.F_co _ _ _ _ _)
    | (with_reducible exact laws_eqMarkS.F_co _ _)
    | (with_reducible exact laws_toMarkS.F_co _)
    | (with_reducible exact spec_NextQuestion.F_co _ _ _ _ _)
    | (with_reducible refine Co.ite ?_ ?_)
    | (with_reducible refine Co.bind ?_ (fun _ => ?_))

end Go.Proofs.Ytbbfelgojaioaaa.PFnExactNextQuestion.Pure
