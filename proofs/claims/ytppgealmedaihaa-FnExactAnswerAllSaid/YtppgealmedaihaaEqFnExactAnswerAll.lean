/-
  The printed functions that this law reaches, their rounds used up, and the equations that they meet.
-/
import Derived.Test.YtppgealmedaihaaPFnExactAnswerAllx1
import Derived.Test.YtppgealmedaihaaPFnExactAnswerAllx2
import Derived.Test.YtppgealmedaihaaPFnExactAnswerAllx3
import Derived.Test.YtppgealmedaihaaPFnExactAnswerAllx4
import Derived.Test.YtppgealmedaihaaPFnExactAnswerAllx5
import Derived.Test.YtppgealmedaihaaPFnExactAnswerAllx6
import Derived.Test.YtppgealmedaihaaPFnExactAnswerAllx7
import Derived.Test.YtppgealmedaihaaPFnExactAnswerAllx8
import Derived.Test.YtppgealmedaihaaLim
namespace Go.Proofs.Ytppgealmedaihaa.PFnExactAnswerAll.Pure
open Go.RowKit Go.Proofs.YtppgealmedaihaaW.PrintWords Go.Proofs.YtppgealmedaihaaW.PrintLast Go.Proofs.YtppgealmedaihaaW.PrintMore Go.Proofs.Ytppgealmedaihaa.PFnExactAnswerAll Go.Proofs.Ytppgealmedaihaa.Lim
set_option linter.unusedVariables false
set_option maxRecDepth 100000

noncomputable def spec_AnswerOf.L0 (x0 : List (S62)) (x1 : Int) (x5 : Int) : Option (Int) := lim (fun k => spec_AnswerOf.l0 k x0 x1 x5)
theorem spec_AnswerOf.L0_co (x0 : List (S62)) (x1 : Int) (x5 : Int) : Co (fun k => spec_AnswerOf.l0 k x0 x1 x5) (spec_AnswerOf.L0 x0 x1 x5) := Co.base (fun k => (spec_AnswerOf.mono_l k) _ _ _)
noncomputable def spec_AnswerOf.F (l0 : List (S62)) (a1 : Int) : Option (Int) := lim (fun k => spec_AnswerOf.f k l0 a1)
theorem spec_AnswerOf.F_co (l0 : List (S62)) (a1 : Int) : Co (fun k => spec_AnswerOf.f k l0 a1) (spec_AnswerOf.F l0 a1) := Co.base (fun k => spec_AnswerOf.mono _ _ k)
theorem spec_AnswerOf.L0_eq (x0 : List (S62)) (x1 : Int) (x5 : Int) : spec_AnswerOf.L0 x0 x1 x5 = (if x5 < (x0.length : Int) then (if 0 ≤ x5 then (if ((rd_T62 x0 x5).f0) = x1 then (some ((rd_T62 x0 x5).f1)) else (spec_AnswerOf.L0 x0 x1 (wrap64 (x5 + 1)))) else (none)) else (some (-1))) := by
  refine Co.step (spec_AnswerOf.L0_co x0 x1 x5) (h := fun k => (if x5 < (x0.length : Int) then (if 0 ≤ x5 then (if ((rd_T62 x0 x5).f0) = x1 then (some ((rd_T62 x0 x5).f1)) else (spec_AnswerOf.l0 k x0 x1 (wrap64 (x5 + 1)))) else (none)) else (some (-1)))) (fun k => by first | rfl | (simp only [spec_AnswerOf.l0])) ?_
  repeat' first
    | (with_reducible exact Co.const _)
    | (with_reducible exact spec_AnswerOf.L0_co _ _ _)
    | (with_reducible refine Co.ite ?_ ?_)
    | (with_reducible refine Co.bind ?_ (fun _ => ?_))
theorem spec_AnswerOf.F_eq (l0 : List (S62)) (a1 : Int) : spec_AnswerOf.F l0 a1 = (spec_AnswerOf.L0 l0 a1 0) := by
  refine Co.same (spec_AnswerOf.F_co l0 a1) (h := fun k => (spec_AnswerOf.l0 k l0 a1 0)) (fun k => by first | rfl | unfold spec_AnswerOf.f; rfl) ?_
  repeat' first
    | (with_reducible exact Co.const _)
    | (with_reducible exact spec_AnswerOf.L0_co _ _ _)
    | (with_reducible refine Co.ite ?_ ?_)
    | (with_reducible refine Co.bind ?_ (fun _ => ?_))

noncomputable def spec_AreMarks.L0 (x0 : List (S62)) (x3 : Int) : Option (Bool) := lim (fun k => spec_AreMarks.l0 k x0 x3)
theorem spec_AreMarks.L0_co (x0 : List (S62)) (x3 : Int) : Co (fun k => spec_AreMarks.l0 k x0 x3) (spec_AreMarks.L0 x0 x3) := Co.base (fun k => (spec_AreMarks.mono_l k) _ _)
noncomputable def spec_AreMarks.F (l0 : List (S62)) : Option (Bool) := lim (fun k => spec_AreMarks.f k l0)
theorem spec_AreMarks.F_co (l0 : List (S62)) : Co (fun k => spec_AreMarks.f k l0) (spec_AreMarks.F l0) := Co.base (fun k => spec_AreMarks.mono _ k)
theorem spec_AreMarks.L0_eq (x0 : List (S62)) (x3 : Int) : spec_AreMarks.L0 x0 x3 = (if x3 < (x0.length : Int) then (if 0 ≤ x3 then ((spec_l1In.f ((rd_T62 x0 x3).f0) 1 20).bind fun t108 => (if t108 = true then ((spec_l1In.f ((rd_T62 x0 x3).f1) 0 99).bind fun t110 => (if t110 = true then (if x3 > 0 then (if 0 ≤ (wrap64 (x3 - 1)) then (if (wrap64 (x3 - 1)) < (x0.length : Int) then (if ((rd_T62 x0 (wrap64 (x3 - 1))).f0) ≥ ((rd_T62 x0 x3).f0) then (some false) else (spec_AreMarks.L0 x0 (wrap64 (x3 + 1)))) else (none)) else (none)) else (spec_AreMarks.L0 x0 (wrap64 (x3 + 1)))) else (some false))) else (some false))) else (none)) else (some (decide ((x0.length : Int) ≤ 8)))) := by
  refine Co.step (spec_AreMarks.L0_co x0 x3) (h := fun k => (if x3 < (x0.length : Int) then (if 0 ≤ x3 then ((spec_l1In.f ((rd_T62 x0 x3).f0) 1 20).bind fun t108 => (if t108 = true then ((spec_l1In.f ((rd_T62 x0 x3).f1) 0 99).bind fun t110 => (if t110 = true then (if x3 > 0 then (if 0 ≤ (wrap64 (x3 - 1)) then (if (wrap64 (x3 - 1)) < (x0.length : Int) then (if ((rd_T62 x0 (wrap64 (x3 - 1))).f0) ≥ ((rd_T62 x0 x3).f0) then (some false) else (spec_AreMarks.l0 k x0 (wrap64 (x3 + 1)))) else (none)) else (none)) else (spec_AreMarks.l0 k x0 (wrap64 (x3 + 1)))) else (some false))) else (some false))) else (none)) else (some (decide ((x0.length : Int) ≤ 8))))) (fun k => by first | rfl | (simp only [spec_AreMarks.l0])) ?_
  repeat' first
    | (with_reducible exact Co.const _)
    | (with_reducible exact spec_AreMarks.L0_co _ _)
    | (with_reducible refine Co.ite ?_ ?_)
    | (with_reducible refine Co.bind ?_ (fun _ => ?_))
theorem spec_AreMarks.F_eq (l0 : List (S62)) : spec_AreMarks.F l0 = (spec_AreMarks.L0 l0 0) := by
  refine Co.same (spec_AreMarks.F_co l0) (h := fun k => (spec_AreMarks.l0 k l0 0)) (fun k => by first | rfl | unfold spec_AreMarks.f; rfl) ?_
  repeat' first
    | (with_reducible exact Co.const _)
    | (with_reducible exact spec_AreMarks.L0_co _ _)
    | (with_reducible refine Co.ite ?_ ?_)
    | (with_reducible refine Co.bind ?_ (fun _ => ?_))

noncomputable def spec_TrialState.J0 (x0 : List (S62)) (x5 : Bool) (x115000 : Int) (x115001 : Int) (x115002 : Int) (x115003 : Int) : Option (Int) := lim (fun k => spec_TrialState.j0 k x0 x5 x115000 x115001 x115002 x115003)
theorem spec_TrialState.J0_co (x0 : List (S62)) (x5 : Bool) (x115000 : Int) (x115001 : Int) (x115002 : Int) (x115003 : Int) : Co (fun k => spec_TrialState.j0 k x0 x5 x115000 x115001 x115002 x115003) (spec_TrialState.J0 x0 x5 x115000 x115001 x115002 x115003) := Co.base (fun k => (spec_TrialState.mono_l k) _ _ _ _ _ _)
noncomputable def spec_TrialState.F (l0 : List (S62)) (a1_0 : Int) (a1_1 : Int) (a1_2 : Int) (a1_3 : Int) : Option (Int) := lim (fun k => spec_TrialState.f k l0 a1_0 a1_1 a1_2 a1_3)
theorem spec_TrialState.F_co (l0 : List (S62)) (a1_0 : Int) (a1_1 : Int) (a1_2 : Int) (a1_3 : Int) : Co (fun k => spec_TrialState.f k l0 a1_0 a1_1 a1_2 a1_3) (spec_TrialState.F l0 a1_0 a1_1 a1_2 a1_3) := Co.base (fun k => spec_TrialState.mono _ _ _ _ _ k)
theorem spec_TrialState.J0_eq (x0 : List (S62)) (x5 : Bool) (x115000 : Int) (x115001 : Int) (x115002 : Int) (x115003 : Int) : spec_TrialState.J0 x0 x5 x115000 x115001 x115002 x115003 = (if x5 = true then (some 2) else (if (x0.length : Int) > 0 then ((spec_NeedFor.f x0).bind fun t117 => (if x115002 ≥ t117 then (some 1) else (some 0))) else (some 0))) := by
  refine Co.step (spec_TrialState.J0_co x0 x5 x115000 x115001 x115002 x115003) (h := fun k => (if x5 = true then (some 2) else (if (x0.length : Int) > 0 then ((spec_NeedFor.f x0).bind fun t117 => (if x115002 ≥ t117 then (some 1) else (some 0))) else (some 0)))) (fun k => by first | rfl | (simp only [spec_TrialState.j0])) ?_
  repeat' first
    | (with_reducible exact Co.const _)
    | (with_reducible refine Co.ite ?_ ?_)
    | (with_reducible refine Co.bind ?_ (fun _ => ?_))
theorem spec_TrialState.F_eq (l0 : List (S62)) (a1_0 : Int) (a1_1 : Int) (a1_2 : Int) (a1_3 : Int) : spec_TrialState.F l0 a1_0 a1_1 a1_2 a1_3 = ((spec_IsTrial.f a1_0 a1_1 a1_2 a1_3).bind fun t115 => (if t115 = true then ((spec_AreMarks.F l0).bind fun t116 => (if t116 = true then (spec_TrialState.J0 l0 (decide (a1_3 > 1)) a1_0 a1_1 a1_2 a1_3) else (spec_TrialState.J0 l0 true a1_0 a1_1 a1_2 a1_3))) else (spec_TrialState.J0 l0 true a1_0 a1_1 a1_2 a1_3))) := by
  refine Co.same (spec_TrialState.F_co l0 a1_0 a1_1 a1_2 a1_3) (h := fun k => ((spec_IsTrial.f a1_0 a1_1 a1_2 a1_3).bind fun t115 => (if t115 = true then ((spec_AreMarks.f k l0).bind fun t116 => (if t116 = true then (spec_TrialState.j0 k l0 (decide (a1_3 > 1)) a1_0 a1_1 a1_2 a1_3) else (spec_TrialState.j0 k l0 true a1_0 a1_1 a1_2 a1_3))) else (spec_TrialState.j0 k l0 true a1_0 a1_1 a1_2 a1_3)))) (fun k => by first | rfl | unfold spec_TrialState.f; rfl) ?_
  repeat' first
    | (with_reducible exact Co.const _)
    | (with_reducible exact spec_AreMarks.F_co _)
    | (with_reducible exact spec_TrialState.J0_co _ _ _ _ _ _)
    | (with_reducible refine Co.ite ?_ ?_)
    | (with_reducible refine Co.bind ?_ (fun _ => ?_))

noncomputable def spec_Hash.L0 (x0 : List Int) (x3 : Int) (x4 : Int) : Option (Int) := lim (fun k => spec_Hash.l0 k x0 x3 x4)
theorem spec_Hash.L0_co (x0 : List Int) (x3 : Int) (x4 : Int) : Co (fun k => spec_Hash.l0 k x0 x3 x4) (spec_Hash.L0 x0 x3 x4) := Co.base (fun k => (spec_Hash.mono_l k) _ _ _)
noncomputable def spec_Hash.F (l0 : List Int) : Option (Int) := lim (fun k => spec_Hash.f k l0)
theorem spec_Hash.F_co (l0 : List Int) : Co (fun k => spec_Hash.f k l0) (spec_Hash.F l0) := Co.base (fun k => spec_Hash.mono _ k)
theorem spec_Hash.L0_eq (x0 : List Int) (x3 : Int) (x4 : Int) : spec_Hash.L0 x0 x3 x4 = (if x4 < (x0.length : Int) then (if 0 ≤ x4 then ((spec_Mod.f (rd x0 x4) 2147483647).bind fun t120 => (spec_Hash.L0 x0 (Int.tmod (wrap64 ((wrap64 ((wrap64 (x3 * 1000003)) + t120)) + 13)) 2147483647) (wrap64 (x4 + 1)))) else (none)) else (some x3)) := by
  refine Co.step (spec_Hash.L0_co x0 x3 x4) (h := fun k => (if x4 < (x0.length : Int) then (if 0 ≤ x4 then ((spec_Mod.f (rd x0 x4) 2147483647).bind fun t120 => (spec_Hash.l0 k x0 (Int.tmod (wrap64 ((wrap64 ((wrap64 (x3 * 1000003)) + t120)) + 13)) 2147483647) (wrap64 (x4 + 1)))) else (none)) else (some x3))) (fun k => by first | rfl | (simp only [spec_Hash.l0])) ?_
  repeat' first
    | (with_reducible exact Co.const _)
    | (with_reducible exact spec_Hash.L0_co _ _ _)
    | (with_reducible refine Co.ite ?_ ?_)
    | (with_reducible refine Co.bind ?_ (fun _ => ?_))
theorem spec_Hash.F_eq (l0 : List Int) : spec_Hash.F l0 = (spec_Hash.L0 l0 11 0) := by
  refine Co.same (spec_Hash.F_co l0) (h := fun k => (spec_Hash.l0 k l0 11 0)) (fun k => by first | rfl | unfold spec_Hash.f; rfl) ?_
  repeat' first
    | (with_reducible exact Co.const _)
    | (with_reducible exact spec_Hash.L0_co _ _ _)
    | (with_reducible refine Co.ite ?_ ?_)
    | (with_reducible refine Co.bind ?_ (fun _ => ?_))

noncomputable def spec_QuestionFor.J0 (x0 : List (S62)) (x1 : Int) (x2 : Int) (x19 : Bool) : Option (Int) := lim (fun k => spec_QuestionFor.j0 k x0 x1 x2 x19)
theorem spec_QuestionFor.J0_co (x0 : List (S62)) (x1 : Int) (x2 : Int) (x19 : Bool) : Co (fun k => spec_QuestionFor.j0 k x0 x1 x2 x19) (spec_QuestionFor.J0 x0 x1 x2 x19) := Co.base (fun k => (spec_QuestionFor.mono_l k) _ _ _ _)
noncomputable def spec_QuestionFor.F (l0 : List (S62)) (a1 : Int) (a2 : Int) : Option (Int) := lim (fun k => spec_QuestionFor.f k l0 a1 a2)
theorem spec_QuestionFor.F_co (l0 : List (S62)) (a1 : Int) (a2 : Int) : Co (fun k => spec_QuestionFor.f k l0 a1 a2) (spec_QuestionFor.F l0 a1 a2) := Co.base (fun k => spec_QuestionFor.mono _ _ _ k)
theorem spec_QuestionFor.J0_eq (x0 : List (S62)) (x1 : Int) (x2 : Int) (x19 : Bool) : spec_QuestionFor.J0 x0 x1 x2 x19 = (if x19 = true then (some 0) else ((spec_Hash.F (([x1] : List Int))).bind fun t126 => ((spec_Mod.f t126 (x0.length : Int)).bind fun t127 => (if (x0.length : Int) = 0 then (none) else (if 0 ≤ (Int.tmod (wrap64 (t127 + x2)) (x0.length : Int)) then (if (Int.tmod (wrap64 (t127 + x2)) (x0.length : Int)) < (x0.length : Int) then (some ((rd_T62 x0 (Int.tmod (wrap64 (t127 + x2)) (x0.length : Int))).f0)) else (none)) else (none)))))) := by
  refine Co.step (spec_QuestionFor.J0_co x0 x1 x2 x19) (h := fun k => (if x19 = true then (some 0) else ((spec_Hash.f k (([x1] : List Int))).bind fun t126 => ((spec_Mod.f t126 (x0.length : Int)).bind fun t127 => (if (x0.length : Int) = 0 then (none) else (if 0 ≤ (Int.tmod (wrap64 (t127 + x2)) (x0.length : Int)) then (if (Int.tmod (wrap64 (t127 + x2)) (x0.length : Int)) < (x0.length : Int) then (some ((rd_T62 x0 (Int.tmod (wrap64 (t127 + x2)) (x0.length : Int))).f0)) else (none)) else (none))))))) (fun k => by first | rfl | (simp only [spec_QuestionFor.j0])) ?_
  repeat' first
    | (with_reducible exact Co.const _)
    | (with_reducible exact spec_Hash.F_co _)
    | (with_reducible refine Co.ite ?_ ?_)
    | (with_reducible refine Co.bind ?_ (fun _ => ?_))
theorem spec_QuestionFor.F_eq (l0 : List (S62)) (a1 : Int) (a2 : Int) : spec_QuestionFor.F l0 a1 a2 = (if (l0.length : Int) = 0 then (spec_QuestionFor.J0 l0 a1 a2 true) else ((spec_AreMarks.F l0).bind fun t121 => (if t121 = true then ((spec_l1In.f a2 0 1000).bind fun t122 => (spec_QuestionFor.J0 l0 a1 a2 (!t122))) else (spec_QuestionFor.J0 l0 a1 a2 true)))) := by
  refine Co.same (spec_QuestionFor.F_co l0 a1 a2) (h := fun k => (if (l0.length : Int) = 0 then (spec_QuestionFor.j0 k l0 a1 a2 true) else ((spec_AreMarks.f k l0).bind fun t121 => (if t121 = true then ((spec_l1In.f a2 0 1000).bind fun t122 => (spec_QuestionFor.j0 k l0 a1 a2 (!t122))) else (spec_QuestionFor.j0 k l0 a1 a2 true))))) (fun k => by first | rfl | unfold spec_QuestionFor.f; rfl) ?_
  repeat' first
    | (with_reducible exact Co.const _)
    | (with_reducible exact spec_AreMarks.F_co _)
    | (with_reducible exact spec_QuestionFor.J0_co _ _ _ _)
    | (with_reducible refine Co.ite ?_ ?_)
    | (with_reducible refine Co.bind ?_ (fun _ => ?_))

noncomputable def spec_NextQuestion.F (l0 : List (S62)) (a1_0 : Int) (a1_1 : Int) (a1_2 : Int) (a1_3 : Int) : Option (Int) := lim (fun k => spec_NextQuestion.f k l0 a1_0 a1_1 a1_2 a1_3)
theorem spec_NextQuestion.F_co (l0 : List (S62)) (a1_0 : Int) (a1_1 : Int) (a1_2 : Int) (a1_3 : Int) : Co (fun k => spec_NextQuestion.f k l0 a1_0 a1_1 a1_2 a1_3) (spec_NextQuestion.F l0 a1_0 a1_1 a1_2 a1_3) := Co.base (fun k => spec_NextQuestion.mono _ _ _ _ _ k)
theorem spec_NextQuestion.F_eq (l0 : List (S62)) (a1_0 : Int) (a1_1 : Int) (a1_2 : Int) (a1_3 : Int) : spec_NextQuestion.F l0 a1_0 a1_1 a1_2 a1_3 = ((spec_TrialState.F l0 a1_0 a1_1 a1_2 a1_3).bind fun t130 => (if t130 = 0 then ((spec_QuestionFor.F l0 a1_0 a1_1).bind fun t131 => (some t131)) else (some 0))) := by
  refine Co.same (spec_NextQuestion.F_co l0 a1_0 a1_1 a1_2 a1_3) (h := fun k => ((spec_TrialState.f k l0 a1_0 a1_1 a1_2 a1_3).bind fun t130 => (if t130 = 0 then ((spec_QuestionFor.f k l0 a1_0 a1_1).bind fun t131 => (some t131)) else (some 0)))) (fun k => by first | rfl | unfold spec_NextQuestion.f; rfl) ?_
  repeat' first
    | (with_reducible exact Co.const _)
    | (with_reducible exact spec_QuestionFor.F_co _ _ _)
    | (with_reducible exact spec_TrialState.F_co _ _ _ _ _)
    | (with_reducible refine Co.ite ?_ ?_)
    | (with_reducible refine Co.bind ?_ (fun _ => ?_))

noncomputable def spec_GiveAnswer.F (l0 : List (S62)) (a1_0 : Int) (a1_1 : Int) (a1_2 : Int) (a1_3 : Int) (a2 : Int) : Option (Int × Int × Int × Int × Bool) := lim (fun k => spec_GiveAnswer.f k l0 a1_0 a1_1 a1_2 a1_3 a2)
theorem spec_GiveAnswer.F_co (l0 : List (S62)) (a1_0 : Int) (a1_1 : Int) (a1_2 : Int) (a1_3 : Int) (a2 : Int) : Co (fun k => spec_GiveAnswer.f k l0 a1_0 a1_1 a1_2 a1_3 a2) (spec_GiveAnswer.F l0 a1_0 a1_1 a1_2 a1_3 a2) := Co.base (fun k => spec_GiveAnswer.mono _ _ _ _ _ _ k)
theorem spec_GiveAnswer.F_eq (l0 : List (S62)) (a1_0 : Int) (a1_1 : Int) (a1_2 : Int) (a1_3 : Int) (a2 : Int) : spec_GiveAnswer.F l0 a1_0 a1_1 a1_2 a1_3 a2 = ((spec_NextQuestion.F l0 a1_0 a1_1 a1_2 a1_3).bind fun t134 => (if t134 = 0 then (some (a1_0, a1_1, a1_2, a1_3, false)) else ((spec_AnswerOf.F l0 t134).bind fun t135 => (if t135 = a2 then (some (a1_0, wrap64 (a1_1 + 1), wrap64 (a1_2 + 1), a1_3, true)) else (some (a1_0, wrap64 (a1_1 + 1), a1_2, wrap64 (a1_3 + 1), true)))))) := by
  refine Co.same (spec_GiveAnswer.F_co l0 a1_0 a1_1 a1_2 a1_3 a2) (h := fun k => ((spec_NextQuestion.f k l0 a1_0 a1_1 a1_2 a1_3).bind fun t134 => (if t134 = 0 then (some (a1_0, a1_1, a1_2, a1_3, false)) else ((spec_AnswerOf.f k l0 t134).bind fun t135 => (if t135 = a2 then (some (a1_0, wrap64 (a1_1 + 1), wrap64 (a1_2 + 1), a1_3, true)) else (some (a1_0, wrap64 (a1_1 + 1), a1_2, wrap64 (a1_3 + 1), true))))))) (fun k => by first | rfl | unfold spec_GiveAnswer.f; rfl) ?_
  repeat' first
    | (with_reducible exact Co.const _)
    | (with_reducible exact spec_AnswerOf.F_co _ _)
    | (with_reducible exact spec_NextQuestion.F_co _ _ _ _ _)
    | (with_reducible refine Co.ite ?_ ?_)
    | (with_reducible refine Co.bind ?_ (fun _ => ?_))

noncomputable def spec_AnswerAll.L0 (x0 : List (S62)) (x2 : List Int) (x7 : Int) (x137000 : Int) (x137001 : Int) (x137002 : Int) (x137003 : Int) : Option (Int × Int × Int × Int) := lim (fun k => spec_AnswerAll.l0 k x0 x2 x7 x137000 x137001 x137002 x137003)
theorem spec_AnswerAll.L0_co (x0 : List (S62)) (x2 : List Int) (x7 : Int) (x137000 : Int) (x137001 : Int) (x137002 : Int) (x137003 : Int) : Co (fun k => spec_AnswerAll.l0 k x0 x2 x7 x137000 x137001 x137002 x137003) (spec_AnswerAll.L0 x0 x2 x7 x137000 x137001 x137002 x137003) := Co.base (fun k => (spec_AnswerAll.mono_l k) _ _ _ _ _ _ _)
noncomputable def spec_AnswerAll.F (l0 : List (S62)) (a1_0 : Int) (a1_1 : Int) (a1_2 : Int) (a1_3 : Int) (l2 : List Int) : Option (Int × Int × Int × Int) := lim (fun k => spec_AnswerAll.f k l0 a1_0 a1_1 a1_2 a1_3 l2)
theorem spec_AnswerAll.F_co (l0 : List (S62)) (a1_0 : Int) (a1_1 : Int) (a1_2 : Int) (a1_3 : Int) (l2 : List Int) : Co (fun k => spec_AnswerAll.f k l0 a1_0 a1_1 a1_2 a1_3 l2) (spec_AnswerAll.F l0 a1_0 a1_1 a1_2 a1_3 l2) := Co.base (fun k => spec_AnswerAll.mono _ _ _ _ _ _ k)
theorem spec_AnswerAll.L0_eq (x0 : List (S62)) (x2 : List Int) (x7 : Int) (x137000 : Int) (x137001 : Int) (x137002 : Int) (x137003 : Int) : spec_AnswerAll.L0 x0 x2 x7 x137000 x137001 x137002 x137003 = (if x7 < (x2.length : Int) then (if 0 ≤ x7 then ((spec_GiveAnswer.F x0 x137000 x137001 x137002 x137003 (rd x2 x7)).bind fun bt139 => (spec_AnswerAll.L0 x0 x2 (wrap64 (x7 + 1)) bt139.1 bt139.2.1 bt139.2.2.1 bt139.2.2.2.1)) else (none)) else (some (x137000, x137001, x137002, x137003))) := by
  refine Co.step (spec_AnswerAll.L0_co x0 x2 x7 x137000 x137001 x137002 x137003) (h := fun k => (if x7 < (x2.length : Int) then (if 0 ≤ x7 then ((spec_GiveAnswer.f k x0 x137000 x137001 x137002 x137003 (rd x2 x7)).bind fun bt139 => (spec_AnswerAll.l0 k x0 x2 (wrap64 (x7 + 1)) bt139.1 bt139.2.1 bt139.2.2.1 bt139.2.2.2.1)) else (none)) else (some (x137000, x137001, x137002, x137003)))) (fun k => by first | rfl | (simp only [spec_AnswerAll.l0])) ?_
  repeat' first
    | (with_reducible exact Co.const _)
    | (with_reducible exact spec_AnswerAll.L0_co _ _ _ _ _ _ _)
    | (with_reducible exact spec_GiveAnswer.F_co _ _ _ _ _ _)
    | (with_reducible refine Co.ite ?_ ?_)
    | (with_reducible refine Co.bind ?_ (fun _ => ?_))
theorem spec_AnswerAll.F_eq (l0 : List (S62)) (a1_0 : Int) (a1_1 : Int) (a1_2 : Int) (a1_3 : Int) (l2 : List Int) : spec_AnswerAll.F l0 a1_0 a1_1 a1_2 a1_3 l2 = (spec_AnswerAll.L0 l0 l2 0 a1_0 a1_1 a1_2 a1_3) := by
  refine Co.same (spec_AnswerAll.F_co l0 a1_0 a1_1 a1_2 a1_3 l2) (h := fun k => (spec_AnswerAll.l0 k l0 l2 0 a1_0 a1_1 a1_2 a1_3)) (fun k => by first | rfl | unfold spec_AnswerAll.f; rfl) ?_
  repeat' first
    | (with_reducible exact Co.const _)
    | (with_reducible exact spec_AnswerAll.L0_co _ _ _ _ _ _ _)
    | (with_reducible refine Co.ite ?_ ?_)
    | (with_reducible refine Co.bind ?_ (fun _ => ?_))

noncomputable def laws_toMarkS.L0 (x0 : List (S145)) (x3 : List (S62)) (x4 : Int) : Option ((List (S62))) := lim (fun k => laws_toMarkS.l0 k x0 x3 x4)
theorem laws_toMarkS.L0_co (x0 : List (S145)) (x3 : List (S62)) (x4 : Int) : Co (fun k => laws_toMarkS.l0 k x0 x3 x4) (laws_toMarkS.L0 x0 x3 x4) := Co.base (fun k => (laws_toMarkS.mono_l k) _ _ _)
noncomputable def laws_toMarkS.F (l0 : List (S145)) : Option ((List (S62))) := lim (fun k => laws_toMarkS.f k l0)
theorem laws_toMarkS.F_co (l0 : List (S145)) : Co (fun k => laws_toMarkS.f k l0) (laws_toMarkS.F l0) := Co.base (fun k => laws_toMarkS.mono _ k)
theorem laws_toMarkS.L0_eq (x0 : List (S145)) (x3 : List (S62)) (x4 : Int) : laws_toMarkS.L0 x0 x3 x4 = (if x4 < (x0.length : Int) then (if 0 ≤ x4 then ((laws_toMark.f ((rd_T145 x0 x4).f0) ((rd_T145 x0 x4).f1)).bind fun bt151 => (if x4 < (x3.length : Int) then (laws_toMarkS.L0 x0 (x3.set (x4 : Int).toNat (⟨bt151.1, bt151.2⟩ : S62)) (wrap64 (x4 + 1))) else (none))) else (none)) else (some x3)) := by
  refine Co.step (laws_toMarkS.L0_co x0 x3 x4) (h := fun k => (if x4 < (x0.length : Int) then (if 0 ≤ x4 then ((laws_toMark.f ((rd_T145 x0 x4).f0) ((rd_T145 x0 x4).f1)).bind fun bt151 => (if x4 < (x3.length : Int) then (laws_toMarkS.l0 k x0 (x3.set (x4 : Int).toNat (⟨bt151.1, bt151.2⟩ : S62)) (wrap64 (x4 + 1))) else (none))) else (none)) else (some x3))) (fun k => by first | rfl | (simp only [laws_toMarkS.l0])) ?_
  repeat' first
    | (with_reducible exact Co.const _)
    | (with_reducible exact laws_toMarkS.L0_co _ _ _)
    | (with_reducible refine Co.ite ?_ ?_)
    | (with_reducible refine Co.bind ?_ (fun _ => ?_))
theorem laws_toMarkS.F_eq (l0 : List (S145)) : laws_toMarkS.F l0 = (if 0 ≤ (l0.length : Int) then (if ((l0.length : Int) : Int).toNat ≤ 17592186044416 then (laws_toMarkS.L0 l0 (List.replicate ((l0.length : Int) : Int).toNat z62) 0) else (none)) else (none)) := by
  refine Co.same (laws_toMarkS.F_co l0) (h := fun k => (if 0 ≤ (l0.length : Int) then (if ((l0.length : Int) : Int).toNat ≤ 17592186044416 then (laws_toMarkS.l0 k l0 (List.replicate ((l0.length : Int) : Int).toNat z62) 0) else (none)) else (none))) (fun k => by first | rfl | unfold laws_toMarkS.f; rfl) ?_
  repeat' first
    | (with_reducible exact Co.const _)
    | (with_reducible exact laws_toMarkS.L0_co _ _ _)
    | (with_reducible refine Co.ite ?_ ?_)
    | (with_reducible refine Co.bind ?_ (fun _ => ?_))

noncomputable def laws_toIntS.L0 (x0 : List Int) (x3 : List Int) (x4 : Int) : Option (List Int) := lim (fun k => laws_toIntS.l0 k x0 x3 x4)
theorem laws_toIntS.L0_co (x0 : List Int) (x3 : List Int) (x4 : Int) : Co (fun k => laws_toIntS.l0 k x0 x3 x4) (laws_toIntS.L0 x0 x3 x4) := Co.base (fun k => (laws_toIntS.mono_l k) _ _ _)
noncomputable def laws_toIntS.F (l0 : List Int) : Option (List Int) := lim (fun k => laws_toIntS.f k l0)
theorem laws_toIntS.F_co (l0 : List Int) : Co (fun k => laws_toIntS.f k l0) (laws_toIntS.F l0) := Co.base (fun k => laws_toIntS.mono _ k)
theorem laws_toIntS.L0_eq (x0 : List Int) (x3 : List Int) (x4 : Int) : laws_toIntS.L0 x0 x3 x4 = (if x4 < (x0.length : Int) then (if 0 ≤ x4 then (if x4 < (x3.length : Int) then (laws_toIntS.L0 x0 (x3.set (x4 : Int).toNat (rd x0 x4)) (wrap64 (x4 + 1))) else (none)) else (none)) else (some x3)) := by
  refine Co.step (laws_toIntS.L0_co x0 x3 x4) (h := fun k => (if x4 < (x0.length : Int) then (if 0 ≤ x4 then (if x4 < (x3.length : Int) then (laws_toIntS.l0 k x0 (x3.set (x4 : Int).toNat (rd x0 x4)) (wrap64 (x4 + 1))) else (none)) else (none)) else (some x3))) (fun k => by first | rfl | (simp only [laws_toIntS.l0])) ?_
  repeat' first
    | (with_reducible exact Co.const _)
    | (with_reducible exact laws_toIntS.L0_co _ _ _)
    | (with_reducible refine Co.ite ?_ ?_)
    | (with_reducible refine Co.bind ?_ (fun _ => ?_))
theorem laws_toIntS.F_eq (l0 : List Int) : laws_toIntS.F l0 = (if 0 ≤ (l0.length : Int) then (if ((l0.length : Int) : Int).toNat ≤ 35184372088832 then (laws_toIntS.L0 l0 (List.replicate ((l0.length : Int) : Int).toNat 0) 0) else (none)) else (none)) := by
  refine Co.same (laws_toIntS.F_co l0) (h := fun k => (if 0 ≤ (l0.length : Int) then (if ((l0.length : Int) : Int).toNat ≤ 35184372088832 then (laws_toIntS.l0 k l0 (List.replicate ((l0.length : Int) : Int).toNat 0) 0) else (none)) else (none))) (fun k => by first | rfl | unfold laws_toIntS.f; rfl) ?_
  repeat' first
    | (with_reducible exact Co.const _)
    | (with_reducible exact laws_toIntS.L0_co _ _ _)
    | (with_reducible refine Co.ite ?_ ?_)
    | (with_reducible refine Co.bind ?_ (fun _ => ?_))

noncomputable def impl_AnswerOf.L0 (x1 : Int) (x7 : List (S62)) (x8 : Int) (x9 : Int) : Option (Int) := lim (fun k => impl_AnswerOf.l0 k x1 x7 x8 x9)
theorem impl_AnswerOf.L0_co (x1 : Int) (x7 : List (S62)) (x8 : Int) (x9 : Int) : Co (fun k => impl_AnswerOf.l0 k x1 x7 x8 x9) (impl_AnswerOf.L0 x1 x7 x8 x9) := Co.base (fun k => (impl_AnswerOf.mono_l k) _ _ _ _)
noncomputable def impl_AnswerOf.F (l0 : List (S62)) (a1 : Int) : Option (Int) := lim (fun k => impl_AnswerOf.f k l0 a1)
theorem impl_AnswerOf.F_co (l0 : List (S62)) (a1 : Int) : Co (fun k => impl_AnswerOf.f k l0 a1) (impl_AnswerOf.F l0 a1) := Co.base (fun k => impl_AnswerOf.mono _ _ k)
theorem impl_AnswerOf.L0_eq (x1 : Int) (x7 : List (S62)) (x8 : Int) (x9 : Int) : impl_AnswerOf.L0 x1 x7 x8 x9 = (if x9 < x8 then (if 0 ≤ x9 then (if x9 < (x7.length : Int) then (if ((rd_T62 x7 x9).f0) = x1 then (some ((rd_T62 x7 x9).f1)) else (impl_AnswerOf.L0 x1 x7 x8 (wrap64 (x9 + 1)))) else (none)) else (none)) else (some (-1))) := by
  refine Co.step (impl_AnswerOf.L0_co x1 x7 x8 x9) (h := fun k => (if x9 < x8 then (if 0 ≤ x9 then (if x9 < (x7.length : Int) then (if ((rd_T62 x7 x9).f0) = x1 then (some ((rd_T62 x7 x9).f1)) else (impl_AnswerOf.l0 k x1 x7 x8 (wrap64 (x9 + 1)))) else (none)) else (none)) else (some (-1)))) (fun k => by first | rfl | (simp only [impl_AnswerOf.l0])) ?_
  repeat' first
    | (with_reducible exact Co.const _)
    | (with_reducible exact impl_AnswerOf.L0_co _ _ _ _)
    | (with_reducible refine Co.ite ?_ ?_)
    | (with_reducible refine Co.bind ?_ (fun _ => ?_))
theorem impl_AnswerOf.F_eq (l0 : List (S62)) (a1 : Int) : impl_AnswerOf.F l0 a1 = (impl_AnswerOf.L0 a1 l0 (l0.length : Int) 0) := by
  refine Co.same (impl_AnswerOf.F_co l0 a1) (h := fun k => (impl_AnswerOf.l0 k a1 l0 (l0.length : Int) 0)) (fun k => by first | rfl | unfold impl_AnswerOf.f; rfl) ?_
  repeat' first
    | (with_reducible exact Co.const _)
    | (with_reducible exact impl_AnswerOf.L0_co _ _ _ _)
    | (with_reducible refine Co.ite ?_ ?_)
    | (with_reducible refine Co.bind ?_ (fun _ => ?_))

noncomputable def impl_AreMarks.L0 (x0 : List (S62)) (x8 : List (S62)) (x9 : Int) (x10 : Int) : Option (Bool) := lim (fun k => impl_AreMarks.l0 k x0 x8 x9 x10)
theorem impl_AreMarks.L0_co (x0 : List (S62)) (x8 : List (S62)) (x9 : Int) (x10 : Int) : Co (fun k => impl_AreMarks.l0 k x0 x8 x9 x10) (impl_AreMarks.L0 x0 x8 x9 x10) := Co.base (fun k => (impl_AreMarks.mono_l k) _ _ _ _)
noncomputable def impl_AreMarks.F (l0 : List (S62)) : Option (Bool) := lim (fun k => impl_AreMarks.f k l0)
theorem impl_AreMarks.F_co (l0 : List (S62)) : Co (fun k => impl_AreMarks.f k l0) (impl_AreMarks.F l0) := Co.base (fun k => impl_AreMarks.mono _ k)
theorem impl_AreMarks.L0_eq (x0 : List (S62)) (x8 : List (S62)) (x9 : Int) (x10 : Int) : impl_AreMarks.L0 x0 x8 x9 x10 = (if x10 < x9 then (if 0 ≤ x10 then (if x10 < (x8.length : Int) then ((impl_InRange.f ((rd_T62 x8 x10).f0) 1 20).bind fun t166 => (if t166 = true then ((impl_InRange.f ((rd_T62 x8 x10).f1) 0 99).bind fun t167 => (if t167 = true then (if x10 > 0 then (if 0 ≤ (wrap64 (x10 - 1)) then (if (wrap64 (x10 - 1)) < (x0.length : Int) then (if ((rd_T62 x8 x10).f0) ≤ ((rd_T62 x0 (wrap64 (x10 - 1))).f0) then (some false) else (impl_AreMarks.L0 x0 x8 x9 (wrap64 (x10 + 1)))) else (none)) else (none)) else (impl_AreMarks.L0 x0 x8 x9 (wrap64 (x10 + 1)))) else (some false))) else (some false))) else (none)) else (none)) else (some true)) := by
  refine Co.step (impl_AreMarks.L0_co x0 x8 x9 x10) (h := fun k => (if x10 < x9 then (if 0 ≤ x10 then (if x10 < (x8.length : Int) then ((impl_InRange.f ((rd_T62 x8 x10).f0) 1 20).bind fun t166 => (if t166 = true then ((impl_InRange.f ((rd_T62 x8 x10).f1) 0 99).bind fun t167 => (if t167 = true then (if x10 > 0 then (if 0 ≤ (wrap64 (x10 - 1)) then (if (wrap64 (x10 - 1)) < (x0.length : Int) then (if ((rd_T62 x8 x10).f0) ≤ ((rd_T62 x0 (wrap64 (x10 - 1))).f0) then (some false) else (impl_AreMarks.l0 k x0 x8 x9 (wrap64 (x10 + 1)))) else (none)) else (none)) else (impl_AreMarks.l0 k x0 x8 x9 (wrap64 (x10 + 1)))) else (some false))) else (some false))) else (none)) else (none)) else (some true))) (fun k => by first | rfl | (simp only [impl_AreMarks.l0])) ?_
  repeat' first
    | (with_reducible exact Co.const _)
    | (with_reducible exact impl_AreMarks.L0_co _ _ _ _)
    | (with_reducible refine Co.ite ?_ ?_)
    | (with_reducible refine Co.bind ?_ (fun _ => ?_))
theorem impl_AreMarks.F_eq (l0 : List (S62)) : impl_AreMarks.F l0 = (if (l0.length : Int) > 8 then (some false) else (impl_AreMarks.L0 l0 l0 (l0.length : Int) 0)) := by
  refine Co.same (impl_AreMarks.F_co l0) (h := fun k => (if (l0.length : Int) > 8 then (some false) else (impl_AreMarks.l0 k l0 l0 (l0.length : Int) 0))) (fun k => by first | rfl | unfold impl_AreMarks.f; rfl) ?_
  repeat' first
    | (with_reducible exact Co.const _)
    | (with_reducible exact impl_AreMarks.L0_co _ _ _ _)
    | (with_reducible refine Co.ite ?_ ?_)
    | (with_reducible refine Co.bind ?_ (fun _ => ?_))

noncomputable def impl_Hash.L0 (x3 : Int) (x6 : List Int) (x7 : Int) (x8 : Int) : Option (Int) := lim (fun k => impl_Hash.l0 k x3 x6 x7 x8)
theorem impl_Hash.L0_co (x3 : Int) (x6 : List Int) (x7 : Int) (x8 : Int) : Co (fun k => impl_Hash.l0 k x3 x6 x7 x8) (impl_Hash.L0 x3 x6 x7 x8) := Co.base (fun k => (impl_Hash.mono_l k) _ _ _ _)
noncomputable def impl_Hash.F (l0 : List Int) : Option (Int) := lim (fun k => impl_Hash.f k l0)
theorem impl_Hash.F_co (l0 : List Int) : Co (fun k => impl_Hash.f k l0) (impl_Hash.F l0) := Co.base (fun k => impl_Hash.mono _ k)
theorem impl_Hash.L0_eq (x3 : Int) (x6 : List Int) (x7 : Int) (x8 : Int) : impl_Hash.L0 x3 x6 x7 x8 = (if x8 < x7 then (if 0 ≤ x8 then (if x8 < (x6.length : Int) then ((impl_fold.f x3 (rd x6 x8)).bind fun t172 => (impl_Hash.L0 t172 x6 x7 (wrap64 (x8 + 1)))) else (none)) else (none)) else (some x3)) := by
  refine Co.step (impl_Hash.L0_co x3 x6 x7 x8) (h := fun k => (if x8 < x7 then (if 0 ≤ x8 then (if x8 < (x6.length : Int) then ((impl_fold.f x3 (rd x6 x8)).bind fun t172 => (impl_Hash.l0 k t172 x6 x7 (wrap64 (x8 + 1)))) else (none)) else (none)) else (some x3))) (fun k => by first | rfl | (simp only [impl_Hash.l0])) ?_
  repeat' first
    | (with_reducible exact Co.const _)
    | (with_reducible exact impl_Hash.L0_co _ _ _ _)
    | (with_reducible refine Co.ite ?_ ?_)
    | (with_reducible refine Co.bind ?_ (fun _ => ?_))
theorem impl_Hash.F_eq (l0 : List Int) : impl_Hash.F l0 = (impl_Hash.L0 11 l0 (l0.length : Int) 0) := by
  refine Co.same (impl_Hash.F_co l0) (h := fun k => (impl_Hash.l0 k 11 l0 (l0.length : Int) 0)) (fun k => by first | rfl | unfold impl_Hash.f; rfl) ?_
  repeat' first
    | (with_reducible exact Co.const _)
    | (with_reducible exact impl_Hash.L0_co _ _ _ _)
    | (with_reducible refine Co.ite ?_ ?_)
    | (with_reducible refine Co.bind ?_ (fun _ => ?_))

noncomputable def impl_QuestionFor.F (l0 : List (S62)) (a1 : Int) (a2 : Int) : Option (Int) := lim (fun k => impl_QuestionFor.f k l0 a1 a2)
theorem impl_QuestionFor.F_co (l0 : List (S62)) (a1 : Int) (a2 : Int) : Co (fun k => impl_QuestionFor.f k l0 a1 a2) (impl_QuestionFor.F l0 a1 a2) := Co.base (fun k => impl_QuestionFor.mono _ _ _ k)
theorem impl_QuestionFor.F_eq (l0 : List (S62)) (a1 : Int) (a2 : Int) : impl_QuestionFor.F l0 a1 a2 = (if (l0.length : Int) = 0 then (some 0) else ((impl_AreMarks.F l0).bind fun t173 => (if t173 = true then ((impl_InRange.f a2 0 1000).bind fun t174 => (if t174 = true then ((impl_Hash.F (([a1] : List Int))).bind fun t178 => (if 0 ≤ (Int.tmod (wrap64 ((Int.tmod t178 (l0.length : Int)) + a2)) (l0.length : Int)) then (if (Int.tmod (wrap64 ((Int.tmod t178 (l0.length : Int)) + a2)) (l0.length : Int)) < (l0.length : Int) then (some ((rd_T62 l0 (Int.tmod (wrap64 ((Int.tmod t178 (l0.length : Int)) + a2)) (l0.length : Int))).f0)) else (none)) else (none))) else (some 0))) else (some 0)))) := by
  refine Co.same (impl_QuestionFor.F_co l0 a1 a2) (h := fun k => (if (l0.length : Int) = 0 then (some 0) else ((impl_AreMarks.f k l0).bind fun t173 => (if t173 = true then ((impl_InRange.f a2 0 1000).bind fun t174 => (if t174 = true then ((impl_Hash.f k (([a1] : List Int))).bind fun t178 => (if 0 ≤ (Int.tmod (wrap64 ((Int.tmod t178 (l0.length : Int)) + a2)) (l0.length : Int)) then (if (Int.tmod (wrap64 ((Int.tmod t178 (l0.length : Int)) + a2)) (l0.length : Int)) < (l0.length : Int) then (some ((rd_T62 l0 (Int.tmod (wrap64 ((Int.tmod t178 (l0.length : Int)) + a2)) (l0.length : Int))).f0)) else (none)) else (none))) else (some 0))) else (some 0))))) (fun k => by first | rfl | unfold impl_QuestionFor.f; rfl) ?_
  repeat' first
    | (with_reducible exact Co.const _)
    | (with_reducible exact impl_AreMarks.F_co _)
    | (with_reducible exact impl_Hash.F_co _)
    | (with_reducible refine Co.ite ?_ ?_)
    | (with_reducible refine Co.bind ?_ (fun _ => ?_))

noncomputable def impl_TrialState.J0 (x0 : List (S62)) (x5 : Bool) (x185000 : Int) (x185001 : Int) (x185002 : Int) (x185003 : Int) : Option (Int) := lim (fun k => impl_TrialState.j0 k x0 x5 x185000 x185001 x185002 x185003)
theorem impl_TrialState.J0_co (x0 : List (S62)) (x5 : Bool) (x185000 : Int) (x185001 : Int) (x185002 : Int) (x185003 : Int) : Co (fun k => impl_TrialState.j0 k x0 x5 x185000 x185001 x185002 x185003) (impl_TrialState.J0 x0 x5 x185000 x185001 x185002 x185003) := Co.base (fun k => (impl_TrialState.mono_l k) _ _ _ _ _ _)
noncomputable def impl_TrialState.F (l0 : List (S62)) (a1_0 : Int) (a1_1 : Int) (a1_2 : Int) (a1_3 : Int) : Option (Int) := lim (fun k => impl_TrialState.f k l0 a1_0 a1_1 a1_2 a1_3)
theorem impl_TrialState.F_co (l0 : List (S62)) (a1_0 : Int) (a1_1 : Int) (a1_2 : Int) (a1_3 : Int) : Co (fun k => impl_TrialState.f k l0 a1_0 a1_1 a1_2 a1_3) (impl_TrialState.F l0 a1_0 a1_1 a1_2 a1_3) := Co.base (fun k => impl_TrialState.mono _ _ _ _ _ k)
theorem impl_TrialState.J0_eq (x0 : List (S62)) (x5 : Bool) (x185000 : Int) (x185001 : Int) (x185002 : Int) (x185003 : Int) : impl_TrialState.J0 x0 x5 x185000 x185001 x185002 x185003 = (if x5 = true then (some 2) else (if (x0.length : Int) > 0 then ((impl_NeedFor.f x0).bind fun t187 => (if x185002 ≥ t187 then (some 1) else (some 0))) else (some 0))) := by
  refine Co.step (impl_TrialState.J0_co x0 x5 x185000 x185001 x185002 x185003) (h := fun k => (if x5 = true then (some 2) else (if (x0.length : Int) > 0 then ((impl_NeedFor.f x0).bind fun t187 => (if x185002 ≥ t187 then (some 1) else (some 0))) else (some 0)))) (fun k => by first | rfl | (simp only [impl_TrialState.j0])) ?_
  repeat' first
    | (with_reducible exact Co.const _)
    | (with_reducible refine Co.ite ?_ ?_)
    | (with_reducible refine Co.bind ?_ (fun _ => ?_))
theorem impl_TrialState.F_eq (l0 : List (S62)) (a1_0 : Int) (a1_1 : Int) (a1_2 : Int) (a1_3 : Int) : impl_TrialState.F l0 a1_0 a1_1 a1_2 a1_3 = ((impl_IsTrial.f a1_0 a1_1 a1_2 a1_3).bind fun t185 => (if t185 = true then ((impl_AreMarks.F l0).bind fun t186 => (if t186 = true then (impl_TrialState.J0 l0 (decide (a1_3 > 1)) a1_0 a1_1 a1_2 a1_3) else (impl_TrialState.J0 l0 true a1_0 a1_1 a1_2 a1_3))) else (impl_TrialState.J0 l0 true a1_0 a1_1 a1_2 a1_3))) := by
  refine Co.same (impl_TrialState.F_co l0 a1_0 a1_1 a1_2 a1_3) (h := fun k => ((impl_IsTrial.f a1_0 a1_1 a1_2 a1_3).bind fun t185 => (if t185 = true then ((impl_AreMarks.f k l0).bind fun t186 => (if t186 = true then (impl_TrialState.j0 k l0 (decide (a1_3 > 1)) a1_0 a1_1 a1_2 a1_3) else (impl_TrialState.j0 k l0 true a1_0 a1_1 a1_2 a1_3))) else (impl_TrialState.j0 k l0 true a1_0 a1_1 a1_2 a1_3)))) (fun k => by first | rfl | unfold impl_TrialState.f; rfl) ?_
  repeat' first
    | (with_reducible exact Co.const _)
    | (with_reducible exact impl_AreMarks.F_co _)
    | (with_reducible exact impl_TrialState.J0_co _ _ _ _ _ _)
    | (with_reducible refine Co.ite ?_ ?_)
    | (with_reducible refine Co.bind ?_ (fun _ => ?_))

noncomputable def impl_NextQuestion.F (l0 : List (S62)) (a1_0 : Int) (a1_1 : Int) (a1_2 : Int) (a1_3 : Int) : Option (Int) := lim (fun k => impl_NextQuestion.f k l0 a1_0 a1_1 a1_2 a1_3)
theorem impl_NextQuestion.F_co (l0 : List (S62)) (a1_0 : Int) (a1_1 : Int) (a1_2 : Int) (a1_3 : Int) : Co (fun k => impl_NextQuestion.f k l0 a1_0 a1_1 a1_2 a1_3) (impl_NextQuestion.F l0 a1_0 a1_1 a1_2 a1_3) := Co.base (fun k => impl_NextQuestion.mono _ _ _ _ _ k)
theorem impl_NextQuestion.F_eq (l0 : List (S62)) (a1_0 : Int) (a1_1 : Int) (a1_2 : Int) (a1_3 : Int) : impl_NextQuestion.F l0 a1_0 a1_1 a1_2 a1_3 = ((impl_TrialState.F l0 a1_0 a1_1 a1_2 a1_3).bind fun t189 => (if t189 = 0 then ((impl_QuestionFor.F l0 a1_0 a1_1).bind fun t190 => (some t190)) else (some 0))) := by
  refine Co.same (impl_NextQuestion.F_co l0 a1_0 a1_1 a1_2 a1_3) (h := fun k => ((impl_TrialState.f k l0 a1_0 a1_1 a1_2 a1_3).bind fun t189 => (if t189 = 0 then ((impl_QuestionFor.f k l0 a1_0 a1_1).bind fun t190 => (some t190)) else (some 0)))) (fun k => by first | rfl | unfold impl_NextQuestion.f; rfl) ?_
  repeat' first
    | (with_reducible exact Co.const _)
    | (with_reducible exact impl_QuestionFor.F_co _ _ _)
    | (with_reducible exact impl_TrialState.F_co _ _ _ _ _)
    | (with_reducible refine Co.ite ?_ ?_)
    | (with_reducible refine Co.bind ?_ (fun _ => ?_))

noncomputable def impl_GiveAnswer.F (l0 : List (S62)) (a1_0 : Int) (a1_1 : Int) (a1_2 : Int) (a1_3 : Int) (a2 : Int) : Option (Int × Int × Int × Int × Bool) := lim (fun k => impl_GiveAnswer.f k l0 a1_0 a1_1 a1_2 a1_3 a2)
theorem impl_GiveAnswer.F_co (l0 : List (S62)) (a1_0 : Int) (a1_1 : Int) (a1_2 : Int) (a1_3 : Int) (a2 : Int) : Co (fun k => impl_GiveAnswer.f k l0 a1_0 a1_1 a1_2 a1_3 a2) (impl_GiveAnswer.F l0 a1_0 a1_1 a1_2 a1_3 a2) := Co.base (fun k => impl_GiveAnswer.mono _ _ _ _ _ _ k)
theorem impl_GiveAnswer.F_eq (l0 : List (S62)) (a1_0 : Int) (a1_1 : Int) (a1_2 : Int) (a1_3 : Int) (a2 : Int) : impl_GiveAnswer.F l0 a1_0 a1_1 a1_2 a1_3 a2 = ((impl_NextQuestion.F l0 a1_0 a1_1 a1_2 a1_3).bind fun t193 => (if t193 = 0 then (some (a1_0, a1_1, a1_2, a1_3, false)) else ((impl_AnswerOf.F l0 t193).bind fun t194 => (if t194 = a2 then (some (a1_0, wrap64 (a1_1 + 1), wrap64 (a1_2 + 1), a1_3, true)) else (some (a1_0, wrap64 (a1_1 + 1), a1_2, wrap64 (a1_3 + 1), true)))))) := by
  refine Co.same (impl_GiveAnswer.F_co l0 a1_0 a1_1 a1_2 a1_3 a2) (h := fun k => ((impl_NextQuestion.f k l0 a1_0 a1_1 a1_2 a1_3).bind fun t193 => (if t193 = 0 then (some (a1_0, a1_1, a1_2, a1_3, false)) else ((impl_AnswerOf.f k l0 t193).bind fun t194 => (if t194 = a2 then (some (a1_0, wrap64 (a1_1 + 1), wrap64 (a1_2 + 1), a1_3, true)) else (some (a1_0, wrap64 (a1_1 + 1), a1_2, wrap64 (a1_3 + 1), true))))))) (fun k => by first | rfl | unfold impl_GiveAnswer.f; rfl) ?_
  repeat' first
    | (with_reducible exact Co.const _)
    | (with_reducible exact impl_AnswerOf.F_co _ _)
    | (with_reducible exact impl_NextQuestion.F_co _ _ _ _ _)
    | (with_reducible refine Co.ite ?_ ?_)
    | (with_reducible refine Co.bind ?_ (fun _ => ?_))

noncomputable def impl_AnswerAll.L0 (x0 : List (S62)) (x9 : List Int) (x10 : Int) (x11 : Int) (x196000 : Int) (x196001 : Int) (x196002 : Int) (x196003 : Int) : Option (Int × Int × Int × Int) := lim (fun k => impl_AnswerAll.l0 k x0 x9 x10 x11 x196000 x196001 x196002 x196003)
theorem impl_AnswerAll.L0_co (x0 : List (S62)) (x9 : List Int) (x10 : Int) (x11 : Int) (x196000 : Int) (x196001 : Int) (x196002 : Int) (x196003 : Int) : Co (fun k => impl_AnswerAll.l0 k x0 x9 x10 x11 x196000 x196001 x196002 x196003) (impl_AnswerAll.L0 x0 x9 x10 x11 x196000 x196001 x196002 x196003) := Co.base (fun k => (impl_AnswerAll.mono_l k) _ _ _ _ _ _ _ _)
noncomputable def impl_AnswerAll.F (l0 : List (S62)) (a1_0 : Int) (a1_1 : Int) (a1_2 : Int) (a1_3 : Int) (l2 : List Int) : Option (Int × Int × Int × Int) := lim (fun k => impl_AnswerAll.f k l0 a1_0 a1_1 a1_2 a1_3 l2)
theorem impl_AnswerAll.F_co (l0 : List (S62)) (a1_0 : Int) (a1_1 : Int) (a1_2 : Int) (a1_3 : Int) (l2 : List Int) : Co (fun k => impl_AnswerAll.f k l0 a1_0 a1_1 a1_2 a1_3 l2) (impl_AnswerAll.F l0 a1_0 a1_1 a1_2 a1_3 l2) := Co.base (fun k => impl_AnswerAll.mono _ _ _ _ _ _ k)
theorem impl_AnswerAll.L0_eq (x0 : List (S62)) (x9 : List Int) (x10 : Int) (x11 : Int) (x196000 : Int) (x196001 : Int) (x196002 : Int) (x196003 : Int) : impl_AnswerAll.L0 x0 x9 x10 x11 x196000 x196001 x196002 x196003 = (if x11 < x10 then (if 0 ≤ x11 then (if x11 < (x9.length : Int) then ((impl_GiveAnswer.F x0 x196000 x196001 x196002 x196003 (rd x9 x11)).bind fun bt198 => (impl_AnswerAll.L0 x0 x9 x10 (wrap64 (x11 + 1)) bt198.1 bt198.2.1 bt198.2.2.1 bt198.2.2.2.1)) else (none)) else (none)) else (some (x196000, x196001, x196002, x196003))) := by
  refine Co.step (impl_AnswerAll.L0_co x0 x9 x10 x11 x196000 x196001 x196002 x196003) (h := fun k => (if x11 < x10 then (if 0 ≤ x11 then (if x11 < (x9.length : Int) then ((impl_GiveAnswer.f k x0 x196000 x196001 x196002 x196003 (rd x9 x11)).bind fun bt198 => (impl_AnswerAll.l0 k x0 x9 x10 (wrap64 (x11 + 1)) bt198.1 bt198.2.1 bt198.2.2.1 bt198.2.2.2.1)) else (none)) else (none)) else (some (x196000, x196001, x196002, x196003)))) (fun k => by first | rfl | (simp only [impl_AnswerAll.l0])) ?_
  repeat' first
    | (with_reducible exact Co.const _)
    | (with_reducible exact impl_AnswerAll.L0_co _ _ _ _ _ _ _ _)
    | (with_reducible exact impl_GiveAnswer.F_co _ _ _ _ _ _)
    | (with_reducible refine Co.ite ?_ ?_)
    | (with_reducible refine Co.bind ?_ (fun _ => ?_))
theorem impl_AnswerAll.F_eq (l0 : List (S62)) (a1_0 : Int) (a1_1 : Int) (a1_2 : Int) (a1_3 : Int) (l2 : List Int) : impl_AnswerAll.F l0 a1_0 a1_1 a1_2 a1_3 l2 = (impl_AnswerAll.L0 l0 l2 (l2.length : Int) 0 a1_0 a1_1 a1_2 a1_3) := by
  refine Co.same (impl_AnswerAll.F_co l0 a1_0 a1_1 a1_2 a1_3 l2) (h := fun k => (impl_AnswerAll.l0 k l0 l2 (l2.length : Int) 0 a1_0 a1_1 a1_2 a1_3)) (fun k => by first | rfl | unfold impl_AnswerAll.f; rfl) ?_
  repeat' first
    | (with_reducible exact Co.const _)
    | (with_reducible exact impl_AnswerAll.L0_co _ _ _ _ _ _ _ _)
    | (with_reducible refine Co.ite ?_ ?_)
    | (with_reducible refine Co.bind ?_ (fun _ => ?_))

noncomputable def laws_eqMarkS.L0 (x0 : List (S62)) (x1 : List (S62)) (x5 : Int) : Option (Bool) := lim (fun k => laws_eqMarkS.l0 k x0 x1 x5)
theorem laws_eqMarkS.L0_co (x0 : List (S62)) (x1 : List (S62)) (x5 : Int) : Co (fun k => laws_eqMarkS.l0 k x0 x1 x5) (laws_eqMarkS.L0 x0 x1 x5) := Co.base (fun k => (laws_eqMarkS.mono_l k) _ _ _)
noncomputable def laws_eqMarkS.F (l0 : List (S62)) (l1 : List (S62)) : Option (Bool) := lim (fun k => laws_eqMarkS.f k l0 l1)
theorem laws_eqMarkS.F_co (l0 : List (S62)) (l1 : List (S62)) : Co (fun k => laws_eqMarkS.f k l0 l1) (laws_eqMarkS.F l0 l1) := Co.base (fun k => laws_eqMarkS.mono _ _ k)
theorem laws_eqMarkS.L0_eq (x0 : List (S62)) (x1 : List (S62)) (x5 : Int) : laws_eqMarkS.L0 x0 x1 x5 = (if x5 < (x0.length : Int) then (if 0 ≤ x5 then (if x5 < (x1.length : Int) then ((laws_eqMark.f ((rd_T62 x0 x5).f0) ((rd_T62 x0 x5).f1) ((rd_T62 x1 x5).f0) ((rd_T62 x1 x5).f1)).bind fun t209 => (if t209 = true then (laws_eqMarkS.L0 x0 x1 (wrap64 (x5 + 1))) else (some false))) else (none)) else (none)) else (some true)) := by
  refine Co.step (laws_eqMarkS.L0_co x0 x1 x5) (h := fun k => (if x5 < (x0.length : Int) then (if 0 ≤ x5 then (if x5 < (x1.length : Int) then ((laws_eqMark.f ((rd_T62 x0 x5).f0) ((rd_T62 x0 x5).f1) ((rd_T62 x1 x5).f0) ((rd_T62 x1 x5).f1)).bind fun t209 => (if t209 = true then (laws_eqMarkS.l0 k x0 x1 (wrap64 (x5 + 1))) else (some false))) else (none)) else (none)) else (some true))) (fun k => by first | rfl | (simp only [laws_eqMarkS.l0])) ?_
  repeat' first
    | (with_reducible exact Co.const _)
    | (with_reducible exact laws_eqMarkS.L0_co _ _ _)
    | (with_reducible refine Co.ite ?_ ?_)
    | (with_reducible refine Co.bind ?_ (fun _ => ?_))
theorem laws_eqMarkS.F_eq (l0 : List (S62)) (l1 : List (S62)) : laws_eqMarkS.F l0 l1 = (if (l0.length : Int) = (l1.length : Int) then (laws_eqMarkS.L0 l0 l1 0) else (some false)) := by
  refine Co.same (laws_eqMarkS.F_co l0 l1) (h := fun k => (if (l0.length : Int) = (l1.length : Int) then (laws_eqMarkS.l0 k l0 l1 0) else (some false))) (fun k => by first | rfl | unfold laws_eqMarkS.f; rfl) ?_
  repeat' first
    | (with_reducible exact Co.const _)
    | (with_reducible exact laws_eqMarkS.L0_co _ _ _)
    | (with_reducible refine Co.ite ?_ ?_)
    | (with_reducible refine Co.bind ?_ (fun _ => ?_))

noncomputable def laws_eqIntS.L0 (x0 : List Int) (x1 : List Int) (x5 : Int) : Option (Bool) := lim (fun k => laws_eqIntS.l0 k x0 x1 x5)
theorem laws_eqIntS.L0_co (x0 : List Int) (x1 : List Int) (x5 : Int) : Co (fun k => laws_eqIntS.l0 k x0 x1 x5) (laws_eqIntS.L0 x0 x1 x5) := Co.base (fun k => (laws_eqIntS.mono_l k) _ _ _)
noncomputable def laws_eqIntS.F (l0 : List Int) (l1 : List Int) : Option (Bool) := lim (fun k => laws_eqIntS.f k l0 l1)
theorem laws_eqIntS.F_co (l0 : List Int) (l1 : List Int) : Co (fun k => laws_eqIntS.f k l0 l1) (laws_eqIntS.F l0 l1) := Co.base (fun k => laws_eqIntS.mono _ _ k)
theorem laws_eqIntS.L0_eq (x0 : List Int) (x1 : List Int) (x5 : Int) : laws_eqIntS.L0 x0 x1 x5 = (if x5 < (x0.length : Int) then (if 0 ≤ x5 then (if x5 < (x1.length : Int) then (if (rd x0 x5) = (rd x1 x5) then (laws_eqIntS.L0 x0 x1 (wrap64 (x5 + 1))) else (some false)) else (none)) else (none)) else (some true)) := by
  refine Co.step (laws_eqIntS.L0_co x0 x1 x5) (h := fun k => (if x5 < (x0.length : Int) then (if 0 ≤ x5 then (if x5 < (x1.length : Int) then (if (rd x0 x5) = (rd x1 x5) then (laws_eqIntS.l0 k x0 x1 (wrap64 (x5 + 1))) else (some false)) else (none)) else (none)) else (some true))) (fun k => by first | rfl | (simp only [laws_eqIntS.l0])) ?_
  repeat' first
    | (with_reducible exact Co.const _)
    | (with_reducible exact laws_eqIntS.L0_co _ _ _)
    | (with_reducible refine Co.ite ?_ ?_)
    | (with_reducible refine Co.bind ?_ (fun _ => ?_))
theorem laws_eqIntS.F_eq (l0 : List Int) (l1 : List Int) : laws_eqIntS.F l0 l1 = (if (l0.length : Int) = (l1.length : Int) then (laws_eqIntS.L0 l0 l1 0) else (some false)) := by
  refine Co.same (laws_eqIntS.F_co l0 l1) (h := fun k => (if (l0.length : Int) = (l1.length : Int) then (laws_eqIntS.l0 k l0 l1 0) else (some false))) (fun k => by first | rfl | unfold laws_eqIntS.f; rfl) ?_
  repeat' first
    | (with_reducible exact Co.const _)
    | (with_reducible exact laws_eqIntS.L0_co _ _ _)
    | (with_reducible refine Co.ite ?_ ?_)
    | (with_reducible refine Co.bind ?_ (fun _ => ?_))

noncomputable def laws_FnExactAnswerAll.F (l0 : List (S145)) (a1_0 : Int) (a1_1 : Int) (a1_2 : Int) (a1_3 : Int) (l2 : List Int) : Option (Bool) := lim (fun k => laws_FnExactAnswerAll.f k l0 a1_0 a1_1 a1_2 a1_3 l2)
theorem laws_FnExactAnswerAll.F_co (l0 : List (S145)) (a1_0 : Int) (a1_1 : Int) (a1_2 : Int) (a1_3 : Int) (l2 : List Int) : Co (fun k => laws_FnExactAnswerAll.f k l0 a1_0 a1_1 a1_2 a1_3 l2) (laws_FnExactAnswerAll.F l0 a1_0 a1_1 a1_2 a1_3 l2) := Co.base (fun k => laws_FnExactAnswerAll.mono _ _ _ _ _ _ k)
theorem laws_FnExactAnswerAll.F_eq (l0 : List (S145)) (a1_0 : Int) (a1_1 : Int) (a1_2 : Int) (a1_3 : Int) (l2 : List Int) : laws_FnExactAnswerAll.F l0 a1_0 a1_1 a1_2 a1_3 l2 = (if (l2.length : Int) > 1048576 then (some true) else ((laws_szMarkS.f l0 1048576).bind fun t213 => (if t213 < 0 then (some true) else ((laws_toMarkS.F l0).bind fun t214 => ((laws_toTrial.f a1_0 a1_1 a1_2 a1_3).bind fun bt217 => ((laws_toIntS.F l2).bind fun t221 => ((spec_AnswerAll.F t214 bt217.1 bt217.2.1 bt217.2.2.1 bt217.2.2.2 t221).bind fun bt224 => ((laws_toMarkS.F l0).bind fun t229 => ((laws_toIntS.F l2).bind fun t232 => ((laws_toTrial.f a1_0 a1_1 a1_2 a1_3).bind fun bt235 => ((impl_AnswerAll.F t229 bt235.1 bt235.2.1 bt235.2.2.1 bt235.2.2.2 t232).bind fun bt239 => ((laws_eqTrial.f bt239.1 bt239.2.1 bt239.2.2.1 bt239.2.2.2 bt224.1 bt224.2.1 bt224.2.2.1 bt224.2.2.2).bind fun t244 => (if t244 = true then ((laws_toMarkS.F l0).bind fun t245 => ((laws_eqMarkS.F t229 t245).bind fun t248 => (if t248 = true then ((laws_toIntS.F l2).bind fun t249 => ((laws_eqIntS.F t232 t249).bind fun t252 => (if t252 = true then (some true) else (some false)))) else (some false)))) else (some false)))))))))))))) := by
  refine Co.same (laws_FnExactAnswerAll.F_co l0 a1_0 a1_1 a1_2 a1_3 l2) (h := fun k => (if (l2.length : Int) > 1048576 then (some true) else ((laws_szMarkS.f l0 1048576).bind fun t213 => (if t213 < 0 then (some true) else ((laws_toMarkS.f k l0).bind fun t214 => ((laws_toTrial.f a1_0 a1_1 a1_2 a1_3).bind fun bt217 => ((laws_toIntS.f k l2).bind fun t221 => ((spec_AnswerAll.f k t214 bt217.1 bt217.2.1 bt217.2.2.1 bt217.2.2.2 t221).bind fun bt224 => ((laws_toMarkS.f k l0).bind fun t229 => ((laws_toIntS.f k l2).bind fun t232 => ((laws_toTrial.f a1_0 a1_1 a1_2 a1_3).bind fun bt235 => ((impl_AnswerAll.f k t229 bt235.1 bt235.2.1 bt235.2.2.1 bt235.2.2.2 t232).bind fun bt239 => ((laws_eqTrial.f bt239.1 bt239.2.1 bt239.2.2.1 bt239.2.2.2 bt224.1 bt224.2.1 bt224.2.2.1 bt224.2.2.2).bind fun t244 => (if t244 = true then ((laws_toMarkS.f k l0).bind fun t245 => ((laws_eqMarkS.f k t229 t245).bind fun t248 => (if t248 = true then ((laws_toIntS.f k l2).bind fun t249 => ((laws_eqIntS.f k t232 t249).bind fun t252 => (if t252 = true then (some true) else (some false)))) else (some false)))) else (some false))))))))))))))) (fun k => by first | rfl | unfold laws_FnExactAnswerAll.f; rfl) ?_
  repeat' first
    | (with_reducible exact Co.const _)
    | (with_reducible exact impl_AnswerAll.F_co _ _ _ _ _ _)
    | (with_reducible exact laws_eqIntS.F_co _ _)
    | (with_reducible exact laws_eqMarkS.F_co _ _)
    | (with_reducible exact laws_toIntS.F_co _)
    | (with_reducible exact laws_toMarkS.F_co _)
    | (with_reducible exact spec_AnswerAll.F_co _ _ _ _ _ _)
    | (with_reducible refine Co.ite ?_ ?_)
    | (with_reducible refine Co.bind ?_ (fun _ => ?_))

end Go.Proofs.Ytppgealmedaihaa.PFnExactAnswerAll.Pure
