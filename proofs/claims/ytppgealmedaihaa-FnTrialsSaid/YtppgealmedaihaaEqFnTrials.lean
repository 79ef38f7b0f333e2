/-
  The printed functions that this law reaches, their rounds used up, and the equations that they meet.
-/
import Derived.Test.YtppgealmedaihaaPFnTrialsx10
import Derived.Test.YtppgealmedaihaaPFnTrialsx11
import Derived.Test.YtppgealmedaihaaPFnTrialsx2
import Derived.Test.YtppgealmedaihaaPFnTrialsx3
import Derived.Test.YtppgealmedaihaaPFnTrialsx4
import Derived.Test.YtppgealmedaihaaPFnTrialsx5
import Derived.Test.YtppgealmedaihaaPFnTrialsx6
import Derived.Test.YtppgealmedaihaaPFnTrialsx7
import Derived.Test.YtppgealmedaihaaPFnTrialsx8
import Derived.Test.YtppgealmedaihaaPFnTrialsx9
import Derived.Test.YtppgealmedaihaaLim
namespace Go.Proofs.Ytppgealmedaihaa.PFnTrials.Pure
open Go.RowKit Go.Proofs.YtppgealmedaihaaW.PrintWords Go.Proofs.YtppgealmedaihaaW.PrintLast Go.Proofs.YtppgealmedaihaaW.PrintMore Go.Proofs.Ytppgealmedaihaa.PFnTrials Go.Proofs.Ytppgealmedaihaa.Lim
set_option linter.unusedVariables false
set_option maxRecDepth 100000

noncomputable def impl_AnswerOf.L0 (x1 : Int) (x7 : List (S62)) (x8 : Int) (x9 : Int) : Option (Int) := lim (fun k => impl_AnswerOf.l0 k x1 x7 x8 x9)
theorem impl_AnswerOf.L0_co (x1 : Int) (x7 : List (S62)) (x8 : Int) (x9 : Int) : Co (fun k => impl_AnswerOf.l0 k x1 x7 x8 x9) (impl_AnswerOf.L0 x1 x7 x8 x9) := Co.base (fun k => (impl_AnswerOf.mono_l k) _ _ _ _)
noncomputable def impl_AnswerOf.F (l0 : List (S62)) (a1 : Int) : Option (Int) := lim (fun k => impl_AnswerOf.f k l0 a1)
theorem impl_AnswerOf.F_co (l0 : List (S62)) (a1 : Int) : Co (fun k => impl_AnswerOf.f k l0 a1) (impl_AnswerOf.F l0 a1) := Co.base (fun k => impl_AnswerOf.mono _ _ k)
theorem impl_AnswerOf.L0_eq (x1 : Int) (x7 : List (S62)) (x8 : Int) (x9 : Int) : impl_AnswerOf.L0 x1 x7 x8 x9 = (if x9 < x8 then (if 0 ≤ x9 then (if x9 < (x7.length : Int) then (if ((rd_T62 x7 x9).f0) = x1 then (some ((rd_T62 x7 x9).f1)) else (impl_AnswerOf.L0 x1 x7 x8 (wrap64 (x9 + 1)))) else (none)) else (none)) else (some (-1))) := by
  refine Co.step (impl_AnswerOf.L0_co x1 x7 x8 x9) (h := fun k => (if x9 < x8 then (if 0 ≤ x9 then (if x9 < (x7.length : Int) then (if ((rd_T62 x7 x9).f0) = x1 then (some ((rd_T62 x7 x9).f1)) else (impl_AnswerOf.l0 k x1 x7 x8 (wrap64 (x9 + 1)))) else (none)) else (none)) else (some (-1)))) (fun k => by first | rfl | (simp only [impl_AnswerOf.l0])) ?_
  repeat' first
    | (with_reducible exact Co.const _)
    | (with_reducible exact impl_AnswerOf.L0_co _ _ _ _)
    | (with_reducible refine Co.ite ?_ ?_)
    | (with_reducible refine Co.bind ?_ (fun _ => ?_))
theorem impl_AnswerOf.F_eq (l0 : List (S62)) (a1 : Int) : impl_AnswerOf.F l0 a1 = (impl_AnswerOf.L0 a1 l0 (l0.length : Int) 0) := by
  refine Co.same (impl_AnswerOf.F_co l0 a1) (h := fun k => (impl_AnswerOf.l0 k a1 l0 (l0.length : Int) 0)) (fun k => by first | rfl | unfold impl_AnswerOf.f; rfl) ?_
  repeat' first
    | (with_reducible exact Co.const _)
    | (with_reducible exact impl_AnswerOf.L0_co _ _ _ _)
    | (with_reducible refine Co.ite ?_ ?_)
    | (with_reducible refine Co.bind ?_ (fun _ => ?_))

noncomputable def impl_AreMarks.L0 (x0 : List (S62)) (x8 : List (S62)) (x9 : Int) (x10 : Int) : Option (Bool) := lim (fun k => impl_AreMarks.l0 k x0 x8 x9 x10)
theorem impl_AreMarks.L0_co (x0 : List (S62)) (x8 : List (S62)) (x9 : Int) (x10 : Int) : Co (fun k => impl_AreMarks.l0 k x0 x8 x9 x10) (impl_AreMarks.L0 x0 x8 x9 x10) := Co.base (fun k => (impl_AreMarks.mono_l k) _ _ _ _)
noncomputable def impl_AreMarks.F (l0 : List (S62)) : Option (Bool) := lim (fun k => impl_AreMarks.f k l0)
theorem impl_AreMarks.F_co (l0 : List (S62)) : Co (fun k => impl_AreMarks.f k l0) (impl_AreMarks.F l0) := Co.base (fun k => impl_AreMarks.mono _ k)
theorem impl_AreMarks.L0_eq (x0 : List (S62)) (x8 : List (S62)) (x9 : Int) (x10 : Int) : impl_AreMarks.L0 x0 x8 x9 x10 = (if x10 < x9 then (if 0 ≤ x10 then (if x10 < (x8.length : Int) then ((impl_InRange.f ((rd_T62 x8 x10).f0) 1 20).bind fun t105 => (if t105 = true then ((impl_InRange.f ((rd_T62 x8 x10).f1) 0 99).bind fun t106 => (if t106 = true then (if x10 > 0 then (if 0 ≤ (wrap64 (x10 - 1)) then (if (wrap64 (x10 - 1)) < (x0.length : Int) then (if ((rd_T62 x8 x10).f0) ≤ ((rd_T62 x0 (wrap64 (x10 - 1))).f0) then (some false) else (impl_AreMarks.L0 x0 x8 x9 (wrap64 (x10 + 1)))) else (none)) else (none)) else (impl_AreMarks.L0 x0 x8 x9 (wrap64 (x10 + 1)))) else (some false))) else (some false))) else (none)) else (none)) else (some true)) := by
  refine Co.step (impl_AreMarks.L0_co x0 x8 x9 x10) (h := fun k => (if x10 < x9 then (if 0 ≤ x10 then (if x10 < (x8.length : Int) then ((impl_InRange.f ((rd_T62 x8 x10).f0) 1 20).bind fun t105 => (if t105 = true then ((impl_InRange.f ((rd_T62 x8 x10).f1) 0 99).bind fun t106 => (if t106 = true then (if x10 > 0 then (if 0 ≤ (wrap64 (x10 - 1)) then (if (wrap64 (x10 - 1)) < (x0.length : Int) then (if ((rd_T62 x8 x10).f0) ≤ ((rd_T62 x0 (wrap64 (x10 - 1))).f0) then (some false) else (impl_AreMarks.l0 k x0 x8 x9 (wrap64 (x10 + 1)))) else (none)) else (none)) else (impl_AreMarks.l0 k x0 x8 x9 (wrap64 (x10 + 1)))) else (some false))) else (some false))) else (none)) else (none)) else (some true))) (fun k => by first | rfl | (simp only [impl_AreMarks.l0])) ?_
  repeat' first
    | (with_reducible exact Co.const _)
    | (with_reducible exact impl_AreMarks.L0_co _ _ _ _)
    | (with_reducible refine Co.ite ?_ ?_)
    | (with_reducible refine Co.bind ?_ (fun _ => ?_))
theorem impl_AreMarks.F_eq (l0 : List (S62)) : impl_AreMarks.F l0 = (if (l0.length : Int) > 8 then (some false) else (impl_AreMarks.L0 l0 l0 (l0.length : Int) 0)) := by
  refine Co.same (impl_AreMarks.F_co l0) (h := fun k => (if (l0.length : Int) > 8 then (some false) else (impl_AreMarks.l0 k l0 l0 (l0.length : Int) 0))) (fun k => by first | rfl | unfold impl_AreMarks.f; rfl) ?_
  repeat' first
    | (with_reducible exact Co.const _)
    | (with_reducible exact impl_AreMarks.L0_co _ _ _ _)
    | (with_reducible refine Co.ite ?_ ?_)
    | (with_reducible refine Co.bind ?_ (fun _ => ?_))

noncomputable def impl_Hash.L0 (x3 : Int) (x6 : List Int) (x7 : Int) (x8 : Int) : Option (Int) := lim (fun k => impl_Hash.l0 k x3 x6 x7 x8)
theorem impl_Hash.L0_co (x3 : Int) (x6 : List Int) (x7 : Int) (x8 : Int) : Co (fun k => impl_Hash.l0 k x3 x6 x7 x8) (impl_Hash.L0 x3 x6 x7 x8) := Co.base (fun k => (impl_Hash.mono_l k) _ _ _ _)
noncomputable def impl_Hash.F (l0 : List Int) : Option (Int) := lim (fun k => impl_Hash.f k l0)
theorem impl_Hash.F_co (l0 : List Int) : Co (fun k => impl_Hash.f k l0) (impl_Hash.F l0) := Co.base (fun k => impl_Hash.mono _ k)
theorem impl_Hash.L0_eq (x3 : Int) (x6 : List Int) (x7 : Int) (x8 : Int) : impl_Hash.L0 x3 x6 x7 x8 = (if x8 < x7 then (if 0 ≤ x8 then (if x8 < (x6.length : Int) then ((impl_fold.f x3 (rd x6 x8)).bind fun t111 => (impl_Hash.L0 t111 x6 x7 (wrap64 (x8 + 1)))) else (none)) else (none)) else (some x3)) := by
  refine Co.step (impl_Hash.L0_co x3 x6 x7 x8) (h := fun k => (if x8 < x7 then (if 0 ≤ x8 then (if x8 < (x6.length : Int) then ((impl_fold.f x3 (rd x6 x8)).bind fun t111 => (impl_Hash.l0 k t111 x6 x7 (wrap64 (x8 + 1)))) else (none)) else (none)) else (some x3))) (fun k => by first | rfl | (simp only [impl_Hash.l0])) ?_
  repeat' first
    | (with_reducible exact Co.const _)
    | (with_reducible exact impl_Hash.L0_co _ _ _ _)
    | (with_reducible refine Co.ite ?_ ?_)
    | (with_reducible refine Co.bind ?_ (fun _ => ?_))
theorem impl_Hash.F_eq (l0 : List Int) : impl_Hash.F l0 = (impl_Hash.L0 11 l0 (l0.length : Int) 0) := by
  refine Co.same (impl_Hash.F_co l0) (h := fun k => (impl_Hash.l0 k 11 l0 (l0.length : Int) 0)) (fun k => by first | rfl | unfold impl_Hash.f; rfl) ?_
  repeat' first
    | (with_reducible exact Co.const _)
    | (with_reducible exact impl_Hash.L0_co _ _ _ _)
    | (with_reducible refine Co.ite ?_ ?_)
    | (with_reducible refine Co.bind ?_ (fun _ => ?_))

noncomputable def impl_QuestionFor.F (l0 : List (S62)) (a1 : Int) (a2 : Int) : Option (Int) := lim (fun k => impl_QuestionFor.f k l0 a1 a2)
theorem impl_QuestionFor.F_co (l0 : List (S62)) (a1 : Int) (a2 : Int) : Co (fun k => impl_QuestionFor.f k l0 a1 a2) (impl_QuestionFor.F l0 a1 a2) := Co.base (fun k => impl_QuestionFor.mono _ _ _ k)
theorem impl_QuestionFor.F_eq (l0 : List (S62)) (a1 : Int) (a2 : Int) : impl_QuestionFor.F l0 a1 a2 = (if (l0.length : Int) = 0 then (some 0) else ((impl_AreMarks.F l0).bind fun t112 => (if t112 = true then ((impl_InRange.f a2 0 1000).bind fun t113 => (if t113 = true then ((impl_Hash.F (([a1] : List Int))).bind fun t117 => (if 0 ≤ (Int.tmod (wrap64 ((Int.tmod t117 (l0.length : Int)) + a2)) (l0.length : Int)) then (if (Int.tmod (wrap64 ((Int.tmod t117 (l0.length : Int)) + a2)) (l0.length : Int)) < (l0.length : Int) then (some ((rd_T62 l0 (Int.tmod (wrap64 ((Int.tmod t117 (l0.length : Int)) + a2)) (l0.length : Int))).f0)) else (none)) else (none))) else (some 0))) else (some 0)))) := by
  refine Co.same (impl_QuestionFor.F_co l0 a1 a2) (h := fun k => (if (l0.length : Int) = 0 then (some 0) else ((impl_AreMarks.f k l0).bind fun t112 => (if t112 = true then ((impl_InRange.f a2 0 1000).bind fun t113 => (if t113 = true then ((impl_Hash.f k (([a1] : List Int))).bind fun t117 => (if 0 ≤ (Int.tmod (wrap64 ((Int.tmod t117 (l0.length : Int)) + a2)) (l0.length : Int)) then (if (Int.tmod (wrap64 ((Int.tmod t117 (l0.length : Int)) + a2)) (l0.length : Int)) < (l0.length : Int) then (some ((rd_T62 l0 (Int.tmod (wrap64 ((Int.tmod t117 (l0.length : Int)) + a2)) (l0.length : Int))).f0)) else (none)) else (none))) else (some 0))) else (some 0))))) (fun k => by first | rfl | unfold impl_QuestionFor.f; rfl) ?_
  repeat' first
    | (with_reducible exact Co.const _)
    | (with_reducible exact impl_AreMarks.F_co _)
    | (with_reducible exact impl_Hash.F_co _)
    | (with_reducible refine Co.ite ?_ ?_)
    | (with_reducible refine Co.bind ?_ (fun _ => ?_))

noncomputable def impl_TrialState.J0 (x0 : List (S62)) (x5 : Bool) (x124000 : Int) (x124001 : Int) (x124002 : Int) (x124003 : Int) : Option (Int) := lim (fun k => impl_TrialState.j0 k x0 x5 x124000 x124001 x124002 x124003)
theorem impl_TrialState.J0_co (x0 : List (S62)) (x5 : Bool) (x124000 : Int) (x124001 : Int) (x124002 : Int) (x124003 : Int) : Co (fun k => impl_TrialState.j0 k x0 x5 x124000 x124001 x124002 x124003) (impl_TrialState.J0 x0 x5 x124000 x124001 x124002 x124003) := Co.base (fun k => (impl_TrialState.mono_l k) _ _ _ _ _ _)
noncomputable def impl_TrialState.F (l0 : List (S62)) (a1_0 : Int) (a1_1 : Int) (a1_2 : Int) (a1_3 : Int) : Option (Int) := lim (fun k => impl_TrialState.f k l0 a1_0 a1_1 a1_2 a1_3)
theorem impl_TrialState.F_co (l0 : List (S62)) (a1_0 : Int) (a1_1 : Int) (a1_2 : Int) (a1_3 : Int) : Co (fun k => impl_TrialState.f k l0 a1_0 a1_1 a1_2 a1_3) (impl_TrialState.F l0 a1_0 a1_1 a1_2 a1_3) := Co.base (fun k => impl_TrialState.mono _ _ _ _ _ k)
theorem impl_TrialState.J0_eq (x0 : List (S62)) (x5 : Bool) (x124000 : Int) (x124001 : Int) (x124002 : Int) (x124003 : Int) : impl_TrialState.J0 x0 x5 x124000 x124001 x124002 x124003 = (if x5 = true then (some 2) else (if (x0.length : Int) > 0 then ((impl_NeedFor.f x0).bind fun t126 => (if x124002 ≥ t126 then (some 1) else (some 0))) else (some 0))) := by
  refine Co.step (impl_TrialState.J0_co x0 x5 x124000 x124001 x124002 x124003) (h := fun k => (if x5 = true then (some 2) else (if (x0.length : Int) > 0 then ((impl_NeedFor.f x0).bind fun t126 => (if x124002 ≥ t126 then (some 1) else (some 0))) else (some 0)))) (fun k => by first | rfl | (simp only [impl_TrialState.j0])) ?_
  repeat' first
    | (with_reducible exact Co.const _)
    | (with_reducible refine Co.ite ?_ ?_)
    | (with_reducible refine Co.bind ?_ (fun _ => ?_))
theorem impl_TrialState.F_eq (l0 : List (S62)) (a1_0 : Int) (a1_1 : Int) (a1_2 : Int) (a1_3 : Int) : impl_TrialState.F l0 a1_0 a1_1 a1_2 a1_3 = ((impl_IsTrial.f a1_0 a1_1 a1_2 a1_3).bind fun t124 => (if t124 = true then ((impl_AreMarks.F l0).bind fun t125 => (if t125 = true then (impl_TrialState.J0 l0 (decide (a1_3 > 1)) a1_0 a1_1 a1_2 a1_3) else (impl_TrialState.J0 l0 true a1_0 a1_1 a1_2 a1_3))) else (impl_TrialState.J0 l0 true a1_0 a1_1 a1_2 a1_3))) := by
  refine Co.same (impl_TrialState.F_co l0 a1_0 a1_1 a1_2 a1_3) (h := fun k => ((impl_IsTrial.f a1_0 a1_1 a1_2 a1_3).bind fun t124 => (if t124 = true then ((impl_AreMarks.f k l0).bind fun t125 => (if t125 = true then (impl_TrialState.j0 k l0 (decide (a1_3 > 1)) a1_0 a1_1 a1_2 a1_3) else (impl_TrialState.j0 k l0 true a1_0 a1_1 a1_2 a1_3))) else (impl_TrialState.j0 k l0 true a1_0 a1_1 a1_2 a1_3)))) (fun k => by first | rfl | unfold impl_TrialState.f; rfl) ?_
  repeat' first
    | (with_reducible exact Co.const _)
    | (with_reducible exact impl_AreMarks.F_co _)
    | (with_reducible exact impl_TrialState.J0_co _ _ _ _ _ _)
    | (with_reducible refine Co.ite ?_ ?_)
    | (with_reducible refine Co.bind ?_ (fun _ => ?_))

noncomputable def impl_NextQuestion.F (l0 : List (S62)) (a1_0 : Int) (a1_1 : Int) (a1_2 : Int) (a1_3 : Int) : Option (Int) := lim (fun k => impl_NextQuestion.f k l0 a1_0 a1_1 a1_2 a1_3)
theorem impl_NextQuestion.F_co (l0 : List (S62)) (a1_0 : Int) (a1_1 : Int) (a1_2 : Int) (a1_3 : Int) : Co (fun k => impl_NextQuestion.f k l0 a1_0 a1_1 a1_2 a1_3) (impl_NextQuestion.F l0 a1_0 a1_1 a1_2 a1_3) := Co.base (fun k => impl_NextQuestion.mono _ _ _ _ _ k)
theorem impl_NextQuestion.F_eq (l0 : List (S62)) (a1_0 : Int) (a1_1 : Int) (a1_2 : Int) (a1_3 : Int) : impl_NextQuestion.F l0 a1_0 a1_1 a1_2 a1_3 = ((impl_TrialState.F l0 a1_0 a1_1 a1_2 a1_3).bind fun t128 => (if t128 = 0 then ((impl_QuestionFor.F l0 a1_0 a1_1).bind fun t129 => (some t129)) else (some 0))) := by
  refine Co.same (impl_NextQuestion.F_co l0 a1_0 a1_1 a1_2 a1_3) (h := fun k => ((impl_TrialState.f k l0 a1_0 a1_1 a1_2 a1_3).bind fun t128 => (if t128 = 0 then ((impl_QuestionFor.f k l0 a1_0 a1_1).bind fun t129 => (some t129)) else (some 0)))) (fun k => by first | rfl | unfold impl_NextQuestion.f; rfl) ?_
  repeat' first
    | (with_reducible exact Co.const _)
    | (with_reducible exact impl_QuestionFor.F_co _ _ _)
    | (with_reducible exact impl_TrialState.F_co _ _ _ _ _)
    | (with_reducible refine Co.ite ?_ ?_)
    | (with_reducible refine Co.bind ?_ (fun _ => ?_))

noncomputable def impl_GiveAnswer.F (l0 : List (S62)) (a1_0 : Int) (a1_1 : Int) (a1_2 : Int) (a1_3 : Int) (a2 : Int) : Option (Int × Int × Int × Int × Bool) := lim (fun k => impl_GiveAnswer.f k l0 a1_0 a1_1 a1_2 a1_3 a2)
theorem impl_GiveAnswer.F_co (l0 : List (S62)) (a1_0 : Int) (a1_1 : Int) (a1_2 : Int) (a1_3 : Int) (a2 : Int) : Co (fun k => impl_GiveAnswer.f k l0 a1_0 a1_1 a1_2 a1_3 a2) (impl_GiveAnswer.F l0 a1_0 a1_1 a1_2 a1_3 a2) := Co.base (fun k => impl_GiveAnswer.mono _ _ _ _ _ _ k)
theorem impl_GiveAnswer.F_eq (l0 : List (S62)) (a1_0 : Int) (a1_1 : Int) (a1_2 : Int) (a1_3 : Int) (a2 : Int) : impl_GiveAnswer.F l0 a1_0 a1_1 a1_2 a1_3 a2 = ((impl_NextQuestion.F l0 a1_0 a1_1 a1_2 a1_3).bind fun t132 => (if t132 = 0 then (some (a1_0, a1_1, a1_2, a1_3, false)) else ((impl_AnswerOf.F l0 t132).bind fun t133 => (if t133 = a2 then (some (a1_0, wrap64 (a1_1 + 1), wrap64 (a1_2 + 1), a1_3, true)) else (some (a1_0, wrap64 (a1_1 + 1), a1_2, wrap64 (a1_3 + 1), true)))))) := by
  refine Co.same (impl_GiveAnswer.F_co l0 a1_0 a1_1 a1_2 a1_3 a2) (h := fun k => ((impl_NextQuestion.f k l0 a1_0 a1_1 a1_2 a1_3).bind fun t132 => (if t132 = 0 then (some (a1_0, a1_1, a1_2, a1_3, false)) else ((impl_AnswerOf.f k l0 t132).bind fun t133 => (if t133 = a2 then (some (a1_0, wrap64 (a1_1 + 1), wrap64 (a1_2 + 1), a1_3, true)) else (some (a1_0, wrap64 (a1_1 + 1), a1_2, wrap64 (a1_3 + 1), true))))))) (fun k => by first | rfl | unfold impl_GiveAnswer.f; rfl) ?_
  repeat' first
    | (with_reducible exact Co.const _)
    | (with_reducible exact impl_AnswerOf.F_co _ _)
    | (with_reducible exact impl_NextQuestion.F_co _ _ _ _ _)
    | (with_reducible refine Co.ite ?_ ?_)
    | (with_reducible refine Co.bind ?_ (fun _ => ?_))

noncomputable def impl_AnswerAll.L0 (x0 : List (S62)) (x9 : List Int) (x10 : Int) (x11 : Int) (x135000 : Int) (x135001 : Int) (x135002 : Int) (x135003 : Int) : Option (Int × Int × Int × Int) := lim (fun k => impl_AnswerAll.l0 k x0 x9 x10 x11 x135000 x135001 x135002 x135003)
theorem impl_AnswerAll.L0_co (x0 : List (S62)) (x9 : List Int) (x10 : Int) (x11 : Int) (x135000 : Int) (x135001 : Int) (x135002 : Int) (x135003 : Int) : Co (fun k => impl_AnswerAll.l0 k x0 x9 x10 x11 x135000 x135001 x135002 x135003) (impl_AnswerAll.L0 x0 x9 x10 x11 x135000 x135001 x135002 x135003) := Co.base (fun k => (impl_AnswerAll.mono_l k) _ _ _ _ _ _ _ _)
noncomputable def impl_AnswerAll.F (l0 : List (S62)) (a1_0 : Int) (a1_1 : Int) (a1_2 : Int) (a1_3 : Int) (l2 : List Int) : Option (Int × Int × Int × Int) := lim (fun k => impl_AnswerAll.f k l0 a1_0 a1_1 a1_2 a1_3 l2)
theorem impl_AnswerAll.F_co (l0 : List (S62)) (a1_0 : Int) (a1_1 : Int) (a1_2 : Int) (a1_3 : Int) (l2 : List Int) : Co (fun k => impl_AnswerAll.f k l0 a1_0 a1_1 a1_2 a1_3 l2) (impl_AnswerAll.F l0 a1_0 a1_1 a1_2 a1_3 l2) := Co.base (fun k => impl_AnswerAll.mono _ _ _ _ _ _ k)
theorem impl_AnswerAll.L0_eq (x0 : List (S62)) (x9 : List Int) (x10 : Int) (x11 : Int) (x135000 : Int) (x135001 : Int) (x135002 : Int) (x135003 : Int) : impl_AnswerAll.L0 x0 x9 x10 x11 x135000 x135001 x135002 x135003 = (if x11 < x10 then (if 0 ≤ x11 then (if x11 < (x9.length : Int) then ((impl_GiveAnswer.F x0 x135000 x135001 x135002 x135003 (rd x9 x11)).bind fun bt137 => (impl_AnswerAll.L0 x0 x9 x10 (wrap64 (x11 + 1)) bt137.1 bt137.2.1 bt137.2.2.1 bt137.2.2.2.1)) else (none)) else (none)) else (some (x135000, x135001, x135002, x135003))) := by
  refine Co.step (impl_AnswerAll.L0_co x0 x9 x10 x11 x135000 x135001 x135002 x135003) (h := fun k => (if x11 < x10 then (if 0 ≤ x11 then (if x11 < (x9.length : Int) then ((impl_GiveAnswer.f k x0 x135000 x135001 x135002 x135003 (rd x9 x11)).bind fun bt137 => (impl_AnswerAll.l0 k x0 x9 x10 (wrap64 (x11 + 1)) bt137.1 bt137.2.1 bt137.2.2.1 bt137.2.2.2.1)) else (none)) else (none)) else (some (x135000, x135001, x135002, x135003)))) (fun k => by first | rfl | (simp only [impl_AnswerAll.l0])) ?_
  repeat' first
    | (with_reducible exact Co.const _)
    | (with_reducible exact impl_AnswerAll.L0_co _ _ _ _ _ _ _ _)
    | (with_reducible exact impl_GiveAnswer.F_co _ _ _ _ _ _)
    | (with_reducible refine Co.ite ?_ ?_)
    | (with_reducible refine Co.bind ?_ (fun _ => ?_))
theorem impl_AnswerAll.F_eq (l0 : List (S62)) (a1_0 : Int) (a1_1 : Int) (a1_2 : Int) (a1_3 : Int) (l2 : List Int) : impl_AnswerAll.F l0 a1_0 a1_1 a1_2 a1_3 l2 = (impl_AnswerAll.L0 l0 l2 (l2.length : Int) 0 a1_0 a1_1 a1_2 a1_3) := by
  refine Co.same (impl_AnswerAll.F_co l0 a1_0 a1_1 a1_2 a1_3 l2) (h := fun k => (impl_AnswerAll.l0 k l0 l2 (l2.length : Int) 0 a1_0 a1_1 a1_2 a1_3)) (fun k => by first | rfl | unfold impl_AnswerAll.f; rfl) ?_
  repeat' first
    | (with_reducible exact Co.const _)
    | (with_reducible exact impl_AnswerAll.L0_co _ _ _ _ _ _ _ _)
    | (with_reducible refine Co.ite ?_ ?_)
    | (with_reducible refine Co.bind ?_ (fun _ => ?_))

noncomputable def spec_l1New.L0 (x0 : List Int) (x3 : Int) (x4 : Int) : Option (List Int × Int × Int) := lim (fun k => spec_l1New.l0 k x0 x3 x4)
theorem spec_l1New.L0_co (x0 : List Int) (x3 : Int) (x4 : Int) : Co (fun k => spec_l1New.l0 k x0 x3 x4) (spec_l1New.L0 x0 x3 x4) := Co.base (fun k => (spec_l1New.mono_l k) _ _ _)
noncomputable def spec_l1New.F (l0 : List Int) : Option (List Int × Int × Int) := lim (fun k => spec_l1New.f k l0)
theorem spec_l1New.F_co (l0 : List Int) : Co (fun k => spec_l1New.f k l0) (spec_l1New.F l0) := Co.base (fun k => spec_l1New.mono _ k)
theorem spec_l1New.L0_eq (x0 : List Int) (x3 : Int) (x4 : Int) : spec_l1New.L0 x0 x3 x4 = (if x4 < (x0.length : Int) then (if x4 < 4000 then (if 0 ≤ x4 then (spec_l1New.L0 x0 (Go.bits .and .i64 (wrap64 ((wrap64 ((wrap64 (x3 * 137)) + (wrap64 (rd x0 x4)))) + 11)) 1073741823) (wrap64 (x4 + 1))) else (none)) else (some (x0, 0, x3))) else (some (x0, 0, x3))) := by
  refine Co.step (spec_l1New.L0_co x0 x3 x4) (h := fun k => (if x4 < (x0.length : Int) then (if x4 < 4000 then (if 0 ≤ x4 then (spec_l1New.l0 k x0 (Go.bits .and .i64 (wrap64 ((wrap64 ((wrap64 (x3 * 137)) + (wrap64 (rd x0 x4)))) + 11)) 1073741823) (wrap64 (x4 + 1))) else (none)) else (some (x0, 0, x3))) else (some (x0, 0, x3)))) (fun k => by first | rfl | (simp only [spec_l1New.l0])) ?_
  repeat' first
    | (with_reducible exact Co.const _)
    | (with_reducible exact spec_l1New.L0_co _ _ _)
    | (with_reducible refine Co.ite ?_ ?_)
    | (with_reducible refine Co.bind ?_ (fun _ => ?_))
theorem spec_l1New.F_eq (l0 : List Int) : spec_l1New.F l0 = (spec_l1New.L0 l0 (wrap64 (193017 + (l0.length : Int))) 0) := by
  refine Co.same (spec_l1New.F_co l0) (h := fun k => (spec_l1New.l0 k l0 (wrap64 (193017 + (l0.length : Int))) 0)) (fun k => by first | rfl | unfold spec_l1New.f; rfl) ?_
  repeat' first
    | (with_reducible exact Co.const _)
    | (with_reducible exact spec_l1New.L0_co _ _ _)
    | (with_reducible refine Co.ite ?_ ?_)
    | (with_reducible refine Co.bind ?_ (fun _ => ?_))

noncomputable def spec_AreMarks.L0 (x0 : List (S62)) (x3 : Int) : Option (Bool) := lim (fun k => spec_AreMarks.l0 k x0 x3)
theorem spec_AreMarks.L0_co (x0 : List (S62)) (x3 : Int) : Co (fun k => spec_AreMarks.l0 k x0 x3) (spec_AreMarks.L0 x0 x3) := Co.base (fun k => (spec_AreMarks.mono_l k) _ _)
noncomputable def spec_AreMarks.F (l0 : List (S62)) : Option (Bool) := lim (fun k => spec_AreMarks.f k l0)
theorem spec_AreMarks.F_co (l0 : List (S62)) : Co (fun k => spec_AreMarks.f k l0) (spec_AreMarks.F l0) := Co.base (fun k => spec_AreMarks.mono _ k)
theorem spec_AreMarks.L0_eq (x0 : List (S62)) (x3 : Int) : spec_AreMarks.L0 x0 x3 = (if x3 < (x0.length : Int) then (if 0 ≤ x3 then ((spec_l1In.f ((rd_T62 x0 x3).f0) 1 20).bind fun t163 => (if t163 = true then ((spec_l1In.f ((rd_T62 x0 x3).f1) 0 99).bind fun t165 => (if t165 = true then (if x3 > 0 then (if 0 ≤ (wrap64 (x3 - 1)) then (if (wrap64 (x3 - 1)) < (x0.length : Int) then (if ((rd_T62 x0 (wrap64 (x3 - 1))).f0) ≥ ((rd_T62 x0 x3).f0) then (some false) else (spec_AreMarks.L0 x0 (wrap64 (x3 + 1)))) else (none)) else (none)) else (spec_AreMarks.L0 x0 (wrap64 (x3 + 1)))) else (some false))) else (some false))) else (none)) else (some (decide ((x0.length : Int) ≤ 8)))) := by
  refine Co.step (spec_AreMarks.L0_co x0 x3) (h := fun k => (if x3 < (x0.length : Int) then (if 0 ≤ x3 then ((spec_l1In.f ((rd_T62 x0 x3).f0) 1 20).bind fun t163 => (if t163 = true then ((spec_l1In.f ((rd_T62 x0 x3).f1) 0 99).bind fun t165 => (if t165 = true then (if x3 > 0 then (if 0 ≤ (wrap64 (x3 - 1)) then (if (wrap64 (x3 - 1)) < (x0.length : Int) then (if ((rd_T62 x0 (wrap64 (x3 - 1))).f0) ≥ ((rd_T62 x0 x3).f0) then (some false) else (spec_AreMarks.l0 k x0 (wrap64 (x3 + 1)))) else (none)) else (none)) else (spec_AreMarks.l0 k x0 (wrap64 (x3 + 1)))) else (some false))) else (some false))) else (none)) else (some (decide ((x0.length : Int) ≤ 8))))) (fun k => by first | rfl | (simp only [spec_AreMarks.l0])) ?_
  repeat' first
    | (with_reducible exact Co.const _)
    | (with_reducible exact spec_AreMarks.L0_co _ _)
    | (with_reducible refine Co.ite ?_ ?_)
    | (with_reducible refine Co.bind ?_ (fun _ => ?_))
theorem spec_AreMarks.F_eq (l0 : List (S62)) : spec_AreMarks.F l0 = (spec_AreMarks.L0 l0 0) := by
  refine Co.same (spec_AreMarks.F_co l0) (h := fun k => (spec_AreMarks.l0 k l0 0)) (fun k => by first | rfl | unfold spec_AreMarks.f; rfl) ?_
  repeat' first
    | (with_reducible exact Co.const _)
    | (with_reducible exact spec_AreMarks.L0_co _ _)
    | (with_reducible refine Co.ite ?_ ?_)
    | (with_reducible refine Co.bind ?_ (fun _ => ?_))

noncomputable def spec_PutMark.J1 (x0 : List (S62)) (x6 : Int) (x169000 : Int) (x169001 : Int) : Option ((List (S62)) × Bool) := lim (fun k => spec_PutMark.j1 k x0 x6 x169000 x169001)
theorem spec_PutMark.J1_co (x0 : List (S62)) (x6 : Int) (x169000 : Int) (x169001 : Int) : Co (fun k => spec_PutMark.j1 k x0 x6 x169000 x169001) (spec_PutMark.J1 x0 x6 x169000 x169001) := Co.base (fun k => (spec_PutMark.mono_l k).1 _ _ _ _)
noncomputable def spec_PutMark.J2 (x0 : List (S62)) (x6 : Int) (x7 : List (S62)) (x39 : Bool) (x169000 : Int) (x169001 : Int) : Option ((List (S62)) × Bool) := lim (fun k => spec_PutMark.j2 k x0 x6 x7 x39 x169000 x169001)
theorem spec_PutMark.J2_co (x0 : List (S62)) (x6 : Int) (x7 : List (S62)) (x39 : Bool) (x169000 : Int) (x169001 : Int) : Co (fun k => spec_PutMark.j2 k x0 x6 x7 x39 x169000 x169001) (spec_PutMark.J2 x0 x6 x7 x39 x169000 x169001) := Co.base (fun k => (spec_PutMark.mono_l k).2.1 _ _ _ _ _ _)
noncomputable def spec_PutMark.L0 (x0 : List (S62)) (x6 : Int) (x169000 : Int) (x169001 : Int) : Option ((List (S62)) × Bool) := lim (fun k => spec_PutMark.l0 k x0 x6 x169000 x169001)
theorem spec_PutMark.L0_co (x0 : List (S62)) (x6 : Int) (x169000 : Int) (x169001 : Int) : Co (fun k => spec_PutMark.l0 k x0 x6 x169000 x169001) (spec_PutMark.L0 x0 x6 x169000 x169001) := Co.base (fun k => (spec_PutMark.mono_l k).2.2 _ _ _ _)
noncomputable def spec_PutMark.F (l0 : List (S62)) (a1_0 : Int) (a1_1 : Int) : Option ((List (S62)) × Bool) := lim (fun k => spec_PutMark.f k l0 a1_0 a1_1)
theorem spec_PutMark.F_co (l0 : List (S62)) (a1_0 : Int) (a1_1 : Int) : Co (fun k => spec_PutMark.f k l0 a1_0 a1_1) (spec_PutMark.F l0 a1_0 a1_1) := Co.base (fun k => spec_PutMark.mono _ _ _ k)
theorem spec_PutMark.J1_eq (x0 : List (S62)) (x6 : Int) (x169000 : Int) (x169001 : Int) : spec_PutMark.J1 x0 x6 x169000 x169001 = (if 0 ≤ x6 then (if x6 ≤ (x0.length : Int) then ((some (x0.drop (x6 : Int).toNat : List (S62))).bind fun y170 => (if (y170.length : Int) > 0 then (if 0 < (y170.length : Int) then (spec_PutMark.J2 x0 x6 y170 (((rd_T62 y170 0).f0) == x169000) x169000 x169001) else (none)) else (spec_PutMark.J2 x0 x6 y170 false x169000 x169001))) else (none)) else (none)) := by
  refine Co.step (spec_PutMark.J1_co x0 x6 x169000 x169001) (h := fun k => (if 0 ≤ x6 then (if x6 ≤ (x0.length : Int) then ((some (x0.drop (x6 : Int).toNat : List (S62))).bind fun y170 => (if (y170.length : Int) > 0 then (if 0 < (y170.length : Int) then (spec_PutMark.j2 k x0 x6 y170 (((rd_T62 y170 0).f0) == x169000) x169000 x169001) else (none)) else (spec_PutMark.j2 k x0 x6 y170 false x169000 x169001))) else (none)) else (none))) (fun k => by first | rfl | (simp only [spec_PutMark.j1])) ?_
  repeat' first
    | (with_reducible exact Co.const _)
    | (with_reducible exact spec_PutMark.J2_co _ _ _ _ _ _)
    | (with_reducible refine Co.ite ?_ ?_)
    | (with_reducible refine Co.bind ?_ (fun _ => ?_))
theorem spec_PutMark.J2_eq (x0 : List (S62)) (x6 : Int) (x7 : List (S62)) (x39 : Bool) (x169000 : Int) (x169001 : Int) : spec_PutMark.J2 x0 x6 x7 x39 x169000 x169001 = (if x39 = true then (if 1 ≤ (x7.length : Int) then ((some (x7.drop 1 : List (S62))).bind fun y175 => ((some (([] : List (S62)) : List (S62))).bind fun y179 => (if 0 ≤ x6 then (if x6 ≤ (x0.length : Int) then ((some (x0.take (x6 : Int).toNat : List (S62))).bind fun y182 => (if y179.length + y182.length < 8796093022208 then ((some (y179 ++ y182 : List (S62))).bind fun y186 => ((some (([(⟨x169000, x169001⟩ : S62)] : List (S62)) : List (S62))).bind fun y189 => (if y186.length + y189.length < 8796093022208 then ((some (y186 ++ y189 : List (S62))).bind fun y192 => (if y192.length + y175.length < 8796093022208 then ((some (y192 ++ y175 : List (S62))).bind fun y195 => ((spec_AreMarks.F y195).bind fun t198 => (if t198 = true then (some (y195, true)) else ((some (([] : List (S62)) : List (S62))).bind fun y199 => (if y199.length + x0.length < 8796093022208 then (some ((y199 ++ x0), false)) else (none)))))) else (none))) else (none)))) else (none))) else (none)) else (none)))) else (none)) else ((some (([] : List (S62)) : List (S62))).bind fun y205 => (if 0 ≤ x6 then (if x6 ≤ (x0.length : Int) then ((some (x0.take (x6 : Int).toNat : List (S62))).bind fun y208 => (if y205.length + y208.length < 8796093022208 then ((some (y205 ++ y208 : List (S62))).bind fun y212 => ((some (([(⟨x169000, x169001⟩ : S62)] : List (S62)) : List (S62))).bind fun y215 => (if y212.length + y215.length < 8796093022208 then ((some (y212 ++ y215 : List (S62))).bind fun y218 => (if y218.length + x7.length < 8796093022208 then ((some (y218 ++ x7 : List (S62))).bind fun y221 => ((spec_AreMarks.F y221).bind fun t224 => (if t224 = true then (some (y221, true)) else ((some (([] : List (S62)) : List (S62))).bind fun y225 => (if y225.length + x0.length < 8796093022208 then (some ((y225 ++ x0), false)) else (none)))))) else (none))) else (none)))) else (none))) else (none)) else (none)))) := by
  refine Co.step (spec_PutMark.J2_co x0 x6 x7 x39 x169000 x169001) (h := fun k => (if x39 = true then (if 1 ≤ (x7.length : Int) then ((some (x7.drop 1 : List (S62))).bind fun y175 => ((some (([] : List (S62)) : List (S62))).bind fun y179 => (if 0 ≤ x6 then (if x6 ≤ (x0.length : Int) then ((some (x0.take (x6 : Int).toNat : List (S62))).bind fun y182 => (if y179.length + y182.length < 8796093022208 then ((some (y179 ++ y182 : List (S62))).bind fun y186 => ((some (([(⟨x169000, x169001⟩ : S62)] : List (S62)) : List (S62))).bind fun y189 => (if y186.length + y189.length < 8796093022208 then ((some (y186 ++ y189 : List (S62))).bind fun y192 => (if y192.length + y175.length < 8796093022208 then ((some (y192 ++ y175 : List (S62))).bind fun y195 => ((spec_AreMarks.f k y195).bind fun t198 => (if t198 = true then (some (y195, true)) else ((some (([] : List (S62)) : List (S62))).bind fun y199 => (if y199.length + x0.length < 8796093022208 then (some ((y199 ++ x0), false)) else (none)))))) else (none))) else (none)))) else (none))) else (none)) else (none)))) else (none)) else ((some (([] : List (S62)) : List (S62))).bind fun y205 => (if 0 ≤ x6 then (if x6 ≤ (x0.length : Int) then ((some (x0.take (x6 : Int).toNat : List (S62))).bind fun y208 => (if y205.length + y208.length < 8796093022208 then ((some (y205 ++ y208 : List (S62))).bind fun y212 => ((some (([(⟨x169000, x169001⟩ : S62)] : List (S62)) : List (S62))).bind fun y215 => (if y212.length + y215.length < 8796093022208 then ((some (y212 ++ y215 : List (S62))).bind fun y218 => (if y218.length + x7.length < 8796093022208 then ((some (y218 ++ x7 : List (S62))).bind fun y221 => ((spec_AreMarks.f k y221).bind fun t224 => (if t224 = true then (some (y221, true)) else ((some (([] : List (S62)) : List (S62))).bind fun y225 => (if y225.length + x0.length < 8796093022208 then (some ((y225 ++ x0), false)) else (none)))))) else (none))) else (none)))) else (none))) else (none)) else (none))))) (fun k => by first | rfl | (simp only [spec_PutMark.j2])) ?_
  repeat' first
    | (with_reducible exact Co.const _)
    | (with_reducible exact spec_AreMarks.F_co _)
    | (with_reducible refine Co.ite ?_ ?_)
    | (with_reducible refine Co.bind ?_ (fun _ => ?_))
theorem spec_PutMark.L0_eq (x0 : List (S62)) (x6 : Int) (x169000 : Int) (x169001 : Int) : spec_PutMark.L0 x0 x6 x169000 x169001 = (if x6 < (x0.length : Int) then (if 0 ≤ x6 then (if ((rd_T62 x0 x6).f0) < x169000 then (spec_PutMark.L0 x0 (wrap64 (x6 + 1)) x169000 x169001) else (spec_PutMark.J1 x0 x6 x169000 x169001)) else (none)) else (spec_PutMark.J1 x0 x6 x169000 x169001)) := by
  refine Co.step (spec_PutMark.L0_co x0 x6 x169000 x169001) (h := fun k => (if x6 < (x0.length : Int) then (if 0 ≤ x6 then (if ((rd_T62 x0 x6).f0) < x169000 then (spec_PutMark.l0 k x0 (wrap64 (x6 + 1)) x169000 x169001) else (spec_PutMark.j1 k x0 x6 x169000 x169001)) else (none)) else (spec_PutMark.j1 k x0 x6 x169000 x169001))) (fun k => by first | rfl | (simp only [spec_PutMark.l0])) ?_
  repeat' first
    | (with_reducible exact Co.const _)
    | (with_reducible exact spec_PutMark.J1_co _ _ _ _)
    | (with_reducible exact spec_PutMark.L0_co _ _ _ _)
    | (with_reducible refine Co.ite ?_ ?_)
    | (with_reducible refine Co.bind ?_ (fun _ => ?_))
theorem spec_PutMark.F_eq (l0 : List (S62)) (a1_0 : Int) (a1_1 : Int) : spec_PutMark.F l0 a1_0 a1_1 = (spec_PutMark.L0 l0 0 a1_0 a1_1) := by
  refine Co.same (spec_PutMark.F_co l0 a1_0 a1_1) (h := fun k => (spec_PutMark.l0 k l0 0 a1_0 a1_1)) (fun k => by first | rfl | unfold spec_PutMark.f; rfl) ?_
  repeat' first
    | (with_reducible exact Co.const _)
    | (with_reducible exact spec_PutMark.L0_co _ _ _ _)
    | (with_reducible refine Co.ite ?_ ?_)
    | (with_reducible refine Co.bind ?_ (fun _ => ?_))

noncomputable def spec_l11Draw.L0 (x3 : List (S62)) (x4 : Int) (x1000 : List Int) (x1001 : Int) (x1002 : Int) : Option ((List (S62)) × Int × Int) := lim (fun k => spec_l11Draw.l0 k x3 x4 x1000 x1001 x1002)
theorem spec_l11Draw.L0_co (x3 : List (S62)) (x4 : Int) (x1000 : List Int) (x1001 : Int) (x1002 : Int) : Co (fun k => spec_l11Draw.l0 k x3 x4 x1000 x1001 x1002) (spec_l11Draw.L0 x3 x4 x1000 x1001 x1002) := Co.base (fun k => (spec_l11Draw.mono_l k) _ _ _ _ _)
noncomputable def spec_l11Draw.F (s0_0 : List Int) (s0_1 : Int) (s0_2 : Int) : Option ((List (S62)) × Int × Int) := lim (fun k => spec_l11Draw.f k s0_0 s0_1 s0_2)
theorem spec_l11Draw.F_co (s0_0 : List Int) (s0_1 : Int) (s0_2 : Int) : Co (fun k => spec_l11Draw.f k s0_0 s0_1 s0_2) (spec_l11Draw.F s0_0 s0_1 s0_2) := Co.base (fun k => spec_l11Draw.mono _ _ _ k)
theorem spec_l11Draw.L0_eq (x3 : List (S62)) (x4 : Int) (x1000 : List Int) (x1001 : Int) (x1002 : Int) : spec_l11Draw.L0 x3 x4 x1000 x1001 x1002 = (if x4 > 0 then ((spec_l1Below.f x1000 x1001 x1002 8).bind fun bt237 => ((spec_l1Below.f x1000 bt237.2.1 bt237.2.2 9).bind fun bt240 => ((spec_PutMark.F x3 (wrap64 (1 + bt237.1)) bt240.1).bind fun bt243 => (spec_l11Draw.L0 bt243.1 (wrap64 (x4 - 1)) x1000 bt240.2.1 bt240.2.2)))) else (some (x3, x1001, x1002))) := by
  refine Co.step (spec_l11Draw.L0_co x3 x4 x1000 x1001 x1002) (h := fun k => (if x4 > 0 then ((spec_l1Below.f x1000 x1001 x1002 8).bind fun bt237 => ((spec_l1Below.f x1000 bt237.2.1 bt237.2.2 9).bind fun bt240 => ((spec_PutMark.f k x3 (wrap64 (1 + bt237.1)) bt240.1).bind fun bt243 => (spec_l11Draw.l0 k bt243.1 (wrap64 (x4 - 1)) x1000 bt240.2.1 bt240.2.2)))) else (some (x3, x1001, x1002)))) (fun k => by first | rfl | (simp only [spec_l11Draw.l0])) ?_
  repeat' first
    | (with_reducible exact Co.const _)
    | (with_reducible exact spec_PutMark.F_co _ _ _)
    | (with_reducible exact spec_l11Draw.L0_co _ _ _ _ _)
    | (with_reducible refine Co.ite ?_ ?_)
    | (with_reducible refine Co.bind ?_ (fun _ => ?_))
theorem spec_l11Draw.F_eq (s0_0 : List Int) (s0_1 : Int) (s0_2 : Int) : spec_l11Draw.F s0_0 s0_1 s0_2 = ((spec_l1Below.f s0_0 s0_1 s0_2 6).bind fun bt234 => (spec_l11Draw.L0 (([] : List (S62))) bt234.1 s0_0 bt234.2.1 bt234.2.2)) := by
  refine Co.same (spec_l11Draw.F_co s0_0 s0_1 s0_2) (h := fun k => ((spec_l1Below.f s0_0 s0_1 s0_2 6).bind fun bt234 => (spec_l11Draw.l0 k (([] : List (S62))) bt234.1 s0_0 bt234.2.1 bt234.2.2))) (fun k => by first | rfl | unfold spec_l11Draw.f; rfl) ?_
  repeat' first
    | (with_reducible exact Co.const _)
    | (with_reducible exact spec_l11Draw.L0_co _ _ _ _ _)
    | (with_reducible refine Co.ite ?_ ?_)
    | (with_reducible refine Co.bind ?_ (fun _ => ?_))

noncomputable def spec_l11Any.F (s0_0 : List Int) (s0_1 : Int) (s0_2 : Int) : Option ((List (S62)) × Int × Int) := lim (fun k => spec_l11Any.f k s0_0 s0_1 s0_2)
theorem spec_l11Any.F_co (s0_0 : List Int) (s0_1 : Int) (s0_2 : Int) : Co (fun k => spec_l11Any.f k s0_0 s0_1 s0_2) (spec_l11Any.F s0_0 s0_1 s0_2) := Co.base (fun k => spec_l11Any.mono _ _ _ k)
theorem spec_l11Any.F_eq (s0_0 : List Int) (s0_1 : Int) (s0_2 : Int) : spec_l11Any.F s0_0 s0_1 s0_2 = ((spec_l11Draw.F s0_0 s0_1 s0_2).bind fun bt247 => (if (bt247.1.length : Int) = 0 then (some (bt247.1, bt247.2.1, bt247.2.2)) else ((spec_l1Below.f s0_0 bt247.2.1 bt247.2.2 (bt247.1.length : Int)).bind fun bt252 => ((spec_l1Below.f s0_0 bt252.2.1 bt252.2.2 9).bind fun bt255 => (if bt255.1 = 0 then ((spec_l1Int.f s0_0 bt255.2.1 bt255.2.2 (([0, 20, 21] : List Int))).bind fun bt261 => (if 0 ≤ bt252.1 then (if bt252.1 < (bt247.1.length : Int) then (some ((bt247.1.set (bt252.1 : Int).toNat (⟨bt261.1, (rd_T62 bt247.1 bt252.1).f1⟩ : S62)), bt261.2.1, bt261.2.2)) else (none)) else (none))) else (if bt255.1 = 1 then ((spec_l1Int.f s0_0 bt255.2.1 bt255.2.2 (([(-1), 99, 100] : List Int))).bind fun bt268 => (if 0 ≤ bt252.1 then (if bt252.1 < (bt247.1.length : Int) then (some ((bt247.1.set (bt252.1 : Int).toNat (⟨(rd_T62 bt247.1 bt252.1).f0, bt268.1⟩ : S62)), bt268.2.1, bt268.2.2)) else (none)) else (none))) else (some (bt247.1, bt255.2.1, bt255.2.2)))))))) := by
  refine Co.same (spec_l11Any.F_co s0_0 s0_1 s0_2) (h := fun k => ((spec_l11Draw.f k s0_0 s0_1 s0_2).bind fun bt247 => (if (bt247.1.length : Int) = 0 then (some (bt247.1, bt247.2.1, bt247.2.2)) else ((spec_l1Below.f s0_0 bt247.2.1 bt247.2.2 (bt247.1.length : Int)).bind fun bt252 => ((spec_l1Below.f s0_0 bt252.2.1 bt252.2.2 9).bind fun bt255 => (if bt255.1 = 0 then ((spec_l1Int.f s0_0 bt255.2.1 bt255.2.2 (([0, 20, 21] : List Int))).bind fun bt261 => (if 0 ≤ bt252.1 then (if bt252.1 < (bt247.1.length : Int) then (some ((bt247.1.set (bt252.1 : Int).toNat (⟨bt261.1, (rd_T62 bt247.1 bt252.1).f1⟩ : S62)), bt261.2.1, bt261.2.2)) else (none)) else (none))) else (if bt255.1 = 1 then ((spec_l1Int.f s0_0 bt255.2.1 bt255.2.2 (([(-1), 99, 100] : List Int))).bind fun bt268 => (if 0 ≤ bt252.1 then (if bt252.1 < (bt247.1.length : Int) then (some ((bt247.1.set (bt252.1 : Int).toNat (⟨(rd_T62 bt247.1 bt252.1).f0, bt268.1⟩ : S62)), bt268.2.1, bt268.2.2)) else (none)) else (none))) else (some (bt247.1, bt255.2.1, bt255.2.2))))))))) (fun k => by first | rfl | unfold spec_l11Any.f; rfl) ?_
  repeat' first
    | (with_reducible exact Co.const _)
    | (with_reducible exact spec_l11Draw.F_co _ _ _)
    | (with_reducible refine Co.ite ?_ ?_)
    | (with_reducible refine Co.bind ?_ (fun _ => ?_))

noncomputable def spec_AnswerOf.L0 (x0 : List (S62)) (x1 : Int) (x5 : Int) : Option (Int) := lim (fun k => spec_AnswerOf.l0 k x0 x1 x5)
theorem spec_AnswerOf.L0_co (x0 : List (S62)) (x1 : Int) (x5 : Int) : Co (fun k => spec_AnswerOf.l0 k x0 x1 x5) (spec_AnswerOf.L0 x0 x1 x5) := Co.base (fun k => (spec_AnswerOf.mono_l k) _ _ _)
noncomputable def spec_AnswerOf.F (l0 : List (S62)) (a1 : Int) : Option (Int) := lim (fun k => spec_AnswerOf.f k l0 a1)
theorem spec_AnswerOf.F_co (l0 : List (S62)) (a1 : Int) : Co (fun k => spec_AnswerOf.f k l0 a1) (spec_AnswerOf.F l0 a1) := Co.base (fun k => spec_AnswerOf.mono _ _ k)
theorem spec_AnswerOf.L0_eq (x0 : List (S62)) (x1 : Int) (x5 : Int) : spec_AnswerOf.L0 x0 x1 x5 = (if x5 < (x0.length : Int) then (if 0 ≤ x5 then (if ((rd_T62 x0 x5).f0) = x1 then (some ((rd_T62 x0 x5).f1)) else (spec_AnswerOf.L0 x0 x1 (wrap64 (x5 + 1)))) else (none)) else (some (-1))) := by
  refine Co.step (spec_AnswerOf.L0_co x0 x1 x5) (h := fun k => (if x5 < (x0.length : Int) then (if 0 ≤ x5 then (if ((rd_T62 x0 x5).f0) = x1 then (some ((rd_T62 x0 x5).f1)) else (spec_AnswerOf.l0 k x0 x1 (wrap64 (x5 + 1)))) else (none)) else (some (-1)))) (fun k => by first | rfl | (simp only [spec_AnswerOf.l0])) ?_
  repeat' first
    | (with_reducible exact Co.const _)
    | (with_reducible exact spec_AnswerOf.L0_co _ _ _)
    | (with_reducible refine Co.ite ?_ ?_)
    | (with_reducible refine Co.bind ?_ (fun _ => ?_))
theorem spec_AnswerOf.F_eq (l0 : List (S62)) (a1 : Int) : spec_AnswerOf.F l0 a1 = (spec_AnswerOf.L0 l0 a1 0) := by
  refine Co.same (spec_AnswerOf.F_co l0 a1) (h := fun k => (spec_AnswerOf.l0 k l0 a1 0)) (fun k => by first | rfl | unfold spec_AnswerOf.f; rfl) ?_
  repeat' first
    | (with_reducible exact Co.const _)
    | (with_reducible exact spec_AnswerOf.L0_co _ _ _)
    | (with_reducible refine Co.ite ?_ ?_)
    | (with_reducible refine Co.bind ?_ (fun _ => ?_))

noncomputable def spec_TrialState.J0 (x0 : List (S62)) (x5 : Bool) (x286000 : Int) (x286001 : Int) (x286002 : Int) (x286003 : Int) : Option (Int) := lim (fun k => spec_TrialState.j0 k x0 x5 x286000 x286001 x286002 x286003)
theorem spec_TrialState.J0_co (x0 : List (S62)) (x5 : Bool) (x286000 : Int) (x286001 : Int) (x286002 : Int) (x286003 : Int) : Co (fun k => spec_TrialState.j0 k x0 x5 x286000 x286001 x286002 x286003) (spec_TrialState.J0 x0 x5 x286000 x286001 x286002 x286003) := Co.base (fun k => (spec_TrialState.mono_l k) _ _ _ _ _ _)
noncomputable def spec_TrialState.F (l0 : List (S62)) (a1_0 : Int) (a1_1 : Int) (a1_2 : Int) (a1_3 : Int) : Option (Int) := lim (fun k => spec_TrialState.f k l0 a1_0 a1_1 a1_2 a1_3)
theorem spec_TrialState.F_co (l0 : List (S62)) (a1_0 : Int) (a1_1 : Int) (a1_2 : Int) (a1_3 : Int) : Co (fun k => spec_TrialState.f k l0 a1_0 a1_1 a1_2 a1_3) (spec_TrialState.F l0 a1_0 a1_1 a1_2 a1_3) := Co.base (fun k => spec_TrialState.mono _ _ _ _ _ k)
theorem spec_TrialState.J0_eq (x0 : List (S62)) (x5 : Bool) (x286000 : Int) (x286001 : Int) (x286002 : Int) (x286003 : Int) : spec_TrialState.J0 x0 x5 x286000 x286001 x286002 x286003 = (if x5 = true then (some 2) else (if (x0.length : Int) > 0 then ((spec_NeedFor.f x0).bind fun t288 => (if x286002 ≥ t288 then (some 1) else (some 0))) else (some 0))) := by
  refine Co.step (spec_TrialState.J0_co x0 x5 x286000 x286001 x286002 x286003) (h := fun k => (if x5 = true then (some 2) else (if (x0.length : Int) > 0 then ((spec_NeedFor.f x0).bind fun t288 => (if x286002 ≥ t288 then (some 1) else (some 0))) else (some 0)))) (fun k => by first | rfl | (simp only [spec_TrialState.j0])) ?_
  repeat' first
    | (with_reducible exact Co.const _)
    | (with_reducible refine Co.ite ?_ ?_)
    | (with_reducible refine Co.bind ?_ (fun _ => ?_))
theorem spec_TrialState.F_eq (l0 : List (S62)) (a1_0 : Int) (a1_1 : Int) (a1_2 : Int) (a1_3 : Int) : spec_TrialState.F l0 a1_0 a1_1 a1_2 a1_3 = ((spec_IsTrial.f a1_0 a1_1 a1_2 a1_3).bind fun t286 => (if t286 = true then ((spec_AreMarks.F l0).bind fun t287 => (if t287 = true then (spec_TrialState.J0 l0 (decide (a1_3 > 1)) a1_0 a1_1 a1_2 a1_3) else (spec_TrialState.J0 l0 true a1_0 a1_1 a1_2 a1_3))) else (spec_TrialState.J0 l0 true a1_0 a1_1 a1_2 a1_3))) := by
  refine Co.same (spec_TrialState.F_co l0 a1_0 a1_1 a1_2 a1_3) (h := fun k => ((spec_IsTrial.f a1_0 a1_1 a1_2 a1_3).bind fun t286 => (if t286 = true then ((spec_AreMarks.f k l0).bind fun t287 => (if t287 = true then (spec_TrialState.j0 k l0 (decide (a1_3 > 1)) a1_0 a1_1 a1_2 a1_3) else (spec_TrialState.j0 k l0 true a1_0 a1_1 a1_2 a1_3))) else (spec_TrialState.j0 k l0 true a1_0 a1_1 a1_2 a1_3)))) (fun k => by first | rfl | unfold spec_TrialState.f; rfl) ?_
  repeat' first
    | (with_reducible exact Co.const _)
    | (with_reducible exact spec_AreMarks.F_co _)
    | (with_reducible exact spec_TrialState.J0_co _ _ _ _ _ _)
    | (with_reducible refine Co.ite ?_ ?_)
    | (with_reducible refine Co.bind ?_ (fun _ => ?_))

noncomputable def spec_Hash.L0 (x0 : List Int) (x3 : Int) (x4 : Int) : Option (Int) := lim (fun k => spec_Hash.l0 k x0 x3 x4)
theorem spec_Hash.L0_co (x0 : List Int) (x3 : Int) (x4 : Int) : Co (fun k => spec_Hash.l0 k x0 x3 x4) (spec_Hash.L0 x0 x3 x4) := Co.base (fun k => (spec_Hash.mono_l k) _ _ _)
noncomputable def spec_Hash.F (l0 : List Int) : Option (Int) := lim (fun k => spec_Hash.f k l0)
theorem spec_Hash.F_co (l0 : List Int) : Co (fun k => spec_Hash.f k l0) (spec_Hash.F l0) := Co.base (fun k => spec_Hash.mono _ k)
theorem spec_Hash.L0_eq (x0 : List Int) (x3 : Int) (x4 : Int) : spec_Hash.L0 x0 x3 x4 = (if x4 < (x0.length : Int) then (if 0 ≤ x4 then ((spec_Mod.f (rd x0 x4) 2147483647).bind fun t291 => (spec_Hash.L0 x0 (Int.tmod (wrap64 ((wrap64 ((wrap64 (x3 * 1000003)) + t291)) + 13)) 2147483647) (wrap64 (x4 + 1)))) else (none)) else (some x3)) := by
  refine Co.step (spec_Hash.L0_co x0 x3 x4) (h := fun k => (if x4 < (x0.length : Int) then (if 0 ≤ x4 then ((spec_Mod.f (rd x0 x4) 2147483647).bind fun t291 => (spec_Hash.l0 k x0 (Int.tmod (wrap64 ((wrap64 ((wrap64 (x3 * 1000003)) + t291)) + 13)) 2147483647) (wrap64 (x4 + 1)))) else (none)) else (some x3))) (fun k => by first | rfl | (simp only [spec_Hash.l0])) ?_
  repeat' first
    | (with_reducible exact Co.const _)
    | (with_reducible exact spec_Hash.L0_co _ _ _)
    | (with_reducible refine Co.ite ?_ ?_)
    | (with_reducible refine Co.bind ?_ (fun _ => ?_))
theorem spec_Hash.F_eq (l0 : List Int) : spec_Hash.F l0 = (spec_Hash.L0 l0 11 0) := by
  refine Co.same (spec_Hash.F_co l0) (h := fun k => (spec_Hash.l0 k l0 11 0)) (fun k => by first | rfl | unfold spec_Hash.f; rfl) ?_
  repeat' first
    | (with_reducible exact Co.const _)
    | (with_reducible exact spec_Hash.L0_co _ _ _)
    | (with_reducible refine Co.ite ?_ ?_)
    | (with_reducible refine Co.bind ?_ (fun _ => ?_))

noncomputable def spec_QuestionFor.J0 (x0 : List (S62)) (x1 : Int) (x2 : Int) (x19 : Bool) : Option (Int) := lim (fun k => spec_QuestionFor.j0 k x0 x1 x2 x19)
theorem spec_QuestionFor.J0_co (x0 : List (S62)) (x1 : Int) (x2 : Int) (x19 : Bool) : Co (fun k => spec_QuestionFor.j0 k x0 x1 x2 x19) (spec_QuestionFor.J0 x0 x1 x2 x19) := Co.base (fun k => (spec_QuestionFor.mono_l k) _ _ _ _)
noncomputable def spec_QuestionFor.F (l0 : List (S62)) (a1 : Int) (a2 : Int) : Option (Int) := lim (fun k => spec_QuestionFor.f k l0 a1 a2)
theorem spec_QuestionFor.F_co (l0 : List (S62)) (a1 : Int) (a2 : Int) : Co (fun k => spec_QuestionFor.f k l0 a1 a2) (spec_QuestionFor.F l0 a1 a2) := Co.base (fun k => spec_QuestionFor.mono _ _ _ k)
theorem spec_QuestionFor.J0_eq (x0 : List (S62)) (x1 : Int) (x2 : Int) (x19 : Bool) : spec_QuestionFor.J0 x0 x1 x2 x19 = (if x19 = true then (some 0) else ((spec_Hash.F (([x1] : List Int))).bind fun t297 => ((spec_Mod.f t297 (x0.length : Int)).bind fun t298 => (if (x0.length : Int) = 0 then (none) else (if 0 ≤ (Int.tmod (wrap64 (t298 + x2)) (x0.length : Int)) then (if (Int.tmod (wrap64 (t298 + x2)) (x0.length : Int)) < (x0.length : Int) then (some ((rd_T62 x0 (Int.tmod (wrap64 (t298 + x2)) (x0.length : Int))).f0)) else (none)) else (none)))))) := by
  refine Co.step (spec_QuestionFor.J0_co x0 x1 x2 x19) (h := fun k => (if x19 = true then (some 0) else ((spec_Hash.f k (([x1] : List Int))).bind fun t297 => ((spec_Mod.f t297 (x0.length : Int)).bind fun t298 => (if (x0.length : Int) = 0 then (none) else (if 0 ≤ (Int.tmod (wrap64 (t298 + x2)) (x0.length : Int)) then (if (Int.tmod (wrap64 (t298 + x2)) (x0.length : Int)) < (x0.length : Int) then (some ((rd_T62 x0 (Int.tmod (wrap64 (t298 + x2)) (x0.length : Int))).f0)) else (none)) else (none))))))) (fun k => by first | rfl | (simp only [spec_QuestionFor.j0])) ?_
  repeat' first
    | (with_reducible exact Co.const _)
    | (with_reducible exact spec_Hash.F_co _)
    | (with_reducible refine Co.ite ?_ ?_)
    | (with_reducible refine Co.bind ?_ (fun _ => ?_))
theorem spec_QuestionFor.F_eq (l0 : List (S62)) (a1 : Int) (a2 : Int) : spec_QuestionFor.F l0 a1 a2 = (if (l0.length : Int) = 0 then (spec_QuestionFor.J0 l0 a1 a2 true) else ((spec_AreMarks.F l0).bind fun t292 => (if t292 = true then ((spec_l1In.f a2 0 1000).bind fun t293 => (spec_QuestionFor.J0 l0 a1 a2 (!t293))) else (spec_QuestionFor.J0 l0 a1 a2 true)))) := by
  refine Co.same (spec_QuestionFor.F_co l0 a1 a2) (h := fun k => (if (l0.length : Int) = 0 then (spec_QuestionFor.j0 k l0 a1 a2 true) else ((spec_AreMarks.f k l0).bind fun t292 => (if t292 = true then ((spec_l1In.f a2 0 1000).bind fun t293 => (spec_QuestionFor.j0 k l0 a1 a2 (!t293))) else (spec_QuestionFor.j0 k l0 a1 a2 true))))) (fun k => by first | rfl | unfold spec_QuestionFor.f; rfl) ?_
  repeat' first
    | (with_reducible exact Co.const _)
    | (with_reducible exact spec_AreMarks.F_co _)
    | (with_reducible exact spec_QuestionFor.J0_co _ _ _ _)
    | (with_reducible refine Co.ite ?_ ?_)
    | (with_reducible refine Co.bind ?_ (fun _ => ?_))

noncomputable def spec_NextQuestion.F (l0 : List (S62)) (a1_0 : Int) (a1_1 : Int) (a1_2 : Int) (a1_3 : Int) : Option (Int) := lim (fun k => spec_NextQuestion.f k l0 a1_0 a1_1 a1_2 a1_3)
theorem spec_NextQuestion.F_co (l0 : List (S62)) (a1_0 : Int) (a1_1 : Int) (a1_2 : Int) (a1_3 : Int) : Co (fun k => spec_NextQuestion.f k l0 a1_0 a1_1 a1_2 a1_3) (spec_NextQuestion.F l0 a1_0 a1_1 a1_2 a1_3) := Co.base (fun k => spec_NextQuestion.mono _ _ _ _ _ k)
theorem spec_NextQuestion.F_eq (l0 : List (S62)) (a1_0 : Int) (a1_1 : Int) (a1_2 : Int) (a1_3 : Int) : spec_NextQuestion.F l0 a1_0 a1_1 a1_2 a1_3 = ((spec_TrialState.F l0 a1_0 a1_1 a1_2 a1_3).bind fun t301 => (if t301 = 0 then ((spec_QuestionFor.F l0 a1_0 a1_1).bind fun t302 => (some t302)) else (some 0))) := by
  refine Co.same (spec_NextQuestion.F_co l0 a1_0 a1_1 a1_2 a1_3) (h := fun k => ((spec_TrialState.f k l0 a1_0 a1_1 a1_2 a1_3).bind fun t301 => (if t301 = 0 then ((spec_QuestionFor.f k l0 a1_0 a1_1).bind fun t302 => (some t302)) else (some 0)))) (fun k => by first | rfl | unfold spec_NextQuestion.f; rfl) ?_
  repeat' first
    | (with_reducible exact Co.const _)
    | (with_reducible exact spec_QuestionFor.F_co _ _ _)
    | (with_reducible exact spec_TrialState.F_co _ _ _ _ _)
    | (with_reducible refine Co.ite ?_ ?_)
    | (with_reducible refine Co.bind ?_ (fun _ => ?_))

noncomputable def spec_GiveAnswer.F (l0 : List (S62)) (a1_0 : Int) (a1_1 : Int) (a1_2 : Int) (a1_3 : Int) (a2 : Int) : Option (Int × Int × Int × Int × Bool) := lim (fun k => spec_GiveAnswer.f k l0 a1_0 a1_1 a1_2 a1_3 a2)
theorem spec_GiveAnswer.F_co (l0 : List (S62)) (a1_0 : Int) (a1_1 : Int) (a1_2 : Int) (a1_3 : Int) (a2 : Int) : Co (fun k => spec_GiveAnswer.f k l0 a1_0 a1_1 a1_2 a1_3 a2) (spec_GiveAnswer.F l0 a1_0 a1_1 a1_2 a1_3 a2) := Co.base (fun k => spec_GiveAnswer.mono _ _ _ _ _ _ k)
theorem spec_GiveAnswer.F_eq (l0 : List (S62)) (a1_0 : Int) (a1_1 : Int) (a1_2 : Int) (a1_3 : Int) (a2 : Int) : spec_GiveAnswer.F l0 a1_0 a1_1 a1_2 a1_3 a2 = ((spec_NextQuestion.F l0 a1_0 a1_1 a1_2 a1_3).bind fun t305 => (if t305 = 0 then (some (a1_0, a1_1, a1_2, a1_3, false)) else ((spec_AnswerOf.F l0 t305).bind fun t306 => (if t306 = a2 then (some (a1_0, wrap64 (a1_1 + 1), wrap64 (a1_2 + 1), a1_3, true)) else (some (a1_0, wrap64 (a1_1 + 1), a1_2, wrap64 (a1_3 + 1), true)))))) := by
  refine Co.same (spec_GiveAnswer.F_co l0 a1_0 a1_1 a1_2 a1_3 a2) (h := fun k => ((spec_NextQuestion.f k l0 a1_0 a1_1 a1_2 a1_3).bind fun t305 => (if t305 = 0 then (some (a1_0, a1_1, a1_2, a1_3, false)) else ((spec_AnswerOf.f k l0 t305).bind fun t306 => (if t306 = a2 then (some (a1_0, wrap64 (a1_1 + 1), wrap64 (a1_2 + 1), a1_3, true)) else (some (a1_0, wrap64 (a1_1 + 1), a1_2, wrap64 (a1_3 + 1), true))))))) (fun k => by first | rfl | unfold spec_GiveAnswer.f; rfl) ?_
  repeat' first
    | (with_reducible exact Co.const _)
    | (with_reducible exact spec_AnswerOf.F_co _ _)
    | (with_reducible exact spec_NextQuestion.F_co _ _ _ _ _)
    | (with_reducible refine Co.ite ?_ ?_)
    | (with_reducible refine Co.bind ?_ (fun _ => ?_))

noncomputable def spec_l12Draw.L0 (x1 : List (S62)) (x6 : Int) (x1000 : List Int) (x1001 : Int) (x1002 : Int) (x315000 : Int) (x315001 : Int) (x315002 : Int) (x315003 : Int) : Option (Int × Int × Int × Int × Int × Int) := lim (fun k => spec_l12Draw.l0 k x1 x6 x1000 x1001 x1002 x315000 x315001 x315002 x315003)
theorem spec_l12Draw.L0_co (x1 : List (S62)) (x6 : Int) (x1000 : List Int) (x1001 : Int) (x1002 : Int) (x315000 : Int) (x315001 : Int) (x315002 : Int) (x315003 : Int) : Co (fun k => spec_l12Draw.l0 k x1 x6 x1000 x1001 x1002 x315000 x315001 x315002 x315003) (spec_l12Draw.L0 x1 x6 x1000 x1001 x1002 x315000 x315001 x315002 x315003) := Co.base (fun k => (spec_l12Draw.mono_l k) _ _ _ _ _ _ _ _ _)
noncomputable def spec_l12Draw.F (s0_0 : List Int) (s0_1 : Int) (s0_2 : Int) (l1 : List (S62)) : Option (Int × Int × Int × Int × Int × Int) := lim (fun k => spec_l12Draw.f k s0_0 s0_1 s0_2 l1)
theorem spec_l12Draw.F_co (s0_0 : List Int) (s0_1 : Int) (s0_2 : Int) (l1 : List (S62)) : Co (fun k => spec_l12Draw.f k s0_0 s0_1 s0_2 l1) (spec_l12Draw.F s0_0 s0_1 s0_2 l1) := Co.base (fun k => spec_l12Draw.mono _ _ _ _ k)
theorem spec_l12Draw.L0_eq (x1 : List (S62)) (x6 : Int) (x1000 : List Int) (x1001 : Int) (x1002 : Int) (x315000 : Int) (x315001 : Int) (x315002 : Int) (x315003 : Int) : spec_l12Draw.L0 x1 x6 x1000 x1001 x1002 x315000 x315001 x315002 x315003 = (if x6 > 0 then ((spec_NextQuestion.F x1 x315000 x315001 x315002 x315003).bind fun t318 => ((spec_AnswerOf.F x1 t318).bind fun t319 => ((spec_l1Once.f x1000 x1001 x1002 4).bind fun bt320 => (if bt320.1 = true then ((spec_l1Below.f x1000 bt320.2.1 bt320.2.2 9).bind fun bt323 => ((spec_GiveAnswer.F x1 x315000 x315001 x315002 x315003 bt323.1).bind fun bt326 => (spec_l12Draw.L0 x1 (wrap64 (x6 - 1)) x1000 bt323.2.1 bt323.2.2 bt326.1 bt326.2.1 bt326.2.2.1 bt326.2.2.2.1))) else ((spec_GiveAnswer.F x1 x315000 x315001 x315002 x315003 t319).bind fun bt331 => (spec_l12Draw.L0 x1 (wrap64 (x6 - 1)) x1000 bt320.2.1 bt320.2.2 bt331.1 bt331.2.1 bt331.2.2.1 bt331.2.2.2.1)))))) else (some (x315000, x315001, x315002, x315003, x1001, x1002))) := by
  refine Co.step (spec_l12Draw.L0_co x1 x6 x1000 x1001 x1002 x315000 x315001 x315002 x315003) (h := fun k => (if x6 > 0 then ((spec_NextQuestion.f k x1 x315000 x315001 x315002 x315003).bind fun t318 => ((spec_AnswerOf.f k x1 t318).bind fun t319 => ((spec_l1Once.f x1000 x1001 x1002 4).bind fun bt320 => (if bt320.1 = true then ((spec_l1Below.f x1000 bt320.2.1 bt320.2.2 9).bind fun bt323 => ((spec_GiveAnswer.f k x1 x315000 x315001 x315002 x315003 bt323.1).bind fun bt326 => (spec_l12Draw.l0 k x1 (wrap64 (x6 - 1)) x1000 bt323.2.1 bt323.2.2 bt326.1 bt326.2.1 bt326.2.2.1 bt326.2.2.2.1))) else ((spec_GiveAnswer.f k x1 x315000 x315001 x315002 x315003 t319).bind fun bt331 => (spec_l12Draw.l0 k x1 (wrap64 (x6 - 1)) x1000 bt320.2.1 bt320.2.2 bt331.1 bt331.2.1 bt331.2.2.1 bt331.2.2.2.1)))))) else (some (x315000, x315001, x315002, x315003, x1001, x1002)))) (fun k => by first | rfl | (simp only [spec_l12Draw.l0])) ?_
  repeat' first
    | (with_reducible exact Co.const _)
    | (with_reducible exact spec_AnswerOf.F_co _ _)
    | (with_reducible exact spec_GiveAnswer.F_co _ _ _ _ _ _)
    | (with_reducible exact spec_NextQuestion.F_co _ _ _ _ _)
    | (with_reducible exact spec_l12Draw.L0_co _ _ _ _ _ _ _ _ _)
    | (with_reducible refine Co.ite ?_ ?_)
    | (with_reducible refine Co.bind ?_ (fun _ => ?_))
theorem spec_l12Draw.F_eq (s0_0 : List Int) (s0_1 : Int) (s0_2 : Int) (l1 : List (S62)) : spec_l12Draw.F s0_0 s0_1 s0_2 l1 = ((spec_l1Below.f s0_0 s0_1 s0_2 20).bind fun bt311 => ((spec_l1Below.f s0_0 bt311.2.1 bt311.2.2 4).bind fun bt315 => (spec_l12Draw.L0 l1 bt315.1 s0_0 bt315.2.1 bt315.2.2 (wrap64 (1 + bt311.1)) 0 0 0))) := by
  refine Co.same (spec_l12Draw.F_co s0_0 s0_1 s0_2 l1) (h := fun k => ((spec_l1Below.f s0_0 s0_1 s0_2 20).bind fun bt311 => ((spec_l1Below.f s0_0 bt311.2.1 bt311.2.2 4).bind fun bt315 => (spec_l12Draw.l0 k l1 bt315.1 s0_0 bt315.2.1 bt315.2.2 (wrap64 (1 + bt311.1)) 0 0 0)))) (fun k => by first | rfl | unfold spec_l12Draw.f; rfl) ?_
  repeat' first
    | (with_reducible exact Co.const _)
    | (with_reducible exact spec_l12Draw.L0_co _ _ _ _ _ _ _ _ _)
    | (with_reducible refine Co.ite ?_ ?_)
    | (with_reducible refine Co.bind ?_ (fun _ => ?_))

noncomputable def spec_l12Any.F (s0_0 : List Int) (s0_1 : Int) (s0_2 : Int) : Option ((List (S62)) × Int × Int × Int × Int × Int × Int) := lim (fun k => spec_l12Any.f k s0_0 s0_1 s0_2)
theorem spec_l12Any.F_co (s0_0 : List Int) (s0_1 : Int) (s0_2 : Int) : Co (fun k => spec_l12Any.f k s0_0 s0_1 s0_2) (spec_l12Any.F s0_0 s0_1 s0_2) := Co.base (fun k => spec_l12Any.mono _ _ _ k)
theorem spec_l12Any.F_eq (s0_0 : List Int) (s0_1 : Int) (s0_2 : Int) : spec_l12Any.F s0_0 s0_1 s0_2 = ((spec_l11Any.F s0_0 s0_1 s0_2).bind fun bt337 => ((spec_l12Draw.F s0_0 bt337.2.1 bt337.2.2 bt337.1).bind fun bt342 => ((spec_l1Below.f s0_0 bt342.2.2.2.2.1 bt342.2.2.2.2.2 10).bind fun bt349 => (if bt349.1 = 0 then ((spec_l1Int.f s0_0 bt349.2.1 bt349.2.2 (([0, 999, 1000] : List Int))).bind fun bt355 => (some (bt337.1, bt355.1, bt342.2.1, bt342.2.2.1, bt342.2.2.2.1, bt355.2.1, bt355.2.2))) else (if bt349.1 = 1 then ((spec_l4Raw.f s0_0 bt349.2.1 bt349.2.2).bind fun bt358 => (some (bt337.1, bt342.1, bt342.2.1, bt358.1, bt342.2.2.2.1, bt358.2.1, bt358.2.2))) else (if bt349.1 = 2 then ((spec_l1Below.f s0_0 bt349.2.1 bt349.2.2 4).bind fun bt361 => (some (bt337.1, bt342.1, wrap64 (bt342.2.2.1 + bt361.1), bt342.2.2.1, bt361.1, bt361.2.1, bt361.2.2))) else (some (bt337.1, bt342.1, bt342.2.1, bt342.2.2.1, bt342.2.2.2.1, bt349.2.1, bt349.2.2)))))))) := by
  refine Co.same (spec_l12Any.F_co s0_0 s0_1 s0_2) (h := fun k => ((spec_l11Any.f k s0_0 s0_1 s0_2).bind fun bt337 => ((spec_l12Draw.f k s0_0 bt337.2.1 bt337.2.2 bt337.1).bind fun bt342 => ((spec_l1Below.f s0_0 bt342.2.2.2.2.1 bt342.2.2.2.2.2 10).bind fun bt349 => (if bt349.1 = 0 then ((spec_l1Int.f s0_0 bt349.2.1 bt349.2.2 (([0, 999, 1000] : List Int))).bind fun bt355 => (some (bt337.1, bt355.1, bt342.2.1, bt342.2.2.1, bt342.2.2.2.1, bt355.2.1, bt355.2.2))) else (if bt349.1 = 1 then ((spec_l4Raw.f s0_0 bt349.2.1 bt349.2.2).bind fun bt358 => (some (bt337.1, bt342.1, bt342.2.1, bt358.1, bt342.2.2.2.1, bt358.2.1, bt358.2.2))) else (if bt349.1 = 2 then ((spec_l1Below.f s0_0 bt349.2.1 bt349.2.2 4).bind fun bt361 => (some (bt337.1, bt342.1, wrap64 (bt342.2.2.1 + bt361.1), bt342.2.2.1, bt361.1, bt361.2.1, bt361.2.2))) else (some (bt337.1, bt342.1, bt342.2.1, bt342.2.2.1, bt342.2.2.2.1, bt349.2.1, bt349.2.2))))))))) (fun k => by first | rfl | unfold spec_l12Any.f; rfl) ?_
  repeat' first
    | (with_reducible exact Co.const _)
    | (with_reducible exact spec_l11Any.F_co _ _ _)
    | (with_reducible exact spec_l12Draw.F_co _ _ _ _)
    | (with_reducible refine Co.ite ?_ ?_)
    | (with_reducible refine Co.bind ?_ (fun _ => ?_))

noncomputable def spec_DrawTrialState.F (l0 : List Int) : Option ((List (S62)) × Int × Int × Int × Int) := lim (fun k => spec_DrawTrialState.f k l0)
theorem spec_DrawTrialState.F_co (l0 : List Int) : Co (fun k => spec_DrawTrialState.f k l0) (spec_DrawTrialState.F l0) := Co.base (fun k => spec_DrawTrialState.mono _ k)
theorem spec_DrawTrialState.F_eq (l0 : List Int) : spec_DrawTrialState.F l0 = ((spec_l1New.F l0).bind fun bt365 => ((spec_l12Any.F bt365.1 bt365.2.1 bt365.2.2).bind fun bt369 => (some (bt369.1, bt369.2.1, bt369.2.2.1, bt369.2.2.2.1, bt369.2.2.2.2.1)))) := by
  refine Co.same (spec_DrawTrialState.F_co l0) (h := fun k => ((spec_l1New.f k l0).bind fun bt365 => ((spec_l12Any.f k bt365.1 bt365.2.1 bt365.2.2).bind fun bt369 => (some (bt369.1, bt369.2.1, bt369.2.2.1, bt369.2.2.2.1, bt369.2.2.2.2.1))))) (fun k => by first | rfl | unfold spec_DrawTrialState.f; rfl) ?_
  repeat' first
    | (with_reducible exact Co.const _)
    | (with_reducible exact spec_l12Any.F_co _ _ _)
    | (with_reducible exact spec_l1New.F_co _)
    | (with_reducible refine Co.ite ?_ ?_)
    | (with_reducible refine Co.bind ?_ (fun _ => ?_))

noncomputable def spec_DrawGiveAnswer.F (l0 : List Int) : Option ((List (S62)) × Int × Int × Int × Int × Int) := lim (fun k => spec_DrawGiveAnswer.f k l0)
theorem spec_DrawGiveAnswer.F_co (l0 : List Int) : Co (fun k => spec_DrawGiveAnswer.f k l0) (spec_DrawGiveAnswer.F l0) := Co.base (fun k => spec_DrawGiveAnswer.mono _ k)
theorem spec_DrawGiveAnswer.F_eq (l0 : List Int) : spec_DrawGiveAnswer.F l0 = ((spec_DrawTrialState.F l0).bind fun bt379 => ((spec_l1New.F l0).bind fun bt387 => ((spec_NextQuestion.F bt379.1 bt379.2.1 bt379.2.2.1 bt379.2.2.2.1 bt379.2.2.2.2).bind fun t391 => ((spec_AnswerOf.F bt379.1 t391).bind fun t392 => ((spec_l1Once.f bt387.1 bt387.2.1 bt387.2.2 3).bind fun bt393 => (if bt393.1 = true then ((spec_l1Below.f bt387.1 bt393.2.1 bt393.2.2 9).bind fun bt396 => (some (bt379.1, bt379.2.1, bt379.2.2.1, bt379.2.2.2.1, bt379.2.2.2.2, bt396.1))) else (some (bt379.1, bt379.2.1, bt379.2.2.1, bt379.2.2.2.1, bt379.2.2.2.2, t392)))))))) := by
  refine Co.same (spec_DrawGiveAnswer.F_co l0) (h := fun k => ((spec_DrawTrialState.f k l0).bind fun bt379 => ((spec_l1New.f k l0).bind fun bt387 => ((spec_NextQuestion.f k bt379.1 bt379.2.1 bt379.2.2.1 bt379.2.2.2.1 bt379.2.2.2.2).bind fun t391 => ((spec_AnswerOf.f k bt379.1 t391).bind fun t392 => ((spec_l1Once.f bt387.1 bt387.2.1 bt387.2.2 3).bind fun bt393 => (if bt393.1 = true then ((spec_l1Below.f bt387.1 bt393.2.1 bt393.2.2 9).bind fun bt396 => (some (bt379.1, bt379.2.1, bt379.2.2.1, bt379.2.2.2.1, bt379.2.2.2.2, bt396.1))) else (some (bt379.1, bt379.2.1, bt379.2.2.1, bt379.2.2.2.1, bt379.2.2.2.2, t392))))))))) (fun k => by first | rfl | unfold spec_DrawGiveAnswer.f; rfl) ?_
  repeat' first
    | (with_reducible exact Co.const _)
    | (with_reducible exact spec_AnswerOf.F_co _ _)
    | (with_reducible exact spec_DrawTrialState.F_co _)
    | (with_reducible exact spec_NextQuestion.F_co _ _ _ _ _)
    | (with_reducible exact spec_l1New.F_co _)
    | (with_reducible refine Co.ite ?_ ?_)
    | (with_reducible refine Co.bind ?_ (fun _ => ?_))

noncomputable def spec_DrawAnswerAll.L0 (x5 : List (S62)) (x8 : List Int) (x9 : Int) (x408000 : Int) (x408001 : Int) (x408002 : Int) (x408003 : Int) (x412000 : List Int) (x412001 : Int) (x412002 : Int) : Option ((List (S62)) × Int × Int × Int × Int × List Int) := lim (fun k => spec_DrawAnswerAll.l0 k x5 x8 x9 x408000 x408001 x408002 x408003 x412000 x412001 x412002)
theorem spec_DrawAnswerAll.L0_co (x5 : List (S62)) (x8 : List Int) (x9 : Int) (x408000 : Int) (x408001 : Int) (x408002 : Int) (x408003 : Int) (x412000 : List Int) (x412001 : Int) (x412002 : Int) : Co (fun k => spec_DrawAnswerAll.l0 k x5 x8 x9 x408000 x408001 x408002 x408003 x412000 x412001 x412002) (spec_DrawAnswerAll.L0 x5 x8 x9 x408000 x408001 x408002 x408003 x412000 x412001 x412002) := Co.base (fun k => (spec_DrawAnswerAll.mono_l k) _ _ _ _ _ _ _ _ _ _)
noncomputable def spec_DrawAnswerAll.F (l0 : List Int) : Option ((List (S62)) × Int × Int × Int × Int × List Int) := lim (fun k => spec_DrawAnswerAll.f k l0)
theorem spec_DrawAnswerAll.F_co (l0 : List Int) : Co (fun k => spec_DrawAnswerAll.f k l0) (spec_DrawAnswerAll.F l0) := Co.base (fun k => spec_DrawAnswerAll.mono _ k)
theorem spec_DrawAnswerAll.L0_eq (x5 : List (S62)) (x8 : List Int) (x9 : Int) (x408000 : Int) (x408001 : Int) (x408002 : Int) (x408003 : Int) (x412000 : List Int) (x412001 : Int) (x412002 : Int) : spec_DrawAnswerAll.L0 x5 x8 x9 x408000 x408001 x408002 x408003 x412000 x412001 x412002 = (if x9 > 0 then ((spec_l1Below.f x412000 x412001 x412002 9).bind fun bt418 => (if x8.length < 17592186044416 then (spec_DrawAnswerAll.L0 x5 (x8 ++ [bt418.1]) (wrap64 (x9 - 1)) x408000 x408001 x408002 x408003 x412000 bt418.2.1 bt418.2.2) else (none))) else (some (x5, x408000, x408001, x408002, x408003, x8))) := by
  refine Co.step (spec_DrawAnswerAll.L0_co x5 x8 x9 x408000 x408001 x408002 x408003 x412000 x412001 x412002) (h := fun k => (if x9 > 0 then ((spec_l1Below.f x412000 x412001 x412002 9).bind fun bt418 => (if x8.length < 17592186044416 then (spec_DrawAnswerAll.l0 k x5 (x8 ++ [bt418.1]) (wrap64 (x9 - 1)) x408000 x408001 x408002 x408003 x412000 bt418.2.1 bt418.2.2) else (none))) else (some (x5, x408000, x408001, x408002, x408003, x8)))) (fun k => by first | rfl | (simp only [spec_DrawAnswerAll.l0])) ?_
  repeat' first
    | (with_reducible exact Co.const _)
    | (with_reducible exact spec_DrawAnswerAll.L0_co _ _ _ _ _ _ _ _ _ _)
    | (with_reducible refine Co.ite ?_ ?_)
    | (with_reducible refine Co.bind ?_ (fun _ => ?_))
theorem spec_DrawAnswerAll.F_eq (l0 : List Int) : spec_DrawAnswerAll.F l0 = ((spec_DrawTrialState.F l0).bind fun bt400 => ((spec_l1New.F l0).bind fun bt408 => ((spec_l1Below.f bt408.1 bt408.2.1 bt408.2.2 6).bind fun bt415 => (spec_DrawAnswerAll.L0 bt400.1 (([] : List Int)) bt415.1 bt400.2.1 bt400.2.2.1 bt400.2.2.2.1 bt400.2.2.2.2 bt408.1 bt415.2.1 bt415.2.2)))) := by
  refine Co.same (spec_DrawAnswerAll.F_co l0) (h := fun k => ((spec_DrawTrialState.f k l0).bind fun bt400 => ((spec_l1New.f k l0).bind fun bt408 => ((spec_l1Below.f bt408.1 bt408.2.1 bt408.2.2 6).bind fun bt415 => (spec_DrawAnswerAll.l0 k bt400.1 (([] : List Int)) bt415.1 bt400.2.1 bt400.2.2.1 bt400.2.2.2.1 bt400.2.2.2.2 bt408.1 bt415.2.1 bt415.2.2))))) (fun k => by first | rfl | unfold spec_DrawAnswerAll.f; rfl) ?_
  repeat' first
    | (with_reducible exact Co.const _)
    | (with_reducible exact spec_DrawAnswerAll.L0_co _ _ _ _ _ _ _ _ _ _)
    | (with_reducible exact spec_DrawTrialState.F_co _)
    | (with_reducible exact spec_l1New.F_co _)
    | (with_reducible refine Co.ite ?_ ?_)
    | (with_reducible refine Co.bind ?_ (fun _ => ?_))

noncomputable def laws_FnTrials.J0 (x0 : List Int) (x3 : List (S62)) (x61 : Bool) (x434000 : Int) (x434001 : Int) (x434002 : Int) (x434003 : Int) : Option (Bool) := lim (fun k => laws_FnTrials.j0 k x0 x3 x61 x434000 x434001 x434002 x434003)
theorem laws_FnTrials.J0_co (x0 : List Int) (x3 : List (S62)) (x61 : Bool) (x434000 : Int) (x434001 : Int) (x434002 : Int) (x434003 : Int) : Co (fun k => laws_FnTrials.j0 k x0 x3 x61 x434000 x434001 x434002 x434003) (laws_FnTrials.J0 x0 x3 x61 x434000 x434001 x434002 x434003) := Co.base (fun k => (laws_FnTrials.mono_l k).1 _ _ _ _ _ _ _)
noncomputable def laws_FnTrials.J1 (x0 : List Int) (x3 : List (S62)) (x72 : Bool) : Option (Bool) := lim (fun k => laws_FnTrials.j1 k x0 x3 x72)
theorem laws_FnTrials.J1_co (x0 : List Int) (x3 : List (S62)) (x72 : Bool) : Co (fun k => laws_FnTrials.j1 k x0 x3 x72) (laws_FnTrials.J1 x0 x3 x72) := Co.base (fun k => (laws_FnTrials.mono_l k).2.1 _ _ _)
noncomputable def laws_FnTrials.J2 (x0 : List Int) (x3 : List (S62)) (x79 : Bool) : Option (Bool) := lim (fun k => laws_FnTrials.j2 k x0 x3 x79)
theorem laws_FnTrials.J2_co (x0 : List Int) (x3 : List (S62)) (x79 : Bool) : Co (fun k => laws_FnTrials.j2 k x0 x3 x79) (laws_FnTrials.J2 x0 x3 x79) := Co.base (fun k => (laws_FnTrials.mono_l k).2.2.1 _ _ _)
noncomputable def laws_FnTrials.L0 (x0 : List Int) (x3 : List (S62)) (x10 : Int) (x446000 : Int) (x446001 : Int) (x446002 : Int) (x446003 : Int) : Option (Bool) := lim (fun k => laws_FnTrials.l0 k x0 x3 x10 x446000 x446001 x446002 x446003)
theorem laws_FnTrials.L0_co (x0 : List Int) (x3 : List (S62)) (x10 : Int) (x446000 : Int) (x446001 : Int) (x446002 : Int) (x446003 : Int) : Co (fun k => laws_FnTrials.l0 k x0 x3 x10 x446000 x446001 x446002 x446003) (laws_FnTrials.L0 x0 x3 x10 x446000 x446001 x446002 x446003) := Co.base (fun k => (laws_FnTrials.mono_l k).2.2.2.1 _ _ _ _ _ _ _)
noncomputable def laws_FnTrials.J4 (x0 : List Int) (x116 : Bool) : Option (Bool) := lim (fun k => laws_FnTrials.j4 k x0 x116)
theorem laws_FnTrials.J4_co (x0 : List Int) (x116 : Bool) : Co (fun k => laws_FnTrials.j4 k x0 x116) (laws_FnTrials.J4 x0 x116) := Co.base (fun k => (laws_FnTrials.mono_l k).2.2.2.2 _ _)
noncomputable def laws_FnTrials.F (l0 : List Int) : Option (Bool) := lim (fun k => laws_FnTrials.f k l0)
theorem laws_FnTrials.F_co (l0 : List Int) : Co (fun k => laws_FnTrials.f k l0) (laws_FnTrials.F l0) := Co.base (fun k => laws_FnTrials.mono _ k)
theorem laws_FnTrials.J0_eq (x0 : List Int) (x3 : List (S62)) (x61 : Bool) (x434000 : Int) (x434001 : Int) (x434002 : Int) (x434003 : Int) : laws_FnTrials.J0 x0 x3 x61 x434000 x434001 x434002 x434003 = (if x61 = true then (some false) else ((impl_TrialState.F x3 x434000 x434001 x434002 x434003).bind fun t442 => (if t442 = 0 then (laws_FnTrials.J1 x0 x3 false) else ((impl_NextQuestion.F x3 x434000 x434001 x434002 x434003).bind fun t443 => (laws_FnTrials.J1 x0 x3 (t443 != 0)))))) := by
  refine Co.step (laws_FnTrials.J0_co x0 x3 x61 x434000 x434001 x434002 x434003) (h := fun k => (if x61 = true then (some false) else ((impl_TrialState.f k x3 x434000 x434001 x434002 x434003).bind fun t442 => (if t442 = 0 then (laws_FnTrials.j1 k x0 x3 false) else ((impl_NextQuestion.f k x3 x434000 x434001 x434002 x434003).bind fun t443 => (laws_FnTrials.j1 k x0 x3 (t443 != 0))))))) (fun k => by first | rfl | (simp only [laws_FnTrials.j0])) ?_
  repeat' first
    | (with_reducible exact Co.const _)
    | (with_reducible exact impl_NextQuestion.F_co _ _ _ _ _)
    | (with_reducible exact impl_TrialState.F_co _ _ _ _ _)
    | (with_reducible exact laws_FnTrials.J1_co _ _ _)
    | (with_reducible refine Co.ite ?_ ?_)
    | (with_reducible refine Co.bind ?_ (fun _ => ?_))
theorem laws_FnTrials.J1_eq (x0 : List Int) (x3 : List (S62)) (x72 : Bool) : laws_FnTrials.J1 x0 x3 x72 = (if x72 = true then (some false) else ((impl_AreMarks.F x3).bind fun t444 => (if t444 = true then (laws_FnTrials.J2 x0 x3 (decide ((x3.length : Int) > 0))) else (laws_FnTrials.J2 x0 x3 false)))) := by
  refine Co.step (laws_FnTrials.J1_co x0 x3 x72) (h := fun k => (if x72 = true then (some false) else ((impl_AreMarks.f k x3).bind fun t444 => (if t444 = true then (laws_FnTrials.j2 k x0 x3 (decide ((x3.length : Int) > 0))) else (laws_FnTrials.j2 k x0 x3 false))))) (fun k => by first | rfl | (simp only [laws_FnTrials.j1])) ?_
  repeat' first
    | (with_reducible exact Co.const _)
    | (with_reducible exact impl_AreMarks.F_co _)
    | (with_reducible exact laws_FnTrials.J2_co _ _ _)
    | (with_reducible refine Co.ite ?_ ?_)
    | (with_reducible refine Co.bind ?_ (fun _ => ?_))
theorem laws_FnTrials.J2_eq (x0 : List Int) (x3 : List (S62)) (x79 : Bool) : laws_FnTrials.J2 x0 x3 x79 = (if x79 = true then (laws_FnTrials.L0 x0 x3 0 7 0 0 0) else ((spec_DrawAnswerAll.F x0).bind fun bt480 => ((impl_AnswerAll.F bt480.1 bt480.2.1 bt480.2.2.1 bt480.2.2.2.1 bt480.2.2.2.2.1 bt480.2.2.2.2.2).bind fun bt491 => (if bt491.2.2.1 ≥ bt480.2.2.2.1 then (if bt491.2.2.2 ≥ bt480.2.2.2.2.1 then (some (decide ((wrap64 (bt491.2.1 - bt480.2.2.1)) ≤ (bt480.2.2.2.2.2.length : Int)))) else (some false)) else (some false))))) := by
  refine Co.step (laws_FnTrials.J2_co x0 x3 x79) (h := fun k => (if x79 = true then (laws_FnTrials.l0 k x0 x3 0 7 0 0 0) else ((spec_DrawAnswerAll.f k x0).bind fun bt480 => ((impl_AnswerAll.f k bt480.1 bt480.2.1 bt480.2.2.1 bt480.2.2.2.1 bt480.2.2.2.2.1 bt480.2.2.2.2.2).bind fun bt491 => (if bt491.2.2.1 ≥ bt480.2.2.2.1 then (if bt491.2.2.2 ≥ bt480.2.2.2.2.1 then (some (decide ((wrap64 (bt491.2.1 - bt480.2.2.1)) ≤ (bt480.2.2.2.2.2.length : Int)))) else (some false)) else (some false)))))) (fun k => by first | rfl | (simp only [laws_FnTrials.j2])) ?_
  repeat' first
    | (with_reducible exact Co.const _)
    | (with_reducible exact impl_AnswerAll.F_co _ _ _ _ _ _)
    | (with_reducible exact laws_FnTrials.L0_co _ _ _ _ _ _ _)
    | (with_reducible exact spec_DrawAnswerAll.F_co _)
    | (with_reducible refine Co.ite ?_ ?_)
    | (with_reducible refine Co.bind ?_ (fun _ => ?_))
theorem laws_FnTrials.L0_eq (x0 : List Int) (x3 : List (S62)) (x10 : Int) (x446000 : Int) (x446001 : Int) (x446002 : Int) (x446003 : Int) : laws_FnTrials.L0 x0 x3 x10 x446000 x446001 x446002 x446003 = ((impl_NeedFor.f x3).bind fun t446 => (if x10 < t446 then ((impl_NextQuestion.F x3 x446000 x446001 x446002 x446003).bind fun t447 => ((impl_AnswerOf.F x3 t447).bind fun t448 => ((impl_GiveAnswer.F x3 x446000 x446001 x446002 x446003 t448).bind fun bt449 => (laws_FnTrials.L0 x0 x3 (wrap64 (x10 + 1)) bt449.1 bt449.2.1 bt449.2.2.1 bt449.2.2.2.1)))) else ((impl_AnswerAll.F x3 7 0 0 0 (([(-5), (-5), (-5)] : List Int))).bind fun bt457 => ((impl_TrialState.F x3 x446000 x446001 x446002 x446003).bind fun t462 => (if t462 = 1 then ((impl_TrialState.F x3 bt457.1 bt457.2.1 bt457.2.2.1 bt457.2.2.2).bind fun t463 => (if t463 = 2 then (laws_FnTrials.J4 x0 (bt457.2.2.2 != 2)) else (laws_FnTrials.J4 x0 true))) else (laws_FnTrials.J4 x0 true)))))) := by
  refine Co.step (laws_FnTrials.L0_co x0 x3 x10 x446000 x446001 x446002 x446003) (h := fun k => ((impl_NeedFor.f x3).bind fun t446 => (if x10 < t446 then ((impl_NextQuestion.f k x3 x446000 x446001 x446002 x446003).bind fun t447 => ((impl_AnswerOf.f k x3 t447).bind fun t448 => ((impl_GiveAnswer.f k x3 x446000 x446001 x446002 x446003 t448).bind fun bt449 => (laws_FnTrials.l0 k x0 x3 (wrap64 (x10 + 1)) bt449.1 bt449.2.1 bt449.2.2.1 bt449.2.2.2.1)))) else ((impl_AnswerAll.f k x3 7 0 0 0 (([(-5), (-5), (-5)] : List Int))).bind fun bt457 => ((impl_TrialState.f k x3 x446000 x446001 x446002 x446003).bind fun t462 => (if t462 = 1 then ((impl_TrialState.f k x3 bt457.1 bt457.2.1 bt457.2.2.1 bt457.2.2.2).bind fun t463 => (if t463 = 2 then (laws_FnTrials.j4 k x0 (bt457.2.2.2 != 2)) else (laws_FnTrials.j4 k x0 true))) else (laws_FnTrials.j4 k x0 true))))))) (fun k => by first | rfl | (simp only [laws_FnTrials.l0])) ?_
  repeat' first
    | (with_reducible exact Co.const _)
    | (with_reducible exact impl_AnswerAll.F_co _ _ _ _ _ _)
    | (with_reducible exact impl_AnswerOf.F_co _ _)
    | (with_reducible exact impl_GiveAnswer.F_co _ _ _ _ _ _)
    | (with_reducible exact impl_NextQuestion.F_co _ _ _ _ _)
    | (with_reducible exact impl_TrialState.F_co _ _ _ _ _)
    | (with_reducible exact laws_FnTrials.J4_co _ _)
    | (with_reducible exact laws_FnTrials.L0_co _ _ _ _ _ _ _)
    | (with_reducible refine Co.ite ?_ ?_)
    | (with_reducible refine Co.bind ?_ (fun _ => ?_))
theorem laws_FnTrials.J4_eq (x0 : List Int) (x116 : Bool) : laws_FnTrials.J4 x0 x116 = (if x116 = true then (some false) else ((spec_DrawAnswerAll.F x0).bind fun bt464 => ((impl_AnswerAll.F bt464.1 bt464.2.1 bt464.2.2.1 bt464.2.2.2.1 bt464.2.2.2.2.1 bt464.2.2.2.2.2).bind fun bt475 => (if bt475.2.2.1 ≥ bt464.2.2.2.1 then (if bt475.2.2.2 ≥ bt464.2.2.2.2.1 then (some (decide ((wrap64 (bt475.2.1 - bt464.2.2.1)) ≤ (bt464.2.2.2.2.2.length : Int)))) else (some false)) else (some false))))) := by
  refine Co.step (laws_FnTrials.J4_co x0 x116) (h := fun k => (if x116 = true then (some false) else ((spec_DrawAnswerAll.f k x0).bind fun bt464 => ((impl_AnswerAll.f k bt464.1 bt464.2.1 bt464.2.2.1 bt464.2.2.2.1 bt464.2.2.2.2.1 bt464.2.2.2.2.2).bind fun bt475 => (if bt475.2.2.1 ≥ bt464.2.2.2.1 then (if bt475.2.2.2 ≥ bt464.2.2.2.2.1 then (some (decide ((wrap64 (bt475.2.1 - bt464.2.2.1)) ≤ (bt464.2.2.2.2.2.length : Int)))) else (some false)) else (some false)))))) (fun k => by first | rfl | (simp only [laws_FnTrials.j4])) ?_
  repeat' first
    | (with_reducible exact Co.const _)
    | (with_reducible exact impl_AnswerAll.F_co _ _ _ _ _ _)
    | (with_reducible exact spec_DrawAnswerAll.F_co _)
    | (with_reducible refine Co.ite ?_ ?_)
    | (with_reducible refine Co.bind ?_ (fun _ => ?_))
theorem laws_FnTrials.F_eq (l0 : List Int) : laws_FnTrials.F l0 = ((laws_big.f l0).bind fun t424 => (if t424 = true then (some true) else ((spec_DrawGiveAnswer.F l0).bind fun bt425 => ((impl_GiveAnswer.F bt425.1 bt425.2.1 bt425.2.2.1 bt425.2.2.2.1 bt425.2.2.2.2.1 bt425.2.2.2.2.2).bind fun bt434 => ((impl_NextQuestion.F bt425.1 bt425.2.1 bt425.2.2.1 bt425.2.2.2.1 bt425.2.2.2.2.1).bind fun t440 => (if (bt434.2.2.2.2 != (t440 != 0)) = true then (laws_FnTrials.J0 l0 bt425.1 true bt425.2.1 bt425.2.2.1 bt425.2.2.2.1 bt425.2.2.2.2.1) else (if bt434.2.2.2.2 = true then ((impl_IsTrial.f bt434.1 bt434.2.1 bt434.2.2.1 bt434.2.2.2.1).bind fun t441 => (if t441 = true then (if bt434.2.1 = (wrap64 (bt425.2.2.1 + 1)) then (laws_FnTrials.J0 l0 bt425.1 false bt425.2.1 bt425.2.2.1 bt425.2.2.2.1 bt425.2.2.2.2.1) else (laws_FnTrials.J0 l0 bt425.1 true bt425.2.1 bt425.2.2.1 bt425.2.2.2.1 bt425.2.2.2.2.1)) else (laws_FnTrials.J0 l0 bt425.1 true bt425.2.1 bt425.2.2.1 bt425.2.2.2.1 bt425.2.2.2.2.1))) else (laws_FnTrials.J0 l0 bt425.1 (!(bt434.1 == bt425.2.1) || (!(bt434.2.1 == bt425.2.2.1) || (!(bt434.2.2.1 == bt425.2.2.2.1) || (!(bt434.2.2.2.1 == bt425.2.2.2.2.1))))) bt425.2.1 bt425.2.2.1 bt425.2.2.2.1 bt425.2.2.2.2.1)))))))) := by
  refine Co.same (laws_FnTrials.F_co l0) (h := fun k => ((laws_big.f l0).bind fun t424 => (if t424 = true then (some true) else ((spec_DrawGiveAnswer.f k l0).bind fun bt425 => ((impl_GiveAnswer.f k bt425.1 bt425.2.1 bt425.2.2.1 bt425.2.2.2.1 bt425.2.2.2.2.1 bt425.2.2.2.2.2).bind fun bt434 => ((impl_NextQuestion.f k bt425.1 bt425.2.1 bt425.2.2.1 bt425.2.2.2.1 bt425.2.2.2.2.1).bind fun t440 => (if (bt434.2.2.2.2 != (t440 != 0)) = true then (laws_FnTrials.j0 k l0 bt425.1 true bt425.2.1 bt425.2.2.1 bt425.2.2.2.1 bt425.2.2.2.2.1) else (if bt434.2.2.2.2 = true then ((impl_IsTrial.f bt434.1 bt434.2.1 bt434.2.2.1 bt434.2.2.2.1).bind fun t441 => (if t441 = true then (if bt434.2.1 = (wrap64 (bt425.2.2.1 + 1)) then (laws_FnTrials.j0 k l0 bt425.1 false bt425.2.1 bt425.2.2.1 bt425.2.2.2.1 bt425.2.2.2.2.1) else (laws_FnTrials.j0 k l0 bt425.1 true bt425.2.1 bt425.2.2.1 bt425.2.2.2.1 bt425.2.2.2.2.1)) else (laws_FnTrials.j0 k l0 bt425.1 true bt425.2.1 bt425.2.2.1 bt425.2.2.2.1 bt425.2.2.2.2.1))) else (laws_FnTrials.j0 k l0 bt425.1 (!(bt434.1 == bt425.2.1) || (!(bt434.2.1 == bt425.2.2.1) || (!(bt434.2.2.1 == bt425.2.2.2.1) || (!(bt434.2.2.2.1 == bt425.2.2.2.2.1))))) bt425.2.1 bt425.2.2.1 bt425.2.2.2.1 bt425.2.2.2.2.1))))))))) (fun k => by first | rfl | unfold laws_FnTrials.f; rfl) ?_
  repeat' first
    | (with_reducible exact Co.const _)
    | (with_reducible exact impl_GiveAnswer.F_co _ _ _ _ _ _)
    | (with_reducible exact impl_NextQuestion.F_co _ _ _ _ _)
    | (with_reducible exact laws_FnTrials.J0_co _ _ _ _ _ _ _)
    | (with_reducible exact spec_DrawGiveAnswer.F_co _)
    | (with_reducible refine Co.ite ?_ ?_)
    | (with_reducible refine Co.bind ?_ (fun _ => ?_))

end Go.Proofs.Ytppgealmedaihaa.PFnTrials.Pure
