/-
  The printed functions that this law reaches, their rounds used up, and the equations that they meet.
-/
import Derived.Test.YtjokfllhbmodeaaPFnExactQuestionForx1
import Derived.Test.YtjokfllhbmodeaaPFnExactQuestionForx2
import Derived.Test.YtjokfllhbmodeaaPFnExactQuestionForx3
import Derived.Test.YtjokfllhbmodeaaLim
namespace Go.Proofs.Ytjokfllhbmodeaa.PFnExactQuestionFor.Pure
open Go.RowKit Go.Proofs.YtjokfllhbmodeaaW.PrintWords Go.Proofs.YtjokfllhbmodeaaW.PrintLast Go.Proofs.YtjokfllhbmodeaaW.PrintMore Go.Proofs.Ytjokfllhbmodeaa.PFnExactQuestionFor Go.Proofs.Ytjokfllhbmodeaa.Lim
set_option linter.unusedVariables false
set_option maxRecDepth 100000

noncomputable def laws_toMarkS.L0 (x0 : List (S130)) (x3 : List (S127)) (x4 : Int) : Option ((List (S127))) := lim (fun k => laws_toMarkS.l0 k x0 x3 x4)
theorem laws_toMarkS.L0_co (x0 : List (S130)) (x3 : List (S127)) (x4 : Int) : Co (fun k => laws_toMarkS.l0 k x0 x3 x4) (laws_toMarkS.L0 x0 x3 x4) := Co.base (fun k => (laws_toMarkS.mono_l k) _ _ _)
noncomputable def laws_toMarkS.F (l0 : List (S130)) : Option ((List (S127))) := lim (fun k => laws_toMarkS.f k l0)
theorem laws_toMarkS.F_co (l0 : List (S130)) : Co (fun k => laws_toMarkS.f k l0) (laws_toMarkS.F l0) := Co.base (fun k => laws_toMarkS.mono _ k)
theorem laws_toMarkS.L0_eq (x0 : List (S130)) (x3 : List (S127)) (x4 : Int) : laws_toMarkS.L0 x0 x3 x4 = (if x4 < (x0.length : Int) then (if 0 ≤ x4 then ((laws_toMark.f ((rd_T130 x0 x4).f0) ((rd_T130 x0 x4).f1)).bind fun bt108 => (if x4 < (x3.length : Int) then (laws_toMarkS.L0 x0 (x3.set (x4 : Int).toNat (⟨bt108.1, bt108.2⟩ : S127)) (wrap64 (x4 + 1))) else (none))) else (none)) else (some x3)) := by
  refine Co.step (laws_toMarkS.L0_co x0 x3 x4) (h := fun k => (if x4 < (x0.length : Int) then (if 0 ≤ x4 then ((laws_toMark.f ((rd_T130 x0 x4).f0) ((rd_T130 x0 x4).f1)).bind fun bt108 => (if x4 < (x3.length : Int) then (laws_toMarkS.l0 k x0 (x3.set (x4 : Int).toNat (⟨bt108.1, bt108.2⟩ : S127)) (wrap64 (x4 + 1))) else (none))) else (none)) else (some x3))) (fun k => by first | rfl | (simp only [laws_toMarkS.l0])) ?_
  repeat' first
    | (with_reducible exact Co.const _)
    | (with_reducible exact laws_toMarkS.L0_co _ _ _)
    | (with_reducible refine Co.ite ?_ ?_)
    | (with_reducible refine Co.bind ?_ (fun _ => ?_))
theorem laws_toMarkS.F_eq (l0 : List (S130)) : laws_toMarkS.F l0 = (if 0 ≤ (l0.length : Int) then (if ((l0.length : Int) : Int).toNat ≤ 17592186044416 then (laws_toMarkS.L0 l0 (List.replicate ((l0.length : Int) : Int).toNat z127) 0) else (none)) else (none)) := by
  refine Co.same (laws_toMarkS.F_co l0) (h := fun k => (if 0 ≤ (l0.length : Int) then (if ((l0.length : Int) : Int).toNat ≤ 17592186044416 then (laws_toMarkS.l0 k l0 (List.replicate ((l0.length : Int) : Int).toNat z127) 0) else (none)) else (none))) (fun k => by first | rfl | unfold laws_toMarkS.f; rfl) ?_
  repeat' first
    | (with_reducible exact Co.const _)
    | (with_reducible exact laws_toMarkS.L0_co _ _ _)
    | (with_reducible refine Co.ite ?_ ?_)
    | (with_reducible refine Co.bind ?_ (fun _ => ?_))

noncomputable def laws_eqMarkS.L0 (x0 : List (S127)) (x1 : List (S127)) (x5 : Int) : Option (Bool) := lim (fun k => laws_eqMarkS.l0 k x0 x1 x5)
theorem laws_eqMarkS.L0_co (x0 : List (S127)) (x1 : List (S127)) (x5 : Int) : Co (fun k => laws_eqMarkS.l0 k x0 x1 x5) (laws_eqMarkS.L0 x0 x1 x5) := Co.base (fun k => (laws_eqMarkS.mono_l k) _ _ _)
noncomputable def laws_eqMarkS.F (l0 : List (S127)) (l1 : List (S127)) : Option (Bool) := lim (fun k => laws_eqMarkS.f k l0 l1)
theorem laws_eqMarkS.F_co (l0 : List (S127)) (l1 : List (S127)) : Co (fun k => laws_eqMarkS.f k l0 l1) (laws_eqMarkS.F l0 l1) := Co.base (fun k => laws_eqMarkS.mono _ _ k)
theorem laws_eqMarkS.L0_eq (x0 : List (S127)) (x1 : List (S127)) (x5 : Int) : laws_eqMarkS.L0 x0 x1 x5 = (if x5 < (x0.length : Int) then (if 0 ≤ x5 then (if x5 < (x1.length : Int) then ((laws_eqMark.f ((rd_T127 x0 x5).f0) ((rd_T127 x0 x5).f1) ((rd_T127 x1 x5).f0) ((rd_T127 x1 x5).f1)).bind fun t115 => (if t115 = true then (laws_eqMarkS.L0 x0 x1 (wrap64 (x5 + 1))) else (some false))) else (none)) else (none)) else (some true)) := by
  refine Co.step (laws_eqMarkS.L0_co x0 x1 x5) (h := fun k => (if x5 < (x0.length : Int) then (if 0 ≤ x5 then (if x5 < (x1.length : Int) then ((laws_eqMark.f ((rd_T127 x0 x5).f0) ((rd_T127 x0 x5).f1) ((rd_T127 x1 x5).f0) ((rd_T127 x1 x5).f1)).bind fun t115 => (if t115 = true then (laws_eqMarkS.l0 k x0 x1 (wrap64 (x5 + 1))) else (some false))) else (none)) else (none)) else (some true))) (fun k => by first | rfl | (simp only [laws_eqMarkS.l0])) ?_
  repeat' first
    | (with_reducible exact Co.const _)
    | (with_reducible exact laws_eqMarkS.L0_co _ _ _)
    | (with_reducible refine Co.ite ?_ ?_)
    | (with_reducible refine Co.bind ?_ (fun _ => ?_))
theorem laws_eqMarkS.F_eq (l0 : List (S127)) (l1 : List (S127)) : laws_eqMarkS.F l0 l1 = (if (l0.length : Int) = (l1.length : Int) then (laws_eqMarkS.L0 l0 l1 0) else (some false)) := by
  refine Co.same (laws_eqMarkS.F_co l0 l1) (h := fun k => (if (l0.length : Int) = (l1.length : Int) then (laws_eqMarkS.l0 k l0 l1 0) else (some false))) (fun k => by first | rfl | unfold laws_eqMarkS.f; rfl) ?_
  repeat' first
    | (with_reducible exact Co.const _)
    | (with_reducible exact laws_eqMarkS.L0_co _ _ _)
    | (with_reducible refine Co.ite ?_ ?_)
    | (with_reducible refine Co.bind ?_ (fun _ => ?_))

noncomputable def spec_Hash.L0 (x0 : List Int) (x3 : Int) (x4 : Int) : Option (Int) := lim (fun k => spec_Hash.l0 k x0 x3 x4)
theorem spec_Hash.L0_co (x0 : List Int) (x3 : Int) (x4 : Int) : Co (fun k => spec_Hash.l0 k x0 x3 x4) (spec_Hash.L0 x0 x3 x4) := Co.base (fun k => (spec_Hash.mono_l k) _ _ _)
noncomputable def spec_Hash.F (l0 : List Int) : Option (Int) := lim (fun k => spec_Hash.f k l0)
theorem spec_Hash.F_co (l0 : List Int) : Co (fun k => spec_Hash.f k l0) (spec_Hash.F l0) := Co.base (fun k => spec_Hash.mono _ k)
theorem spec_Hash.L0_eq (x0 : List Int) (x3 : Int) (x4 : Int) : spec_Hash.L0 x0 x3 x4 = (if x4 < (x0.length : Int) then (if 0 ≤ x4 then ((spec_Mod.f (rd x0 x4) 2147483647).bind fun t118 => (spec_Hash.L0 x0 (Int.tmod (wrap64 ((wrap64 ((wrap64 (x3 * 1000003)) + t118)) + 13)) 2147483647) (wrap64 (x4 + 1)))) else (none)) else (some x3)) := by
  refine Co.step (spec_Hash.L0_co x0 x3 x4) (h := fun k => (if x4 < (x0.length : Int) then (if 0 ≤ x4 then ((spec_Mod.f (rd x0 x4) 2147483647).bind fun t118 => (spec_Hash.l0 k x0 (Int.tmod (wrap64 ((wrap64 ((wrap64 (x3 * 1000003)) + t118)) + 13)) 2147483647) (wrap64 (x4 + 1)))) else (none)) else (some x3))) (fun k => by first | rfl | (simp only [spec_Hash.l0])) ?_
  repeat' first
    | (with_reducible exact Co.const _)
    | (with_reducible exact spec_Hash.L0_co _ _ _)
    | (with_reducible refine Co.ite ?_ ?_)
    | (with_reducible refine Co.bind ?_ (fun _ => ?_))
theorem spec_Hash.F_eq (l0 : List Int) : spec_Hash.F l0 = (spec_Hash.L0 l0 11 0) := by
  refine Co.same (spec_Hash.F_co l0) (h := fun k => (spec_Hash.l0 k l0 11 0)) (fun k => by first | rfl | unfold spec_Hash.f; rfl) ?_
  repeat' first
    | (with_reducible exact Co.const _)
    | (with_reducible exact spec_Hash.L0_co _ _ _)
    | (with_reducible refine Co.ite ?_ ?_)
    | (with_reducible refine Co.bind ?_ (fun _ => ?_))

noncomputable def spec_AreMarks.L0 (x0 : List (S127)) (x3 : Int) : Option (Bool) := lim (fun k => spec_AreMarks.l0 k x0 x3)
theorem spec_AreMarks.L0_co (x0 : List (S127)) (x3 : Int) : Co (fun k => spec_AreMarks.l0 k x0 x3) (spec_AreMarks.L0 x0 x3) := Co.base (fun k => (spec_AreMarks.mono_l k) _ _)
noncomputable def spec_AreMarks.F (l0 : List (S127)) : Option (Bool) := lim (fun k => spec_AreMarks.f k l0)
theorem spec_AreMarks.F_co (l0 : List (S127)) : Co (fun k => spec_AreMarks.f k l0) (spec_AreMarks.F l0) := Co.base (fun k => spec_AreMarks.mono _ k)
theorem spec_AreMarks.L0_eq (x0 : List (S127)) (x3 : Int) : spec_AreMarks.L0 x0 x3 = (if x3 < (x0.length : Int) then (if 0 ≤ x3 then ((spec_l1In.f ((rd_T127 x0 x3).f0) 1 20).bind fun t120 => (if t120 = true then ((spec_l1In.f ((rd_T127 x0 x3).f1) 0 99).bind fun t122 => (if t122 = true then (if x3 > 0 then (if 0 ≤ (wrap64 (x3 - 1)) then (if (wrap64 (x3 - 1)) < (x0.length : Int) then (if ((rd_T127 x0 (wrap64 (x3 - 1))).f0) ≥ ((rd_T127 x0 x3).f0) then (some false) else (spec_AreMarks.L0 x0 (wrap64 (x3 + 1)))) else (none)) else (none)) else (spec_AreMarks.L0 x0 (wrap64 (x3 + 1)))) else (some false))) else (some false))) else (none)) else (some (decide ((x0.length : Int) ≤ 8)))) := by
  refine Co.step (spec_AreMarks.L0_co x0 x3) (h := fun k => (if x3 < (x0.length : Int) then (if 0 ≤ x3 then ((spec_l1In.f ((rd_T127 x0 x3).f0) 1 20).bind fun t120 => (if t120 = true then ((spec_l1In.f ((rd_T127 x0 x3).f1) 0 99).bind fun t122 => (if t122 = true then (if x3 > 0 then (if 0 ≤ (wrap64 (x3 - 1)) then (if (wrap64 (x3 - 1)) < (x0.length : Int) then (if ((rd_T127 x0 (wrap64 (x3 - 1))).f0) ≥ ((rd_T127 x0 x3).f0) then (some false) else (spec_AreMarks.l0 k x0 (wrap64 (x3 + 1)))) else (none)) else (none)) else (spec_AreMarks.l0 k x0 (wrap64 (x3 + 1)))) else (some false))) else (some false))) else (none)) else (some (decide ((x0.length : Int) ≤ 8))))) (fun k => by first | rfl | (simp only [spec_AreMarks.l0])) ?_
  repeat' first
    | (with_reducible exact Co.const _)
    | (with_reducible exact spec_AreMarks.L0_co _ _)
    | (with_reducible refine Co.ite ?_ ?_)
    | (with_reducible refine Co.bind ?_ (fun _ => ?_))
theorem spec_AreMarks.F_eq (l0 : List (S127)) : spec_AreMarks.F l0 = (spec_AreMarks.L0 l0 0) := by
  refine Co.same (spec_AreMarks.F_co l0) (h := fun k => (spec_AreMarks.l0 k l0 0)) (fun k => by first | rfl | unfold spec_AreMarks.f; rfl) ?_
  repeat' first
    | (with_reducible exact Co.const _)
    | (with_reducible exact spec_AreMarks.L0_co _ _)
    | (with_reducible refine Co.ite ?_ ?_)
    | (with_reducible refine Co.bind ?_ (fun _ => ?_))

noncomputable def spec_QuestionFor.J0 (x0 : List (S127)) (x1 : Int) (x2 : Int) (x19 : Bool) : Option (Int) := lim (fun k => spec_QuestionFor.j0 k x0 x1 x2 x19)
theorem spec_QuestionFor.J0_co (x0 : List (S127)) (x1 : Int) (x2 : Int) (x19 : Bool) : Co (fun k => spec_QuestionFor.j0 k x0 x1 x2 x19) (spec_QuestionFor.J0 x0 x1 x2 x19) := Co.base (fun k => (spec_QuestionFor.mono_l k) _ _ _ _)
noncomputable def spec_QuestionFor.F (l0 : List (S127)) (a1 : Int) (a2 : Int) : Option (Int) := lim (fun k => spec_QuestionFor.f k l0 a1 a2)
theorem spec_QuestionFor.F_co (l0 : List (S127)) (a1 : Int) (a2 : Int) : Co (fun k => spec_QuestionFor.f k l0 a1 a2) (spec_QuestionFor.F l0 a1 a2) := Co.base (fun k => spec_QuestionFor.mono _ _ _ k)
theorem spec_QuestionFor.J0_eq (x0 : List (S127)) (x1 : Int) (x2 : Int) (x19 : Bool) : spec_QuestionFor.J0 x0 x1 x2 x19 = (if x19 = true then (some 0) else ((spec_Hash.F (([x1] : List Int))).bind fun t130 => ((spec_Mod.f t130 (x0.length : Int)).bind fun t131 => (if (x0.length : Int) = 0 then (none) else (if 0 ≤ (Int.tmod (wrap64 (t131 + x2)) (x0.length : Int)) then (if (Int.tmod (wrap64 (t131 + x2)) (x0.length : Int)) < (x0.length : Int) then (some ((rd_T127 x0 (Int.tmod (wrap64 (t131 + x2)) (x0.length : Int))).f0)) else (none)) else (none)))))) := by
  refine Co.step (spec_QuestionFor.J0_co x0 x1 x2 x19) (h := fun k => (if x19 = true then (some 0) else ((spec_Hash.f k (([x1] : List Int))).bind fun t130 => ((spec_Mod.f t130 (x0.length : Int)).bind fun t131 => (if (x0.length : Int) = 0 then (none) else (if 0 ≤ (Int.tmod (wrap64 (t131 + x2)) (x0.length : Int)) then (if (Int.tmod (wrap64 (t131 + x2)) (x0.length : Int)) < (x0.length : Int) then (some ((rd_T127 x0 (Int.tmod (wrap64 (t131 + x2)) (x0.length : Int))).f0)) else (none)) else (none))))))) (fun k => by first | rfl | (simp only [spec_QuestionFor.j0])) ?_
  repeat' first
    | (with_reducible exact Co.const _)
    | (with_reducible exact spec_Hash.F_co _)
    | (with_reducible refine Co.ite ?_ ?_)
    | (with_reducible refine Co.bind ?_ (fun _ => ?_))
theorem spec_QuestionFor.F_eq (l0 : List (S127)) (a1 : Int) (a2 : Int) : spec_QuestionFor.F l0 a1 a2 = (if (l0.length : Int) = 0 then (spec_QuestionFor.J0 l0 a1 a2 true) else ((spec_AreMarks.F l0).bind fun t125 => (if t125 = true then ((spec_l1In.f a2 0 1000).bind fun t126 => (spec_QuestionFor.J0 l0 a1 a2 (!t126))) else (spec_QuestionFor.J0 l0 a1 a2 true)))) := by
  refine Co.same (spec_QuestionFor.F_co l0 a1 a2) (h := fun k => (if (l0.length : Int) = 0 then (spec_QuestionFor.j0 k l0 a1 a2 true) else ((spec_AreMarks.f k l0).bind fun t125 => (if t125 = true then ((spec_l1In.f a2 0 1000).bind fun t126 => (spec_QuestionFor.j0 k l0 a1 a2 (!t126))) else (spec_QuestionFor.j0 k l0 a1 a2 true))))) (fun k => by first | rfl | unfold spec_QuestionFor.f; rfl) ?_
  repeat' first
    | (with_reducible exact Co.const _)
    | (with_reducible exact spec_AreMarks.F_co _)
    | (with_reducible exact spec_QuestionFor.J0_co _ _ _ _)
    | (with_reducible refine Co.ite ?_ ?_)
    | (with_reducible refine Co.bind ?_ (fun _ => ?_))

noncomputable def impl_Hash.L0 (x3 : Int) (x6 : List Int) (x7 : Int) (x8 : Int) : Option (Int) := lim (fun k => impl_Hash.l0 k x3 x6 x7 x8)
theorem impl_Hash.L0_co (x3 : Int) (x6 : List Int) (x7 : Int) (x8 : Int) : Co (fun k => impl_Hash.l0 k x3 x6 x7 x8) (impl_Hash.L0 x3 x6 x7 x8) := Co.base (fun k => (impl_Hash.mono_l k) _ _ _ _)
noncomputable def impl_Hash.F (l0 : List Int) : Option (Int) := lim (fun k => impl_Hash.f k l0)
theorem impl_Hash.F_co (l0 : List Int) : Co (fun k => impl_Hash.f k l0) (impl_Hash.F l0) := Co.base (fun k => impl_Hash.mono _ k)
theorem impl_Hash.L0_eq (x3 : Int) (x6 : List Int) (x7 : Int) (x8 : Int) : impl_Hash.L0 x3 x6 x7 x8 = (if x8 < x7 then (if 0 ≤ x8 then (if x8 < (x6.length : Int) then ((impl_fold.f x3 (rd x6 x8)).bind fun t136 => (impl_Hash.L0 t136 x6 x7 (wrap64 (x8 + 1)))) else (none)) else (none)) else (some x3)) := by
  refine Co.step (impl_Hash.L0_co x3 x6 x7 x8) (h := fun k => (if x8 < x7 then (if 0 ≤ x8 then (if x8 < (x6.length : Int) then ((impl_fold.f x3 (rd x6 x8)).bind fun t136 => (impl_Hash.l0 k t136 x6 x7 (wrap64 (x8 + 1)))) else (none)) else (none)) else (some x3))) (fun k => by first | rfl | (simp only [impl_Hash.l0])) ?_
  repeat' first
    | (with_reducible exact Co.const _)
    | (with_reducible exact impl_Hash.L0_co _ _ _ _)
    | (with_reducible refine Co.ite ?_ ?_)
    | (with_reducible refine Co.bind ?_ (fun _ => ?_))
theorem impl_Hash.F_eq (l0 : List Int) : impl_Hash.F l0 = (impl_Hash.L0 11 l0 (l0.length : Int) 0) := by
  refine Co.same (impl_Hash.F_co l0) (h := fun k => (impl_Hash.l0 k 11 l0 (l0.length : Int) 0)) (fun k => by first | rfl | unfold impl_Hash.f; rfl) ?_
  repeat' first
    | (with_reducible exact Co.const _)
    | (with_reducible exact impl_Hash.L0_co _ _ _ _)
    | (with_reducible refine Co.ite ?_ ?_)
    | (with_reducible refine Co.bind ?_ (fun _ => ?_))

noncomputable def impl_AreMarks.L0 (x0 : List (S127)) (x8 : List (S127)) (x9 : Int) (x10 : Int) : Option (Bool) := lim (fun k => impl_AreMarks.l0 k x0 x8 x9 x10)
theorem impl_AreMarks.L0_co (x0 : List (S127)) (x8 : List (S127)) (x9 : Int) (x10 : Int) : Co (fun k => impl_AreMarks.l0 k x0 x8 x9 x10) (impl_AreMarks.L0 x0 x8 x9 x10) := Co.base (fun k => (impl_AreMarks.mono_l k) _ _ _ _)
noncomputable def impl_AreMarks.F (l0 : List (S127)) : Option (Bool) := lim (fun k => impl_AreMarks.f k l0)
theorem impl_AreMarks.F_co (l0 : List (S127)) : Co (fun k => impl_AreMarks.f k l0) (impl_AreMarks.F l0) := Co.base (fun k => impl_AreMarks.mono _ k)
theorem impl_AreMarks.L0_eq (x0 : List (S127)) (x8 : List (S127)) (x9 : Int) (x10 : Int) : impl_AreMarks.L0 x0 x8 x9 x10 = (if x10 < x9 then (if 0 ≤ x10 then (if x10 < (x8.length : Int) then ((impl_InRange.f ((rd_T127 x8 x10).f0) 1 20).bind fun t139 => (if t139 = true then ((impl_InRange.f ((rd_T127 x8 x10).f1) 0 99).bind fun t140 => (if t140 = true then (if x10 > 0 then (if 0 ≤ (wrap64 (x10 - 1)) then (if (wrap64 (x10 - 1)) < (x0.length : Int) then (if ((rd_T127 x8 x10).f0) ≤ ((rd_T127 x0 (wrap64 (x10 - 1))).f0) then (some false) else (impl_AreMarks.L0 x0 x8 x9 (wrap64 (x10 + 1)))) else (none)) else (none)) else (impl_AreMarks.L0 x0 x8 x9 (wrap64 (x10 + 1)))) else (some false))) else (some false))) else (none)) else (none)) else (some true)) := by
  refine Co.step (impl_AreMarks.L0_co x0 x8 x9 x10) (h := fun k => (if x10 < x9 then (if 0 ≤ x10 then (if x10 < (x8.length : Int) then ((impl_InRange.f ((rd_T127 x8 x10).f0) 1 20).bind fun t139 => (if t139 = true then ((impl_InRange.f ((rd_T127 x8 x10).f1) 0 99).bind fun t140 => (if t140 = true then (if x10 > 0 then (if 0 ≤ (wrap64 (x10 - 1)) then (if (wrap64 (x10 - 1)) < (x0.length : Int) then (if ((rd_T127 x8 x10).f0) ≤ ((rd_T127 x0 (wrap64 (x10 - 1))).f0) then (some false) else (impl_AreMarks.l0 k x0 x8 x9 (wrap64 (x10 + 1)))) else (none)) else (none)) else (impl_AreMarks.l0 k x0 x8 x9 (wrap64 (x10 + 1)))) else (some false))) else (some false))) else (none)) else (none)) else (some true))) (fun k => by first | rfl | (simp only [impl_AreMarks.l0])) ?_
  repeat' first
    | (with_reducible exact Co.const _)
    | (with_reducible exact impl_AreMarks.L0_co _ _ _ _)
    | (with_reducible refine Co.ite ?_ ?_)
    | (with_reducible refine Co.bind ?_ (fun _ => ?_))
theorem impl_AreMarks.F_eq (l0 : List (S127)) : impl_AreMarks.F l0 = (if (l0.length : Int) > 8 then (some false) else (impl_AreMarks.L0 l0 l0 (l0.length : Int) 0)) := by
  refine Co.same (impl_AreMarks.F_co l0) (h := fun k => (if (l0.length : Int) > 8 then (some false) else (impl_AreMarks.l0 k l0 l0 (l0.length : Int) 0))) (fun k => by first | rfl | unfold impl_AreMarks.f; rfl) ?_
  repeat' first
    | (with_reducible exact Co.const _)
    | (with_reducible exact impl_AreMarks.L0_co _ _ _ _)
    | (with_reducible refine Co.ite ?_ ?_)
    | (with_reducible refine Co.bind ?_ (fun _ => ?_))

noncomputable def impl_QuestionFor.F (l0 : List (S127)) (a1 : Int) (a2 : Int) : Option (Int) := lim (fun k => impl_QuestionFor.f k l0 a1 a2)
theorem impl_QuestionFor.F_co (l0 : List (S127)) (a1 : Int) (a2 : Int) : Co (fun k => impl_QuestionFor.f k l0 a1 a2) (impl_QuestionFor.F l0 a1 a2) := Co.base (fun k => impl_QuestionFor.mono _ _ _ k)
theorem impl_QuestionFor.F_eq (l0 : List (S127)) (a1 : Int) (a2 : Int) : impl_QuestionFor.F l0 a1 a2 = (if (l0.length : Int) = 0 then (some 0) else ((impl_AreMarks.F l0).bind fun t142 => (if t142 = true then ((impl_InRange.f a2 0 1000).bind fun t143 => (if t143 = true then ((impl_Hash.F (([a1] : List Int))).bind fun t147 => (if 0 ≤ (Int.tmod (wrap64 ((Int.tmod t147 (l0.length : Int)) + a2)) (l0.length : Int)) then (if (Int.tmod (wrap64 ((Int.tmod t147 (l0.length : Int)) + a2)) (l0.length : Int)) < (l0.length : Int) then (some ((rd_T127 l0 (Int.tmod (wrap64 ((Int.tmod t147 (l0.length : Int)) + a2)) (l0.length : Int))).f0)) else (none)) else (none))) else (some 0))) else (some 0)))) := by
  refine Co.same (impl_QuestionFor.F_co l0 a1 a2) (h := fun k => (if (l0.length : Int) = 0 then (some 0) else ((impl_AreMarks.f k l0).bind fun t142 => (if t142 = true then ((impl_InRange.f a2 0 1000).bind fun t143 => (if t143 = true then ((impl_Hash.f k (([a1] : List Int))).bind fun t147 => (if 0 ≤ (Int.tmod (wrap64 ((Int.tmod t147 (l0.length : Int)) + a2)) (l0.length : Int)) then (if (Int.tmod (wrap64 ((Int.tmod t147 (l0.length : Int)) + a2)) (l0.length : Int)) < (l0.length : Int) then (some ((rd_T127 l0 (Int.tmod (wrap64 ((Int.tmod t147 (l0.length : Int)) + a2)) (l0.length : Int))).f0)) else (none)) else (none))) else (some 0))) else (some 0))))) (fun k => by first | rfl | unfold impl_QuestionFor.f; rfl) ?_
  repeat' first
    | (with_reducible exact Co.const _)
    | (with_reducible exact impl_AreMarks.F_co _)
    | (with_reducible exact impl_Hash.F_co _)
    | (with_reducible refine Co.ite ?_ ?_)
    | (with_reducible refine Co.bind ?_ (fun _ => ?_))

noncomputable def laws_FnExactQuestionFor.F (l0 : List (S130)) (a1 : Int) (a2 : Int) : Option (Bool) := lim (fun k => laws_FnExactQuestionFor.f k l0 a1 a2)
theorem laws_FnExactQuestionFor.F_co (l0 : List (S130)) (a1 : Int) (a2 : Int) : Co (fun k => laws_FnExactQuestionFor.f k l0 a1 a2) (laws_FnExactQuestionFor.F l0 a1 a2) := Co.base (fun k => laws_FnExactQuestionFor.mono _ _ _ k)
theorem laws_FnExactQuestionFor.F_eq (l0 : List (S130)) (a1 : Int) (a2 : Int) : laws_FnExactQuestionFor.F l0 a1 a2 = ((laws_szMarkS.f l0 1048576).bind fun t149 => (if t149 < 0 then (some true) else ((laws_toMarkS.F l0).bind fun t150 => ((spec_QuestionFor.F t150 a1 a2).bind fun t153 => ((laws_toMarkS.F l0).bind fun t154 => ((impl_QuestionFor.F t154 a1 a2).bind fun t157 => (if t157 = t153 then ((laws_toMarkS.F l0).bind fun t158 => ((laws_eqMarkS.F t154 t158).bind fun t161 => (if t161 = true then (some true) else (some false)))) else (some false)))))))) := by
  refine Co.same (laws_FnExactQuestionFor.F_co l0 a1 a2) (h := fun k => ((laws_szMarkS.f l0 1048576).bind fun t149 => (if t149 < 0 then (some true) else ((laws_toMarkS.f k l0).bind fun t150 => ((spec_QuestionFor.f k t150 a1 a2).bind fun t153 => ((laws_toMarkS.f k l0).bind fun t154 => ((impl_QuestionFor.f k t154 a1 a2).bind fun t157 => (if t157 = t153 then ((laws_toMarkS.f k l0).bind fun t158 => ((laws_eqMarkS.f k t154 t158).bind fun t161 => (if t161 = true then (some true) else (some false)))) else (some false))))))))) (fun k => by first | rfl | unfold laws_FnExactQuestionFor.f; rfl) ?_
  repeat' first
    | (with_reducible exact Co.const _)
    | (with_reducible exact impl_QuestionFor.F_co _ _ _)
    | (with_reducible exact laws_eqMarkS.F_co _ _)
    | (with_reducible exact laws_toMarkS.F_co _)
    | (with_reducible exact spec_QuestionFor.F_co _ _ _)
    | (with_reducible refine Co.ite ?_ ?_)
    | (with_reducible refine Co.bind ?_ (fun _ => ?_))

end Go.Proofs.Ytjokfllhbmodeaa.PFnExactQuestionFor.Pure
