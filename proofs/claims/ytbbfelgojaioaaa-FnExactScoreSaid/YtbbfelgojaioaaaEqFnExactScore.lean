/-
  The printed functions that this law reaches, their rounds used up, and the equations that they meet.
-/
import Derived.Test.YtbbfelgojaioaaaPFnExactScorex1
import Derived.Test.YtbbfelgojaioaaaPFnExactScorex2
import Derived.Test.YtbbfelgojaioaaaPFnExactScorex3
import Derived.Test.YtbbfelgojaioaaaPFnExactScorex4
import Derived.Test.YtbbfelgojaioaaaPFnExactScorex5
import Derived.Test.YtbbfelgojaioaaaPFnExactScorex6
import Derived.Test.YtbbfelgojaioaaaPFnExactScorex7
import Derived.Test.YtbbfelgojaioaaaLim
namespace Go.Proofs.Ytbbfelgojaioaaa.PFnExactScore.Pure
open Go.RowKit Go.Proofs.YtbbfelgojaioaaaW.PrintWords Go.Proofs.YtbbfelgojaioaaaW.PrintLast Go.Proofs.YtbbfelgojaioaaaW.PrintMore Go.Proofs.Ytbbfelgojaioaaa.PFnExactScore Go.Proofs.Ytbbfelgojaioaaa.Lim
set_option linter.unusedVariables false
set_option maxRecDepth 100000

noncomputable def laws_toIntS.L0 (x0 : List Int) (x3 : List Int) (x4 : Int) : Option (List Int) := lim (fun k => laws_toIntS.l0 k x0 x3 x4)
theorem laws_toIntS.L0_co (x0 : List Int) (x3 : List Int) (x4 : Int) : Co (fun k => laws_toIntS.l0 k x0 x3 x4) (laws_toIntS.L0 x0 x3 x4) := Co.base (fun k => (laws_toIntS.mono_l k) _ _ _)
noncomputable def laws_toIntS.F (l0 : List Int) : Option (List Int) := lim (fun k => laws_toIntS.f k l0)
theorem laws_toIntS.F_co (l0 : List Int) : Co (fun k => laws_toIntS.f k l0) (laws_toIntS.F l0) := Co.base (fun k => laws_toIntS.mono _ k)
theorem laws_toIntS.L0_eq (x0 : List Int) (x3 : List Int) (x4 : Int) : laws_toIntS.L0 x0 x3 x4 = (if x4 < (x0.length : Int) then (if 0 ≤ x4 then (if x4 < (x3.length : Int) then (laws_toIntS.L0 x0 (x3.set (x4 : Int).toNat (rd x0 x4)) (wrap64 (x4 + 1))) else (none)) else (none)) else (some x3)) := by
  refine Co.step (laws_toIntS.L0_co x0 x3 x4) (h := fun k => (if x4 < (x0.length : Int) then (if 0 ≤ x4 then (if x4 < (x3.length : Int) then (laws_toIntS.l0 k x0 (x3.set (x4 : Int).toNat (rd x0 x4)) (wrap64 (x4 + 1))) else (none)) else (none)) else (some x3))) (fun k => by first | rfl | (simp only [laws_toIntS.l0])) ?_
  repeat' first
    | (with_reducible exact Co.const _)
    | (with_reducible exact laws_toIntS.L0_co _ _ _)
    | (with_reducible refine Co.ite ?_ ?_)
    | (with_reducible refine Co.bind ?_ (fun _ => ?_))
theorem laws_toIntS.F_eq (l0 : List Int) : laws_toIntS.F l0 = (if 0 ≤ (l0.length : Int) then (if ((l0.length : Int) : Int).toNat ≤ 35184372088832 then (laws_toIntS.L0 l0 (List.replicate ((l0.length : Int) : Int).toNat 0) 0) else (none)) else (none)) := by
  refine Co.same (laws_toIntS.F_co l0) (h := fun k => (if 0 ≤ (l0.length : Int) then (if ((l0.length : Int) : Int).toNat ≤ 35184372088832 then (laws_toIntS.l0 k l0 (List.replicate ((l0.length : Int) : Int).toNat 0) 0) else (none)) else (none))) (fun k => by first | rfl | unfold laws_toIntS.f; rfl) ?_
  repeat' first
    | (with_reducible exact Co.const _)
    | (with_reducible exact laws_toIntS.L0_co _ _ _)
    | (with_reducible refine Co.ite ?_ ?_)
    | (with_reducible refine Co.bind ?_ (fun _ => ?_))

noncomputable def laws_toReport.F (a0_0 : Int) (a0_1 : Int) (l0_2 : List Int) (a0_3 : Int) (a0_4 : Int) (l0_5 : List Int) (a0_6 : Int) (a0_7 : Int) : Option (Int × Int × List Int × Int × Int × List Int × Int × Int) := lim (fun k => laws_toReport.f k a0_0 a0_1 l0_2 a0_3 a0_4 l0_5 a0_6 a0_7)
theorem laws_toReport.F_co (a0_0 : Int) (a0_1 : Int) (l0_2 : List Int) (a0_3 : Int) (a0_4 : Int) (l0_5 : List Int) (a0_6 : Int) (a0_7 : Int) : Co (fun k => laws_toReport.f k a0_0 a0_1 l0_2 a0_3 a0_4 l0_5 a0_6 a0_7) (laws_toReport.F a0_0 a0_1 l0_2 a0_3 a0_4 l0_5 a0_6 a0_7) := Co.base (fun k => laws_toReport.mono _ _ _ _ _ _ _ _ k)
theorem laws_toReport.F_eq (a0_0 : Int) (a0_1 : Int) (l0_2 : List Int) (a0_3 : Int) (a0_4 : Int) (l0_5 : List Int) (a0_6 : Int) (a0_7 : Int) : laws_toReport.F a0_0 a0_1 l0_2 a0_3 a0_4 l0_5 a0_6 a0_7 = ((laws_toIntS.F l0_2).bind fun t115 => ((laws_toIntS.F l0_5).bind fun t118 => ((laws_toSpan.f a0_6 a0_7).bind fun bt121 => (some (a0_0, a0_1, t115, a0_3, a0_4, t118, bt121.1, bt121.2))))) := by
  refine Co.same (laws_toReport.F_co a0_0 a0_1 l0_2 a0_3 a0_4 l0_5 a0_6 a0_7) (h := fun k => ((laws_toIntS.f k l0_2).bind fun t115 => ((laws_toIntS.f k l0_5).bind fun t118 => ((laws_toSpan.f a0_6 a0_7).bind fun bt121 => (some (a0_0, a0_1, t115, a0_3, a0_4, t118, bt121.1, bt121.2)))))) (fun k => by first | rfl | unfold laws_toReport.f; rfl) ?_
  repeat' first
    | (with_reducible exact Co.const _)
    | (with_reducible exact laws_toIntS.F_co _)
    | (with_reducible refine Co.ite ?_ ?_)
    | (with_reducible refine Co.bind ?_ (fun _ => ?_))

noncomputable def laws_eqIntS.L0 (x0 : List Int) (x1 : List Int) (x5 : Int) : Option (Bool) := lim (fun k => laws_eqIntS.l0 k x0 x1 x5)
theorem laws_eqIntS.L0_co (x0 : List Int) (x1 : List Int) (x5 : Int) : Co (fun k => laws_eqIntS.l0 k x0 x1 x5) (laws_eqIntS.L0 x0 x1 x5) := Co.base (fun k => (laws_eqIntS.mono_l k) _ _ _)
noncomputable def laws_eqIntS.F (l0 : List Int) (l1 : List Int) : Option (Bool) := lim (fun k => laws_eqIntS.f k l0 l1)
theorem laws_eqIntS.F_co (l0 : List Int) (l1 : List Int) : Co (fun k => laws_eqIntS.f k l0 l1) (laws_eqIntS.F l0 l1) := Co.base (fun k => laws_eqIntS.mono _ _ k)
theorem laws_eqIntS.L0_eq (x0 : List Int) (x1 : List Int) (x5 : Int) : laws_eqIntS.L0 x0 x1 x5 = (if x5 < (x0.length : Int) then (if 0 ≤ x5 then (if x5 < (x1.length : Int) then (if (rd x0 x5) = (rd x1 x5) then (laws_eqIntS.L0 x0 x1 (wrap64 (x5 + 1))) else (some false)) else (none)) else (none)) else (some true)) := by
  refine Co.step (laws_eqIntS.L0_co x0 x1 x5) (h := fun k => (if x5 < (x0.length : Int) then (if 0 ≤ x5 then (if x5 < (x1.length : Int) then (if (rd x0 x5) = (rd x1 x5) then (laws_eqIntS.l0 k x0 x1 (wrap64 (x5 + 1))) else (some false)) else (none)) else (none)) else (some true))) (fun k => by first | rfl | (simp only [laws_eqIntS.l0])) ?_
  repeat' first
    | (with_reducible exact Co.const _)
    | (with_reducible exact laws_eqIntS.L0_co _ _ _)
    | (with_reducible refine Co.ite ?_ ?_)
    | (with_reducible refine Co.bind ?_ (fun _ => ?_))
theorem laws_eqIntS.F_eq (l0 : List Int) (l1 : List Int) : laws_eqIntS.F l0 l1 = (if (l0.length : Int) = (l1.length : Int) then (laws_eqIntS.L0 l0 l1 0) else (some false)) := by
  refine Co.same (laws_eqIntS.F_co l0 l1) (h := fun k => (if (l0.length : Int) = (l1.length : Int) then (laws_eqIntS.l0 k l0 l1 0) else (some false))) (fun k => by first | rfl | unfold laws_eqIntS.f; rfl) ?_
  repeat' first
    | (with_reducible exact Co.const _)
    | (with_reducible exact laws_eqIntS.L0_co _ _ _)
    | (with_reducible refine Co.ite ?_ ?_)
    | (with_reducible refine Co.bind ?_ (fun _ => ?_))

noncomputable def laws_eqReport.F (a0_0 : Int) (a0_1 : Int) (l0_2 : List Int) (a0_3 : Int) (a0_4 : Int) (l0_5 : List Int) (a0_6 : Int) (a0_7 : Int) (a1_0 : Int) (a1_1 : Int) (l1_2 : List Int) (a1_3 : Int) (a1_4 : Int) (l1_5 : List Int) (a1_6 : Int) (a1_7 : Int) : Option (Bool) := lim (fun k => laws_eqReport.f k a0_0 a0_1 l0_2 a0_3 a0_4 l0_5 a0_6 a0_7 a1_0 a1_1 l1_2 a1_3 a1_4 l1_5 a1_6 a1_7)
theorem laws_eqReport.F_co (a0_0 : Int) (a0_1 : Int) (l0_2 : List Int) (a0_3 : Int) (a0_4 : Int) (l0_5 : List Int) (a0_6 : Int) (a0_7 : Int) (a1_0 : Int) (a1_1 : Int) (l1_2 : List Int) (a1_3 : Int) (a1_4 : Int) (l1_5 : List Int) (a1_6 : Int) (a1_7 : Int) : Co (fun k => laws_eqReport.f k a0_0 a0_1 l0_2 a0_3 a0_4 l0_5 a0_6 a0_7 a1_0 a1_1 l1_2 a1_3 a1_4 l1_5 a1_6 a1_7) (laws_eqReport.F a0_0 a0_1 l0_2 a0_3 a0_4 l0_5 a0_6 a0_7 a1_0 a1_1 l1_2 a1_3 a1_4 l1_5 a1_6 a1_7) := Co.base (fun k => laws_eqReport.mono _ _ _ _ _ _ _ _ _ _ _ _ _ _ _ _ k)
theorem laws_eqReport.F_eq (a0_0 : Int) (a0_1 : Int) (l0_2 : List Int) (a0_3 : Int) (a0_4 : Int) (l0_5 : List Int) (a0_6 : Int) (a0_7 : Int) (a1_0 : Int) (a1_1 : Int) (l1_2 : List Int) (a1_3 : Int) (a1_4 : Int) (l1_5 : List Int) (a1_6 : Int) (a1_7 : Int) : laws_eqReport.F a0_0 a0_1 l0_2 a0_3 a0_4 l0_5 a0_6 a0_7 a1_0 a1_1 l1_2 a1_3 a1_4 l1_5 a1_6 a1_7 = (if a0_0 = a1_0 then (if a0_1 = a1_1 then ((laws_eqIntS.F l0_2 l1_2).bind fun t129 => (if t129 = true then (if a0_3 = a1_3 then (if a0_4 = a1_4 then ((laws_eqIntS.F l0_5 l1_5).bind fun t130 => (if t130 = true then ((laws_eqSpan.f a0_6 a0_7 a1_6 a1_7).bind fun t131 => (if t131 = true then (some true) else (some false))) else (some false))) else (some false)) else (some false)) else (some false))) else (some false)) else (some false)) := by
  refine Co.same (laws_eqReport.F_co a0_0 a0_1 l0_2 a0_3 a0_4 l0_5 a0_6 a0_7 a1_0 a1_1 l1_2 a1_3 a1_4 l1_5 a1_6 a1_7) (h := fun k => (if a0_0 = a1_0 then (if a0_1 = a1_1 then ((laws_eqIntS.f k l0_2 l1_2).bind fun t129 => (if t129 = true then (if a0_3 = a1_3 then (if a0_4 = a1_4 then ((laws_eqIntS.f k l0_5 l1_5).bind fun t130 => (if t130 = true then ((laws_eqSpan.f a0_6 a0_7 a1_6 a1_7).bind fun t131 => (if t131 = true then (some true) else (some false))) else (some false))) else (some false)) else (some false)) else (some false))) else (some false)) else (some false))) (fun k => by first | rfl | unfold laws_eqReport.f; rfl) ?_
  repeat' first
    | (with_reducible exact Co.const _)
    | (with_reducible exact laws_eqIntS.F_co _ _)
    | (with_reducible refine Co.ite ?_ ?_)
    | (with_reducible refine Co.bind ?_ (fun _ => ?_))

noncomputable def spec_l7Ids.L0 (x0 : List Int) (x1 : Int) (x2 : Int) (x7 : Int) : Option (Bool) := lim (fun k => spec_l7Ids.l0 k x0 x1 x2 x7)
theorem spec_l7Ids.L0_co (x0 : List Int) (x1 : Int) (x2 : Int) (x7 : Int) : Co (fun k => spec_l7Ids.l0 k x0 x1 x2 x7) (spec_l7Ids.L0 x0 x1 x2 x7) := Co.base (fun k => (spec_l7Ids.mono_l k) _ _ _ _)
noncomputable def spec_l7Ids.F (l0 : List Int) (a1 : Int) (a2 : Int) : Option (Bool) := lim (fun k => spec_l7Ids.f k l0 a1 a2)
theorem spec_l7Ids.F_co (l0 : List Int) (a1 : Int) (a2 : Int) : Co (fun k => spec_l7Ids.f k l0 a1 a2) (spec_l7Ids.F l0 a1 a2) := Co.base (fun k => spec_l7Ids.mono _ _ _ k)
theorem spec_l7Ids.L0_eq (x0 : List Int) (x1 : Int) (x2 : Int) (x7 : Int) : spec_l7Ids.L0 x0 x1 x2 x7 = (if x7 < (x0.length : Int) then (if 0 ≤ x7 then ((spec_l1In.f (rd x0 x7) x1 x2).bind fun t144 => (if t144 = true then (if x7 > 0 then (if 0 ≤ (wrap64 (x7 - 1)) then (if (wrap64 (x7 - 1)) < (x0.length : Int) then (if (rd x0 (wrap64 (x7 - 1))) ≥ (rd x0 x7) then (some false) else (spec_l7Ids.L0 x0 x1 x2 (wrap64 (x7 + 1)))) else (none)) else (none)) else (spec_l7Ids.L0 x0 x1 x2 (wrap64 (x7 + 1)))) else (some false))) else (none)) else (some true)) := by
  refine Co.step (spec_l7Ids.L0_co x0 x1 x2 x7) (h := fun k => (if x7 < (x0.length : Int) then (if 0 ≤ x7 then ((spec_l1In.f (rd x0 x7) x1 x2).bind fun t144 => (if t144 = true then (if x7 > 0 then (if 0 ≤ (wrap64 (x7 - 1)) then (if (wrap64 (x7 - 1)) < (x0.length : Int) then (if (rd x0 (wrap64 (x7 - 1))) ≥ (rd x0 x7) then (some false) else (spec_l7Ids.l0 k x0 x1 x2 (wrap64 (x7 + 1)))) else (none)) else (none)) else (spec_l7Ids.l0 k x0 x1 x2 (wrap64 (x7 + 1)))) else (some false))) else (none)) else (some true))) (fun k => by first | rfl | (simp only [spec_l7Ids.l0])) ?_
  repeat' first
    | (with_reducible exact Co.const _)
    | (with_reducible exact spec_l7Ids.L0_co _ _ _ _)
    | (with_reducible refine Co.ite ?_ ?_)
    | (with_reducible refine Co.bind ?_ (fun _ => ?_))
theorem spec_l7Ids.F_eq (l0 : List Int) (a1 : Int) (a2 : Int) : spec_l7Ids.F l0 a1 a2 = (spec_l7Ids.L0 l0 a1 a2 0) := by
  refine Co.same (spec_l7Ids.F_co l0 a1 a2) (h := fun k => (spec_l7Ids.l0 k l0 a1 a2 0)) (fun k => by first | rfl | unfold spec_l7Ids.f; rfl) ?_
  repeat' first
    | (with_reducible exact Co.const _)
    | (with_reducible exact spec_l7Ids.L0_co _ _ _ _)
    | (with_reducible refine Co.ite ?_ ?_)
    | (with_reducible refine Co.bind ?_ (fun _ => ?_))

noncomputable def spec_IsReport.F (a0_0 : Int) (a0_1 : Int) (l0_2 : List Int) (a0_3 : Int) (a0_4 : Int) (l0_5 : List Int) (a0_6 : Int) (a0_7 : Int) : Option (Bool) := lim (fun k => spec_IsReport.f k a0_0 a0_1 l0_2 a0_3 a0_4 l0_5 a0_6 a0_7)
theorem spec_IsReport.F_co (a0_0 : Int) (a0_1 : Int) (l0_2 : List Int) (a0_3 : Int) (a0_4 : Int) (l0_5 : List Int) (a0_6 : Int) (a0_7 : Int) : Co (fun k => spec_IsReport.f k a0_0 a0_1 l0_2 a0_3 a0_4 l0_5 a0_6 a0_7) (spec_IsReport.F a0_0 a0_1 l0_2 a0_3 a0_4 l0_5 a0_6 a0_7) := Co.base (fun k => spec_IsReport.mono _ _ _ _ _ _ _ _ k)
theorem spec_IsReport.F_eq (a0_0 : Int) (a0_1 : Int) (l0_2 : List Int) (a0_3 : Int) (a0_4 : Int) (l0_5 : List Int) (a0_6 : Int) (a0_7 : Int) : spec_IsReport.F a0_0 a0_1 l0_2 a0_3 a0_4 l0_5 a0_6 a0_7 = ((spec_l1In.f a0_0 1 999).bind fun t151 => (if t151 = true then ((spec_l1In.f a0_1 1 8).bind fun t152 => (if t152 = true then ((spec_l7Ids.F l0_2 0 7).bind fun t153 => (if t153 = true then (if a0_3 ≥ 1 then (if a0_3 ≤ a0_4 then (if a0_4 ≤ 50 then ((spec_l7Ids.F l0_5 1 30).bind fun t154 => (if t154 = true then (if (l0_5.length : Int) ≤ 10 then ((spec_IsSpan.f a0_6 a0_7).bind fun t155 => (some t155)) else (some false)) else (some false))) else (some false)) else (some false)) else (some false)) else (some false))) else (some false))) else (some false))) := by
  refine Co.same (spec_IsReport.F_co a0_0 a0_1 l0_2 a0_3 a0_4 l0_5 a0_6 a0_7) (h := fun k => ((spec_l1In.f a0_0 1 999).bind fun t151 => (if t151 = true then ((spec_l1In.f a0_1 1 8).bind fun t152 => (if t152 = true then ((spec_l7Ids.f k l0_2 0 7).bind fun t153 => (if t153 = true then (if a0_3 ≥ 1 then (if a0_3 ≤ a0_4 then (if a0_4 ≤ 50 then ((spec_l7Ids.f k l0_5 1 30).bind fun t154 => (if t154 = true then (if (l0_5.length : Int) ≤ 10 then ((spec_IsSpan.f a0_6 a0_7).bind fun t155 => (some t155)) else (some false)) else (some false))) else (some false)) else (some false)) else (some false)) else (some false))) else (some false))) else (some false)))) (fun k => by first | rfl | unfold spec_IsReport.f; rfl) ?_
  repeat' first
    | (with_reducible exact Co.const _)
    | (with_reducible exact spec_l7Ids.F_co _ _ _)
    | (with_reducible refine Co.ite ?_ ?_)
    | (with_reducible refine Co.bind ?_ (fun _ => ?_))

noncomputable def spec_l8Has.L0 (x0 : List Int) (x1 : Int) (x5 : Int) : Option (Bool) := lim (fun k => spec_l8Has.l0 k x0 x1 x5)
theorem spec_l8Has.L0_co (x0 : List Int) (x1 : Int) (x5 : Int) : Co (fun k => spec_l8Has.l0 k x0 x1 x5) (spec_l8Has.L0 x0 x1 x5) := Co.base (fun k => (spec_l8Has.mono_l k) _ _ _)
noncomputable def spec_l8Has.F (l0 : List Int) (a1 : Int) : Option (Bool) := lim (fun k => spec_l8Has.f k l0 a1)
theorem spec_l8Has.F_co (l0 : List Int) (a1 : Int) : Co (fun k => spec_l8Has.f k l0 a1) (spec_l8Has.F l0 a1) := Co.base (fun k => spec_l8Has.mono _ _ k)
theorem spec_l8Has.L0_eq (x0 : List Int) (x1 : Int) (x5 : Int) : spec_l8Has.L0 x0 x1 x5 = (if x5 < (x0.length : Int) then (if 0 ≤ x5 then (if (rd x0 x5) = x1 then (some true) else (spec_l8Has.L0 x0 x1 (wrap64 (x5 + 1)))) else (none)) else (some false)) := by
  refine Co.step (spec_l8Has.L0_co x0 x1 x5) (h := fun k => (if x5 < (x0.length : Int) then (if 0 ≤ x5 then (if (rd x0 x5) = x1 then (some true) else (spec_l8Has.l0 k x0 x1 (wrap64 (x5 + 1)))) else (none)) else (some false))) (fun k => by first | rfl | (simp only [spec_l8Has.l0])) ?_
  repeat' first
    | (with_reducible exact Co.const _)
    | (with_reducible exact spec_l8Has.L0_co _ _ _)
    | (with_reducible refine Co.ite ?_ ?_)
    | (with_reducible refine Co.bind ?_ (fun _ => ?_))
theorem spec_l8Has.F_eq (l0 : List Int) (a1 : Int) : spec_l8Has.F l0 a1 = (spec_l8Has.L0 l0 a1 0) := by
  refine Co.same (spec_l8Has.F_co l0 a1) (h := fun k => (spec_l8Has.l0 k l0 a1 0)) (fun k => by first | rfl | unfold spec_l8Has.f; rfl) ?_
  repeat' first
    | (with_reducible exact Co.const _)
    | (with_reducible exact spec_l8Has.L0_co _ _ _)
    | (with_reducible refine Co.ite ?_ ?_)
    | (with_reducible refine Co.bind ?_ (fun _ => ?_))

noncomputable def spec_WhyNot.J0 (x5 : Bool) (x169000 : Int) (x169001 : Int) (x169002 : List Int) (x169003 : Int) (x169004 : Int) (x169005 : List Int) (x169006 : Int) (x169007 : Int) (x170000 : Int) (x170001 : Int) (x170002 : Int) (x170003 : Int) (x170004 : Int) (x170005 : Int) (x170006 : Int) (x170007 : Int) : Option (ByteArray) := lim (fun k => spec_WhyNot.j0 k x5 x169000 x169001 x169002 x169003 x169004 x169005 x169006 x169007 x170000 x170001 x170002 x170003 x170004 x170005 x170006 x170007)
theorem spec_WhyNot.J0_co (x5 : Bool) (x169000 : Int) (x169001 : Int) (x169002 : List Int) (x169003 : Int) (x169004 : Int) (x169005 : List Int) (x169006 : Int) (x169007 : Int) (x170000 : Int) (x170001 : Int) (x170002 : Int) (x170003 : Int) (x170004 : Int) (x170005 : Int) (x170006 : Int) (x170007 : Int) : Co (fun k => spec_WhyNot.j0 k x5 x169000 x169001 x169002 x169003 x169004 x169005 x169006 x169007 x170000 x170001 x170002 x170003 x170004 x170005 x170006 x170007) (spec_WhyNot.J0 x5 x169000 x169001 x169002 x169003 x169004 x169005 x169006 x169007 x170000 x170001 x170002 x170003 x170004 x170005 x170006 x170007) := Co.base (fun k => (spec_WhyNot.mono_l k).1 _ _ _ _ _ _ _ _ _ _ _ _ _ _ _ _ _)
noncomputable def spec_WhyNot.J1 (x21 : Bool) (x169000 : Int) (x169001 : Int) (x169002 : List Int) (x169003 : Int) (x169004 : Int) (x169005 : List Int) (x169006 : Int) (x169007 : Int) (x170000 : Int) (x170001 : Int) (x170002 : Int) (x170003 : Int) (x170004 : Int) (x170005 : Int) (x170006 : Int) (x170007 : Int) : Option (ByteArray) := lim (fun k => spec_WhyNot.j1 k x21 x169000 x169001 x169002 x169003 x169004 x169005 x169006 x169007 x170000 x170001 x170002 x170003 x170004 x170005 x170006 x170007)
theorem spec_WhyNot.J1_co (x21 : Bool) (x169000 : Int) (x169001 : Int) (x169002 : List Int) (x169003 : Int) (x169004 : Int) (x169005 : List Int) (x169006 : Int) (x169007 : Int) (x170000 : Int) (x170001 : Int) (x170002 : Int) (x170003 : Int) (x170004 : Int) (x170005 : Int) (x170006 : Int) (x170007 : Int) : Co (fun k => spec_WhyNot.j1 k x21 x169000 x169001 x169002 x169003 x169004 x169005 x169006 x169007 x170000 x170001 x170002 x170003 x170004 x170005 x170006 x170007) (spec_WhyNot.J1 x21 x169000 x169001 x169002 x169003 x169004 x169005 x169006 x169007 x170000 x170001 x170002 x170003 x170004 x170005 x170006 x170007) := Co.base (fun k => (spec_WhyNot.mono_l k).2.1 _ _ _ _ _ _ _ _ _ _ _ _ _ _ _ _ _)
noncomputable def spec_WhyNot.J2 (x45 : Bool) (x169000 : Int) (x169001 : Int) (x169002 : List Int) (x169003 : Int) (x169004 : Int) (x169005 : List Int) (x169006 : Int) (x169007 : Int) (x170000 : Int) (x170001 : Int) (x170002 : Int) (x170003 : Int) (x170004 : Int) (x170005 : Int) (x170006 : Int) (x170007 : Int) : Option (ByteArray) := lim (fun k => spec_WhyNot.j2 k x45 x169000 x169001 x169002 x169003 x169004 x169005 x169006 x169007 x170000 x170001 x170002 x170003 x170004 x170005 x170006 x170007)
theorem spec_WhyNot.J2_co (x45 : Bool) (x169000 : Int) (x169001 : Int) (x169002 : List Int) (x169003 : Int) (x169004 : Int) (x169005 : List Int) (x169006 : Int) (x169007 : Int) (x170000 : Int) (x170001 : Int) (x170002 : Int) (x170003 : Int) (x170004 : Int) (x170005 : Int) (x170006 : Int) (x170007 : Int) : Co (fun k => spec_WhyNot.j2 k x45 x169000 x169001 x169002 x169003 x169004 x169005 x169006 x169007 x170000 x170001 x170002 x170003 x170004 x170005 x170006 x170007) (spec_WhyNot.J2 x45 x169000 x169001 x169002 x169003 x169004 x169005 x169006 x169007 x170000 x170001 x170002 x170003 x170004 x170005 x170006 x170007) := Co.base (fun k => (spec_WhyNot.mono_l k).2.2 _ _ _ _ _ _ _ _ _ _ _ _ _ _ _ _ _)
noncomputable def spec_WhyNot.F (a0_0 : Int) (a0_1 : Int) (l0_2 : List Int) (a0_3 : Int) (a0_4 : Int) (l0_5 : List Int) (a0_6 : Int) (a0_7 : Int) (a1_0 : Int) (a1_1 : Int) (a1_2 : Int) (a1_3 : Int) (a1_4 : Int) (a1_5 : Int) (a1_6 : Int) (a1_7 : Int) : Option (ByteArray) := lim (fun k => spec_WhyNot.f k a0_0 a0_1 l0_2 a0_3 a0_4 l0_5 a0_6 a0_7 a1_0 a1_1 a1_2 a1_3 a1_4 a1_5 a1_6 a1_7)
theorem spec_WhyNot.F_co (a0_0 : Int) (a0_1 : Int) (l0_2 : List Int) (a0_3 : Int) (a0_4 : Int) (l0_5 : List Int) (a0_6 : Int) (a0_7 : Int) (a1_0 : Int) (a1_1 : Int) (a1_2 : Int) (a1_3 : Int) (a1_4 : Int) (a1_5 : Int) (a1_6 : Int) (a1_7 : Int) : Co (fun k => spec_WhyNot.f k a0_0 a0_1 l0_2 a0_3 a0_4 l0_5 a0_6 a0_7 a1_0 a1_1 a1_2 a1_3 a1_4 a1_5 a1_6 a1_7) (spec_WhyNot.F a0_0 a0_1 l0_2 a0_3 a0_4 l0_5 a0_6 a0_7 a1_0 a1_1 a1_2 a1_3 a1_4 a1_5 a1_6 a1_7) := Co.base (fun k => spec_WhyNot.mono _ _ _ _ _ _ _ _ _ _ _ _ _ _ _ _ k)
theorem spec_WhyNot.J0_eq (x5 : Bool) (x169000 : Int) (x169001 : Int) (x169002 : List Int) (x169003 : Int) (x169004 : Int) (x169005 : List Int) (x169006 : Int) (x169007 : Int) (x170000 : Int) (x170001 : Int) (x170002 : Int) (x170003 : Int) (x170004 : Int) (x170005 : Int) (x170006 : Int) (x170007 : Int) : spec_WhyNot.J0 x5 x169000 x169001 x169002 x169003 x169004 x169005 x169006 x169007 x170000 x170001 x170002 x170003 x170004 x170005 x170006 x170007 = (if x5 = true then (some (⟨#[105, 110, 118, 97, 108, 105, 100]⟩ : ByteArray)) else (if x169001 = x170001 then (if (x169002.length : Int) > 0 then ((spec_l8Has.F x169002 x170002).bind fun t172 => (spec_WhyNot.J1 (!t172) x169000 x169001 x169002 x169003 x169004 x169005 x169006 x169007 x170000 x170001 x170002 x170003 x170004 x170005 x170006 x170007)) else (spec_WhyNot.J1 false x169000 x169001 x169002 x169003 x169004 x169005 x169006 x169007 x170000 x170001 x170002 x170003 x170004 x170005 x170006 x170007)) else (some (⟨#[107, 105, 110, 100]⟩ : ByteArray)))) := by
  refine Co.step (spec_WhyNot.J0_co x5 x169000 x169001 x169002 x169003 x169004 x169005 x169006 x169007 x170000 x170001 x170002 x170003 x170004 x170005 x170006 x170007) (h := fun k => (if x5 = true then (some (⟨#[105, 110, 118, 97, 108, 105, 100]⟩ : ByteArray)) else (if x169001 = x170001 then (if (x169002.length : Int) > 0 then ((spec_l8Has.f k x169002 x170002).bind fun t172 => (spec_WhyNot.j1 k (!t172) x169000 x169001 x169002 x169003 x169004 x169005 x169006 x169007 x170000 x170001 x170002 x170003 x170004 x170005 x170006 x170007)) else (spec_WhyNot.j1 k false x169000 x169001 x169002 x169003 x169004 x169005 x169006 x169007 x170000 x170001 x170002 x170003 x170004 x170005 x170006 x170007)) else (some (⟨#[107, 105, 110, 100]⟩ : ByteArray))))) (fun k => by first | rfl | (simp only [spec_WhyNot.j0])) ?_
  repeat' first
    | (with_reducible exact Co.const _)
    | (with_reducible exact spec_WhyNot.J1_co _ _ _ _ _ _ _ _ _ _ _ _ _ _ _ _ _)
    | (with_reducible exact spec_l8Has.F_co _ _)
    | (with_reducible refine Co.ite ?_ ?_)
    | (with_reducible refine Co.bind ?_ (fun _ => ?_))
theorem spec_WhyNot.J1_eq (x21 : Bool) (x169000 : Int) (x169001 : Int) (x169002 : List Int) (x169003 : Int) (x169004 : Int) (x169005 : List Int) (x169006 : Int) (x169007 : Int) (x170000 : Int) (x170001 : Int) (x170002 : Int) (x170003 : Int) (x170004 : Int) (x170005 : Int) (x170006 : Int) (x170007 : Int) : spec_WhyNot.J1 x21 x169000 x169001 x169002 x169003 x169004 x169005 x169006 x169007 x170000 x170001 x170002 x170003 x170004 x170005 x170006 x170007 = (if x21 = true then (some (⟨#[99, 111, 108, 111, 117, 114]⟩ : ByteArray)) else ((spec_l1In.f x170003 x169003 x169004).bind fun t173 => (if t173 = true then (if (x169005.length : Int) > 0 then ((spec_l8Has.F x169005 x170005).bind fun t174 => (spec_WhyNot.J2 (!t174) x169000 x169001 x169002 x169003 x169004 x169005 x169006 x169007 x170000 x170001 x170002 x170003 x170004 x170005 x170006 x170007)) else (spec_WhyNot.J2 false x169000 x169001 x169002 x169003 x169004 x169005 x169006 x169007 x170000 x170001 x170002 x170003 x170004 x170005 x170006 x170007)) else (some (⟨#[115, 105, 122, 101]⟩ : ByteArray))))) := by
  refine Co.step (spec_WhyNot.J1_co x21 x169000 x169001 x169002 x169003 x169004 x169005 x169006 x169007 x170000 x170001 x170002 x170003 x170004 x170005 x170006 x170007) (h := fun k => (if x21 = true then (some (⟨#[99, 111, 108, 111, 117, 114]⟩ : ByteArray)) else ((spec_l1In.f x170003 x169003 x169004).bind fun t173 => (if t173 = true then (if (x169005.length : Int) > 0 then ((spec_l8Has.f k x169005 x170005).bind fun t174 => (spec_WhyNot.j2 k (!t174) x169000 x169001 x169002 x169003 x169004 x169005 x169006 x169007 x170000 x170001 x170002 x170003 x170004 x170005 x170006 x170007)) else (spec_WhyNot.j2 k false x169000 x169001 x169002 x169003 x169004 x169005 x169006 x169007 x170000 x170001 x170002 x170003 x170004 x170005 x170006 x170007)) else (some (⟨#[115, 105, 122, 101]⟩ : ByteArray)))))) (fun k => by first | rfl | (simp only [spec_WhyNot.j1])) ?_
  repeat' first
    | (with_reducible exact Co.const _)
    | (with_reducible exact spec_WhyNot.J2_co _ _ _ _ _ _ _ _ _ _ _ _ _ _ _ _ _)
    | (with_reducible exact spec_l8Has.F_co _ _)
    | (with_reducible refine Co.ite ?_ ?_)
    | (with_reducible refine Co.bind ?_ (fun _ => ?_))
theorem spec_WhyNot.J2_eq (x45 : Bool) (x169000 : Int) (x169001 : Int) (x169002 : List Int) (x169003 : Int) (x169004 : Int) (x169005 : List Int) (x169006 : Int) (x169007 : Int) (x170000 : Int) (x170001 : Int) (x170002 : Int) (x170003 : Int) (x170004 : Int) (x170005 : Int) (x170006 : Int) (x170007 : Int) : spec_WhyNot.J2 x45 x169000 x169001 x169002 x169003 x169004 x169005 x169006 x169007 x170000 x170001 x170002 x170003 x170004 x170005 x170006 x170007 = (if x45 = true then (some (⟨#[112, 108, 97, 99, 101]⟩ : ByteArray)) else (if x170006 < x169006 then (some (⟨#[116, 105, 109, 101]⟩ : ByteArray)) else (some (⟨#[]⟩ : ByteArray)))) := by
  refine Co.step (spec_WhyNot.J2_co x45 x169000 x169001 x169002 x169003 x169004 x169005 x169006 x169007 x170000 x170001 x170002 x170003 x170004 x170005 x170006 x170007) (h := fun k => (if x45 = true then (some (⟨#[112, 108, 97, 99, 101]⟩ : ByteArray)) else (if x170006 < x169006 then (some (⟨#[116, 105, 109, 101]⟩ : ByteArray)) else (some (⟨#[]⟩ : ByteArray))))) (fun k => by first | rfl | (simp only [spec_WhyNot.j2])) ?_
  repeat' first
    | (with_reducible exact Co.const _)
    | (with_reducible refine Co.ite ?_ ?_)
    | (with_reducible refine Co.bind ?_ (fun _ => ?_))
theorem spec_WhyNot.F_eq (a0_0 : Int) (a0_1 : Int) (l0_2 : List Int) (a0_3 : Int) (a0_4 : Int) (l0_5 : List Int) (a0_6 : Int) (a0_7 : Int) (a1_0 : Int) (a1_1 : Int) (a1_2 : Int) (a1_3 : Int) (a1_4 : Int) (a1_5 : Int) (a1_6 : Int) (a1_7 : Int) : spec_WhyNot.F a0_0 a0_1 l0_2 a0_3 a0_4 l0_5 a0_6 a0_7 a1_0 a1_1 a1_2 a1_3 a1_4 a1_5 a1_6 a1_7 = ((spec_IsReport.F a0_0 a0_1 l0_2 a0_3 a0_4 l0_5 a0_6 a0_7).bind fun t170 => (if t170 = true then ((spec_IsFind.f a1_0 a1_1 a1_2 a1_3 a1_4 a1_5 a1_6 a1_7).bind fun t171 => (spec_WhyNot.J0 (!t171) a0_0 a0_1 l0_2 a0_3 a0_4 l0_5 a0_6 a0_7 a1_0 a1_1 a1_2 a1_3 a1_4 a1_5 a1_6 a1_7)) else (spec_WhyNot.J0 true a0_0 a0_1 l0_2 a0_3 a0_4 l0_5 a0_6 a0_7 a1_0 a1_1 a1_2 a1_3 a1_4 a1_5 a1_6 a1_7))) := by
  refine Co.same (spec_WhyNot.F_co a0_0 a0_1 l0_2 a0_3 a0_4 l0_5 a0_6 a0_7 a1_0 a1_1 a1_2 a1_3 a1_4 a1_5 a1_6 a1_7) (h := fun k => ((spec_IsReport.f k a0_0 a0_1 l0_2 a0_3 a0_4 l0_5 a0_6 a0_7).bind fun t170 => (if t170 = true then ((spec_IsFind.f a1_0 a1_1 a1_2 a1_3 a1_4 a1_5 a1_6 a1_7).bind fun t171 => (spec_WhyNot.j0 k (!t171) a0_0 a0_1 l0_2 a0_3 a0_4 l0_5 a0_6 a0_7 a1_0 a1_1 a1_2 a1_3 a1_4 a1_5 a1_6 a1_7)) else (spec_WhyNot.j0 k true a0_0 a0_1 l0_2 a0_3 a0_4 l0_5 a0_6 a0_7 a1_0 a1_1 a1_2 a1_3 a1_4 a1_5 a1_6 a1_7)))) (fun k => by first | rfl | unfold spec_WhyNot.f; rfl) ?_
  repeat' first
    | (with_reducible exact Co.const _)
    | (with_reducible exact spec_IsReport.F_co _ _ _ _ _ _ _ _)
    | (with_reducible exact spec_WhyNot.J0_co _ _ _ _ _ _ _ _ _ _ _ _ _ _ _ _ _)
    | (with_reducible refine Co.ite ?_ ?_)
    | (with_reducible refine Co.bind ?_ (fun _ => ?_))

noncomputable def spec_CanBe.F (a0_0 : Int) (a0_1 : Int) (l0_2 : List Int) (a0_3 : Int) (a0_4 : Int) (l0_5 : List Int) (a0_6 : Int) (a0_7 : Int) (a1_0 : Int) (a1_1 : Int) (a1_2 : Int) (a1_3 : Int) (a1_4 : Int) (a1_5 : Int) (a1_6 : Int) (a1_7 : Int) : Option (Bool) := lim (fun k => spec_CanBe.f k a0_0 a0_1 l0_2 a0_3 a0_4 l0_5 a0_6 a0_7 a1_0 a1_1 a1_2 a1_3 a1_4 a1_5 a1_6 a1_7)
theorem spec_CanBe.F_co (a0_0 : Int) (a0_1 : Int) (l0_2 : List Int) (a0_3 : Int) (a0_4 : Int) (l0_5 : List Int) (a0_6 : Int) (a0_7 : Int) (a1_0 : Int) (a1_1 : Int) (a1_2 : Int) (a1_3 : Int) (a1_4 : Int) (a1_5 : Int) (a1_6 : Int) (a1_7 : Int) : Co (fun k => spec_CanBe.f k a0_0 a0_1 l0_2 a0_3 a0_4 l0_5 a0_6 a0_7 a1_0 a1_1 a1_2 a1_3 a1_4 a1_5 a1_6 a1_7) (spec_CanBe.F a0_0 a0_1 l0_2 a0_3 a0_4 l0_5 a0_6 a0_7 a1_0 a1_1 a1_2 a1_3 a1_4 a1_5 a1_6 a1_7) := Co.base (fun k => spec_CanBe.mono _ _ _ _ _ _ _ _ _ _ _ _ _ _ _ _ k)
theorem spec_CanBe.F_eq (a0_0 : Int) (a0_1 : Int) (l0_2 : List Int) (a0_3 : Int) (a0_4 : Int) (l0_5 : List Int) (a0_6 : Int) (a0_7 : Int) (a1_0 : Int) (a1_1 : Int) (a1_2 : Int) (a1_3 : Int) (a1_4 : Int) (a1_5 : Int) (a1_6 : Int) (a1_7 : Int) : spec_CanBe.F a0_0 a0_1 l0_2 a0_3 a0_4 l0_5 a0_6 a0_7 a1_0 a1_1 a1_2 a1_3 a1_4 a1_5 a1_6 a1_7 = ((spec_WhyNot.F a0_0 a0_1 l0_2 a0_3 a0_4 l0_5 a0_6 a0_7 a1_0 a1_1 a1_2 a1_3 a1_4 a1_5 a1_6 a1_7).bind fun t177 => (some (t177.toList == ([] : List UInt8)))) := by
  refine Co.same (spec_CanBe.F_co a0_0 a0_1 l0_2 a0_3 a0_4 l0_5 a0_6 a0_7 a1_0 a1_1 a1_2 a1_3 a1_4 a1_5 a1_6 a1_7) (h := fun k => ((spec_WhyNot.f k a0_0 a0_1 l0_2 a0_3 a0_4 l0_5 a0_6 a0_7 a1_0 a1_1 a1_2 a1_3 a1_4 a1_5 a1_6 a1_7).bind fun t177 => (some (t177.toList == ([] : List UInt8))))) (fun k => by first | rfl | unfold spec_CanBe.f; rfl) ?_
  repeat' first
    | (with_reducible exact Co.const _)
    | (with_reducible exact spec_WhyNot.F_co _ _ _ _ _ _ _ _ _ _ _ _ _ _ _ _)
    | (with_reducible refine Co.ite ?_ ?_)
    | (with_reducible refine Co.bind ?_ (fun _ => ?_))

noncomputable def spec_Score.F (a0_0 : Int) (a0_1 : Int) (l0_2 : List Int) (a0_3 : Int) (a0_4 : Int) (l0_5 : List Int) (a0_6 : Int) (a0_7 : Int) (a1_0 : Int) (a1_1 : Int) (a1_2 : Int) (a1_3 : Int) (a1_4 : Int) (a1_5 : Int) (a1_6 : Int) (a1_7 : Int) : Option (Int) := lim (fun k => spec_Score.f k a0_0 a0_1 l0_2 a0_3 a0_4 l0_5 a0_6 a0_7 a1_0 a1_1 a1_2 a1_3 a1_4 a1_5 a1_6 a1_7)
theorem spec_Score.F_co (a0_0 : Int) (a0_1 : Int) (l0_2 : List Int) (a0_3 : Int) (a0_4 : Int) (l0_5 : List Int) (a0_6 : Int) (a0_7 : Int) (a1_0 : Int) (a1_1 : Int) (a1_2 : Int) (a1_3 : Int) (a1_4 : Int) (a1_5 : Int) (a1_6 : Int) (a1_7 : Int) : Co (fun k => spec_Score.f k a0_0 a0_1 l0_2 a0_3 a0_4 l0_5 a0_6 a0_7 a1_0 a1_1 a1_2 a1_3 a1_4 a1_5 a1_6 a1_7) (spec_Score.F a0_0 a0_1 l0_2 a0_3 a0_4 l0_5 a0_6 a0_7 a1_0 a1_1 a1_2 a1_3 a1_4 a1_5 a1_6 a1_7) := Co.base (fun k => spec_Score.mono _ _ _ _ _ _ _ _ _ _ _ _ _ _ _ _ k)
theorem spec_Score.F_eq (a0_0 : Int) (a0_1 : Int) (l0_2 : List Int) (a0_3 : Int) (a0_4 : Int) (l0_5 : List Int) (a0_6 : Int) (a0_7 : Int) (a1_0 : Int) (a1_1 : Int) (a1_2 : Int) (a1_3 : Int) (a1_4 : Int) (a1_5 : Int) (a1_6 : Int) (a1_7 : Int) : spec_Score.F a0_0 a0_1 l0_2 a0_3 a0_4 l0_5 a0_6 a0_7 a1_0 a1_1 a1_2 a1_3 a1_4 a1_5 a1_6 a1_7 = ((spec_CanBe.F a0_0 a0_1 l0_2 a0_3 a0_4 l0_5 a0_6 a0_7 a1_0 a1_1 a1_2 a1_3 a1_4 a1_5 a1_6 a1_7).bind fun t180 => (if t180 = true then ((spec_l1In.f (l0_2.length : Int) 1 2).bind fun t181 => ((spec_l8One.f t181).bind fun t182 => ((spec_l8One.f (decide ((wrap64 (a0_4 - a0_3)) ≤ 5))).bind fun t183 => ((spec_l1In.f (l0_5.length : Int) 1 2).bind fun t184 => ((spec_l8One.f t184).bind fun t185 => ((spec_l8One.f (decide (a1_6 ≤ (wrap64 (a0_7 + 24))))).bind fun t186 => (some (wrap64 ((wrap64 ((wrap64 ((wrap64 (1 + t182)) + t183)) + t185)) + t186))))))))) else (some 0))) := by
  refine Co.same (spec_Score.F_co a0_0 a0_1 l0_2 a0_3 a0_4 l0_5 a0_6 a0_7 a1_0 a1_1 a1_2 a1_3 a1_4 a1_5 a1_6 a1_7) (h := fun k => ((spec_CanBe.f k a0_0 a0_1 l0_2 a0_3 a0_4 l0_5 a0_6 a0_7 a1_0 a1_1 a1_2 a1_3 a1_4 a1_5 a1_6 a1_7).bind fun t180 => (if t180 = true then ((spec_l1In.f (l0_2.length : Int) 1 2).bind fun t181 => ((spec_l8One.f t181).bind fun t182 => ((spec_l8One.f (decide ((wrap64 (a0_4 - a0_3)) ≤ 5))).bind fun t183 => ((spec_l1In.f (l0_5.length : Int) 1 2).bind fun t184 => ((spec_l8One.f t184).bind fun t185 => ((spec_l8One.f (decide (a1_6 ≤ (wrap64 (a0_7 + 24))))).bind fun t186 => (some (wrap64 ((wrap64 ((wrap64 ((wrap64 (1 + t182)) + t183)) + t185)) + t186))))))))) else (some 0)))) (fun k => by first | rfl | unfold spec_Score.f; rfl) ?_
  repeat' first
    | (with_reducible exact Co.const _)
    | (with_reducible exact spec_CanBe.F_co _ _ _ _ _ _ _ _ _ _ _ _ _ _ _ _)
    | (with_reducible refine Co.ite ?_ ?_)
    | (with_reducible refine Co.bind ?_ (fun _ => ?_))

noncomputable def impl_isAscending.L0 (x0 : List Int) (x1 : Int) (x2 : Int) (x9 : List Int) (x10 : Int) (x11 : Int) : Option (Bool) := lim (fun k => impl_isAscending.l0 k x0 x1 x2 x9 x10 x11)
theorem impl_isAscending.L0_co (x0 : List Int) (x1 : Int) (x2 : Int) (x9 : List Int) (x10 : Int) (x11 : Int) : Co (fun k => impl_isAscending.l0 k x0 x1 x2 x9 x10 x11) (impl_isAscending.L0 x0 x1 x2 x9 x10 x11) := Co.base (fun k => (impl_isAscending.mono_l k) _ _ _ _ _ _)
noncomputable def impl_isAscending.F (l0 : List Int) (a1 : Int) (a2 : Int) : Option (Bool) := lim (fun k => impl_isAscending.f k l0 a1 a2)
theorem impl_isAscending.F_co (l0 : List Int) (a1 : Int) (a2 : Int) : Co (fun k => impl_isAscending.f k l0 a1 a2) (impl_isAscending.F l0 a1 a2) := Co.base (fun k => impl_isAscending.mono _ _ _ k)
theorem impl_isAscending.L0_eq (x0 : List Int) (x1 : Int) (x2 : Int) (x9 : List Int) (x10 : Int) (x11 : Int) : impl_isAscending.L0 x0 x1 x2 x9 x10 x11 = (if x11 < x10 then (if 0 ≤ x11 then (if x11 < (x9.length : Int) then ((impl_InRange.f (rd x9 x11) x1 x2).bind fun t188 => (if t188 = true then (if x11 > 0 then (if 0 ≤ (wrap64 (x11 - 1)) then (if (wrap64 (x11 - 1)) < (x0.length : Int) then (if (rd x9 x11) ≤ (rd x0 (wrap64 (x11 - 1))) then (some false) else (impl_isAscending.L0 x0 x1 x2 x9 x10 (wrap64 (x11 + 1)))) else (none)) else (none)) else (impl_isAscending.L0 x0 x1 x2 x9 x10 (wrap64 (x11 + 1)))) else (some false))) else (none)) else (none)) else (some true)) := by
  refine Co.step (impl_isAscending.L0_co x0 x1 x2 x9 x10 x11) (h := fun k => (if x11 < x10 then (if 0 ≤ x11 then (if x11 < (x9.length : Int) then ((impl_InRange.f (rd x9 x11) x1 x2).bind fun t188 => (if t188 = true then (if x11 > 0 then (if 0 ≤ (wrap64 (x11 - 1)) then (if (wrap64 (x11 - 1)) < (x0.length : Int) then (if (rd x9 x11) ≤ (rd x0 (wrap64 (x11 - 1))) then (some false) else (impl_isAscending.l0 k x0 x1 x2 x9 x10 (wrap64 (x11 + 1)))) else (none)) else (none)) else (impl_isAscending.l0 k x0 x1 x2 x9 x10 (wrap64 (x11 + 1)))) else (some false))) else (none)) else (none)) else (some true))) (fun k => by first | rfl | (simp only [impl_isAscending.l0])) ?_
  repeat' first
    | (with_reducible exact Co.const _)
    | (with_reducible exact impl_isAscending.L0_co _ _ _ _ _ _)
    | (with_reducible refine Co.ite ?_ ?_)
    | (with_reducible refine Co.bind ?_ (fun _ => ?_))
theorem impl_isAscending.F_eq (l0 : List Int) (a1 : Int) (a2 : Int) : impl_isAscending.F l0 a1 a2 = (impl_isAscending.L0 l0 a1 a2 l0 (l0.length : Int) 0) := by
  refine Co.same (impl_isAscending.F_co l0 a1 a2) (h := fun k => (impl_isAscending.l0 k l0 a1 a2 l0 (l0.length : Int) 0)) (fun k => by first | rfl | unfold impl_isAscending.f; rfl) ?_
  repeat' first
    | (with_reducible exact Co.const _)
    | (with_reducible exact impl_isAscending.L0_co _ _ _ _ _ _)
    | (with_reducible refine Co.ite ?_ ?_)
    | (with_reducible refine Co.bind ?_ (fun _ => ?_))

noncomputable def impl_IsReport.F (a0_0 : Int) (a0_1 : Int) (l0_2 : List Int) (a0_3 : Int) (a0_4 : Int) (l0_5 : List Int) (a0_6 : Int) (a0_7 : Int) : Option (Bool) := lim (fun k => impl_IsReport.f k a0_0 a0_1 l0_2 a0_3 a0_4 l0_5 a0_6 a0_7)
theorem impl_IsReport.F_co (a0_0 : Int) (a0_1 : Int) (l0_2 : List Int) (a0_3 : Int) (a0_4 : Int) (l0_5 : List Int) (a0_6 : Int) (a0_7 : Int) : Co (fun k => impl_IsReport.f k a0_0 a0_1 l0_2 a0_3 a0_4 l0_5 a0_6 a0_7) (impl_IsReport.F a0_0 a0_1 l0_2 a0_3 a0_4 l0_5 a0_6 a0_7) := Co.base (fun k => impl_IsReport.mono _ _ _ _ _ _ _ _ k)
theorem impl_IsReport.F_eq (a0_0 : Int) (a0_1 : Int) (l0_2 : List Int) (a0_3 : Int) (a0_4 : Int) (l0_5 : List Int) (a0_6 : Int) (a0_7 : Int) : impl_IsReport.F a0_0 a0_1 l0_2 a0_3 a0_4 l0_5 a0_6 a0_7 = ((impl_InRange.f a0_0 1 999).bind fun t194 => (if t194 = true then ((impl_InRange.f a0_1 1 8).bind fun t195 => (if t195 = true then ((impl_isAscending.F l0_2 0 7).bind fun t196 => (if t196 = true then (if 1 ≤ a0_3 then (if a0_3 ≤ a0_4 then (if a0_4 ≤ 50 then ((impl_isAscending.F l0_5 1 30).bind fun t197 => (if t197 = true then (if (l0_5.length : Int) ≤ 10 then ((impl_IsSpan.f a0_6 a0_7).bind fun t198 => (some t198)) else (some false)) else (some false))) else (some false)) else (some false)) else (some false)) else (some false))) else (some false))) else (some false))) := by
  refine Co.same (impl_IsReport.F_co a0_0 a0_1 l0_2 a0_3 a0_4 l0_5 a0_6 a0_7) (h := fun k => ((impl_InRange.f a0_0 1 999).bind fun t194 => (if t194 = true then ((impl_InRange.f a0_1 1 8).bind fun t195 => (if t195 = true then ((impl_isAscending.f k l0_2 0 7).bind fun t196 => (if t196 = true then (if 1 ≤ a0_3 then (if a0_3 ≤ a0_4 then (if a0_4 ≤ 50 then ((impl_isAscending.f k l0_5 1 30).bind fun t197 => (if t197 = true then (if (l0_5.length : Int) ≤ 10 then ((impl_IsSpan.f a0_6 a0_7).bind fun t198 => (some t198)) else (some false)) else (some false))) else (some false)) else (some false)) else (some false)) else (some false))) else (some false))) else (some false)))) (fun k => by first | rfl | unfold impl_IsReport.f; rfl) ?_
  repeat' first
    | (with_reducible exact Co.const _)
    | (with_reducible exact impl_isAscending.F_co _ _ _)
    | (with_reducible refine Co.ite ?_ ?_)
    | (with_reducible refine Co.bind ?_ (fun _ => ?_))

noncomputable def slices_Index_int_int.L0 (x0 : List Int) (x1 : Int) (x7 : Int) (x8 : Int) : Option (Int) := lim (fun k => slices_Index_int_int.l0 k x0 x1 x7 x8)
theorem slices_Index_int_int.L0_co (x0 : List Int) (x1 : Int) (x7 : Int) (x8 : Int) : Co (fun k => slices_Index_int_int.l0 k x0 x1 x7 x8) (slices_Index_int_int.L0 x0 x1 x7 x8) := Co.base (fun k => (slices_Index_int_int.mono_l k) _ _ _ _)
noncomputable def slices_Index_int_int.F (l0 : List Int) (a1 : Int) : Option (Int) := lim (fun k => slices_Index_int_int.f k l0 a1)
theorem slices_Index_int_int.F_co (l0 : List Int) (a1 : Int) : Co (fun k => slices_Index_int_int.f k l0 a1) (slices_Index_int_int.F l0 a1) := Co.base (fun k => slices_Index_int_int.mono _ _ k)
theorem slices_Index_int_int.L0_eq (x0 : List Int) (x1 : Int) (x7 : Int) (x8 : Int) : slices_Index_int_int.L0 x0 x1 x7 x8 = (if x8 < x7 then (if 0 ≤ x8 then (if x8 < (x0.length : Int) then (if x1 = (rd x0 x8) then (some x8) else (slices_Index_int_int.L0 x0 x1 x7 (wrap64 (x8 + 1)))) else (none)) else (none)) else (some (-1))) := by
  refine Co.step (slices_Index_int_int.L0_co x0 x1 x7 x8) (h := fun k => (if x8 < x7 then (if 0 ≤ x8 then (if x8 < (x0.length : Int) then (if x1 = (rd x0 x8) then (some x8) else (slices_Index_int_int.l0 k x0 x1 x7 (wrap64 (x8 + 1)))) else (none)) else (none)) else (some (-1)))) (fun k => by first | rfl | (simp only [slices_Index_int_int.l0])) ?_
  repeat' first
    | (with_reducible exact Co.const _)
    | (with_reducible exact slices_Index_int_int.L0_co _ _ _ _)
    | (with_reducible refine Co.ite ?_ ?_)
    | (with_reducible refine Co.bind ?_ (fun _ => ?_))
theorem slices_Index_int_int.F_eq (l0 : List Int) (a1 : Int) : slices_Index_int_int.F l0 a1 = (slices_Index_int_int.L0 l0 a1 (l0.length : Int) 0) := by
  refine Co.same (slices_Index_int_int.F_co l0 a1) (h := fun k => (slices_Index_int_int.l0 k l0 a1 (l0.length : Int) 0)) (fun k => by first | rfl | unfold slices_Index_int_int.f; rfl) ?_
  repeat' first
    | (with_reducible exact Co.const _)
    | (with_reducible exact slices_Index_int_int.L0_co _ _ _ _)
    | (with_reducible refine Co.ite ?_ ?_)
    | (with_reducible refine Co.bind ?_ (fun _ => ?_))

noncomputable def slices_Contains_int_int.F (l0 : List Int) (a1 : Int) : Option (Bool) := lim (fun k => slices_Contains_int_int.f k l0 a1)
theorem slices_Contains_int_int.F_co (l0 : List Int) (a1 : Int) : Co (fun k => slices_Contains_int_int.f k l0 a1) (slices_Contains_int_int.F l0 a1) := Co.base (fun k => slices_Contains_int_int.mono _ _ k)
theorem slices_Contains_int_int.F_eq (l0 : List Int) (a1 : Int) : slices_Contains_int_int.F l0 a1 = ((slices_Index_int_int.F l0 a1).bind fun t211 => (some (decide (t211 ≥ 0)))) := by
  refine Co.same (slices_Contains_int_int.F_co l0 a1) (h := fun k => ((slices_Index_int_int.f k l0 a1).bind fun t211 => (some (decide (t211 ≥ 0))))) (fun k => by first | rfl | unfold slices_Contains_int_int.f; rfl) ?_
  repeat' first
    | (with_reducible exact Co.const _)
    | (with_reducible exact slices_Index_int_int.F_co _ _)
    | (with_reducible refine Co.ite ?_ ?_)
    | (with_reducible refine Co.bind ?_ (fun _ => ?_))

noncomputable def impl_allows.F (l0 : List Int) (a1 : Int) : Option (Bool) := lim (fun k => impl_allows.f k l0 a1)
theorem impl_allows.F_co (l0 : List Int) (a1 : Int) : Co (fun k => impl_allows.f k l0 a1) (impl_allows.F l0 a1) := Co.base (fun k => impl_allows.mono _ _ k)
theorem impl_allows.F_eq (l0 : List Int) (a1 : Int) : impl_allows.F l0 a1 = (if (l0.length : Int) = 0 then (some true) else ((slices_Contains_int_int.F l0 a1).bind fun t212 => (some t212))) := by
  refine Co.same (impl_allows.F_co l0 a1) (h := fun k => (if (l0.length : Int) = 0 then (some true) else ((slices_Contains_int_int.f k l0 a1).bind fun t212 => (some t212)))) (fun k => by first | rfl | unfold impl_allows.f; rfl) ?_
  repeat' first
    | (with_reducible exact Co.const _)
    | (with_reducible exact slices_Contains_int_int.F_co _ _)
    | (with_reducible refine Co.ite ?_ ?_)
    | (with_reducible refine Co.bind ?_ (fun _ => ?_))

noncomputable def impl_WhyNot.J0 (x5 : Bool) (x214000 : Int) (x214001 : Int) (x214002 : List Int) (x214003 : Int) (x214004 : Int) (x214005 : List Int) (x214006 : Int) (x214007 : Int) (x215000 : Int) (x215001 : Int) (x215002 : Int) (x215003 : Int) (x215004 : Int) (x215005 : Int) (x215006 : Int) (x215007 : Int) : Option (ByteArray) := lim (fun k => impl_WhyNot.j0 k x5 x214000 x214001 x214002 x214003 x214004 x214005 x214006 x214007 x215000 x215001 x215002 x215003 x215004 x215005 x215006 x215007)
theorem impl_WhyNot.J0_co (x5 : Bool) (x214000 : Int) (x214001 : Int) (x214002 : List Int) (x214003 : Int) (x214004 : Int) (x214005 : List Int) (x214006 : Int) (x214007 : Int) (x215000 : Int) (x215001 : Int) (x215002 : Int) (x215003 : Int) (x215004 : Int) (x215005 : Int) (x215006 : Int) (x215007 : Int) : Co (fun k => impl_WhyNot.j0 k x5 x214000 x214001 x214002 x214003 x214004 x214005 x214006 x214007 x215000 x215001 x215002 x215003 x215004 x215005 x215006 x215007) (impl_WhyNot.J0 x5 x214000 x214001 x214002 x214003 x214004 x214005 x214006 x214007 x215000 x215001 x215002 x215003 x215004 x215005 x215006 x215007) := Co.base (fun k => (impl_WhyNot.mono_l k) _ _ _ _ _ _ _ _ _ _ _ _ _ _ _ _ _)
noncomputable def impl_WhyNot.F (a0_0 : Int) (a0_1 : Int) (l0_2 : List Int) (a0_3 : Int) (a0_4 : Int) (l0_5 : List Int) (a0_6 : Int) (a0_7 : Int) (a1_0 : Int) (a1_1 : Int) (a1_2 : Int) (a1_3 : Int) (a1_4 : Int) (a1_5 : Int) (a1_6 : Int) (a1_7 : Int) : Option (ByteArray) := lim (fun k => impl_WhyNot.f k a0_0 a0_1 l0_2 a0_3 a0_4 l0_5 a0_6 a0_7 a1_0 a1_1 a1_2 a1_3 a1_4 a1_5 a1_6 a1_7)
theorem impl_WhyNot.F_co (a0_0 : Int) (a0_1 : Int) (l0_2 : List Int) (a0_3 : Int) (a0_4 : Int) (l0_5 : List Int) (a0_6 : Int) (a0_7 : Int) (a1_0 : Int) (a1_1 : Int) (a1_2 : Int) (a1_3 : Int) (a1_4 : Int) (a1_5 : Int) (a1_6 : Int) (a1_7 : Int) : Co (fun k => impl_WhyNot.f k a0_0 a0_1 l0_2 a0_3 a0_4 l0_5 a0_6 a0_7 a1_0 a1_1 a1_2 a1_3 a1_4 a1_5 a1_6 a1_7) (impl_WhyNot.F a0_0 a0_1 l0_2 a0_3 a0_4 l0_5 a0_6 a0_7 a1_0 a1_1 a1_2 a1_3 a1_4 a1_5 a1_6 a1_7) := Co.base (fun k => impl_WhyNot.mono _ _ _ _ _ _ _ _ _ _ _ _ _ _ _ _ k)
theorem impl_WhyNot.J0_eq (x5 : Bool) (x214000 : Int) (x214001 : Int) (x214002 : List Int) (x214003 : Int) (x214004 : Int) (x214005 : List Int) (x214006 : Int) (x214007 : Int) (x215000 : Int) (x215001 : Int) (x215002 : Int) (x215003 : Int) (x215004 : Int) (x215005 : Int) (x215006 : Int) (x215007 : Int) : impl_WhyNot.J0 x5 x214000 x214001 x214002 x214003 x214004 x214005 x214006 x214007 x215000 x215001 x215002 x215003 x215004 x215005 x215006 x215007 = (if x5 = true then (some (⟨#[105, 110, 118, 97, 108, 105, 100]⟩ : ByteArray)) else (if x214001 = x215001 then ((impl_allows.F x214002 x215002).bind fun t217 => (if t217 = true then ((impl_InRange.f x215003 x214003 x214004).bind fun t218 => (if t218 = true then ((impl_allows.F x214005 x215005).bind fun t219 => (if t219 = true then (if x215006 < x214006 then (some (⟨#[116, 105, 109, 101]⟩ : ByteArray)) else (some (⟨#[]⟩ : ByteArray))) else (some (⟨#[112, 108, 97, 99, 101]⟩ : ByteArray)))) else (some (⟨#[115, 105, 122, 101]⟩ : ByteArray)))) else (some (⟨#[99, 111, 108, 111, 117, 114]⟩ : ByteArray)))) else (some (⟨#[107, 105, 110, 100]⟩ : ByteArray)))) := by
  refine Co.step (impl_WhyNot.J0_co x5 x214000 x214001 x214002 x214003 x214004 x214005 x214006 x214007 x215000 x215001 x215002 x215003 x215004 x215005 x215006 x215007) (h := fun k => (if x5 = true then (some (⟨#[105, 110, 118, 97, 108, 105, 100]⟩ : ByteArray)) else (if x214001 = x215001 then ((impl_allows.f k x214002 x215002).bind fun t217 => (if t217 = true then ((impl_InRange.f x215003 x214003 x214004).bind fun t218 => (if t218 = true then ((impl_allows.f k x214005 x215005).bind fun t219 => (if t219 = true then (if x215006 < x214006 then (some (⟨#[116, 105, 109, 101]⟩ : ByteArray)) else (some (⟨#[]⟩ : ByteArray))) else (some (⟨#[112, 108, 97, 99, 101]⟩ : ByteArray)))) else (some (⟨#[115, 105, 122, 101]⟩ : ByteArray)))) else (some (⟨#[99, 111, 108, 111, 117, 114]⟩ : ByteArray)))) else (some (⟨#[107, 105, 110, 100]⟩ : ByteArray))))) (fun k => by first | rfl | (simp only [impl_WhyNot.j0])) ?_
  repeat' first
    | (with_reducible exact Co.const _)
    | (with_reducible exact impl_allows.F_co _ _)
    | (with_reducible refine Co.ite ?_ ?_)
    | (with_reducible refine Co.bind ?_ (fun _ => ?_))
theorem impl_WhyNot.F_eq (a0_0 : Int) (a0_1 : Int) (l0_2 : List Int) (a0_3 : Int) (a0_4 : Int) (l0_5 : List Int) (a0_6 : Int) (a0_7 : Int) (a1_0 : Int) (a1_1 : Int) (a1_2 : Int) (a1_3 : Int) (a1_4 : Int) (a1_5 : Int) (a1_6 : Int) (a1_7 : Int) : impl_WhyNot.F a0_0 a0_1 l0_2 a0_3 a0_4 l0_5 a0_6 a0_7 a1_0 a1_1 a1_2 a1_3 a1_4 a1_5 a1_6 a1_7 = ((impl_IsReport.F a0_0 a0_1 l0_2 a0_3 a0_4 l0_5 a0_6 a0_7).bind fun t215 => (if t215 = true then ((impl_IsFind.f a1_0 a1_1 a1_2 a1_3 a1_4 a1_5 a1_6 a1_7).bind fun t216 => (impl_WhyNot.J0 (!t216) a0_0 a0_1 l0_2 a0_3 a0_4 l0_5 a0_6 a0_7 a1_0 a1_1 a1_2 a1_3 a1_4 a1_5 a1_6 a1_7)) else (impl_WhyNot.J0 true a0_0 a0_1 l0_2 a0_3 a0_4 l0_5 a0_6 a0_7 a1_0 a1_1 a1_2 a1_3 a1_4 a1_5 a1_6 a1_7))) := by
  refine Co.same (impl_WhyNot.F_co a0_0 a0_1 l0_2 a0_3 a0_4 l0_5 a0_6 a0_7 a1_0 a1_1 a1_2 a1_3 a1_4 a1_5 a1_6 a1_7) (h := fun k => ((impl_IsReport.f k a0_0 a0_1 l0_2 a0_3 a0_4 l0_5 a0_6 a0_7).bind fun t215 => (if t215 = true then ((impl_IsFind.f a1_0 a1_1 a1_2 a1_3 a1_4 a1_5 a1_6 a1_7).bind fun t216 => (impl_WhyNot.j0 k (!t216) a0_0 a0_1 l0_2 a0_3 a0_4 l0_5 a0_6 a0_7 a1_0 a1_1 a1_2 a1_3 a1_4 a1_5 a1_6 a1_7)) else (impl_WhyNot.j0 k true a0_0 a0_1 l0_2 a0_3 a0_4 l0_5 a0_6 a0_7 a1_0 a1_1 a1_2 a1_3 a1_4 a1_5 a1_6 a1_7)))) (fun k => by first | rfl | unfold impl_WhyNot.f; rfl) ?_
  repeat' first
    | (with_reducible exact Co.const _)
    | (with_reducible exact impl_IsReport.F_co _ _ _ _ _ _ _ _)
    | (with_reducible exact impl_WhyNot.J0_co _ _ _ _ _ _ _ _ _ _ _ _ _ _ _ _ _)
    | (with_reducible refine Co.ite ?_ ?_)
    | (with_reducible refine Co.bind ?_ (fun _ => ?_))

noncomputable def impl_CanBe.F (a0_0 : Int) (a0_1 : Int) (l0_2 : List Int) (a0_3 : Int) (a0_4 : Int) (l0_5 : List Int) (a0_6 : Int) (a0_7 : Int) (a1_0 : Int) (a1_1 : Int) (a1_2 : Int) (a1_3 : Int) (a1_4 : Int) (a1_5 : Int) (a1_6 : Int) (a1_7 : Int) : Option (Bool) := lim (fun k => impl_CanBe.f k a0_0 a0_1 l0_2 a0_3 a0_4 l0_5 a0_6 a0_7 a1_0 a1_1 a1_2 a1_3 a1_4 a1_5 a1_6 a1_7)
theorem impl_CanBe.F_co (a0_0 : Int) (a0_1 : Int) (l0_2 : List Int) (a0_3 : Int) (a0_4 : Int) (l0_5 : List Int) (a0_6 : Int) (a0_7 : Int) (a1_0 : Int) (a1_1 : Int) (a1_2 : Int) (a1_3 : Int) (a1_4 : Int) (a1_5 : Int) (a1_6 : Int) (a1_7 : Int) : Co (fun k => impl_CanBe.f k a0_0 a0_1 l0_2 a0_3 a0_4 l0_5 a0_6 a0_7 a1_0 a1_1 a1_2 a1_3 a1_4 a1_5 a1_6 a1_7) (impl_CanBe.F a0_0 a0_1 l0_2 a0_3 a0_4 l0_5 a0_6 a0_7 a1_0 a1_1 a1_2 a1_3 a1_4 a1_5 a1_6 a1_7) := Co.base (fun k => impl_CanBe.mono _ _ _ _ _ _ _ _ _ _ _ _ _ _ _ _ k)
theorem impl_CanBe.F_eq (a0_0 : Int) (a0_1 : Int) (l0_2 : List Int) (a0_3 : Int) (a0_4 : Int) (l0_5 : List Int) (a0_6 : Int) (a0_7 : Int) (a1_0 : Int) (a1_1 : Int) (a1_2 : Int) (a1_3 : Int) (a1_4 : Int) (a1_5 : Int) (a1_6 : Int) (a1_7 : Int) : impl_CanBe.F a0_0 a0_1 l0_2 a0_3 a0_4 l0_5 a0_6 a0_7 a1_0 a1_1 a1_2 a1_3 a1_4 a1_5 a1_6 a1_7 = ((impl_WhyNot.F a0_0 a0_1 l0_2 a0_3 a0_4 l0_5 a0_6 a0_7 a1_0 a1_1 a1_2 a1_3 a1_4 a1_5 a1_6 a1_7).bind fun t222 => (some (t222.toList == ([] : List UInt8)))) := by
  refine Co.same (impl_CanBe.F_co a0_0 a0_1 l0_2 a0_3 a0_4 l0_5 a0_6 a0_7 a1_0 a1_1 a1_2 a1_3 a1_4 a1_5 a1_6 a1_7) (h := fun k => ((impl_WhyNot.f k a0_0 a0_1 l0_2 a0_3 a0_4 l0_5 a0_6 a0_7 a1_0 a1_1 a1_2 a1_3 a1_4 a1_5 a1_6 a1_7).bind fun t222 => (some (t222.toList == ([] : List UInt8))))) (fun k => by first | rfl | unfold impl_CanBe.f; rfl) ?_
  repeat' first
    | (with_reducible exact Co.const _)
    | (with_reducible exact impl_WhyNot.F_co _ _ _ _ _ _ _ _ _ _ _ _ _ _ _ _)
    | (with_reducible refine Co.ite ?_ ?_)
    | (with_reducible refine Co.bind ?_ (fun _ => ?_))

noncomputable def impl_Score.J0 (x5 : Int) (x224000 : Int) (x224001 : Int) (x224002 : List Int) (x224003 : Int) (x224004 : Int) (x224005 : List Int) (x224006 : Int) (x224007 : Int) (x225000 : Int) (x225001 : Int) (x225002 : Int) (x225003 : Int) (x225004 : Int) (x225005 : Int) (x225006 : Int) (x225007 : Int) : Option (Int) := lim (fun k => impl_Score.j0 k x5 x224000 x224001 x224002 x224003 x224004 x224005 x224006 x224007 x225000 x225001 x225002 x225003 x225004 x225005 x225006 x225007)
theorem impl_Score.J0_co (x5 : Int) (x224000 : Int) (x224001 : Int) (x224002 : List Int) (x224003 : Int) (x224004 : Int) (x224005 : List Int) (x224006 : Int) (x224007 : Int) (x225000 : Int) (x225001 : Int) (x225002 : Int) (x225003 : Int) (x225004 : Int) (x225005 : Int) (x225006 : Int) (x225007 : Int) : Co (fun k => impl_Score.j0 k x5 x224000 x224001 x224002 x224003 x224004 x224005 x224006 x224007 x225000 x225001 x225002 x225003 x225004 x225005 x225006 x225007) (impl_Score.J0 x5 x224000 x224001 x224002 x224003 x224004 x224005 x224006 x224007 x225000 x225001 x225002 x225003 x225004 x225005 x225006 x225007) := Co.base (fun k => (impl_Score.mono_l k).1 _ _ _ _ _ _ _ _ _ _ _ _ _ _ _ _ _)
noncomputable def impl_Score.J1 (x5 : Int) (x224000 : Int) (x224001 : Int) (x224002 : List Int) (x224003 : Int) (x224004 : Int) (x224005 : List Int) (x224006 : Int) (x224007 : Int) (x225000 : Int) (x225001 : Int) (x225002 : Int) (x225003 : Int) (x225004 : Int) (x225005 : Int) (x225006 : Int) (x225007 : Int) : Option (Int) := lim (fun k => impl_Score.j1 k x5 x224000 x224001 x224002 x224003 x224004 x224005 x224006 x224007 x225000 x225001 x225002 x225003 x225004 x225005 x225006 x225007)
theorem impl_Score.J1_co (x5 : Int) (x224000 : Int) (x224001 : Int) (x224002 : List Int) (x224003 : Int) (x224004 : Int) (x224005 : List Int) (x224006 : Int) (x224007 : Int) (x225000 : Int) (x225001 : Int) (x225002 : Int) (x225003 : Int) (x225004 : Int) (x225005 : Int) (x225006 : Int) (x225007 : Int) : Co (fun k => impl_Score.j1 k x5 x224000 x224001 x224002 x224003 x224004 x224005 x224006 x224007 x225000 x225001 x225002 x225003 x225004 x225005 x225006 x225007) (impl_Score.J1 x5 x224000 x224001 x224002 x224003 x224004 x224005 x224006 x224007 x225000 x225001 x225002 x225003 x225004 x225005 x225006 x225007) := Co.base (fun k => (impl_Score.mono_l k).2 _ _ _ _ _ _ _ _ _ _ _ _ _ _ _ _ _)
noncomputable def impl_Score.F (a0_0 : Int) (a0_1 : Int) (l0_2 : List Int) (a0_3 : Int) (a0_4 : Int) (l0_5 : List Int) (a0_6 : Int) (a0_7 : Int) (a1_0 : Int) (a1_1 : Int) (a1_2 : Int) (a1_3 : Int) (a1_4 : Int) (a1_5 : Int) (a1_6 : Int) (a1_7 : Int) : Option (Int) := lim (fun k => impl_Score.f k a0_0 a0_1 l0_2 a0_3 a0_4 l0_5 a0_6 a0_7 a1_0 a1_1 a1_2 a1_3 a1_4 a1_5 a1_6 a1_7)
theorem impl_Score.F_co (a0_0 : Int) (a0_1 : Int) (l0_2 : List Int) (a0_3 : Int) (a0_4 : Int) (l0_5 : List Int) (a0_6 : Int) (a0_7 : Int) (a1_0 : Int) (a1_1 : Int) (a1_2 : Int) (a1_3 : Int) (a1_4 : Int) (a1_5 : Int) (a1_6 : Int) (a1_7 : Int) : Co (fun k => impl_Score.f k a0_0 a0_1 l0_2 a0_3 a0_4 l0_5 a0_6 a0_7 a1_0 a1_1 a1_2 a1_3 a1_4 a1_5 a1_6 a1_7) (impl_Score.F a0_0 a0_1 l0_2 a0_3 a0_4 l0_5 a0_6 a0_7 a1_0 a1_1 a1_2 a1_3 a1_4 a1_5 a1_6 a1_7) := Co.base (fun k => impl_Score.mono _ _ _ _ _ _ _ _ _ _ _ _ _ _ _ _ k)
theorem impl_Score.J0_eq (x5 : Int) (x224000 : Int) (x224001 : Int) (x224002 : List Int) (x224003 : Int) (x224004 : Int) (x224005 : List Int) (x224006 : Int) (x224007 : Int) (x225000 : Int) (x225001 : Int) (x225002 : Int) (x225003 : Int) (x225004 : Int) (x225005 : Int) (x225006 : Int) (x225007 : Int) : impl_Score.J0 x5 x224000 x224001 x224002 x224003 x224004 x224005 x224006 x224007 x225000 x225001 x225002 x225003 x225004 x225005 x225006 x225007 = (if (wrap64 (x224004 - x224003)) ≤ 5 then (impl_Score.J1 (wrap64 (x5 + 1)) x224000 x224001 x224002 x224003 x224004 x224005 x224006 x224007 x225000 x225001 x225002 x225003 x225004 x225005 x225006 x225007) else (impl_Score.J1 x5 x224000 x224001 x224002 x224003 x224004 x224005 x224006 x224007 x225000 x225001 x225002 x225003 x225004 x225005 x225006 x225007)) := by
  refine Co.step (impl_Score.J0_co x5 x224000 x224001 x224002 x224003 x224004 x224005 x224006 x224007 x225000 x225001 x225002 x225003 x225004 x225005 x225006 x225007) (h := fun k => (if (wrap64 (x224004 - x224003)) ≤ 5 then (impl_Score.j1 k (wrap64 (x5 + 1)) x224000 x224001 x224002 x224003 x224004 x224005 x224006 x224007 x225000 x225001 x225002 x225003 x225004 x225005 x225006 x225007) else (impl_Score.j1 k x5 x224000 x224001 x224002 x224003 x224004 x224005 x224006 x224007 x225000 x225001 x225002 x225003 x225004 x225005 x225006 x225007))) (fun k => by first | rfl | (simp only [impl_Score.j0])) ?_
  repeat' first
    | (with_reducible exact Co.const _)
    | (with_reducible exact impl_Score.J1_co _ _ _ _ _ _ _ _ _ _ _ _ _ _ _ _ _)
    | (with_reducible refine Co.ite ?_ ?_)
    | (with_reducible refine Co.bind ?_ (fun _ => ?_))
theorem impl_Score.J1_eq (x5 : Int) (x224000 : Int) (x224001 : Int) (x224002 : List Int) (x224003 : Int) (x224004 : Int) (x224005 : List Int) (x224006 : Int) (x224007 : Int) (x225000 : Int) (x225001 : Int) (x225002 : Int) (x225003 : Int) (x225004 : Int) (x225005 : Int) (x225006 : Int) (x225007 : Int) : impl_Score.J1 x5 x224000 x224001 x224002 x224003 x224004 x224005 x224006 x224007 x225000 x225001 x225002 x225003 x225004 x225005 x225006 x225007 = ((impl_InRange.f (x224005.length : Int) 1 2).bind fun t227 => (if t227 = true then (if (wrap64 (x225006 - x224007)) ≤ 24 then (some (wrap64 ((wrap64 (x5 + 1)) + 1))) else (some (wrap64 (x5 + 1)))) else (if (wrap64 (x225006 - x224007)) ≤ 24 then (some (wrap64 (x5 + 1))) else (some x5)))) := by
  refine Co.step (impl_Score.J1_co x5 x224000 x224001 x224002 x224003 x224004 x224005 x224006 x224007 x225000 x225001 x225002 x225003 x225004 x225005 x225006 x225007) (h := fun k => ((impl_InRange.f (x224005.length : Int) 1 2).bind fun t227 => (if t227 = true then (if (wrap64 (x225006 - x224007)) ≤ 24 then (some (wrap64 ((wrap64 (x5 + 1)) + 1))) else (some (wrap64 (x5 + 1)))) else (if (wrap64 (x225006 - x224007)) ≤ 24 then (some (wrap64 (x5 + 1))) else (some x5))))) (fun k => by first | rfl | (simp only [impl_Score.j1])) ?_
  repeat' first
    | (with_reducible exact Co.const _)
    | (with_reducible refine Co.ite ?_ ?_)
    | (with_reducible refine Co.bind ?_ (fun _ => ?_))
theorem impl_Score.F_eq (a0_0 : Int) (a0_1 : Int) (l0_2 : List Int) (a0_3 : Int) (a0_4 : Int) (l0_5 : List Int) (a0_6 : Int) (a0_7 : Int) (a1_0 : Int) (a1_1 : Int) (a1_2 : Int) (a1_3 : Int) (a1_4 : Int) (a1_5 : Int) (a1_6 : Int) (a1_7 : Int) : impl_Score.F a0_0 a0_1 l0_2 a0_3 a0_4 l0_5 a0_6 a0_7 a1_0 a1_1 a1_2 a1_3 a1_4 a1_5 a1_6 a1_7 = ((impl_CanBe.F a0_0 a0_1 l0_2 a0_3 a0_4 l0_5 a0_6 a0_7 a1_0 a1_1 a1_2 a1_3 a1_4 a1_5 a1_6 a1_7).bind fun t225 => (if t225 = true then ((impl_InRange.f (l0_2.length : Int) 1 2).bind fun t226 => (if t226 = true then (impl_Score.J0 (1 + 1) a0_0 a0_1 l0_2 a0_3 a0_4 l0_5 a0_6 a0_7 a1_0 a1_1 a1_2 a1_3 a1_4 a1_5 a1_6 a1_7) else (impl_Score.J0 1 a0_0 a0_1 l0_2 a0_3 a0_4 l0_5 a0_6 a0_7 a1_0 a1_1 a1_2 a1_3 a1_4 a1_5 a1_6 a1_7))) else (some 0))) := by
  refine Co.same (impl_Score.F_co a0_0 a0_1 l0_2 a0_3 a0_4 l0_5 a0_6 a0_7 a1_0 a1_1 a1_2 a1_3 a1_4 a1_5 a1_6 a1_7) (h := fun k => ((impl_CanBe.f k a0_0 a0_1 l0_2 a0_3 a0_4 l0_5 a0_6 a0_7 a1_0 a1_1 a1_2 a1_3 a1_4 a1_5 a1_6 a1_7).bind fun t225 => (if t225 = true then ((impl_InRange.f (l0_2.length : Int) 1 2).bind fun t226 => (if t226 = true then (impl_Score.j0 k (1 + 1) a0_0 a0_1 l0_2 a0_3 a0_4 l0_5 a0_6 a0_7 a1_0 a1_1 a1_2 a1_3 a1_4 a1_5 a1_6 a1_7) else (impl_Score.j0 k 1 a0_0 a0_1 l0_2 a0_3 a0_4 l0_5 a0_6 a0_7 a1_0 a1_1 a1_2 a1_3 a1_4 a1_5 a1_6 a1_7))) else (some 0)))) (fun k => by first | rfl | unfold impl_Score.f; rfl) ?_
  repeat' first
    | (with_reducible exact Co.const _)
    | (with_reducible exact impl_CanBe.F_co _ _ _ _ _ _ _ _ _ _ _ _ _ _ _ _)
    | (with_reducible exact impl_Score.J0_co _ _ _ _ _ _ _ _ _ _ _ _ _ _ _ _ _)
    | (with_reducible refine Co.ite ?_ ?_)
    | (with_reducible refine Co.bind ?_ (fun _ => ?_))

noncomputable def laws_FnExactScore.F (a0_0 : Int) (a0_1 : Int) (l0_2 : List Int) (a0_3 : Int) (a0_4 : Int) (l0_5 : List Int) (a0_6 : Int) (a0_7 : Int) (a1_0 : Int) (a1_1 : Int) (a1_2 : Int) (a1_3 : Int) (a1_4 : Int) (a1_5 : Int) (a1_6 : Int) (a1_7 : Int) : Option (Bool) := lim (fun k => laws_FnExactScore.f k a0_0 a0_1 l0_2 a0_3 a0_4 l0_5 a0_6 a0_7 a1_0 a1_1 a1_2 a1_3 a1_4 a1_5 a1_6 a1_7)
theorem laws_FnExactScore.F_co (a0_0 : Int) (a0_1 : Int) (l0_2 : List Int) (a0_3 : Int) (a0_4 : Int) (l0_5 : List Int) (a0_6 : Int) (a0_7 : Int) (a1_0 : Int) (a1_1 : Int) (a1_2 : Int) (a1_3 : Int) (a1_4 : Int) (a1_5 : Int) (a1_6 : Int) (a1_7 : Int) : Co (fun k => laws_FnExactScore.f k a0_0 a0_1 l0_2 a0_3 a0_4 l0_5 a0_6 a0_7 a1_0 a1_1 a1_2 a1_3 a1_4 a1_5 a1_6 a1_7) (laws_FnExactScore.F a0_0 a0_1 l0_2 a0_3 a0_4 l0_5 a0_6 a0_7 a1_0 a1_1 a1_2 a1_3 a1_4 a1_5 a1_6 a1_7) := Co.base (fun k => laws_FnExactScore.mono _ _ _ _ _ _ _ _ _ _ _ _ _ _ _ _ k)
theorem laws_FnExactScore.F_eq (a0_0 : Int) (a0_1 : Int) (l0_2 : List Int) (a0_3 : Int) (a0_4 : Int) (l0_5 : List Int) (a0_6 : Int) (a0_7 : Int) (a1_0 : Int) (a1_1 : Int) (a1_2 : Int) (a1_3 : Int) (a1_4 : Int) (a1_5 : Int) (a1_6 : Int) (a1_7 : Int) : laws_FnExactScore.F a0_0 a0_1 l0_2 a0_3 a0_4 l0_5 a0_6 a0_7 a1_0 a1_1 a1_2 a1_3 a1_4 a1_5 a1_6 a1_7 = ((laws_szReport.f a0_0 a0_1 l0_2 a0_3 a0_4 l0_5 a0_6 a0_7 1048576).bind fun t230 => (if t230 < 0 then (some true) else ((laws_toReport.F a0_0 a0_1 l0_2 a0_3 a0_4 l0_5 a0_6 a0_7).bind fun bt231 => ((laws_toFind.f a1_0 a1_1 a1_2 a1_3 a1_4 a1_5 a1_6 a1_7).bind fun bt243 => ((spec_Score.F bt231.1 bt231.2.1 bt231.2.2.1 bt231.2.2.2.1 bt231.2.2.2.2.1 bt231.2.2.2.2.2.1 bt231.2.2.2.2.2.2.1 bt231.2.2.2.2.2.2.2 bt243.1 bt243.2.1 bt243.2.2.1 bt243.2.2.2.1 bt243.2.2.2.2.1 bt243.2.2.2.2.2.1 bt243.2.2.2.2.2.2.1 bt243.2.2.2.2.2.2.2).bind fun t251 => ((laws_toReport.F a0_0 a0_1 l0_2 a0_3 a0_4 l0_5 a0_6 a0_7).bind fun bt252 => ((laws_toFind.f a1_0 a1_1 a1_2 a1_3 a1_4 a1_5 a1_6 a1_7).bind fun bt265 => ((impl_Score.F bt252.1 bt252.2.1 bt252.2.2.1 bt252.2.2.2.1 bt252.2.2.2.2.1 bt252.2.2.2.2.2.1 bt252.2.2.2.2.2.2.1 bt252.2.2.2.2.2.2.2 bt265.1 bt265.2.1 bt265.2.2.1 bt265.2.2.2.1 bt265.2.2.2.2.1 bt265.2.2.2.2.2.1 bt265.2.2.2.2.2.2.1 bt265.2.2.2.2.2.2.2).bind fun t273 => (if t273 = t251 then ((laws_toReport.F a0_0 a0_1 l0_2 a0_3 a0_4 l0_5 a0_6 a0_7).bind fun bt274 => ((laws_eqReport.F bt252.1 bt252.2.1 bt252.2.2.1 bt252.2.2.2.1 bt252.2.2.2.2.1 bt252.2.2.2.2.2.1 bt252.2.2.2.2.2.2.1 bt252.2.2.2.2.2.2.2 bt274.1 bt274.2.1 bt274.2.2.1 bt274.2.2.2.1 bt274.2.2.2.2.1 bt274.2.2.2.2.2.1 bt274.2.2.2.2.2.2.1 bt274.2.2.2.2.2.2.2).bind fun t286 => (if t286 = true then (some true) else (some false)))) else (some false)))))))))) := by
  refine Co.same (laws_FnExactScore.F_co a0_0 a0_1 l0_2 a0_3 a0_4 l0_5 a0_6 a0_7 a1_0 a1_1 a1_2 a1_3 a1_4 a1_5 a1_6 a1_7) (h := fun k => ((laws_szReport.f a0_0 a0_1 l0_2 a0_3 a0_4 l0_5 a0_6 a0_7 1048576).bind fun t230 => (if t230 < 0 then (some true) else ((laws_toReport.f k a0_0 a0_1 l0_2 a0_3 a0_4 l0_5 a0_6 a0_7).bind fun bt231 => ((laws_toFind.f a1_0 a1_1 a1_2 a1_3 a1_4 a1_5 a1_6 a1_7).bind fun bt243 => ((spec_Score.f k bt231.1 bt231.2.1 bt231.2.2.1 bt231.2.2.2.1 bt231.2.2.2.2.1 bt231.2.2.2.2.2.1 bt231.2.2.2.2.2.2.1 bt231.2.2.2.2.2.2.2 bt243.1 bt243.2.1 bt243.2.2.1 bt243.2.2.2.1 bt243.2.2.2.2.1 bt243.2.2.2.2.2.1 bt243.2.2.2.2.2.2.1 bt243.2.2.2.2.2.2.2).bind fun t251 => ((laws_toReport.f k a0_0 a0_1 l0_2 a0_3 a0_4 l0_5 a0_6 a0_7).bind fun bt252 => ((laws_toFind.f a1_0 a1_1 a1_2 a1_3 a1_4 a1_5 a1_6 a1_7).bind fun bt265 => ((impl_Score.f k bt252.1 bt252.2.1 bt252.2.2.1 bt252.2.2.2.1 bt252.2.2.2.2.1 bt252.2.2.2.2.2.1 bt252.2.2.2.2.2.2.1 bt252.2.2.2.2.2.2.2 bt265.1 bt265.2.1 bt265.2.2.1 bt265.2.2.2.1 bt265.2.2.2.2.1 bt265.2.2.2.2.2.1 bt265.2.2.2.2.2.2.1 bt265.2.2.2.2.2.2.2).bind fun t273 => (if t273 = t251 then ((laws_toReport.f k a0_0 a0_1 l0_2 a0_3 a0_4 l0_5 a0_6 a0_7).bind fun bt274 => ((laws_eqReport.f k bt252.1 bt252.2.1 bt252.2.2.1 bt252.2.2.2.1 bt252.2.2.2.2.1 bt252.2.2.2.2.2.1 bt252.2.2.2.2.2.2.1 bt252.2.2.2.2.2.2.2 bt274.1 bt274.2.1 bt274.2.2.1 bt274.2.2.2.1 bt274.2.2.2.2.1 bt274.2.2.2.2.2.1 bt274.2.2.2.2.2.2.1 bt274.2.2.2.2.2.2.2).bind fun t286 => (if t286 = true then (some true) else (some false)))) else (some false))))))))))) (fun k => by first | rfl | unfold laws_FnExactScore.f; rfl) ?_
  repeat' first
    | (with_reducible exact Co.const _)
    | (with_reducible exact impl_Score.F_co _ _ _ _ _ _ _ _ _ _ _ _ _ _ _ _)
    | (with_reducible exact laws_eqReport.F_co _ _ _ _ _ _ _ _ _ _ _ _ _ _ _ _)
    | (with_reducible exact laws_toReport.F_co _ _ _ _ _ _ _ _)
    | (with_reducible exact spec_Score.F_co _ _ _ _ _ _ _ _ _ _ _ _ _ _ _ _)
    | (with_reducible refine Co.ite ?_ ?_)
    | (with_reducible refine Co.bind ?_ (fun _ => ?_))

end Go.Proofs.Ytbbfelgojaioaaa.PFnExactScore.Pure
