/-
  The printed functions that this law reaches, their rounds used up, and the equations that they meet.
-/
import Derived.Test.YtbbfelgojaioaaaPFnExactCanBex1
import Derived.Test.YtbbfelgojaioaaaPFnExactCanBex2
import Derived.Test.YtbbfelgojaioaaaPFnExactCanBex3
import Derived.Test.YtbbfelgojaioaaaPFnExactCanBex4
import Derived.Test.YtbbfelgojaioaaaPFnExactCanBex5
import Derived.Test.YtbbfelgojaioaaaPFnExactCanBex6
import Derived.Test.YtbbfelgojaioaaaLim
namespace Go.Proofs.Ytbbfelgojaioaaa.PFnExactCanBe.Pure
open Go.RowKit Go.Proofs.YtbbfelgojaioaaaW.PrintWords Go.Proofs.YtbbfelgojaioaaaW.PrintLast Go.Proofs.YtbbfelgojaioaaaW.PrintMore Go.Proofs.Ytbbfelgojaioaaa.PFnExactCanBe Go.Proofs.Ytbbfelgojaioaaa.Lim
set_option linter.unusedVariables false
set_option maxRecDepth 100000

noncomputable def laws_toIntS.L0 (x0 : List Int) (x3 : List Int) (x4 : Int) : Option (List Int) := lim (fun k => laws_toIntS.l0 k x0 x3 x4)
theorem laws_toIntS.L0_co (x0 : List Int) (x3 : List Int) (x4 : Int) : Co (fun k => laws_toIntS.l0 k x0 x3 x4) (laws_toIntS.L0 x0 x3 x4) := Co.base (fun k => (laws_toIntS.mono_l k) _ _ _)
noncomputable def laws_toIntS.F (l0 : List Int) : Option (List Int) := lim (fun k => laws_toIntS.f k l0)
theorem laws_toIntS.F_co (l0 : List Int) : Co (fun k => laws_toIntS.f k l0) (laws_toIntS.F l0) := Co.base (fun k => laws_toIntS.mono _ k)
theorem laws_toIntS.L0_eq (x0 : List Int) (x3 : List Int) (x4 : Int) : laws_toIntS.L0 x0 x3 x4 = (if x4 < (x0.length : Int) then (if 0 ≤ x4 then (if x4 < (x3.length : Int) then (laws_toIntS.L0 x0 (x3.set (x4 : Int).toNat (rd x0 x4)) (wrap64 (x4 + 1))) else (none)) else (none)) else (some x3)) := by
  refine Co.step (laws_toIntS.L0_co x0 x3 x4) (h := fun k => (if x4 < (x0.length : Int) then (if 0 ≤ x4 then (if x4 < (x3.length : Int) then (laws_toIntS.l0 k x0 (x3.set (x4 : Int).toNat (rd x0 x4)) (wrap64 (x4 + 1))) else (none)) else (none)) else (some x3))) (fun k => by first | rfl | (simp only [laws_toIntS.l0])) ?_
  repeat' first
    | (with_reducible exact Co.const _)
    | (with_reducible exact laws_toIntS.L0_co _ _ _)
    | (with_reducible refine Co.ite ?_ ?_)
    | (with_reducible refine Co.bind ?_ (fun _ => ?_))
theorem laws_toIntS.F_eq (l0 : List Int) : laws_toIntS.F l0 = (if 0 ≤ (l0.length : Int) then (if ((l0.length : Int) : Int).toNat ≤ 35184372088832 then (laws_toIntS.L0 l0 (List.replicate ((l0.length : Int) : Int).toNat 0) 0) else (none)) else (none)) := by
  refine Co.same (laws_toIntS.F_co l0) (h := fun k => (if 0 ≤ (l0.length : Int) then (if ((l0.length : Int) : Int).toNat ≤ 35184372088832 then (laws_toIntS.l0 k l0 (List.replicate ((l0.length : Int) : Int).toNat 0) 0) else (none)) else (none))) (fun k => by first | rfl | unfold laws_toIntS.f; rfl) ?_
  repeat' first
    | (with_reducible exact Co.const _)
    | (with_reducible exact laws_toIntS.L0_co _ _ _)
    | (with_reducible refine Co.ite ?_ ?_)
    | (with_reducible refine Co.bind ?_ (fun _ => ?_))

noncomputable def laws_toReport.F (a0_0 : Int) (a0_1 : Int) (l0_2 : List Int) (a0_3 : Int) (a0_4 : Int) (l0_5 : List Int) (a0_6 : Int) (a0_7 : Int) : Option (Int × Int × List Int × Int × Int × List Int × Int × Int) := lim (fun k => laws_toReport.f k a0_0 a0_1 l0_2 a0_3 a0_4 l0_5 a0_6 a0_7)
theorem laws_toReport.F_co (a0_0 : Int) (a0_1 : Int) (l0_2 : List Int) (a0_3 : Int) (a0_4 : Int) (l0_5 : List Int) (a0_6 : Int) (a0_7 : Int) : Co (fun k => laws_toReport.f k a0_0 a0_1 l0_2 a0_3 a0_4 l0_5 a0_6 a0_7) (laws_toReport.F a0_0 a0_1 l0_2 a0_3 a0_4 l0_5 a0_6 a0_7) := Co.base (fun k => laws_toReport.mono _ _ _ _ _ _ _ _ k)
theorem laws_toReport.F_eq (a0_0 : Int) (a0_1 : Int) (l0_2 : List Int) (a0_3 : Int) (a0_4 : Int) (l0_5 : List Int) (a0_6 : Int) (a0_7 : Int) : laws_toReport.F a0_0 a0_1 l0_2 a0_3 a0_4 l0_5 a0_6 a0_7 = ((laws_toIntS.F l0_2).bind fun t115 => ((laws_toIntS.F l0_5).bind fun t118 => ((laws_toSpan.f a0_6 a0_7).bind fun bt121 => (some (a0_0, a0_1, t115, a0_3, a0_4, t118, bt121.1, bt121.2))))) := by
  refine Co.same (laws_toReport.F_co a0_0 a0_1 l0_2 a0_3 a0_4 l0_5 a0_6 a0_7) (h := fun k => ((laws_toIntS.f k l0_2).bind fun t115 => ((laws_toIntS.f k l0_5).bind fun t118 => ((laws_toSpan.f a0_6 a0_7).bind fun bt121 => (some (a0_0, a0_1, t115, a0_3, a0_4, t118, bt121.1, bt121.2)))))) (fun k => by first | rfl | unfold laws_toReport.f; rfl) ?_
  repeat' first
    | (with_reducible exact Co.const _)
    | (with_reducible exact laws_toIntS.F_co _)
    | (with_reducible refine Co.ite ?_ ?_)
    | (with_reducible refine Co.bind ?_ (fun _ => ?_))

noncomputable def laws_eqIntS.L0 (x0 : List Int) (x1 : List Int) (x5 : Int) : Option (Bool) := lim (fun k => laws_eqIntS.l0 k x0 x1 x5)
theorem laws_eqIntS.L0_co (x0 : List Int) (x1 : List Int) (x5 : Int) : Co (fun k => laws_eqIntS.l0 k x0 x1 x5) (laws_eqIntS.L0 x0 x1 x5) := Co.base (fun k => (laws_eqIntS.mono_l k) _ _ _)
noncomputable def laws_eqIntS.F (l0 : List Int) (l1 : List Int) : Option (Bool) := lim (fun k => laws_eqIntS.f k l0 l1)
theorem laws_eqIntS.F_co (l0 : List Int) (l1 : List Int) : Co (fun k => laws_eqIntS.f k l0 l1) (laws_eqIntS.F l0 l1) := Co.base (fun k => laws_eqIntS.mono _ _ k)
theorem laws_eqIntS.L0_eq (x0 : List Int) (x1 : List Int) (x5 : Int) : laws_eqIntS.L0 x0 x1 x5 = (if x5 < (x0.length : Int) then (if 0 ≤ x5 then (if x5 < (x1.length : Int) then (if (rd x0 x5) = (rd x1 x5) then (laws_eqIntS.L0 x0 x1 (wrap64 (x5 + 1))) else (some false)) else (none)) else (none)) else (some true)) := by
  refine Co.step (laws_eqIntS.L0_co x0 x1 x5) (h := fun k => (if x5 < (x0.length : Int) then (if 0 ≤ x5 then (if x5 < (x1.length : Int) then (if (rd x0 x5) = (rd x1 x5) then (laws_eqIntS.l0 k x0 x1 (wrap64 (x5 + 1))) else (some false)) else (none)) else (none)) else (some true))) (fun k => by first | rfl | (simp only [laws_eqIntS.l0])) ?_
  repeat' first
    | (with_reducible exact Co.const _)
    | (with_reducible exact laws_eqIntS.L0_co _ _ _)
    | (with_reducible refine Co.ite ?_ ?_)
    | (with_reducible refine Co.bind ?_ (fun _ => ?_))
theorem laws_eqIntS.F_eq (l0 : List Int) (l1 : List Int) : laws_eqIntS.F l0 l1 = (if (l0.length : Int) = (l1.length : Int) then (laws_eqIntS.L0 l0 l1 0) else (some false)) := by
  refine Co.same (laws_eqIntS.F_co l0 l1) (h := fun k => (if (l0.length : Int) = (l1.length : Int) then (laws_eqIntS.l0 k l0 l1 0) else (some false))) (fun k => by first | rfl | unfold laws_eqIntS.f; rfl) ?_
  repeat' first
    | (with_reducible exact Co.const _)
    | (with_reducible exact laws_eqIntS.L0_co _ _ _)
    | (with_reducible refine Co.ite ?_ ?_)
    | (with_reducible refine Co.bind ?_ (fun _ => ?_))

noncomputable def laws_eqReport.F (a0_0 : Int) (a0_1 : Int) (l0_2 : List Int) (a0_3 : Int) (a0_4 : Int) (l0_5 : List Int) (a0_6 : Int) (a0_7 : Int) (a1_0 : Int) (a1_1 : Int) (l1_2 : List Int) (a1_3 : Int) (a1_4 : Int) (l1_5 : List Int) (a1_6 : Int) (a1_7 : Int) : Option (Bool) := lim (fun k => laws_eqReport.f k a0_0 a0_1 l0_2 a0_3 a0_4 l0_5 a0_6 a0_7 a1_0 a1_1 l1_2 a1_3 a1_4 l1_5 a1_6 a1_7)
theorem laws_eqReport.F_co (a0_0 : Int) (a0_1 : Int) (l0_2 : List Int) (a0_3 : Int) (a0_4 : Int) (l0_5 : List Int) (a0_6 : Int) (a0_7 : Int) (a1_0 : Int) (a1_1 : Int) (l1_2 : List Int) (a1_3 : Int) (a1_4 : Int) (l1_5 : List Int) (a1_6 : Int) (a1_7 : Int) : Co (fun k => laws_eqReport.f k a0_0 a0_1 l0_2 a0_3 a0_4 l0_5 a0_6 a0_7 a1_0 a1_1 l1_2 a1_3 a1_4 l1_5 a1_6 a1_7) (laws_eqReport.F a0_0 a0_1 l0_2 a0_3 a0_4 l0_5 a0_6 a0_7 a1_0 a1_1 l1_2 a1_3 a1_4 l1_5 a1_6 a1_7) := Co.base (fun k => laws_eqReport.mono _ _ _ _ _ _ _ _ _ _ _ _ _ _ _ _ k)
theorem laws_eqReport.F_eq (a0_0 : Int) (a0_1 : Int) (l0_2 : List Int) (a0_3 : Int) (a0_4 : Int) (l0_5 : List Int) (a0_6 : Int) (a0_7 : Int) (a1_0 : Int) (a1_1 : Int) (l1_2 : List Int) (a1_3 : Int) (a1_4 : Int) (l1_5 : List Int) (a1_6 : Int) (a1_7 : Int) : laws_eqReport.F a0_0 a0_1 l0_2 a0_3 a0_4 l0_5 a0_6 a0_7 a1_0 a1_1 l1_2 a1_3 a1_4 l1_5 a1_6 a1_7 = (if a0_0 = a1_0 then (if a0_1 = a1_1 then ((laws_eqIntS.F l0_2 l1_2).bind fun t129 => (if t129 = true then (if a0_3 = a1_3 then (if a0_4 = a1_4 then ((laws_eqIntS.F l0_5 l1_5).bind fun t130 => (if t130 = true then ((laws_eqSpan.f a0_6 a0_7 a1_6 a1_7).bind fun t131 => (if t131 = true then (some true) else (some false))) else (some false))) else (some false)) else (some false)) else (some false))) else (some false)) else (some false)) := by
  refine Co.same (laws_eqReport.F_co a0_0 a0_1 l0_2 a0_3 a0_4 l0_5 a0_6 a0_7 a1_0 a1_1 l1_2 a1_3 a1_4 l1_5 a1_6 a1_7) (h := fun k => (if a0_0 = a1_0 then (if a0_1 = a1_1 then ((laws_eqIntS.f k l0_2 l1_2).bind fun t129 => (if t129 = true then (if a0_3 = a1_3 then (if a0_4 = a1_4 then ((laws_eqIntS.f k l0_5 l1_5).bind fun t130 => (if t130 = true then ((laws_eqSpan.f a0_6 a0_7 a1_6 a1_7).bind fun t131 => (if t131 = true then (some true) else (some false))) else (some false))) else (some false)) else (some false)) else (some false))) else (some false)) else (some false))) (fun k => by first | rfl | unfold laws_eqReport.f; rfl) ?_
  repeat' first
    | (with_reducible exact Co.const _)
    | (with_reducible exact laws_eqIntS.F_co _ _)
    | (with_reducible refine Co.ite ?_ ?_)
    | (with_reducible refine Co.bind ?_ (fun _ => ?_))

noncomputable def spec_l7Ids.L0 (x0 : List Int) (x1 : Int) (x2 : Int) (x7 : Int) : Option (Bool) := lim (fun k => spec_l7Ids.l0 k x0 x1 x2 x7)
theorem spec_l7Ids.L0_co (x0 : List Int) (x1 : Int) (x2 : Int) (x7 : Int) : Co (fun k => spec_l7Ids.l0 k x0 x1 x2 x7) (spec_l7Ids.L0 x0 x1 x2 x7) := Co.base (fun k => (spec_l7Ids.mono_l k) _ _ _ _)
noncomputable def spec_l7Ids.F (l0 : List Int) (a1 : Int) (a2 : Int) : Option (Bool) := lim (fun k => spec_l7Ids.f k l0 a1 a2)
theorem spec_l7Ids.F_co (l0 : List Int) (a1 : Int) (a2 : Int) : Co (fun k => spec_l7Ids.f k l0 a1 a2) (spec_l7Ids.F l0 a1 a2) := Co.base (fun k => spec_l7Ids.mono _ _ _ k)
theorem spec_l7Ids.L0_eq (x0 : List Int) (x1 : Int) (x2 : Int) (x7 : Int) : spec_l7Ids.L0 x0 x1 x2 x7 = (if x7 < (x0.length : Int) then (if 0 ≤ x7 then ((spec_l1In.f (rd x0 x7) x1 x2).bind fun t144 => (if t144 = true then (if x7 > 0 then (if 0 ≤ (wrap64 (x7 - 1)) then (if (wrap64 (x7 - 1)) < (x0.length : Int) then (if (rd x0 (wrap64 (x7 - 1))) ≥ (rd x0 x7) then (some false) else (spec_l7Ids.L0 x0 x1 x2 (wrap64 (x7 + 1)))) else (none)) else (none)) else (spec_l7Ids.L0 x0 x1 x2 (wrap64 (x7 + 1)))) else (some false))) else (none)) else (some true)) := by
  refine Co.step (spec_l7Ids.L0_co x0 x1 x2 x7) (h := fun k => (if x7 < (x0.length : Int) then (if 0 ≤ x7 then ((spec_l1In.f (rd x0 x7) x1 x2).bind fun t144 => (if t144 = true then (if x7 > 0 then (if 0 ≤ (wrap64 (x7 - 1)) then (if (wrap64 (x7 - 1)) < (x0.length : Int) then (if (rd x0 (wrap64 (x7 - 1))) ≥ (rd x0 x7) then (some false) else (spec_l7Ids.l0 k x0 x1 x2 (wrap64 (x7 + 1)))) else (none)) else (none)) else (spec_l7Ids.l0 k x0 x1 x2 (wrap64 (x7 + 1)))) else (some false))) else (none)) else (some true))) (fun k => by first | rfl | (simp only [spec_l7Ids.l0])) ?_
  repeat' first
    | (with_reducible exact Co.const _)
    | (with_reducible exact spec_l7Ids.L0_co _ _ _ _)
    | (with_reducible refine Co.ite ?_ ?_)
    | (with_reducible refine Co.bind ?_ (fun _ => ?_))
theorem spec_l7Ids.F_eq (l0 : List Int) (a1 : Int) (a2 : Int) : spec_l7Ids.F l0 a1 a2 = (spec_l7Ids.L0 l0 a1 a2 0) := by
  refine Co.same (spec_l7Ids.F_co l0 a1 a2) (h := fun k => (spec_l7Ids.l0 k l0 a1 a2 0)) (fun k => by first | rfl | unfold spec_l7Ids.f; rfl) ?_
  repeat' first
    | (with_reducible exact Co.const _)
    | (with_reducible exact spec_l7Ids.L0_co _ _ _ _)
    | (with_reducible refine Co.ite ?_ ?_)
    | (with_reducible refine Co.bind ?_ (fun _ => ?_))

noncomputable def spec_IsReport.F (a0_0 : Int) (a0_1 : Int) (l0_2 : List Int) (a0_3 : Int) (a0_4 : Int) (l0_5 : List Int) (a0_6 : Int) (a0_7 : Int) : Option (Bool) := lim (fun k => spec_IsReport.f k a0_0 a0_1 l0_2 a0_3 a0_4 l0_5 a0_6 a0_7)
theorem spec_IsReport.F_co (a0_0 : Int) (a0_1 : Int) (l0_2 : List Int) (a0_3 : Int) (a0_4 : Int) (l0_5 : List Int) (a0_6 : Int) (a0_7 : Int) : Co (fun k => spec_IsReport.f k a0_0 a0_1 l0_2 a0_3 a0_4 l0_5 a0_6 a0_7) (spec_IsReport.F a0_0 a0_1 l0_2 a0_3 a0_4 l0_5 a0_6 a0_7) := Co.base (fun k => spec_IsReport.mono _ _ _ _ _ _ _ _ k)
theorem spec_IsReport.F_eq (a0_0 : Int) (a0_1 : Int) (l0_2 : List Int) (a0_3 : Int) (a0_4 : Int) (l0_5 : List Int) (a0_6 : Int) (a0_7 : Int) : spec_IsReport.F a0_0 a0_1 l0_2 a0_3 a0_4 l0_5 a0_6 a0_7 = ((spec_l1In.f a0_0 1 999).bind fun t151 => (if t151 = true then ((spec_l1In.f a0_1 1 8).bind fun t152 => (if t152 = true then ((spec_l7Ids.F l0_2 0 7).bind fun t153 => (if t153 = true then (if a0_3 ≥ 1 then (if a0_3 ≤ a0_4 then (if a0_4 ≤ 50 then ((spec_l7Ids.F l0_5 1 30).bind fun t154 => (if t154 = true then (if (l0_5.length : Int) ≤ 10 then ((spec_IsSpan.f a0_6 a0_7).bind fun t155 => (some t155)) else (some false)) else (some false))) else (some false)) else (some false)) else (some false)) else (some false))) else (some false))) else (some false))) := by
  refine Co.same (spec_IsReport.F_co a0_0 a0_1 l0_2 a0_3 a0_4 l0_5 a0_6 a0_7) (h := fun k => ((spec_l1In.f a0_0 1 999).bind fun t151 => (if t151 = true then ((spec_l1In.f a0_1 1 8).bind fun t152 => (if t152 = true then ((spec_l7Ids.f k l0_2 0 7).bind fun t153 => (if t153 = true then (if a0_3 ≥ 1 then (if a0_3 ≤ a0_4 then (if a0_4 ≤ 50 then ((spec_l7Ids.f k l0_5 1 30).bind fun t154 => (if t154 = true then (if (l0_5.length : Int) ≤ 10 then ((spec_IsSpan.f a0_6 a0_7).bind fun t155 => (some t155)) else (some false)) else (some false))) else (some false)) else (some false)) else (some false)) else (some false))) else (some false))) else (some false)))) (fun k => by first | rfl | unfold spec_IsReport.f; rfl) ?_
  repeat' first
    | (with_reducible exact Co.const _)
    | (with_reducible exact spec_l7Ids.F_co _ _ _)
    | (with_reducible refine Co.ite ?_ ?_)
    | (with_reducible refine Co.bind ?_ (fun _ => ?_))

noncomputable def spec_l8Has.L0 (x0 : List Int) (x1 : Int) (x5 : Int) : Option (Bool) := lim (fun k => spec_l8Has.l0 k x0 x1 x5)
theorem spec_l8Has.L0_co (x0 : List Int) (x1 : Int) (x5 : Int) : Co (fun k => spec_l8Has.l0 k x0 x1 x5) (spec_l8Has.L0 x0 x1 x5) := Co.base (fun k => (spec_l8Has.mono_l k) _ _ _)
noncomputable def spec_l8Has.F (l0 : List Int) (a1 : Int) : Option (Bool) := lim (fun k => spec_l8Has.f k l0 a1)
theorem spec_l8Has.F_co (l0 : List Int) (a1 : Int) : Co (fun k => spec_l8Has.f k l0 a1) (spec_l8Has.F l0 a1) := Co.base (fun k => spec_l8Has.mono _ _ k)
theorem spec_l8Has.L0_eq (x0 : List Int) (x1 : Int) (x5 : Int) : spec_l8Has.L0 x0 x1 x5 = (if x5 < (x0.length : Int) then (if 0 ≤ x5 then (if (rd x0 x5) = x1 then (some true) else (spec_l8Has.L0 x0 x1 (wrap64 (x5 + 1)))) else (none)) else (some false)) := by
  refine Co.step (spec_l8Has.L0_co x0 x1 x5) (h := fun k => (if x5 < (x0.length : Int) then (if 0 ≤ x5 then (if (rd x0 x5) = x1 then (some true) else (spec_l8Has.l0 k x0 x1 (wrap64 (x5 + 1)))) else (none)) else (some false))) (fun k => by first | rfl | (simp only [spec_l8Has.l0])) ?_
  repeat' first
    | (with_reducible exact Co.const _)
    | (with_reducible exact spec_l8Has.L0_co _ _ _)
    | (with_reducible refine Co.ite ?_ ?_)
    | (with_reducible refine Co.bind ?_ (fun _ => ?_))
theorem spec_l8Has.F_eq (l0 : List Int) (a1 : Int) : spec_l8Has.F l0 a1 = (spec_l8Has.L0 l0 a1 0) := by
  refine Co.same (spec_l8Has.F_co l0 a1) (h := fun k => (spec_l8Has.l0 k l0 a1 0)) (fun k => by first | rfl | unfold spec_l8Has.f; rfl) ?_
  repeat' first
    | (with_reducible exact Co.const _)
    | (with_reducible exact spec_l8Has.L0_co _ _ _)
    | (with_reducible refine Co.ite ?_ ?_)
    | (with_reducible refine Co.bind ?_ (fun _ => ?_))

noncomputable def spec_WhyNot.J0 (x5 : Bool) (x169000 : Int) (x169001 : Int) (x169002 : List Int) (x169003 : Int) (x169004 : Int) (x169005 : List Int) (x169006 : Int) (x169007 : Int) (x170000 : Int) (x170001 : Int) (x170002 : Int) (x170003 : Int) (x170004 : Int) (x170005 : Int) (x170006 : Int) (x170007 : Int) : Option (ByteArray) := lim (fun k => spec_WhyNot.j0 k x5 x169000 x169001 x169002 x169003 x169004 x169005 x169006 x169007 x170000 x170001 x170002 x170003 x170004 x170005 x170006 x170007)
theorem spec_WhyNot.J0_co (x5 : Bool) (x169000 : Int) (x169001 : Int) (x169002 : List Int) (x169003 : Int) (x169004 : Int) (x169005 : List Int) (x169006 : Int) (x169007 : Int) (x170000 : Int) (x170001 : Int) (x170002 : Int) (x170003 : Int) (x170004 : Int) (x170005 : Int) (x170006 : Int) (x170007 : Int) : Co (fun k => spec_WhyNot.j0 k x5 x169000 x169001 x169002 x169003 x169004 x169005 x169006 x169007 x170000 x170001 x170002 x170003 x170004 x170005 x170006 x170007) (spec_WhyNot.J0 x5 x169000 x169001 x169002 x169003 x169004 x169005 x169006 x169007 x170000 x170001 x170002 x170003 x170004 x170005 x170006 x170007) := Co.base (fun k => (spec_WhyNot.mono_l k).1 _ _ _ _ _ _ _ _ _ _ _ _ _ _ _ _ _)
noncomputable def spec_WhyNot.J1 (x21 : Bool) (x169000 : Int) (x169001 : Int) (x169002 : List Int) (x169003 : Int) (x169004 : Int) (x169005 : List Int) (x169006 : Int) (x169007 : Int) (x170000 : Int) (x170001 : Int) (x170002 : Int) (x170003 : Int) (x170004 : Int) (x170005 : Int) (x170006 : Int) (x170007 : Int) : Option (ByteArray) := lim (fun k => spec_WhyNot.j1 k x21 x169000 x169001 x169002 x169003 x169004 x169005 x169006 x169007 x170000 x170001 x170002 x170003 x170004 x170005 x170006 x170007)
theorem spec_WhyNot.J1_co (x21 : Bool) (x169000 : Int) (x169001 : Int) (x169002 : List Int) (x169003 : Int) (x169004 : Int) (x169005 : List Int) (x169006 : Int) (x169007 : Int) (x170000 : Int) (x170001 : Int) (x170002 : Int) (x170003 : Int) (x170004 : Int) (x170005 : Int) (x170006 : Int) (x170007 : Int) : Co (fun k => spec_WhyNot.j1 k x21 x169000 x169001 x169002 x169003 x169004 x169005 x169006 x169007 x170000 x170001 x170002 x170003 x170004 x170005 x170006 x170007) (spec_WhyNot.J1 x21 x169000 x169001 x169002 x169003 x169004 x169005 x169006 x169007 x170000 x170001 x170002 x170003 x170004 x170005 x170006 x170007) := Co.base (fun k => (spec_WhyNot.mono_l k).2.1 _ _ _ _ _ _ _ _ _ _ _ _ _ _ _ _ _)
noncomputable def spec_WhyNot.J2 (x45 : Bool) (x169000 : Int) (x169001 : Int) (x169002 : List Int) (x169003 : Int) (x169004 : Int) (x169005 : List Int) (x169006 : Int) (x169007 : Int) (x170000 : Int) (x170001 : Int) (x170002 : Int) (x170003 : Int) (x170004 : Int) (x170005 : Int) (x170006 : Int) (x170007 : Int) : Option (ByteArray) := lim (fun k => spec_WhyNot.j2 k x45 x169000 x169001 x169002 x169003 x169004 x169005 x169006 x169007 x170000 x170001 x170002 x170003 x170004 x170005 x170006 x170007)
theorem spec_WhyNot.J2_co (x45 : Bool) (x169000 : Int) (x169001 : Int) (x169002 : List Int) (x169003 : Int) (x169004 : Int) (x169005 : List Int) (x169006 : Int) (x169007 : Int) (x170000 : Int) (x170001 : Int) (x170002 : Int) (x170003 : Int) (x170004 : Int) (x170005 : Int) (x170006 : Int) (x170007 : Int) : Co (fun k => spec_WhyNot.j2 k x45 x169000 x169001 x169002 x169003 x169004 x169005 x169006 x169007 x170000 x170001 x170002 x170003 x170004 x170005 x170006 x170007) (spec_WhyNot.J2 x45 x169000 x169001 x169002 x169003 x169004 x169005 x169006 x169007 x170000 x170001 x170002 x170003 x170004 x170005 x170006 x170007) := Co.base (fun k => (spec_WhyNot.mono_l k).2.2 _ _ _ _ _ _ _ _ _ _ _ _ _ _ _ _ _)
noncomputable def spec_WhyNot.F (a0_0 : Int) (a0_1 : Int) (l0_2 : List Int) (a0_3 : Int) (a0_4 : Int) (l0_5 : List Int) (a0_6 : Int) (a0_7 : Int) (a1_0 : Int) (a1_1 : Int) (a1_2 : Int) (a1_3 : Int) (a1_4 : Int) (a1_5 : Int) (a1_6 : Int) (a1_7 : Int) : Option (ByteArray) := lim (fun k => spec_WhyNot.f k a0_0 a0_1 l0_2 a0_3 a0_4 l0_5 a0_6 a0_7 a1_0 a1_1 a1_2 a1_3 a1_4 a1_5 a1_6 a1_7)
theorem spec_WhyNot.F_co (a0_0 : Int) (a0_1 : Int) (l0_2 : List Int) (a0_3 : Int) (a0_4 : Int) (l0_5 : List Int) (a0_6 : Int) (a0_7 : Int) (a1_0 : Int) (a1_1 : Int) (a1_2 : Int) (a1_3 : Int) (a1_4 : Int) (a1_5 : Int) (a1_6 : Int) (a1_7 : Int) : Co (fun k => spec_WhyNot.f k a0_0 a0_1 l0_2 a0_3 a0_4 l0_5 a0_6 a0_7 a1_0 a1_1 a1_2 a1_3 a1_4 a1_5 a1_6 a1_7) (spec_WhyNot.F a0_0 a0_1 l0_2 a0_3 a0_4 l0_5 a0_6 a0_7 a1_0 a1_1 a1_2 a1_3 a1_4 a1_5 a1_6 a1_7) := Co.base (fun k => spec_WhyNot.mono _ _ _ _ _ _ _ _ _ _ _ _ _ _ _ _ k)
theorem spec_WhyNot.J0_eq (x5 : Bool) (x169000 : Int) (x169001 : Int) (x169002 : List Int) (x169003 : Int) (x169004 : Int) (x169005 : List Int) (x169006 : Int) (x169007 : Int) (x170000 : Int) (x170001 : Int) (x170002 : Int) (x170003 : Int) (x170004 : Int) (x170005 : Int) (x170006 : Int) (x170007 : Int) : spec_WhyNot.J0 x5 x169000 x169001 x169002 x169003 x169004 x169005 x169006 x169007 x170000 x170001 x170002 x170003 x170004 x170005 x170006 x170007 = (if x5 = true then (some (⟨#[105, 110, 118, 97, 108, 105, 100]⟩ : ByteArray)) else (if x169001 = x170001 then (if (x169002.length : Int) > 0 then ((spec_l8Has.F x169002 x170002).bind fun t172 => (spec_WhyNot.J1 (!t172) x169000 x169001 x169002 x169003 x169004 x169005 x169006 x169007 x170000 x170001 x170002 x170003 x170004 x170005 x170006 x170007)) else (spec_WhyNot.J1 false x169000 x169001 x169002 x169003 x169004 x169005 x169006 x169007 x170000 x170001 x170002 x170003 x170004 x170005 x170006 x170007)) else (some (⟨#[107, 105, 110, 100]⟩ : ByteArray)))) := by
  refine Co.step (spec_WhyNot.J0_co x5 x169000 x169001 x169002 x169003 x169004 x169005 x169006 x169007 x170000 x170001 x170002 x170003 x170004 x170005 x170006 x170007) (h := fun k => (if x5 = true then (some (⟨#[105, 110, 118, 97, 108, 105, 100]⟩ : ByteArray)) else (if x169001 = x170001 then (if (x169002.length : Int) > 0 then ((spec_l8Has.f k x169002 x170002).bind fun t172 => (spec_WhyNot.j1 k (!t172) x169000 x169001 x169002 x169003 x169004 x169005 x169006 x169007 x170000 x170001 x170002 x170003 x170004 x170005 x170006 x170007)) else (spec_WhyNot.j1 k false x169000 x169001 x169002 x169003 x169004 x169005 x169006 x169007 x170000 x170001 x170002 x170003 x170004 x170005 x170006 x170007)) else (some (⟨#[107, 105, 110, 100]⟩ : ByteArray))))) (fun k => by first | rfl | (simp only [spec_WhyNot.j0])) ?_
  repeat' first
    | (with_reducible exact Co.const _)
    | (with_reducible exact spec_WhyNot.J1_co _ _ _ _ _ _ _ _ _ _ _ _ _ _ _ _ _)
    | (with_reducible exact spec_l8Has.F_co _ _)
    | (with_reducible refine Co.ite ?_ ?_)
    | (with_reducible refine Co.bind ?_ (fun _ => ?_))
theorem spec_WhyNot.J1_eq (x21 : Bool) (x169000 : Int) (x169001 : Int) (x169002 : List Int) (x169003 : Int) (x169004 : Int) (x169005 : List Int) (x169006 : Int) (x169007 : Int) (x170000 : Int) (x170001 : Int) (x170002 : Int) (x170003 : Int) (x170004 : Int) (x170005 : Int) (x170006 : Int) (x170007 : Int) : spec_WhyNot.J1 x21 x169000 x169001 x169002 x169003 x169004 x169005 x169006 x169007 x170000 x170001 x170002 x170003 x170004 x170005 x170006 x170007 = (if x21 = true then (some (⟨#[99, 111, 108, 111, 117, 114]⟩ : ByteArray)) else ((spec_l1In.f x170003 x169003 x169004).bind fun t173 => (if t173 = true then (if (x169005.length : Int) > 0 then ((spec_l8Has.F x169005 x170005).bind fun t174 => (spec_WhyNot.J2 (!t174) x169000 x169001 x169002 x169003 x169004 x169005 x169006 x169007 x170000 x170001 x170002 x170003 x170004 x170005 x170006 x170007)) else (spec_WhyNot.J2 false x169000 x169001 x169002 x169003 x169004 x169005 x169006 x169007 x170000 x170001 x170002 x170003 x170004 x170005 x170006 x170007)) else (some (⟨#[115, 105, 122, 101]⟩ : ByteArray))))) := by
  refine Co.step (spec_WhyNot.J1_co x21 x169000 x169001 x169002 x169003 x169004 x169005 x169006 x169007 x170000 x170001 x170002 x170003 x170004 x170005 x170006 x170007) (h := fun k => (if x21 = true then (some (⟨#[99, 111, 108, 111, 117, 114]⟩ : ByteArray)) else ((spec_l1In.f x170003 x169003 x169004).bind fun t173 => (if t173 = true then (if (x169005.length : Int) > 0 then ((spec_l8Has.f k x169005 x170005).bind fun t174 => (spec_WhyNot.j2 k (!t174) x169000 x169001 x169002 x169003 x169004 x169005 x169006 x169007 x170000 x170001 x170002 x170003 x170004 x170005 x170006 x170007)) else (spec_WhyNot.j2 k false x169000 x169001 x169002 x169003 x169004 x169005 x169006 x169007 x170000 x170001 x170002 x170003 x170004 x170005 x170006 x170007)) else (some (⟨#[115, 105, 122, 101]⟩ : ByteArray)))))) (fun k => by first | rfl | (simp only [spec_WhyNot.j1])) ?_
  repeat' first
    | (with_reducible exact Co.const _)
    | (with_reducible exact spec_WhyNot.J2_co _ _ _ _ _ _ _ _ _ _ _ _ _ _ _ _ _)
    | (with_reducible exact spec_l8Has.F_co _ _)
    | (with_reducible refine Co.ite ?_ ?_)
    | (with_reducible refine Co.bind ?_ (fun _ => ?_))
theorem spec_WhyNot.J2_eq (x45 : Bool) (x169000 : Int) (x169001 : Int) (x169002 : List Int) (x169003 : Int) (x169004 : Int) (x169005 : List Int) (x169006 : Int) (x169007 : Int) (x170000 : Int) (x170001 : Int) (x170002 : Int) (x170003 : Int) (x170004 : Int) (x170005 : Int) (x170006 : Int) (x170007 : Int) : spec_WhyNot.J2 x45 x169000 x169001 x169002 x169003 x169004 x169005 x169006 x169007 x170000 x170001 x170002 x170003 x170004 x170005 x170006 x170007 = (if x45 = true then (some (⟨#[112, 108, 97, 99, 101]⟩ : ByteArray)) else (if x170006 < x169006 then (some (⟨#[116, 105, 109, 101]⟩ : ByteArray)) else (some (⟨#[]⟩ : ByteArray)))) := by
  refine Co.step (spec_WhyNot.J2_co x45 x169000 x169001 x169002 x169003 x169004 x169005 x169006 x169007 x170000 x170001 x170002 x170003 x170004 x170005 x170006 x170007) (h := fun k => (if x45 = true then (some (⟨#[112, 108, 97, 99, 101]⟩ : ByteArray)) else (if x170006 < x169006 then (some (⟨#[116, 105, 109, 101]⟩ : ByteArray)) else (some (⟨#[]⟩ : ByteArray))))) (fun k => by first | rfl | (simp only [spec_WhyNot.j2])) ?_
  repeat' first
    | (with_reducible exact Co.const _)
    | (with_reducible refine Co.ite ?_ ?_)
    | (with_reducible refine Co.bind ?_ (fun _ => ?_))
theorem spec_WhyNot.F_eq (a0_0 : Int) (a0_1 : Int) (l0_2 : List Int) (a0_3 : Int) (a0_4 : Int) (l0_5 : List Int) (a0_6 : Int) (a0_7 : Int) (a1_0 : Int) (a1_1 : Int) (a1_2 : Int) (a1_3 : Int) (a1_4 : Int) (a1_5 : Int) (a1_6 : Int) (a1_7 : Int) : spec_WhyNot.F a0_0 a0_1 l0_2 a0_3 a0_4 l0_5 a0_6 a0_7 a1_0 a1_1 a1_2 a1_3 a1_4 a1_5 a1_6 a1_7 = ((spec_IsReport.F a0_0 a0_1 l0_2 a0_3 a0_4 l0_5 a0_6 a0_7).bind fun t170 => (if t170 = true then ((spec_IsFind.f a1_0 a1_1 a1_2 a1_3 a1_4 a1_5 a1_6 a1_7).bind fun t171 => (spec_WhyNot.J0 (!t171) a0_0 a0_1 l0_2 a0_3 a0_4 l0_5 a0_6 a0_7 a1_0 a1_1 a1_2 a1_3 a1_4 a1_5 a1_6 a1_7)) else (spec_WhyNot.J0 true a0_0 a0_1 l0_2 a0_3 a0_4 l0_5 a0_6 a0_7 a1_0 a1_1 a1_2 a1_3 a1_4 a1_5 a1_6 a1_7))) := by
  refine Co.same (spec_WhyNot.F_co a0_0 a0_1 l0_2 a0_3 a0_4 l0_5 a0_6 a0_7 a1_0 a1_1 a1_2 a1_3 a1_4 a1_5 a1_6 a1_7) (h := fun k => ((spec_IsReport.f k a0_0 a0_1 l0_2 a0_3 a0_4 l0_5 a0_6 a0_7).bind fun t170 => (if t170 = true then ((spec_IsFind.f a1_0 a1_1 a1_2 a1_3 a1_4 a1_5 a1_6 a1_7).bind fun t171 => (spec_WhyNot.j0 k (!t171) a0_0 a0_1 l0_2 a0_3 a0_4 l0_5 a0_6 a0_7 a1_0 a1_1 a1_2 a1_3 a1_4 a1_5 a1_6 a1_7)) else (spec_WhyNot.j0 k true a0_0 a0_1 l0_2 a0_3 a0_4 l0_5 a0_6 a0_7 a1_0 a1_1 a1_2 a1_3 a1_4 a1_5 a1_6 a1_7)))) (fun k => by first | rfl | unfold spec_WhyNot.f; rfl) ?_
  repeat' first
    | (with_reducible exact Co.const _)
    | (with_reducible exact spec_IsReport.F_co _ _ _ _ _ _ _ _)
    | (with_reducible exact spec_WhyNot.J0_co _ _ _ _ _ _ _ _ _ _ _ _ _ _ _ _ _)
    | (with_reducible refine Co.ite ?_ ?_)
    | (with_reducible refine Co.bind ?_ (fun _ => ?_))

noncomputable def spec_CanBe.F (a0_0 : Int) (a0_1 : Int) (l0_2 : List Int) (a0_3 : Int) (a0_4 : Int) (l0_5 : List Int) (a0_6 : Int) (a0_7 : Int) (a1_0 : Int) (a1_1 : Int) (a1_2 : Int) (a1_3 : Int) (a1_4 : Int) (a1_5 : Int) (a1_6 : Int) (a1_7 : Int) : Option (Bool) := lim (fun k => spec_CanBe.f k a0_0 a0_1 l0_2 a0_3 a0_4 l0_5 a0_6 a0_7 a1_0 a1_1 a1_2 a1_3 a1_4 a1_5 a1_6 a1_7)
theorem spec_CanBe.F_co (a0_0 : Int) (a0_1 : Int) (l0_2 : List Int) (a0_3 : Int) (a0_4 : Int) (l0_5 : List Int) (a0_6 : Int) (a0_7 : Int) (a1_0 : Int) (a1_1 : Int) (a1_2 : Int) (a1_3 : Int) (a1_4 : Int) (a1_5 : Int) (a1_6 : Int) (a1_7 : Int) : Co (fun k => spec_CanBe.f k a0_0 a0_1 l0_2 a0_3 a0_4 l0_5 a0_6 a0_7 a1_0 a1_1 a1_2 a1_3 a1_4 a1_5 a1_6 a1_7) (spec_CanBe.F a0_0 a0_1 l0_2 a0_3 a0_4 l0_5 a0_6 a0_7 a1_0 a1_1 a1_2 a1_3 a1_4 a1_5 a1_6 a1_7) := Co.base (fun k => spec_CanBe.mono _ _ _ _ _ _ _ _ _ _ _ _ _ _ _ _ k)
theorem spec_CanBe.F_eq (a0_0 : Int) (a0_1 : Int) (l0_2 : List Int) (a0_3 : Int) (a0_4 : Int) (l0_5 : List Int) (a0_6 : Int) (a0_7 : Int) (a1_0 : Int) (a1_1 : Int) (a1_2 : Int) (a1_3 : Int) (a1_4 : Int) (a1_5 : Int) (a1_6 : Int) (a1_7 : Int) : spec_CanBe.F a0_0 a0_1 l0_2 a0_3 a0_4 l0_5 a0_6 a0_7 a1_0 a1_1 a1_2 a1_3 a1_4 a1_5 a1_6 a1_7 = ((spec_WhyNot.F a0_0 a0_1 l0_2 a0_3 a0_4 l0_5 a0_6 a0_7 a1_0 a1_1 a1_2 a1_3 a1_4 a1_5 a1_6 a1_7).bind fun t177 => (some (t177.toList == ([] : List UInt8)))) := by
  refine Co.same (spec_CanBe.F_co a0_0 a0_1 l0_2 a0_3 a0_4 l0_5 a0_6 a0_7 a1_0 a1_1 a1_2 a1_3 a1_4 a1_5 a1_6 a1_7) (h := fun k => ((spec_WhyNot.f k a0_0 a0_1 l0_2 a0_3 a0_4 l0_5 a0_6 a0_7 a1_0 a1_1 a1_2 a1_3 a1_4 a1_5 a1_6 a1_7).bind fun t177 => (some (t177.toList == ([] : List UInt8))))) (fun k => by first | rfl | unfold spec_CanBe.f; rfl) ?_
  repeat' first
    | (with_reducible exact Co.const _)
    | (with_reducible exact spec_WhyNot.F_co _ _ _ _ _ _ _ _ _ _ _ _ _ _ _ _)
    | (with_reducible refine Co.ite ?_ ?_)
    | (with_reducible refine Co.bind ?_ (fun _ => ?_))

noncomputable def impl_isAscending.L0 (x0 : List Int) (x1 : Int) (x2 : Int) (x9 : List Int) (x10 : Int) (x11 : Int) : Option (Bool) := lim (fun k => impl_isAscending.l0 k x0 x1 x2 x9 x10 x11)
theorem impl_isAscending.L0_co (x0 : List Int) (x1 : Int) (x2 : Int) (x9 : List Int) (x10 : Int) (x11 : Int) : Co (fun k => impl_isAscending.l0 k x0 x1 x2 x9 x10 x11) (impl_isAscending.L0 x0 x1 x2 x9 x10 x11) := Co.base (fun k => (impl_isAscending.mono_l k) _ _ _ _ _ _)
noncomputable def impl_isAscending.F (l0 : List Int) (a1 : Int) (a2 : Int) : Option (Bool) := lim (fun k => impl_isAscending.f k l0 a1 a2)
theorem impl_isAscending.F_co (l0 : List Int) (a1 : Int) (a2 : Int) : Co (fun k => impl_isAscending.f k l0 a1 a2) (impl_isAscending.F l0 a1 a2) := Co.base (fun k => impl_isAscending.mono _ _ _ k)
theorem impl_isAscending.L0_eq (x0 : List Int) (x1 : Int) (x2 : Int) (x9 : List Int) (x10 : Int) (x11 : Int) : impl_isAscending.L0 x0 x1 x2 x9 x10 x11 = (if x11 < x10 then (if 0 ≤ x11 then (if x11 < (x9.length : Int) then ((impl_InRange.f (rd x9 x11) x1 x2).bind fun t179 => (if t179 = true then (if x11 > 0 then (if 0 ≤ (wrap64 (x11 - 1)) then (if (wrap64 (x11 - 1)) < (x0.length : Int) then (if (rd x9 x11) ≤ (rd x0 (wrap64 (x11 - 1))) then (some false) else (impl_isAscending.L0 x0 x1 x2 x9 x10 (wrap64 (x11 + 1)))) else (none)) else (none)) else (impl_isAscending.L0 x0 x1 x2 x9 x10 (wrap64 (x11 + 1)))) else (some false))) else (none)) else (none)) else (some true)) := by
  refine Co.step (impl_isAscending.L0_co x0 x1 x2 x9 x10 x11) (h := fun k => (if x11 < x10 then (if 0 ≤ x11 then (if x11 < (x9.length : Int) then ((impl_InRange.f (rd x9 x11) x1 x2).bind fun t179 => (if t179 = true then (if x11 > 0 then (if 0 ≤ (wrap64 (x11 - 1)) then (if (wrap64 (x11 - 1)) < (x0.length : Int) then (if (rd x9 x11) ≤ (rd x0 (wrap64 (x11 - 1))) then (some false) else (impl_isAscending.l0 k x0 x1 x2 x9 x10 (wrap64 (x11 + 1)))) else (none)) else (none)) else (impl_isAscending.l0 k x0 x1 x2 x9 x10 (wrap64 (x11 + 1)))) else (some false))) else (none)) else (none)) else (some true))) (fun k => by first | rfl | (simp only [impl_isAscending.l0])) ?_
  repeat' first
    | (with_reducible exact Co.const _)
    | (with_reducible exact impl_isAscending.L0_co _ _ _ _ _ _)
    | (with_reducible refine Co.ite ?_ ?_)
    | (with_reducible refine Co.bind ?_ (fun _ => ?_))
theorem impl_isAscending.F_eq (l0 : List Int) (a1 : Int) (a2 : Int) : impl_isAscending.F l0 a1 a2 = (impl_isAscending.L0 l0 a1 a2 l0 (l0.length : Int) 0) := by
  refine Co.same (impl_isAscending.F_co l0 a1 a2) (h := fun k => (impl_isAscending.l0 k l0 a1 a2 l0 (l0.length : Int) 0)) (fun k => by first | rfl | unfold impl_isAscending.f; rfl) ?_
  repeat' first
    | (with_reducible exact Co.const _)
    | (with_reducible exact impl_isAscending.L0_co _ _ _ _ _ _)
    | (with_reducible refine Co.ite ?_ ?_)
    | (with_reducible refine Co.bind ?_ (fun _ => ?_))

noncomputable def impl_IsReport.F (a0_0 : Int) (a0_1 : Int) (l0_2 : List Int) (a0_3 : Int) (a0_4 : Int) (l0_5 : List Int) (a0_6 : Int) (a0_7 : Int) : Option (Bool) := lim (fun k => impl_IsReport.f k a0_0 a0_1 l0_2 a0_3 a0_4 l0_5 a0_6 a0_7)
theorem impl_IsReport.F_co (a0_0 : Int) (a0_1 : Int) (l0_2 : List Int) (a0_3 : Int) (a0_4 : Int) (l0_5 : List Int) (a0_6 : Int) (a0_7 : Int) : Co (fun k => impl_IsReport.f k a0_0 a0_1 l0_2 a0_3 a0_4 l0_5 a0_6 a0_7) (impl_IsReport.F a0_0 a0_1 l0_2 a0_3 a0_4 l0_5 a0_6 a0_7) := Co.base (fun k => impl_IsReport.mono _ _ _ _ _ _ _ _ k)
theorem impl_IsReport.F_eq (a0_0 : Int) (a0_1 : Int) (l0_2 : List Int) (a0_3 : Int) (a0_4 : Int) (l0_5 : List Int) (a0_6 : Int) (a0_7 : Int) : impl_IsReport.F a0_0 a0_1 l0_2 a0_3 a0_4 l0_5 a0_6 a0_7 = ((impl_InRange.f a0_0 1 999).bind fun t185 => (if t185 = true then ((impl_InRange.f a0_1 1 8).bind fun t186 => (if t186 = true then ((impl_isAscending.F l0_2 0 7).bind fun t187 => (if t187 = true then (if 1 ≤ a0_3 then (if a0_3 ≤ a0_4 then (if a0_4 ≤ 50 then ((impl_isAscending.F l0_5 1 30).bind fun t188 => (if t188 = true then (if (l0_5.length : Int) ≤ 10 then ((impl_IsSpan.f a0_6 a0_7).bind fun t189 => (some t189)) else (some false)) else (some false))) else (some false)) else (some false)) else (some false)) else (some false))) else (some false))) else (some false))) := by
  refine Co.same (impl_IsReport.F_co a0_0 a0_1 l0_2 a0_3 a0_4 l0_5 a0_6 a0_7) (h := fun k => ((impl_InRange.f a0_0 1 999).bind fun t185 => (if t185 = true then ((impl_InRange.f a0_1 1 8).bind fun t186 => (if t186 = true then ((impl_isAscending.f k l0_2 0 7).bind fun t187 => (if t187 = true then (if 1 ≤ a0_3 then (if a0_3 ≤ a0_4 then (if a0_4 ≤ 50 then ((impl_isAscending.f k l0_5 1 30).bind fun t188 => (if t188 = true then (if (l0_5.length : Int) ≤ 10 then ((impl_IsSpan.f a0_6 a0_7).bind fun t189 => (some t189)) else (some false)) else (some false))) else (some false)) else (some false)) else (some false)) else (some false))) else (some false))) else (some false)))) (fun k => by first | rfl | unfold impl_IsReport.f; rfl) ?_
  repeat' first
    | (with_reducible exact Co.const _)
    | (with_reducible exact impl_isAscending.F_co _ _ _)
    | (with_reducible refine Co.ite ?_ ?_)
    | (with_reducible refine Co.bind ?_ (fun _ => ?_))

noncomputable def slices_Index_int_int.L0 (x0 : List Int) (x1 : Int) (x7 : Int) (x8 : Int) : Option (Int) := lim (fun k => slices_Index_int_int.l0 k x0 x1 x7 x8)
theorem slices_Index_int_int.L0_co (x0 : List Int) (x1 : Int) (x7 : Int) (x8 : Int) : Co (fun k => slices_Index_int_int.l0 k x0 x1 x7 x8) (slices_Index_int_int.L0 x0 x1 x7 x8) := Co.base (fun k => (slices_Index_int_int.mono_l k) _ _ _ _)
noncomputable def slices_Index_int_int.F (l0 : List Int) (a1 : Int) : Option (Int) := lim (fun k => slices_Index_int_int.f k l0 a1)
theorem slices_Index_int_int.F_co (l0 : List Int) (a1 : Int) : Co (fun k => slices_Index_int_int.f k l0 a1) (slices_Index_int_int.F l0 a1) := Co.base (fun k => slices_Index_int_int.mono _ _ k)
theorem slices_Index_int_int.L0_eq (x0 : List Int) (x1 : Int) (x7 : Int) (x8 : Int) : slices_Index_int_int.L0 x0 x1 x7 x8 = (if x8 < x7 then (if 0 ≤ x8 then (if x8 < (x0.length : Int) then (if x1 = (rd x0 x8) then (some x8) else (slices_Index_int_int.L0 x0 x1 x7 (wrap64 (x8 + 1)))) else (none)) else (none)) else (some (-1))) := by
  refine Co.step (slices_Index_int_int.L0_co x0 x1 x7 x8) (h := fun k => (if x8 < x7 then (if 0 ≤ x8 then (if x8 < (x0.length : Int) then (if x1 = (rd x0 x8) then (some x8) else (slices_Index_int_int.l0 k x0 x1 x7 (wrap64 (x8 + 1)))) else (none)) else (none)) else (some (-1)))) (fun k => by first | rfl | (simp only [slices_Index_int_int.l0])) ?_
  repeat' first
    | (with_reducible exact Co.const _)
    | (with_reducible exact slices_Index_int_int.L0_co _ _ _ _)
    | (with_reducible refine Co.ite ?_ ?_)
    | (with_reducible refine Co.bind ?_ (fun _ => ?_))
theorem slices_Index_int_int.F_eq (l0 : List Int) (a1 : Int) : slices_Index_int_int.F l0 a1 = (slices_Index_int_int.L0 l0 a1 (l0.length : Int) 0) := by
  refine Co.same (slices_Index_int_int.F_co l0 a1) (h := fun k => (slices_Index_int_int.l0 k l0 a1 (l0.length : Int) 0)) (fun k => by first | rfl | unfold slices_Index_int_int.f; rfl) ?_
  repeat' first
    | (with_reducible exact Co.const _)
    | (with_reducible exact slices_Index_int_int.L0_co _ _ _ _)
    | (with_reducible refine Co.ite ?_ ?_)
    | (with_reducible refine Co.bind ?_ (fun _ => ?_))

noncomputable def slices_Contains_int_int.F (l0 : List Int) (a1 : Int) : Option (Bool) := lim (fun k => slices_Contains_int_int.f k l0 a1)
theorem slices_Contains_int_int.F_co (l0 : List Int) (a1 : Int) : Co (fun k => slices_Contains_int_int.f k l0 a1) (slices_Contains_int_int.F l0 a1) := Co.base (fun k => slices_Contains_int_int.mono _ _ k)
theorem slices_Contains_int_int.F_eq (l0 : List Int) (a1 : Int) : slices_Contains_int_int.F l0 a1 = ((slices_Index_int_int.F l0 a1).bind fun t202 => (some (decide (t202 ≥ 0)))) := by
  refine Co.same (slices_Contains_int_int.F_co l0 a1) (h := fun k => ((slices_Index_int_int.f k l0 a1).bind fun t202 => (some (decide (t202 ≥ 0))))) (fun k => by first | rfl | unfold slices_Contains_int_int.f; rfl) ?_
  repeat' first
    | (with_reducible exact Co.const _)
    | (with_reducible exact slices_Index_int_int.F_co _ _)
    | (with_reducible refine Co.ite ?_ ?_)
    | (with_reducible refine Co.bind ?_ (fun _ => ?_))

noncomputable def impl_allows.F (l0 : List Int) (a1 : Int) : Option (Bool) := lim (fun k => impl_allows.f k l0 a1)
theorem impl_allows.F_co (l0 : List Int) (a1 : Int) : Co (fun k => impl_allows.f k l0 a1) (impl_allows.F l0 a1) := Co.base (fun k => impl_allows.mono _ _ k)
theorem impl_allows.F_eq (l0 : List Int) (a1 : Int) : impl_allows.F l0 a1 = (if (l0.length : Int) = 0 then (some true) else ((slices_Contains_int_int.F l0 a1).bind fun t203 => (some t203))) := by
  refine Co.same (impl_allows.F_co l0 a1) (h := fun k => (if (l0.length : Int) = 0 then (some true) else ((slices_Contains_int_int.f k l0 a1).bind fun t203 => (some t203)))) (fun k => by first | rfl | unfold impl_allows.f; rfl) ?_
  repeat' first
    | (with_reducible exact Co.const _)
    | (with_reducible exact slices_Contains_int_int.F_co _ _)
    | (with_reducible refine Co.ite ?_ ?_)
    | (with_reducible refine Co.bind ?_ (fun _ => ?_))

noncomputable def impl_WhyNot.J0 (x5 : Bool) (x205000 : Int) (x205001 : Int) (x205002 : List Int) (x205003 : Int) (x205004 : Int) (x205005 : List Int) (x205006 : Int) (x205007 : Int) (x206000 : Int) (x206001 : Int) (x206002 : Int) (x206003 : Int) (x206004 : Int) (x206005 : Int) (x206006 : Int) (x206007 : Int) : Option (ByteArray) := lim (fun k => impl_WhyNot.j0 k x5 x205000 x205001 x205002 x205003 x205004 x205005 x205006 x205007 x206000 x206001 x206002 x206003 x206004 x206005 x206006 x206007)
theorem impl_WhyNot.J0_co (x5 : Bool) (x205000 : Int) (x205001 : Int) (x205002 : List Int) (x205003 : Int) (x205004 : Int) (x205005 : List Int) (x205006 : Int) (x205007 : Int) (x206000 : Int) (x206001 : Int) (x206002 : Int) (x206003 : Int) (x206004 : Int) (x206005 : Int) (x206006 : Int) (x206007 : Int) : Co (fun k => impl_WhyNot.j0 k x5 x205000 x205001 x205002 x205003 x205004 x205005 x205006 x205007 x206000 x206001 x206002 x206003 x206004 x206005 x206006 x206007) (impl_WhyNot.J0 x5 x205000 x205001 x205002 x205003 x205004 x205005 x205006 x205007 x206000 x206001 x206002 x206003 x206004 x206005 x206006 x206007) := Co.base (fun k => (impl_WhyNot.mono_l k) _ _ _ _ _ _ _ _ _ _ _ _ _ _ _ _ _)
noncomputable def impl_WhyNot.F (a0_0 : Int) (a0_1 : Int) (l0_2 : List Int) (a0_3 : Int) (a0_4 : Int) (l0_5 : List Int) (a0_6 : Int) (a0_7 : Int) (a1_0 : Int) (a1_1 : Int) (a1_2 : Int) (a1_3 : Int) (a1_4 : Int) (a1_5 : Int) (a1_6 : Int) (a1_7 : Int) : Option (ByteArray) := lim (fun k => impl_WhyNot.f k a0_0 a0_1 l0_2 a0_3 a0_4 l0_5 a0_6 a0_7 a1_0 a1_1 a1_2 a1_3 a1_4 a1_5 a1_6 a1_7)
theorem impl_WhyNot.F_co (a0_0 : Int) (a0_1 : Int) (l0_2 : List Int) (a0_3 : Int) (a0_4 : Int) (l0_5 : List Int) (a0_6 : Int) (a0_7 : Int) (a1_0 : Int) (a1_1 : Int) (a1_2 : Int) (a1_3 : Int) (a1_4 : Int) (a1_5 : Int) (a1_6 : Int) (a1_7 : Int) : Co (fun k => impl_WhyNot.f k a0_0 a0_1 l0_2 a0_3 a0_4 l0_5 a0_6 a0_7 a1_0 a1_1 a1_2 a1_3 a1_4 a1_5 a1_6 a1_7) (impl_WhyNot.F a0_0 a0_1 l0_2 a0_3 a0_4 l0_5 a0_6 a0_7 a1_0 a1_1 a1_2 a1_3 a1_4 a1_5 a1_6 a1_7) := Co.base (fun k => impl_WhyNot.mono _ _ _ _ _ _ _ _ _ _ _ _ _ _ _ _ k)
theorem impl_WhyNot.J0_eq (x5 : Bool) (x205000 : Int) (x205001 : Int) (x205002 : List Int) (x205003 : Int) (x205004 : Int) (x205005 : List Int) (x205006 : Int) (x205007 : Int) (x206000 : Int) (x206001 : Int) (x206002 : Int) (x206003 : Int) (x206004 : Int) (x206005 : Int) (x206006 : Int) (x206007 : Int) : impl_WhyNot.J0 x5 x205000 x205001 x205002 x205003 x205004 x205005 x205006 x205007 x206000 x206001 x206002 x206003 x206004 x206005 x206006 x206007 = (if x5 = true then (some (⟨#[105, 110, 118, 97, 108, 105, 100]⟩ : ByteArray)) else (if x205001 = x206001 then ((impl_allows.F x205002 x206002).bind fun t208 => (if t208 = true then ((impl_InRange.f x206003 x205003 x205004).bind fun t209 => (if t209 = true then ((impl_allows.F x205005 x206005).bind fun t210 => (if t210 = true then (if x206006 < x205006 then (some (⟨#[116, 105, 109, 101]⟩ : ByteArray)) else (some (⟨#[]⟩ : ByteArray))) else (some (⟨#[112, 108, 97, 99, 101]⟩ : ByteArray)))) else (some (⟨#[115, 105, 122, 101]⟩ : ByteArray)))) else (some (⟨#[99, 111, 108, 111, 117, 114]⟩ : ByteArray)))) else (some (⟨#[107, 105, 110, 100]⟩ : ByteArray)))) := by
  refine Co.step (impl_WhyNot.J0_co x5 x205000 x205001 x205002 x205003 x205004 x205005 x205006 x205007 x206000 x206001 x206002 x206003 x206004 x206005 x206006 x206007) (h := fun k => (if x5 = true then (some (⟨#[105, 110, 118, 97, 108, 105, 100]⟩ : ByteArray)) else (if x205001 = x206001 then ((impl_allows.f k x205002 x206002).bind fun t208 => (if t208 = true then ((impl_InRange.f x206003 x205003 x205004).bind fun t209 => (if t209 = true then ((impl_allows.f k x205005 x206005).bind fun t210 => (if t210 = true then (if x206006 < x205006 then (some (⟨#[116, 105, 109, 101]⟩ : ByteArray)) else (some (⟨#[]⟩ : ByteArray))) else (some (⟨#[112, 108, 97, 99, 101]⟩ : ByteArray)))) else (some (⟨#[115, 105, 122, 101]⟩ : ByteArray)))) else (some (⟨#[99, 111, 108, 111, 117, 114]⟩ : ByteArray)))) else (some (⟨#[107, 105, 110, 100]⟩ : ByteArray))))) (fun k => by first | rfl | (simp only [impl_WhyNot.j0])) ?_
  repeat' first
    | (with_reducible exact Co.const _)
    | (with_reducible exact impl_allows.F_co _ _)
    | (with_reducible refine Co.ite ?_ ?_)
    | (with_reducible refine Co.bind ?_ (fun _ => ?_))
theorem impl_WhyNot.F_eq (a0_0 : Int) (a0_1 : Int) (l0_2 : List Int) (a0_3 : Int) (a0_4 : Int) (l0_5 : List Int) (a0_6 : Int) (a0_7 : Int) (a1_0 : Int) (a1_1 : Int) (a1_2 : Int) (a1_3 : Int) (a1_4 : Int) (a1_5 : Int) (a1_6 : Int) (a1_7 : Int) : impl_WhyNot.F a0_0 a0_1 l0_2 a0_3 a0_4 l0_5 a0_6 a0_7 a1_0 a1_1 a1_2 a1_3 a1_4 a1_5 a1_6 a1_7 = ((impl_IsReport.F a0_0 a0_1 l0_2 a0_3 a0_4 l0_5 a0_6 a0_7).bind fun t206 => (if t206 = true then ((impl_IsFind.f a1_0 a1_1 a1_2 a1_3 a1_4 a1_5 a1_6 a1_7).bind fun t207 => (impl_WhyNot.J0 (!t207) a0_0 a0_1 l0_2 a0_3 a0_4 l0_5 a0_6 a0_7 a1_0 a1_1 a1_2 a1_3 a1_4 a1_5 a1_6 a1_7)) else (impl_WhyNot.J0 true a0_0 a0_1 l0_2 a0_3 a0_4 l0_5 a0_6 a0_7 a1_0 a1_1 a1_2 a1_3 a1_4 a1_5 a1_6 a1_7))) := by
  refine Co.same (impl_WhyNot.F_co a0_0 a0_1 l0_2 a0_3 a0_4 l0_5 a0_6 a0_7 a1_0 a1_1 a1_2 a1_3 a1_4 a1_5 a1_6 a1_7) (h := fun k => ((impl_IsReport.f k a0_0 a0_1 l0_2 a0_3 a0_4 l0_5 a0_6 a0_7).bind fun t206 => (if t206 = true then ((impl_IsFind.f a1_0 a1_1 a1_2 a1_3 a1_4 a1_5 a1_6 a1_7).bind fun t207 => (impl_WhyNot.j0 k (!t207) a0_0 a0_1 l0_2 a0_3 a0_4 l0_5 a0_6 a0_7 a1_0 a1_1 a1_2 a1_3 a1_4 a1_5 a1_6 a1_7)) else (impl_WhyNot.j0 k true a0_0 a0_1 l0_2 a0_3 a0_4 l0_5 a0_6 a0_7 a1_0 a1_1 a1_2 a1_3 a1_4 a1_5 a1_6 a1_7)))) (fun k => by first | rfl | unfold impl_WhyNot.f; rfl) ?_
  repeat' first
    | (with_reducible exact Co.const _)
    | (with_reducible exact impl_IsReport.F_co _ _ _ _ _ _ _ _)
    | (with_reducible exact impl_WhyNot.J0_co _ _ _ _ _ _ _ _ _ _ _ _ _ _ _ _ _)
    | (with_reducible refine Co.ite ?_ ?_)
    | (with_reducible refine Co.bind ?_ (fun _ => ?_))

noncomputable def impl_CanBe.F (a0_0 : Int) (a0_1 : Int) (l0_2 : List Int) (a0_3 : Int) (a0_4 : Int) (l0_5 : List Int) (a0_6 : Int) (a0_7 : Int) (a1_0 : Int) (a1_1 : Int) (a1_2 : Int) (a1_3 : Int) (a1_4 : Int) (a1_5 : Int) (a1_6 : Int) (a1_7 : Int) : Option (Bool) := lim (fun k => impl_CanBe.f k a0_0 a0_1 l0_2 a0_3 a0_4 l0_5 a0_6 a0_7 a1_0 a1_1 a1_2 a1_3 a1_4 a1_5 a1_6 a1_7)
theorem impl_CanBe.F_co (a0_0 : Int) (a0_1 : Int) (l0_2 : List Int) (a0_3 : Int) (a0_4 : Int) (l0_5 : List Int) (a0_6 : Int) (a0_7 : Int) (a1_0 : Int) (a1_1 : Int) (a1_2 : Int) (a1_3 : Int) (a1_4 : Int) (a1_5 : Int) (a1_6 : Int) (a1_7 : Int) : Co (fun k => impl_CanBe.f k a0_0 a0_1 l0_2 a0_3 a0_4 l0_5 a0_6 a0_7 a1_0 a1_1 a1_2 a1_3 a1_4 a1_5 a1_6 a1_7) (impl_CanBe.F a0_0 a0_1 l0_2 a0_3 a0_4 l0_5 a0_6 a0_7 a1_0 a1_1 a1_2 a1_3 a1_4 a1_5 a1_6 a1_7) := Co.base (fun k => impl_CanBe.mono _ _ _ _ _ _ _ _ _ _ _ _ _ _ _ _ k)
theorem impl_CanBe.F_eq (a0_0 : Int) (a0_1 : Int) (l0_2 : List Int) (a0_3 : Int) (a0_4 : Int) (l0_5 : List Int) (a0_6 : Int) (a0_7 : Int) (a1_0 : Int) (a1_1 : Int) (a1_2 : Int) (a1_3 : Int) (a1_4 : Int) (a1_5 : Int) (a1_6 : Int) (a1_7 : Int) : impl_CanBe.F a0_0 a0_1 l0_2 a0_3 a0_4 l0_5 a0_6 a0_7 a1_0 a1_1 a1_2 a1_3 a1_4 a1_5 a1_6 a1_7 = ((impl_WhyNot.F a0_0 a0_1 l0_2 a0_3 a0_4 l0_5 a0_6 a0_7 a1_0 a1_1 a1_2 a1_3 a1_4 a1_5 a1_6 a1_7).bind fun t213 => (some (t213.toList == ([] : List UInt8)))) := by
  refine Co.same (impl_CanBe.F_co a0_0 a0_1 l0_2 a0_3 a0_4 l0_5 a0_6 a0_7 a1_0 a1_1 a1_2 a1_3 a1_4 a1_5 a1_6 a1_7) (h := fun k => ((impl_WhyNot.f k a0_0 a0_1 l0_2 a0_3 a0_4 l0_5 a0_6 a0_7 a1_0 a1_1 a1_2 a1_3 a1_4 a1_5 a1_6 a1_7).bind fun t213 => (some (t213.toList == ([] : List UInt8))))) (fun k => by first | rfl | unfold impl_CanBe.f; rfl) ?_
  repeat' first
    | (with_reducible exact Co.const _)
    | (with_reducible exact impl_WhyNot.F_co _ _ _ _ _ _ _ _ _ _ _ _ _ _ _ _)
    | (with_reducible refine Co.ite ?_ ?_)
    | (with_reducible refine Co.bind ?_ (fun _ => ?_))

noncomputable def laws_FnExactCanBe.F (a0_0 : Int) (a0_1 : Int) (l0_2 : List Int) (a0_3 : Int) (a0_4 : Int) (l0_5 : List Int) (a0_6 : Int) (a0_7 : Int) (a1_0 : Int) (a1_1 : Int) (a1_2 : Int) (a1_3 : Int) (a1_4 : Int) (a1_5 : Int) (a1_6 : Int) (a1_7 : Int) : Option (Bool) := lim (fun k => laws_FnExactCanBe.f k a0_0 a0_1 l0_2 a0_3 a0_4 l0_5 a0_6 a0_7 a1_0 a1_1 a1_2 a1_3 a1_4 a1_5 a1_6 a1_7)
theorem laws_FnExactCanBe.F_co (a0_0 : Int) (a0_1 : Int) (l0_2 : List Int) (a0_3 : Int) (a0_4 : Int) (l0_5 : List Int) (a0_6 : Int) (a0_7 : Int) (a1_0 : Int) (a1_1 : Int) (a1_2 : Int) (a1_3 : Int) (a1_4 : Int) (a1_5 : Int) (a1_6 : Int) (a1_7 : Int) : Co (fun k => laws_FnExactCanBe.f k a0_0 a0_1 l0_2 a0_3 a0_4 l0_5 a0_6 a0_7 a1_0 a1_1 a1_2 a1_3 a1_4 a1_5 a1_6 a1_7) (laws_FnExactCanBe.F a0_0 a0_1 l0_2 a0_3 a0_4 l0_5 a0_6 a0_7 a1_0 a1_1 a1_2 a1_3 a1_4 a1_5 a1_6 a1_7) := Co.base (fun k => laws_FnExactCanBe.mono _ _ _ _ _ _ _ _ _ _ _ _ _ _ _ _ k)
theorem laws_FnExactCanBe.F_eq (a0_0 : Int) (a0_1 : Int) (l0_2 : List Int) (a0_3 : Int) (a0_4 : Int) (l0_5 : List Int) (a0_6 : Int) (a0_7 : Int) (a1_0 : Int) (a1_1 : Int) (a1_2 : Int) (a1_3 : Int) (a1_4 : Int) (a1_5 : Int) (a1_6 : Int) (a1_7 : Int) : laws_FnExactCanBe.F a0_0 a0_1 l0_2 a0_3 a0_4 l0_5 a0_6 a0_7 a1_0 a1_1 a1_2 a1_3 a1_4 a1_5 a1_6 a1_7 = ((laws_szReport.f a0_0 a0_1 l0_2 a0_3 a0_4 l0_5 a0_6 a0_7 1048576).bind fun t216 => (if t216 < 0 then (some true) else ((laws_toReport.F a0_0 a0_1 l0_2 a0_3 a0_4 l0_5 a0_6 a0_7).bind fun bt217 => ((laws_toFind.f a1_0 a1_1 a1_2 a1_3 a1_4 a1_5 a1_6 a1_7).bind fun bt229 => ((spec_CanBe.F bt217.1 bt217.2.1 bt217.2.2.1 bt217.2.2.2.1 bt217.2.2.2.2.1 bt217.2.2.2.2.2.1 bt217.2.2.2.2.2.2.1 bt217.2.2.2.2.2.2.2 bt229.1 bt229.2.1 bt229.2.2.1 bt229.2.2.2.1 bt229.2.2.2.2.1 bt229.2.2.2.2.2.1 bt229.2.2.2.2.2.2.1 bt229.2.2.2.2.2.2.2).bind fun t237 => ((laws_toReport.F a0_0 a0_1 l0_2 a0_3 a0_4 l0_5 a0_6 a0_7).bind fun bt238 => ((laws_toFind.f a1_0 a1_1 a1_2 a1_3 a1_4 a1_5 a1_6 a1_7).bind fun bt251 => ((impl_CanBe.F bt238.1 bt238.2.1 bt238.2.2.1 bt238.2.2.2.1 bt238.2.2.2.2.1 bt238.2.2.2.2.2.1 bt238.2.2.2.2.2.2.1 bt238.2.2.2.2.2.2.2 bt251.1 bt251.2.1 bt251.2.2.1 bt251.2.2.2.1 bt251.2.2.2.2.1 bt251.2.2.2.2.2.1 bt251.2.2.2.2.2.2.1 bt251.2.2.2.2.2.2.2).bind fun t259 => (if (t259 != t237) = true then (some false) else ((laws_toReport.F a0_0 a0_1 l0_2 a0_3 a0_4 l0_5 a0_6 a0_7).bind fun bt260 => ((laws_eqReport.F bt238.1 bt238.2.1 bt238.2.2.1 bt238.2.2.2.1 bt238.2.2.2.2.1 bt238.2.2.2.2.2.1 bt238.2.2.2.2.2.2.1 bt238.2.2.2.2.2.2.2 bt260.1 bt260.2.1 bt260.2.2.1 bt260.2.2.2.1 bt260.2.2.2.2.1 bt260.2.2.2.2.2.1 bt260.2.2.2.2.2.2.1 bt260.2.2.2.2.2.2.2).bind fun t272 => (if t272 = true then (some true) else (some false))))))))))))) := by
  refine Co.same (laws_FnExactCanBe.F_co a0_0 a0_1 l0_2 a0_3 a0_4 l0_5 a0_6 a0_7 a1_0 a1_1 a1_2 a1_3 a1_4 a1_5 a1_6 a1_7) (h := fun k => ((laws_szReport.f a0_0 a0_1 l0_2 a0_3 a0_4 l0_5 a0_6 a0_7 1048576).bind fun t216 => (if t216 < 0 then (some true) else ((laws_toReport.f k a0_0 a0_1 l0_2 a0_3 a0_4 l0_5 a0_6 a0_7).bind fun bt217 => ((laws_toFind.f a1_0 a1_1 a1_2 a1_3 a1_4 a1_5 a1_6 a1_7).bind fun bt229 => ((spec_CanBe.f k bt217.1 bt217.2.1 bt217.2.2.1 bt217.2.2.2.1 bt217.2.2.2.2.1 bt217.2.2.2.2.2.1 bt217.2.2.2.2.2.2.1 bt217.2.2.2.2.2.2.2 bt229.1 bt229.2.1 bt229.2.2.1 bt229.2.2.2.1 bt229.2.2.2.2.1 bt229.2.2.2.2.2.1 bt229.2.2.2.2.2.2.1 bt229.2.2.2.2.2.2.2).bind fun t237 => ((laws_toReport.f k a0_0 a0_1 l0_2 a0_3 a0_4 l0_5 a0_6 a0_7).bind fun bt238 => ((laws_toFind.f a1_0 a1_1 a1_2 a1_3 a1_4 a1_5 a1_6 a1_7).bind fun bt251 => ((impl_CanBe.f k bt238.1 bt238.2.1 bt238.2.2.1 bt238.2.2.2.1 bt238.2.2.2.2.1 bt238.2.2.2.2.2.1 bt238.2.2.2.2.2.2.1 bt238.2.2.2.2.2.2.2 bt251.1 bt251.2.1 bt251.2.2.1 bt251.2.2.2.1 bt251.2.2.2.2.1 bt251.2.2.2.2.2.1 bt251.2.2.2.2.2.2.1 bt251.2.2.2.2.2.2.2).bind fun t259 => (if (t259 != t237) = true then (some false) else ((laws_toReport.f k a0_0 a0_1 l0_2 a0_3 a0_4 l0_5 a0_6 a0_7).bind fun bt260 => ((laws_eqReport.f k bt238.1 bt238.2.1 bt238.2.2.1 bt238.2.2.2.1 bt238.2.2.2.2.1 bt238.2.2.2.2.2.1 bt238.2.2.2.2.2.2.1 bt238.2.2.2.2.2.2.2 bt260.1 bt260.2.1 bt260.2.2.1 bt260.2.2.2.1 bt260.2.2.2.2.1 bt260.2.2.2.2.2.1 bt260.2.2.2.2.2.2.1 bt260.2.2.2.2.2.2.2).bind fun t272 => (if t272 = true then (some true) else (some false)))))))))))))) (fun k => by first | rfl | unfold laws_FnExactCanBe.f; rfl) ?_
  repeat' first
    | (with_reducible exact Co.const _)
    | (with_reducible exact impl_CanBe.F_co _ _ _ _ _ _ _ _ _ _ _ _ _ _ _ _)
    | (with_reducible exact laws_eqReport.F_co _ _ _ _ _ _ _ _ _ _ _ _ _ _ _ _)
    | (with_reducible exact laws_toReport.F_co _ _ _ _ _ _ _ _)
    | (with_reducible exact spec_CanBe.F_co _ _ _ _ _ _ _ _ _ _ _ _ _ _ _ _)
    | (with_reducible refine Co.ite ?_ ?_)
    | (with_reducible refine Co.bind ?_ (fun _ => ?_))

end Go.Proofs.Ytbbfelgojaioaaa.PFnExactCanBe.Pure
