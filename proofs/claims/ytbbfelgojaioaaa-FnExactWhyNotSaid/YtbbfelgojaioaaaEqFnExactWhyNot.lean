/-
  The printed functions that this law reaches, their rounds used up, and the equations that they meet.
-/
import Derived.Test.YtbbfelgojaioaaaPFnExactWhyNotx1
import Derived.Test.YtbbfelgojaioaaaPFnExactWhyNotx2
import Derived.Test.YtbbfelgojaioaaaPFnExactWhyNotx3
import Derived.Test.YtbbfelgojaioaaaPFnExactWhyNotx4
import Derived.Test.YtbbfelgojaioaaaPFnExactWhyNotx5
import Derived.Test.YtbbfelgojaioaaaPFnExactWhyNotx6
import Derived.Test.YtbbfelgojaioaaaLim
namespace Go.Proofs.Ytbbfelgojaioaaa.PFnExactWhyNot.Pure
open Go.RowKit Go.Proofs.YtbbfelgojaioaaaW.PrintWords Go.Proofs.YtbbfelgojaioaaaW.PrintLast Go.Proofs.YtbbfelgojaioaaaW.PrintMore Go.Proofs.Ytbbfelgojaioaaa.PFnExactWhyNot Go.Proofs.Ytbbfelgojaioaaa.Lim
set_option linter.unusedVariables false
set_option maxRecDepth 100000

noncomputable def laws_toIntS.L0 (x0 : List Int) (x3 : List Int) (x4 : Int) : Option (List Int) := lim (fun k => laws_toIntS.l0 k x0 x3 x4)
theorem laws_toIntS.L0_co (x0 : List Int) (x3 : List Int) (x4 : Int) : Co (fun k => laws_toIntS.l0 k x0 x3 x4) (laws_toIntS.L0 x0 x3 x4) := Co.base (fun k => (laws_toIntS.mono_l k) _ _ _)
noncomputable def laws_toIntS.F (l0 : List Int) : Option (List Int) := lim (fun k => laws_toIntS.f k l0)
theorem laws_toIntS.F_co (l0 : List Int) : Co (fun k => laws_toIntS.f k l0) (laws_toIntS.F l0) := Co.base (fun k => laws_toIntS.mono _ k)
theorem laws_toIntS.L0_eq (x0 : List Int) (x3 : List Int) (x4 : Int) : laws_toIntS.L0 x0 x3 x4 = (if x4 < (x0.length : Int) then (if 0 ≤ x4 then (if x4 < (x3.length : Int) then (laws_toIntS.L0 x0 (x3.set (x4 : Int).toNat (rd x0 x4)) (wrap64 (x4 + 1))) else (none)) else (none)) else (some x3)) := by
  refine Co.step (laws_toIntS.L0_co x0 x3 x4) (h := fun k => (if x4 < (x0.length : Int) then (if 0 ≤ x4 then (if x4 < (x3.length : Int) then (laws_toIntS.l0 k x0 (x3.set (x4 : Int).toNat (rd x0 x4)) (wrap64 (x4 + 1))) else (none)) else (none)) else (some x3))) (fun k => by first | rfl | (simp only [laws_toIntS.l0])) ?_
  repeat' first
    | (with_reducible exact Co.const _)
    | (with_reducible exact laws_toIntS.L0_co _ _ _)
    | (with_reducible refine Co.ite ?_ ?_)
    | (with_reducible refine Co.bind ?_ (fun _ => ?_))
theorem laws_toIntS.F_eq (l0 : List Int) : laws_toIntS.F l0 = (if 0 ≤ (l0.length : Int) then (if ((l0.length : Int) : Int).toNat ≤ 35184372088832 then (laws_toIntS.L0 l0 (List.replicate ((l0.length : Int) : Int).toNat 0) 0) else (none)) else (none)) := by
  refine Co.same (laws_toIntS.F_co l0) (h := fun k => (if 0 ≤ (l0.length : Int) then (if ((l0.length : Int) : Int).toNat ≤ 35184372088832 then (laws_toIntS.l0 k l0 (List.replicate ((l0.length : Int) : Int).toNat 0) 0) else (none)) else (none))) (fun k => by first | rfl | unfold laws_toIntS.f; rfl) ?_
  repeat' first
    | (with_reducible exact Co.const _)
    | (with_reducible exact laws_toIntS.L0_co _ _ _)
    | (with_reducible refine Co.ite ?_ ?_)
    | (with_reducible refine Co.bind ?_ (fun _ => ?_))

noncomputable def laws_toReport.F (a0_0 : Int) (a0_1 : Int) (l0_2 : List Int) (a0_3 : Int) (a0_4 : Int) (l0_5 : List Int) (a0_6 : Int) (a0_7 : Int) : Option (Int × Int × List Int × Int × Int × List Int × Int × Int) := lim (fun k => laws_toReport.f k a0_0 a0_1 l0_2 a0_3 a0_4 l0_5 a0_6 a0_7)
theorem laws_toReport.F_co (a0_0 : Int) (a0_1 : Int) (l0_2 : List Int) (a0_3 : Int) (a0_4 : Int) (l0_5 : List Int) (a0_6 : Int) (a0_7 : Int) : Co (fun k => laws_toReport.f k a0_0 a0_1 l0_2 a0_3 a0_4 l0_5 a0_6 a0_7) (laws_toReport.F a0_0 a0_1 l0_2 a0_3 a0_4 l0_5 a0_6 a0_7) := Co.base (fun k => laws_toReport.mono _ _ _ _ _ _ _ _ k)
theorem laws_toReport.F_eq (a0_0 : Int) (a0_1 : Int) (l0_2 : List Int) (a0_3 : Int) (a0_4 : Int) (l0_5 : List Int) (a0_6 : Int) (a0_7 : Int) : laws_toReport.F a0_0 a0_1 l0_2 a0_3 a0_4 l0_5 a0_6 a0_7 = ((laws_toIntS.F l0_2).bind fun t115 => ((laws_toIntS.F l0_5).bind fun t118 => ((laws_toSpan.f a0_6 a0_7).bind fun bt121 => (some (a0_0, a0_1, t115, a0_3, a0_4, t118, bt121.1, bt121.2))))) := by
  refine Co.same (laws_toReport.F_co a0_0 a0_1 l0_2 a0_3 a0_4 l0_5 a0_6 a0_7) (h := fun k => ((laws_toIntS.f k l0_2).bind fun t115 => ((laws_toIntS.f k l0_5).bind fun t118 => ((laws_toSpan.f a0_6 a0_7).bind fun bt121 => (some (a0_0, a0_1, t115, a0_3, a0_4, t118, bt121.1, bt121.2)))))) (fun k => by first | rfl | unfold laws_toReport.f; rfl) ?_
  repeat' first
    | (with_reducible exact Co.const _)
    | (with_reducible exact laws_toIntS.F_co _)
    | (with_reducible refine Co.ite ?_ ?_)
    | (with_reducible refine Co.bind ?_ (fun _ => ?_))

noncomputable def laws_eqIntS.L0 (x0 : List Int) (x1 : List Int) (x5 : Int) : Option (Bool) := lim (fun k => laws_eqIntS.l0 k x0 x1 x5)
theorem laws_eqIntS.L0_co (x0 : List Int) (x1 : List Int) (x5 : Int) : Co (fun k => laws_eqIntS.l0 k x0 x1 x5) (laws_eqIntS.L0 x0 x1 x5) := Co.base (fun k => (laws_eqIntS.mono_l k) _ _ _)
noncomputable def laws_eqIntS.F (l0 : List Int) (l1 : List Int) : Option (Bool) := lim (fun k => laws_eqIntS.f k l0 l1)
theorem laws_eqIntS.F_co (l0 : List Int) (l1 : List Int) : Co (fun k => laws_eqIntS.f k l0 l1) (laws_eqIntS.F l0 l1) := Co.base (fun k => laws_eqIntS.mono _ _ k)
theorem laws_eqIntS.L0_eq (x0 : List Int) (x1 : List Int) (x5 : Int) : laws_eqIntS.L0 x0 x1 x5 = (if x5 < (x0.length : Int) then (if 0 ≤ x5 then (if x5 < (x1.length : Int) then (if (rd x0 x5) = (rd x1 x5) then (laws_eqIntS.L0 x0 x1 (wrap64 (x5 + 1))) else (some false)) else (none)) else (none)) else (some true)) := by
  refine Co.step (laws_eqIntS.L0_co x0 x1 x5) (h := fun k => (if x5 < (x0.length : Int) then (if 0 ≤ x5 then (if x5 < (x1.length : Int) then (if (rd x0 x5) = (rd x1 x5) then (laws_eqIntS.l0 k x0 x1 (wrap64 (x5 + 1))) else (some false)) else (none)) else (none)) else (some true))) (fun k => by first | rfl | (simp only [laws_eqIntS.l0])) ?_
  repeat' first
    | (with_reducible exact Co.const _)
    | (with_reducible exact laws_eqIntS.L0_co _ _ _)
    | (with_reducible refine Co.ite ?_ ?_)
    | (with_reducible refine Co.bind ?_ (fun _ => ?_))
theorem laws_eqIntS.F_eq (l0 : List Int) (l1 : List Int) : laws_eqIntS.F l0 l1 = (if (l0.length : Int) = (l1.length : Int) then (laws_eqIntS.L0 l0 l1 0) else (some false)) := by
  refine Co.same (laws_eqIntS.F_co l0 l1) (h := fun k => (if (l0.length : Int) = (l1.length : Int) then (laws_eqIntS.l0 k l0 l1 0) else (some false))) (fun k => by first | rfl | unfold laws_eqIntS.f; rfl) ?_
  repeat' first
    | (with_reducible exact Co.const _)
    | (with_reducible exact laws_eqIntS.L0_co _ _ _)
    | (with_reducible refine Co.ite ?_ ?_)
    | (with_reducible refine Co.bind ?_ (fun _ => ?_))

noncomputable def laws_eqReport.F (a0_0 : Int) (a0_1 : Int) (l0_2 : List Int) (a0_3 : Int) (a0_4 : Int) (l0_5 : List Int) (a0_6 : Int) (a0_7 : Int) (a1_0 : Int) (a1_1 : Int) (l1_2 : List Int) (a1_3 : Int) (a1_4 : Int) (l1_5 : List Int) (a1_6 : Int) (a1_7 : Int) : Option (Bool) := lim (fun k => laws_eqReport.f k a0_0 a0_1 l0_2 a0_3 a0_4 l0_5 a0_6 a0_7 a1_0 a1_1 l1_2 a1_3 a1_4 l1_5 a1_6 a1_7)
theorem laws_eqReport.F_co (a0_0 : Int) (a0_1 : Int) (l0_2 : List Int) (a0_3 : Int) (a0_4 : Int) (l0_5 : List Int) (a0_6 : Int) (a0_7 : Int) (a1_0 : Int) (a1_1 : Int) (l1_2 : List Int) (a1_3 : Int) (a1_4 : Int) (l1_5 : List Int) (a1_6 : Int) (a1_7 : Int) : Co (fun k => laws_eqReport.f k a0_0 a0_1 l0_2 a0_3 a0_4 l0_5 a0_6 a0_7 a1_0 a1_1 l1_2 a1_3 a1_4 l1_5 a1_6 a1_7) (laws_eqReport.F a0_0 a0_1 l0_2 a0_3 a0_4 l0_5 a0_6 a0_7 a1_0 a1_1 l1_2 a1_3 a1_4 l1_5 a1_6 a1_7) := Co.base (fun k => laws_eqReport.mono _ _ _ _ _ _ _ _ _ _ _ _ _ _ _ _ k)
theorem laws_eqReport.F_eq (a0_0 : Int) (a0_1 : Int) (l0_2 : List Int) (a0_3 : Int) (a0_4 : Int) (l0_5 : List Int) (a0_6 : Int) (a0_7 : Int) (a1_0 : Int) (a1_1 : Int) (l1_2 : List Int) (a1_3 : Int) (a1_4 : Int) (l1_5 : List Int) (a1_6 : Int) (a1_7 : Int) : laws_eqReport.F a0_0 a0_1 l0_2 a0_3 a0_4 l0_5 a0_6 a0_7 a1_0 a1_1 l1_2 a1_3 a1_4 l1_5 a1_6 a1_7 = (if a0_0 = a1_0 then (if a0_1 = a1_1 then ((laws_eqIntS.F l0_2 l1_2).bind fun t129 => (if t129 = true then (if a0_3 = a1_3 then (if a0_4 = a1_4 then ((laws_eqIntS.F l0_5 l1_5).bind fun t130 => (if t130 = true then ((laws_eqSpan.f a0_6 a0_7 a1_6 a1_7).bind fun t131 => (if t131 = true then (some true) else (some false))) else (some false))) else (some false)) else (some false)) else (some false))) else (some false)) else (some false)) := by
  refine Co.same (laws_eqReport.F_co a0_0 a0_1 l0_2 a0_3 a0_4 l0_5 a0_6 a0_7 a1_0 a1_1 l1_2 a1_3 a1_4 l1_5 a1_6 a1_7) (h := fun k => (if a0_0 = a1_0 then (if a0_1 = a1_1 then ((laws_eqIntS.f k l0_2 l1_2).bind fun t129 => (if t129 = true then (if a0_3 = a1_3 then (if a0_4 = a1_4 then ((laws_eqIntS.f k l0_5 l1_5).bind fun t130 => (if t130 = true then ((laws_eqSpan.f a0_6 a0_7 a1_6 a1_7).bind fun t131 => (if t131 = true then (some true) else (some false))) else (some false))) else (some false)) else (some false)) else (some false))) else (some false)) else (some false))) (fun k => by first | rfl | unfold laws_eqReport.f; rfl) ?_
  repeat' first
    | (with_reducible exact Co.const _)
    | (with_reducible exact laws_eqIntS.F_co _ _)
    | (with_reducible refine Co.ite ?_ ?_)
    | (with_reducible refine Co.bind ?_ (fun _ => ?_))

noncomputable def spec_l7Ids.L0 (x0 : List Int) (x1 : Int) (x2 : Int) (x7 : Int) : Option (Bool) := lim (fun k => spec_l7Ids.l0 k x0 x1 x2 x7)
theorem spec_l7Ids.L0_co (x0 : List Int) (x1 : Int) (x2 : Int) (x7 : Int) : Co (fun k => spec_l7Ids.l0 k x0 x1 x2 x7) (spec_l7Ids.L0 x0 x1 x2 x7) := Co.base (fun k => (spec_l7Ids.mono_l k) _ _ _ _)
noncomputable def spec_l7Ids.F (l0 : List Int) (a1 : Int) (a2 : Int) : Option (Bool) := lim (fun k => spec_l7Ids.f k l0 a1 a2)
theorem spec_l7Ids.F_co (l0 : List Int) (a1 : Int) (a2 : Int) : Co (fun k => spec_l7Ids.f k l0 a1 a2) (spec_l7Ids.F l0 a1 a2) := Co.base (fun k => spec_l7Ids.mono _ _ _ k)
theorem spec_l7Ids.L0_eq (x0 : List Int) (x1 : Int) (x2 : Int) (x7 : Int) : spec_l7Ids.L0 x0 x1 x2 x7 = (if x7 < (x0.length : Int) then (if 0 ≤ x7 then ((spec_l1In.f (rd x0 x7) x1 x2).bind fun t133 => (if t133 = true then (if x7 > 0 then (if 0 ≤ (wrap64 (x7 - 1)) then (if (wrap64 (x7 - 1)) < (x0.length : Int) then (if (rd x0 (wrap64 (x7 - 1))) ≥ (rd x0 x7) then (some false) else (spec_l7Ids.L0 x0 x1 x2 (wrap64 (x7 + 1)))) else (none)) else (none)) else (spec_l7Ids.L0 x0 x1 x2 (wrap64 (x7 + 1)))) else (some false))) else (none)) else (some true)) := by
  refine Co.step (spec_l7Ids.L0_co x0 x1 x2 x7) (h := fun k => (if x7 < (x0.length : Int) then (if 0 ≤ x7 then ((spec_l1In.f (rd x0 x7) x1 x2).bind fun t133 => (if t133 = true then (if x7 > 0 then (if 0 ≤ (wrap64 (x7 - 1)) then (if (wrap64 (x7 - 1)) < (x0.length : Int) then (if (rd x0 (wrap64 (x7 - 1))) ≥ (rd x0 x7) then (some false) else (spec_l7Ids.l0 k x0 x1 x2 (wrap64 (x7 + 1)))) else (none)) else (none)) else (spec_l7Ids.l0 k x0 x1 x2 (wrap64 (x7 + 1)))) else (some false))) else (none)) else (some true))) (fun k => by first | rfl | (simp only [spec_l7Ids.l0])) ?_
  repeat' first
    | (with_reducible exact Co.const _)
    | (with_reducible exact spec_l7Ids.L0_co _ _ _ _)
    | (with_reducible refine Co.ite ?_ ?_)
    | (with_reducible refine Co.bind ?_ (fun _ => ?_))
theorem spec_l7Ids.F_eq (l0 : List Int) (a1 : Int) (a2 : Int) : spec_l7Ids.F l0 a1 a2 = (spec_l7Ids.L0 l0 a1 a2 0) := by
  refine Co.same (spec_l7Ids.F_co l0 a1 a2) (h := fun k => (spec_l7Ids.l0 k l0 a1 a2 0)) (fun k => by first | rfl | unfold spec_l7Ids.f; rfl) ?_
  repeat' first
    | (with_reducible exact Co.const _)
    | (with_reducible exact spec_l7Ids.L0_co _ _ _ _)
    | (with_reducible refine Co.ite ?_ ?_)
    | (with_reducible refine Co.bind ?_ (fun _ => ?_))

noncomputable def spec_IsReport.F (a0_0 : Int) (a0_1 : Int) (l0_2 : List Int) (a0_3 : Int) (a0_4 : Int) (l0_5 : List Int) (a0_6 : Int) (a0_7 : Int) : Option (Bool) := lim (fun k => spec_IsReport.f k a0_0 a0_1 l0_2 a0_3 a0_4 l0_5 a0_6 a0_7)
theorem spec_IsReport.F_co (a0_0 : Int) (a0_1 : Int) (l0_2 : List Int) (a0_3 : Int) (a0_4 : Int) (l0_5 : List Int) (a0_6 : Int) (a0_7 : Int) : Co (fun k => spec_IsReport.f k a0_0 a0_1 l0_2 a0_3 a0_4 l0_5 a0_6 a0_7) (spec_IsReport.F a0_0 a0_1 l0_2 a0_3 a0_4 l0_5 a0_6 a0_7) := Co.base (fun k => spec_IsReport.mono _ _ _ _ _ _ _ _ k)
theorem spec_IsReport.F_eq (a0_0 : Int) (a0_1 : Int) (l0_2 : List Int) (a0_3 : Int) (a0_4 : Int) (l0_5 : List Int) (a0_6 : Int) (a0_7 : Int) : spec_IsReport.F a0_0 a0_1 l0_2 a0_3 a0_4 l0_5 a0_6 a0_7 = ((spec_l1In.f a0_0 1 999).bind fun t140 => (if t140 = true then ((spec_l1In.f a0_1 1 8).bind fun t141 => (if t141 = true then ((spec_l7Ids.F l0_2 0 7).bind fun t142 => (if t142 = true then (if a0_3 ≥ 1 then (if a0_3 ≤ a0_4 then (if a0_4 ≤ 50 then ((spec_l7Ids.F l0_5 1 30).bind fun t143 => (if t143 = true then (if (l0_5.length : Int) ≤ 10 then ((spec_IsSpan.f a0_6 a0_7).bind fun t144 => (some t144)) else (some false)) else (some false))) else (some false)) else (some false)) else (some false)) else (some false))) else (some false))) else (some false))) := by
  refine Co.same (spec_IsReport.F_co a0_0 a0_1 l0_2 a0_3 a0_4 l0_5 a0_6 a0_7) (h := fun k => ((spec_l1In.f a0_0 1 999).bind fun t140 => (if t140 = true then ((spec_l1In.f a0_1 1 8).bind fun t141 => (if t141 = true then ((spec_l7Ids.f k l0_2 0 7).bind fun t142 => (if t142 = true then (if a0_3 ≥ 1 then (if a0_3 ≤ a0_4 then (if a0_4 ≤ 50 then ((spec_l7Ids.f k l0_5 1 30).bind fun t143 => (if t143 = true then (if (l0_5.length : Int) ≤ 10 then ((spec_IsSpan.f a0_6 a0_7).bind fun t144 => (some t144)) else (some false)) else (some false))) else (some false)) else (some false)) else (some false)) else (some false))) else (some false))) else (some false)))) (fun k => by first | rfl | unfold spec_IsReport.f; rfl) ?_
  repeat' first
    | (with_reducible exact Co.const _)
    | (with_reducible exact spec_l7Ids.F_co _ _ _)
    | (with_reducible refine Co.ite ?_ ?_)
    | (with_reducible refine Co.bind ?_ (fun _ => ?_))

noncomputable def spec_l8Has.L0 (x0 : List Int) (x1 : Int) (x5 : Int) : Option (Bool) := lim (fun k => spec_l8Has.l0 k x0 x1 x5)
theorem spec_l8Has.L0_co (x0 : List Int) (x1 : Int) (x5 : Int) : Co (fun k => spec_l8Has.l0 k x0 x1 x5) (spec_l8Has.L0 x0 x1 x5) := Co.base (fun k => (spec_l8Has.mono_l k) _ _ _)
noncomputable def spec_l8Has.F (l0 : List Int) (a1 : Int) : Option (Bool) := lim (fun k => spec_l8Has.f k l0 a1)
theorem spec_l8Has.F_co (l0 : List Int) (a1 : Int) : Co (fun k => spec_l8Has.f k l0 a1) (spec_l8Has.F l0 a1) := Co.base (fun k => spec_l8Has.mono _ _ k)
theorem spec_l8Has.L0_eq (x0 : List Int) (x1 : Int) (x5 : Int) : spec_l8Has.L0 x0 x1 x5 = (if x5 < (x0.length : Int) then (if 0 ≤ x5 then (if (rd x0 x5) = x1 then (some true) else (spec_l8Has.L0 x0 x1 (wrap64 (x5 + 1)))) else (none)) else (some false)) := by
  refine Co.step (spec_l8Has.L0_co x0 x1 x5) (h := fun k => (if x5 < (x0.length : Int) then (if 0 ≤ x5 then (if (rd x0 x5) = x1 then (some true) else (spec_l8Has.l0 k x0 x1 (wrap64 (x5 + 1)))) else (none)) else (some false))) (fun k => by first | rfl | (simp only [spec_l8Has.l0])) ?_
  repeat' first
    | (with_reducible exact Co.const _)
    | (with_reducible exact spec_l8Has.L0_co _ _ _)
    | (with_reducible refine Co.ite ?_ ?_)
    | (with_reducible refine Co.bind ?_ (fun _ => ?_))
theorem spec_l8Has.F_eq (l0 : List Int) (a1 : Int) : spec_l8Has.F l0 a1 = (spec_l8Has.L0 l0 a1 0) := by
  refine Co.same (spec_l8Has.F_co l0 a1) (h := fun k => (spec_l8Has.l0 k l0 a1 0)) (fun k => by first | rfl | unfold spec_l8Has.f; rfl) ?_
  repeat' first
    | (with_reducible exact Co.const _)
    | (with_reducible exact spec_l8Has.L0_co _ _ _)
    | (with_reducible refine Co.ite ?_ ?_)
    | (with_reducible refine Co.bind ?_ (fun _ => ?_))

noncomputable def spec_WhyNot.J0 (x5 : Bool) (x158000 : Int) (x158001 : Int) (x158002 : List Int) (x158003 : Int) (x158004 : Int) (x158005 : List Int) (x158006 : Int) (x158007 : Int) (x159000 : Int) (x159001 : Int) (x159002 : Int) (x159003 : Int) (x159004 : Int) (x159005 : Int) (x159006 : Int) (x159007 : Int) : Option (ByteArray) := lim (fun k => spec_WhyNot.j0 k x5 x158000 x158001 x158002 x158003 x158004 x158005 x158006 x158007 x159000 x159001 x159002 x159003 x159004 x159005 x159006 x159007)
theorem spec_WhyNot.J0_co (x5 : Bool) (x158000 : Int) (x158001 : Int) (x158002 : List Int) (x158003 : Int) (x158004 : Int) (x158005 : List Int) (x158006 : Int) (x158007 : Int) (x159000 : Int) (x159001 : Int) (x159002 : Int) (x159003 : Int) (x159004 : Int) (x159005 : Int) (x159006 : Int) (x159007 : Int) : Co (fun k => spec_WhyNot.j0 k x5 x158000 x158001 x158002 x158003 x158004 x158005 x158006 x158007 x159000 x159001 x159002 x159003 x159004 x159005 x159006 x159007) (spec_WhyNot.J0 x5 x158000 x158001 x158002 x158003 x158004 x158005 x158006 x158007 x159000 x159001 x159002 x159003 x159004 x159005 x159006 x159007) := Co.base (fun k => (spec_WhyNot.mono_l k).1 _ _ _ _ _ _ _ _ _ _ _ _ _ _ _ _ _)
noncomputable def spec_WhyNot.J1 (x21 : Bool) (x158000 : Int) (x158001 : Int) (x158002 : List Int) (x158003 : Int) (x158004 : Int) (x158005 : List Int) (x158006 : Int) (x158007 : Int) (x159000 : Int) (x159001 : Int) (x159002 : Int) (x159003 : Int) (x159004 : Int) (x159005 : Int) (x159006 : Int) (x159007 : Int) : Option (ByteArray) := lim (fun k => spec_WhyNot.j1 k x21 x158000 x158001 x158002 x158003 x158004 x158005 x158006 x158007 x159000 x159001 x159002 x159003 x159004 x159005 x159006 x159007)
theorem spec_WhyNot.J1_co (x21 : Bool) (x158000 : Int) (x158001 : Int) (x158002 : List Int) (x158003 : Int) (x158004 : Int) (x158005 : List Int) (x158006 : Int) (x158007 : Int) (x159000 : Int) (x159001 : Int) (x159002 : Int) (x159003 : Int) (x159004 : Int) (x159005 : Int) (x159006 : Int) (x159007 : Int) : Co (fun k => spec_WhyNot.j1 k x21 x158000 x158001 x158002 x158003 x158004 x158005 x158006 x158007 x159000 x159001 x159002 x159003 x159004 x159005 x159006 x159007) (spec_WhyNot.J1 x21 x158000 x158001 x158002 x158003 x158004 x158005 x158006 x158007 x159000 x159001 x159002 x159003 x159004 x159005 x159006 x159007) := Co.base (fun k => (spec_WhyNot.mono_l k).2.1 _ _ _ _ _ _ _ _ _ _ _ _ _ _ _ _ _)
noncomputable def spec_WhyNot.J2 (x45 : Bool) (x158000 : Int) (x158001 : Int) (x158002 : List Int) (x158003 : Int) (x158004 : Int) (x158005 : List Int) (x158006 : Int) (x158007 : Int) (x159000 : Int) (x159001 : Int) (x159002 : Int) (x159003 : Int) (x159004 : Int) (x159005 : Int) (x159006 : Int) (x159007 : Int) : Option (ByteArray) := lim (fun k => spec_WhyNot.j2 k x45 x158000 x158001 x158002 x158003 x158004 x158005 x158006 x158007 x159000 x159001 x159002 x159003 x159004 x159005 x159006 x159007)
theorem spec_WhyNot.J2_co (x45 : Bool) (x158000 : Int) (x158001 : Int) (x158002 : List Int) (x158003 : Int) (x158004 : Int) (x158005 : List Int) (x158006 : Int) (x158007 : Int) (x159000 : Int) (x159001 : Int) (x159002 : Int) (x159003 : Int) (x159004 : Int) (x159005 : Int) (x159006 : Int) (x159007 : Int) : Co (fun k => spec_WhyNot.j2 k x45 x158000 x158001 x158002 x158003 x158004 x158005 x158006 x158007 x159000 x159001 x159002 x159003 x159004 x159005 x159006 x159007) (spec_WhyNot.J2 x45 x158000 x158001 x158002 x158003 x158004 x158005 x158006 x158007 x159000 x159001 x159002 x159003 x159004 x159005 x159006 x159007) := Co.base (fun k => (spec_WhyNot.mono_l k).2.2 _ _ _ _ _ _ _ _ _ _ _ _ _ _ _ _ _)
noncomputable def spec_WhyNot.F (a0_0 : Int) (a0_1 : Int) (l0_2 : List Int) (a0_3 : Int) (a0_4 : Int) (l0_5 : List Int) (a0_6 : Int) (a0_7 : Int) (a1_0 : Int) (a1_1 : Int) (a1_2 : Int) (a1_3 : Int) (a1_4 : Int) (a1_5 : Int) (a1_6 : Int) (a1_7 : Int) : Option (ByteArray) := lim (fun k => spec_WhyNot.f k a0_0 a0_1 l0_2 a0_3 a0_4 l0_5 a0_6 a0_7 a1_0 a1_1 a1_2 a1_3 a1_4 a1_5 a1_6 a1_7)
theorem spec_WhyNot.F_co (a0_0 : Int) (a0_1 : Int) (l0_2 : List Int) (a0_3 : Int) (a0_4 : Int) (l0_5 : List Int) (a0_6 : Int) (a0_7 : Int) (a1_0 : Int) (a1_1 : Int) (a1_2 : Int) (a1_3 : Int) (a1_4 : Int) (a1_5 : Int) (a1_6 : Int) (a1_7 : Int) : Co (fun k => spec_WhyNot.f k a0_0 a0_1 l0_2 a0_3 a0_4 l0_5 a0_6 a0_7 a1_0 a1_1 a1_2 a1_3 a1_4 a1_5 a1_6 a1_7) (spec_WhyNot.F a0_0 a0_1 l0_2 a0_3 a0_4 l0_5 a0_6 a0_7 a1_0 a1_1 a1_2 a1_3 a1_4 a1_5 a1_6 a1_7) := Co.base (fun k => spec_WhyNot.mono _ _ _ _ _ _ _ _ _ _ _ _ _ _ _ _ k)
theorem spec_WhyNot.J0_eq (x5 : Bool) (x158000 : Int) (x158001 : Int) (x158002 : List Int) (x158003 : Int) (x158004 : Int) (x158005 : List Int) (x158006 : Int) (x158007 : Int) (x159000 : Int) (x159001 : Int) (x159002 : Int) (x159003 : Int) (x159004 : Int) (x159005 : Int) (x159006 : Int) (x159007 : Int) : spec_WhyNot.J0 x5 x158000 x158001 x158002 x158003 x158004 x158005 x158006 x158007 x159000 x159001 x159002 x159003 x159004 x159005 x159006 x159007 = (if x5 = true then (some (⟨#[105, 110, 118, 97, 108, 105, 100]⟩ : ByteArray)) else (if x158001 = x159001 then (if (x158002.length : Int) > 0 then ((spec_l8Has.F x158002 x159002).bind fun t161 => (spec_WhyNot.J1 (!t161) x158000 x158001 x158002 x158003 x158004 x158005 x158006 x158007 x159000 x159001 x159002 x159003 x159004 x159005 x159006 x159007)) else (spec_WhyNot.J1 false x158000 x158001 x158002 x158003 x158004 x158005 x158006 x158007 x159000 x159001 x159002 x159003 x159004 x159005 x159006 x159007)) else (some (⟨#[107, 105, 110, 100]⟩ : ByteArray)))) := by
  refine Co.step (spec_WhyNot.J0_co x5 x158000 x158001 x158002 x158003 x158004 x158005 x158006 x158007 x159000 x159001 x159002 x159003 x159004 x159005 x159006 x159007) (h := fun k => (if x5 = true then (some (⟨#[105, 110, 118, 97, 108, 105, 100]⟩ : ByteArray)) else (if x158001 = x159001 then (if (x158002.length : Int) > 0 then ((spec_l8Has.f k x158002 x159002).bind fun t161 => (spec_WhyNot.j1 k (!t161) x158000 x158001 x158002 x158003 x158004 x158005 x158006 x158007 x159000 x159001 x159002 x159003 x159004 x159005 x159006 x159007)) else (spec_WhyNot.j1 k false x158000 x158001 x158002 x158003 x158004 x158005 x158006 x158007 x159000 x159001 x159002 x159003 x159004 x159005 x159006 x159007)) else (some (⟨#[107, 105, 110, 100]⟩ : ByteArray))))) (fun k => by first | rfl | (simp only [spec_WhyNot.j0])) ?_
  repeat' first
    | (with_reducible exact Co.const _)
    | (with_reducible exact spec_WhyNot.J1_co _ _ _ _ _ _ _ _ _ _ _ _ _ _ _ _ _)
    | (with_reducible exact spec_l8Has.F_co _ _)
    | (with_reducible refine Co.ite ?_ ?_)
    | (with_reducible refine Co.bind ?_ (fun _ => ?_))
theorem spec_WhyNot.J1_eq (x21 : Bool) (x158000 : Int) (x158001 : Int) (x158002 : List Int) (x158003 : Int) (x158004 : Int) (x158005 : List Int) (x158006 : Int) (x158007 : Int) (x159000 : Int) (x159001 : Int) (x159002 : Int) (x159003 : Int) (x159004 : Int) (x159005 : Int) (x159006 : Int) (x159007 : Int) : spec_WhyNot.J1 x21 x158000 x158001 x158002 x158003 x158004 x158005 x158006 x158007 x159000 x159001 x159002 x159003 x159004 x159005 x159006 x159007 = (if x21 = true then (some (⟨#[99, 111, 108, 111, 117, 114]⟩ : ByteArray)) else ((spec_l1In.f x159003 x158003 x158004).bind fun t162 => (if t162 = true then (if (x158005.length : Int) > 0 then ((spec_l8Has.F x158005 x159005).bind fun t163 => (spec_WhyNot.J2 (!t163) x158000 x158001 x158002 x158003 x158004 x158005 x158006 x158007 x159000 x159001 x159002 x159003 x159004 x159005 x159006 x159007)) else (spec_WhyNot.J2 false x158000 x158001 x158002 x158003 x158004 x158005 x158006 x158007 x159000 x159001 x159002 x159003 x159004 x159005 x159006 x159007)) else (some (⟨#[115, 105, 122, 101]⟩ : ByteArray))))) := by
  refine Co.step (spec_WhyNot.J1_co x21 x158000 x158001 x158002 x158003 x158004 x158005 x158006 x158007 x159000 x159001 x159002 x159003 x159004 x159005 x159006 x159007) (h := fun k => (if x21 = true then (some (⟨#[99, 111, 108, 111, 117, 114]⟩ : ByteArray)) else ((spec_l1In.f x159003 x158003 x158004).bind fun t162 => (if t162 = true then (if (x158005.length : Int) > 0 then ((spec_l8Has.f k x158005 x159005).bind fun t163 => (spec_WhyNot.j2 k (!t163) x158000 x158001 x158002 x158003 x158004 x158005 x158006 x158007 x159000 x159001 x159002 x159003 x159004 x159005 x159006 x159007)) else (spec_WhyNot.j2 k false x158000 x158001 x158002 x158003 x158004 x158005 x158006 x158007 x159000 x159001 x159002 x159003 x159004 x159005 x159006 x159007)) else (some (⟨#[115, 105, 122, 101]⟩ : ByteArray)))))) (fun k => by first | rfl | (simp only [spec_WhyNot.j1])) ?_
  repeat' first
    | (with_reducible exact Co.const _)
    | (with_reducible exact spec_WhyNot.J2_co _ _ _ _ _ _ _ _ _ _ _ _ _ _ _ _ _)
    | (with_reducible exact spec_l8Has.F_co _ _)
    | (with_reducible refine Co.ite ?_ ?_)
    | (with_reducible refine Co.bind ?_ (fun _ => ?_))
theorem spec_WhyNot.J2_eq (x45 : Bool) (x158000 : Int) (x158001 : Int) (x158002 : List Int) (x158003 : Int) (x158004 : Int) (x158005 : List Int) (x158006 : Int) (x158007 : Int) (x159000 : Int) (x159001 : Int) (x159002 : Int) (x159003 : Int) (x159004 : Int) (x159005 : Int) (x159006 : Int) (x159007 : Int) : spec_WhyNot.J2 x45 x158000 x158001 x158002 x158003 x158004 x158005 x158006 x158007 x159000 x159001 x159002 x159003 x159004 x159005 x159006 x159007 = (if x45 = true then (some (⟨#[112, 108, 97, 99, 101]⟩ : ByteArray)) else (if x159006 < x158006 then (some (⟨#[116, 105, 109, 101]⟩ : ByteArray)) else (some (⟨#[]⟩ : ByteArray)))) := by
  refine Co.step (spec_WhyNot.J2_co x45 x158000 x158001 x158002 x158003 x158004 x158005 x158006 x158007 x159000 x159001 x159002 x159003 x159004 x159005 x159006 x159007) (h := fun k => (if x45 = true then (some (⟨#[112, 108, 97, 99, 101]⟩ : ByteArray)) else (if x159006 < x158006 then (some (⟨#[116, 105, 109, 101]⟩ : ByteArray)) else (some (⟨#[]⟩ : ByteArray))))) (fun k => by first | rfl | (simp only [spec_WhyNot.j2])) ?_
  repeat' first
    | (with_reducible exact Co.const _)
    | (with_reducible refine Co.ite ?_ ?_)
    | (with_reducible refine Co.bind ?_ (fun _ => ?_))
theorem spec_WhyNot.F_eq (a0_0 : Int) (a0_1 : Int) (l0_2 : List Int) (a0_3 : Int) (a0_4 : Int) (l0_5 : List Int) (a0_6 : Int) (a0_7 : Int) (a1_0 : Int) (a1_1 : Int) (a1_2 : Int) (a1_3 : Int) (a1_4 : Int) (a1_5 : Int) (a1_6 : Int) (a1_7 : Int) : spec_WhyNot.F a0_0 a0_1 l0_2 a0_3 a0_4 l0_5 a0_6 a0_7 a1_0 a1_1 a1_2 a1_3 a1_4 a1_5 a1_6 a1_7 = ((spec_IsReport.F a0_0 a0_1 l0_2 a0_3 a0_4 l0_5 a0_6 a0_7).bind fun t159 => (if t159 = true then ((spec_IsFind.f a1_0 a1_1 a1_2 a1_3 a1_4 a1_5 a1_6 a1_7).bind fun t160 => (spec_WhyNot.J0 (!t160) a0_0 a0_1 l0_2 a0_3 a0_4 l0_5 a0_6 a0_7 a1_0 a1_1 a1_2 a1_3 a1_4 a1_5 a1_6 a1_7)) else (spec_WhyNot.J0 true a0_0 a0_1 l0_2 a0_3 a0_4 l0_5 a0_6 a0_7 a1_0 a1_1 a1_2 a1_3 a1_4 a1_5 a1_6 a1_7))) := by
  refine Co.same (spec_WhyNot.F_co a0_0 a0_1 l0_2 a0_3 a0_4 l0_5 a0_6 a0_7 a1_0 a1_1 a1_2 a1_3 a1_4 a1_5 a1_6 a1_7) (h := fun k => ((spec_IsReport.f k a0_0 a0_1 l0_2 a0_3 a0_4 l0_5 a0_6 a0_7).bind fun t159 => (if t159 = true then ((spec_IsFind.f a1_0 a1_1 a1_2 a1_3 a1_4 a1_5 a1_6 a1_7).bind fun t160 => (spec_WhyNot.j0 k (!t160) a0_0 a0_1 l0_2 a0_3 a0_4 l0_5 a0_6 a0_7 a1_0 a1_1 a1_2 a1_3 a1_4 a1_5 a1_6 a1_7)) else (spec_WhyNot.j0 k true a0_0 a0_1 l0_2 a0_3 a0_4 l0_5 a0_6 a0_7 a1_0 a1_1 a1_2 a1_3 a1_4 a1_5 a1_6 a1_7)))) (fun k => by first | rfl | unfold spec_WhyNot.f; rfl) ?_
  repeat' first
    | (with_reducible exact Co.const _)
    | (with_reducible exact spec_IsReport.F_co _ _ _ _ _ _ _ _)
    | (with_reducible exact spec_WhyNot.J0_co _ _ _ _ _ _ _ _ _ _ _ _ _ _ _ _ _)
    | (with_reducible refine Co.ite ?_ ?_)
    | (with_reducible refine Co.bind ?_ (fun _ => ?_))

noncomputable def impl_isAscending.L0 (x0 : List Int) (x1 : Int) (x2 : Int) (x9 : List Int) (x10 : Int) (x11 : Int) : Option (Bool) := lim (fun k => impl_isAscending.l0 k x0 x1 x2 x9 x10 x11)
theorem impl_isAscending.L0_co (x0 : List Int) (x1 : Int) (x2 : Int) (x9 : List Int) (x10 : Int) (x11 : Int) : Co (fun k => impl_isAscending.l0 k x0 x1 x2 x9 x10 x11) (impl_isAscending.L0 x0 x1 x2 x9 x10 x11) := Co.base (fun k => (impl_isAscending.mono_l k) _ _ _ _ _ _)
noncomputable def impl_isAscending.F (l0 : List Int) (a1 : Int) (a2 : Int) : Option (Bool) := lim (fun k => impl_isAscending.f k l0 a1 a2)
theorem impl_isAscending.F_co (l0 : List Int) (a1 : Int) (a2 : Int) : Co (fun k => impl_isAscending.f k l0 a1 a2) (impl_isAscending.F l0 a1 a2) := Co.base (fun k => impl_isAscending.mono _ _ _ k)
theorem impl_isAscending.L0_eq (x0 : List Int) (x1 : Int) (x2 : Int) (x9 : List Int) (x10 : Int) (x11 : Int) : impl_isAscending.L0 x0 x1 x2 x9 x10 x11 = (if x11 < x10 then (if 0 ≤ x11 then (if x11 < (x9.length : Int) then ((impl_InRange.f (rd x9 x11) x1 x2).bind fun t176 => (if t176 = true then (if x11 > 0 then (if 0 ≤ (wrap64 (x11 - 1)) then (if (wrap64 (x11 - 1)) < (x0.length : Int) then (if (rd x9 x11) ≤ (rd x0 (wrap64 (x11 - 1))) then (some false) else (impl_isAscending.L0 x0 x1 x2 x9 x10 (wrap64 (x11 + 1)))) else (none)) else (none)) else (impl_isAscending.L0 x0 x1 x2 x9 x10 (wrap64 (x11 + 1)))) else (some false))) else (none)) else (none)) else (some true)) := by
  refine Co.step (impl_isAscending.L0_co x0 x1 x2 x9 x10 x11) (h := fun k => (if x11 < x10 then (if 0 ≤ x11 then (if x11 < (x9.length : Int) then ((impl_InRange.f (rd x9 x11) x1 x2).bind fun t176 => (if t176 = true then (if x11 > 0 then (if 0 ≤ (wrap64 (x11 - 1)) then (if (wrap64 (x11 - 1)) < (x0.length : Int) then (if (rd x9 x11) ≤ (rd x0 (wrap64 (x11 - 1))) then (some false) else (impl_isAscending.l0 k x0 x1 x2 x9 x10 (wrap64 (x11 + 1)))) else (none)) else (none)) else (impl_isAscending.l0 k x0 x1 x2 x9 x10 (wrap64 (x11 + 1)))) else (some false))) else (none)) else (none)) else (some true))) (fun k => by first | rfl | (simp only [impl_isAscending.l0])) ?_
  repeat' first
    | (with_reducible exact Co.const _)
    | (with_reducible exact impl_isAscending.L0_co _ _ _ _ _ _)
    | (with_reducible refine Co.ite ?_ ?_)
    | (with_reducible refine Co.bind ?_ (fun _ => ?_))
theorem impl_isAscending.F_eq (l0 : List Int) (a1 : Int) (a2 : Int) : impl_isAscending.F l0 a1 a2 = (impl_isAscending.L0 l0 a1 a2 l0 (l0.length : Int) 0) := by
  refine Co.same (impl_isAscending.F_co l0 a1 a2) (h := fun k => (impl_isAscending.l0 k l0 a1 a2 l0 (l0.length : Int) 0)) (fun k => by first | rfl | unfold impl_isAscending.f; rfl) ?_
  repeat' first
    | (with_reducible exact Co.const _)
    | (with_reducible exact impl_isAscending.L0_co _ _ _ _ _ _)
    | (with_reducible refine Co.ite ?_ ?_)
    | (with_reducible refine Co.bind ?_ (fun _ => ?_))

noncomputable def impl_IsReport.F (a0_0 : Int) (a0_1 : Int) (l0_2 : List Int) (a0_3 : Int) (a0_4 : Int) (l0_5 : List Int) (a0_6 : Int) (a0_7 : Int) : Option (Bool) := lim (fun k => impl_IsReport.f k a0_0 a0_1 l0_2 a0_3 a0_4 l0_5 a0_6 a0_7)
theorem impl_IsReport.F_co (a0_0 : Int) (a0_1 : Int) (l0_2 : List Int) (a0_3 : Int) (a0_4 : Int) (l0_5 : List Int) (a0_6 : Int) (a0_7 : Int) : Co (fun k => impl_IsReport.f k a0_0 a0_1 l0_2 a0_3 a0_4 l0_5 a0_6 a0_7) (impl_IsReport.F a0_0 a0_1 l0_2 a0_3 a0_4 l0_5 a0_6 a0_7) := Co.base (fun k => impl_IsReport.mono _ _ _ _ _ _ _ _ k)
theorem impl_IsReport.F_eq (a0_0 : Int) (a0_1 : Int) (l0_2 : List Int) (a0_3 : Int) (a0_4 : Int) (l0_5 : List Int) (a0_6 : Int) (a0_7 : Int) : impl_IsReport.F a0_0 a0_1 l0_2 a0_3 a0_4 l0_5 a0_6 a0_7 = ((impl_InRange.f a0_0 1 999).bind fun t182 => (if t182 = true then ((impl_InRange.f a0_1 1 8).bind fun t183 => (if t183 = true then ((impl_isAscending.F l0_2 0 7).bind fun t184 => (if t184 = true then (if 1 ≤ a0_3 then (if a0_3 ≤ a0_4 then (if a0_4 ≤ 50 then ((impl_isAscending.F l0_5 1 30).bind fun t185 => (if t185 = true then (if (l0_5.length : Int) ≤ 10 then ((impl_IsSpan.f a0_6 a0_7).bind fun t186 => (some t186)) else (some false)) else (some false))) else (some false)) else (some false)) else (some false)) else (some false))) else (some false))) else (some false))) := by
  refine Co.same (impl_IsReport.F_co a0_0 a0_1 l0_2 a0_3 a0_4 l0_5 a0_6 a0_7) (h := fun k => ((impl_InRange.f a0_0 1 999).bind fun t182 => (if t182 = true then ((impl_InRange.f a0_1 1 8).bind fun t183 => (if t183 = true then ((impl_isAscending.f k l0_2 0 7).bind fun t184 => (if t184 = true then (if 1 ≤ a0_3 then (if a0_3 ≤ a0_4 then (if a0_4 ≤ 50 then ((impl_isAscending.f k l0_5 1 30).bind fun t185 => (if t185 = true then (if (l0_5.length : Int) ≤ 10 then ((impl_IsSpan.f a0_6 a0_7).bind fun t186 => (some t186)) else (some false)) else (some false))) else (some false)) else (some false)) else (some false)) else (some false))) else (some false))) else (some false)))) (fun k => by first | rfl | unfold impl_IsReport.f; rfl) ?_
  repeat' first
    | (with_reducible exact Co.const _)
    | (with_reducible exact impl_isAscending.F_co _ _ _)
    | (with_reducible refine Co.ite ?_ ?_)
    | (with_reducible refine Co.bind ?_ (fun _ => ?_))

noncomputable def slices_Index_int_int.L0 (x0 : List Int) (x1 : Int) (x7 : Int) (x8 : Int) : Option (Int) := lim (fun k => slices_Index_int_int.l0 k x0 x1 x7 x8)
theorem slices_Index_int_int.L0_co (x0 : List Int) (x1 : Int) (x7 : Int) (x8 : Int) : Co (fun k => slices_Index_int_int.l0 k x0 x1 x7 x8) (slices_Index_int_int.L0 x0 x1 x7 x8) := Co.base (fun k => (slices_Index_int_int.mono_l k) _ _ _ _)
noncomputable def slices_Index_int_int.F (l0 : List Int) (a1 : Int) : Option (Int) := lim (fun k => slices_Index_int_int.f k l0 a1)
theorem slices_Index_int_int.F_co (l0 : List Int) (a1 : Int) : Co (fun k => slices_Index_int_int.f k l0 a1) (slices_Index_int_int.F l0 a1) := Co.base (fun k => slices_Index_int_int.mono _ _ k)
theorem slices_Index_int_int.L0_eq (x0 : List Int) (x1 : Int) (x7 : Int) (x8 : Int) : slices_Index_int_int.L0 x0 x1 x7 x8 = (if x8 < x7 then (if 0 ≤ x8 then (if x8 < (x0.length : Int) then (if x1 = (rd x0 x8) then (some x8) else (slices_Index_int_int.L0 x0 x1 x7 (wrap64 (x8 + 1)))) else (none)) else (none)) else (some (-1))) := by
  refine Co.step (slices_Index_int_int.L0_co x0 x1 x7 x8) (h := fun k => (if x8 < x7 then (if 0 ≤ x8 then (if x8 < (x0.length : Int) then (if x1 = (rd x0 x8) then (some x8) else (slices_Index_int_int.l0 k x0 x1 x7 (wrap64 (x8 + 1)))) else (none)) else (none)) else (some (-1)))) (fun k => by first | rfl | (simp only [slices_Index_int_int.l0])) ?_
  repeat' first
    | (with_reducible exact Co.const _)
    | (with_reducible exact slices_Index_int_int.L0_co _ _ _ _)
    | (with_reducible refine Co.ite ?_ ?_)
    | (with_reducible refine Co.bind ?_ (fun _ => ?_))
theorem slices_Index_int_int.F_eq (l0 : List Int) (a1 : Int) : slices_Index_int_int.F l0 a1 = (slices_Index_int_int.L0 l0 a1 (l0.length : Int) 0) := by
  refine Co.same (slices_Index_int_int.F_co l0 a1) (h := fun k => (slices_Index_int_int.l0 k l0 a1 (l0.length : Int) 0)) (fun k => by first | rfl | unfold slices_Index_int_int.f; rfl) ?_
  repeat' first
    | (with_reducible exact Co.const _)
    | (with_reducible exact slices_Index_int_int.L0_co _ _ _ _)
    | (with_reducible refine Co.ite ?_ ?_)
    | (with_reducible refine Co.bind ?_ (fun _ => ?_))

noncomputable def slices_Contains_int_int.F (l0 : List Int) (a1 : Int) : Option (Bool) := lim (fun k => slices_Contains_int_int.f k l0 a1)
theorem slices_Contains_int_int.F_co (l0 : List Int) (a1 : Int) : Co (fun k => slices_Contains_int_int.f k l0 a1) (slices_Contains_int_int.F l0 a1) := Co.base (fun k => slices_Contains_int_int.mono _ _ k)
theorem slices_Contains_int_int.F_eq (l0 : List Int) (a1 : Int) : slices_Contains_int_int.F l0 a1 = ((slices_Index_int_int.F l0 a1).bind fun t199 => (some (decide (t199 ≥ 0)))) := by
  refine Co.same (slices_Contains_int_int.F_co l0 a1) (h := fun k => ((slices_Index_int_int.f k l0 a1).bind fun t199 => (some (decide (t199 ≥ 0))))) (fun k => by first | rfl | unfold slices_Contains_int_int.f; rfl) ?_
  repeat' first
    | (with_reducible exact Co.const _)
    | (with_reducible exact slices_Index_int_int.F_co _ _)
    | (with_reducible refine Co.ite ?_ ?_)
    | (with_reducible refine Co.bind ?_ (fun _ => ?_))

noncomputable def impl_allows.F (l0 : List Int) (a1 : Int) : Option (Bool) := lim (fun k => impl_allows.f k l0 a1)
theorem impl_allows.F_co (l0 : List Int) (a1 : Int) : Co (fun k => impl_allows.f k l0 a1) (impl_allows.F l0 a1) := Co.base (fun k => impl_allows.mono _ _ k)
theorem impl_allows.F_eq (l0 : List Int) (a1 : Int) : impl_allows.F l0 a1 = (if (l0.length : Int) = 0 then (some true) else ((slices_Contains_int_int.F l0 a1).bind fun t200 => (some t200))) := by
  refine Co.same (impl_allows.F_co l0 a1) (h := fun k => (if (l0.length : Int) = 0 then (some true) else ((slices_Contains_int_int.f k l0 a1).bind fun t200 => (some t200)))) (fun k => by first | rfl | unfold impl_allows.f; rfl) ?_
  repeat' first
    | (with_reducible exact Co.const _)
    | (with_reducible exact slices_Contains_int_int.F_co _ _)
    | (with_reducible refine Co.ite ?_ ?_)
    | (with_reducible refine Co.bind ?_ (fun _ => ?_))

noncomputable def impl_WhyNot.J0 (x5 : Bool) (x202000 : Int) (x202001 : Int) (x202002 : List Int) (x202003 : Int) (x202004 : Int) (x202005 : List Int) (x202006 : Int) (x202007 : Int) (x203000 : Int) (x203001 : Int) (x203002 : Int) (x203003 : Int) (x203004 : Int) (x203005 : Int) (x203006 : Int) (x203007 : Int) : Option (ByteArray) := lim (fun k => impl_WhyNot.j0 k x5 x202000 x202001 x202002 x202003 x202004 x202005 x202006 x202007 x203000 x203001 x203002 x203003 x203004 x203005 x203006 x203007)
theorem impl_WhyNot.J0_co (x5 : Bool) (x202000 : Int) (x202001 : Int) (x202002 : List Int) (x202003 : Int) (x202004 : Int) (x202005 : List Int) (x202006 : Int) (x202007 : Int) (x203000 : Int) (x203001 : Int) (x203002 : Int) (x203003 : Int) (x203004 : Int) (x203005 : Int) (x203006 : Int) (x203007 : Int) : Co (fun k => impl_WhyNot.j0 k x5 x202000 x202001 x202002 x202003 x202004 x202005 x202006 x202007 x203000 x203001 x203002 x203003 x203004 x203005 x203006 x203007) (impl_WhyNot.J0 x5 x202000 x202001 x202002 x202003 x202004 x202005 x202006 x202007 x203000 x203001 x203002 x203003 x203004 x203005 x203006 x203007) := Co.base (fun k => (impl_WhyNot.mono_l k) _ _ _ _ _ _ _ _ _ _ _ _ _ _ _ _ _)
noncomputable def impl_WhyNot.F (a0_0 : Int) (a0_1 : Int) (l0_2 : List Int) (a0_3 : Int) (a0_4 : Int) (l0_5 : List Int) (a0_6 : Int) (a0_7 : Int) (a1_0 : Int) (a1_1 : Int) (a1_2 : Int) (a1_3 : Int) (a1_4 : Int) (a1_5 : Int) (a1_6 : Int) (a1_7 : Int) : Option (ByteArray) := lim (fun k => impl_WhyNot.f k a0_0 a0_1 l0_2 a0_3 a0_4 l0_5 a0_6 a0_7 a1_0 a1_1 a1_2 a1_3 a1_4 a1_5 a1_6 a1_7)
theorem impl_WhyNot.F_co (a0_0 : Int) (a0_1 : Int) (l0_2 : List Int) (a0_3 : Int) (a0_4 : Int) (l0_5 : List Int) (a0_6 : Int) (a0_7 : Int) (a1_0 : Int) (a1_1 : Int) (a1_2 : Int) (a1_3 : Int) (a1_4 : Int) (a1_5 : Int) (a1_6 : Int) (a1_7 : Int) : Co (fun k => impl_WhyNot.f k a0_0 a0_1 l0_2 a0_3 a0_4 l0_5 a0_6 a0_7 a1_0 a1_1 a1_2 a1_3 a1_4 a1_5 a1_6 a1_7) (impl_WhyNot.F a0_0 a0_1 l0_2 a0_3 a0_4 l0_5 a0_6 a0_7 a1_0 a1_1 a1_2 a1_3 a1_4 a1_5 a1_6 a1_7) := Co.base (fun k => impl_WhyNot.mono _ _ _ _ _ _ _ _ _ _ _ _ _ _ _ _ k)
theorem impl_WhyNot.J0_eq (x5 : Bool) (x202000 : Int) (x202001 : Int) (x202002 : List Int) (x202003 : Int) (x202004 : Int) (x202005 : List Int) (x202006 : Int) (x202007 : Int) (x203000 : Int) (x203001 : Int) (x203002 : Int) (x203003 : Int) (x203004 : Int) (x203005 : Int) (x203006 : Int) (x203007 : Int) : impl_WhyNot.J0 x5 x202000 x202001 x202002 x202003 x202004 x202005 x202006 x202007 x203000 x203001 x203002 x203003 x203004 x203005 x203006 x203007 = (if x5 = true then (some (⟨#[105, 110, 118, 97, 108, 105, 100]⟩ : ByteArray)) else (if x202001 = x203001 then ((impl_allows.F x202002 x203002).bind fun t205 => (if t205 = true then ((impl_InRange.f x203003 x202003 x202004).bind fun t206 => (if t206 = true then ((impl_allows.F x202005 x203005).bind fun t207 => (if t207 = true then (if x203006 < x202006 then (some (⟨#[116, 105, 109, 101]⟩ : ByteArray)) else (some (⟨#[]⟩ : ByteArray))) else (some (⟨#[112, 108, 97, 99, 101]⟩ : ByteArray)))) else (some (⟨#[115, 105, 122, 101]⟩ : ByteArray)))) else (some (⟨#[99, 111, 108, 111, 117, 114]⟩ : ByteArray)))) else (some (⟨#[107, 105, 110, 100]⟩ : ByteArray)))) := by
  refine Co.step (impl_WhyNot.J0_co x5 x202000 x202001 x202002 x202003 x202004 x202005 x202006 x202007 x203000 x203001 x203002 x203003 x203004 x203005 x203006 x203007) (h := fun k => (if x5 = true then (some (⟨#[105, 110, 118, 97, 108, 105, 100]⟩ : ByteArray)) else (if x202001 = x203001 then ((impl_allows.f k x202002 x203002).bind fun t205 => (if t205 = true then ((impl_InRange.f x203003 x202003 x202004).bind fun t206 => (if t206 = true then ((impl_allows.f k x202005 x203005).bind fun t207 => (if t207 = true then (if x203006 < x202006 then (some (⟨#[116, 105, 109, 101]⟩ : ByteArray)) else (some (⟨#[]⟩ : ByteArray))) else (some (⟨#[112, 108, 97, 99, 101]⟩ : ByteArray)))) else (some (⟨#[115, 105, 122, 101]⟩ : ByteArray)))) else (some (⟨#[99, 111, 108, 111, 117, 114]⟩ : ByteArray)))) else (some (⟨#[107, 105, 110, 100]⟩ : ByteArray))))) (fun k => by first | rfl | (simp only [impl_WhyNot.j0])) ?_
  repeat' first
    | (with_reducible exact Co.const _)
    | (with_reducible exact impl_allows.F_co _ _)
    | (with_reducible refine Co.ite ?_ ?_)
    | (with_reducible refine Co.bind ?_ (fun _ => ?_))
theorem impl_WhyNot.F_eq (a0_0 : Int) (a0_1 : Int) (l0_2 : List Int) (a0_3 : Int) (a0_4 : Int) (l0_5 : List Int) (a0_6 : Int) (a0_7 : Int) (a1_0 : Int) (a1_1 : Int) (a1_2 : Int) (a1_3 : Int) (a1_4 : Int) (a1_5 : Int) (a1_6 : Int) (a1_7 : Int) : impl_WhyNot.F a0_0 a0_1 l0_2 a0_3 a0_4 l0_5 a0_6 a0_7 a1_0 a1_1 a1_2 a1_3 a1_4 a1_5 a1_6 a1_7 = ((impl_IsReport.F a0_0 a0_1 l0_2 a0_3 a0_4 l0_5 a0_6 a0_7).bind fun t203 => (if t203 = true then ((impl_IsFind.f a1_0 a1_1 a1_2 a1_3 a1_4 a1_5 a1_6 a1_7).bind fun t204 => (impl_WhyNot.J0 (!t204) a0_0 a0_1 l0_2 a0_3 a0_4 l0_5 a0_6 a0_7 a1_0 a1_1 a1_2 a1_3 a1_4 a1_5 a1_6 a1_7)) else (impl_WhyNot.J0 true a0_0 a0_1 l0_2 a0_3 a0_4 l0_5 a0_6 a0_7 a1_0 a1_1 a1_2 a1_3 a1_4 a1_5 a1_6 a1_7))) := by
  refine Co.same (impl_WhyNot.F_co a0_0 a0_1 l0_2 a0_3 a0_4 l0_5 a0_6 a0_7 a1_0 a1_1 a1_2 a1_3 a1_4 a1_5 a1_6 a1_7) (h := fun k => ((impl_IsReport.f k a0_0 a0_1 l0_2 a0_3 a0_4 l0_5 a0_6 a0_7).bind fun t203 => (if t203 = true then ((impl_IsFind.f a1_0 a1_1 a1_2 a1_3 a1_4 a1_5 a1_6 a1_7).bind fun t204 => (impl_WhyNot.j0 k (!t204) a0_0 a0_1 l0_2 a0_3 a0_4 l0_5 a0_6 a0_7 a1_0 a1_1 a1_2 a1_3 a1_4 a1_5 a1_6 a1_7)) else (impl_WhyNot.j0 k true a0_0 a0_1 l0_2 a0_3 a0_4 l0_5 a0_6 a0_7 a1_0 a1_1 a1_2 a1_3 a1_4 a1_5 a1_6 a1_7)))) (fun k => by first | rfl | unfold impl_WhyNot.f; rfl) ?_
  repeat' first
    | (with_reducible exact Co.const _)
    | (with_reducible exact impl_IsReport.F_co _ _ _ _ _ _ _ _)
    | (with_reducible exact impl_WhyNot.J0_co _ _ _ _ _ _ _ _ _ _ _ _ _ _ _ _ _)
    | (with_reducible refine Co.ite ?_ ?_)
    | (with_reducible refine Co.bind ?_ (fun _ => ?_))

noncomputable def laws_FnExactWhyNot.F (a0_0 : Int) (a0_1 : Int) (l0_2 : List Int) (a0_3 : Int) (a0_4 : Int) (l0_5 : List Int) (a0_6 : Int) (a0_7 : Int) (a1_0 : Int) (a1_1 : Int) (a1_2 : Int) (a1_3 : Int) (a1_4 : Int) (a1_5 : Int) (a1_6 : Int) (a1_7 : Int) : Option (Bool) := lim (fun k => laws_FnExactWhyNot.f k a0_0 a0_1 l0_2 a0_3 a0_4 l0_5 a0_6 a0_7 a1_0 a1_1 a1_2 a1_3 a1_4 a1_5 a1_6 a1_7)
theorem laws_FnExactWhyNot.F_co (a0_0 : Int) (a0_1 : Int) (l0_2 : List Int) (a0_3 : Int) (a0_4 : Int) (l0_5 : List Int) (a0_6 : Int) (a0_7 : Int) (a1_0 : Int) (a1_1 : Int) (a1_2 : Int) (a1_3 : Int) (a1_4 : Int) (a1_5 : Int) (a1_6 : Int) (a1_7 : Int) : Co (fun k => laws_FnExactWhyNot.f k a0_0 a0_1 l0_2 a0_3 a0_4 l0_5 a0_6 a0_7 a1_0 a1_1 a1_2 a1_3 a1_4 a1_5 a1_6 a1_7) (laws_FnExactWhyNot.F a0_0 a0_1 l0_2 a0_3 a0_4 l0_5 a0_6 a0_7 a1_0 a1_1 a1_2 a1_3 a1_4 a1_5 a1_6 a1_7) := Co.base (fun k => laws_FnExactWhyNot.mono _ _ _ _ _ _ _ _ _ _ _ _ _ _ _ _ k)
theorem laws_FnExactWhyNot.F_eq (a0_0 : Int) (a0_1 : Int) (l0_2 : List Int) (a0_3 : Int) (a0_4 : Int) (l0_5 : List Int) (a0_6 : Int) (a0_7 : Int) (a1_0 : Int) (a1_1 : Int) (a1_2 : Int) (a1_3 : Int) (a1_4 : Int) (a1_5 : Int) (a1_6 : Int) (a1_7 : Int) : laws_FnExactWhyNot.F a0_0 a0_1 l0_2 a0_3 a0_4 l0_5 a0_6 a0_7 a1_0 a1_1 a1_2 a1_3 a1_4 a1_5 a1_6 a1_7 = ((laws_szReport.f a0_0 a0_1 l0_2 a0_3 a0_4 l0_5 a0_6 a0_7 1048576).bind fun t210 => (if t210 < 0 then (some true) else ((laws_toReport.F a0_0 a0_1 l0_2 a0_3 a0_4 l0_5 a0_6 a0_7).bind fun bt211 => ((laws_toFind.f a1_0 a1_1 a1_2 a1_3 a1_4 a1_5 a1_6 a1_7).bind fun bt223 => ((spec_WhyNot.F bt211.1 bt211.2.1 bt211.2.2.1 bt211.2.2.2.1 bt211.2.2.2.2.1 bt211.2.2.2.2.2.1 bt211.2.2.2.2.2.2.1 bt211.2.2.2.2.2.2.2 bt223.1 bt223.2.1 bt223.2.2.1 bt223.2.2.2.1 bt223.2.2.2.2.1 bt223.2.2.2.2.2.1 bt223.2.2.2.2.2.2.1 bt223.2.2.2.2.2.2.2).bind fun t231 => ((laws_toReport.F a0_0 a0_1 l0_2 a0_3 a0_4 l0_5 a0_6 a0_7).bind fun bt232 => ((laws_toFind.f a1_0 a1_1 a1_2 a1_3 a1_4 a1_5 a1_6 a1_7).bind fun bt245 => ((impl_WhyNot.F bt232.1 bt232.2.1 bt232.2.2.1 bt232.2.2.2.1 bt232.2.2.2.2.1 bt232.2.2.2.2.2.1 bt232.2.2.2.2.2.2.1 bt232.2.2.2.2.2.2.2 bt245.1 bt245.2.1 bt245.2.2.1 bt245.2.2.2.1 bt245.2.2.2.2.1 bt245.2.2.2.2.2.1 bt245.2.2.2.2.2.2.1 bt245.2.2.2.2.2.2.2).bind fun t253 => (if t253.toList = t231.toList then ((laws_toReport.F a0_0 a0_1 l0_2 a0_3 a0_4 l0_5 a0_6 a0_7).bind fun bt254 => ((laws_eqReport.F bt232.1 bt232.2.1 bt232.2.2.1 bt232.2.2.2.1 bt232.2.2.2.2.1 bt232.2.2.2.2.2.1 bt232.2.2.2.2.2.2.1 bt232.2.2.2.2.2.2.2 bt254.1 bt254.2.1 bt254.2.2.1 bt254.2.2.2.1 bt254.2.2.2.2.1 bt254.2.2.2.2.2.1 bt254.2.2.2.2.2.2.1 bt254.2.2.2.2.2.2.2).bind fun t266 => (if t266 = true then (some true) else (some false)))) else (some false)))))))))) := by
  refine Co.same (laws_FnExactWhyNot.F_co a0_0 a0_1 l0_2 a0_3 a0_4 l0_5 a0_6 a0_7 a1_0 a1_1 a1_2 a1_3 a1_4 a1_5 a1_6 a1_7) (h := fun k => ((laws_szReport.f a0_0 a0_1 l0_2 a0_3 a0_4 l0_5 a0_6 a0_7 1048576).bind fun t210 => (if t210 < 0 then (some true) else ((laws_toReport.f k a0_0 a0_1 l0_2 a0_3 a0_4 l0_5 a0_6 a0_7).bind fun bt211 => ((laws_toFind.f a1_0 a1_1 a1_2 a1_3 a1_4 a1_5 a1_6 a1_7).bind fun bt223 => ((spec_WhyNot.f k bt211.1 bt211.2.1 bt211.2.2.1 bt211.2.2.2.1 bt211.2.2.2.2.1 bt211.2.2.2.2.2.1 bt211.2.2.2.2.2.2.1 bt211.2.2.2.2.2.2.2 bt223.1 bt223.2.1 bt223.2.2.1 bt223.2.2.2.1 bt223.2.2.2.2.1 bt223.2.2.2.2.2.1 bt223.2.2.2.2.2.2.1 bt223.2.2.2.2.2.2.2).bind fun t231 => ((laws_toReport.f k a0_0 a0_1 l0_2 a0_3 a0_4 l0_5 a0_6 a0_7).bind fun bt232 => ((laws_toFind.f a1_0 a1_1 a1_2 a1_3 a1_4 a1_5 a1_6 a1_7).bind fun bt245 => ((impl_WhyNot.f k bt232.1 bt232.2.1 bt232.2.2.1 bt232.2.2.2.1 bt232.2.2.2.2.1 bt232.2.2.2.2.2.1 bt232.2.2.2.2.2.2.1 bt232.2.2.2.2.2.2.2 bt245.1 bt245.2.1 bt245.2.2.1 bt245.2.2.2.1 bt245.2.2.2.2.1 bt245.2.2.2.2.2.1 bt245.2.2.2.2.2.2.1 bt245.2.2.2.2.2.2.2).bind fun t253 => (if t253.toList = t231.toList then ((laws_toReport.f k a0_0 a0_1 l0_2 a0_3 a0_4 l0_5 a0_6 a0_7).bind fun bt254 => ((laws_eqReport.f k bt232.1 bt232.2.1 bt232.2.2.1 bt232.2.2.2.1 bt232.2.2.2.2.1 bt232.2.2.2.2.2.1 bt232.2.2.2.2.2.2.1 bt232.2.2.2.2.2.2.2 bt254.1 bt254.2.1 bt254.2.2.1 bt254.2.2.2.1 bt254.2.2.2.2.1 bt254.2.2.2.2.2.1 bt254.2.2.2.2.2.2.1 bt254.2.2.2.2.2.2.2).bind fun t266 => (if t266 = true then (some true) else (some false)))) else (some false))))))))))) (fun k => by first | rfl | unfold laws_FnExactWhyNot.f; rfl) ?_
  repeat' first
    | (with_reducible exact Co.const _)
    | (with_reducible exact impl_WhyNot.F_co _ _ _ _ _ _ _ _ _ _ _ _ _ _ _ _)
    | (with_reducible exact laws_eqReport.F_co _ _ _ _ _ _ _ _ _ _ _ _ _ _ _ _)
    | (with_reducible exact laws_toReport.F_co _ _ _ _ _ _ _ _)
    | (with_reducible exact spec_WhyNot.F_co _ _ _ _ _ _ _ _ _ _ _ _ _ _ _ _)
    | (with_reducible refine Co.ite ?_ ?_)
    | (with_reducible refine Co.bind ?_ (fun _ => ?_))

end Go.Proofs.Ytbbfelgojaioaaa.PFnExactWhyNot.Pure
