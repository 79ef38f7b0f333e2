/-
  The printed functions that this law reaches, their rounds used up, and the equations that they meet.
-/
import Derived.Test.YtppgealmedaihaaPFnExactBestOfx1
import Derived.Test.YtppgealmedaihaaPFnExactBestOfx10
import Derived.Test.YtppgealmedaihaaPFnExactBestOfx11
import Derived.Test.YtppgealmedaihaaPFnExactBestOfx2
import Derived.Test.YtppgealmedaihaaPFnExactBestOfx3
import Derived.Test.YtppgealmedaihaaPFnExactBestOfx4
import Derived.Test.YtppgealmedaihaaPFnExactBestOfx5
import Derived.Test.YtppgealmedaihaaPFnExactBestOfx6
import Derived.Test.YtppgealmedaihaaPFnExactBestOfx7
import Derived.Test.YtppgealmedaihaaPFnExactBestOfx8
import Derived.Test.YtppgealmedaihaaPFnExactBestOfx9
import Derived.Test.YtppgealmedaihaaLim
namespace Go.Proofs.Ytppgealmedaihaa.PFnExactBestOf.Pure
open Go.RowKit Go.Proofs.YtppgealmedaihaaW.PrintWords Go.Proofs.YtppgealmedaihaaW.PrintLast Go.Proofs.YtppgealmedaihaaW.PrintMore Go.Proofs.Ytppgealmedaihaa.PFnExactBestOf Go.Proofs.Ytppgealmedaihaa.Lim
set_option linter.unusedVariables false
set_option maxRecDepth 100000

noncomputable def laws_toIntS.L0 (x0 : List Int) (x3 : List Int) (x4 : Int) : Option (List Int) := lim (fun k => laws_toIntS.l0 k x0 x3 x4)
theorem laws_toIntS.L0_co (x0 : List Int) (x3 : List Int) (x4 : Int) : Co (fun k => laws_toIntS.l0 k x0 x3 x4) (laws_toIntS.L0 x0 x3 x4) := Co.base (fun k => (laws_toIntS.mono_l k) _ _ _)
noncomputable def laws_toIntS.F (l0 : List Int) : Option (List Int) := lim (fun k => laws_toIntS.f k l0)
theorem laws_toIntS.F_co (l0 : List Int) : Co (fun k => laws_toIntS.f k l0) (laws_toIntS.F l0) := Co.base (fun k => laws_toIntS.mono _ k)
theorem laws_toIntS.L0_eq (x0 : List Int) (x3 : List Int) (x4 : Int) : laws_toIntS.L0 x0 x3 x4 = (if x4 < (x0.length : Int) then (if 0 ≤ x4 then (if x4 < (x3.length : Int) then (laws_toIntS.L0 x0 (x3.set (x4 : Int).toNat (rd x0 x4)) (wrap64 (x4 + 1))) else (none)) else (none)) else (some x3)) := by
  refine Co.step (laws_toIntS.L0_co x0 x3 x4) (h := fun k => (if x4 < (x0.length : Int) then (if 0 ≤ x4 then (if x4 < (x3.length : Int) then (laws_toIntS.l0 k x0 (x3.set (x4 : Int).toNat (rd x0 x4)) (wrap64 (x4 + 1))) else (none)) else (none)) else (some x3))) (fun k => by first | rfl | (simp only [laws_toIntS.l0])) ?_
  repeat' first
    | (with_reducible exact Co.const _)
    | (with_reducible exact laws_toIntS.L0_co _ _ _)
    | (with_reducible refine Co.ite ?_ ?_)
    | (with_reducible refine Co.bind ?_ (fun _ => ?_))
theorem laws_toIntS.F_eq (l0 : List Int) : laws_toIntS.F l0 = (if 0 ≤ (l0.length : Int) then (if ((l0.length : Int) : Int).toNat ≤ 35184372088832 then (laws_toIntS.L0 l0 (List.replicate ((l0.length : Int) : Int).toNat 0) 0) else (none)) else (none)) := by
  refine Co.same (laws_toIntS.F_co l0) (h := fun k => (if 0 ≤ (l0.length : Int) then (if ((l0.length : Int) : Int).toNat ≤ 35184372088832 then (laws_toIntS.l0 k l0 (List.replicate ((l0.length : Int) : Int).toNat 0) 0) else (none)) else (none))) (fun k => by first | rfl | unfold laws_toIntS.f; rfl) ?_
  repeat' first
    | (with_reducible exact Co.const _)
    | (with_reducible exact laws_toIntS.L0_co _ _ _)
    | (with_reducible refine Co.ite ?_ ?_)
    | (with_reducible refine Co.bind ?_ (fun _ => ?_))

noncomputable def laws_toReport.F (a0_0 : Int) (a0_1 : Int) (l0_2 : List Int) (a0_3 : Int) (a0_4 : Int) (l0_5 : List Int) (a0_6 : Int) (a0_7 : Int) : Option (Int × Int × List Int × Int × Int × List Int × Int × Int) := lim (fun k => laws_toReport.f k a0_0 a0_1 l0_2 a0_3 a0_4 l0_5 a0_6 a0_7)
theorem laws_toReport.F_co (a0_0 : Int) (a0_1 : Int) (l0_2 : List Int) (a0_3 : Int) (a0_4 : Int) (l0_5 : List Int) (a0_6 : Int) (a0_7 : Int) : Co (fun k => laws_toReport.f k a0_0 a0_1 l0_2 a0_3 a0_4 l0_5 a0_6 a0_7) (laws_toReport.F a0_0 a0_1 l0_2 a0_3 a0_4 l0_5 a0_6 a0_7) := Co.base (fun k => laws_toReport.mono _ _ _ _ _ _ _ _ k)
theorem laws_toReport.F_eq (a0_0 : Int) (a0_1 : Int) (l0_2 : List Int) (a0_3 : Int) (a0_4 : Int) (l0_5 : List Int) (a0_6 : Int) (a0_7 : Int) : laws_toReport.F a0_0 a0_1 l0_2 a0_3 a0_4 l0_5 a0_6 a0_7 = ((laws_toIntS.F l0_2).bind fun t115 => ((laws_toIntS.F l0_5).bind fun t118 => ((laws_toSpan.f a0_6 a0_7).bind fun bt121 => (some (a0_0, a0_1, t115, a0_3, a0_4, t118, bt121.1, bt121.2))))) := by
  refine Co.same (laws_toReport.F_co a0_0 a0_1 l0_2 a0_3 a0_4 l0_5 a0_6 a0_7) (h := fun k => ((laws_toIntS.f k l0_2).bind fun t115 => ((laws_toIntS.f k l0_5).bind fun t118 => ((laws_toSpan.f a0_6 a0_7).bind fun bt121 => (some (a0_0, a0_1, t115, a0_3, a0_4, t118, bt121.1, bt121.2)))))) (fun k => by first | rfl | unfold laws_toReport.f; rfl) ?_
  repeat' first
    | (with_reducible exact Co.const _)
    | (with_reducible exact laws_toIntS.F_co _)
    | (with_reducible refine Co.ite ?_ ?_)
    | (with_reducible refine Co.bind ?_ (fun _ => ?_))

noncomputable def laws_eqIntS.L0 (x0 : List Int) (x1 : List Int) (x5 : Int) : Option (Bool) := lim (fun k => laws_eqIntS.l0 k x0 x1 x5)
theorem laws_eqIntS.L0_co (x0 : List Int) (x1 : List Int) (x5 : Int) : Co (fun k => laws_eqIntS.l0 k x0 x1 x5) (laws_eqIntS.L0 x0 x1 x5) := Co.base (fun k => (laws_eqIntS.mono_l k) _ _ _)
noncomputable def laws_eqIntS.F (l0 : List Int) (l1 : List Int) : Option (Bool) := lim (fun k => laws_eqIntS.f k l0 l1)
theorem laws_eqIntS.F_co (l0 : List Int) (l1 : List Int) : Co (fun k => laws_eqIntS.f k l0 l1) (laws_eqIntS.F l0 l1) := Co.base (fun k => laws_eqIntS.mono _ _ k)
theorem laws_eqIntS.L0_eq (x0 : List Int) (x1 : List Int) (x5 : Int) : laws_eqIntS.L0 x0 x1 x5 = (if x5 < (x0.length : Int) then (if 0 ≤ x5 then (if x5 < (x1.length : Int) then (if (rd x0 x5) = (rd x1 x5) then (laws_eqIntS.L0 x0 x1 (wrap64 (x5 + 1))) else (some false)) else (none)) else (none)) else (some true)) := by
  refine Co.step (laws_eqIntS.L0_co x0 x1 x5) (h := fun k => (if x5 < (x0.length : Int) then (if 0 ≤ x5 then (if x5 < (x1.length : Int) then (if (rd x0 x5) = (rd x1 x5) then (laws_eqIntS.l0 k x0 x1 (wrap64 (x5 + 1))) else (some false)) else (none)) else (none)) else (some true))) (fun k => by first | rfl | (simp only [laws_eqIntS.l0])) ?_
  repeat' first
    | (with_reducible exact Co.const _)
    | (with_reducible exact laws_eqIntS.L0_co _ _ _)
    | (with_reducible refine Co.ite ?_ ?_)
    | (with_reducible refine Co.bind ?_ (fun _ => ?_))
theorem laws_eqIntS.F_eq (l0 : List Int) (l1 : List Int) : laws_eqIntS.F l0 l1 = (if (l0.length : Int) = (l1.length : Int) then (laws_eqIntS.L0 l0 l1 0) else (some false)) := by
  refine Co.same (laws_eqIntS.F_co l0 l1) (h := fun k => (if (l0.length : Int) = (l1.length : Int) then (laws_eqIntS.l0 k l0 l1 0) else (some false))) (fun k => by first | rfl | unfold laws_eqIntS.f; rfl) ?_
  repeat' first
    | (with_reducible exact Co.const _)
    | (with_reducible exact laws_eqIntS.L0_co _ _ _)
    | (with_reducible refine Co.ite ?_ ?_)
    | (with_reducible refine Co.bind ?_ (fun _ => ?_))

noncomputable def laws_eqReport.F (a0_0 : Int) (a0_1 : Int) (l0_2 : List Int) (a0_3 : Int) (a0_4 : Int) (l0_5 : List Int) (a0_6 : Int) (a0_7 : Int) (a1_0 : Int) (a1_1 : Int) (l1_2 : List Int) (a1_3 : Int) (a1_4 : Int) (l1_5 : List Int) (a1_6 : Int) (a1_7 : Int) : Option (Bool) := lim (fun k => laws_eqReport.f k a0_0 a0_1 l0_2 a0_3 a0_4 l0_5 a0_6 a0_7 a1_0 a1_1 l1_2 a1_3 a1_4 l1_5 a1_6 a1_7)
theorem laws_eqReport.F_co (a0_0 : Int) (a0_1 : Int) (l0_2 : List Int) (a0_3 : Int) (a0_4 : Int) (l0_5 : List Int) (a0_6 : Int) (a0_7 : Int) (a1_0 : Int) (a1_1 : Int) (l1_2 : List Int) (a1_3 : Int) (a1_4 : Int) (l1_5 : List Int) (a1_6 : Int) (a1_7 : Int) : Co (fun k => laws_eqReport.f k a0_0 a0_1 l0_2 a0_3 a0_4 l0_5 a0_6 a0_7 a1_0 a1_1 l1_2 a1_3 a1_4 l1_5 a1_6 a1_7) (laws_eqReport.F a0_0 a0_1 l0_2 a0_3 a0_4 l0_5 a0_6 a0_7 a1_0 a1_1 l1_2 a1_3 a1_4 l1_5 a1_6 a1_7) := Co.base (fun k => laws_eqReport.mono _ _ _ _ _ _ _ _ _ _ _ _ _ _ _ _ k)
theorem laws_eqReport.F_eq (a0_0 : Int) (a0_1 : Int) (l0_2 : List Int) (a0_3 : Int) (a0_4 : Int) (l0_5 : List Int) (a0_6 : Int) (a0_7 : Int) (a1_0 : Int) (a1_1 : Int) (l1_2 : List Int) (a1_3 : Int) (a1_4 : Int) (l1_5 : List Int) (a1_6 : Int) (a1_7 : Int) : laws_eqReport.F a0_0 a0_1 l0_2 a0_3 a0_4 l0_5 a0_6 a0_7 a1_0 a1_1 l1_2 a1_3 a1_4 l1_5 a1_6 a1_7 = (if a0_0 = a1_0 then (if a0_1 = a1_1 then ((laws_eqIntS.F l0_2 l1_2).bind fun t129 => (if t129 = true then (if a0_3 = a1_3 then (if a0_4 = a1_4 then ((laws_eqIntS.F l0_5 l1_5).bind fun t130 => (if t130 = true then ((laws_eqSpan.f a0_6 a0_7 a1_6 a1_7).bind fun t131 => (if t131 = true then (some true) else (some false))) else (some false))) else (some false)) else (some false)) else (some false))) else (some false)) else (some false)) := by
  refine Co.same (laws_eqReport.F_co a0_0 a0_1 l0_2 a0_3 a0_4 l0_5 a0_6 a0_7 a1_0 a1_1 l1_2 a1_3 a1_4 l1_5 a1_6 a1_7) (h := fun k => (if a0_0 = a1_0 then (if a0_1 = a1_1 then ((laws_eqIntS.f k l0_2 l1_2).bind fun t129 => (if t129 = true then (if a0_3 = a1_3 then (if a0_4 = a1_4 then ((laws_eqIntS.f k l0_5 l1_5).bind fun t130 => (if t130 = true then ((laws_eqSpan.f a0_6 a0_7 a1_6 a1_7).bind fun t131 => (if t131 = true then (some true) else (some false))) else (some false))) else (some false)) else (some false)) else (some false))) else (some false)) else (some false))) (fun k => by first | rfl | unfold laws_eqReport.f; rfl) ?_
  repeat' first
    | (with_reducible exact Co.const _)
    | (with_reducible exact laws_eqIntS.F_co _ _)
    | (with_reducible refine Co.ite ?_ ?_)
    | (with_reducible refine Co.bind ?_ (fun _ => ?_))

noncomputable def spec_AreFinds.L0 (x0 : List (S98)) (x3 : Int) : Option (Bool) := lim (fun k => spec_AreFinds.l0 k x0 x3)
theorem spec_AreFinds.L0_co (x0 : List (S98)) (x3 : Int) : Co (fun k => spec_AreFinds.l0 k x0 x3) (spec_AreFinds.L0 x0 x3) := Co.base (fun k => (spec_AreFinds.mono_l k) _ _)
noncomputable def spec_AreFinds.F (l0 : List (S98)) : Option (Bool) := lim (fun k => spec_AreFinds.f k l0)
theorem spec_AreFinds.F_co (l0 : List (S98)) : Co (fun k => spec_AreFinds.f k l0) (spec_AreFinds.F l0) := Co.base (fun k => spec_AreFinds.mono _ k)
theorem spec_AreFinds.L0_eq (x0 : List (S98)) (x3 : Int) : spec_AreFinds.L0 x0 x3 = (if x3 < (x0.length : Int) then (if 0 ≤ x3 then ((spec_IsFind.f ((rd_T98 x0 x3).f0.f0) ((rd_T98 x0 x3).f0.f1) ((rd_T98 x0 x3).f0.f2) ((rd_T98 x0 x3).f0.f3) ((rd_T98 x0 x3).f0.f4) ((rd_T98 x0 x3).f1) ((rd_T98 x0 x3).f2) ((rd_T98 x0 x3).f3)).bind fun t144 => (if t144 = true then (if x3 > 0 then (if 0 ≤ (wrap64 (x3 - 1)) then (if (wrap64 (x3 - 1)) < (x0.length : Int) then (if ((rd_T98 x0 (wrap64 (x3 - 1))).f0.f0) ≥ ((rd_T98 x0 x3).f0.f0) then (some false) else (spec_AreFinds.L0 x0 (wrap64 (x3 + 1)))) else (none)) else (none)) else (spec_AreFinds.L0 x0 (wrap64 (x3 + 1)))) else (some false))) else (none)) else (some (decide ((x0.length : Int) ≤ 20)))) := by
  refine Co.step (spec_AreFinds.L0_co x0 x3) (h := fun k => (if x3 < (x0.length : Int) then (if 0 ≤ x3 then ((spec_IsFind.f ((rd_T98 x0 x3).f0.f0) ((rd_T98 x0 x3).f0.f1) ((rd_T98 x0 x3).f0.f2) ((rd_T98 x0 x3).f0.f3) ((rd_T98 x0 x3).f0.f4) ((rd_T98 x0 x3).f1) ((rd_T98 x0 x3).f2) ((rd_T98 x0 x3).f3)).bind fun t144 => (if t144 = true then (if x3 > 0 then (if 0 ≤ (wrap64 (x3 - 1)) then (if (wrap64 (x3 - 1)) < (x0.length : Int) then (if ((rd_T98 x0 (wrap64 (x3 - 1))).f0.f0) ≥ ((rd_T98 x0 x3).f0.f0) then (some false) else (spec_AreFinds.l0 k x0 (wrap64 (x3 + 1)))) else (none)) else (none)) else (spec_AreFinds.l0 k x0 (wrap64 (x3 + 1)))) else (some false))) else (none)) else (some (decide ((x0.length : Int) ≤ 20))))) (fun k => by first | rfl | (simp only [spec_AreFinds.l0])) ?_
  repeat' first
    | (with_reducible exact Co.const _)
    | (with_reducible exact spec_AreFinds.L0_co _ _)
    | (with_reducible refine Co.ite ?_ ?_)
    | (with_reducible refine Co.bind ?_ (fun _ => ?_))
theorem spec_AreFinds.F_eq (l0 : List (S98)) : spec_AreFinds.F l0 = (spec_AreFinds.L0 l0 0) := by
  refine Co.same (spec_AreFinds.F_co l0) (h := fun k => (spec_AreFinds.l0 k l0 0)) (fun k => by first | rfl | unfold spec_AreFinds.f; rfl) ?_
  repeat' first
    | (with_reducible exact Co.const _)
    | (with_reducible exact spec_AreFinds.L0_co _ _)
    | (with_reducible refine Co.ite ?_ ?_)
    | (with_reducible refine Co.bind ?_ (fun _ => ?_))

noncomputable def spec_l7Ids.L0 (x0 : List Int) (x1 : Int) (x2 : Int) (x7 : Int) : Option (Bool) := lim (fun k => spec_l7Ids.l0 k x0 x1 x2 x7)
theorem spec_l7Ids.L0_co (x0 : List Int) (x1 : Int) (x2 : Int) (x7 : Int) : Co (fun k => spec_l7Ids.l0 k x0 x1 x2 x7) (spec_l7Ids.L0 x0 x1 x2 x7) := Co.base (fun k => (spec_l7Ids.mono_l k) _ _ _ _)
noncomputable def spec_l7Ids.F (l0 : List Int) (a1 : Int) (a2 : Int) : Option (Bool) := lim (fun k => spec_l7Ids.f k l0 a1 a2)
theorem spec_l7Ids.F_co (l0 : List Int) (a1 : Int) (a2 : Int) : Co (fun k => spec_l7Ids.f k l0 a1 a2) (spec_l7Ids.F l0 a1 a2) := Co.base (fun k => spec_l7Ids.mono _ _ _ k)
theorem spec_l7Ids.L0_eq (x0 : List Int) (x1 : Int) (x2 : Int) (x7 : Int) : spec_l7Ids.L0 x0 x1 x2 x7 = (if x7 < (x0.length : Int) then (if 0 ≤ x7 then ((spec_l1In.f (rd x0 x7) x1 x2).bind fun t148 => (if t148 = true then (if x7 > 0 then (if 0 ≤ (wrap64 (x7 - 1)) then (if (wrap64 (x7 - 1)) < (x0.length : Int) then (if (rd x0 (wrap64 (x7 - 1))) ≥ (rd x0 x7) then (some false) else (spec_l7Ids.L0 x0 x1 x2 (wrap64 (x7 + 1)))) else (none)) else (none)) else (spec_l7Ids.L0 x0 x1 x2 (wrap64 (x7 + 1)))) else (some false))) else (none)) else (some true)) := by
  refine Co.step (spec_l7Ids.L0_co x0 x1 x2 x7) (h := fun k => (if x7 < (x0.length : Int) then (if 0 ≤ x7 then ((spec_l1In.f (rd x0 x7) x1 x2).bind fun t148 => (if t148 = true then (if x7 > 0 then (if 0 ≤ (wrap64 (x7 - 1)) then (if (wrap64 (x7 - 1)) < (x0.length : Int) then (if (rd x0 (wrap64 (x7 - 1))) ≥ (rd x0 x7) then (some false) else (spec_l7Ids.l0 k x0 x1 x2 (wrap64 (x7 + 1)))) else (none)) else (none)) else (spec_l7Ids.l0 k x0 x1 x2 (wrap64 (x7 + 1)))) else (some false))) else (none)) else (some true))) (fun k => by first | rfl | (simp only [spec_l7Ids.l0])) ?_
  repeat' first
    | (with_reducible exact Co.const _)
    | (with_reducible exact spec_l7Ids.L0_co _ _ _ _)
    | (with_reducible refine Co.ite ?_ ?_)
    | (with_reducible refine Co.bind ?_ (fun _ => ?_))
theorem spec_l7Ids.F_eq (l0 : List Int) (a1 : Int) (a2 : Int) : spec_l7Ids.F l0 a1 a2 = (spec_l7Ids.L0 l0 a1 a2 0) := by
  refine Co.same (spec_l7Ids.F_co l0 a1 a2) (h := fun k => (spec_l7Ids.l0 k l0 a1 a2 0)) (fun k => by first | rfl | unfold spec_l7Ids.f; rfl) ?_
  repeat' first
    | (with_reducible exact Co.const _)
    | (with_reducible exact spec_l7Ids.L0_co _ _ _ _)
    | (with_reducible refine Co.ite ?_ ?_)
    | (with_reducible refine Co.bind ?_ (fun _ => ?_))

noncomputable def spec_IsReport.F (a0_0 : Int) (a0_1 : Int) (l0_2 : List Int) (a0_3 : Int) (a0_4 : Int) (l0_5 : List Int) (a0_6 : Int) (a0_7 : Int) : Option (Bool) := lim (fun k => spec_IsReport.f k a0_0 a0_1 l0_2 a0_3 a0_4 l0_5 a0_6 a0_7)
theorem spec_IsReport.F_co (a0_0 : Int) (a0_1 : Int) (l0_2 : List Int) (a0_3 : Int) (a0_4 : Int) (l0_5 : List Int) (a0_6 : Int) (a0_7 : Int) : Co (fun k => spec_IsReport.f k a0_0 a0_1 l0_2 a0_3 a0_4 l0_5 a0_6 a0_7) (spec_IsReport.F a0_0 a0_1 l0_2 a0_3 a0_4 l0_5 a0_6 a0_7) := Co.base (fun k => spec_IsReport.mono _ _ _ _ _ _ _ _ k)
theorem spec_IsReport.F_eq (a0_0 : Int) (a0_1 : Int) (l0_2 : List Int) (a0_3 : Int) (a0_4 : Int) (l0_5 : List Int) (a0_6 : Int) (a0_7 : Int) : spec_IsReport.F a0_0 a0_1 l0_2 a0_3 a0_4 l0_5 a0_6 a0_7 = ((spec_l1In.f a0_0 1 999).bind fun t155 => (if t155 = true then ((spec_l1In.f a0_1 1 8).bind fun t156 => (if t156 = true then ((spec_l7Ids.F l0_2 0 7).bind fun t157 => (if t157 = true then (if a0_3 ≥ 1 then (if a0_3 ≤ a0_4 then (if a0_4 ≤ 50 then ((spec_l7Ids.F l0_5 1 30).bind fun t158 => (if t158 = true then (if (l0_5.length : Int) ≤ 10 then ((spec_IsSpan.f a0_6 a0_7).bind fun t159 => (some t159)) else (some false)) else (some false))) else (some false)) else (some false)) else (some false)) else (some false))) else (some false))) else (some false))) := by
  refine Co.same (spec_IsReport.F_co a0_0 a0_1 l0_2 a0_3 a0_4 l0_5 a0_6 a0_7) (h := fun k => ((spec_l1In.f a0_0 1 999).bind fun t155 => (if t155 = true then ((spec_l1In.f a0_1 1 8).bind fun t156 => (if t156 = true then ((spec_l7Ids.f k l0_2 0 7).bind fun t157 => (if t157 = true then (if a0_3 ≥ 1 then (if a0_3 ≤ a0_4 then (if a0_4 ≤ 50 then ((spec_l7Ids.f k l0_5 1 30).bind fun t158 => (if t158 = true then (if (l0_5.length : Int) ≤ 10 then ((spec_IsSpan.f a0_6 a0_7).bind fun t159 => (some t159)) else (some false)) else (some false))) else (some false)) else (some false)) else (some false)) else (some false))) else (some false))) else (some false)))) (fun k => by first | rfl | unfold spec_IsReport.f; rfl) ?_
  repeat' first
    | (with_reducible exact Co.const _)
    | (with_reducible exact spec_l7Ids.F_co _ _ _)
    | (with_reducible refine Co.ite ?_ ?_)
    | (with_reducible refine Co.bind ?_ (fun _ => ?_))

noncomputable def spec_l8Has.L0 (x0 : List Int) (x1 : Int) (x5 : Int) : Option (Bool) := lim (fun k => spec_l8Has.l0 k x0 x1 x5)
theorem spec_l8Has.L0_co (x0 : List Int) (x1 : Int) (x5 : Int) : Co (fun k => spec_l8Has.l0 k x0 x1 x5) (spec_l8Has.L0 x0 x1 x5) := Co.base (fun k => (spec_l8Has.mono_l k) _ _ _)
noncomputable def spec_l8Has.F (l0 : List Int) (a1 : Int) : Option (Bool) := lim (fun k => spec_l8Has.f k l0 a1)
theorem spec_l8Has.F_co (l0 : List Int) (a1 : Int) : Co (fun k => spec_l8Has.f k l0 a1) (spec_l8Has.F l0 a1) := Co.base (fun k => spec_l8Has.mono _ _ k)
theorem spec_l8Has.L0_eq (x0 : List Int) (x1 : Int) (x5 : Int) : spec_l8Has.L0 x0 x1 x5 = (if x5 < (x0.length : Int) then (if 0 ≤ x5 then (if (rd x0 x5) = x1 then (some true) else (spec_l8Has.L0 x0 x1 (wrap64 (x5 + 1)))) else (none)) else (some false)) := by
  refine Co.step (spec_l8Has.L0_co x0 x1 x5) (h := fun k => (if x5 < (x0.length : Int) then (if 0 ≤ x5 then (if (rd x0 x5) = x1 then (some true) else (spec_l8Has.l0 k x0 x1 (wrap64 (x5 + 1)))) else (none)) else (some false))) (fun k => by first | rfl | (simp only [spec_l8Has.l0])) ?_
  repeat' first
    | (with_reducible exact Co.const _)
    | (with_reducible exact spec_l8Has.L0_co _ _ _)
    | (with_reducible refine Co.ite ?_ ?_)
    | (with_reducible refine Co.bind ?_ (fun _ => ?_))
theorem spec_l8Has.F_eq (l0 : List Int) (a1 : Int) : spec_l8Has.F l0 a1 = (spec_l8Has.L0 l0 a1 0) := by
  refine Co.same (spec_l8Has.F_co l0 a1) (h := fun k => (spec_l8Has.l0 k l0 a1 0)) (fun k => by first | rfl | unfold spec_l8Has.f; rfl) ?_
  repeat' first
    | (with_reducible exact Co.const _)
    | (with_reducible exact spec_l8Has.L0_co _ _ _)
    | (with_reducible refine Co.ite ?_ ?_)
    | (with_reducible refine Co.bind ?_ (fun _ => ?_))

noncomputable def spec_WhyNot.J0 (x5 : Bool) (x162000 : Int) (x162001 : Int) (x162002 : List Int) (x162003 : Int) (x162004 : Int) (x162005 : List Int) (x162006 : Int) (x162007 : Int) (x163000 : Int) (x163001 : Int) (x163002 : Int) (x163003 : Int) (x163004 : Int) (x163005 : Int) (x163006 : Int) (x163007 : Int) : Option (ByteArray) := lim (fun k => spec_WhyNot.j0 k x5 x162000 x162001 x162002 x162003 x162004 x162005 x162006 x162007 x163000 x163001 x163002 x163003 x163004 x163005 x163006 x163007)
theorem spec_WhyNot.J0_co (x5 : Bool) (x162000 : Int) (x162001 : Int) (x162002 : List Int) (x162003 : Int) (x162004 : Int) (x162005 : List Int) (x162006 : Int) (x162007 : Int) (x163000 : Int) (x163001 : Int) (x163002 : Int) (x163003 : Int) (x163004 : Int) (x163005 : Int) (x163006 : Int) (x163007 : Int) : Co (fun k => spec_WhyNot.j0 k x5 x162000 x162001 x162002 x162003 x162004 x162005 x162006 x162007 x163000 x163001 x163002 x163003 x163004 x163005 x163006 x163007) (spec_WhyNot.J0 x5 x162000 x162001 x162002 x162003 x162004 x162005 x162006 x162007 x163000 x163001 x163002 x163003 x163004 x163005 x163006 x163007) := Co.base (fun k => (spec_WhyNot.mono_l k).1 _ _ _ _ _ _ _ _ _ _ _ _ _ _ _ _ _)
noncomputable def spec_WhyNot.J1 (x21 : Bool) (x162000 : Int) (x162001 : Int) (x162002 : List Int) (x162003 : Int) (x162004 : Int) (x162005 : List Int) (x162006 : Int) (x162007 : Int) (x163000 : Int) (x163001 : Int) (x163002 : Int) (x163003 : Int) (x163004 : Int) (x163005 : Int) (x163006 : Int) (x163007 : Int) : Option (ByteArray) := lim (fun k => spec_WhyNot.j1 k x21 x162000 x162001 x162002 x162003 x162004 x162005 x162006 x162007 x163000 x163001 x163002 x163003 x163004 x163005 x163006 x163007)
theorem spec_WhyNot.J1_co (x21 : Bool) (x162000 : Int) (x162001 : Int) (x162002 : List Int) (x162003 : Int) (x162004 : Int) (x162005 : List Int) (x162006 : Int) (x162007 : Int) (x163000 : Int) (x163001 : Int) (x163002 : Int) (x163003 : Int) (x163004 : Int) (x163005 : Int) (x163006 : Int) (x163007 : Int) : Co (fun k => spec_WhyNot.j1 k x21 x162000 x162001 x162002 x162003 x162004 x162005 x162006 x162007 x163000 x163001 x163002 x163003 x163004 x163005 x163006 x163007) (spec_WhyNot.J1 x21 x162000 x162001 x162002 x162003 x162004 x162005 x162006 x162007 x163000 x163001 x163002 x163003 x163004 x163005 x163006 x163007) := Co.base (fun k => (spec_WhyNot.mono_l k).2.1 _ _ _ _ _ _ _ _ _ _ _ _ _ _ _ _ _)
noncomputable def spec_WhyNot.J2 (x45 : Bool) (x162000 : Int) (x162001 : Int) (x162002 : List Int) (x162003 : Int) (x162004 : Int) (x162005 : List Int) (x162006 : Int) (x162007 : Int) (x163000 : Int) (x163001 : Int) (x163002 : Int) (x163003 : Int) (x163004 : Int) (x163005 : Int) (x163006 : Int) (x163007 : Int) : Option (ByteArray) := lim (fun k => spec_WhyNot.j2 k x45 x162000 x162001 x162002 x162003 x162004 x162005 x162006 x162007 x163000 x163001 x163002 x163003 x163004 x163005 x163006 x163007)
theorem spec_WhyNot.J2_co (x45 : Bool) (x162000 : Int) (x162001 : Int) (x162002 : List Int) (x162003 : Int) (x162004 : Int) (x162005 : List Int) (x162006 : Int) (x162007 : Int) (x163000 : Int) (x163001 : Int) (x163002 : Int) (x163003 : Int) (x163004 : Int) (x163005 : Int) (x163006 : Int) (x163007 : Int) : Co (fun k => spec_WhyNot.j2 k x45 x162000 x162001 x162002 x162003 x162004 x162005 x162006 x162007 x163000 x163001 x163002 x163003 x163004 x163005 x163006 x163007) (spec_WhyNot.J2 x45 x162000 x162001 x162002 x162003 x162004 x162005 x162006 x162007 x163000 x163001 x163002 x163003 x163004 x163005 x163006 x163007) := Co.base (fun k => (spec_WhyNot.mono_l k).2.2 _ _ _ _ _ _ _ _ _ _ _ _ _ _ _ _ _)
noncomputable def spec_WhyNot.F (a0_0 : Int) (a0_1 : Int) (l0_2 : List Int) (a0_3 : Int) (a0_4 : Int) (l0_5 : List Int) (a0_6 : Int) (a0_7 : Int) (a1_0 : Int) (a1_1 : Int) (a1_2 : Int) (a1_3 : Int) (a1_4 : Int) (a1_5 : Int) (a1_6 : Int) (a1_7 : Int) : Option (ByteArray) := lim (fun k => spec_WhyNot.f k a0_0 a0_1 l0_2 a0_3 a0_4 l0_5 a0_6 a0_7 a1_0 a1_1 a1_2 a1_3 a1_4 a1_5 a1_6 a1_7)
theorem spec_WhyNot.F_co (a0_0 : Int) (a0_1 : Int) (l0_2 : List Int) (a0_3 : Int) (a0_4 : Int) (l0_5 : List Int) (a0_6 : Int) (a0_7 : Int) (a1_0 : Int) (a1_1 : Int) (a1_2 : Int) (a1_3 : Int) (a1_4 : Int) (a1_5 : Int) (a1_6 : Int) (a1_7 : Int) : Co (fun k => spec_WhyNot.f k a0_0 a0_1 l0_2 a0_3 a0_4 l0_5 a0_6 a0_7 a1_0 a1_1 a1_2 a1_3 a1_4 a1_5 a1_6 a1_7) (spec_WhyNot.F a0_0 a0_1 l0_2 a0_3 a0_4 l0_5 a0_6 a0_7 a1_0 a1_1 a1_2 a1_3 a1_4 a1_5 a1_6 a1_7) := Co.base (fun k => spec_WhyNot.mono _ _ _ _ _ _ _ _ _ _ _ _ _ _ _ _ k)
theorem spec_WhyNot.J0_eq (x5 : Bool) (x162000 : Int) (x162001 : Int) (x162002 : List Int) (x162003 : Int) (x162004 : Int) (x162005 : List Int) (x162006 : Int) (x162007 : Int) (x163000 : Int) (x163001 : Int) (x163002 : Int) (x163003 : Int) (x163004 : Int) (x163005 : Int) (x163006 : Int) (x163007 : Int) : spec_WhyNot.J0 x5 x162000 x162001 x162002 x162003 x162004 x162005 x162006 x162007 x163000 x163001 x163002 x163003 x163004 x163005 x163006 x163007 = (if x5 = true then (some (⟨#[105, 110, 118, 97, 108, 105, 100]⟩ : ByteArray)) else (if x162001 = x163001 then (if (x162002.length : Int) > 0 then ((spec_l8Has.F x162002 x163002).bind fun t165 => (spec_WhyNot.J1 (!t165) x162000 x162001 x162002 x162003 x162004 x162005 x162006 x162007 x163000 x163001 x163002 x163003 x163004 x163005 x163006 x163007)) else (spec_WhyNot.J1 false x162000 x162001 x162002 x162003 x162004 x162005 x162006 x162007 x163000 x163001 x163002 x163003 x163004 x163005 x163006 x163007)) else (some (⟨#[107, 105, 110, 100]⟩ : ByteArray)))) := by
  refine Co.step (spec_WhyNot.J0_co x5 x162000 x162001 x162002 x162003 x162004 x162005 x162006 x162007 x163000 x163001 x163002 x163003 x163004 x163005 x163006 x163007) (h := fun k => (if x5 = true then (some (⟨#[105, 110, 118, 97, 108, 105, 100]⟩ : ByteArray)) else (if x162001 = x163001 then (if (x162002.length : Int) > 0 then ((spec_l8Has.f k x162002 x163002).bind fun t165 => (spec_WhyNot.j1 k (!t165) x162000 x162001 x162002 x162003 x162004 x162005 x162006 x162007 x163000 x163001 x163002 x163003 x163004 x163005 x163006 x163007)) else (spec_WhyNot.j1 k false x162000 x162001 x162002 x162003 x162004 x162005 x162006 x162007 x163000 x163001 x163002 x163003 x163004 x163005 x163006 x163007)) else (some (⟨#[107, 105, 110, 100]⟩ : ByteArray))))) (fun k => by first | rfl | (simp only [spec_WhyNot.j0])) ?_
  repeat' first
    | (with_reducible exact Co.const _)
    | (with_reducible exact spec_WhyNot.J1_co _ _ _ _ _ _ _ _ _ _ _ _ _ _ _ _ _)
    | (with_reducible exact spec_l8Has.F_co _ _)
    | (with_reducible refine Co.ite ?_ ?_)
    | (with_reducible refine Co.bind ?_ (fun _ => ?_))
theorem spec_WhyNot.J1_eq (x21 : Bool) (x162000 : Int) (x162001 : Int) (x162002 : List Int) (x162003 : Int) (x162004 : Int) (x162005 : List Int) (x162006 : Int) (x162007 : Int) (x163000 : Int) (x163001 : Int) (x163002 : Int) (x163003 : Int) (x163004 : Int) (x163005 : Int) (x163006 : Int) (x163007 : Int) : spec_WhyNot.J1 x21 x162000 x162001 x162002 x162003 x162004 x162005 x162006 x162007 x163000 x163001 x163002 x163003 x163004 x163005 x163006 x163007 = (if x21 = true then (some (⟨#[99, 111, 108, 111, 117, 114]⟩ : ByteArray)) else ((spec_l1In.f x163003 x162003 x162004).bind fun t166 => (if t166 = true then (if (x162005.length : Int) > 0 then ((spec_l8Has.F x162005 x163005).bind fun t167 => (spec_WhyNot.J2 (!t167) x162000 x162001 x162002 x162003 x162004 x162005 x162006 x162007 x163000 x163001 x163002 x163003 x163004 x163005 x163006 x163007)) else (spec_WhyNot.J2 false x162000 x162001 x162002 x162003 x162004 x162005 x162006 x162007 x163000 x163001 x163002 x163003 x163004 x163005 x163006 x163007)) else (some (⟨#[115, 105, 122, 101]⟩ : ByteArray))))) := by
  refine Co.step (spec_WhyNot.J1_co x21 x162000 x162001 x162002 x162003 x162004 x162005 x162006 x162007 x163000 x163001 x163002 x163003 x163004 x163005 x163006 x163007) (h := fun k => (if x21 = true then (some (⟨#[99, 111, 108, 111, 117, 114]⟩ : ByteArray)) else ((spec_l1In.f x163003 x162003 x162004).bind fun t166 => (if t166 = true then (if (x162005.length : Int) > 0 then ((spec_l8Has.f k x162005 x163005).bind fun t167 => (spec_WhyNot.j2 k (!t167) x162000 x162001 x162002 x162003 x162004 x162005 x162006 x162007 x163000 x163001 x163002 x163003 x163004 x163005 x163006 x163007)) else (spec_WhyNot.j2 k false x162000 x162001 x162002 x162003 x162004 x162005 x162006 x162007 x163000 x163001 x163002 x163003 x163004 x163005 x163006 x163007)) else (some (⟨#[115, 105, 122, 101]⟩ : ByteArray)))))) (fun k => by first | rfl | (simp only [spec_WhyNot.j1])) ?_
  repeat' first
    | (with_reducible exact Co.const _)
    | (with_reducible exact spec_WhyNot.J2_co _ _ _ _ _ _ _ _ _ _ _ _ _ _ _ _ _)
    | (with_reducible exact spec_l8Has.F_co _ _)
    | (with_reducible refine Co.ite ?_ ?_)
    | (with_reducible refine Co.bind ?_ (fun _ => ?_))
theorem spec_WhyNot.J2_eq (x45 : Bool) (x162000 : Int) (x162001 : Int) (x162002 : List Int) (x162003 : Int) (x162004 : Int) (x162005 : List Int) (x162006 : Int) (x162007 : Int) (x163000 : Int) (x163001 : Int) (x163002 : Int) (x163003 : Int) (x163004 : Int) (x163005 : Int) (x163006 : Int) (x163007 : Int) : spec_WhyNot.J2 x45 x162000 x162001 x162002 x162003 x162004 x162005 x162006 x162007 x163000 x163001 x163002 x163003 x163004 x163005 x163006 x163007 = (if x45 = true then (some (⟨#[112, 108, 97, 99, 101]⟩ : ByteArray)) else (if x163006 < x162006 then (some (⟨#[116, 105, 109, 101]⟩ : ByteArray)) else (some (⟨#[]⟩ : ByteArray)))) := by
  refine Co.step (spec_WhyNot.J2_co x45 x162000 x162001 x162002 x162003 x162004 x162005 x162006 x162007 x163000 x163001 x163002 x163003 x163004 x163005 x163006 x163007) (h := fun k => (if x45 = true then (some (⟨#[112, 108, 97, 99, 101]⟩ : ByteArray)) else (if x163006 < x162006 then (some (⟨#[116, 105, 109, 101]⟩ : ByteArray)) else (some (⟨#[]⟩ : ByteArray))))) (fun k => by first | rfl | (simp only [spec_WhyNot.j2])) ?_
  repeat' first
    | (with_reducible exact Co.const _)
    | (with_reducible refine Co.ite ?_ ?_)
    | (with_reducible refine Co.bind ?_ (fun _ => ?_))
theorem spec_WhyNot.F_eq (a0_0 : Int) (a0_1 : Int) (l0_2 : List Int) (a0_3 : Int) (a0_4 : Int) (l0_5 : List Int) (a0_6 : Int) (a0_7 : Int) (a1_0 : Int) (a1_1 : Int) (a1_2 : Int) (a1_3 : Int) (a1_4 : Int) (a1_5 : Int) (a1_6 : Int) (a1_7 : Int) : spec_WhyNot.F a0_0 a0_1 l0_2 a0_3 a0_4 l0_5 a0_6 a0_7 a1_0 a1_1 a1_2 a1_3 a1_4 a1_5 a1_6 a1_7 = ((spec_IsReport.F a0_0 a0_1 l0_2 a0_3 a0_4 l0_5 a0_6 a0_7).bind fun t163 => (if t163 = true then ((spec_IsFind.f a1_0 a1_1 a1_2 a1_3 a1_4 a1_5 a1_6 a1_7).bind fun t164 => (spec_WhyNot.J0 (!t164) a0_0 a0_1 l0_2 a0_3 a0_4 l0_5 a0_6 a0_7 a1_0 a1_1 a1_2 a1_3 a1_4 a1_5 a1_6 a1_7)) else (spec_WhyNot.J0 true a0_0 a0_1 l0_2 a0_3 a0_4 l0_5 a0_6 a0_7 a1_0 a1_1 a1_2 a1_3 a1_4 a1_5 a1_6 a1_7))) := by
  refine Co.same (spec_WhyNot.F_co a0_0 a0_1 l0_2 a0_3 a0_4 l0_5 a0_6 a0_7 a1_0 a1_1 a1_2 a1_3 a1_4 a1_5 a1_6 a1_7) (h := fun k => ((spec_IsReport.f k a0_0 a0_1 l0_2 a0_3 a0_4 l0_5 a0_6 a0_7).bind fun t163 => (if t163 = true then ((spec_IsFind.f a1_0 a1_1 a1_2 a1_3 a1_4 a1_5 a1_6 a1_7).bind fun t164 => (spec_WhyNot.j0 k (!t164) a0_0 a0_1 l0_2 a0_3 a0_4 l0_5 a0_6 a0_7 a1_0 a1_1 a1_2 a1_3 a1_4 a1_5 a1_6 a1_7)) else (spec_WhyNot.j0 k true a0_0 a0_1 l0_2 a0_3 a0_4 l0_5 a0_6 a0_7 a1_0 a1_1 a1_2 a1_3 a1_4 a1_5 a1_6 a1_7)))) (fun k => by first | rfl | unfold spec_WhyNot.f; rfl) ?_
  repeat' first
    | (with_reducible exact Co.const _)
    | (with_reducible exact spec_IsReport.F_co _ _ _ _ _ _ _ _)
    | (with_reducible exact spec_WhyNot.J0_co _ _ _ _ _ _ _ _ _ _ _ _ _ _ _ _ _)
    | (with_reducible refine Co.ite ?_ ?_)
    | (with_reducible refine Co.bind ?_ (fun _ => ?_))

noncomputable def spec_CanBe.F (a0_0 : Int) (a0_1 : Int) (l0_2 : List Int) (a0_3 : Int) (a0_4 : Int) (l0_5 : List Int) (a0_6 : Int) (a0_7 : Int) (a1_0 : Int) (a1_1 : Int) (a1_2 : Int) (a1_3 : Int) (a1_4 : Int) (a1_5 : Int) (a1_6 : Int) (a1_7 : Int) : Option (Bool) := lim (fun k => spec_CanBe.f k a0_0 a0_1 l0_2 a0_3 a0_4 l0_5 a0_6 a0_7 a1_0 a1_1 a1_2 a1_3 a1_4 a1_5 a1_6 a1_7)
theorem spec_CanBe.F_co (a0_0 : Int) (a0_1 : Int) (l0_2 : List Int) (a0_3 : Int) (a0_4 : Int) (l0_5 : List Int) (a0_6 : Int) (a0_7 : Int) (a1_0 : Int) (a1_1 : Int) (a1_2 : Int) (a1_3 : Int) (a1_4 : Int) (a1_5 : Int) (a1_6 : Int) (a1_7 : Int) : Co (fun k => spec_CanBe.f k a0_0 a0_1 l0_2 a0_3 a0_4 l0_5 a0_6 a0_7 a1_0 a1_1 a1_2 a1_3 a1_4 a1_5 a1_6 a1_7) (spec_CanBe.F a0_0 a0_1 l0_2 a0_3 a0_4 l0_5 a0_6 a0_7 a1_0 a1_1 a1_2 a1_3 a1_4 a1_5 a1_6 a1_7) := Co.base (fun k => spec_CanBe.mono _ _ _ _ _ _ _ _ _ _ _ _ _ _ _ _ k)
theorem spec_CanBe.F_eq (a0_0 : Int) (a0_1 : Int) (l0_2 : List Int) (a0_3 : Int) (a0_4 : Int) (l0_5 : List Int) (a0_6 : Int) (a0_7 : Int) (a1_0 : Int) (a1_1 : Int) (a1_2 : Int) (a1_3 : Int) (a1_4 : Int) (a1_5 : Int) (a1_6 : Int) (a1_7 : Int) : spec_CanBe.F a0_0 a0_1 l0_2 a0_3 a0_4 l0_5 a0_6 a0_7 a1_0 a1_1 a1_2 a1_3 a1_4 a1_5 a1_6 a1_7 = ((spec_WhyNot.F a0_0 a0_1 l0_2 a0_3 a0_4 l0_5 a0_6 a0_7 a1_0 a1_1 a1_2 a1_3 a1_4 a1_5 a1_6 a1_7).bind fun t170 => (some (t170.toList == ([] : List UInt8)))) := by
  refine Co.same (spec_CanBe.F_co a0_0 a0_1 l0_2 a0_3 a0_4 l0_5 a0_6 a0_7 a1_0 a1_1 a1_2 a1_3 a1_4 a1_5 a1_6 a1_7) (h := fun k => ((spec_WhyNot.f k a0_0 a0_1 l0_2 a0_3 a0_4 l0_5 a0_6 a0_7 a1_0 a1_1 a1_2 a1_3 a1_4 a1_5 a1_6 a1_7).bind fun t170 => (some (t170.toList == ([] : List UInt8))))) (fun k => by first | rfl | unfold spec_CanBe.f; rfl) ?_
  repeat' first
    | (with_reducible exact Co.const _)
    | (with_reducible exact spec_WhyNot.F_co _ _ _ _ _ _ _ _ _ _ _ _ _ _ _ _)
    | (with_reducible refine Co.ite ?_ ?_)
    | (with_reducible refine Co.bind ?_ (fun _ => ?_))

noncomputable def spec_Score.F (a0_0 : Int) (a0_1 : Int) (l0_2 : List Int) (a0_3 : Int) (a0_4 : Int) (l0_5 : List Int) (a0_6 : Int) (a0_7 : Int) (a1_0 : Int) (a1_1 : Int) (a1_2 : Int) (a1_3 : Int) (a1_4 : Int) (a1_5 : Int) (a1_6 : Int) (a1_7 : Int) : Option (Int) := lim (fun k => spec_Score.f k a0_0 a0_1 l0_2 a0_3 a0_4 l0_5 a0_6 a0_7 a1_0 a1_1 a1_2 a1_3 a1_4 a1_5 a1_6 a1_7)
theorem spec_Score.F_co (a0_0 : Int) (a0_1 : Int) (l0_2 : List Int) (a0_3 : Int) (a0_4 : Int) (l0_5 : List Int) (a0_6 : Int) (a0_7 : Int) (a1_0 : Int) (a1_1 : Int) (a1_2 : Int) (a1_3 : Int) (a1_4 : Int) (a1_5 : Int) (a1_6 : Int) (a1_7 : Int) : Co (fun k => spec_Score.f k a0_0 a0_1 l0_2 a0_3 a0_4 l0_5 a0_6 a0_7 a1_0 a1_1 a1_2 a1_3 a1_4 a1_5 a1_6 a1_7) (spec_Score.F a0_0 a0_1 l0_2 a0_3 a0_4 l0_5 a0_6 a0_7 a1_0 a1_1 a1_2 a1_3 a1_4 a1_5 a1_6 a1_7) := Co.base (fun k => spec_Score.mono _ _ _ _ _ _ _ _ _ _ _ _ _ _ _ _ k)
theorem spec_Score.F_eq (a0_0 : Int) (a0_1 : Int) (l0_2 : List Int) (a0_3 : Int) (a0_4 : Int) (l0_5 : List Int) (a0_6 : Int) (a0_7 : Int) (a1_0 : Int) (a1_1 : Int) (a1_2 : Int) (a1_3 : Int) (a1_4 : Int) (a1_5 : Int) (a1_6 : Int) (a1_7 : Int) : spec_Score.F a0_0 a0_1 l0_2 a0_3 a0_4 l0_5 a0_6 a0_7 a1_0 a1_1 a1_2 a1_3 a1_4 a1_5 a1_6 a1_7 = ((spec_CanBe.F a0_0 a0_1 l0_2 a0_3 a0_4 l0_5 a0_6 a0_7 a1_0 a1_1 a1_2 a1_3 a1_4 a1_5 a1_6 a1_7).bind fun t173 => (if t173 = true then ((spec_l1In.f (l0_2.length : Int) 1 2).bind fun t174 => ((spec_l8One.f t174).bind fun t175 => ((spec_l8One.f (decide ((wrap64 (a0_4 - a0_3)) ≤ 5))).bind fun t176 => ((spec_l1In.f (l0_5.length : Int) 1 2).bind fun t177 => ((spec_l8One.f t177).bind fun t178 => ((spec_l8One.f (decide (a1_6 ≤ (wrap64 (a0_7 + 24))))).bind fun t179 => (some (wrap64 ((wrap64 ((wrap64 ((wrap64 (1 + t175)) + t176)) + t178)) + t179))))))))) else (some 0))) := by
  refine Co.same (spec_Score.F_co a0_0 a0_1 l0_2 a0_3 a0_4 l0_5 a0_6 a0_7 a1_0 a1_1 a1_2 a1_3 a1_4 a1_5 a1_6 a1_7) (h := fun k => ((spec_CanBe.f k a0_0 a0_1 l0_2 a0_3 a0_4 l0_5 a0_6 a0_7 a1_0 a1_1 a1_2 a1_3 a1_4 a1_5 a1_6 a1_7).bind fun t173 => (if t173 = true then ((spec_l1In.f (l0_2.length : Int) 1 2).bind fun t174 => ((spec_l8One.f t174).bind fun t175 => ((spec_l8One.f (decide ((wrap64 (a0_4 - a0_3)) ≤ 5))).bind fun t176 => ((spec_l1In.f (l0_5.length : Int) 1 2).bind fun t177 => ((spec_l8One.f t177).bind fun t178 => ((spec_l8One.f (decide (a1_6 ≤ (wrap64 (a0_7 + 24))))).bind fun t179 => (some (wrap64 ((wrap64 ((wrap64 ((wrap64 (1 + t175)) + t176)) + t178)) + t179))))))))) else (some 0)))) (fun k => by first | rfl | unfold spec_Score.f; rfl) ?_
  repeat' first
    | (with_reducible exact Co.const _)
    | (with_reducible exact spec_CanBe.F_co _ _ _ _ _ _ _ _ _ _ _ _ _ _ _ _)
    | (with_reducible refine Co.ite ?_ ?_)
    | (with_reducible refine Co.bind ?_ (fun _ => ?_))

noncomputable def spec_BestOf.L0 (x1 : List (S98)) (x5 : Int) (x6 : Int) (x7 : Int) (x181000 : Int) (x181001 : Int) (x181002 : List Int) (x181003 : Int) (x181004 : Int) (x181005 : List Int) (x181006 : Int) (x181007 : Int) : Option (Int) := lim (fun k => spec_BestOf.l0 k x1 x5 x6 x7 x181000 x181001 x181002 x181003 x181004 x181005 x181006 x181007)
theorem spec_BestOf.L0_co (x1 : List (S98)) (x5 : Int) (x6 : Int) (x7 : Int) (x181000 : Int) (x181001 : Int) (x181002 : List Int) (x181003 : Int) (x181004 : Int) (x181005 : List Int) (x181006 : Int) (x181007 : Int) : Co (fun k => spec_BestOf.l0 k x1 x5 x6 x7 x181000 x181001 x181002 x181003 x181004 x181005 x181006 x181007) (spec_BestOf.L0 x1 x5 x6 x7 x181000 x181001 x181002 x181003 x181004 x181005 x181006 x181007) := Co.base (fun k => (spec_BestOf.mono_l k).1 _ _ _ _ _ _ _ _ _ _ _ _)
noncomputable def spec_BestOf.J1 (x1 : List (S98)) (x5 : Int) (x6 : Int) (x7 : Int) (x16 : Bool) (x181000 : Int) (x181001 : Int) (x181002 : List Int) (x181003 : Int) (x181004 : Int) (x181005 : List Int) (x181006 : Int) (x181007 : Int) : Option (Int) := lim (fun k => spec_BestOf.j1 k x1 x5 x6 x7 x16 x181000 x181001 x181002 x181003 x181004 x181005 x181006 x181007)
theorem spec_BestOf.J1_co (x1 : List (S98)) (x5 : Int) (x6 : Int) (x7 : Int) (x16 : Bool) (x181000 : Int) (x181001 : Int) (x181002 : List Int) (x181003 : Int) (x181004 : Int) (x181005 : List Int) (x181006 : Int) (x181007 : Int) : Co (fun k => spec_BestOf.j1 k x1 x5 x6 x7 x16 x181000 x181001 x181002 x181003 x181004 x181005 x181006 x181007) (spec_BestOf.J1 x1 x5 x6 x7 x16 x181000 x181001 x181002 x181003 x181004 x181005 x181006 x181007) := Co.base (fun k => (spec_BestOf.mono_l k).2 _ _ _ _ _ _ _ _ _ _ _ _ _)
noncomputable def spec_BestOf.F (a0_0 : Int) (a0_1 : Int) (l0_2 : List Int) (a0_3 : Int) (a0_4 : Int) (l0_5 : List Int) (a0_6 : Int) (a0_7 : Int) (l1 : List (S98)) : Option (Int) := lim (fun k => spec_BestOf.f k a0_0 a0_1 l0_2 a0_3 a0_4 l0_5 a0_6 a0_7 l1)
theorem spec_BestOf.F_co (a0_0 : Int) (a0_1 : Int) (l0_2 : List Int) (a0_3 : Int) (a0_4 : Int) (l0_5 : List Int) (a0_6 : Int) (a0_7 : Int) (l1 : List (S98)) : Co (fun k => spec_BestOf.f k a0_0 a0_1 l0_2 a0_3 a0_4 l0_5 a0_6 a0_7 l1) (spec_BestOf.F a0_0 a0_1 l0_2 a0_3 a0_4 l0_5 a0_6 a0_7 l1) := Co.base (fun k => spec_BestOf.mono _ _ _ _ _ _ _ _ _ k)
theorem spec_BestOf.L0_eq (x1 : List (S98)) (x5 : Int) (x6 : Int) (x7 : Int) (x181000 : Int) (x181001 : Int) (x181002 : List Int) (x181003 : Int) (x181004 : Int) (x181005 : List Int) (x181006 : Int) (x181007 : Int) : spec_BestOf.L0 x1 x5 x6 x7 x181000 x181001 x181002 x181003 x181004 x181005 x181006 x181007 = (if x7 < (x1.length : Int) then ((spec_AreFinds.F x1).bind fun t181 => (spec_BestOf.J1 x1 x5 x6 x7 t181 x181000 x181001 x181002 x181003 x181004 x181005 x181006 x181007)) else (spec_BestOf.J1 x1 x5 x6 x7 false x181000 x181001 x181002 x181003 x181004 x181005 x181006 x181007)) := by
  refine Co.step (spec_BestOf.L0_co x1 x5 x6 x7 x181000 x181001 x181002 x181003 x181004 x181005 x181006 x181007) (h := fun k => (if x7 < (x1.length : Int) then ((spec_AreFinds.f k x1).bind fun t181 => (spec_BestOf.j1 k x1 x5 x6 x7 t181 x181000 x181001 x181002 x181003 x181004 x181005 x181006 x181007)) else (spec_BestOf.j1 k x1 x5 x6 x7 false x181000 x181001 x181002 x181003 x181004 x181005 x181006 x181007))) (fun k => by first | rfl | (simp only [spec_BestOf.l0])) ?_
  repeat' first
    | (with_reducible exact Co.const _)
    | (with_reducible exact spec_AreFinds.F_co _)
    | (with_reducible exact spec_BestOf.J1_co _ _ _ _ _ _ _ _ _ _ _ _ _)
    | (with_reducible refine Co.ite ?_ ?_)
    | (with_reducible refine Co.bind ?_ (fun _ => ?_))
theorem spec_BestOf.J1_eq (x1 : List (S98)) (x5 : Int) (x6 : Int) (x7 : Int) (x16 : Bool) (x181000 : Int) (x181001 : Int) (x181002 : List Int) (x181003 : Int) (x181004 : Int) (x181005 : List Int) (x181006 : Int) (x181007 : Int) : spec_BestOf.J1 x1 x5 x6 x7 x16 x181000 x181001 x181002 x181003 x181004 x181005 x181006 x181007 = (if x16 = true then (if 0 ≤ x7 then (if x7 < (x1.length : Int) then ((spec_Score.F x181000 x181001 x181002 x181003 x181004 x181005 x181006 x181007 ((rd_T98 x1 x7).f0.f0) ((rd_T98 x1 x7).f0.f1) ((rd_T98 x1 x7).f0.f2) ((rd_T98 x1 x7).f0.f3) ((rd_T98 x1 x7).f0.f4) ((rd_T98 x1 x7).f1) ((rd_T98 x1 x7).f2) ((rd_T98 x1 x7).f3)).bind fun t183 => (if t183 > x6 then (spec_BestOf.L0 x1 ((rd_T98 x1 x7).f0.f0) t183 (wrap64 (x7 + 1)) x181000 x181001 x181002 x181003 x181004 x181005 x181006 x181007) else (spec_BestOf.L0 x1 x5 x6 (wrap64 (x7 + 1)) x181000 x181001 x181002 x181003 x181004 x181005 x181006 x181007))) else (none)) else (none)) else (some x5)) := by
  refine Co.step (spec_BestOf.J1_co x1 x5 x6 x7 x16 x181000 x181001 x181002 x181003 x181004 x181005 x181006 x181007) (h := fun k => (if x16 = true then (if 0 ≤ x7 then (if x7 < (x1.length : Int) then ((spec_Score.f k x181000 x181001 x181002 x181003 x181004 x181005 x181006 x181007 ((rd_T98 x1 x7).f0.f0) ((rd_T98 x1 x7).f0.f1) ((rd_T98 x1 x7).f0.f2) ((rd_T98 x1 x7).f0.f3) ((rd_T98 x1 x7).f0.f4) ((rd_T98 x1 x7).f1) ((rd_T98 x1 x7).f2) ((rd_T98 x1 x7).f3)).bind fun t183 => (if t183 > x6 then (spec_BestOf.l0 k x1 ((rd_T98 x1 x7).f0.f0) t183 (wrap64 (x7 + 1)) x181000 x181001 x181002 x181003 x181004 x181005 x181006 x181007) else (spec_BestOf.l0 k x1 x5 x6 (wrap64 (x7 + 1)) x181000 x181001 x181002 x181003 x181004 x181005 x181006 x181007))) else (none)) else (none)) else (some x5))) (fun k => by first | rfl | (simp only [spec_BestOf.j1])) ?_
  repeat' first
    | (with_reducible exact Co.const _)
    | (with_reducible exact spec_BestOf.L0_co _ _ _ _ _ _ _ _ _ _ _ _)
    | (with_reducible exact spec_Score.F_co _ _ _ _ _ _ _ _ _ _ _ _ _ _ _ _)
    | (with_reducible refine Co.ite ?_ ?_)
    | (with_reducible refine Co.bind ?_ (fun _ => ?_))
theorem spec_BestOf.F_eq (a0_0 : Int) (a0_1 : Int) (l0_2 : List Int) (a0_3 : Int) (a0_4 : Int) (l0_5 : List Int) (a0_6 : Int) (a0_7 : Int) (l1 : List (S98)) : spec_BestOf.F a0_0 a0_1 l0_2 a0_3 a0_4 l0_5 a0_6 a0_7 l1 = (spec_BestOf.L0 l1 0 0 0 a0_0 a0_1 l0_2 a0_3 a0_4 l0_5 a0_6 a0_7) := by
  refine Co.same (spec_BestOf.F_co a0_0 a0_1 l0_2 a0_3 a0_4 l0_5 a0_6 a0_7 l1) (h := fun k => (spec_BestOf.l0 k l1 0 0 0 a0_0 a0_1 l0_2 a0_3 a0_4 l0_5 a0_6 a0_7)) (fun k => by first | rfl | unfold spec_BestOf.f; rfl) ?_
  repeat' first
    | (with_reducible exact Co.const _)
    | (with_reducible exact spec_BestOf.L0_co _ _ _ _ _ _ _ _ _ _ _ _)
    | (with_reducible refine Co.ite ?_ ?_)
    | (with_reducible refine Co.bind ?_ (fun _ => ?_))

noncomputable def laws_toFindS.L0 (x0 : List (S92)) (x3 : List (S98)) (x4 : Int) : Option ((List (S98))) := lim (fun k => laws_toFindS.l0 k x0 x3 x4)
theorem laws_toFindS.L0_co (x0 : List (S92)) (x3 : List (S98)) (x4 : Int) : Co (fun k => laws_toFindS.l0 k x0 x3 x4) (laws_toFindS.L0 x0 x3 x4) := Co.base (fun k => (laws_toFindS.mono_l k) _ _ _)
noncomputable def laws_toFindS.F (l0 : List (S92)) : Option ((List (S98))) := lim (fun k => laws_toFindS.f k l0)
theorem laws_toFindS.F_co (l0 : List (S92)) : Co (fun k => laws_toFindS.f k l0) (laws_toFindS.F l0) := Co.base (fun k => laws_toFindS.mono _ k)
theorem laws_toFindS.L0_eq (x0 : List (S92)) (x3 : List (S98)) (x4 : Int) : laws_toFindS.L0 x0 x3 x4 = (if x4 < (x0.length : Int) then (if 0 ≤ x4 then ((laws_toFind.f ((rd_T92 x0 x4).f0.f0) ((rd_T92 x0 x4).f0.f1) ((rd_T92 x0 x4).f0.f2) ((rd_T92 x0 x4).f0.f3) ((rd_T92 x0 x4).f0.f4) ((rd_T92 x0 x4).f1) ((rd_T92 x0 x4).f2) ((rd_T92 x0 x4).f3)).bind fun bt200 => (if x4 < (x3.length : Int) then (laws_toFindS.L0 x0 (x3.set (x4 : Int).toNat (⟨(⟨bt200.1, bt200.2.1, bt200.2.2.1, bt200.2.2.2.1, bt200.2.2.2.2.1⟩ : S96), bt200.2.2.2.2.2.1, bt200.2.2.2.2.2.2.1, bt200.2.2.2.2.2.2.2⟩ : S98)) (wrap64 (x4 + 1))) else (none))) else (none)) else (some x3)) := by
  refine Co.step (laws_toFindS.L0_co x0 x3 x4) (h := fun k => (if x4 < (x0.length : Int) then (if 0 ≤ x4 then ((laws_toFind.f ((rd_T92 x0 x4).f0.f0) ((rd_T92 x0 x4).f0.f1) ((rd_T92 x0 x4).f0.f2) ((rd_T92 x0 x4).f0.f3) ((rd_T92 x0 x4).f0.f4) ((rd_T92 x0 x4).f1) ((rd_T92 x0 x4).f2) ((rd_T92 x0 x4).f3)).bind fun bt200 => (if x4 < (x3.length : Int) then (laws_toFindS.l0 k x0 (x3.set (x4 : Int).toNat (⟨(⟨bt200.1, bt200.2.1, bt200.2.2.1, bt200.2.2.2.1, bt200.2.2.2.2.1⟩ : S96), bt200.2.2.2.2.2.1, bt200.2.2.2.2.2.2.1, bt200.2.2.2.2.2.2.2⟩ : S98)) (wrap64 (x4 + 1))) else (none))) else (none)) else (some x3))) (fun k => by first | rfl | (simp only [laws_toFindS.l0])) ?_
  repeat' first
    | (with_reducible exact Co.const _)
    | (with_reducible exact laws_toFindS.L0_co _ _ _)
    | (with_reducible refine Co.ite ?_ ?_)
    | (with_reducible refine Co.bind ?_ (fun _ => ?_))
theorem laws_toFindS.F_eq (l0 : List (S92)) : laws_toFindS.F l0 = (if 0 ≤ (l0.length : Int) then (if ((l0.length : Int) : Int).toNat ≤ 4398046511104 then (laws_toFindS.L0 l0 (List.replicate ((l0.length : Int) : Int).toNat z98) 0) else (none)) else (none)) := by
  refine Co.same (laws_toFindS.F_co l0) (h := fun k => (if 0 ≤ (l0.length : Int) then (if ((l0.length : Int) : Int).toNat ≤ 4398046511104 then (laws_toFindS.l0 k l0 (List.replicate ((l0.length : Int) : Int).toNat z98) 0) else (none)) else (none))) (fun k => by first | rfl | unfold laws_toFindS.f; rfl) ?_
  repeat' first
    | (with_reducible exact Co.const _)
    | (with_reducible exact laws_toFindS.L0_co _ _ _)
    | (with_reducible refine Co.ite ?_ ?_)
    | (with_reducible refine Co.bind ?_ (fun _ => ?_))

noncomputable def impl_isAscending.L0 (x0 : List Int) (x1 : Int) (x2 : Int) (x9 : List Int) (x10 : Int) (x11 : Int) : Option (Bool) := lim (fun k => impl_isAscending.l0 k x0 x1 x2 x9 x10 x11)
theorem impl_isAscending.L0_co (x0 : List Int) (x1 : Int) (x2 : Int) (x9 : List Int) (x10 : Int) (x11 : Int) : Co (fun k => impl_isAscending.l0 k x0 x1 x2 x9 x10 x11) (impl_isAscending.L0 x0 x1 x2 x9 x10 x11) := Co.base (fun k => (impl_isAscending.mono_l k) _ _ _ _ _ _)
noncomputable def impl_isAscending.F (l0 : List Int) (a1 : Int) (a2 : Int) : Option (Bool) := lim (fun k => impl_isAscending.f k l0 a1 a2)
theorem impl_isAscending.F_co (l0 : List Int) (a1 : Int) (a2 : Int) : Co (fun k => impl_isAscending.f k l0 a1 a2) (impl_isAscending.F l0 a1 a2) := Co.base (fun k => impl_isAscending.mono _ _ _ k)
theorem impl_isAscending.L0_eq (x0 : List Int) (x1 : Int) (x2 : Int) (x9 : List Int) (x10 : Int) (x11 : Int) : impl_isAscending.L0 x0 x1 x2 x9 x10 x11 = (if x11 < x10 then (if 0 ≤ x11 then (if x11 < (x9.length : Int) then ((impl_InRange.f (rd x9 x11) x1 x2).bind fun t210 => (if t210 = true then (if x11 > 0 then (if 0 ≤ (wrap64 (x11 - 1)) then (if (wrap64 (x11 - 1)) < (x0.length : Int) then (if (rd x9 x11) ≤ (rd x0 (wrap64 (x11 - 1))) then (some false) else (impl_isAscending.L0 x0 x1 x2 x9 x10 (wrap64 (x11 + 1)))) else (none)) else (none)) else (impl_isAscending.L0 x0 x1 x2 x9 x10 (wrap64 (x11 + 1)))) else (some false))) else (none)) else (none)) else (some true)) := by
  refine Co.step (impl_isAscending.L0_co x0 x1 x2 x9 x10 x11) (h := fun k => (if x11 < x10 then (if 0 ≤ x11 then (if x11 < (x9.length : Int) then ((impl_InRange.f (rd x9 x11) x1 x2).bind fun t210 => (if t210 = true then (if x11 > 0 then (if 0 ≤ (wrap64 (x11 - 1)) then (if (wrap64 (x11 - 1)) < (x0.length : Int) then (if (rd x9 x11) ≤ (rd x0 (wrap64 (x11 - 1))) then (some false) else (impl_isAscending.l0 k x0 x1 x2 x9 x10 (wrap64 (x11 + 1)))) else (none)) else (none)) else (impl_isAscending.l0 k x0 x1 x2 x9 x10 (wrap64 (x11 + 1)))) else (some false))) else (none)) else (none)) else (some true))) (fun k => by first | rfl | (simp only [impl_isAscending.l0])) ?_
  repeat' first
    | (with_reducible exact Co.const _)
    | (with_reducible exact impl_isAscending.L0_co _ _ _ _ _ _)
    | (with_reducible refine Co.ite ?_ ?_)
    | (with_reducible refine Co.bind ?_ (fun _ => ?_))
theorem impl_isAscending.F_eq (l0 : List Int) (a1 : Int) (a2 : Int) : impl_isAscending.F l0 a1 a2 = (impl_isAscending.L0 l0 a1 a2 l0 (l0.length : Int) 0) := by
  refine Co.same (impl_isAscending.F_co l0 a1 a2) (h := fun k => (impl_isAscending.l0 k l0 a1 a2 l0 (l0.length : Int) 0)) (fun k => by first | rfl | unfold impl_isAscending.f; rfl) ?_
  repeat' first
    | (with_reducible exact Co.const _)
    | (with_reducible exact impl_isAscending.L0_co _ _ _ _ _ _)
    | (with_reducible refine Co.ite ?_ ?_)
    | (with_reducible refine Co.bind ?_ (fun _ => ?_))

noncomputable def impl_IsReport.F (a0_0 : Int) (a0_1 : Int) (l0_2 : List Int) (a0_3 : Int) (a0_4 : Int) (l0_5 : List Int) (a0_6 : Int) (a0_7 : Int) : Option (Bool) := lim (fun k => impl_IsReport.f k a0_0 a0_1 l0_2 a0_3 a0_4 l0_5 a0_6 a0_7)
theorem impl_IsReport.F_co (a0_0 : Int) (a0_1 : Int) (l0_2 : List Int) (a0_3 : Int) (a0_4 : Int) (l0_5 : List Int) (a0_6 : Int) (a0_7 : Int) : Co (fun k => impl_IsReport.f k a0_0 a0_1 l0_2 a0_3 a0_4 l0_5 a0_6 a0_7) (impl_IsReport.F a0_0 a0_1 l0_2 a0_3 a0_4 l0_5 a0_6 a0_7) := Co.base (fun k => impl_IsReport.mono _ _ _ _ _ _ _ _ k)
theorem impl_IsReport.F_eq (a0_0 : Int) (a0_1 : Int) (l0_2 : List Int) (a0_3 : Int) (a0_4 : Int) (l0_5 : List Int) (a0_6 : Int) (a0_7 : Int) : impl_IsReport.F a0_0 a0_1 l0_2 a0_3 a0_4 l0_5 a0_6 a0_7 = ((impl_InRange.f a0_0 1 999).bind fun t216 => (if t216 = true then ((impl_InRange.f a0_1 1 8).bind fun t217 => (if t217 = true then ((impl_isAscending.F l0_2 0 7).bind fun t218 => (if t218 = true then (if 1 ≤ a0_3 then (if a0_3 ≤ a0_4 then (if a0_4 ≤ 50 then ((impl_isAscending.F l0_5 1 30).bind fun t219 => (if t219 = true then (if (l0_5.length : Int) ≤ 10 then ((impl_IsSpan.f a0_6 a0_7).bind fun t220 => (some t220)) else (some false)) else (some false))) else (some false)) else (some false)) else (some false)) else (some false))) else (some false))) else (some false))) := by
  refine Co.same (impl_IsReport.F_co a0_0 a0_1 l0_2 a0_3 a0_4 l0_5 a0_6 a0_7) (h := fun k => ((impl_InRange.f a0_0 1 999).bind fun t216 => (if t216 = true then ((impl_InRange.f a0_1 1 8).bind fun t217 => (if t217 = true then ((impl_isAscending.f k l0_2 0 7).bind fun t218 => (if t218 = true then (if 1 ≤ a0_3 then (if a0_3 ≤ a0_4 then (if a0_4 ≤ 50 then ((impl_isAscending.f k l0_5 1 30).bind fun t219 => (if t219 = true then (if (l0_5.length : Int) ≤ 10 then ((impl_IsSpan.f a0_6 a0_7).bind fun t220 => (some t220)) else (some false)) else (some false))) else (some false)) else (some false)) else (some false)) else (some false))) else (some false))) else (some false)))) (fun k => by first | rfl | unfold impl_IsReport.f; rfl) ?_
  repeat' first
    | (with_reducible exact Co.const _)
    | (with_reducible exact impl_isAscending.F_co _ _ _)
    | (with_reducible refine Co.ite ?_ ?_)
    | (with_reducible refine Co.bind ?_ (fun _ => ?_))

noncomputable def slices_Index_int_int.L0 (x0 : List Int) (x1 : Int) (x7 : Int) (x8 : Int) : Option (Int) := lim (fun k => slices_Index_int_int.l0 k x0 x1 x7 x8)
theorem slices_Index_int_int.L0_co (x0 : List Int) (x1 : Int) (x7 : Int) (x8 : Int) : Co (fun k => slices_Index_int_int.l0 k x0 x1 x7 x8) (slices_Index_int_int.L0 x0 x1 x7 x8) := Co.base (fun k => (slices_Index_int_int.mono_l k) _ _ _ _)
noncomputable def slices_Index_int_int.F (l0 : List Int) (a1 : Int) : Option (Int) := lim (fun k => slices_Index_int_int.f k l0 a1)
theorem slices_Index_int_int.F_co (l0 : List Int) (a1 : Int) : Co (fun k => slices_Index_int_int.f k l0 a1) (slices_Index_int_int.F l0 a1) := Co.base (fun k => slices_Index_int_int.mono _ _ k)
theorem slices_Index_int_int.L0_eq (x0 : List Int) (x1 : Int) (x7 : Int) (x8 : Int) : slices_Index_int_int.L0 x0 x1 x7 x8 = (if x8 < x7 then (if 0 ≤ x8 then (if x8 < (x0.length : Int) then (if x1 = (rd x0 x8) then (some x8) else (slices_Index_int_int.L0 x0 x1 x7 (wrap64 (x8 + 1)))) else (none)) else (none)) else (some (-1))) := by
  refine Co.step (slices_Index_int_int.L0_co x0 x1 x7 x8) (h := fun k => (if x8 < x7 then (if 0 ≤ x8 then (if x8 < (x0.length : Int) then (if x1 = (rd x0 x8) then (some x8) else (slices_Index_int_int.l0 k x0 x1 x7 (wrap64 (x8 + 1)))) else (none)) else (none)) else (some (-1)))) (fun k => by first | rfl | (simp only [slices_Index_int_int.l0])) ?_
  repeat' first
    | (with_reducible exact Co.const _)
    | (with_reducible exact slices_Index_int_int.L0_co _ _ _ _)
    | (with_reducible refine Co.ite ?_ ?_)
    | (with_reducible refine Co.bind ?_ (fun _ => ?_))
theorem slices_Index_int_int.F_eq (l0 : List Int) (a1 : Int) : slices_Index_int_int.F l0 a1 = (slices_Index_int_int.L0 l0 a1 (l0.length : Int) 0) := by
  refine Co.same (slices_Index_int_int.F_co l0 a1) (h := fun k => (slices_Index_int_int.l0 k l0 a1 (l0.length : Int) 0)) (fun k => by first | rfl | unfold slices_Index_int_int.f; rfl) ?_
  repeat' first
    | (with_reducible exact Co.const _)
    | (with_reducible exact slices_Index_int_int.L0_co _ _ _ _)
    | (with_reducible refine Co.ite ?_ ?_)
    | (with_reducible refine Co.bind ?_ (fun _ => ?_))

noncomputable def slices_Contains_int_int.F (l0 : List Int) (a1 : Int) : Option (Bool) := lim (fun k => slices_Contains_int_int.f k l0 a1)
theorem slices_Contains_int_int.F_co (l0 : List Int) (a1 : Int) : Co (fun k => slices_Contains_int_int.f k l0 a1) (slices_Contains_int_int.F l0 a1) := Co.base (fun k => slices_Contains_int_int.mono _ _ k)
theorem slices_Contains_int_int.F_eq (l0 : List Int) (a1 : Int) : slices_Contains_int_int.F l0 a1 = ((slices_Index_int_int.F l0 a1).bind fun t233 => (some (decide (t233 ≥ 0)))) := by
  refine Co.same (slices_Contains_int_int.F_co l0 a1) (h := fun k => ((slices_Index_int_int.f k l0 a1).bind fun t233 => (some (decide (t233 ≥ 0))))) (fun k => by first | rfl | unfold slices_Contains_int_int.f; rfl) ?_
  repeat' first
    | (with_reducible exact Co.const _)
    | (with_reducible exact slices_Index_int_int.F_co _ _)
    | (with_reducible refine Co.ite ?_ ?_)
    | (with_reducible refine Co.bind ?_ (fun _ => ?_))

noncomputable def impl_allows.F (l0 : List Int) (a1 : Int) : Option (Bool) := lim (fun k => impl_allows.f k l0 a1)
theorem impl_allows.F_co (l0 : List Int) (a1 : Int) : Co (fun k => impl_allows.f k l0 a1) (impl_allows.F l0 a1) := Co.base (fun k => impl_allows.mono _ _ k)
theorem impl_allows.F_eq (l0 : List Int) (a1 : Int) : impl_allows.F l0 a1 = (if (l0.length : Int) = 0 then (some true) else ((slices_Contains_int_int.F l0 a1).bind fun t234 => (some t234))) := by
  refine Co.same (impl_allows.F_co l0 a1) (h := fun k => (if (l0.length : Int) = 0 then (some true) else ((slices_Contains_int_int.f k l0 a1).bind fun t234 => (some t234)))) (fun k => by first | rfl | unfold impl_allows.f; rfl) ?_
  repeat' first
    | (with_reducible exact Co.const _)
    | (with_reducible exact slices_Contains_int_int.F_co _ _)
    | (with_reducible refine Co.ite ?_ ?_)
    | (with_reducible refine Co.bind ?_ (fun _ => ?_))

noncomputable def impl_WhyNot.J0 (x5 : Bool) (x236000 : Int) (x236001 : Int) (x236002 : List Int) (x236003 : Int) (x236004 : Int) (x236005 : List Int) (x236006 : Int) (x236007 : Int) (x237000 : Int) (x237001 : Int) (x237002 : Int) (x237003 : Int) (x237004 : Int) (x237005 : Int) (x237006 : Int) (x237007 : Int) : Option (ByteArray) := lim (fun k => impl_WhyNot.j0 k x5 x236000 x236001 x236002 x236003 x236004 x236005 x236006 x236007 x237000 x237001 x237002 x237003 x237004 x237005 x237006 x237007)
theorem impl_WhyNot.J0_co (x5 : Bool) (x236000 : Int) (x236001 : Int) (x236002 : List Int) (x236003 : Int) (x236004 : Int) (x236005 : List Int) (x236006 : Int) (x236007 : Int) (x237000 : Int) (x237001 : Int) (x237002 : Int) (x237003 : Int) (x237004 : Int) (x237005 : Int) (x237006 : Int) (x237007 : Int) : Co (fun k => impl_WhyNot.j0 k x5 x236000 x236001 x236002 x236003 x236004 x236005 x236006 x236007 x237000 x237001 x237002 x237003 x237004 x237005 x237006 x237007) (impl_WhyNot.J0 x5 x236000 x236001 x236002 x236003 x236004 x236005 x236006 x236007 x237000 x237001 x237002 x237003 x237004 x237005 x237006 x237007) := Co.base (fun k => (impl_WhyNot.mono_l k) _ _ _ _ _ _ _ _ _ _ _ _ _ _ _ _ _)
noncomputable def impl_WhyNot.F (a0_0 : Int) (a0_1 : Int) (l0_2 : List Int) (a0_3 : Int) (a0_4 : Int) (l0_5 : List Int) (a0_6 : Int) (a0_7 : Int) (a1_0 : Int) (a1_1 : Int) (a1_2 : Int) (a1_3 : Int) (a1_4 : Int) (a1_5 : Int) (a1_6 : Int) (a1_7 : Int) : Option (ByteArray) := lim (fun k => impl_WhyNot.f k a0_0 a0_1 l0_2 a0_3 a0_4 l0_5 a0_6 a0_7 a1_0 a1_1 a1_2 a1_3 a1_4 a1_5 a1_6 a1_7)
theorem impl_WhyNot.F_co (a0_0 : Int) (a0_1 : Int) (l0_2 : List Int) (a0_3 : Int) (a0_4 : Int) (l0_5 : List Int) (a0_6 : Int) (a0_7 : Int) (a1_0 : Int) (a1_1 : Int) (a1_2 : Int) (a1_3 : Int) (a1_4 : Int) (a1_5 : Int) (a1_6 : Int) (a1_7 : Int) : Co (fun k => impl_WhyNot.f k a0_0 a0_1 l0_2 a0_3 a0_4 l0_5 a0_6 a0_7 a1_0 a1_1 a1_2 a1_3 a1_4 a1_5 a1_6 a1_7) (impl_WhyNot.F a0_0 a0_1 l0_2 a0_3 a0_4 l0_5 a0_6 a0_7 a1_0 a1_1 a1_2 a1_3 a1_4 a1_5 a1_6 a1_7) := Co.base (fun k => impl_WhyNot.mono _ _ _ _ _ _ _ _ _ _ _ _ _ _ _ _ k)
theorem impl_WhyNot.J0_eq (x5 : Bool) (x236000 : Int) (x236001 : Int) (x236002 : List Int) (x236003 : Int) (x236004 : Int) (x236005 : List Int) (x236006 : Int) (x236007 : Int) (x237000 : Int) (x237001 : Int) (x237002 : Int) (x237003 : Int) (x237004 : Int) (x237005 : Int) (x237006 : Int) (x237007 : Int) : impl_WhyNot.J0 x5 x236000 x236001 x236002 x236003 x236004 x236005 x236006 x236007 x237000 x237001 x237002 x237003 x237004 x237005 x237006 x237007 = (if x5 = true then (some (⟨#[105, 110, 118, 97, 108, 105, 100]⟩ : ByteArray)) else (if x236001 = x237001 then ((impl_allows.F x236002 x237002).bind fun t239 => (if t239 = true then ((impl_InRange.f x237003 x236003 x236004).bind fun t240 => (if t240 = true then ((impl_allows.F x236005 x237005).bind fun t241 => (if t241 = true then (if x237006 < x236006 then (some (⟨#[116, 105, 109, 101]⟩ : ByteArray)) else (some (⟨#[]⟩ : ByteArray))) else (some (⟨#[112, 108, 97, 99, 101]⟩ : ByteArray)))) else (some (⟨#[115, 105, 122, 101]⟩ : ByteArray)))) else (some (⟨#[99, 111, 108, 111, 117, 114]⟩ : ByteArray)))) else (some (⟨#[107, 105, 110, 100]⟩ : ByteArray)))) := by
  refine Co.step (impl_WhyNot.J0_co x5 x236000 x236001 x236002 x236003 x236004 x236005 x236006 x236007 x237000 x237001 x237002 x237003 x237004 x237005 x237006 x237007) (h := fun k => (if x5 = true then (some (⟨#[105, 110, 118, 97, 108, 105, 100]⟩ : ByteArray)) else (if x236001 = x237001 then ((impl_allows.f k x236002 x237002).bind fun t239 => (if t239 = true then ((impl_InRange.f x237003 x236003 x236004).bind fun t240 => (if t240 = true then ((impl_allows.f k x236005 x237005).bind fun t241 => (if t241 = true then (if x237006 < x236006 then (some (⟨#[116, 105, 109, 101]⟩ : ByteArray)) else (some (⟨#[]⟩ : ByteArray))) else (some (⟨#[112, 108, 97, 99, 101]⟩ : ByteArray)))) else (some (⟨#[115, 105, 122, 101]⟩ : ByteArray)))) else (some (⟨#[99, 111, 108, 111, 117, 114]⟩ : ByteArray)))) else (some (⟨#[107, 105, 110, 100]⟩ : ByteArray))))) (fun k => by first | rfl | (simp only [impl_WhyNot.j0])) ?_
  repeat' first
    | (with_reducible exact Co.const _)
    | (with_reducible exact impl_allows.F_co _ _)
    | (with_reducible refine Co.ite ?_ ?_)
    | (with_reducible refine Co.bind ?_ (fun _ => ?_))
theorem impl_WhyNot.F_eq (a0_0 : Int) (a0_1 : Int) (l0_2 : List Int) (a0_3 : Int) (a0_4 : Int) (l0_5 : List Int) (a0_6 : Int) (a0_7 : Int) (a1_0 : Int) (a1_1 : Int) (a1_2 : Int) (a1_3 : Int) (a1_4 : Int) (a1_5 : Int) (a1_6 : Int) (a1_7 : Int) : impl_WhyNot.F a0_0 a0_1 l0_2 a0_3 a0_4 l0_5 a0_6 a0_7 a1_0 a1_1 a1_2 a1_3 a1_4 a1_5 a1_6 a1_7 = ((impl_IsReport.F a0_0 a0_1 l0_2 a0_3 a0_4 l0_5 a0_6 a0_7).bind fun t237 => (if t237 = true then ((impl_IsFind.f a1_0 a1_1 a1_2 a1_3 a1_4 a1_5 a1_6 a1_7).bind fun t238 => (impl_WhyNot.J0 (!t238) a0_0 a0_1 l0_2 a0_3 a0_4 l0_5 a0_6 a0_7 a1_0 a1_1 a1_2 a1_3 a1_4 a1_5 a1_6 a1_7)) else (impl_WhyNot.J0 true a0_0 a0_1 l0_2 a0_3 a0_4 l0_5 a0_6 a0_7 a1_0 a1_1 a1_2 a1_3 a1_4 a1_5 a1_6 a1_7))) := by
  refine Co.same (impl_WhyNot.F_co a0_0 a0_1 l0_2 a0_3 a0_4 l0_5 a0_6 a0_7 a1_0 a1_1 a1_2 a1_3 a1_4 a1_5 a1_6 a1_7) (h := fun k => ((impl_IsReport.f k a0_0 a0_1 l0_2 a0_3 a0_4 l0_5 a0_6 a0_7).bind fun t237 => (if t237 = true then ((impl_IsFind.f a1_0 a1_1 a1_2 a1_3 a1_4 a1_5 a1_6 a1_7).bind fun t238 => (impl_WhyNot.j0 k (!t238) a0_0 a0_1 l0_2 a0_3 a0_4 l0_5 a0_6 a0_7 a1_0 a1_1 a1_2 a1_3 a1_4 a1_5 a1_6 a1_7)) else (impl_WhyNot.j0 k true a0_0 a0_1 l0_2 a0_3 a0_4 l0_5 a0_6 a0_7 a1_0 a1_1 a1_2 a1_3 a1_4 a1_5 a1_6 a1_7)))) (fun k => by first | rfl | unfold impl_WhyNot.f; rfl) ?_
  repeat' first
    | (with_reducible exact Co.const _)
    | (with_reducible exact impl_IsReport.F_co _ _ _ _ _ _ _ _)
    | (with_reducible exact impl_WhyNot.J0_co _ _ _ _ _ _ _ _ _ _ _ _ _ _ _ _ _)
    | (with_reducible refine Co.ite ?_ ?_)
    | (with_reducible refine Co.bind ?_ (fun _ => ?_))

noncomputable def impl_CanBe.F (a0_0 : Int) (a0_1 : Int) (l0_2 : List Int) (a0_3 : Int) (a0_4 : Int) (l0_5 : List Int) (a0_6 : Int) (a0_7 : Int) (a1_0 : Int) (a1_1 : Int) (a1_2 : Int) (a1_3 : Int) (a1_4 : Int) (a1_5 : Int) (a1_6 : Int) (a1_7 : Int) : Option (Bool) := lim (fun k => impl_CanBe.f k a0_0 a0_1 l0_2 a0_3 a0_4 l0_5 a0_6 a0_7 a1_0 a1_1 a1_2 a1_3 a1_4 a1_5 a1_6 a1_7)
theorem impl_CanBe.F_co (a0_0 : Int) (a0_1 : Int) (l0_2 : List Int) (a0_3 : Int) (a0_4 : Int) (l0_5 : List Int) (a0_6 : Int) (a0_7 : Int) (a1_0 : Int) (a1_1 : Int) (a1_2 : Int) (a1_3 : Int) (a1_4 : Int) (a1_5 : Int) (a1_6 : Int) (a1_7 : Int) : Co (fun k => impl_CanBe.f k a0_0 a0_1 l0_2 a0_3 a0_4 l0_5 a0_6 a0_7 a1_0 a1_1 a1_2 a1_3 a1_4 a1_5 a1_6 a1_7) (impl_CanBe.F a0_0 a0_1 l0_2 a0_3 a0_4 l0_5 a0_6 a0_7 a1_0 a1_1 a1_2 a1_3 a1_4 a1_5 a1_6 a1_7) := Co.base (fun k => impl_CanBe.mono _ _ _ _ _ _ _ _ _ _ _ _ _ _ _ _ k)
theorem impl_CanBe.F_eq (a0_0 : Int) (a0_1 : Int) (l0_2 : List Int) (a0_3 : Int) (a0_4 : Int) (l0_5 : List Int) (a0_6 : Int) (a0_7 : Int) (a1_0 : Int) (a1_1 : Int) (a1_2 : Int) (a1_3 : Int) (a1_4 : Int) (a1_5 : Int) (a1_6 : Int) (a1_7 : Int) : impl_CanBe.F a0_0 a0_1 l0_2 a0_3 a0_4 l0_5 a0_6 a0_7 a1_0 a1_1 a1_2 a1_3 a1_4 a1_5 a1_6 a1_7 = ((impl_WhyNot.F a0_0 a0_1 l0_2 a0_3 a0_4 l0_5 a0_6 a0_7 a1_0 a1_1 a1_2 a1_3 a1_4 a1_5 a1_6 a1_7).bind fun t244 => (some (t244.toList == ([] : List UInt8)))) := by
  refine Co.same (impl_CanBe.F_co a0_0 a0_1 l0_2 a0_3 a0_4 l0_5 a0_6 a0_7 a1_0 a1_1 a1_2 a1_3 a1_4 a1_5 a1_6 a1_7) (h := fun k => ((impl_WhyNot.f k a0_0 a0_1 l0_2 a0_3 a0_4 l0_5 a0_6 a0_7 a1_0 a1_1 a1_2 a1_3 a1_4 a1_5 a1_6 a1_7).bind fun t244 => (some (t244.toList == ([] : List UInt8))))) (fun k => by first | rfl | unfold impl_CanBe.f; rfl) ?_
  repeat' first
    | (with_reducible exact Co.const _)
    | (with_reducible exact impl_WhyNot.F_co _ _ _ _ _ _ _ _ _ _ _ _ _ _ _ _)
    | (with_reducible refine Co.ite ?_ ?_)
    | (with_reducible refine Co.bind ?_ (fun _ => ?_))

noncomputable def impl_Score.J0 (x5 : Int) (x246000 : Int) (x246001 : Int) (x246002 : List Int) (x246003 : Int) (x246004 : Int) (x246005 : List Int) (x246006 : Int) (x246007 : Int) (x247000 : Int) (x247001 : Int) (x247002 : Int) (x247003 : Int) (x247004 : Int) (x247005 : Int) (x247006 : Int) (x247007 : Int) : Option (Int) := lim (fun k => impl_Score.j0 k x5 x246000 x246001 x246002 x246003 x246004 x246005 x246006 x246007 x247000 x247001 x247002 x247003 x247004 x247005 x247006 x247007)
theorem impl_Score.J0_co (x5 : Int) (x246000 : Int) (x246001 : Int) (x246002 : List Int) (x246003 : Int) (x246004 : Int) (x246005 : List Int) (x246006 : Int) (x246007 : Int) (x247000 : Int) (x247001 : Int) (x247002 : Int) (x247003 : Int) (x247004 : Int) (x247005 : Int) (x247006 : Int) (x247007 : Int) : Co (fun k => impl_Score.j0 k x5 x246000 x246001 x246002 x246003 x246004 x246005 x246006 x246007 x247000 x247001 x247002 x247003 x247004 x247005 x247006 x247007) (impl_Score.J0 x5 x246000 x246001 x246002 x246003 x246004 x246005 x246006 x246007 x247000 x247001 x247002 x247003 x247004 x247005 x247006 x247007) := Co.base (fun k => (impl_Score.mono_l k).1 _ _ _ _ _ _ _ _ _ _ _ _ _ _ _ _ _)
noncomputable def impl_Score.J1 (x5 : Int) (x246000 : Int) (x246001 : Int) (x246002 : List Int) (x246003 : Int) (x246004 : Int) (x246005 : List Int) (x246006 : Int) (x246007 : Int) (x247000 : Int) (x247001 : Int) (x247002 : Int) (x247003 : Int) (x247004 : Int) (x247005 : Int) (x247006 : Int) (x247007 : Int) : Option (Int) := lim (fun k => impl_Score.j1 k x5 x246000 x246001 x246002 x246003 x246004 x246005 x246006 x246007 x247000 x247001 x247002 x247003 x247004 x247005 x247006 x247007)
theorem impl_Score.J1_co (x5 : Int) (x246000 : Int) (x246001 : Int) (x246002 : List Int) (x246003 : Int) (x246004 : Int) (x246005 : List Int) (x246006 : Int) (x246007 : Int) (x247000 : Int) (x247001 : Int) (x247002 : Int) (x247003 : Int) (x247004 : Int) (x247005 : Int) (x247006 : Int) (x247007 : Int) : Co (fun k => impl_Score.j1 k x5 x246000 x246001 x246002 x246003 x246004 x246005 x246006 x246007 x247000 x247001 x247002 x247003 x247004 x247005 x247006 x247007) (impl_Score.J1 x5 x246000 x246001 x246002 x246003 x246004 x246005 x246006 x246007 x247000 x247001 x247002 x247003 x247004 x247005 x247006 x247007) := Co.base (fun k => (impl_Score.mono_l k).2 _ _ _ _ _ _ _ _ _ _ _ _ _ _ _ _ _)
noncomputable def impl_Score.F (a0_0 : Int) (a0_1 : Int) (l0_2 : List Int) (a0_3 : Int) (a0_4 : Int) (l0_5 : List Int) (a0_6 : Int) (a0_7 : Int) (a1_0 : Int) (a1_1 : Int) (a1_2 : Int) (a1_3 : Int) (a1_4 : Int) (a1_5 : Int) (a1_6 : Int) (a1_7 : Int) : Option (Int) := lim (fun k => impl_Score.f k a0_0 a0_1 l0_2 a0_3 a0_4 l0_5 a0_6 a0_7 a1_0 a1_1 a1_2 a1_3 a1_4 a1_5 a1_6 a1_7)
theorem impl_Score.F_co (a0_0 : Int) (a0_1 : Int) (l0_2 : List Int) (a0_3 : Int) (a0_4 : Int) (l0_5 : List Int) (a0_6 : Int) (a0_7 : Int) (a1_0 : Int) (a1_1 : Int) (a1_2 : Int) (a1_3 : Int) (a1_4 : Int) (a1_5 : Int) (a1_6 : Int) (a1_7 : Int) : Co (fun k => impl_Score.f k a0_0 a0_1 l0_2 a0_3 a0_4 l0_5 a0_6 a0_7 a1_0 a1_1 a1_2 a1_3 a1_4 a1_5 a1_6 a1_7) (impl_Score.F a0_0 a0_1 l0_2 a0_3 a0_4 l0_5 a0_6 a0_7 a1_0 a1_1 a1_2 a1_3 a1_4 a1_5 a1_6 a1_7) := Co.base (fun k => impl_Score.mono _ _ _ _ _ _ _ _ _ _ _ _ _ _ _ _ k)
theorem impl_Score.J0_eq (x5 : Int) (x246000 : Int) (x246001 : Int) (x246002 : List Int) (x246003 : Int) (x246004 : Int) (x246005 : List Int) (x246006 : Int) (x246007 : Int) (x247000 : Int) (x247001 : Int) (x247002 : Int) (x247003 : Int) (x247004 : Int) (x247005 : Int) (x247006 : Int) (x247007 : Int) : impl_Score.J0 x5 x246000 x246001 x246002 x246003 x246004 x246005 x246006 x246007 x247000 x247001 x247002 x247003 x247004 x247005 x247006 x247007 = (if (wrap64 (x246004 - x246003)) ≤ 5 then (impl_Score.J1 (wrap64 (x5 + 1)) x246000 x246001 x246002 x246003 x246004 x246005 x246006 x246007 x247000 x247001 x247002 x247003 x247004 x247005 x247006 x247007) else (impl_Score.J1 x5 x246000 x246001 x246002 x246003 x246004 x246005 x246006 x246007 x247000 x247001 x247002 x247003 x247004 x247005 x247006 x247007)) := by
  refine Co.step (impl_Score.J0_co x5 x246000 x246001 x246002 x246003 x246004 x246005 x246006 x246007 x247000 x247001 x247002 x247003 x247004 x247005 x247006 x247007) (h := fun k => (if (wrap64 (x246004 - x246003)) ≤ 5 then (impl_Score.j1 k (wrap64 (x5 + 1)) x246000 x246001 x246002 x246003 x246004 x246005 x246006 x246007 x247000 x247001 x247002 x247003 x247004 x247005 x247006 x247007) else (impl_Score.j1 k x5 x246000 x246001 x246002 x246003 x246004 x246005 x246006 x246007 x247000 x247001 x247002 x247003 x247004 x247005 x247006 x247007))) (fun k => by first | rfl | (simp only [impl_Score.j0])) ?_
  repeat' first
    | (with_reducible exact Co.const _)
    | (with_reducible exact impl_Score.J1_co _ _ _ _ _ _ _ _ _ _ _ _ _ _ _ _ _)
    | (with_reducible refine Co.ite ?_ ?_)
    | (with_reducible refine Co.bind ?_ (fun _ => ?_))
theorem impl_Score.J1_eq (x5 : Int) (x246000 : Int) (x246001 : Int) (x246002 : List Int) (x246003 : Int) (x246004 : Int) (x246005 : List Int) (x246006 : Int) (x246007 : Int) (x247000 : Int) (x247001 : Int) (x247002 : Int) (x247003 : Int) (x247004 : Int) (x247005 : Int) (x247006 : Int) (x247007 : Int) : impl_Score.J1 x5 x246000 x246001 x246002 x246003 x246004 x246005 x246006 x246007 x247000 x247001 x247002 x247003 x247004 x247005 x247006 x247007 = ((impl_InRange.f (x246005.length : Int) 1 2).bind fun t249 => (if t249 = true then (if (wrap64 (x247006 - x246007)) ≤ 24 then (some (wrap64 ((wrap64 (x5 + 1)) + 1))) else (some (wrap64 (x5 + 1)))) else (if (wrap64 (x247006 - x246007)) ≤ 24 then (some (wrap64 (x5 + 1))) else (some x5)))) := by
  refine Co.step (impl_Score.J1_co x5 x246000 x246001 x246002 x246003 x246004 x246005 x246006 x246007 x247000 x247001 x247002 x247003 x247004 x247005 x247006 x247007) (h := fun k => ((impl_InRange.f (x246005.length : Int) 1 2).bind fun t249 => (if t249 = true then (if (wrap64 (x247006 - x246007)) ≤ 24 then (some (wrap64 ((wrap64 (x5 + 1)) + 1))) else (some (wrap64 (x5 + 1)))) else (if (wrap64 (x247006 - x246007)) ≤ 24 then (some (wrap64 (x5 + 1))) else (some x5))))) (fun k => by first | rfl | (simp only [impl_Score.j1])) ?_
  repeat' first
    | (with_reducible exact Co.const _)
    | (with_reducible refine Co.ite ?_ ?_)
    | (with_reducible refine Co.bind ?_ (fun _ => ?_))
theorem impl_Score.F_eq (a0_0 : Int) (a0_1 : Int) (l0_2 : List Int) (a0_3 : Int) (a0_4 : Int) (l0_5 : List Int) (a0_6 : Int) (a0_7 : Int) (a1_0 : Int) (a1_1 : Int) (a1_2 : Int) (a1_3 : Int) (a1_4 : Int) (a1_5 : Int) (a1_6 : Int) (a1_7 : Int) : impl_Score.F a0_0 a0_1 l0_2 a0_3 a0_4 l0_5 a0_6 a0_7 a1_0 a1_1 a1_2 a1_3 a1_4 a1_5 a1_6 a1_7 = ((impl_CanBe.F a0_0 a0_1 l0_2 a0_3 a0_4 l0_5 a0_6 a0_7 a1_0 a1_1 a1_2 a1_3 a1_4 a1_5 a1_6 a1_7).bind fun t247 => (if t247 = true then ((impl_InRange.f (l0_2.length : Int) 1 2).bind fun t248 => (if t248 = true then (impl_Score.J0 (1 + 1) a0_0 a0_1 l0_2 a0_3 a0_4 l0_5 a0_6 a0_7 a1_0 a1_1 a1_2 a1_3 a1_4 a1_5 a1_6 a1_7) else (impl_Score.J0 1 a0_0 a0_1 l0_2 a0_3 a0_4 l0_5 a0_6 a0_7 a1_0 a1_1 a1_2 a1_3 a1_4 a1_5 a1_6 a1_7))) else (some 0))) := by
  refine Co.same (impl_Score.F_co a0_0 a0_1 l0_2 a0_3 a0_4 l0_5 a0_6 a0_7 a1_0 a1_1 a1_2 a1_3 a1_4 a1_5 a1_6 a1_7) (h := fun k => ((impl_CanBe.f k a0_0 a0_1 l0_2 a0_3 a0_4 l0_5 a0_6 a0_7 a1_0 a1_1 a1_2 a1_3 a1_4 a1_5 a1_6 a1_7).bind fun t247 => (if t247 = true then ((impl_InRange.f (l0_2.length : Int) 1 2).bind fun t248 => (if t248 = true then (impl_Score.j0 k (1 + 1) a0_0 a0_1 l0_2 a0_3 a0_4 l0_5 a0_6 a0_7 a1_0 a1_1 a1_2 a1_3 a1_4 a1_5 a1_6 a1_7) else (impl_Score.j0 k 1 a0_0 a0_1 l0_2 a0_3 a0_4 l0_5 a0_6 a0_7 a1_0 a1_1 a1_2 a1_3 a1_4 a1_5 a1_6 a1_7))) else (some 0)))) (fun k => by first | rfl | unfold impl_Score.f; rfl) ?_
  repeat' first
    | (with_reducible exact Co.const _)
    | (with_reducible exact impl_CanBe.F_co _ _ _ _ _ _ _ _ _ _ _ _ _ _ _ _)
    | (with_reducible exact impl_Score.J0_co _ _ _ _ _ _ _ _ _ _ _ _ _ _ _ _ _)
    | (with_reducible refine Co.ite ?_ ?_)
    | (with_reducible refine Co.bind ?_ (fun _ => ?_))

noncomputable def impl_AreFinds.L0 (x0 : List (S98)) (x8 : List (S98)) (x9 : Int) (x10 : Int) : Option (Bool) := lim (fun k => impl_AreFinds.l0 k x0 x8 x9 x10)
theorem impl_AreFinds.L0_co (x0 : List (S98)) (x8 : List (S98)) (x9 : Int) (x10 : Int) : Co (fun k => impl_AreFinds.l0 k x0 x8 x9 x10) (impl_AreFinds.L0 x0 x8 x9 x10) := Co.base (fun k => (impl_AreFinds.mono_l k) _ _ _ _)
noncomputable def impl_AreFinds.F (l0 : List (S98)) : Option (Bool) := lim (fun k => impl_AreFinds.f k l0)
theorem impl_AreFinds.F_co (l0 : List (S98)) : Co (fun k => impl_AreFinds.f k l0) (impl_AreFinds.F l0) := Co.base (fun k => impl_AreFinds.mono _ k)
theorem impl_AreFinds.L0_eq (x0 : List (S98)) (x8 : List (S98)) (x9 : Int) (x10 : Int) : impl_AreFinds.L0 x0 x8 x9 x10 = (if x10 < x9 then (if 0 ≤ x10 then (if x10 < (x8.length : Int) then ((impl_IsFind.f ((rd_T98 x8 x10).f0.f0) ((rd_T98 x8 x10).f0.f1) ((rd_T98 x8 x10).f0.f2) ((rd_T98 x8 x10).f0.f3) ((rd_T98 x8 x10).f0.f4) ((rd_T98 x8 x10).f1) ((rd_T98 x8 x10).f2) ((rd_T98 x8 x10).f3)).bind fun t252 => (if t252 = true then (if x10 > 0 then (if 0 ≤ (wrap64 (x10 - 1)) then (if (wrap64 (x10 - 1)) < (x0.length : Int) then (if ((rd_T98 x8 x10).f0.f0) ≤ ((rd_T98 x0 (wrap64 (x10 - 1))).f0.f0) then (some false) else (impl_AreFinds.L0 x0 x8 x9 (wrap64 (x10 + 1)))) else (none)) else (none)) else (impl_AreFinds.L0 x0 x8 x9 (wrap64 (x10 + 1)))) else (some false))) else (none)) else (none)) else (some true)) := by
  refine Co.step (impl_AreFinds.L0_co x0 x8 x9 x10) (h := fun k => (if x10 < x9 then (if 0 ≤ x10 then (if x10 < (x8.length : Int) then ((impl_IsFind.f ((rd_T98 x8 x10).f0.f0) ((rd_T98 x8 x10).f0.f1) ((rd_T98 x8 x10).f0.f2) ((rd_T98 x8 x10).f0.f3) ((rd_T98 x8 x10).f0.f4) ((rd_T98 x8 x10).f1) ((rd_T98 x8 x10).f2) ((rd_T98 x8 x10).f3)).bind fun t252 => (if t252 = true then (if x10 > 0 then (if 0 ≤ (wrap64 (x10 - 1)) then (if (wrap64 (x10 - 1)) < (x0.length : Int) then (if ((rd_T98 x8 x10).f0.f0) ≤ ((rd_T98 x0 (wrap64 (x10 - 1))).f0.f0) then (some false) else (impl_AreFinds.l0 k x0 x8 x9 (wrap64 (x10 + 1)))) else (none)) else (none)) else (impl_AreFinds.l0 k x0 x8 x9 (wrap64 (x10 + 1)))) else (some false))) else (none)) else (none)) else (some true))) (fun k => by first | rfl | (simp only [impl_AreFinds.l0])) ?_
  repeat' first
    | (with_reducible exact Co.const _)
    | (with_reducible exact impl_AreFinds.L0_co _ _ _ _)
    | (with_reducible refine Co.ite ?_ ?_)
    | (with_reducible refine Co.bind ?_ (fun _ => ?_))
theorem impl_AreFinds.F_eq (l0 : List (S98)) : impl_AreFinds.F l0 = (if (l0.length : Int) > 20 then (some false) else (impl_AreFinds.L0 l0 l0 (l0.length : Int) 0)) := by
  refine Co.same (impl_AreFinds.F_co l0) (h := fun k => (if (l0.length : Int) > 20 then (some false) else (impl_AreFinds.l0 k l0 l0 (l0.length : Int) 0))) (fun k => by first | rfl | unfold impl_AreFinds.f; rfl) ?_
  repeat' first
    | (with_reducible exact Co.const _)
    | (with_reducible exact impl_AreFinds.L0_co _ _ _ _)
    | (with_reducible refine Co.ite ?_ ?_)
    | (with_reducible refine Co.bind ?_ (fun _ => ?_))

noncomputable def impl_BestOf.L0 (x5 : Int) (x6 : Int) (x14 : List (S98)) (x15 : Int) (x16 : Int) (x255000 : Int) (x255001 : Int) (x255002 : List Int) (x255003 : Int) (x255004 : Int) (x255005 : List Int) (x255006 : Int) (x255007 : Int) : Option (Int) := lim (fun k => impl_BestOf.l0 k x5 x6 x14 x15 x16 x255000 x255001 x255002 x255003 x255004 x255005 x255006 x255007)
theorem impl_BestOf.L0_co (x5 : Int) (x6 : Int) (x14 : List (S98)) (x15 : Int) (x16 : Int) (x255000 : Int) (x255001 : Int) (x255002 : List Int) (x255003 : Int) (x255004 : Int) (x255005 : List Int) (x255006 : Int) (x255007 : Int) : Co (fun k => impl_BestOf.l0 k x5 x6 x14 x15 x16 x255000 x255001 x255002 x255003 x255004 x255005 x255006 x255007) (impl_BestOf.L0 x5 x6 x14 x15 x16 x255000 x255001 x255002 x255003 x255004 x255005 x255006 x255007) := Co.base (fun k => (impl_BestOf.mono_l k) _ _ _ _ _ _ _ _ _ _ _ _ _)
noncomputable def impl_BestOf.F (a0_0 : Int) (a0_1 : Int) (l0_2 : List Int) (a0_3 : Int) (a0_4 : Int) (l0_5 : List Int) (a0_6 : Int) (a0_7 : Int) (l1 : List (S98)) : Option (Int) := lim (fun k => impl_BestOf.f k a0_0 a0_1 l0_2 a0_3 a0_4 l0_5 a0_6 a0_7 l1)
theorem impl_BestOf.F_co (a0_0 : Int) (a0_1 : Int) (l0_2 : List Int) (a0_3 : Int) (a0_4 : Int) (l0_5 : List Int) (a0_6 : Int) (a0_7 : Int) (l1 : List (S98)) : Co (fun k => impl_BestOf.f k a0_0 a0_1 l0_2 a0_3 a0_4 l0_5 a0_6 a0_7 l1) (impl_BestOf.F a0_0 a0_1 l0_2 a0_3 a0_4 l0_5 a0_6 a0_7 l1) := Co.base (fun k => impl_BestOf.mono _ _ _ _ _ _ _ _ _ k)
theorem impl_BestOf.L0_eq (x5 : Int) (x6 : Int) (x14 : List (S98)) (x15 : Int) (x16 : Int) (x255000 : Int) (x255001 : Int) (x255002 : List Int) (x255003 : Int) (x255004 : Int) (x255005 : List Int) (x255006 : Int) (x255007 : Int) : impl_BestOf.L0 x5 x6 x14 x15 x16 x255000 x255001 x255002 x255003 x255004 x255005 x255006 x255007 = (if x16 < x15 then (if 0 ≤ x16 then (if x16 < (x14.length : Int) then ((impl_Score.F x255000 x255001 x255002 x255003 x255004 x255005 x255006 x255007 ((rd_T98 x14 x16).f0.f0) ((rd_T98 x14 x16).f0.f1) ((rd_T98 x14 x16).f0.f2) ((rd_T98 x14 x16).f0.f3) ((rd_T98 x14 x16).f0.f4) ((rd_T98 x14 x16).f1) ((rd_T98 x14 x16).f2) ((rd_T98 x14 x16).f3)).bind fun t258 => (if t258 > x6 then (impl_BestOf.L0 ((rd_T98 x14 x16).f0.f0) t258 x14 x15 (wrap64 (x16 + 1)) x255000 x255001 x255002 x255003 x255004 x255005 x255006 x255007) else (impl_BestOf.L0 x5 x6 x14 x15 (wrap64 (x16 + 1)) x255000 x255001 x255002 x255003 x255004 x255005 x255006 x255007))) else (none)) else (none)) else (some x5)) := by
  refine Co.step (impl_BestOf.L0_co x5 x6 x14 x15 x16 x255000 x255001 x255002 x255003 x255004 x255005 x255006 x255007) (h := fun k => (if x16 < x15 then (if 0 ≤ x16 then (if x16 < (x14.length : Int) then ((impl_Score.f k x255000 x255001 x255002 x255003 x255004 x255005 x255006 x255007 ((rd_T98 x14 x16).f0.f0) ((rd_T98 x14 x16).f0.f1) ((rd_T98 x14 x16).f0.f2) ((rd_T98 x14 x16).f0.f3) ((rd_T98 x14 x16).f0.f4) ((rd_T98 x14 x16).f1) ((rd_T98 x14 x16).f2) ((rd_T98 x14 x16).f3)).bind fun t258 => (if t258 > x6 then (impl_BestOf.l0 k ((rd_T98 x14 x16).f0.f0) t258 x14 x15 (wrap64 (x16 + 1)) x255000 x255001 x255002 x255003 x255004 x255005 x255006 x255007) else (impl_BestOf.l0 k x5 x6 x14 x15 (wrap64 (x16 + 1)) x255000 x255001 x255002 x255003 x255004 x255005 x255006 x255007))) else (none)) else (none)) else (some x5))) (fun k => by first | rfl | (simp only [impl_BestOf.l0])) ?_
  repeat' first
    | (with_reducible exact Co.const _)
    | (with_reducible exact impl_BestOf.L0_co _ _ _ _ _ _ _ _ _ _ _ _ _)
    | (with_reducible exact impl_Score.F_co _ _ _ _ _ _ _ _ _ _ _ _ _ _ _ _)
    | (with_reducible refine Co.ite ?_ ?_)
    | (with_reducible refine Co.bind ?_ (fun _ => ?_))
theorem impl_BestOf.F_eq (a0_0 : Int) (a0_1 : Int) (l0_2 : List Int) (a0_3 : Int) (a0_4 : Int) (l0_5 : List Int) (a0_6 : Int) (a0_7 : Int) (l1 : List (S98)) : impl_BestOf.F a0_0 a0_1 l0_2 a0_3 a0_4 l0_5 a0_6 a0_7 l1 = ((impl_AreFinds.F l1).bind fun t255 => (if t255 = true then (impl_BestOf.L0 0 0 l1 (l1.length : Int) 0 a0_0 a0_1 l0_2 a0_3 a0_4 l0_5 a0_6 a0_7) else (some 0))) := by
  refine Co.same (impl_BestOf.F_co a0_0 a0_1 l0_2 a0_3 a0_4 l0_5 a0_6 a0_7 l1) (h := fun k => ((impl_AreFinds.f k l1).bind fun t255 => (if t255 = true then (impl_BestOf.l0 k 0 0 l1 (l1.length : Int) 0 a0_0 a0_1 l0_2 a0_3 a0_4 l0_5 a0_6 a0_7) else (some 0)))) (fun k => by first | rfl | unfold impl_BestOf.f; rfl) ?_
  repeat' first
    | (with_reducible exact Co.const _)
    | (with_reducible exact impl_AreFinds.F_co _)
    | (with_reducible exact impl_BestOf.L0_co _ _ _ _ _ _ _ _ _ _ _ _ _)
    | (with_reducible refine Co.ite ?_ ?_)
    | (with_reducible refine Co.bind ?_ (fun _ => ?_))

noncomputable def laws_eqFindS.L0 (x0 : List (S98)) (x1 : List (S98)) (x5 : Int) : Option (Bool) := lim (fun k => laws_eqFindS.l0 k x0 x1 x5)
theorem laws_eqFindS.L0_co (x0 : List (S98)) (x1 : List (S98)) (x5 : Int) : Co (fun k => laws_eqFindS.l0 k x0 x1 x5) (laws_eqFindS.L0 x0 x1 x5) := Co.base (fun k => (laws_eqFindS.mono_l k) _ _ _)
noncomputable def laws_eqFindS.F (l0 : List (S98)) (l1 : List (S98)) : Option (Bool) := lim (fun k => laws_eqFindS.f k l0 l1)
theorem laws_eqFindS.F_co (l0 : List (S98)) (l1 : List (S98)) : Co (fun k => laws_eqFindS.f k l0 l1) (laws_eqFindS.F l0 l1) := Co.base (fun k => laws_eqFindS.mono _ _ k)
theorem laws_eqFindS.L0_eq (x0 : List (S98)) (x1 : List (S98)) (x5 : Int) : laws_eqFindS.L0 x0 x1 x5 = (if x5 < (x0.length : Int) then (if 0 ≤ x5 then (if x5 < (x1.length : Int) then ((laws_eqFind.f ((rd_T98 x0 x5).f0.f0) ((rd_T98 x0 x5).f0.f1) ((rd_T98 x0 x5).f0.f2) ((rd_T98 x0 x5).f0.f3) ((rd_T98 x0 x5).f0.f4) ((rd_T98 x0 x5).f1) ((rd_T98 x0 x5).f2) ((rd_T98 x0 x5).f3) ((rd_T98 x1 x5).f0.f0) ((rd_T98 x1 x5).f0.f1) ((rd_T98 x1 x5).f0.f2) ((rd_T98 x1 x5).f0.f3) ((rd_T98 x1 x5).f0.f4) ((rd_T98 x1 x5).f1) ((rd_T98 x1 x5).f2) ((rd_T98 x1 x5).f3)).bind fun t266 => (if t266 = true then (laws_eqFindS.L0 x0 x1 (wrap64 (x5 + 1))) else (some false))) else (none)) else (none)) else (some true)) := by
  refine Co.step (laws_eqFindS.L0_co x0 x1 x5) (h := fun k => (if x5 < (x0.length : Int) then (if 0 ≤ x5 then (if x5 < (x1.length : Int) then ((laws_eqFind.f ((rd_T98 x0 x5).f0.f0) ((rd_T98 x0 x5).f0.f1) ((rd_T98 x0 x5).f0.f2) ((rd_T98 x0 x5).f0.f3) ((rd_T98 x0 x5).f0.f4) ((rd_T98 x0 x5).f1) ((rd_T98 x0 x5).f2) ((rd_T98 x0 x5).f3) ((rd_T98 x1 x5).f0.f0) ((rd_T98 x1 x5).f0.f1) ((rd_T98 x1 x5).f0.f2) ((rd_T98 x1 x5).f0.f3) ((rd_T98 x1 x5).f0.f4) ((rd_T98 x1 x5).f1) ((rd_T98 x1 x5).f2) ((rd_T98 x1 x5).f3)).bind fun t266 => (if t266 = true then (laws_eqFindS.l0 k x0 x1 (wrap64 (x5 + 1))) else (some false))) else (none)) else (none)) else (some true))) (fun k => by first | rfl | (simp only [laws_eqFindS.l0])) ?_
  repeat' first
    | (with_reducible exact Co.const _)
    | (with_reducible exact laws_eqFindS.L0_co _ _ _)
    | (with_reducible refine Co.ite ?_ ?_)
    | (with_reducible refine Co.bind ?_ (fun _ => ?_))
theorem laws_eqFindS.F_eq (l0 : List (S98)) (l1 : List (S98)) : laws_eqFindS.F l0 l1 = (if (l0.length : Int) = (l1.length : Int) then (laws_eqFindS.L0 l0 l1 0) else (some false)) := by
  refine Co.same (laws_eqFindS.F_co l0 l1) (h := fun k => (if (l0.length : Int) = (l1.length : Int) then (laws_eqFindS.l0 k l0 l1 0) else (some false))) (fun k => by first | rfl | unfold laws_eqFindS.f; rfl) ?_
  repeat' first
    | (with_reducible exact Co.const _)
    | (with_reducible exact laws_eqFindS.L0_co _ _ _)
    | (with_reducible refine Co.ite ?_ ?_)
    | (with_reducible refine Co.bind ?_ (fun _ => ?_))

noncomputable def laws_FnExactBestOf.F (a0_0 : Int) (a0_1 : Int) (l0_2 : List Int) (a0_3 : Int) (a0_4 : Int) (l0_5 : List Int) (a0_6 : Int) (a0_7 : Int) (l1 : List (S92)) : Option (Bool) := lim (fun k => laws_FnExactBestOf.f k a0_0 a0_1 l0_2 a0_3 a0_4 l0_5 a0_6 a0_7 l1)
theorem laws_FnExactBestOf.F_co (a0_0 : Int) (a0_1 : Int) (l0_2 : List Int) (a0_3 : Int) (a0_4 : Int) (l0_5 : List Int) (a0_6 : Int) (a0_7 : Int) (l1 : List (S92)) : Co (fun k => laws_FnExactBestOf.f k a0_0 a0_1 l0_2 a0_3 a0_4 l0_5 a0_6 a0_7 l1) (laws_FnExactBestOf.F a0_0 a0_1 l0_2 a0_3 a0_4 l0_5 a0_6 a0_7 l1) := Co.base (fun k => laws_FnExactBestOf.mono _ _ _ _ _ _ _ _ _ k)
theorem laws_FnExactBestOf.F_eq (a0_0 : Int) (a0_1 : Int) (l0_2 : List Int) (a0_3 : Int) (a0_4 : Int) (l0_5 : List Int) (a0_6 : Int) (a0_7 : Int) (l1 : List (S92)) : laws_FnExactBestOf.F a0_0 a0_1 l0_2 a0_3 a0_4 l0_5 a0_6 a0_7 l1 = ((laws_szReport.f a0_0 a0_1 l0_2 a0_3 a0_4 l0_5 a0_6 a0_7 1048576).bind fun t268 => (if t268 < 0 then (some true) else ((laws_szFindS.f l1 t268).bind fun t269 => (if t269 < 0 then (some true) else ((laws_toReport.F a0_0 a0_1 l0_2 a0_3 a0_4 l0_5 a0_6 a0_7).bind fun bt270 => ((laws_toFindS.F l1).bind fun t282 => ((spec_BestOf.F bt270.1 bt270.2.1 bt270.2.2.1 bt270.2.2.2.1 bt270.2.2.2.2.1 bt270.2.2.2.2.2.1 bt270.2.2.2.2.2.2.1 bt270.2.2.2.2.2.2.2 t282).bind fun t285 => ((laws_toReport.F a0_0 a0_1 l0_2 a0_3 a0_4 l0_5 a0_6 a0_7).bind fun bt286 => ((laws_toFindS.F l1).bind fun t299 => ((impl_BestOf.F bt286.1 bt286.2.1 bt286.2.2.1 bt286.2.2.2.1 bt286.2.2.2.2.1 bt286.2.2.2.2.2.1 bt286.2.2.2.2.2.2.1 bt286.2.2.2.2.2.2.2 t299).bind fun t302 => (if t302 = t285 then ((laws_toReport.F a0_0 a0_1 l0_2 a0_3 a0_4 l0_5 a0_6 a0_7).bind fun bt303 => ((laws_eqReport.F bt286.1 bt286.2.1 bt286.2.2.1 bt286.2.2.2.1 bt286.2.2.2.2.1 bt286.2.2.2.2.2.1 bt286.2.2.2.2.2.2.1 bt286.2.2.2.2.2.2.2 bt303.1 bt303.2.1 bt303.2.2.1 bt303.2.2.2.1 bt303.2.2.2.2.1 bt303.2.2.2.2.2.1 bt303.2.2.2.2.2.2.1 bt303.2.2.2.2.2.2.2).bind fun t315 => (if t315 = true then ((laws_toFindS.F l1).bind fun t316 => ((laws_eqFindS.F t299 t316).bind fun t319 => (if t319 = true then (some true) else (some false)))) else (some false)))) else (some false)))))))))))) := by
  refine Co.same (laws_FnExactBestOf.F_co a0_0 a0_1 l0_2 a0_3 a0_4 l0_5 a0_6 a0_7 l1) (h := fun k => ((laws_szReport.f a0_0 a0_1 l0_2 a0_3 a0_4 l0_5 a0_6 a0_7 1048576).bind fun t268 => (if t268 < 0 then (some true) else ((laws_szFindS.f l1 t268).bind fun t269 => (if t269 < 0 then (some true) else ((laws_toReport.f k a0_0 a0_1 l0_2 a0_3 a0_4 l0_5 a0_6 a0_7).bind fun bt270 => ((laws_toFindS.f k l1).bind fun t282 => ((spec_BestOf.f k bt270.1 bt270.2.1 bt270.2.2.1 bt270.2.2.2.1 bt270.2.2.2.2.1 bt270.2.2.2.2.2.1 bt270.2.2.2.2.2.2.1 bt270.2.2.2.2.2.2.2 t282).bind fun t285 => ((laws_toReport.f k a0_0 a0_1 l0_2 a0_3 a0_4 l0_5 a0_6 a0_7).bind fun bt286 => ((laws_toFindS.f k l1).bind fun t299 => ((impl_BestOf.f k bt286.1 bt286.2.1 bt286.2.2.1 bt286.2.2.2.1 bt286.2.2.2.2.1 bt286.2.2.2.2.2.1 bt286.2.2.2.2.2.2.1 bt286.2.2.2.2.2.2.2 t299).bind fun t302 => (if t302 = t285 then ((laws_toReport.f k a0_0 a0_1 l0_2 a0_3 a0_4 l0_5 a0_6 a0_7).bind fun bt303 => ((laws_eqReport.f k bt286.1 bt286.2.1 bt286.2.2.1 bt286.2.2.2.1 bt286.2.2.2.2.1 bt286.2.2.2.2.2.1 bt286.2.2.2.2.2.2.1 bt286.2.2.2.2.2.2.2 bt303.1 bt303.2.1 bt303.2.2.1 bt303.2.2.2.1 bt303.2.2.2.2.1 bt303.2.2.2.2.2.1 bt303.2.2.2.2.2.2.1 bt303.2.2.2.2.2.2.2).bind fun t315 => (if t315 = true then ((laws_toFindS.f k l1).bind fun t316 => ((laws_eqFindS.f k t299 t316).bind fun t319 => (if t319 = true then (some true) else (some false)))) else (some false)))) else (some false))))))))))))) (fun k => by first | rfl | unfold laws_FnExactBestOf.f; rfl) ?_
  repeat' first
    | (with_reducible exact Co.const _)
    | (with_reducible exact impl_BestOf.F_co _ _ _ _ _ _ _ _ _)
    | (with_reducible exact laws_eqFindS.F_co _ _)
    | (with_reducible exact laws_eqReport.F_co _ _ _ _ _ _ _ _ _ _ _ _ _ _ _ _)
    | (with_reducible exact laws_toFindS.F_co _)
    | (with_reducible exact laws_toReport.F_co _ _ _ _ _ _ _ _)
    | (with_reducible exact spec_BestOf.F_co _ _ _ _ _ _ _ _ _)
    | (with_reducible refine Co.ite ?_ ?_)
    | (with_reducible refine Co.bind ?_ (fun _ => ?_))

end Go.Proofs.Ytppgealmedaihaa.PFnExactBestOf.Pure
