/-
  The printed functions that this law reaches, their rounds used up, and the equations that they meet.
-/
import Derived.Test.YtjokfllhbmodeaaPFnExactTrialStatex1
import Derived.Test.YtjokfllhbmodeaaPFnExactTrialStatex2
import Derived.Test.YtjokfllhbmodeaaPFnExactTrialStatex3
import Derived.Test.YtjokfllhbmodeaaPFnExactTrialStatex4
import Derived.Test.YtjokfllhbmodeaaPFnExactTrialStatex5
import Derived.Test.YtjokfllhbmodeaaLim
namespace Go.Proofs.Ytjokfllhbmodeaa.PFnExactTrialState.Pure
open Go.RowKit Go.Proofs.YtjokfllhbmodeaaW.PrintWords Go.Proofs.YtjokfllhbmodeaaW.PrintLast Go.Proofs.YtjokfllhbmodeaaW.PrintMore Go.Proofs.Ytjokfllhbmodeaa.PFnExactTrialState Go.Proofs.Ytjokfllhbmodeaa.Lim
set_option linter.unusedVariables false
set_option maxRecDepth 100000

noncomputable def laws_toMarkS.L0 (x0 : List (S130)) (x3 : List (S127)) (x4 : Int) : Option ((List (S127))) := lim (fun k => laws_toMarkS.l0 k x0 x3 x4)
theorem laws_toMarkS.L0_co (x0 : List (S130)) (x3 : List (S127)) (x4 : Int) : Co (fun k => laws_toMarkS.l0 k x0 x3 x4) (laws_toMarkS.L0 x0 x3 x4) := Co.base (fun k => (laws_toMarkS.mono_l k) _ _ _)
noncomputable def laws_toMarkS.F (l0 : List (S130)) : Option ((List (S127))) := lim (fun k => laws_toMarkS.f k l0)
theorem laws_toMarkS.F_co (l0 : List (S130)) : Co (fun k => laws_toMarkS.f k l0) (laws_toMarkS.F l0) := Co.base (fun k => laws_toMarkS.mono _ k)
theorem laws_toMarkS.L0_eq (x0 : List (S130)) (x3 : List (S127)) (x4 : Int) : laws_toMarkS.L0 x0 x3 x4 = (if x4 < (x0.length : Int) then (if 0 ≤ x4 then ((laws_toMark.f ((rd_T130 x0 x4).f0) ((rd_T130 x0 x4).f1)).bind fun bt108 => (if x4 < (x3.length : Int) then (laws_toMarkS.L0 x0 (x3.set (x4 : Int).toNat (⟨bt108.1, bt108.2⟩ : S127)) (wrap64 (x4 + 1))) else (none))) else (none)) else (some x3)) := by
  refine Co.step (laws_toMarkS.L0_co x0 x3 x4) (h := fun k => (if x4 < (x0.length : Int) then (if 0 ≤ x4 then ((laws_toMark.f ((rd_T130 x0 x4).f0) ((rd_T130 x0 x4).f1)).bind fun bt108 => (if x4 < (x3.length : Int) then (laws_toMarkS.l0 k x0 (x3.set (x4 : Int).toNat (⟨bt108.1, bt108.2⟩ : S127)) (wrap64 (x4 + 1))) else (none))) else (none)) else (some x3))) (fun k => by first | rfl | (simp only [laws_toMarkS.l0])) ?_
  repeat' first
    | (with_reducible exact Co.const _)
    | (with_reducible exact laws_toMarkS.L0_co _ _ _)
    | (with_reducible refine Co.ite ?_ ?_)
    | (with_reducible refine Co.bind ?_ (fun _ => ?_))
theorem laws_toMarkS.F_eq (l0 : List (S130)) : laws_toMarkS.F l0 = (if 0 ≤ (l0.length : Int) then (if ((l0.length : Int) : Int).toNat ≤ 17592186044416 then (laws_toMarkS.L0 l0 (List.replicate ((l0.length : Int) : Int).toNat z127) 0) else (none)) else (none)) := by
  refine Co.same (laws_toMarkS.F_co l0) (h := fun k => (if 0 ≤ (l0.length : Int) then (if ((l0.length : Int) : Int).toNat ≤ 17592186044416 then (laws_toMarkS.l0 k l0 (List.replicate ((l0.length : Int) : Int).toNat z127) 0) else (none)) else (none))) (fun k => by first | rfl | unfold laws_toMarkS.f; rfl) ?_
  repeat' first
    | (with_reducible exact Co.const _)
    | (with_reducible exact laws_toMarkS.L0_co _ _ _)
    | (with_reducible refine Co.ite ?_ ?_)
    | (with_reducible refine Co.bind ?_ (fun _ => ?_))

noncomputable def laws_eqMarkS.L0 (x0 : List (S127)) (x1 : List (S127)) (x5 : Int) : Option (Bool) := lim (fun k => laws_eqMarkS.l0 k x0 x1 x5)
theorem laws_eqMarkS.L0_co (x0 : List (S127)) (x1 : List (S127)) (x5 : Int) : Co (fun k => laws_eqMarkS.l0 k x0 x1 x5) (laws_eqMarkS.L0 x0 x1 x5) := Co.base (fun k => (laws_eqMarkS.mono_l k) _ _ _)
noncomputable def laws_eqMarkS.F (l0 : List (S127)) (l1 : List (S127)) : Option (Bool) := lim (fun k => laws_eqMarkS.f k l0 l1)
theorem laws_eqMarkS.F_co (l0 : List (S127)) (l1 : List (S127)) : Co (fun k => laws_eqMarkS.f k l0 l1) (laws_eqMarkS.F l0 l1) := Co.base (fun k => laws_eqMarkS.mono _ _ k)
theorem laws_eqMarkS.L0_eq (x0 : List (S127)) (x1 : List (S127)) (x5 : Int) : laws_eqMarkS.L0 x0 x1 x5 = (if x5 < (x0.length : Int) then (if 0 ≤ x5 then (if x5 < (x1.length : Int) then ((laws_eqMark.f ((rd_T127 x0 x5).f0) ((rd_T127 x0 x5).f1) ((rd_T127 x1 x5).f0) ((rd_T127 x1 x5).f1)).bind fun t115 => (if t115 = true then (laws_eqMarkS.L0 x0 x1 (wrap64 (x5 + 1))) else (some false))) else (none)) else (none)) else (some true)) := by
  refine Co.step (laws_eqMarkS.L0_co x0 x1 x5) (h := fun k => (if x5 < (x0.length : Int) then (if 0 ≤ x5 then (if x5 < (x1.length : Int) then ((laws_eqMark.f ((rd_T127 x0 x5).f0) ((rd_T127 x0 x5).f1) ((rd_T127 x1 x5).f0) ((rd_T127 x1 x5).f1)).bind fun t115 => (if t115 = true then (laws_eqMarkS.l0 k x0 x1 (wrap64 (x5 + 1))) else (some false))) else (none)) else (none)) else (some true))) (fun k => by first | rfl | (simp only [laws_eqMarkS.l0])) ?_
  repeat' first
    | (with_reducible exact Co.const _)
    | (with_reducible exact laws_eqMarkS.L0_co _ _ _)
    | (with_reducible refine Co.ite ?_ ?_)
    | (with_reducible refine Co.bind ?_ (fun _ => ?_))
theorem laws_eqMarkS.F_eq (l0 : List (S127)) (l1 : List (S127)) : laws_eqMarkS.F l0 l1 = (if (l0.length : Int) = (l1.length : Int) then (laws_eqMarkS.L0 l0 l1 0) else (some false)) := by
  refine Co.same (laws_eqMarkS.F_co l0 l1) (h := fun k => (if (l0.length : Int) = (l1.length : Int) then (laws_eqMarkS.l0 k l0 l1 0) else (some false))) (fun k => by first | rfl | unfold laws_eqMarkS.f; rfl) ?_
  repeat' first
    | (with_reducible exact Co.const _)
    | (with_reducible exact laws_eqMarkS.L0_co _ _ _)
    | (with_reducible refine Co.ite ?_ ?_)
    | (with_reducible refine Co.bind ?_ (fun _ => ?_))

noncomputable def spec_AreMarks.L0 (x0 : List (S127)) (x3 : Int) : Option (Bool) := lim (fun k => spec_AreMarks.l0 k x0 x3)
theorem spec_AreMarks.L0_co (x0 : List (S127)) (x3 : Int) : Co (fun k => spec_AreMarks.l0 k x0 x3) (spec_AreMarks.L0 x0 x3) := Co.base (fun k => (spec_AreMarks.mono_l k) _ _)
noncomputable def spec_AreMarks.F (l0 : List (S127)) : Option (Bool) := lim (fun k => spec_AreMarks.f k l0)
theorem spec_AreMarks.F_co (l0 : List (S127)) : Co (fun k => spec_AreMarks.f k l0) (spec_AreMarks.F l0) := Co.base (fun k => spec_AreMarks.mono _ k)
theorem spec_AreMarks.L0_eq (x0 : List (S127)) (x3 : Int) : spec_AreMarks.L0 x0 x3 = (if x3 < (x0.length : Int) then (if 0 ≤ x3 then ((spec_l1In.f ((rd_T127 x0 x3).f0) 1 20).bind fun t121 => (if t121 = true then ((spec_l1In.f ((rd_T127 x0 x3).f1) 0 99).bind fun t123 => (if t123 = true then (if x3 > 0 then (if 0 ≤ (wrap64 (x3 - 1)) then (if (wrap64 (x3 - 1)) < (x0.length : Int) then (if ((rd_T127 x0 (wrap64 (x3 - 1))).f0) ≥ ((rd_T127 x0 x3).f0) then (some false) else (spec_AreMarks.L0 x0 (wrap64 (x3 + 1)))) else (none)) else (none)) else (spec_AreMarks.L0 x0 (wrap64 (x3 + 1)))) else (some false))) else (some false))) else (none)) else (some (decide ((x0.length : Int) ≤ 8)))) := by
  refine Co.step (spec_AreMarks.L0_co x0 x3) (h := fun k => (if x3 < (x0.length : Int) then (if 0 ≤ x3 then ((spec_l1In.f ((rd_T127 x0 x3).f0) 1 20).bind fun t121 => (if t121 = true then ((spec_l1In.f ((rd_T127 x0 x3).f1) 0 99).bind fun t123 => (if t123 = true then (if x3 > 0 then (if 0 ≤ (wrap64 (x3 - 1)) then (if (wrap64 (x3 - 1)) < (x0.length : Int) then (if ((rd_T127 x0 (wrap64 (x3 - 1))).f0) ≥ ((rd_T127 x0 x3).f0) then (some false) else (spec_AreMarks.l0 k x0 (wrap64 (x3 + 1)))) else (none)) else (none)) else (spec_AreMarks.l0 k x0 (wrap64 (x3 + 1)))) else (some false))) else (some false))) else (none)) else (some (decide ((x0.length : Int) ≤ 8))))) (fun k => by first | rfl | (simp only [spec_AreMarks.l0])) ?_
  repeat' first
    | (with_reducible exact Co.const _)
    | (with_reducible exact spec_AreMarks.L0_co _ _)
    | (with_reducible refine Co.ite ?_ ?_)
    | (with_reducible refine Co.bind ?_ (fun _ => ?_))
theorem spec_AreMarks.F_eq (l0 : List (S127)) : spec_AreMarks.F l0 = (spec_AreMarks.L0 l0 0) := by
  refine Co.same (spec_AreMarks.F_co l0) (h := fun k => (spec_AreMarks.l0 k l0 0)) (fun k => by first | rfl | unfold spec_AreMarks.f; rfl) ?_
  repeat' first
    | (with_reducible exact Co.const _)
    | (with_reducible exact spec_AreMarks.L0_co _ _)
    | (with_reducible refine Co.ite ?_ ?_)
    | (with_reducible refine Co.bind ?_ (fun _ => ?_))

noncomputable def spec_TrialState.J0 (x0 : List (S127)) (x5 : Bool) (x128000 : Int) (x128001 : Int) (x128002 : Int) (x128003 : Int) : Option (Int) := lim (fun k => spec_TrialState.j0 k x0 x5 x128000 x128001 x128002 x128003)
theorem spec_TrialState.J0_co (x0 : List (S127)) (x5 : Bool) (x128000 : Int) (x128001 : Int) (x128002 : Int) (x128003 : Int) : Co (fun k => spec_TrialState.j0 k x0 x5 x128000 x128001 x128002 x128003) (spec_TrialState.J0 x0 x5 x128000 x128001 x128002 x128003) := Co.base (fun k => (spec_TrialState.mono_l k) _ _ _ _ _ _)
noncomputable def spec_TrialState.F (l0 : List (S127)) (a1_0 : Int) (a1_1 : Int) (a1_2 : Int) (a1_3 : Int) : Option (Int) := lim (fun k => spec_TrialState.f k l0 a1_0 a1_1 a1_2 a1_3)
theorem spec_TrialState.F_co (l0 : List (S127)) (a1_0 : Int) (a1_1 : Int) (a1_2 : Int) (a1_3 : Int) : Co (fun k => spec_TrialState.f k l0 a1_0 a1_1 a1_2 a1_3) (spec_TrialState.F l0 a1_0 a1_1 a1_2 a1_3) := Co.base (fun k => spec_TrialState.mono _ _ _ _ _ k)
theorem spec_TrialState.J0_eq (x0 : List (S127)) (x5 : Bool) (x128000 : Int) (x128001 : Int) (x128002 : Int) (x128003 : Int) : spec_TrialState.J0 x0 x5 x128000 x128001 x128002 x128003 = (if x5 = true then (some 2) else (if (x0.length : Int) > 0 then ((spec_NeedFor.f x0).bind fun t130 => (if x128002 ≥ t130 then (some 1) else (some 0))) else (some 0))) := by
  refine Co.step (spec_TrialState.J0_co x0 x5 x128000 x128001 x128002 x128003) (h := fun k => (if x5 = true then (some 2) else (if (x0.length : Int) > 0 then ((spec_NeedFor.f x0).bind fun t130 => (if x128002 ≥ t130 then (some 1) else (some 0))) else (some 0)))) (fun k => by first | rfl | (simp only [spec_TrialState.j0])) ?_
  repeat' first
    | (with_reducible exact Co.const _)
    | (with_reducible refine Co.ite ?_ ?_)
    | (with_reducible refine Co.bind ?_ (fun _ => ?_))
theorem spec_TrialState.F_eq (l0 : List (S127)) (a1_0 : Int) (a1_1 : Int) (a1_2 : Int) (a1_3 : Int) : spec_TrialState.F l0 a1_0 a1_1 a1_2 a1_3 = ((spec_IsTrial.f a1_0 a1_1 a1_2 a1_3).bind fun t128 => (if t128 = true then ((spec_AreMarks.F l0).bind fun t129 => (if t129 = true then (spec_TrialState.J0 l0 (decide (a1_3 > 1)) a1_0 a1_1 a1_2 a1_3) else (spec_TrialState.J0 l0 true a1_0 a1_1 a1_2 a1_3))) else (spec_TrialState.J0 l0 true a1_0 a1_1 a1_2 a1_3))) := by
  refine Co.same (spec_TrialState.F_co l0 a1_0 a1_1 a1_2 a1_3) (h := fun k => ((spec_IsTrial.f a1_0 a1_1 a1_2 a1_3).bind fun t128 => (if t128 = true then ((spec_AreMarks.f k l0).bind fun t129 => (if t129 = true then (spec_TrialState.j0 k l0 (decide (a1_3 > 1)) a1_0 a1_1 a1_2 a1_3) else (spec_TrialState.j0 k l0 true a1_0 a1_1 a1_2 a1_3))) else (spec_TrialState.j0 k l0 true a1_0 a1_1 a1_2 a1_3)))) (fun k => by first | rfl | unfold spec_TrialState.f; rfl) ?_
  repeat' first
    | (with_reducible exact Co.const _)
    | (with_reducible exact spec_AreMarks.F_co _)
    | (with_reducible exact spec_TrialState.J0_co _ _ _ _ _ _)
    | (with_reducible refine Co.ite ?_ ?_)
    | (with_reducible refine Co.bind ?_ (fun _ => ?_))

noncomputable def impl_AreMarks.L0 (x0 : List (S127)) (x8 : List (S127)) (x9 : Int) (x10 : Int) : Option (Bool) := lim (fun k => impl_AreMarks.l0 k x0 x8 x9 x10)
theorem impl_AreMarks.L0_co (x0 : List (S127)) (x8 : List (S127)) (x9 : Int) (x10 : Int) : Co (fun k => impl_AreMarks.l0 k x0 x8 x9 x10) (impl_AreMarks.L0 x0 x8 x9 x10) := Co.base (fun k => (impl_AreMarks.mono_l k) _ _ _ _)
noncomputable def impl_AreMarks.F (l0 : List (S127)) : Option (Bool) := lim (fun k => impl_AreMarks.f k l0)
theorem impl_AreMarks.F_co (l0 : List (S127)) : Co (fun k => impl_AreMarks.f k l0) (impl_AreMarks.F l0) := Co.base (fun k => impl_AreMarks.mono _ k)
theorem impl_AreMarks.L0_eq (x0 : List (S127)) (x8 : List (S127)) (x9 : Int) (x10 : Int) : impl_AreMarks.L0 x0 x8 x9 x10 = (if x10 < x9 then (if 0 ≤ x10 then (if x10 < (x8.length : Int) then ((impl_InRange.f ((rd_T127 x8 x10).f0) 1 20).bind fun t140 => (if t140 = true then ((impl_InRange.f ((rd_T127 x8 x10).f1) 0 99).bind fun t141 => (if t141 = true then (if x10 > 0 then (if 0 ≤ (wrap64 (x10 - 1)) then (if (wrap64 (x10 - 1)) < (x0.length : Int) then (if ((rd_T127 x8 x10).f0) ≤ ((rd_T127 x0 (wrap64 (x10 - 1))).f0) then (some false) else (impl_AreMarks.L0 x0 x8 x9 (wrap64 (x10 + 1)))) else (none)) else (none)) else (impl_AreMarks.L0 x0 x8 x9 (wrap64 (x10 + 1)))) else (some false))) else (some false))) else (none)) else (none)) else (some true)) := by
  refine Co.step (impl_AreMarks.L0_co x0 x8 x9 x10) (h := fun k => (if x10 < x9 then (if 0 ≤ x10 then (if x10 < (x8.length : Int) then ((impl_InRange.f ((rd_T127 x8 x10).f0) 1 20).bind fun t140 => (if t140 = true then ((impl_InRange.f ((rd_T127 x8 x10).f1) 0 99).bind fun t141 => (if t141 = true then (if x10 > 0 then (if 0 ≤ (wrap64 (x10 - 1)) then (if (wrap64 (x10 - 1)) < (x0.length : Int) then (if ((rd_T127 x8 x10).f0) ≤ ((rd_T127 x0 (wrap64 (x10 - 1))).f0) then (some false) else (impl_AreMarks.l0 k x0 x8 x9 (wrap64 (x10 + 1)))) else (none)) else (none)) else (impl_AreMarks.l0 k x0 x8 x9 (wrap64 (x10 + 1)))) else (some false))) else (some false))) else (none)) else (none)) else (some true))) (fun k => by first | rfl | (simp only [impl_AreMarks.l0])) ?_
  repeat' first
    | (with_reducible exact Co.const _)
    | (with_reducible exact impl_AreMarks.L0_co _ _ _ _)
    | (with_reducible refine Co.ite ?_ ?_)
    | (with_reducible refine Co.bind ?_ (fun _ => ?_))
theorem impl_AreMarks.F_eq (l0 : List (S127)) : impl_AreMarks.F l0 = (if (l0.length : Int) > 8 then (some false) else (impl_AreMarks.L0 l0 l0 (l0.length : Int) 0)) := by
  refine Co.same (impl_AreMarks.F_co l0) (h := fun k => (if (l0.length : Int) > 8 then (some false) else (impl_AreMarks.l0 k l0 l0 (l0.length : Int) 0))) (fun k => by first | rfl | unfold impl_AreMarks.f; rfl) ?_
  repeat' first
    | (with_reducible exact Co.const _)
    | (with_reducible exact impl_AreMarks.L0_co _ _ _ _)
    | (with_reducible refine Co.ite ?_ ?_)
    | (with_reducible refine Co.bind ?_ (fun _ => ?_))

noncomputable def impl_TrialState.J0 (x0 : List (S127)) (x5 : Bool) (x144000 : Int) (x144001 : Int) (x144002 : Int) (x144003 : Int) : Option (Int) := lim (fun k => impl_TrialState.j0 k x0 x5 x144000 x144001 x144002 x144003)
theorem impl_TrialState.J0_co (x0 : List (S127)) (x5 : Bool) (x144000 : Int) (x144001 : Int) (x144002 : Int) (x144003 : Int) : Co (fun k => impl_TrialState.j0 k x0 x5 x144000 x144001 x144002 x144003) (impl_TrialState.J0 x0 x5 x144000 x144001 x144002 x144003) := Co.base (fun k => (impl_TrialState.mono_l k) _ _ _ _ _ _)
noncomputable def impl_TrialState.F (l0 : List (S127)) (a1_0 : Int) (a1_1 : Int) (a1_2 : Int) (a1_3 : Int) : Option (Int) := lim (fun k => impl_TrialState.f k l0 a1_0 a1_1 a1_2 a1_3)
theorem impl_TrialState.F_co (l0 : List (S127)) (a1_0 : Int) (a1_1 : Int) (a1_2 : Int) (a1_3 : Int) : Co (fun k => impl_TrialState.f k l0 a1_0 a1_1 a1_2 a1_3) (impl_TrialState.F l0 a1_0 a1_1 a1_2 a1_3) := Co.base (fun k => impl_TrialState.mono _ _ _ _ _ k)
theorem impl_TrialState.J0_eq (x0 : List (S127)) (x5 : Bool) (x144000 : Int) (x144001 : Int) (x144002 : Int) (x144003 : Int) : impl_TrialState.J0 x0 x5 x144000 x144001 x144002 x144003 = (if x5 = true then (some 2) else (if (x0.length : Int) > 0 then ((impl_NeedFor.f x0).bind fun t146 => (if x144002 ≥ t146 then (some 1) else (some 0))) else (some 0))) := by
  refine Co.step (impl_TrialState.J0_co x0 x5 x144000 x144001 x144002 x144003) (h := fun k => (if x5 = true then (some 2) else (if (x0.length : Int) > 0 then ((impl_NeedFor.f x0).bind fun t146 => (if x144002 ≥ t146 then (some 1) else (some 0))) else (some 0)))) (fun k => by first | rfl | (simp only [impl_TrialState.j0])) ?_
  repeat' first
    | (with_reducible exact Co.const _)
    | (with_reducible refine Co.ite ?_ ?_)
    | (with_reducible refine Co.bind ?_ (fun _ => ?_))
theorem impl_TrialState.F_eq (l0 : List (S127)) (a1_0 : Int) (a1_1 : Int) (a1_2 : Int) (a1_3 : Int) : impl_TrialState.F l0 a1_0 a1_1 a1_2 a1_3 = ((impl_IsTrial.f a1_0 a1_1 a1_2 a1_3).bind fun t144 => (if t144 = true then ((impl_AreMarks.F l0).bind fun t145 => (if t145 = true then (impl_TrialState.J0 l0 (decide (a1_3 > 1)) a1_0 a1_1 a1_2 a1_3) else (impl_TrialState.J0 l0 true a1_0 a1_1 a1_2 a1_3))) else (impl_TrialState.J0 l0 true a1_0 a1_1 a1_2 a1_3))) := by
  refine Co.same (impl_TrialState.F_co l0 a1_0 a1_1 a1_2 a1_3) (h := fun k => ((impl_IsTrial.f a1_0 a1_1 a1_2 a1_3).bind fun t144 => (if t144 = true then ((impl_AreMarks.f k l0).bind fun t145 => (if t145 = true then (impl_TrialState.j0 k l0 (decide (a1_3 > 1)) a1_0 a1_1 a1_2 a1_3) else (impl_TrialState.j0 k l0 true a1_0 a1_1 a1_2 a1_3))) else (impl_TrialState.j0 k l0 true a1_0 a1_1 a1_2 a1_3)))) (fun k => by first | rfl | unfold impl_TrialState.f; rfl) ?_
  repeat' first
    | (with_reducible exact Co.const _)
    | (with_reducible exact impl_AreMarks.F_co _)
    | (with_reducible exact impl_TrialState.J0_co _ _ _ _ _ _)
    | (with_reducible refine Co.ite ?_ ?_)
    | (with_reducible refine Co.bind ?_ (fun _ => ?_))

noncomputable def laws_FnExactTrialState.F (l0 : List (S130)) (a1_0 : Int) (a1_1 : Int) (a1_2 : Int) (a1_3 : Int) : Option (Bool) := lim (fun k => laws_FnExactTrialState.f k l0 a1_0 a1_1 a1_2 a1_3)
theorem laws_FnExactTrialState.F_co (l0 : List (S130)) (a1_0 : Int) (a1_1 : Int) (a1_2 : Int) (a1_3 : Int) : Co (fun k => laws_FnExactTrialState.f k l0 a1_0 a1_1 a1_2 a1_3) (laws_FnExactTrialState.F l0 a1_0 a1_1 a1_2 a1_3) := Co.base (fun k => laws_FnExactTrialState.mono _ _ _ _ _ k)
theorem laws_FnExactTrialState.F_eq (l0 : List (S130)) (a1_0 : Int) (a1_1 : Int) (a1_2 : Int) (a1_3 : Int) : laws_FnExactTrialState.F l0 a1_0 a1_1 a1_2 a1_3 = ((laws_szMarkS.f l0 1048576).bind fun t148 => (if t148 < 0 then (some true) else ((laws_toMarkS.F l0).bind fun t149 => ((laws_toTrial.f a1_0 a1_1 a1_2 a1_3).bind fun bt152 => ((spec_TrialState.F t149 bt152.1 bt152.2.1 bt152.2.2.1 bt152.2.2.2).bind fun t156 => ((laws_toMarkS.F l0).bind fun t157 => ((laws_toTrial.f a1_0 a1_1 a1_2 a1_3).bind fun bt160 => ((impl_TrialState.F t157 bt160.1 bt160.2.1 bt160.2.2.1 bt160.2.2.2).bind fun t164 => (if t164 = t156 then ((laws_toMarkS.F l0).bind fun t165 => ((laws_eqMarkS.F t157 t165).bind fun t168 => (if t168 = true then (some true) else (some false)))) else (some false)))))))))) := by
  refine Co.same (laws_FnExactTrialState.F_co l0 a1_0 a1_1 a1_2 a1_3) (h := fun k => ((laws_szMarkS.f l0 1048576).bind fun t148 => (if t148 < 0 then (some true) else ((laws_toMarkS.f k l0).bind fun t149 => ((laws_toTrial.f a1_0 a1_1 a1_2 a1_3).bind fun bt152 => ((spec_TrialState.f k t149 bt152.1 bt152.2.1 bt152.2.2.1 bt152.2.2.2).bind fun t156 => ((laws_toMarkS.f k l0).bind fun t157 => ((laws_toTrial.f a1_0 a1_1 a1_2 a1_3).bind fun bt160 => ((impl_TrialState.f k t157 bt160.1 bt160.2.1 bt160.2.2.1 bt160.2.2.2).bind fun t164 => (if t164 = t156 then ((laws_toMarkS.f k l0).bind fun t165 => ((laws_eqMarkS.f k t157 t165).bind fun t168 => (if t168 = true then (some true) else (some false)))) else (some false))))))))))) (fun k => by first | rfl | unfold laws_FnExactTrialState.f; rfl) ?_
  repeat' first
    | (with_reducible exact Co.const _)
    | (with_reducible exact impl_TrialState.F_co _ _ _ _ _)
    | (with_reducible exact laws_eqMarkS.F_co _ _)
    | (with_reducible exact laws_toMarkS.F_co _)
    | (with_reducible exact spec_TrialState.F_co _ _ _ _ _)
    | (with_reducible refine Co.ite ?_ ?_)
    | (with_reducible refine Co.bind ?_ (fun _ => ?_))

end Go.Proofs.Ytjokfllhbmodeaa.PFnExactTrialState.Pure
