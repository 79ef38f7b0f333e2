/-
  The printed functions that this law reaches, their rounds used up, and the equations that they meet.
-/
import Derived.Test.YtlijcogbgbgdhaaPFnExactIsRoutex1
import Derived.Test.YtlijcogbgbgdhaaPFnExactIsRoutex2
import Derived.Test.YtlijcogbgbgdhaaPFnExactIsRoutex3
import Derived.Test.YtlijcogbgbgdhaaPFnExactIsRoutex4
import Derived.Test.YtlijcogbgbgdhaaPFnExactIsRoutex5
import Derived.Test.YtlijcogbgbgdhaaLim
namespace Go.Proofs.Ytlijcogbgbgdhaa.PFnExactIsRoute.Pure
open Go.RowKit Go.Proofs.YtlijcogbgbgdhaaW.PrintWords Go.Proofs.YtlijcogbgbgdhaaW.PrintLast Go.Proofs.YtlijcogbgbgdhaaW.PrintMore Go.Proofs.Ytlijcogbgbgdhaa.PFnExactIsRoute Go.Proofs.Ytlijcogbgbgdhaa.Lim
set_option linter.unusedVariables false
set_option maxRecDepth 100000

noncomputable def spec_IsRoute.L0 (x0 : List (S81)) (x3 : Int) : Option (Bool) := lim (fun k => spec_IsRoute.l0 k x0 x3)
theorem spec_IsRoute.L0_co (x0 : List (S81)) (x3 : Int) : Co (fun k => spec_IsRoute.l0 k x0 x3) (spec_IsRoute.L0 x0 x3) := Co.base (fun k => (spec_IsRoute.mono_l k) _ _)
noncomputable def spec_IsRoute.F (l0 : List (S81)) : Option (Bool) := lim (fun k => spec_IsRoute.f k l0)
theorem spec_IsRoute.F_co (l0 : List (S81)) : Co (fun k => spec_IsRoute.f k l0) (spec_IsRoute.F l0) := Co.base (fun k => spec_IsRoute.mono _ k)
theorem spec_IsRoute.L0_eq (x0 : List (S81)) (x3 : Int) : spec_IsRoute.L0 x0 x3 = (if x3 < (x0.length : Int) then (if 0 ≤ x3 then ((spec_l1In.f ((rd_T81 x0 x3).f0) 1 30).bind fun t103 => (if t103 = true then (if ((rd_T81 x0 x3).f1) < 0 then (some false) else (if ((rd_T81 x0 x3).f1) > ((rd_T81 x0 x3).f2) then (some false) else (if ((rd_T81 x0 x3).f2) > 100000 then (some false) else (if x3 > 0 then (if 0 ≤ (wrap64 (x3 - 1)) then (if (wrap64 (x3 - 1)) < (x0.length : Int) then (if ((rd_T81 x0 x3).f1) < ((rd_T81 x0 (wrap64 (x3 - 1))).f2) then (some false) else (spec_IsRoute.L0 x0 (wrap64 (x3 + 1)))) else (none)) else (none)) else (spec_IsRoute.L0 x0 (wrap64 (x3 + 1))))))) else (some false))) else (none)) else ((spec_l1In.f (x0.length : Int) 1 10).bind fun t105 => (some t105))) := by
  refine Co.step (spec_IsRoute.L0_co x0 x3) (h := fun k => (if x3 < (x0.length : Int) then (if 0 ≤ x3 then ((spec_l1In.f ((rd_T81 x0 x3).f0) 1 30).bind fun t103 => (if t103 = true then (if ((rd_T81 x0 x3).f1) < 0 then (some false) else (if ((rd_T81 x0 x3).f1) > ((rd_T81 x0 x3).f2) then (some false) else (if ((rd_T81 x0 x3).f2) > 100000 then (some false) else (if x3 > 0 then (if 0 ≤ (wrap64 (x3 - 1)) then (if (wrap64 (x3 - 1)) < (x0.length : Int) then (if ((rd_T81 x0 x3).f1) < ((rd_T81 x0 (wrap64 (x3 - 1))).f2) then (some false) else (spec_IsRoute.l0 k x0 (wrap64 (x3 + 1)))) else (none)) else (none)) else (spec_IsRoute.l0 k x0 (wrap64 (x3 + 1))))))) else (some false))) else (none)) else ((spec_l1In.f (x0.length : Int) 1 10).bind fun t105 => (some t105)))) (fun k => by first | rfl | (simp only [spec_IsRoute.l0])) ?_
  repeat' first
    | (with_reducible exact Co.const _)
    | (with_reducible exact spec_IsRoute.L0_co _ _)
    | (with_reducible refine Co.ite ?_ ?_)
    | (with_reducible refine Co.bind ?_ (fun _ => ?_))
theorem spec_IsRoute.F_eq (l0 : List (S81)) : spec_IsRoute.F l0 = (spec_IsRoute.L0 l0 0) := by
  refine Co.same (spec_IsRoute.F_co l0) (h := fun k => (spec_IsRoute.l0 k l0 0)) (fun k => by first | rfl | unfold spec_IsRoute.f; rfl) ?_
  repeat' first
    | (with_reducible exact Co.const _)
    | (with_reducible exact spec_IsRoute.L0_co _ _)
    | (with_reducible refine Co.ite ?_ ?_)
    | (with_reducible refine Co.bind ?_ (fun _ => ?_))

noncomputable def laws_toStopS.L0 (x0 : List (S83)) (x3 : List (S81)) (x4 : Int) : Option ((List (S81))) := lim (fun k => laws_toStopS.l0 k x0 x3 x4)
theorem laws_toStopS.L0_co (x0 : List (S83)) (x3 : List (S81)) (x4 : Int) : Co (fun k => laws_toStopS.l0 k x0 x3 x4) (laws_toStopS.L0 x0 x3 x4) := Co.base (fun k => (laws_toStopS.mono_l k) _ _ _)
noncomputable def laws_toStopS.F (l0 : List (S83)) : Option ((List (S81))) := lim (fun k => laws_toStopS.f k l0)
theorem laws_toStopS.F_co (l0 : List (S83)) : Co (fun k => laws_toStopS.f k l0) (laws_toStopS.F l0) := Co.base (fun k => laws_toStopS.mono _ k)
theorem laws_toStopS.L0_eq (x0 : List (S83)) (x3 : List (S81)) (x4 : Int) : laws_toStopS.L0 x0 x3 x4 = (if x4 < (x0.length : Int) then (if 0 ≤ x4 then ((laws_toStop.f ((rd_T83 x0 x4).f0) ((rd_T83 x0 x4).f1) ((rd_T83 x0 x4).f2)).bind fun bt113 => (if x4 < (x3.length : Int) then (laws_toStopS.L0 x0 (x3.set (x4 : Int).toNat (⟨bt113.1, bt113.2.1, bt113.2.2⟩ : S81)) (wrap64 (x4 + 1))) else (none))) else (none)) else (some x3)) := by
  refine Co.step (laws_toStopS.L0_co x0 x3 x4) (h := fun k => (if x4 < (x0.length : Int) then (if 0 ≤ x4 then ((laws_toStop.f ((rd_T83 x0 x4).f0) ((rd_T83 x0 x4).f1) ((rd_T83 x0 x4).f2)).bind fun bt113 => (if x4 < (x3.length : Int) then (laws_toStopS.l0 k x0 (x3.set (x4 : Int).toNat (⟨bt113.1, bt113.2.1, bt113.2.2⟩ : S81)) (wrap64 (x4 + 1))) else (none))) else (none)) else (some x3))) (fun k => by first | rfl | (simp only [laws_toStopS.l0])) ?_
  repeat' first
    | (with_reducible exact Co.const _)
    | (with_reducible exact laws_toStopS.L0_co _ _ _)
    | (with_reducible refine Co.ite ?_ ?_)
    | (with_reducible refine Co.bind ?_ (fun _ => ?_))
theorem laws_toStopS.F_eq (l0 : List (S83)) : laws_toStopS.F l0 = (if 0 ≤ (l0.length : Int) then (if ((l0.length : Int) : Int).toNat ≤ 11728124029610 then (laws_toStopS.L0 l0 (List.replicate ((l0.length : Int) : Int).toNat z81) 0) else (none)) else (none)) := by
  refine Co.same (laws_toStopS.F_co l0) (h := fun k => (if 0 ≤ (l0.length : Int) then (if ((l0.length : Int) : Int).toNat ≤ 11728124029610 then (laws_toStopS.l0 k l0 (List.replicate ((l0.length : Int) : Int).toNat z81) 0) else (none)) else (none))) (fun k => by first | rfl | unfold laws_toStopS.f; rfl) ?_
  repeat' first
    | (with_reducible exact Co.const _)
    | (with_reducible exact laws_toStopS.L0_co _ _ _)
    | (with_reducible refine Co.ite ?_ ?_)
    | (with_reducible refine Co.bind ?_ (fun _ => ?_))

noncomputable def impl_IsRoute.L0 (x0 : List (S81)) (x9 : List (S81)) (x10 : Int) (x11 : Int) : Option (Bool) := lim (fun k => impl_IsRoute.l0 k x0 x9 x10 x11)
theorem impl_IsRoute.L0_co (x0 : List (S81)) (x9 : List (S81)) (x10 : Int) (x11 : Int) : Co (fun k => impl_IsRoute.l0 k x0 x9 x10 x11) (impl_IsRoute.L0 x0 x9 x10 x11) := Co.base (fun k => (impl_IsRoute.mono_l k) _ _ _ _)
noncomputable def impl_IsRoute.F (l0 : List (S81)) : Option (Bool) := lim (fun k => impl_IsRoute.f k l0)
theorem impl_IsRoute.F_co (l0 : List (S81)) : Co (fun k => impl_IsRoute.f k l0) (impl_IsRoute.F l0) := Co.base (fun k => impl_IsRoute.mono _ k)
theorem impl_IsRoute.L0_eq (x0 : List (S81)) (x9 : List (S81)) (x10 : Int) (x11 : Int) : impl_IsRoute.L0 x0 x9 x10 x11 = (if x11 < x10 then (if 0 ≤ x11 then (if x11 < (x9.length : Int) then ((impl_InRange.f ((rd_T81 x9 x11).f0) 1 30).bind fun t120 => (if t120 = true then (if ((rd_T81 x9 x11).f1) < 0 then (some false) else (if ((rd_T81 x9 x11).f1) > ((rd_T81 x9 x11).f2) then (some false) else (if ((rd_T81 x9 x11).f2) > 100000 then (some false) else (if x11 > 0 then (if 0 ≤ (wrap64 (x11 - 1)) then (if (wrap64 (x11 - 1)) < (x0.length : Int) then (if ((rd_T81 x9 x11).f1) < ((rd_T81 x0 (wrap64 (x11 - 1))).f2) then (some false) else (impl_IsRoute.L0 x0 x9 x10 (wrap64 (x11 + 1)))) else (none)) else (none)) else (impl_IsRoute.L0 x0 x9 x10 (wrap64 (x11 + 1))))))) else (some false))) else (none)) else (none)) else (some true)) := by
  refine Co.step (impl_IsRoute.L0_co x0 x9 x10 x11) (h := fun k => (if x11 < x10 then (if 0 ≤ x11 then (if x11 < (x9.length : Int) then ((impl_InRange.f ((rd_T81 x9 x11).f0) 1 30).bind fun t120 => (if t120 = true then (if ((rd_T81 x9 x11).f1) < 0 then (some false) else (if ((rd_T81 x9 x11).f1) > ((rd_T81 x9 x11).f2) then (some false) else (if ((rd_T81 x9 x11).f2) > 100000 then (some false) else (if x11 > 0 then (if 0 ≤ (wrap64 (x11 - 1)) then (if (wrap64 (x11 - 1)) < (x0.length : Int) then (if ((rd_T81 x9 x11).f1) < ((rd_T81 x0 (wrap64 (x11 - 1))).f2) then (some false) else (impl_IsRoute.l0 k x0 x9 x10 (wrap64 (x11 + 1)))) else (none)) else (none)) else (impl_IsRoute.l0 k x0 x9 x10 (wrap64 (x11 + 1))))))) else (some false))) else (none)) else (none)) else (some true))) (fun k => by first | rfl | (simp only [impl_IsRoute.l0])) ?_
  repeat' first
    | (with_reducible exact Co.const _)
    | (with_reducible exact impl_IsRoute.L0_co _ _ _ _)
    | (with_reducible refine Co.ite ?_ ?_)
    | (with_reducible refine Co.bind ?_ (fun _ => ?_))
theorem impl_IsRoute.F_eq (l0 : List (S81)) : impl_IsRoute.F l0 = ((impl_InRange.f (l0.length : Int) 1 10).bind fun t117 => (if t117 = true then (impl_IsRoute.L0 l0 l0 (l0.length : Int) 0) else (some false))) := by
  refine Co.same (impl_IsRoute.F_co l0) (h := fun k => ((impl_InRange.f (l0.length : Int) 1 10).bind fun t117 => (if t117 = true then (impl_IsRoute.l0 k l0 l0 (l0.length : Int) 0) else (some false)))) (fun k => by first | rfl | unfold impl_IsRoute.f; rfl) ?_
  repeat' first
    | (with_reducible exact Co.const _)
    | (with_reducible exact impl_IsRoute.L0_co _ _ _ _)
    | (with_reducible refine Co.ite ?_ ?_)
    | (with_reducible refine Co.bind ?_ (fun _ => ?_))

noncomputable def laws_eqStopS.L0 (x0 : List (S81)) (x1 : List (S81)) (x5 : Int) : Option (Bool) := lim (fun k => laws_eqStopS.l0 k x0 x1 x5)
theorem laws_eqStopS.L0_co (x0 : List (S81)) (x1 : List (S81)) (x5 : Int) : Co (fun k => laws_eqStopS.l0 k x0 x1 x5) (laws_eqStopS.L0 x0 x1 x5) := Co.base (fun k => (laws_eqStopS.mono_l k) _ _ _)
noncomputable def laws_eqStopS.F (l0 : List (S81)) (l1 : List (S81)) : Option (Bool) := lim (fun k => laws_eqStopS.f k l0 l1)
theorem laws_eqStopS.F_co (l0 : List (S81)) (l1 : List (S81)) : Co (fun k => laws_eqStopS.f k l0 l1) (laws_eqStopS.F l0 l1) := Co.base (fun k => laws_eqStopS.mono _ _ k)
theorem laws_eqStopS.L0_eq (x0 : List (S81)) (x1 : List (S81)) (x5 : Int) : laws_eqStopS.L0 x0 x1 x5 = (if x5 < (x0.length : Int) then (if 0 ≤ x5 then (if x5 < (x1.length : Int) then ((laws_eqStop.f ((rd_T81 x0 x5).f0) ((rd_T81 x0 x5).f1) ((rd_T81 x0 x5).f2) ((rd_T81 x1 x5).f0) ((rd_T81 x1 x5).f1) ((rd_T81 x1 x5).f2)).bind fun t126 => (if t126 = true then (laws_eqStopS.L0 x0 x1 (wrap64 (x5 + 1))) else (some false))) else (none)) else (none)) else (some true)) := by
  refine Co.step (laws_eqStopS.L0_co x0 x1 x5) (h := fun k => (if x5 < (x0.length : Int) then (if 0 ≤ x5 then (if x5 < (x1.length : Int) then ((laws_eqStop.f ((rd_T81 x0 x5).f0) ((rd_T81 x0 x5).f1) ((rd_T81 x0 x5).f2) ((rd_T81 x1 x5).f0) ((rd_T81 x1 x5).f1) ((rd_T81 x1 x5).f2)).bind fun t126 => (if t126 = true then (laws_eqStopS.l0 k x0 x1 (wrap64 (x5 + 1))) else (some false))) else (none)) else (none)) else (some true))) (fun k => by first | rfl | (simp only [laws_eqStopS.l0])) ?_
  repeat' first
    | (with_reducible exact Co.const _)
    | (with_reducible exact laws_eqStopS.L0_co _ _ _)
    | (with_reducible refine Co.ite ?_ ?_)
    | (with_reducible refine Co.bind ?_ (fun _ => ?_))
theorem laws_eqStopS.F_eq (l0 : List (S81)) (l1 : List (S81)) : laws_eqStopS.F l0 l1 = (if (l0.length : Int) = (l1.length : Int) then (laws_eqStopS.L0 l0 l1 0) else (some false)) := by
  refine Co.same (laws_eqStopS.F_co l0 l1) (h := fun k => (if (l0.length : Int) = (l1.length : Int) then (laws_eqStopS.l0 k l0 l1 0) else (some false))) (fun k => by first | rfl | unfold laws_eqStopS.f; rfl) ?_
  repeat' first
    | (with_reducible exact Co.const _)
    | (with_reducible exact laws_eqStopS.L0_co _ _ _)
    | (with_reducible refine Co.ite ?_ ?_)
    | (with_reducible refine Co.bind ?_ (fun _ => ?_))

noncomputable def laws_FnExactIsRoute.F (l0 : List (S83)) : Option (Bool) := lim (fun k => laws_FnExactIsRoute.f k l0)
theorem laws_FnExactIsRoute.F_co (l0 : List (S83)) : Co (fun k => laws_FnExactIsRoute.f k l0) (laws_FnExactIsRoute.F l0) := Co.base (fun k => laws_FnExactIsRoute.mono _ k)
theorem laws_FnExactIsRoute.F_eq (l0 : List (S83)) : laws_FnExactIsRoute.F l0 = ((laws_szStopS.f l0 1048576).bind fun t127 => (if t127 < 0 then (some true) else ((laws_toStopS.F l0).bind fun t128 => ((spec_IsRoute.F t128).bind fun t131 => ((laws_toStopS.F l0).bind fun t132 => ((impl_IsRoute.F t132).bind fun t135 => (if (t135 != t131) = true then (some false) else ((laws_toStopS.F l0).bind fun t136 => ((laws_eqStopS.F t132 t136).bind fun t139 => (if t139 = true then (some true) else (some false))))))))))) := by
  refine Co.same (laws_FnExactIsRoute.F_co l0) (h := fun k => ((laws_szStopS.f l0 1048576).bind fun t127 => (if t127 < 0 then (some true) else ((laws_toStopS.f k l0).bind fun t128 => ((spec_IsRoute.f k t128).bind fun t131 => ((laws_toStopS.f k l0).bind fun t132 => ((impl_IsRoute.f k t132).bind fun t135 => (if (t135 != t131) = true then (some false) else ((laws_toStopS.f k l0).bind fun t136 => ((laws_eqStopS.f k t132 t136).bind fun t139 => (if t139 = true then (some true) else (some false)))))))))))) (fun k => by first | rfl | unfold laws_FnExactIsRoute.f; rfl) ?_
  repeat' first
    | (with_reducible exact Co.const _)
    | (with_reducible exact impl_IsRoute.F_co _)
    | (with_reducible exact laws_eqStopS.F_co _ _)
    | (with_reducible exact laws_toStopS.F_co _)
    | (with_reducible exact spec_IsRoute.F_co _)
    | (with_reducible refine Co.ite ?_ ?_)
    | (with_reducible refine Co.bind ?_ (fun _ => ?_))

end Go.Proofs.Ytlijcogbgbgdhaa.PFnExactIsRoute.Pure
