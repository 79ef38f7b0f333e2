/-
  The printed functions that this law reaches, their rounds used up, and the equations that they meet.
-/
import Derived.Test.YtjokfllhbmodeaaPFnExactRouteHoursx1
import Derived.Test.YtjokfllhbmodeaaPFnExactRouteHoursx2
import Derived.Test.YtjokfllhbmodeaaPFnExactRouteHoursx3
import Derived.Test.YtjokfllhbmodeaaPFnExactRouteHoursx4
import Derived.Test.YtjokfllhbmodeaaPFnExactRouteHoursx5
import Derived.Test.YtjokfllhbmodeaaLim
namespace Go.Proofs.Ytjokfllhbmodeaa.PFnExactRouteHours.Pure
open Go.RowKit Go.Proofs.YtjokfllhbmodeaaW.PrintWords Go.Proofs.YtjokfllhbmodeaaW.PrintLast Go.Proofs.YtjokfllhbmodeaaW.PrintMore Go.Proofs.Ytjokfllhbmodeaa.PFnExactRouteHours Go.Proofs.Ytjokfllhbmodeaa.Lim
set_option linter.unusedVariables false
set_option maxRecDepth 100000

noncomputable def spec_IsRoute.L0 (x0 : List (S101)) (x3 : Int) : Option (Bool) := lim (fun k => spec_IsRoute.l0 k x0 x3)
theorem spec_IsRoute.L0_co (x0 : List (S101)) (x3 : Int) : Co (fun k => spec_IsRoute.l0 k x0 x3) (spec_IsRoute.L0 x0 x3) := Co.base (fun k => (spec_IsRoute.mono_l k) _ _)
noncomputable def spec_IsRoute.F (l0 : List (S101)) : Option (Bool) := lim (fun k => spec_IsRoute.f k l0)
theorem spec_IsRoute.F_co (l0 : List (S101)) : Co (fun k => spec_IsRoute.f k l0) (spec_IsRoute.F l0) := Co.base (fun k => spec_IsRoute.mono _ k)
theorem spec_IsRoute.L0_eq (x0 : List (S101)) (x3 : Int) : spec_IsRoute.L0 x0 x3 = (if x3 < (x0.length : Int) then (if 0 ≤ x3 then ((spec_l1In.f ((rd_T101 x0 x3).f0) 1 30).bind fun t103 => (if t103 = true then (if ((rd_T101 x0 x3).f1) < 0 then (some false) else (if ((rd_T101 x0 x3).f1) > ((rd_T101 x0 x3).f2) then (some false) else (if ((rd_T101 x0 x3).f2) > 100000 then (some false) else (if x3 > 0 then (if 0 ≤ (wrap64 (x3 - 1)) then (if (wrap64 (x3 - 1)) < (x0.length : Int) then (if ((rd_T101 x0 x3).f1) < ((rd_T101 x0 (wrap64 (x3 - 1))).f2) then (some false) else (spec_IsRoute.L0 x0 (wrap64 (x3 + 1)))) else (none)) else (none)) else (spec_IsRoute.L0 x0 (wrap64 (x3 + 1))))))) else (some false))) else (none)) else ((spec_l1In.f (x0.length : Int) 1 10).bind fun t105 => (some t105))) := by
  refine Co.step (spec_IsRoute.L0_co x0 x3) (h := fun k => (if x3 < (x0.length : Int) then (if 0 ≤ x3 then ((spec_l1In.f ((rd_T101 x0 x3).f0) 1 30).bind fun t103 => (if t103 = true then (if ((rd_T101 x0 x3).f1) < 0 then (some false) else (if ((rd_T101 x0 x3).f1) > ((rd_T101 x0 x3).f2) then (some false) else (if ((rd_T101 x0 x3).f2) > 100000 then (some false) else (if x3 > 0 then (if 0 ≤ (wrap64 (x3 - 1)) then (if (wrap64 (x3 - 1)) < (x0.length : Int) then (if ((rd_T101 x0 x3).f1) < ((rd_T101 x0 (wrap64 (x3 - 1))).f2) then (some false) else (spec_IsRoute.l0 k x0 (wrap64 (x3 + 1)))) else (none)) else (none)) else (spec_IsRoute.l0 k x0 (wrap64 (x3 + 1))))))) else (some false))) else (none)) else ((spec_l1In.f (x0.length : Int) 1 10).bind fun t105 => (some t105)))) (fun k => by first | rfl | (simp only [spec_IsRoute.l0])) ?_
  repeat' first
    | (with_reducible exact Co.const _)
    | (with_reducible exact spec_IsRoute.L0_co _ _)
    | (with_reducible refine Co.ite ?_ ?_)
    | (with_reducible refine Co.bind ?_ (fun _ => ?_))
theorem spec_IsRoute.F_eq (l0 : List (S101)) : spec_IsRoute.F l0 = (spec_IsRoute.L0 l0 0) := by
  refine Co.same (spec_IsRoute.F_co l0) (h := fun k => (spec_IsRoute.l0 k l0 0)) (fun k => by first | rfl | unfold spec_IsRoute.f; rfl) ?_
  repeat' first
    | (with_reducible exact Co.const _)
    | (with_reducible exact spec_IsRoute.L0_co _ _)
    | (with_reducible refine Co.ite ?_ ?_)
    | (with_reducible refine Co.bind ?_ (fun _ => ?_))

noncomputable def spec_RouteHours.F (l0 : List (S101)) : Option (Int) := lim (fun k => spec_RouteHours.f k l0)
theorem spec_RouteHours.F_co (l0 : List (S101)) : Co (fun k => spec_RouteHours.f k l0) (spec_RouteHours.F l0) := Co.base (fun k => spec_RouteHours.mono _ k)
theorem spec_RouteHours.F_eq (l0 : List (S101)) : spec_RouteHours.F l0 = ((spec_IsRoute.F l0).bind fun t106 => (if t106 = true then (if 0 ≤ (wrap64 ((l0.length : Int) - 1)) then (if (wrap64 ((l0.length : Int) - 1)) < (l0.length : Int) then (if 0 < (l0.length : Int) then (some (wrap64 (((rd_T101 l0 (wrap64 ((l0.length : Int) - 1))).f2) - ((rd_T101 l0 0).f1)))) else (none)) else (none)) else (none)) else (some 0))) := by
  refine Co.same (spec_RouteHours.F_co l0) (h := fun k => ((spec_IsRoute.f k l0).bind fun t106 => (if t106 = true then (if 0 ≤ (wrap64 ((l0.length : Int) - 1)) then (if (wrap64 ((l0.length : Int) - 1)) < (l0.length : Int) then (if 0 < (l0.length : Int) then (some (wrap64 (((rd_T101 l0 (wrap64 ((l0.length : Int) - 1))).f2) - ((rd_T101 l0 0).f1)))) else (none)) else (none)) else (none)) else (some 0)))) (fun k => by first | rfl | unfold spec_RouteHours.f; rfl) ?_
  repeat' first
    | (with_reducible exact Co.const _)
    | (with_reducible exact spec_IsRoute.F_co _)
    | (with_reducible refine Co.ite ?_ ?_)
    | (with_reducible refine Co.bind ?_ (fun _ => ?_))

noncomputable def laws_toStopS.L0 (x0 : List (S103)) (x3 : List (S101)) (x4 : Int) : Option ((List (S101))) := lim (fun k => laws_toStopS.l0 k x0 x3 x4)
theorem laws_toStopS.L0_co (x0 : List (S103)) (x3 : List (S101)) (x4 : Int) : Co (fun k => laws_toStopS.l0 k x0 x3 x4) (laws_toStopS.L0 x0 x3 x4) := Co.base (fun k => (laws_toStopS.mono_l k) _ _ _)
noncomputable def laws_toStopS.F (l0 : List (S103)) : Option ((List (S101))) := lim (fun k => laws_toStopS.f k l0)
theorem laws_toStopS.F_co (l0 : List (S103)) : Co (fun k => laws_toStopS.f k l0) (laws_toStopS.F l0) := Co.base (fun k => laws_toStopS.mono _ k)
theorem laws_toStopS.L0_eq (x0 : List (S103)) (x3 : List (S101)) (x4 : Int) : laws_toStopS.L0 x0 x3 x4 = (if x4 < (x0.length : Int) then (if 0 ≤ x4 then ((laws_toStop.f ((rd_T103 x0 x4).f0) ((rd_T103 x0 x4).f1) ((rd_T103 x0 x4).f2)).bind fun bt116 => (if x4 < (x3.length : Int) then (laws_toStopS.L0 x0 (x3.set (x4 : Int).toNat (⟨bt116.1, bt116.2.1, bt116.2.2⟩ : S101)) (wrap64 (x4 + 1))) else (none))) else (none)) else (some x3)) := by
  refine Co.step (laws_toStopS.L0_co x0 x3 x4) (h := fun k => (if x4 < (x0.length : Int) then (if 0 ≤ x4 then ((laws_toStop.f ((rd_T103 x0 x4).f0) ((rd_T103 x0 x4).f1) ((rd_T103 x0 x4).f2)).bind fun bt116 => (if x4 < (x3.length : Int) then (laws_toStopS.l0 k x0 (x3.set (x4 : Int).toNat (⟨bt116.1, bt116.2.1, bt116.2.2⟩ : S101)) (wrap64 (x4 + 1))) else (none))) else (none)) else (some x3))) (fun k => by first | rfl | (simp only [laws_toStopS.l0])) ?_
  repeat' first
    | (with_reducible exact Co.const _)
    | (with_reducible exact laws_toStopS.L0_co _ _ _)
    | (with_reducible refine Co.ite ?_ ?_)
    | (with_reducible refine Co.bind ?_ (fun _ => ?_))
theorem laws_toStopS.F_eq (l0 : List (S103)) : laws_toStopS.F l0 = (if 0 ≤ (l0.length : Int) then (if ((l0.length : Int) : Int).toNat ≤ 11728124029610 then (laws_toStopS.L0 l0 (List.replicate ((l0.length : Int) : Int).toNat z101) 0) else (none)) else (none)) := by
  refine Co.same (laws_toStopS.F_co l0) (h := fun k => (if 0 ≤ (l0.length : Int) then (if ((l0.length : Int) : Int).toNat ≤ 11728124029610 then (laws_toStopS.l0 k l0 (List.replicate ((l0.length : Int) : Int).toNat z101) 0) else (none)) else (none))) (fun k => by first | rfl | unfold laws_toStopS.f; rfl) ?_
  repeat' first
    | (with_reducible exact Co.const _)
    | (with_reducible exact laws_toStopS.L0_co _ _ _)
    | (with_reducible refine Co.ite ?_ ?_)
    | (with_reducible refine Co.bind ?_ (fun _ => ?_))

noncomputable def impl_IsRoute.L0 (x0 : List (S101)) (x9 : List (S101)) (x10 : Int) (x11 : Int) : Option (Bool) := lim (fun k => impl_IsRoute.l0 k x0 x9 x10 x11)
theorem impl_IsRoute.L0_co (x0 : List (S101)) (x9 : List (S101)) (x10 : Int) (x11 : Int) : Co (fun k => impl_IsRoute.l0 k x0 x9 x10 x11) (impl_IsRoute.L0 x0 x9 x10 x11) := Co.base (fun k => (impl_IsRoute.mono_l k) _ _ _ _)
noncomputable def impl_IsRoute.F (l0 : List (S101)) : Option (Bool) := lim (fun k => impl_IsRoute.f k l0)
theorem impl_IsRoute.F_co (l0 : List (S101)) : Co (fun k => impl_IsRoute.f k l0) (impl_IsRoute.F l0) := Co.base (fun k => impl_IsRoute.mono _ k)
theorem impl_IsRoute.L0_eq (x0 : List (S101)) (x9 : List (S101)) (x10 : Int) (x11 : Int) : impl_IsRoute.L0 x0 x9 x10 x11 = (if x11 < x10 then (if 0 ≤ x11 then (if x11 < (x9.length : Int) then ((impl_InRange.f ((rd_T101 x9 x11).f0) 1 30).bind fun t123 => (if t123 = true then (if ((rd_T101 x9 x11).f1) < 0 then (some false) else (if ((rd_T101 x9 x11).f1) > ((rd_T101 x9 x11).f2) then (some false) else (if ((rd_T101 x9 x11).f2) > 100000 then (some false) else (if x11 > 0 then (if 0 ≤ (wrap64 (x11 - 1)) then (if (wrap64 (x11 - 1)) < (x0.length : Int) then (if ((rd_T101 x9 x11).f1) < ((rd_T101 x0 (wrap64 (x11 - 1))).f2) then (some false) else (impl_IsRoute.L0 x0 x9 x10 (wrap64 (x11 + 1)))) else (none)) else (none)) else (impl_IsRoute.L0 x0 x9 x10 (wrap64 (x11 + 1))))))) else (some false))) else (none)) else (none)) else (some true)) := by
  refine Co.step (impl_IsRoute.L0_co x0 x9 x10 x11) (h := fun k => (if x11 < x10 then (if 0 ≤ x11 then (if x11 < (x9.length : Int) then ((impl_InRange.f ((rd_T101 x9 x11).f0) 1 30).bind fun t123 => (if t123 = true then (if ((rd_T101 x9 x11).f1) < 0 then (some false) else (if ((rd_T101 x9 x11).f1) > ((rd_T101 x9 x11).f2) then (some false) else (if ((rd_T101 x9 x11).f2) > 100000 then (some false) else (if x11 > 0 then (if 0 ≤ (wrap64 (x11 - 1)) then (if (wrap64 (x11 - 1)) < (x0.length : Int) then (if ((rd_T101 x9 x11).f1) < ((rd_T101 x0 (wrap64 (x11 - 1))).f2) then (some false) else (impl_IsRoute.l0 k x0 x9 x10 (wrap64 (x11 + 1)))) else (none)) else (none)) else (impl_IsRoute.l0 k x0 x9 x10 (wrap64 (x11 + 1))))))) else (some false))) else (none)) else (none)) else (some true))) (fun k => by first | rfl | (simp only [impl_IsRoute.l0])) ?_
  repeat' first
    | (with_reducible exact Co.const _)
    | (with_reducible exact impl_IsRoute.L0_co _ _ _ _)
    | (with_reducible refine Co.ite ?_ ?_)
    | (with_reducible refine Co.bind ?_ (fun _ => ?_))
theorem impl_IsRoute.F_eq (l0 : List (S101)) : impl_IsRoute.F l0 = ((impl_InRange.f (l0.length : Int) 1 10).bind fun t120 => (if t120 = true then (impl_IsRoute.L0 l0 l0 (l0.length : Int) 0) else (some false))) := by
  refine Co.same (impl_IsRoute.F_co l0) (h := fun k => ((impl_InRange.f (l0.length : Int) 1 10).bind fun t120 => (if t120 = true then (impl_IsRoute.l0 k l0 l0 (l0.length : Int) 0) else (some false)))) (fun k => by first | rfl | unfold impl_IsRoute.f; rfl) ?_
  repeat' first
    | (with_reducible exact Co.const _)
    | (with_reducible exact impl_IsRoute.L0_co _ _ _ _)
    | (with_reducible refine Co.ite ?_ ?_)
    | (with_reducible refine Co.bind ?_ (fun _ => ?_))

noncomputable def impl_RouteHours.F (l0 : List (S101)) : Option (Int) := lim (fun k => impl_RouteHours.f k l0)
theorem impl_RouteHours.F_co (l0 : List (S101)) : Co (fun k => impl_RouteHours.f k l0) (impl_RouteHours.F l0) := Co.base (fun k => impl_RouteHours.mono _ k)
theorem impl_RouteHours.F_eq (l0 : List (S101)) : impl_RouteHours.F l0 = ((impl_IsRoute.F l0).bind fun t125 => (if t125 = true then (if 0 ≤ (wrap64 ((l0.length : Int) - 1)) then (if (wrap64 ((l0.length : Int) - 1)) < (l0.length : Int) then (if 0 < (l0.length : Int) then (some (wrap64 (((rd_T101 l0 (wrap64 ((l0.length : Int) - 1))).f2) - ((rd_T101 l0 0).f1)))) else (none)) else (none)) else (none)) else (some 0))) := by
  refine Co.same (impl_RouteHours.F_co l0) (h := fun k => ((impl_IsRoute.f k l0).bind fun t125 => (if t125 = true then (if 0 ≤ (wrap64 ((l0.length : Int) - 1)) then (if (wrap64 ((l0.length : Int) - 1)) < (l0.length : Int) then (if 0 < (l0.length : Int) then (some (wrap64 (((rd_T101 l0 (wrap64 ((l0.length : Int) - 1))).f2) - ((rd_T101 l0 0).f1)))) else (none)) else (none)) else (none)) else (some 0)))) (fun k => by first | rfl | unfold impl_RouteHours.f; rfl) ?_
  repeat' first
    | (with_reducible exact Co.const _)
    | (with_reducible exact impl_IsRoute.F_co _)
    | (with_reducible refine Co.ite ?_ ?_)
    | (with_reducible refine Co.bind ?_ (fun _ => ?_))

noncomputable def laws_eqStopS.L0 (x0 : List (S101)) (x1 : List (S101)) (x5 : Int) : Option (Bool) := lim (fun k => laws_eqStopS.l0 k x0 x1 x5)
theorem laws_eqStopS.L0_co (x0 : List (S101)) (x1 : List (S101)) (x5 : Int) : Co (fun k => laws_eqStopS.l0 k x0 x1 x5) (laws_eqStopS.L0 x0 x1 x5) := Co.base (fun k => (laws_eqStopS.mono_l k) _ _ _)
noncomputable def laws_eqStopS.F (l0 : List (S101)) (l1 : List (S101)) : Option (Bool) := lim (fun k => laws_eqStopS.f k l0 l1)
theorem laws_eqStopS.F_co (l0 : List (S101)) (l1 : List (S101)) : Co (fun k => laws_eqStopS.f k l0 l1) (laws_eqStopS.F l0 l1) := Co.base (fun k => laws_eqStopS.mono _ _ k)
theorem laws_eqStopS.L0_eq (x0 : List (S101)) (x1 : List (S101)) (x5 : Int) : laws_eqStopS.L0 x0 x1 x5 = (if x5 < (x0.length : Int) then (if 0 ≤ x5 then (if x5 < (x1.length : Int) then ((laws_eqStop.f ((rd_T101 x0 x5).f0) ((rd_T101 x0 x5).f1) ((rd_T101 x0 x5).f2) ((rd_T101 x1 x5).f0) ((rd_T101 x1 x5).f1) ((rd_T101 x1 x5).f2)).bind fun t132 => (if t132 = true then (laws_eqStopS.L0 x0 x1 (wrap64 (x5 + 1))) else (some false))) else (none)) else (none)) else (some true)) := by
  refine Co.step (laws_eqStopS.L0_co x0 x1 x5) (h := fun k => (if x5 < (x0.length : Int) then (if 0 ≤ x5 then (if x5 < (x1.length : Int) then ((laws_eqStop.f ((rd_T101 x0 x5).f0) ((rd_T101 x0 x5).f1) ((rd_T101 x0 x5).f2) ((rd_T101 x1 x5).f0) ((rd_T101 x1 x5).f1) ((rd_T101 x1 x5).f2)).bind fun t132 => (if t132 = true then (laws_eqStopS.l0 k x0 x1 (wrap64 (x5 + 1))) else (some false))) else (none)) else (none)) else (some true))) (fun k => by first | rfl | (simp only [laws_eqStopS.l0])) ?_
  repeat' first
    | (with_reducible exact Co.const _)
    | (with_reducible exact laws_eqStopS.L0_co _ _ _)
    | (with_reducible refine Co.ite ?_ ?_)
    | (with_reducible refine Co.bind ?_ (fun _ => ?_))
theorem laws_eqStopS.F_eq (l0 : List (S101)) (l1 : List (S101)) : laws_eqStopS.F l0 l1 = (if (l0.length : Int) = (l1.length : Int) then (laws_eqStopS.L0 l0 l1 0) else (some false)) := by
  refine Co.same (laws_eqStopS.F_co l0 l1) (h := fun k => (if (l0.length : Int) = (l1.length : Int) then (laws_eqStopS.l0 k l0 l1 0) else (some false))) (fun k => by first | rfl | unfold laws_eqStopS.f; rfl) ?_
  repeat' first
    | (with_reducible exact Co.const _)
    | (with_reducible exact laws_eqStopS.L0_co _ _ _)
    | (with_reducible refine Co.ite ?_ ?_)
    | (with_reducible refine Co.bind ?_ (fun _ => ?_))

noncomputable def laws_FnExactRouteHours.F (l0 : List (S103)) : Option (Bool) := lim (fun k => laws_FnExactRouteHours.f k l0)
theorem laws_FnExactRouteHours.F_co (l0 : List (S103)) : Co (fun k => laws_FnExactRouteHours.f k l0) (laws_FnExactRouteHours.F l0) := Co.base (fun k => laws_FnExactRouteHours.mono _ k)
theorem laws_FnExactRouteHours.F_eq (l0 : List (S103)) : laws_FnExactRouteHours.F l0 = ((laws_szStopS.f l0 1048576).bind fun t133 => (if t133 < 0 then (some true) else ((laws_toStopS.F l0).bind fun t134 => ((spec_RouteHours.F t134).bind fun t137 => ((laws_toStopS.F l0).bind fun t138 => ((impl_RouteHours.F t138).bind fun t141 => (if t141 = t137 then ((laws_toStopS.F l0).bind fun t142 => ((laws_eqStopS.F t138 t142).bind fun t145 => (if t145 = true then (some true) else (some false)))) else (some false)))))))) := by
  refine Co.same (laws_FnExactRouteHours.F_co l0) (h := fun k => ((laws_szStopS.f l0 1048576).bind fun t133 => (if t133 < 0 then (some true) else ((laws_toStopS.f k l0).bind fun t134 => ((spec_RouteHours.f k t134).bind fun t137 => ((laws_toStopS.f k l0).bind fun t138 => ((impl_RouteHours.f k t138).bind fun t141 => (if t141 = t137 then ((laws_toStopS.f k l0).bind fun t142 => ((laws_eqStopS.f k t138 t142).bind fun t145 => (if t145 = true then (some true) else (some false)))) else (some false))))))))) (fun k => by first | rfl | unfold laws_FnExactRouteHours.f; rfl) ?_
  repeat' first
    | (with_reducible exact Co.const _)
    | (with_reducible exact impl_RouteHours.F_co _)
    | (with_reducible exact laws_eqStopS.F_co _ _)
    | (with_reducible exact laws_toStopS.F_co _)
    | (with_reducible exact spec_RouteHours.F_co _)
    | (with_reducible refine Co.ite ?_ ?_)
    | (with_reducible refine Co.bind ?_ (fun _ => ?_))

end Go.Proofs.Ytjokfllhbmodeaa.PFnExactRouteHours.Pure
