/-
  The printed functions that this law reaches, their rounds used up, and the equations that they meet.
-/
import Derived.Test.YtjokfllhbmodeaaPFnExactStopAtx1
import Derived.Test.YtjokfllhbmodeaaPFnExactStopAtx2
import Derived.Test.YtjokfllhbmodeaaPFnExactStopAtx3
import Derived.Test.YtjokfllhbmodeaaPFnExactStopAtx4
import Derived.Test.YtjokfllhbmodeaaPFnExactStopAtx5
import Derived.Test.YtjokfllhbmodeaaLim
namespace Go.Proofs.Ytjokfllhbmodeaa.PFnExactStopAt.Pure
open Go.RowKit Go.Proofs.YtjokfllhbmodeaaW.PrintWords Go.Proofs.YtjokfllhbmodeaaW.PrintLast Go.Proofs.YtjokfllhbmodeaaW.PrintMore Go.Proofs.Ytjokfllhbmodeaa.PFnExactStopAt Go.Proofs.Ytjokfllhbmodeaa.Lim
set_option linter.unusedVariables false
set_option maxRecDepth 100000

noncomputable def laws_toStopS.L0 (x0 : List (S103)) (x3 : List (S101)) (x4 : Int) : Option ((List (S101))) := lim (fun k => laws_toStopS.l0 k x0 x3 x4)
theorem laws_toStopS.L0_co (x0 : List (S103)) (x3 : List (S101)) (x4 : Int) : Co (fun k => laws_toStopS.l0 k x0 x3 x4) (laws_toStopS.L0 x0 x3 x4) := Co.base (fun k => (laws_toStopS.mono_l k) _ _ _)
noncomputable def laws_toStopS.F (l0 : List (S103)) : Option ((List (S101))) := lim (fun k => laws_toStopS.f k l0)
theorem laws_toStopS.F_co (l0 : List (S103)) : Co (fun k => laws_toStopS.f k l0) (laws_toStopS.F l0) := Co.base (fun k => laws_toStopS.mono _ k)
theorem laws_toStopS.L0_eq (x0 : List (S103)) (x3 : List (S101)) (x4 : Int) : laws_toStopS.L0 x0 x3 x4 = (if x4 < (x0.length : Int) then (if 0 ≤ x4 then ((laws_toStop.f ((rd_T103 x0 x4).f0) ((rd_T103 x0 x4).f1) ((rd_T103 x0 x4).f2)).bind fun bt108 => (if x4 < (x3.length : Int) then (laws_toStopS.L0 x0 (x3.set (x4 : Int).toNat (⟨bt108.1, bt108.2.1, bt108.2.2⟩ : S101)) (wrap64 (x4 + 1))) else (none))) else (none)) else (some x3)) := by
  refine Co.step (laws_toStopS.L0_co x0 x3 x4) (h := fun k => (if x4 < (x0.length : Int) then (if 0 ≤ x4 then ((laws_toStop.f ((rd_T103 x0 x4).f0) ((rd_T103 x0 x4).f1) ((rd_T103 x0 x4).f2)).bind fun bt108 => (if x4 < (x3.length : Int) then (laws_toStopS.l0 k x0 (x3.set (x4 : Int).toNat (⟨bt108.1, bt108.2.1, bt108.2.2⟩ : S101)) (wrap64 (x4 + 1))) else (none))) else (none)) else (some x3))) (fun k => by first | rfl | (simp only [laws_toStopS.l0])) ?_
  repeat' first
    | (with_reducible exact Co.const _)
    | (with_reducible exact laws_toStopS.L0_co _ _ _)
    | (with_reducible refine Co.ite ?_ ?_)
    | (with_reducible refine Co.bind ?_ (fun _ => ?_))
theorem laws_toStopS.F_eq (l0 : List (S103)) : laws_toStopS.F l0 = (if 0 ≤ (l0.length : Int) then (if ((l0.length : Int) : Int).toNat ≤ 11728124029610 then (laws_toStopS.L0 l0 (List.replicate ((l0.length : Int) : Int).toNat z101) 0) else (none)) else (none)) := by
  refine Co.same (laws_toStopS.F_co l0) (h := fun k => (if 0 ≤ (l0.length : Int) then (if ((l0.length : Int) : Int).toNat ≤ 11728124029610 then (laws_toStopS.l0 k l0 (List.replicate ((l0.length : Int) : Int).toNat z101) 0) else (none)) else (none))) (fun k => by first | rfl | unfold laws_toStopS.f; rfl) ?_
  repeat' first
    | (with_reducible exact Co.const _)
    | (with_reducible exact laws_toStopS.L0_co _ _ _)
    | (with_reducible refine Co.ite ?_ ?_)
    | (with_reducible refine Co.bind ?_ (fun _ => ?_))

noncomputable def laws_eqStopS.L0 (x0 : List (S101)) (x1 : List (S101)) (x5 : Int) : Option (Bool) := lim (fun k => laws_eqStopS.l0 k x0 x1 x5)
theorem laws_eqStopS.L0_co (x0 : List (S101)) (x1 : List (S101)) (x5 : Int) : Co (fun k => laws_eqStopS.l0 k x0 x1 x5) (laws_eqStopS.L0 x0 x1 x5) := Co.base (fun k => (laws_eqStopS.mono_l k) _ _ _)
noncomputable def laws_eqStopS.F (l0 : List (S101)) (l1 : List (S101)) : Option (Bool) := lim (fun k => laws_eqStopS.f k l0 l1)
theorem laws_eqStopS.F_co (l0 : List (S101)) (l1 : List (S101)) : Co (fun k => laws_eqStopS.f k l0 l1) (laws_eqStopS.F l0 l1) := Co.base (fun k => laws_eqStopS.mono _ _ k)
theorem laws_eqStopS.L0_eq (x0 : List (S101)) (x1 : List (S101)) (x5 : Int) : laws_eqStopS.L0 x0 x1 x5 = (if x5 < (x0.length : Int) then (if 0 ≤ x5 then (if x5 < (x1.length : Int) then ((laws_eqStop.f ((rd_T101 x0 x5).f0) ((rd_T101 x0 x5).f1) ((rd_T101 x0 x5).f2) ((rd_T101 x1 x5).f0) ((rd_T101 x1 x5).f1) ((rd_T101 x1 x5).f2)).bind fun t116 => (if t116 = true then (laws_eqStopS.L0 x0 x1 (wrap64 (x5 + 1))) else (some false))) else (none)) else (none)) else (some true)) := by
  refine Co.step (laws_eqStopS.L0_co x0 x1 x5) (h := fun k => (if x5 < (x0.length : Int) then (if 0 ≤ x5 then (if x5 < (x1.length : Int) then ((laws_eqStop.f ((rd_T101 x0 x5).f0) ((rd_T101 x0 x5).f1) ((rd_T101 x0 x5).f2) ((rd_T101 x1 x5).f0) ((rd_T101 x1 x5).f1) ((rd_T101 x1 x5).f2)).bind fun t116 => (if t116 = true then (laws_eqStopS.l0 k x0 x1 (wrap64 (x5 + 1))) else (some false))) else (none)) else (none)) else (some true))) (fun k => by first | rfl | (simp only [laws_eqStopS.l0])) ?_
  repeat' first
    | (with_reducible exact Co.const _)
    | (with_reducible exact laws_eqStopS.L0_co _ _ _)
    | (with_reducible refine Co.ite ?_ ?_)
    | (with_reducible refine Co.bind ?_ (fun _ => ?_))
theorem laws_eqStopS.F_eq (l0 : List (S101)) (l1 : List (S101)) : laws_eqStopS.F l0 l1 = (if (l0.length : Int) = (l1.length : Int) then (laws_eqStopS.L0 l0 l1 0) else (some false)) := by
  refine Co.same (laws_eqStopS.F_co l0 l1) (h := fun k => (if (l0.length : Int) = (l1.length : Int) then (laws_eqStopS.l0 k l0 l1 0) else (some false))) (fun k => by first | rfl | unfold laws_eqStopS.f; rfl) ?_
  repeat' first
    | (with_reducible exact Co.const _)
    | (with_reducible exact laws_eqStopS.L0_co _ _ _)
    | (with_reducible refine Co.ite ?_ ?_)
    | (with_reducible refine Co.bind ?_ (fun _ => ?_))

noncomputable def spec_IsRoute.L0 (x0 : List (S101)) (x3 : Int) : Option (Bool) := lim (fun k => spec_IsRoute.l0 k x0 x3)
theorem spec_IsRoute.L0_co (x0 : List (S101)) (x3 : Int) : Co (fun k => spec_IsRoute.l0 k x0 x3) (spec_IsRoute.L0 x0 x3) := Co.base (fun k => (spec_IsRoute.mono_l k) _ _)
noncomputable def spec_IsRoute.F (l0 : List (S101)) : Option (Bool) := lim (fun k => spec_IsRoute.f k l0)
theorem spec_IsRoute.F_co (l0 : List (S101)) : Co (fun k => spec_IsRoute.f k l0) (spec_IsRoute.F l0) := Co.base (fun k => spec_IsRoute.mono _ k)
theorem spec_IsRoute.L0_eq (x0 : List (S101)) (x3 : Int) : spec_IsRoute.L0 x0 x3 = (if x3 < (x0.length : Int) then (if 0 ≤ x3 then ((spec_l1In.f ((rd_T101 x0 x3).f0) 1 30).bind fun t119 => (if t119 = true then (if ((rd_T101 x0 x3).f1) < 0 then (some false) else (if ((rd_T101 x0 x3).f1) > ((rd_T101 x0 x3).f2) then (some false) else (if ((rd_T101 x0 x3).f2) > 100000 then (some false) else (if x3 > 0 then (if 0 ≤ (wrap64 (x3 - 1)) then (if (wrap64 (x3 - 1)) < (x0.length : Int) then (if ((rd_T101 x0 x3).f1) < ((rd_T101 x0 (wrap64 (x3 - 1))).f2) then (some false) else (spec_IsRoute.L0 x0 (wrap64 (x3 + 1)))) else (none)) else (none)) else (spec_IsRoute.L0 x0 (wrap64 (x3 + 1))))))) else (some false))) else (none)) else ((spec_l1In.f (x0.length : Int) 1 10).bind fun t121 => (some t121))) := by
  refine Co.step (spec_IsRoute.L0_co x0 x3) (h := fun k => (if x3 < (x0.length : Int) then (if 0 ≤ x3 then ((spec_l1In.f ((rd_T101 x0 x3).f0) 1 30).bind fun t119 => (if t119 = true then (if ((rd_T101 x0 x3).f1) < 0 then (some false) else (if ((rd_T101 x0 x3).f1) > ((rd_T101 x0 x3).f2) then (some false) else (if ((rd_T101 x0 x3).f2) > 100000 then (some false) else (if x3 > 0 then (if 0 ≤ (wrap64 (x3 - 1)) then (if (wrap64 (x3 - 1)) < (x0.length : Int) then (if ((rd_T101 x0 x3).f1) < ((rd_T101 x0 (wrap64 (x3 - 1))).f2) then (some false) else (spec_IsRoute.l0 k x0 (wrap64 (x3 + 1)))) else (none)) else (none)) else (spec_IsRoute.l0 k x0 (wrap64 (x3 + 1))))))) else (some false))) else (none)) else ((spec_l1In.f (x0.length : Int) 1 10).bind fun t121 => (some t121)))) (fun k => by first | rfl | (simp only [spec_IsRoute.l0])) ?_
  repeat' first
    | (with_reducible exact Co.const _)
    | (with_reducible exact spec_IsRoute.L0_co _ _)
    | (with_reducible refine Co.ite ?_ ?_)
    | (with_reducible refine Co.bind ?_ (fun _ => ?_))
theorem spec_IsRoute.F_eq (l0 : List (S101)) : spec_IsRoute.F l0 = (spec_IsRoute.L0 l0 0) := by
  refine Co.same (spec_IsRoute.F_co l0) (h := fun k => (spec_IsRoute.l0 k l0 0)) (fun k => by first | rfl | unfold spec_IsRoute.f; rfl) ?_
  repeat' first
    | (with_reducible exact Co.const _)
    | (with_reducible exact spec_IsRoute.L0_co _ _)
    | (with_reducible refine Co.ite ?_ ?_)
    | (with_reducible refine Co.bind ?_ (fun _ => ?_))

noncomputable def spec_StopAt.L0 (x0 : List (S101)) (x1 : Int) (x5 : Int) : Option (Int) := lim (fun k => spec_StopAt.l0 k x0 x1 x5)
theorem spec_StopAt.L0_co (x0 : List (S101)) (x1 : Int) (x5 : Int) : Co (fun k => spec_StopAt.l0 k x0 x1 x5) (spec_StopAt.L0 x0 x1 x5) := Co.base (fun k => (spec_StopAt.mono_l k).1 _ _ _)
noncomputable def spec_StopAt.J1 (x0 : List (S101)) (x1 : Int) (x5 : Int) (x13 : Bool) : Option (Int) := lim (fun k => spec_StopAt.j1 k x0 x1 x5 x13)
theorem spec_StopAt.J1_co (x0 : List (S101)) (x1 : Int) (x5 : Int) (x13 : Bool) : Co (fun k => spec_StopAt.j1 k x0 x1 x5 x13) (spec_StopAt.J1 x0 x1 x5 x13) := Co.base (fun k => (spec_StopAt.mono_l k).2 _ _ _ _)
noncomputable def spec_StopAt.F (l0 : List (S101)) (a1 : Int) : Option (Int) := lim (fun k => spec_StopAt.f k l0 a1)
theorem spec_StopAt.F_co (l0 : List (S101)) (a1 : Int) : Co (fun k => spec_StopAt.f k l0 a1) (spec_StopAt.F l0 a1) := Co.base (fun k => spec_StopAt.mono _ _ k)
theorem spec_StopAt.L0_eq (x0 : List (S101)) (x1 : Int) (x5 : Int) : spec_StopAt.L0 x0 x1 x5 = (if x5 < (x0.length : Int) then ((spec_IsRoute.F x0).bind fun t122 => (spec_StopAt.J1 x0 x1 x5 t122)) else (spec_StopAt.J1 x0 x1 x5 false)) := by
  refine Co.step (spec_StopAt.L0_co x0 x1 x5) (h := fun k => (if x5 < (x0.length : Int) then ((spec_IsRoute.f k x0).bind fun t122 => (spec_StopAt.j1 k x0 x1 x5 t122)) else (spec_StopAt.j1 k x0 x1 x5 false))) (fun k => by first | rfl | (simp only [spec_StopAt.l0])) ?_
  repeat' first
    | (with_reducible exact Co.const _)
    | (with_reducible exact spec_IsRoute.F_co _)
    | (with_reducible exact spec_StopAt.J1_co _ _ _ _)
    | (with_reducible refine Co.ite ?_ ?_)
    | (with_reducible refine Co.bind ?_ (fun _ => ?_))
theorem spec_StopAt.J1_eq (x0 : List (S101)) (x1 : Int) (x5 : Int) (x13 : Bool) : spec_StopAt.J1 x0 x1 x5 x13 = (if x13 = true then (if 0 ≤ x5 then (if x5 < (x0.length : Int) then ((spec_l1In.f x1 ((rd_T101 x0 x5).f1) ((rd_T101 x0 x5).f2)).bind fun t125 => (if t125 = true then (some ((rd_T101 x0 x5).f0)) else (spec_StopAt.L0 x0 x1 (wrap64 (x5 + 1))))) else (none)) else (none)) else (some 0)) := by
  refine Co.step (spec_StopAt.J1_co x0 x1 x5 x13) (h := fun k => (if x13 = true then (if 0 ≤ x5 then (if x5 < (x0.length : Int) then ((spec_l1In.f x1 ((rd_T101 x0 x5).f1) ((rd_T101 x0 x5).f2)).bind fun t125 => (if t125 = true then (some ((rd_T101 x0 x5).f0)) else (spec_StopAt.l0 k x0 x1 (wrap64 (x5 + 1))))) else (none)) else (none)) else (some 0))) (fun k => by first | rfl | (simp only [spec_StopAt.j1])) ?_
  repeat' first
    | (with_reducible exact Co.const _)
    | (with_reducible exact spec_StopAt.L0_co _ _ _)
    | (with_reducible refine Co.ite ?_ ?_)
    | (with_reducible refine Co.bind ?_ (fun _ => ?_))
theorem spec_StopAt.F_eq (l0 : List (S101)) (a1 : Int) : spec_StopAt.F l0 a1 = (spec_StopAt.L0 l0 a1 0) := by
  refine Co.same (spec_StopAt.F_co l0 a1) (h := fun k => (spec_StopAt.l0 k l0 a1 0)) (fun k => by first | rfl | unfold spec_StopAt.f; rfl) ?_
  repeat' first
    | (with_reducible exact Co.const _)
    | (with_reducible exact spec_StopAt.L0_co _ _ _)
    | (with_reducible refine Co.ite ?_ ?_)
    | (with_reducible refine Co.bind ?_ (fun _ => ?_))

noncomputable def impl_IsRoute.L0 (x0 : List (S101)) (x9 : List (S101)) (x10 : Int) (x11 : Int) : Option (Bool) := lim (fun k => impl_IsRoute.l0 k x0 x9 x10 x11)
theorem impl_IsRoute.L0_co (x0 : List (S101)) (x9 : List (S101)) (x10 : Int) (x11 : Int) : Co (fun k => impl_IsRoute.l0 k x0 x9 x10 x11) (impl_IsRoute.L0 x0 x9 x10 x11) := Co.base (fun k => (impl_IsRoute.mono_l k) _ _ _ _)
noncomputable def impl_IsRoute.F (l0 : List (S101)) : Option (Bool) := lim (fun k => impl_IsRoute.f k l0)
theorem impl_IsRoute.F_co (l0 : List (S101)) : Co (fun k => impl_IsRoute.f k l0) (impl_IsRoute.F l0) := Co.base (fun k => impl_IsRoute.mono _ k)
theorem impl_IsRoute.L0_eq (x0 : List (S101)) (x9 : List (S101)) (x10 : Int) (x11 : Int) : impl_IsRoute.L0 x0 x9 x10 x11 = (if x11 < x10 then (if 0 ≤ x11 then (if x11 < (x9.length : Int) then ((impl_InRange.f ((rd_T101 x9 x11).f0) 1 30).bind fun t130 => (if t130 = true then (if ((rd_T101 x9 x11).f1) < 0 then (some false) else (if ((rd_T101 x9 x11).f1) > ((rd_T101 x9 x11).f2) then (some false) else (if ((rd_T101 x9 x11).f2) > 100000 then (some false) else (if x11 > 0 then (if 0 ≤ (wrap64 (x11 - 1)) then (if (wrap64 (x11 - 1)) < (x0.length : Int) then (if ((rd_T101 x9 x11).f1) < ((rd_T101 x0 (wrap64 (x11 - 1))).f2) then (some false) else (impl_IsRoute.L0 x0 x9 x10 (wrap64 (x11 + 1)))) else (none)) else (none)) else (impl_IsRoute.L0 x0 x9 x10 (wrap64 (x11 + 1))))))) else (some false))) else (none)) else (none)) else (some true)) := by
  refine Co.step (impl_IsRoute.L0_co x0 x9 x10 x11) (h := fun k => (if x11 < x10 then (if 0 ≤ x11 then (if x11 < (x9.length : Int) then ((impl_InRange.f ((rd_T101 x9 x11).f0) 1 30).bind fun t130 => (if t130 = true then (if ((rd_T101 x9 x11).f1) < 0 then (some false) else (if ((rd_T101 x9 x11).f1) > ((rd_T101 x9 x11).f2) then (some false) else (if ((rd_T101 x9 x11).f2) > 100000 then (some false) else (if x11 > 0 then (if 0 ≤ (wrap64 (x11 - 1)) then (if (wrap64 (x11 - 1)) < (x0.length : Int) then (if ((rd_T101 x9 x11).f1) < ((rd_T101 x0 (wrap64 (x11 - 1))).f2) then (some false) else (impl_IsRoute.l0 k x0 x9 x10 (wrap64 (x11 + 1)))) else (none)) else (none)) else (impl_IsRoute.l0 k x0 x9 x10 (wrap64 (x11 + 1))))))) else (some false))) else (none)) else (none)) else (some true))) (fun k => by first | rfl | (simp only [impl_IsRoute.l0])) ?_
  repeat' first
    | (with_reducible exact Co.const _)
    | (with_reducible exact impl_IsRoute.L0_co _ _ _ _)
    | (with_reducible refine Co.ite ?_ ?_)
    | (with_reducible refine Co.bind ?_ (fun _ => ?_))
theorem impl_IsRoute.F_eq (l0 : List (S101)) : impl_IsRoute.F l0 = ((impl_InRange.f (l0.length : Int) 1 10).bind fun t127 => (if t127 = true then (impl_IsRoute.L0 l0 l0 (l0.length : Int) 0) else (some false))) := by
  refine Co.same (impl_IsRoute.F_co l0) (h := fun k => ((impl_InRange.f (l0.length : Int) 1 10).bind fun t127 => (if t127 = true then (impl_IsRoute.l0 k l0 l0 (l0.length : Int) 0) else (some false)))) (fun k => by first | rfl | unfold impl_IsRoute.f; rfl) ?_
  repeat' first
    | (with_reducible exact Co.const _)
    | (with_reducible exact impl_IsRoute.L0_co _ _ _ _)
    | (with_reducible refine Co.ite ?_ ?_)
    | (with_reducible refine Co.bind ?_ (fun _ => ?_))

noncomputable def impl_StopAt.L0 (x1 : Int) (x10 : List (S101)) (x11 : Int) (x12 : Int) : Option (Int) := lim (fun k => impl_StopAt.l0 k x1 x10 x11 x12)
theorem impl_StopAt.L0_co (x1 : Int) (x10 : List (S101)) (x11 : Int) (x12 : Int) : Co (fun k => impl_StopAt.l0 k x1 x10 x11 x12) (impl_StopAt.L0 x1 x10 x11 x12) := Co.base (fun k => (impl_StopAt.mono_l k) _ _ _ _)
noncomputable def impl_StopAt.F (l0 : List (S101)) (a1 : Int) : Option (Int) := lim (fun k => impl_StopAt.f k l0 a1)
theorem impl_StopAt.F_co (l0 : List (S101)) (a1 : Int) : Co (fun k => impl_StopAt.f k l0 a1) (impl_StopAt.F l0 a1) := Co.base (fun k => impl_StopAt.mono _ _ k)
theorem impl_StopAt.L0_eq (x1 : Int) (x10 : List (S101)) (x11 : Int) (x12 : Int) : impl_StopAt.L0 x1 x10 x11 x12 = (if x12 < x11 then (if 0 ≤ x12 then (if x12 < (x10.length : Int) then ((impl_InRange.f x1 ((rd_T101 x10 x12).f1) ((rd_T101 x10 x12).f2)).bind fun t135 => (if t135 = true then (some ((rd_T101 x10 x12).f0)) else (impl_StopAt.L0 x1 x10 x11 (wrap64 (x12 + 1))))) else (none)) else (none)) else (some 0)) := by
  refine Co.step (impl_StopAt.L0_co x1 x10 x11 x12) (h := fun k => (if x12 < x11 then (if 0 ≤ x12 then (if x12 < (x10.length : Int) then ((impl_InRange.f x1 ((rd_T101 x10 x12).f1) ((rd_T101 x10 x12).f2)).bind fun t135 => (if t135 = true then (some ((rd_T101 x10 x12).f0)) else (impl_StopAt.l0 k x1 x10 x11 (wrap64 (x12 + 1))))) else (none)) else (none)) else (some 0))) (fun k => by first | rfl | (simp only [impl_StopAt.l0])) ?_
  repeat' first
    | (with_reducible exact Co.const _)
    | (with_reducible exact impl_StopAt.L0_co _ _ _ _)
    | (with_reducible refine Co.ite ?_ ?_)
    | (with_reducible refine Co.bind ?_ (fun _ => ?_))
theorem impl_StopAt.F_eq (l0 : List (S101)) (a1 : Int) : impl_StopAt.F l0 a1 = ((impl_IsRoute.F l0).bind fun t132 => (if t132 = true then (impl_StopAt.L0 a1 l0 (l0.length : Int) 0) else (some 0))) := by
  refine Co.same (impl_StopAt.F_co l0 a1) (h := fun k => ((impl_IsRoute.f k l0).bind fun t132 => (if t132 = true then (impl_StopAt.l0 k a1 l0 (l0.length : Int) 0) else (some 0)))) (fun k => by first | rfl | unfold impl_StopAt.f; rfl) ?_
  repeat' first
    | (with_reducible exact Co.const _)
    | (with_reducible exact impl_IsRoute.F_co _)
    | (with_reducible exact impl_StopAt.L0_co _ _ _ _)
    | (with_reducible refine Co.ite ?_ ?_)
    | (with_reducible refine Co.bind ?_ (fun _ => ?_))

noncomputable def laws_FnExactStopAt.F (l0 : List (S103)) (a1 : Int) : Option (Bool) := lim (fun k => laws_FnExactStopAt.f k l0 a1)
theorem laws_FnExactStopAt.F_co (l0 : List (S103)) (a1 : Int) : Co (fun k => laws_FnExactStopAt.f k l0 a1) (laws_FnExactStopAt.F l0 a1) := Co.base (fun k => laws_FnExactStopAt.mono _ _ k)
theorem laws_FnExactStopAt.F_eq (l0 : List (S103)) (a1 : Int) : laws_FnExactStopAt.F l0 a1 = ((laws_szStopS.f l0 1048576).bind fun t136 => (if t136 < 0 then (some true) else ((laws_toStopS.F l0).bind fun t137 => ((spec_StopAt.F t137 a1).bind fun t140 => ((laws_toStopS.F l0).bind fun t141 => ((impl_StopAt.F t141 a1).bind fun t144 => (if t144 = t140 then ((laws_toStopS.F l0).bind fun t145 => ((laws_eqStopS.F t141 t145).bind fun t148 => (if t148 = true then (some true) else (some false)))) else (some false)))))))) := by
  refine Co.same (laws_FnExactStopAt.F_co l0 a1) (h := fun k => ((laws_szStopS.f l0 1048576).bind fun t136 => (if t136 < 0 then (some true) else ((laws_toStopS.f k l0).bind fun t137 => ((spec_StopAt.f k t137 a1).bind fun t140 => ((laws_toStopS.f k l0).bind fun t141 => ((impl_StopAt.f k t141 a1).bind fun t144 => (if t144 = t140 then ((laws_toStopS.f k l0).bind fun t145 => ((laws_eqStopS.f k t141 t145).bind fun t148 => (if t148 = true then (some true) else (some false)))) else (some false))))))))) (fun k => by first | rfl | unfold laws_FnExactStopAt.f; rfl) ?_
  repeat' first
    | (with_reducible exact Co.const _)
    | (with_reducible exact impl_StopAt.F_co _ _)
    | (with_reducible exact laws_eqStopS.F_co _ _)
    | (with_reducible exact laws_toStopS.F_co _)
    | (with_reducible exact spec_StopAt.F_co _ _)
    | (with_reducible refine Co.ite ?_ ?_)
    | (with_reducible refine Co.bind ?_ (fun _ => ?_))

end Go.Proofs.Ytjokfllhbmodeaa.PFnExactStopAt.Pure
