/-
  The printed functions that this law reaches, their rounds used up, and the equations that they meet.
-/
import Derived.Test.YtkfalbaklodnjaaPFnExactLeftBetweenx1
import Derived.Test.YtkfalbaklodnjaaPFnExactLeftBetweenx10
import Derived.Test.YtkfalbaklodnjaaPFnExactLeftBetweenx11
import Derived.Test.YtkfalbaklodnjaaPFnExactLeftBetweenx2
import Derived.Test.YtkfalbaklodnjaaPFnExactLeftBetweenx3
import Derived.Test.YtkfalbaklodnjaaPFnExactLeftBetweenx4
import Derived.Test.YtkfalbaklodnjaaPFnExactLeftBetweenx5
import Derived.Test.YtkfalbaklodnjaaPFnExactLeftBetweenx6
import Derived.Test.YtkfalbaklodnjaaPFnExactLeftBetweenx7
import Derived.Test.YtkfalbaklodnjaaPFnExactLeftBetweenx8
import Derived.Test.YtkfalbaklodnjaaPFnExactLeftBetweenx9
import Derived.Test.YtkfalbaklodnjaaLim
namespace Go.Proofs.Ytkfalbaklodnjaa.PFnExactLeftBetween.Pure
open Go.RowKit Go.Proofs.YtkfalbaklodnjaaW.PrintWords Go.Proofs.YtkfalbaklodnjaaW.PrintLast Go.Proofs.YtkfalbaklodnjaaW.PrintMore Go.Proofs.Ytkfalbaklodnjaa.PFnExactLeftBetween Go.Proofs.Ytkfalbaklodnjaa.Lim
set_option linter.unusedVariables false
set_option maxRecDepth 100000

noncomputable def spec_IsRoute.L0 (x0 : List (S130)) (x3 : Int) : Option (Bool) := lim (fun k => spec_IsRoute.l0 k x0 x3)
theorem spec_IsRoute.L0_co (x0 : List (S130)) (x3 : Int) : Co (fun k => spec_IsRoute.l0 k x0 x3) (spec_IsRoute.L0 x0 x3) := Co.base (fun k => (spec_IsRoute.mono_l k) _ _)
noncomputable def spec_IsRoute.F (l0 : List (S130)) : Option (Bool) := lim (fun k => spec_IsRoute.f k l0)
theorem spec_IsRoute.F_co (l0 : List (S130)) : Co (fun k => spec_IsRoute.f k l0) (spec_IsRoute.F l0) := Co.base (fun k => spec_IsRoute.mono _ k)
theorem spec_IsRoute.L0_eq (x0 : List (S130)) (x3 : Int) : spec_IsRoute.L0 x0 x3 = (if x3 < (x0.length : Int) then (if 0 ≤ x3 then ((spec_l1In.f ((rd_T130 x0 x3).f0) 1 30).bind fun t103 => (if t103 = true then (if ((rd_T130 x0 x3).f1) < 0 then (some false) else (if ((rd_T130 x0 x3).f1) > ((rd_T130 x0 x3).f2) then (some false) else (if ((rd_T130 x0 x3).f2) > 100000 then (some false) else (if x3 > 0 then (if 0 ≤ (wrap64 (x3 - 1)) then (if (wrap64 (x3 - 1)) < (x0.length : Int) then (if ((rd_T130 x0 x3).f1) < ((rd_T130 x0 (wrap64 (x3 - 1))).f2) then (some false) else (spec_IsRoute.L0 x0 (wrap64 (x3 + 1)))) else (none)) else (none)) else (spec_IsRoute.L0 x0 (wrap64 (x3 + 1))))))) else (some false))) else (none)) else ((spec_l1In.f (x0.length : Int) 1 10).bind fun t105 => (some t105))) := by
  refine Co.step (spec_IsRoute.L0_co x0 x3) (h := fun k => (if x3 < (x0.length : Int) then (if 0 ≤ x3 then ((spec_l1In.f ((rd_T130 x0 x3).f0) 1 30).bind fun t103 => (if t103 = true then (if ((rd_T130 x0 x3).f1) < 0 then (some false) else (if ((rd_T130 x0 x3).f1) > ((rd_T130 x0 x3).f2) then (some false) else (if ((rd_T130 x0 x3).f2) > 100000 then (some false) else (if x3 > 0 then (if 0 ≤ (wrap64 (x3 - 1)) then (if (wrap64 (x3 - 1)) < (x0.length : Int) then (if ((rd_T130 x0 x3).f1) < ((rd_T130 x0 (wrap64 (x3 - 1))).f2) then (some false) else (spec_IsRoute.l0 k x0 (wrap64 (x3 + 1)))) else (none)) else (none)) else (spec_IsRoute.l0 k x0 (wrap64 (x3 + 1))))))) else (some false))) else (none)) else ((spec_l1In.f (x0.length : Int) 1 10).bind fun t105 => (some t105)))) (fun k => by first | rfl | (simp only [spec_IsRoute.l0])) ?_
  repeat' first
    | (with_reducible exact Co.const _)
    | (with_reducible exact spec_IsRoute.L0_co _ _)
    | (with_reducible refine Co.ite ?_ ?_)
    | (with_reducible refine Co.bind ?_ (fun _ => ?_))
theorem spec_IsRoute.F_eq (l0 : List (S130)) : spec_IsRoute.F l0 = (spec_IsRoute.L0 l0 0) := by
  refine Co.same (spec_IsRoute.F_co l0) (h := fun k => (spec_IsRoute.l0 k l0 0)) (fun k => by first | rfl | unfold spec_IsRoute.f; rfl) ?_
  repeat' first
    | (with_reducible exact Co.const _)
    | (with_reducible exact spec_IsRoute.L0_co _ _)
    | (with_reducible refine Co.ite ?_ ?_)
    | (with_reducible refine Co.bind ?_ (fun _ => ?_))

noncomputable def spec_l9Put.L0 (x0 : List Int) (x1 : Int) (x5 : Int) : Option (List Int) := lim (fun k => spec_l9Put.l0 k x0 x1 x5)
theorem spec_l9Put.L0_co (x0 : List Int) (x1 : Int) (x5 : Int) : Co (fun k => spec_l9Put.l0 k x0 x1 x5) (spec_l9Put.L0 x0 x1 x5) := Co.base (fun k => (spec_l9Put.mono_l k) _ _ _)
noncomputable def spec_l9Put.F (l0 : List Int) (a1 : Int) : Option (List Int) := lim (fun k => spec_l9Put.f k l0 a1)
theorem spec_l9Put.F_co (l0 : List Int) (a1 : Int) : Co (fun k => spec_l9Put.f k l0 a1) (spec_l9Put.F l0 a1) := Co.base (fun k => spec_l9Put.mono _ _ k)
theorem spec_l9Put.L0_eq (x0 : List Int) (x1 : Int) (x5 : Int) : spec_l9Put.L0 x0 x1 x5 = (if x5 < (x0.length : Int) then (if 0 ≤ x5 then (if (rd x0 x5) < x1 then (spec_l9Put.L0 x0 x1 (wrap64 (x5 + 1))) else (if (rd x0 x5) = x1 then ((some (([] : List Int) : List Int)).bind fun y120 => (if y120.length + x0.length < 17592186044416 then (some (y120 ++ x0)) else (none))) else ((some (([] : List Int) : List Int)).bind fun y126 => (if x5 ≤ (x0.length : Int) then (if y126.length + (x0.take (x5 : Int).toNat).length < 17592186044416 then ((some (y126 ++ (x0.take (x5 : Int).toNat) : List Int)).bind fun y130 => ((some (([x1] : List Int) : List Int)).bind fun y133 => (if y130.length + y133.length < 17592186044416 then ((some (y130 ++ y133 : List Int)).bind fun y136 => (if y136.length + (x0.drop (x5 : Int).toNat).length < 17592186044416 then (some (y136 ++ (x0.drop (x5 : Int).toNat))) else (none))) else (none)))) else (none)) else (none))))) else (none)) else ((some (([] : List Int) : List Int)).bind fun y143 => (if 0 ≤ x5 then (if x5 ≤ (x0.length : Int) then (if y143.length + (x0.take (x5 : Int).toNat).length < 17592186044416 then ((some (y143 ++ (x0.take (x5 : Int).toNat) : List Int)).bind fun y147 => ((some (([x1] : List Int) : List Int)).bind fun y150 => (if y147.length + y150.length < 17592186044416 then ((some (y147 ++ y150 : List Int)).bind fun y153 => (if y153.length + (x0.drop (x5 : Int).toNat).length < 17592186044416 then (some (y153 ++ (x0.drop (x5 : Int).toNat))) else (none))) else (none)))) else (none)) else (none)) else (none)))) := by
  refine Co.step (spec_l9Put.L0_co x0 x1 x5) (h := fun k => (if x5 < (x0.length : Int) then (if 0 ≤ x5 then (if (rd x0 x5) < x1 then (spec_l9Put.l0 k x0 x1 (wrap64 (x5 + 1))) else (if (rd x0 x5) = x1 then ((some (([] : List Int) : List Int)).bind fun y120 => (if y120.length + x0.length < 17592186044416 then (some (y120 ++ x0)) else (none))) else ((some (([] : List Int) : List Int)).bind fun y126 => (if x5 ≤ (x0.length : Int) then (if y126.length + (x0.take (x5 : Int).toNat).length < 17592186044416 then ((some (y126 ++ (x0.take (x5 : Int).toNat) : List Int)).bind fun y130 => ((some (([x1] : List Int) : List Int)).bind fun y133 => (if y130.length + y133.length < 17592186044416 then ((some (y130 ++ y133 : List Int)).bind fun y136 => (if y136.length + (x0.drop (x5 : Int).toNat).length < 17592186044416 then (some (y136 ++ (x0.drop (x5 : Int).toNat))) else (none))) else (none)))) else (none)) else (none))))) else (none)) else ((some (([] : List Int) : List Int)).bind fun y143 => (if 0 ≤ x5 then (if x5 ≤ (x0.length : Int) then (if y143.length + (x0.take (x5 : Int).toNat).length < 17592186044416 then ((some (y143 ++ (x0.take (x5 : Int).toNat) : List Int)).bind fun y147 => ((some (([x1] : List Int) : List Int)).bind fun y150 => (if y147.length + y150.length < 17592186044416 then ((some (y147 ++ y150 : List Int)).bind fun y153 => (if y153.length + (x0.drop (x5 : Int).toNat).length < 17592186044416 then (some (y153 ++ (x0.drop (x5 : Int).toNat))) else (none))) else (none)))) else (none)) else (none)) else (none))))) (fun k => by first | rfl | (simp only [spec_l9Put.l0])) ?_
  repeat' first
    | (with_reducible exact Co.const _)
    | (with_reducible exact spec_l9Put.L0_co _ _ _)
    | (with_reducible refine Co.ite ?_ ?_)
    | (with_reducible refine Co.bind ?_ (fun _ => ?_))
theorem spec_l9Put.F_eq (l0 : List Int) (a1 : Int) : spec_l9Put.F l0 a1 = (spec_l9Put.L0 l0 a1 0) := by
  refine Co.same (spec_l9Put.F_co l0 a1) (h := fun k => (spec_l9Put.l0 k l0 a1 0)) (fun k => by first | rfl | unfold spec_l9Put.f; rfl) ?_
  repeat' first
    | (with_reducible exact Co.const _)
    | (with_reducible exact spec_l9Put.L0_co _ _ _)
    | (with_reducible refine Co.ite ?_ ?_)
    | (with_reducible refine Co.bind ?_ (fun _ => ?_))

noncomputable def spec_LeftBetween.L0 (x0 : List (S130)) (x5 : List Int) (x6 : Int) (x161000 : Int) (x161001 : Int) : Option (List Int) := lim (fun k => spec_LeftBetween.l0 k x0 x5 x6 x161000 x161001)
theorem spec_LeftBetween.L0_co (x0 : List (S130)) (x5 : List Int) (x6 : Int) (x161000 : Int) (x161001 : Int) : Co (fun k => spec_LeftBetween.l0 k x0 x5 x6 x161000 x161001) (spec_LeftBetween.L0 x0 x5 x6 x161000 x161001) := Co.base (fun k => (spec_LeftBetween.mono_l k).1 _ _ _ _ _)
noncomputable def spec_LeftBetween.J1 (x0 : List (S130)) (x5 : List Int) (x6 : Int) (x21 : Bool) (x161000 : Int) (x161001 : Int) : Option (List Int) := lim (fun k => spec_LeftBetween.j1 k x0 x5 x6 x21 x161000 x161001)
theorem spec_LeftBetween.J1_co (x0 : List (S130)) (x5 : List Int) (x6 : Int) (x21 : Bool) (x161000 : Int) (x161001 : Int) : Co (fun k => spec_LeftBetween.j1 k x0 x5 x6 x21 x161000 x161001) (spec_LeftBetween.J1 x0 x5 x6 x21 x161000 x161001) := Co.base (fun k => (spec_LeftBetween.mono_l k).2 _ _ _ _ _ _)
noncomputable def spec_LeftBetween.F (l0 : List (S130)) (a1_0 : Int) (a1_1 : Int) : Option (List Int) := lim (fun k => spec_LeftBetween.f k l0 a1_0 a1_1)
theorem spec_LeftBetween.F_co (l0 : List (S130)) (a1_0 : Int) (a1_1 : Int) : Co (fun k => spec_LeftBetween.f k l0 a1_0 a1_1) (spec_LeftBetween.F l0 a1_0 a1_1) := Co.base (fun k => spec_LeftBetween.mono _ _ _ k)
theorem spec_LeftBetween.L0_eq (x0 : List (S130)) (x5 : List Int) (x6 : Int) (x161000 : Int) (x161001 : Int) : spec_LeftBetween.L0 x0 x5 x6 x161000 x161001 = (if x6 < (x0.length : Int) then ((spec_IsRoute.F x0).bind fun t164 => (if t164 = true then ((spec_IsSpan.f x161000 x161001).bind fun t165 => (spec_LeftBetween.J1 x0 x5 x6 t165 x161000 x161001)) else (spec_LeftBetween.J1 x0 x5 x6 false x161000 x161001))) else (spec_LeftBetween.J1 x0 x5 x6 false x161000 x161001)) := by
  refine Co.step (spec_LeftBetween.L0_co x0 x5 x6 x161000 x161001) (h := fun k => (if x6 < (x0.length : Int) then ((spec_IsRoute.f k x0).bind fun t164 => (if t164 = true then ((spec_IsSpan.f x161000 x161001).bind fun t165 => (spec_LeftBetween.j1 k x0 x5 x6 t165 x161000 x161001)) else (spec_LeftBetween.j1 k x0 x5 x6 false x161000 x161001))) else (spec_LeftBetween.j1 k x0 x5 x6 false x161000 x161001))) (fun k => by first | rfl | (simp only [spec_LeftBetween.l0])) ?_
  repeat' first
    | (with_reducible exact Co.const _)
    | (with_reducible exact spec_IsRoute.F_co _)
    | (with_reducible exact spec_LeftBetween.J1_co _ _ _ _ _ _)
    | (with_reducible refine Co.ite ?_ ?_)
    | (with_reducible refine Co.bind ?_ (fun _ => ?_))
theorem spec_LeftBetween.J1_eq (x0 : List (S130)) (x5 : List Int) (x6 : Int) (x21 : Bool) (x161000 : Int) (x161001 : Int) : spec_LeftBetween.J1 x0 x5 x6 x21 x161000 x161001 = (if x21 = true then (if 0 ≤ x6 then (if x6 < (x0.length : Int) then ((spec_Meet.f x161000 x161001 ((rd_T130 x0 x6).f1) ((rd_T130 x0 x6).f2)).bind fun bt168 => (if bt168.2.2 = true then ((spec_l9Put.F x5 ((rd_T130 x0 x6).f0)).bind fun t173 => (spec_LeftBetween.L0 x0 t173 (wrap64 (x6 + 1)) x161000 x161001)) else (if (wrap64 (x6 + 1)) = (x0.length : Int) then ((spec_l9Put.F x5 ((rd_T130 x0 x6).f0)).bind fun t177 => (spec_LeftBetween.L0 x0 t177 (wrap64 (x6 + 1)) x161000 x161001)) else (spec_LeftBetween.L0 x0 x5 (wrap64 (x6 + 1)) x161000 x161001)))) else (none)) else (none)) else (some x5)) := by
  refine Co.step (spec_LeftBetween.J1_co x0 x5 x6 x21 x161000 x161001) (h := fun k => (if x21 = true then (if 0 ≤ x6 then (if x6 < (x0.length : Int) then ((spec_Meet.f x161000 x161001 ((rd_T130 x0 x6).f1) ((rd_T130 x0 x6).f2)).bind fun bt168 => (if bt168.2.2 = true then ((spec_l9Put.f k x5 ((rd_T130 x0 x6).f0)).bind fun t173 => (spec_LeftBetween.l0 k x0 t173 (wrap64 (x6 + 1)) x161000 x161001)) else (if (wrap64 (x6 + 1)) = (x0.length : Int) then ((spec_l9Put.f k x5 ((rd_T130 x0 x6).f0)).bind fun t177 => (spec_LeftBetween.l0 k x0 t177 (wrap64 (x6 + 1)) x161000 x161001)) else (spec_LeftBetween.l0 k x0 x5 (wrap64 (x6 + 1)) x161000 x161001)))) else (none)) else (none)) else (some x5))) (fun k => by first | rfl | (simp only [spec_LeftBetween.j1])) ?_
  repeat' first
    | (with_reducible exact Co.const _)
    | (with_reducible exact spec_LeftBetween.L0_co _ _ _ _ _)
    | (with_reducible exact spec_l9Put.F_co _ _)
    | (with_reducible refine Co.ite ?_ ?_)
    | (with_reducible refine Co.bind ?_ (fun _ => ?_))
theorem spec_LeftBetween.F_eq (l0 : List (S130)) (a1_0 : Int) (a1_1 : Int) : spec_LeftBetween.F l0 a1_0 a1_1 = (spec_LeftBetween.L0 l0 (([] : List Int)) 0 a1_0 a1_1) := by
  refine Co.same (spec_LeftBetween.F_co l0 a1_0 a1_1) (h := fun k => (spec_LeftBetween.l0 k l0 (([] : List Int)) 0 a1_0 a1_1)) (fun k => by first | rfl | unfold spec_LeftBetween.f; rfl) ?_
  repeat' first
    | (with_reducible exact Co.const _)
    | (with_reducible exact spec_LeftBetween.L0_co _ _ _ _ _)
    | (with_reducible refine Co.ite ?_ ?_)
    | (with_reducible refine Co.bind ?_ (fun _ => ?_))

noncomputable def laws_toStopS.L0 (x0 : List (S154)) (x3 : List (S130)) (x4 : Int) : Option ((List (S130))) := lim (fun k => laws_toStopS.l0 k x0 x3 x4)
theorem laws_toStopS.L0_co (x0 : List (S154)) (x3 : List (S130)) (x4 : Int) : Co (fun k => laws_toStopS.l0 k x0 x3 x4) (laws_toStopS.L0 x0 x3 x4) := Co.base (fun k => (laws_toStopS.mono_l k) _ _ _)
noncomputable def laws_toStopS.F (l0 : List (S154)) : Option ((List (S130))) := lim (fun k => laws_toStopS.f k l0)
theorem laws_toStopS.F_co (l0 : List (S154)) : Co (fun k => laws_toStopS.f k l0) (laws_toStopS.F l0) := Co.base (fun k => laws_toStopS.mono _ k)
theorem laws_toStopS.L0_eq (x0 : List (S154)) (x3 : List (S130)) (x4 : Int) : laws_toStopS.L0 x0 x3 x4 = (if x4 < (x0.length : Int) then (if 0 ≤ x4 then ((laws_toStop.f ((rd_T154 x0 x4).f0) ((rd_T154 x0 x4).f1) ((rd_T154 x0 x4).f2)).bind fun bt187 => (if x4 < (x3.length : Int) then (laws_toStopS.L0 x0 (x3.set (x4 : Int).toNat (⟨bt187.1, bt187.2.1, bt187.2.2⟩ : S130)) (wrap64 (x4 + 1))) else (none))) else (none)) else (some x3)) := by
  refine Co.step (laws_toStopS.L0_co x0 x3 x4) (h := fun k => (if x4 < (x0.length : Int) then (if 0 ≤ x4 then ((laws_toStop.f ((rd_T154 x0 x4).f0) ((rd_T154 x0 x4).f1) ((rd_T154 x0 x4).f2)).bind fun bt187 => (if x4 < (x3.length : Int) then (laws_toStopS.l0 k x0 (x3.set (x4 : Int).toNat (⟨bt187.1, bt187.2.1, bt187.2.2⟩ : S130)) (wrap64 (x4 + 1))) else (none))) else (none)) else (some x3))) (fun k => by first | rfl | (simp only [laws_toStopS.l0])) ?_
  repeat' first
    | (with_reducible exact Co.const _)
    | (with_reducible exact laws_toStopS.L0_co _ _ _)
    | (with_reducible refine Co.ite ?_ ?_)
    | (with_reducible refine Co.bind ?_ (fun _ => ?_))
theorem laws_toStopS.F_eq (l0 : List (S154)) : laws_toStopS.F l0 = (if 0 ≤ (l0.length : Int) then (if ((l0.length : Int) : Int).toNat ≤ 11728124029610 then (laws_toStopS.L0 l0 (List.replicate ((l0.length : Int) : Int).toNat z130) 0) else (none)) else (none)) := by
  refine Co.same (laws_toStopS.F_co l0) (h := fun k => (if 0 ≤ (l0.length : Int) then (if ((l0.length : Int) : Int).toNat ≤ 11728124029610 then (laws_toStopS.l0 k l0 (List.replicate ((l0.length : Int) : Int).toNat z130) 0) else (none)) else (none))) (fun k => by first | rfl | unfold laws_toStopS.f; rfl) ?_
  repeat' first
    | (with_reducible exact Co.const _)
    | (with_reducible exact laws_toStopS.L0_co _ _ _)
    | (with_reducible refine Co.ite ?_ ?_)
    | (with_reducible refine Co.bind ?_ (fun _ => ?_))

noncomputable def impl_IsRoute.L0 (x0 : List (S130)) (x9 : List (S130)) (x10 : Int) (x11 : Int) : Option (Bool) := lim (fun k => impl_IsRoute.l0 k x0 x9 x10 x11)
theorem impl_IsRoute.L0_co (x0 : List (S130)) (x9 : List (S130)) (x10 : Int) (x11 : Int) : Co (fun k => impl_IsRoute.l0 k x0 x9 x10 x11) (impl_IsRoute.L0 x0 x9 x10 x11) := Co.base (fun k => (impl_IsRoute.mono_l k) _ _ _ _)
noncomputable def impl_IsRoute.F (l0 : List (S130)) : Option (Bool) := lim (fun k => impl_IsRoute.f k l0)
theorem impl_IsRoute.F_co (l0 : List (S130)) : Co (fun k => impl_IsRoute.f k l0) (impl_IsRoute.F l0) := Co.base (fun k => impl_IsRoute.mono _ k)
theorem impl_IsRoute.L0_eq (x0 : List (S130)) (x9 : List (S130)) (x10 : Int) (x11 : Int) : impl_IsRoute.L0 x0 x9 x10 x11 = (if x11 < x10 then (if 0 ≤ x11 then (if x11 < (x9.length : Int) then ((impl_InRange.f ((rd_T130 x9 x11).f0) 1 30).bind fun t197 => (if t197 = true then (if ((rd_T130 x9 x11).f1) < 0 then (some false) else (if ((rd_T130 x9 x11).f1) > ((rd_T130 x9 x11).f2) then (some false) else (if ((rd_T130 x9 x11).f2) > 100000 then (some false) else (if x11 > 0 then (if 0 ≤ (wrap64 (x11 - 1)) then (if (wrap64 (x11 - 1)) < (x0.length : Int) then (if ((rd_T130 x9 x11).f1) < ((rd_T130 x0 (wrap64 (x11 - 1))).f2) then (some false) else (impl_IsRoute.L0 x0 x9 x10 (wrap64 (x11 + 1)))) else (none)) else (none)) else (impl_IsRoute.L0 x0 x9 x10 (wrap64 (x11 + 1))))))) else (some false))) else (none)) else (none)) else (some true)) := by
  refine Co.step (impl_IsRoute.L0_co x0 x9 x10 x11) (h := fun k => (if x11 < x10 then (if 0 ≤ x11 then (if x11 < (x9.length : Int) then ((impl_InRange.f ((rd_T130 x9 x11).f0) 1 30).bind fun t197 => (if t197 = true then (if ((rd_T130 x9 x11).f1) < 0 then (some false) else (if ((rd_T130 x9 x11).f1) > ((rd_T130 x9 x11).f2) then (some false) else (if ((rd_T130 x9 x11).f2) > 100000 then (some false) else (if x11 > 0 then (if 0 ≤ (wrap64 (x11 - 1)) then (if (wrap64 (x11 - 1)) < (x0.length : Int) then (if ((rd_T130 x9 x11).f1) < ((rd_T130 x0 (wrap64 (x11 - 1))).f2) then (some false) else (impl_IsRoute.l0 k x0 x9 x10 (wrap64 (x11 + 1)))) else (none)) else (none)) else (impl_IsRoute.l0 k x0 x9 x10 (wrap64 (x11 + 1))))))) else (some false))) else (none)) else (none)) else (some true))) (fun k => by first | rfl | (simp only [impl_IsRoute.l0])) ?_
  repeat' first
    | (with_reducible exact Co.const _)
    | (with_reducible exact impl_IsRoute.L0_co _ _ _ _)
    | (with_reducible refine Co.ite ?_ ?_)
    | (with_reducible refine Co.bind ?_ (fun _ => ?_))
theorem impl_IsRoute.F_eq (l0 : List (S130)) : impl_IsRoute.F l0 = ((impl_InRange.f (l0.length : Int) 1 10).bind fun t194 => (if t194 = true then (impl_IsRoute.L0 l0 l0 (l0.length : Int) 0) else (some false))) := by
  refine Co.same (impl_IsRoute.F_co l0) (h := fun k => ((impl_InRange.f (l0.length : Int) 1 10).bind fun t194 => (if t194 = true then (impl_IsRoute.l0 k l0 l0 (l0.length : Int) 0) else (some false)))) (fun k => by first | rfl | unfold impl_IsRoute.f; rfl) ?_
  repeat' first
    | (with_reducible exact Co.const _)
    | (with_reducible exact impl_IsRoute.L0_co _ _ _ _)
    | (with_reducible refine Co.ite ?_ ?_)
    | (with_reducible refine Co.bind ?_ (fun _ => ?_))

noncomputable def impl_LeftBetween.J0 (x0 : List (S130)) (x17 : Bool) (x210000 : Int) (x210001 : Int) : Option (List Int) := lim (fun k => impl_LeftBetween.j0 k x0 x17 x210000 x210001)
theorem impl_LeftBetween.J0_co (x0 : List (S130)) (x17 : Bool) (x210000 : Int) (x210001 : Int) : Co (fun k => impl_LeftBetween.j0 k x0 x17 x210000 x210001) (impl_LeftBetween.J0 x0 x17 x210000 x210001) := Co.base (fun k => (impl_LeftBetween.mono_l k).1 _ _ _ _)
noncomputable def impl_LeftBetween.L0 (x5 : List Int) (x27 : List (S130)) (x28 : Int) (x29 : Int) (x210000 : Int) (x210001 : Int) : Option (List Int) := lim (fun k => impl_LeftBetween.l0 k x5 x27 x28 x29 x210000 x210001)
theorem impl_LeftBetween.L0_co (x5 : List Int) (x27 : List (S130)) (x28 : Int) (x29 : Int) (x210000 : Int) (x210001 : Int) : Co (fun k => impl_LeftBetween.l0 k x5 x27 x28 x29 x210000 x210001) (impl_LeftBetween.L0 x5 x27 x28 x29 x210000 x210001) := Co.base (fun k => (impl_LeftBetween.mono_l k).2 _ _ _ _ _ _)
noncomputable def impl_LeftBetween.F (l0 : List (S130)) (a1_0 : Int) (a1_1 : Int) : Option (List Int) := lim (fun k => impl_LeftBetween.f k l0 a1_0 a1_1)
theorem impl_LeftBetween.F_co (l0 : List (S130)) (a1_0 : Int) (a1_1 : Int) : Co (fun k => impl_LeftBetween.f k l0 a1_0 a1_1) (impl_LeftBetween.F l0 a1_0 a1_1) := Co.base (fun k => impl_LeftBetween.mono _ _ _ k)
theorem impl_LeftBetween.J0_eq (x0 : List (S130)) (x17 : Bool) (x210000 : Int) (x210001 : Int) : impl_LeftBetween.J0 x0 x17 x210000 x210001 = (if x17 = true then (some (([] : List Int))) else (if 0 ≤ (wrap64 ((x0.length : Int) - 1)) then (if (wrap64 ((x0.length : Int) - 1)) < (x0.length : Int) then (impl_LeftBetween.L0 (([(rd_T130 x0 (wrap64 ((x0.length : Int) - 1))).f0] : List Int)) x0 (x0.length : Int) 0 x210000 x210001) else (none)) else (none))) := by
  refine Co.step (impl_LeftBetween.J0_co x0 x17 x210000 x210001) (h := fun k => (if x17 = true then (some (([] : List Int))) else (if 0 ≤ (wrap64 ((x0.length : Int) - 1)) then (if (wrap64 ((x0.length : Int) - 1)) < (x0.length : Int) then (impl_LeftBetween.l0 k (([(rd_T130 x0 (wrap64 ((x0.length : Int) - 1))).f0] : List Int)) x0 (x0.length : Int) 0 x210000 x210001) else (none)) else (none)))) (fun k => by first | rfl | (simp only [impl_LeftBetween.j0])) ?_
  repeat' first
    | (with_reducible exact Co.const _)
    | (with_reducible exact impl_LeftBetween.L0_co _ _ _ _ _ _)
    | (with_reducible refine Co.ite ?_ ?_)
    | (with_reducible refine Co.bind ?_ (fun _ => ?_))
theorem impl_LeftBetween.L0_eq (x5 : List Int) (x27 : List (S130)) (x28 : Int) (x29 : Int) (x210000 : Int) (x210001 : Int) : impl_LeftBetween.L0 x5 x27 x28 x29 x210000 x210001 = (if x29 < x28 then (if 0 ≤ x29 then (if x29 < (x27.length : Int) then ((impl_Meet.f ((rd_T130 x27 x29).f1) ((rd_T130 x27 x29).f2) x210000 x210001).bind fun bt221 => (if bt221.2.2 = true then (if x5.length < 17592186044416 then (impl_LeftBetween.L0 (x5 ++ [(rd_T130 x27 x29).f0]) x27 x28 (wrap64 (x29 + 1)) x210000 x210001) else (none)) else (impl_LeftBetween.L0 x5 x27 x28 (wrap64 (x29 + 1)) x210000 x210001))) else (none)) else (none)) else ((slices_Sort_int_int.f x5).bind fun t228 => ((slices_Compact_int_int.f t228).bind fun t229 => (some t229)))) := by
  refine Co.step (impl_LeftBetween.L0_co x5 x27 x28 x29 x210000 x210001) (h := fun k => (if x29 < x28 then (if 0 ≤ x29 then (if x29 < (x27.length : Int) then ((impl_Meet.f ((rd_T130 x27 x29).f1) ((rd_T130 x27 x29).f2) x210000 x210001).bind fun bt221 => (if bt221.2.2 = true then (if x5.length < 17592186044416 then (impl_LeftBetween.l0 k (x5 ++ [(rd_T130 x27 x29).f0]) x27 x28 (wrap64 (x29 + 1)) x210000 x210001) else (none)) else (impl_LeftBetween.l0 k x5 x27 x28 (wrap64 (x29 + 1)) x210000 x210001))) else (none)) else (none)) else ((slices_Sort_int_int.f x5).bind fun t228 => ((slices_Compact_int_int.f t228).bind fun t229 => (some t229))))) (fun k => by first | rfl | (simp only [impl_LeftBetween.l0])) ?_
  repeat' first
    | (with_reducible exact Co.const _)
    | (with_reducible exact impl_LeftBetween.L0_co _ _ _ _ _ _)
    | (with_reducible refine Co.ite ?_ ?_)
    | (with_reducible refine Co.bind ?_ (fun _ => ?_))
theorem impl_LeftBetween.F_eq (l0 : List (S130)) (a1_0 : Int) (a1_1 : Int) : impl_LeftBetween.F l0 a1_0 a1_1 = ((impl_IsRoute.F l0).bind fun t210 => (if t210 = true then ((impl_IsSpan.f a1_0 a1_1).bind fun t211 => (impl_LeftBetween.J0 l0 (!t211) a1_0 a1_1)) else (impl_LeftBetween.J0 l0 true a1_0 a1_1))) := by
  refine Co.same (impl_LeftBetween.F_co l0 a1_0 a1_1) (h := fun k => ((impl_IsRoute.f k l0).bind fun t210 => (if t210 = true then ((impl_IsSpan.f a1_0 a1_1).bind fun t211 => (impl_LeftBetween.j0 k l0 (!t211) a1_0 a1_1)) else (impl_LeftBetween.j0 k l0 true a1_0 a1_1)))) (fun k => by first | rfl | unfold impl_LeftBetween.f; rfl) ?_
  repeat' first
    | (with_reducible exact Co.const _)
    | (with_reducible exact impl_IsRoute.F_co _)
    | (with_reducible exact impl_LeftBetween.J0_co _ _ _ _)
    | (with_reducible refine Co.ite ?_ ?_)
    | (with_reducible refine Co.bind ?_ (fun _ => ?_))

noncomputable def laws_eqIntS.L0 (x0 : List Int) (x1 : List Int) (x5 : Int) : Option (Bool) := lim (fun k => laws_eqIntS.l0 k x0 x1 x5)
theorem laws_eqIntS.L0_co (x0 : List Int) (x1 : List Int) (x5 : Int) : Co (fun k => laws_eqIntS.l0 k x0 x1 x5) (laws_eqIntS.L0 x0 x1 x5) := Co.base (fun k => (laws_eqIntS.mono_l k) _ _ _)
noncomputable def laws_eqIntS.F (l0 : List Int) (l1 : List Int) : Option (Bool) := lim (fun k => laws_eqIntS.f k l0 l1)
theorem laws_eqIntS.F_co (l0 : List Int) (l1 : List Int) : Co (fun k => laws_eqIntS.f k l0 l1) (laws_eqIntS.F l0 l1) := Co.base (fun k => laws_eqIntS.mono _ _ k)
theorem laws_eqIntS.L0_eq (x0 : List Int) (x1 : List Int) (x5 : Int) : laws_eqIntS.L0 x0 x1 x5 = (if x5 < (x0.length : Int) then (if 0 ≤ x5 then (if x5 < (x1.length : Int) then (if (rd x0 x5) = (rd x1 x5) then (laws_eqIntS.L0 x0 x1 (wrap64 (x5 + 1))) else (some false)) else (none)) else (none)) else (some true)) := by
  refine Co.step (laws_eqIntS.L0_co x0 x1 x5) (h := fun k => (if x5 < (x0.length : Int) then (if 0 ≤ x5 then (if x5 < (x1.length : Int) then (if (rd x0 x5) = (rd x1 x5) then (laws_eqIntS.l0 k x0 x1 (wrap64 (x5 + 1))) else (some false)) else (none)) else (none)) else (some true))) (fun k => by first | rfl | (simp only [laws_eqIntS.l0])) ?_
  repeat' first
    | (with_reducible exact Co.const _)
    | (with_reducible exact laws_eqIntS.L0_co _ _ _)
    | (with_reducible refine Co.ite ?_ ?_)
    | (with_reducible refine Co.bind ?_ (fun _ => ?_))
theorem laws_eqIntS.F_eq (l0 : List Int) (l1 : List Int) : laws_eqIntS.F l0 l1 = (if (l0.length : Int) = (l1.length : Int) then (laws_eqIntS.L0 l0 l1 0) else (some false)) := by
  refine Co.same (laws_eqIntS.F_co l0 l1) (h := fun k => (if (l0.length : Int) = (l1.length : Int) then (laws_eqIntS.l0 k l0 l1 0) else (some false))) (fun k => by first | rfl | unfold laws_eqIntS.f; rfl) ?_
  repeat' first
    | (with_reducible exact Co.const _)
    | (with_reducible exact laws_eqIntS.L0_co _ _ _)
    | (with_reducible refine Co.ite ?_ ?_)
    | (with_reducible refine Co.bind ?_ (fun _ => ?_))

noncomputable def laws_eqStopS.L0 (x0 : List (S130)) (x1 : List (S130)) (x5 : Int) : Option (Bool) := lim (fun k => laws_eqStopS.l0 k x0 x1 x5)
theorem laws_eqStopS.L0_co (x0 : List (S130)) (x1 : List (S130)) (x5 : Int) : Co (fun k => laws_eqStopS.l0 k x0 x1 x5) (laws_eqStopS.L0 x0 x1 x5) := Co.base (fun k => (laws_eqStopS.mono_l k) _ _ _)
noncomputable def laws_eqStopS.F (l0 : List (S130)) (l1 : List (S130)) : Option (Bool) := lim (fun k => laws_eqStopS.f k l0 l1)
theorem laws_eqStopS.F_co (l0 : List (S130)) (l1 : List (S130)) : Co (fun k => laws_eqStopS.f k l0 l1) (laws_eqStopS.F l0 l1) := Co.base (fun k => laws_eqStopS.mono _ _ k)
theorem laws_eqStopS.L0_eq (x0 : List (S130)) (x1 : List (S130)) (x5 : Int) : laws_eqStopS.L0 x0 x1 x5 = (if x5 < (x0.length : Int) then (if 0 ≤ x5 then (if x5 < (x1.length : Int) then ((laws_eqStop.f ((rd_T130 x0 x5).f0) ((rd_T130 x0 x5).f1) ((rd_T130 x0 x5).f2) ((rd_T130 x1 x5).f0) ((rd_T130 x1 x5).f1) ((rd_T130 x1 x5).f2)).bind fun t238 => (if t238 = true then (laws_eqStopS.L0 x0 x1 (wrap64 (x5 + 1))) else (some false))) else (none)) else (none)) else (some true)) := by
  refine Co.step (laws_eqStopS.L0_co x0 x1 x5) (h := fun k => (if x5 < (x0.length : Int) then (if 0 ≤ x5 then (if x5 < (x1.length : Int) then ((laws_eqStop.f ((rd_T130 x0 x5).f0) ((rd_T130 x0 x5).f1) ((rd_T130 x0 x5).f2) ((rd_T130 x1 x5).f0) ((rd_T130 x1 x5).f1) ((rd_T130 x1 x5).f2)).bind fun t238 => (if t238 = true then (laws_eqStopS.l0 k x0 x1 (wrap64 (x5 + 1))) else (some false))) else (none)) else (none)) else (some true))) (fun k => by first | rfl | (simp only [laws_eqStopS.l0])) ?_
  repeat' first
    | (with_reducible exact Co.const _)
    | (with_reducible exact laws_eqStopS.L0_co _ _ _)
    | (with_reducible refine Co.ite ?_ ?_)
    | (with_reducible refine Co.bind ?_ (fun _ => ?_))
theorem laws_eqStopS.F_eq (l0 : List (S130)) (l1 : List (S130)) : laws_eqStopS.F l0 l1 = (if (l0.length : Int) = (l1.length : Int) then (laws_eqStopS.L0 l0 l1 0) else (some false)) := by
  refine Co.same (laws_eqStopS.F_co l0 l1) (h := fun k => (if (l0.length : Int) = (l1.length : Int) then (laws_eqStopS.l0 k l0 l1 0) else (some false))) (fun k => by first | rfl | unfold laws_eqStopS.f; rfl) ?_
  repeat' first
    | (with_reducible exact Co.const _)
    | (with_reducible exact laws_eqStopS.L0_co _ _ _)
    | (with_reducible refine Co.ite ?_ ?_)
    | (with_reducible refine Co.bind ?_ (fun _ => ?_))

noncomputable def laws_markStopS.L0 (x0 : List (S130)) (x1 : Int) (x5 : Int) : Option (Int × (List (S130))) := lim (fun k => laws_markStopS.l0 k x0 x1 x5)
theorem laws_markStopS.L0_co (x0 : List (S130)) (x1 : Int) (x5 : Int) : Co (fun k => laws_markStopS.l0 k x0 x1 x5) (laws_markStopS.L0 x0 x1 x5) := Co.base (fun k => (laws_markStopS.mono_l k) _ _ _)
noncomputable def laws_markStopS.F (l0 : List (S130)) (a1 : Int) : Option (Int × (List (S130))) := lim (fun k => laws_markStopS.f k l0 a1)
theorem laws_markStopS.F_co (l0 : List (S130)) (a1 : Int) : Co (fun k => laws_markStopS.f k l0 a1) (laws_markStopS.F l0 a1) := Co.base (fun k => laws_markStopS.mono _ _ k)
theorem laws_markStopS.L0_eq (x0 : List (S130)) (x1 : Int) (x5 : Int) : laws_markStopS.L0 x0 x1 x5 = (if x5 < (x0.length : Int) then (if 0 ≤ x5 then ((some (x0.set (x5 : Int).toNat (⟨x1, (rd_T130 x0 x5).f1, (rd_T130 x0 x5).f2⟩ : S130) : List (S130))).bind fun y239 => ((some (y239.set (x5 : Int).toNat (⟨(rd_T130 y239 x5).f0, wrap64 (x1 + 1), (rd_T130 y239 x5).f2⟩ : S130) : List (S130))).bind fun y240 => (laws_markStopS.L0 (y240.set (x5 : Int).toNat (⟨(rd_T130 y240 x5).f0, (rd_T130 y240 x5).f1, wrap64 ((wrap64 (x1 + 1)) + 1)⟩ : S130)) (wrap64 ((wrap64 ((wrap64 (x1 + 1)) + 1)) + 1)) (wrap64 (x5 + 1))))) else (none)) else (some (x1, x0))) := by
  refine Co.step (laws_markStopS.L0_co x0 x1 x5) (h := fun k => (if x5 < (x0.length : Int) then (if 0 ≤ x5 then ((some (x0.set (x5 : Int).toNat (⟨x1, (rd_T130 x0 x5).f1, (rd_T130 x0 x5).f2⟩ : S130) : List (S130))).bind fun y239 => ((some (y239.set (x5 : Int).toNat (⟨(rd_T130 y239 x5).f0, wrap64 (x1 + 1), (rd_T130 y239 x5).f2⟩ : S130) : List (S130))).bind fun y240 => (laws_markStopS.l0 k (y240.set (x5 : Int).toNat (⟨(rd_T130 y240 x5).f0, (rd_T130 y240 x5).f1, wrap64 ((wrap64 (x1 + 1)) + 1)⟩ : S130)) (wrap64 ((wrap64 ((wrap64 (x1 + 1)) + 1)) + 1)) (wrap64 (x5 + 1))))) else (none)) else (some (x1, x0)))) (fun k => by first | rfl | (simp only [laws_markStopS.l0])) ?_
  repeat' first
    | (with_reducible exact Co.const _)
    | (with_reducible exact laws_markStopS.L0_co _ _ _)
    | (with_reducible refine Co.ite ?_ ?_)
    | (with_reducible refine Co.bind ?_ (fun _ => ?_))
theorem laws_markStopS.F_eq (l0 : List (S130)) (a1 : Int) : laws_markStopS.F l0 a1 = (laws_markStopS.L0 l0 a1 0) := by
  refine Co.same (laws_markStopS.F_co l0 a1) (h := fun k => (laws_markStopS.l0 k l0 a1 0)) (fun k => by first | rfl | unfold laws_markStopS.f; rfl) ?_
  repeat' first
    | (with_reducible exact Co.const _)
    | (with_reducible exact laws_markStopS.L0_co _ _ _)
    | (with_reducible refine Co.ite ?_ ?_)
    | (with_reducible refine Co.bind ?_ (fun _ => ?_))

noncomputable def laws_markIntS.L0 (x0 : List Int) (x1 : Int) (x5 : Int) : Option (Int × List Int) := lim (fun k => laws_markIntS.l0 k x0 x1 x5)
theorem laws_markIntS.L0_co (x0 : List Int) (x1 : Int) (x5 : Int) : Co (fun k => laws_markIntS.l0 k x0 x1 x5) (laws_markIntS.L0 x0 x1 x5) := Co.base (fun k => (laws_markIntS.mono_l k) _ _ _)
noncomputable def laws_markIntS.F (l0 : List Int) (a1 : Int) : Option (Int × List Int) := lim (fun k => laws_markIntS.f k l0 a1)
theorem laws_markIntS.F_co (l0 : List Int) (a1 : Int) : Co (fun k => laws_markIntS.f k l0 a1) (laws_markIntS.F l0 a1) := Co.base (fun k => laws_markIntS.mono _ _ k)
theorem laws_markIntS.L0_eq (x0 : List Int) (x1 : Int) (x5 : Int) : laws_markIntS.L0 x0 x1 x5 = (if x5 < (x0.length : Int) then (if 0 ≤ x5 then (laws_markIntS.L0 (x0.set (x5 : Int).toNat x1) (wrap64 (x1 + 1)) (wrap64 (x5 + 1))) else (none)) else (some (x1, x0))) := by
  refine Co.step (laws_markIntS.L0_co x0 x1 x5) (h := fun k => (if x5 < (x0.length : Int) then (if 0 ≤ x5 then (laws_markIntS.l0 k (x0.set (x5 : Int).toNat x1) (wrap64 (x1 + 1)) (wrap64 (x5 + 1))) else (none)) else (some (x1, x0)))) (fun k => by first | rfl | (simp only [laws_markIntS.l0])) ?_
  repeat' first
    | (with_reducible exact Co.const _)
    | (with_reducible exact laws_markIntS.L0_co _ _ _)
    | (with_reducible refine Co.ite ?_ ?_)
    | (with_reducible refine Co.bind ?_ (fun _ => ?_))
theorem laws_markIntS.F_eq (l0 : List Int) (a1 : Int) : laws_markIntS.F l0 a1 = (laws_markIntS.L0 l0 a1 0) := by
  refine Co.same (laws_markIntS.F_co l0 a1) (h := fun k => (laws_markIntS.l0 k l0 a1 0)) (fun k => by first | rfl | unfold laws_markIntS.f; rfl) ?_
  repeat' first
    | (with_reducible exact Co.const _)
    | (with_reducible exact laws_markIntS.L0_co _ _ _)
    | (with_reducible refine Co.ite ?_ ?_)
    | (with_reducible refine Co.bind ?_ (fun _ => ?_))

noncomputable def laws_heldIntS.L0 (x0 : List Int) (x1 : Int) (x5 : Int) : Option (Int) := lim (fun k => laws_heldIntS.l0 k x0 x1 x5)
theorem laws_heldIntS.L0_co (x0 : List Int) (x1 : Int) (x5 : Int) : Co (fun k => laws_heldIntS.l0 k x0 x1 x5) (laws_heldIntS.L0 x0 x1 x5) := Co.base (fun k => (laws_heldIntS.mono_l k) _ _ _)
noncomputable def laws_heldIntS.F (l0 : List Int) (a1 : Int) : Option (Int) := lim (fun k => laws_heldIntS.f k l0 a1)
theorem laws_heldIntS.F_co (l0 : List Int) (a1 : Int) : Co (fun k => laws_heldIntS.f k l0 a1) (laws_heldIntS.F l0 a1) := Co.base (fun k => laws_heldIntS.mono _ _ k)
theorem laws_heldIntS.L0_eq (x0 : List Int) (x1 : Int) (x5 : Int) : laws_heldIntS.L0 x0 x1 x5 = (if x5 < (x0.length : Int) then (if 0 ≤ x5 then (if (rd x0 x5) = x1 then (laws_heldIntS.L0 x0 (wrap64 (x1 + 1)) (wrap64 (x5 + 1))) else (some (-1))) else (none)) else (some x1)) := by
  refine Co.step (laws_heldIntS.L0_co x0 x1 x5) (h := fun k => (if x5 < (x0.length : Int) then (if 0 ≤ x5 then (if (rd x0 x5) = x1 then (laws_heldIntS.l0 k x0 (wrap64 (x1 + 1)) (wrap64 (x5 + 1))) else (some (-1))) else (none)) else (some x1))) (fun k => by first | rfl | (simp only [laws_heldIntS.l0])) ?_
  repeat' first
    | (with_reducible exact Co.const _)
    | (with_reducible exact laws_heldIntS.L0_co _ _ _)
    | (with_reducible refine Co.ite ?_ ?_)
    | (with_reducible refine Co.bind ?_ (fun _ => ?_))
theorem laws_heldIntS.F_eq (l0 : List Int) (a1 : Int) : laws_heldIntS.F l0 a1 = (laws_heldIntS.L0 l0 a1 0) := by
  refine Co.same (laws_heldIntS.F_co l0 a1) (h := fun k => (laws_heldIntS.l0 k l0 a1 0)) (fun k => by first | rfl | unfold laws_heldIntS.f; rfl) ?_
  repeat' first
    | (with_reducible exact Co.const _)
    | (with_reducible exact laws_heldIntS.L0_co _ _ _)
    | (with_reducible refine Co.ite ?_ ?_)
    | (with_reducible refine Co.bind ?_ (fun _ => ?_))

noncomputable def laws_FnExactLeftBetween.J0 (x0 : List (S154)) (x6 : List Int) (x8 : List Int) (x48 : Bool) (x245000 : Int) (x245001 : Int) : Option (Bool) := lim (fun k => laws_FnExactLeftBetween.j0 k x0 x6 x8 x48 x245000 x245001)
theorem laws_FnExactLeftBetween.J0_co (x0 : List (S154)) (x6 : List Int) (x8 : List Int) (x48 : Bool) (x245000 : Int) (x245001 : Int) : Co (fun k => laws_FnExactLeftBetween.j0 k x0 x6 x8 x48 x245000 x245001) (laws_FnExactLeftBetween.J0 x0 x6 x8 x48 x245000 x245001) := Co.base (fun k => (laws_FnExactLeftBetween.mono_l k) _ _ _ _ _ _)
noncomputable def laws_FnExactLeftBetween.F (l0 : List (S154)) (a1_0 : Int) (a1_1 : Int) : Option (Bool) := lim (fun k => laws_FnExactLeftBetween.f k l0 a1_0 a1_1)
theorem laws_FnExactLeftBetween.F_co (l0 : List (S154)) (a1_0 : Int) (a1_1 : Int) : Co (fun k => laws_FnExactLeftBetween.f k l0 a1_0 a1_1) (laws_FnExactLeftBetween.F l0 a1_0 a1_1) := Co.base (fun k => laws_FnExactLeftBetween.mono _ _ _ k)
theorem laws_FnExactLeftBetween.J0_eq (x0 : List (S154)) (x6 : List Int) (x8 : List Int) (x48 : Bool) (x245000 : Int) (x245001 : Int) : laws_FnExactLeftBetween.J0 x0 x6 x8 x48 x245000 x245001 = (if x48 = true then (some false) else ((laws_markIntS.F x8 1).bind fun bt270 => ((laws_heldIntS.F bt270.2 1).bind fun t272 => (if t272 < 0 then (some false) else (if t272 = bt270.1 then ((laws_toStopS.F x0).bind fun t273 => ((laws_toSpan.f x245000 x245001).bind fun bt276 => ((impl_LeftBetween.F t273 bt276.1 bt276.2).bind fun t278 => ((laws_eqIntS.F t278 x6).bind fun t281 => (if t281 = true then ((laws_heldIntS.F bt270.2 1).bind fun t282 => (if t282 < 0 then (some false) else (if t282 = bt270.1 then (some true) else (some false)))) else (some false)))))) else (some false)))))) := by
  refine Co.step (laws_FnExactLeftBetween.J0_co x0 x6 x8 x48 x245000 x245001) (h := fun k => (if x48 = true then (some false) else ((laws_markIntS.f k x8 1).bind fun bt270 => ((laws_heldIntS.f k bt270.2 1).bind fun t272 => (if t272 < 0 then (some false) else (if t272 = bt270.1 then ((laws_toStopS.f k x0).bind fun t273 => ((laws_toSpan.f x245000 x245001).bind fun bt276 => ((impl_LeftBetween.f k t273 bt276.1 bt276.2).bind fun t278 => ((laws_eqIntS.f k t278 x6).bind fun t281 => (if t281 = true then ((laws_heldIntS.f k bt270.2 1).bind fun t282 => (if t282 < 0 then (some false) else (if t282 = bt270.1 then (some true) else (some false)))) else (some false)))))) else (some false))))))) (fun k => by first | rfl | (simp only [laws_FnExactLeftBetween.j0])) ?_
  repeat' first
    | (with_reducible exact Co.const _)
    | (with_reducible exact impl_LeftBetween.F_co _ _ _)
    | (with_reducible exact laws_eqIntS.F_co _ _)
    | (with_reducible exact laws_heldIntS.F_co _ _)
    | (with_reducible exact laws_markIntS.F_co _ _)
    | (with_reducible exact laws_toStopS.F_co _)
    | (with_reducible refine Co.ite ?_ ?_)
    | (with_reducible refine Co.bind ?_ (fun _ => ?_))
theorem laws_FnExactLeftBetween.F_eq (l0 : List (S154)) (a1_0 : Int) (a1_1 : Int) : laws_FnExactLeftBetween.F l0 a1_0 a1_1 = ((laws_szStopS.f l0 1048576).bind fun t245 => (if t245 < 0 then (some true) else ((laws_toStopS.F l0).bind fun t246 => ((laws_toSpan.f a1_0 a1_1).bind fun bt249 => ((spec_LeftBetween.F t246 bt249.1 bt249.2).bind fun t251 => ((laws_toStopS.F l0).bind fun t254 => ((laws_toSpan.f a1_0 a1_1).bind fun bt257 => ((impl_LeftBetween.F t254 bt257.1 bt257.2).bind fun t259 => ((laws_eqIntS.F t259 t251).bind fun t262 => (if t262 = true then ((laws_toStopS.F l0).bind fun t263 => ((laws_eqStopS.F t254 t263).bind fun t266 => (if t266 = true then ((laws_markStopS.F t254 1).bind fun bt267 => (if bt267.1 < 0 then (laws_FnExactLeftBetween.J0 l0 t251 t259 true a1_0 a1_1) else ((laws_eqIntS.F t259 t251).bind fun t269 => (laws_FnExactLeftBetween.J0 l0 t251 t259 (!t269) a1_0 a1_1)))) else (some false)))) else (some false))))))))))) := by
  refine Co.same (laws_FnExactLeftBetween.F_co l0 a1_0 a1_1) (h := fun k => ((laws_szStopS.f l0 1048576).bind fun t245 => (if t245 < 0 then (some true) else ((laws_toStopS.f k l0).bind fun t246 => ((laws_toSpan.f a1_0 a1_1).bind fun bt249 => ((spec_LeftBetween.f k t246 bt249.1 bt249.2).bind fun t251 => ((laws_toStopS.f k l0).bind fun t254 => ((laws_toSpan.f a1_0 a1_1).bind fun bt257 => ((impl_LeftBetween.f k t254 bt257.1 bt257.2).bind fun t259 => ((laws_eqIntS.f k t259 t251).bind fun t262 => (if t262 = true then ((laws_toStopS.f k l0).bind fun t263 => ((laws_eqStopS.f k t254 t263).bind fun t266 => (if t266 = true then ((laws_markStopS.f k t254 1).bind fun bt267 => (if bt267.1 < 0 then (laws_FnExactLeftBetween.j0 k l0 t251 t259 true a1_0 a1_1) else ((laws_eqIntS.f k t259 t251).bind fun t269 => (laws_FnExactLeftBetween.j0 k l0 t251 t259 (!t269) a1_0 a1_1)))) else (some false)))) else (some false)))))))))))) (fun k => by first | rfl | unfold laws_FnExactLeftBetween.f; rfl) ?_
  repeat' first
    | (with_reducible exact Co.const _)
    | (with_reducible exact impl_LeftBetween.F_co _ _ _)
    | (with_reducible exact laws_FnExactLeftBetween.J0_co _ _ _ _ _ _)
    | (with_reducible exact laws_eqIntS.F_co _ _)
    | (with_reducible exact laws_eqStopS.F_co _ _)
    | (with_reducible exact laws_markStopS.F_co _ _)
    | (with_reducible exact laws_toStopS.F_co _)
    | (with_reducible exact spec_LeftBetween.F_co _ _ _)
    | (with_reducible refine Co.ite ?_ ?_)
    | (with_reducible refine Co.bind ?_ (fun _ => ?_))

end Go.Proofs.Ytkfalbaklodnjaa.PFnExactLeftBetween.Pure
