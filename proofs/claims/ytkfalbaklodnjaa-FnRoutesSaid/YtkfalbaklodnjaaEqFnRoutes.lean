/-
  The printed functions that this law reaches, their rounds used up, and the equations that they meet.
-/
import Derived.Test.YtkfalbaklodnjaaPFnRoutesx10
import Derived.Test.YtkfalbaklodnjaaPFnRoutesx11
import Derived.Test.YtkfalbaklodnjaaPFnRoutesx2
import Derived.Test.YtkfalbaklodnjaaPFnRoutesx3
import Derived.Test.YtkfalbaklodnjaaPFnRoutesx4
import Derived.Test.YtkfalbaklodnjaaPFnRoutesx5
import Derived.Test.YtkfalbaklodnjaaPFnRoutesx6
import Derived.Test.YtkfalbaklodnjaaPFnRoutesx7
import Derived.Test.YtkfalbaklodnjaaPFnRoutesx8
import Derived.Test.YtkfalbaklodnjaaPFnRoutesx9
import Derived.Test.YtkfalbaklodnjaaLim
namespace Go.Proofs.Ytkfalbaklodnjaa.PFnRoutes.Pure
open Go.RowKit Go.Proofs.YtkfalbaklodnjaaW.PrintWords Go.Proofs.YtkfalbaklodnjaaW.PrintLast Go.Proofs.YtkfalbaklodnjaaW.PrintMore Go.Proofs.Ytkfalbaklodnjaa.PFnRoutes Go.Proofs.Ytkfalbaklodnjaa.Lim
set_option linter.unusedVariables false
set_option maxRecDepth 100000

noncomputable def impl_IsRoute.L0 (x0 : List (S130)) (x9 : List (S130)) (x10 : Int) (x11 : Int) : Option (Bool) := lim (fun k => impl_IsRoute.l0 k x0 x9 x10 x11)
theorem impl_IsRoute.L0_co (x0 : List (S130)) (x9 : List (S130)) (x10 : Int) (x11 : Int) : Co (fun k => impl_IsRoute.l0 k x0 x9 x10 x11) (impl_IsRoute.L0 x0 x9 x10 x11) := Co.base (fun k => (impl_IsRoute.mono_l k) _ _ _ _)
noncomputable def impl_IsRoute.F (l0 : List (S130)) : Option (Bool) := lim (fun k => impl_IsRoute.f k l0)
theorem impl_IsRoute.F_co (l0 : List (S130)) : Co (fun k => impl_IsRoute.f k l0) (impl_IsRoute.F l0) := Co.base (fun k => impl_IsRoute.mono _ k)
theorem impl_IsRoute.L0_eq (x0 : List (S130)) (x9 : List (S130)) (x10 : Int) (x11 : Int) : impl_IsRoute.L0 x0 x9 x10 x11 = (if x11 < x10 then (if 0 ≤ x11 then (if x11 < (x9.length : Int) then ((impl_InRange.f ((rd_T130 x9 x11).f0) 1 30).bind fun t104 => (if t104 = true then (if ((rd_T130 x9 x11).f1) < 0 then (some false) else (if ((rd_T130 x9 x11).f1) > ((rd_T130 x9 x11).f2) then (some false) else (if ((rd_T130 x9 x11).f2) > 100000 then (some false) else (if x11 > 0 then (if 0 ≤ (wrap64 (x11 - 1)) then (if (wrap64 (x11 - 1)) < (x0.length : Int) then (if ((rd_T130 x9 x11).f1) < ((rd_T130 x0 (wrap64 (x11 - 1))).f2) then (some false) else (impl_IsRoute.L0 x0 x9 x10 (wrap64 (x11 + 1)))) else (none)) else (none)) else (impl_IsRoute.L0 x0 x9 x10 (wrap64 (x11 + 1))))))) else (some false))) else (none)) else (none)) else (some true)) := by
  refine Co.step (impl_IsRoute.L0_co x0 x9 x10 x11) (h := fun k => impl_IsRoute.l0 (k + 1) x0 x9 x10 x11) (fun _ => rfl) ?_
  simp only [impl_IsRoute.l0]
  repeat' first | (with_reducible exact Co.const _) | (with_reducible exact impl_IsRoute.L0_co _ _ _ _) | (with_reducible refine Co.ite ?_ ?_) | (with_reducible refine Co.bind ?_ (fun _ => ?_))
theorem impl_IsRoute.F_eq (l0 : List (S130)) : impl_IsRoute.F l0 = ((impl_InRange.f (l0.length : Int) 1 10).bind fun t101 => (if t101 = true then (impl_IsRoute.L0 l0 l0 (l0.length : Int) 0) else (some false))) := by
  refine Co.same (impl_IsRoute.F_co l0) (h := fun k => impl_IsRoute.f k l0) (fun _ => rfl) ?_
  unfold impl_IsRoute.f
  repeat' first | (with_reducible exact Co.const _) | (with_reducible exact impl_IsRoute.L0_co _ _ _ _) | (with_reducible refine Co.ite ?_ ?_) | (with_reducible refine Co.bind ?_ (fun _ => ?_))

noncomputable def impl_LeftBetween.J0 (x0 : List (S130)) (x17 : Bool) (x117000 : Int) (x117001 : Int) : Option (List Int) := lim (fun k => impl_LeftBetween.j0 k x0 x17 x117000 x117001)
theorem impl_LeftBetween.J0_co (x0 : List (S130)) (x17 : Bool) (x117000 : Int) (x117001 : Int) : Co (fun k => impl_LeftBetween.j0 k x0 x17 x117000 x117001) (impl_LeftBetween.J0 x0 x17 x117000 x117001) := Co.base (fun k => (impl_LeftBetween.mono_l k).1 _ _ _ _)
noncomputable def impl_LeftBetween.L0 (x5 : List Int) (x27 : List (S130)) (x28 : Int) (x29 : Int) (x117000 : Int) (x117001 : Int) : Option (List Int) := lim (fun k => impl_LeftBetween.l0 k x5 x27 x28 x29 x117000 x117001)
theorem impl_LeftBetween.L0_co (x5 : List Int) (x27 : List (S130)) (x28 : Int) (x29 : Int) (x117000 : Int) (x117001 : Int) : Co (fun k => impl_LeftBetween.l0 k x5 x27 x28 x29 x117000 x117001) (impl_LeftBetween.L0 x5 x27 x28 x29 x117000 x117001) := Co.base (fun k => (impl_LeftBetween.mono_l k).2 _ _ _ _ _ _)
noncomputable def impl_LeftBetween.F (l0 : List (S130)) (a1_0 : Int) (a1_1 : Int) : Option (List Int) := lim (fun k => impl_LeftBetween.f k l0 a1_0 a1_1)
theorem impl_LeftBetween.F_co (l0 : List (S130)) (a1_0 : Int) (a1_1 : Int) : Co (fun k => impl_LeftBetween.f k l0 a1_0 a1_1) (impl_LeftBetween.F l0 a1_0 a1_1) := Co.base (fun k => impl_LeftBetween.mono _ _ _ k)
theorem impl_LeftBetween.J0_eq (x0 : List (S130)) (x17 : Bool) (x117000 : Int) (x117001 : Int) : impl_LeftBetween.J0 x0 x17 x117000 x117001 = (if x17 = true then (some (([] : List Int))) else (if 0 ≤ (wrap64 ((x0.length : Int) - 1)) then (if (wrap64 ((x0.length : Int) - 1)) < (x0.length : Int) then (impl_LeftBetween.L0 (([(rd_T130 x0 (wrap64 ((x0.length : Int) - 1))).f0] : List Int)) x0 (x0.length : Int) 0 x117000 x117001) else (none)) else (none))) := by
  refine Co.step (impl_LeftBetween.J0_co x0 x17 x117000 x117001) (h := fun k => impl_LeftBetween.j0 (k + 1) x0 x17 x117000 x117001) (fun _ => rfl) ?_
  simp only [impl_LeftBetween.j0]
  repeat' first | (with_reducible exact Co.const _) | (with_reducible exact impl_LeftBetween.L0_co _ _ _ _ _ _) | (with_reducible refine Co.ite ?_ ?_) | (with_reducible refine Co.bind ?_ (fun _ => ?_))
theorem impl_LeftBetween.L0_eq (x5 : List Int) (x27 : List (S130)) (x28 : Int) (x29 : Int) (x117000 : Int) (x117001 : Int) : impl_LeftBetween.L0 x5 x27 x28 x29 x117000 x117001 = (if x29 < x28 then (if 0 ≤ x29 then (if x29 < (x27.length : Int) then ((impl_Meet.f ((rd_T130 x27 x29).f1) ((rd_T130 x27 x29).f2) x117000 x117001).bind fun bt128 => (if bt128.2.2 = true then (if x5.length < 17592186044416 then (impl_LeftBetween.L0 (x5 ++ [(rd_T130 x27 x29).f0]) x27 x28 (wrap64 (x29 + 1)) x117000 x117001) else (none)) else (impl_LeftBetween.L0 x5 x27 x28 (wrap64 (x29 + 1)) x117000 x117001))) else (none)) else (none)) else ((slices_Sort_int_int.f x5).bind fun t135 => ((slices_Compact_int_int.f t135).bind fun t136 => (some t136)))) := by
  refine Co.step (impl_LeftBetween.L0_co x5 x27 x28 x29 x117000 x117001) (h := fun k => impl_LeftBetween.l0 (k + 1) x5 x27 x28 x29 x117000 x117001) (fun _ => rfl) ?_
  simp only [impl_LeftBetween.l0]
  repeat' first | (with_reducible exact Co.const _) | (with_reducible exact impl_LeftBetween.L0_co _ _ _ _ _ _) | (with_reducible refine Co.ite ?_ ?_) | (with_reducible refine Co.bind ?_ (fun _ => ?_))
theorem impl_LeftBetween.F_eq (l0 : List (S130)) (a1_0 : Int) (a1_1 : Int) : impl_LeftBetween.F l0 a1_0 a1_1 = ((impl_IsRoute.F l0).bind fun t117 => (if t117 = true then ((impl_IsSpan.f a1_0 a1_1).bind fun t118 => (impl_LeftBetween.J0 l0 (!t118) a1_0 a1_1)) else (impl_LeftBetween.J0 l0 true a1_0 a1_1))) := by
  refine Co.same (impl_LeftBetween.F_co l0 a1_0 a1_1) (h := fun k => impl_LeftBetween.f k l0 a1_0 a1_1) (fun _ => rfl) ?_
  unfold impl_LeftBetween.f
  repeat' first | (with_reducible exact Co.const _) | (with_reducible exact impl_IsRoute.F_co _) | (with_reducible exact impl_LeftBetween.J0_co _ _ _ _) | (with_reducible refine Co.ite ?_ ?_) | (with_reducible refine Co.bind ?_ (fun _ => ?_))

noncomputable def impl_isAscending.L0 (x0 : List Int) (x1 : Int) (x2 : Int) (x9 : List Int) (x10 : Int) (x11 : Int) : Option (Bool) := lim (fun k => impl_isAscending.l0 k x0 x1 x2 x9 x10 x11)
theorem impl_isAscending.L0_co (x0 : List Int) (x1 : Int) (x2 : Int) (x9 : List Int) (x10 : Int) (x11 : Int) : Co (fun k => impl_isAscending.l0 k x0 x1 x2 x9 x10 x11) (impl_isAscending.L0 x0 x1 x2 x9 x10 x11) := Co.base (fun k => (impl_isAscending.mono_l k) _ _ _ _ _ _)
noncomputable def impl_isAscending.F (l0 : List Int) (a1 : Int) (a2 : Int) : Option (Bool) := lim (fun k => impl_isAscending.f k l0 a1 a2)
theorem impl_isAscending.F_co (l0 : List Int) (a1 : Int) (a2 : Int) : Co (fun k => impl_isAscending.f k l0 a1 a2) (impl_isAscending.F l0 a1 a2) := Co.base (fun k => impl_isAscending.mono _ _ _ k)
theorem impl_isAscending.L0_eq (x0 : List Int) (x1 : Int) (x2 : Int) (x9 : List Int) (x10 : Int) (x11 : Int) : impl_isAscending.L0 x0 x1 x2 x9 x10 x11 = (if x11 < x10 then (if 0 ≤ x11 then (if x11 < (x9.length : Int) then ((impl_InRange.f (rd x9 x11) x1 x2).bind fun t140 => (if t140 = true then (if x11 > 0 then (if 0 ≤ (wrap64 (x11 - 1)) then (if (wrap64 (x11 - 1)) < (x0.length : Int) then (if (rd x9 x11) ≤ (rd x0 (wrap64 (x11 - 1))) then (some false) else (impl_isAscending.L0 x0 x1 x2 x9 x10 (wrap64 (x11 + 1)))) else (none)) else (none)) else (impl_isAscending.L0 x0 x1 x2 x9 x10 (wrap64 (x11 + 1)))) else (some false))) else (none)) else (none)) else (some true)) := by
  refine Co.step (impl_isAscending.L0_co x0 x1 x2 x9 x10 x11) (h := fun k => impl_isAscending.l0 (k + 1) x0 x1 x2 x9 x10 x11) (fun _ => rfl) ?_
  simp only [impl_isAscending.l0]
  repeat' first | (with_reducible exact Co.const _) | (with_reducible exact impl_isAscending.L0_co _ _ _ _ _ _) | (with_reducible refine Co.ite ?_ ?_) | (with_reducible refine Co.bind ?_ (fun _ => ?_))
theorem impl_isAscending.F_eq (l0 : List Int) (a1 : Int) (a2 : Int) : impl_isAscending.F l0 a1 a2 = (impl_isAscending.L0 l0 a1 a2 l0 (l0.length : Int) 0) := by
  refine Co.same (impl_isAscending.F_co l0 a1 a2) (h := fun k => impl_isAscending.f k l0 a1 a2) (fun _ => rfl) ?_
  unfold impl_isAscending.f
  repeat' first | (with_reducible exact Co.const _) | (with_reducible exact impl_isAscending.L0_co _ _ _ _ _ _) | (with_reducible refine Co.ite ?_ ?_) | (with_reducible refine Co.bind ?_ (fun _ => ?_))

noncomputable def impl_IsReport.F (a0_0 : Int) (a0_1 : Int) (l0_2 : List Int) (a0_3 : Int) (a0_4 : Int) (l0_5 : List Int) (a0_6 : Int) (a0_7 : Int) : Option (Bool) := lim (fun k => impl_IsReport.f k a0_0 a0_1 l0_2 a0_3 a0_4 l0_5 a0_6 a0_7)
theorem impl_IsReport.F_co (a0_0 : Int) (a0_1 : Int) (l0_2 : List Int) (a0_3 : Int) (a0_4 : Int) (l0_5 : List Int) (a0_6 : Int) (a0_7 : Int) : Co (fun k => impl_IsReport.f k a0_0 a0_1 l0_2 a0_3 a0_4 l0_5 a0_6 a0_7) (impl_IsReport.F a0_0 a0_1 l0_2 a0_3 a0_4 l0_5 a0_6 a0_7) := Co.base (fun k => impl_IsReport.mono _ _ _ _ _ _ _ _ k)
theorem impl_IsReport.F_eq (a0_0 : Int) (a0_1 : Int) (l0_2 : List Int) (a0_3 : Int) (a0_4 : Int) (l0_5 : List Int) (a0_6 : Int) (a0_7 : Int) : impl_IsReport.F a0_0 a0_1 l0_2 a0_3 a0_4 l0_5 a0_6 a0_7 = ((impl_InRange.f a0_0 1 999).bind fun t143 => (if t143 = true then ((impl_InRange.f a0_1 1 8).bind fun t144 => (if t144 = true then ((impl_isAscending.F l0_2 0 7).bind fun t145 => (if t145 = true then (if 1 ≤ a0_3 then (if a0_3 ≤ a0_4 then (if a0_4 ≤ 50 then ((impl_isAscending.F l0_5 1 30).bind fun t146 => (if t146 = true then (if (l0_5.length : Int) ≤ 10 then ((impl_IsSpan.f a0_6 a0_7).bind fun t147 => (some t147)) else (some false)) else (some false))) else (some false)) else (some false)) else (some false)) else (some false))) else (some false))) else (some false))) := by
  refine Co.same (impl_IsReport.F_co a0_0 a0_1 l0_2 a0_3 a0_4 l0_5 a0_6 a0_7) (h := fun k => impl_IsReport.f k a0_0 a0_1 l0_2 a0_3 a0_4 l0_5 a0_6 a0_7) (fun _ => rfl) ?_
  unfold impl_IsReport.f
  repeat' first | (with_reducible exact Co.const _) | (with_reducible exact impl_isAscending.F_co _ _ _) | (with_reducible refine Co.ite ?_ ?_) | (with_reducible refine Co.bind ?_ (fun _ => ?_))

noncomputable def slices_Index_int_int.L0 (x0 : List Int) (x1 : Int) (x7 : Int) (x8 : Int) : Option (Int) := lim (fun k => slices_Index_int_int.l0 k x0 x1 x7 x8)
theorem slices_Index_int_int.L0_co (x0 : List Int) (x1 : Int) (x7 : Int) (x8 : Int) : Co (fun k => slices_Index_int_int.l0 k x0 x1 x7 x8) (slices_Index_int_int.L0 x0 x1 x7 x8) := Co.base (fun k => (slices_Index_int_int.mono_l k) _ _ _ _)
noncomputable def slices_Index_int_int.F (l0 : List Int) (a1 : Int) : Option (Int) := lim (fun k => slices_Index_int_int.f k l0 a1)
theorem slices_Index_int_int.F_co (l0 : List Int) (a1 : Int) : Co (fun k => slices_Index_int_int.f k l0 a1) (slices_Index_int_int.F l0 a1) := Co.base (fun k => slices_Index_int_int.mono _ _ k)
theorem slices_Index_int_int.L0_eq (x0 : List Int) (x1 : Int) (x7 : Int) (x8 : Int) : slices_Index_int_int.L0 x0 x1 x7 x8 = (if x8 < x7 then (if 0 ≤ x8 then (if x8 < (x0.length : Int) then (if x1 = (rd x0 x8) then (some x8) else (slices_Index_int_int.L0 x0 x1 x7 (wrap64 (x8 + 1)))) else (none)) else (none)) else (some (-1))) := by
  refine Co.step (slices_Index_int_int.L0_co x0 x1 x7 x8) (h := fun k => slices_Index_int_int.l0 (k + 1) x0 x1 x7 x8) (fun _ => rfl) ?_
  simp only [slices_Index_int_int.l0]
  repeat' first | (with_reducible exact Co.const _) | (with_reducible exact slices_Index_int_int.L0_co _ _ _ _) | (with_reducible refine Co.ite ?_ ?_) | (with_reducible refine Co.bind ?_ (fun _ => ?_))
theorem slices_Index_int_int.F_eq (l0 : List Int) (a1 : Int) : slices_Index_int_int.F l0 a1 = (slices_Index_int_int.L0 l0 a1 (l0.length : Int) 0) := by
  refine Co.same (slices_Index_int_int.F_co l0 a1) (h := fun k => slices_Index_int_int.f k l0 a1) (fun _ => rfl) ?_
  unfold slices_Index_int_int.f
  repeat' first | (with_reducible exact Co.const _) | (with_reducible exact slices_Index_int_int.L0_co _ _ _ _) | (with_reducible refine Co.ite ?_ ?_) | (with_reducible refine Co.bind ?_ (fun _ => ?_))

noncomputable def slices_Contains_int_int.F (l0 : List Int) (a1 : Int) : Option (Bool) := lim (fun k => slices_Contains_int_int.f k l0 a1)
theorem slices_Contains_int_int.F_co (l0 : List Int) (a1 : Int) : Co (fun k => slices_Contains_int_int.f k l0 a1) (slices_Contains_int_int.F l0 a1) := Co.base (fun k => slices_Contains_int_int.mono _ _ k)
theorem slices_Contains_int_int.F_eq (l0 : List Int) (a1 : Int) : slices_Contains_int_int.F l0 a1 = ((slices_Index_int_int.F l0 a1).bind fun t163 => (some (decide (t163 ≥ 0)))) := by
  refine Co.same (slices_Contains_int_int.F_co l0 a1) (h := fun k => slices_Contains_int_int.f k l0 a1) (fun _ => rfl) ?_
  unfold slices_Contains_int_int.f
  repeat' first | (with_reducible exact Co.const _) | (with_reducible exact slices_Index_int_int.F_co _ _) | (with_reducible refine Co.ite ?_ ?_) | (with_reducible refine Co.bind ?_ (fun _ => ?_))

noncomputable def impl_both.L0 (x1 : List Int) (x6 : List Int) (x22 : List Int) (x23 : Int) (x24 : Int) : Option (List Int × Bool) := lim (fun k => impl_both.l0 k x1 x6 x22 x23 x24)
theorem impl_both.L0_co (x1 : List Int) (x6 : List Int) (x22 : List Int) (x23 : Int) (x24 : Int) : Co (fun k => impl_both.l0 k x1 x6 x22 x23 x24) (impl_both.L0 x1 x6 x22 x23 x24) := Co.base (fun k => (impl_both.mono_l k) _ _ _ _ _)
noncomputable def impl_both.F (l0 : List Int) (l1 : List Int) : Option (List Int × Bool) := lim (fun k => impl_both.f k l0 l1)
theorem impl_both.F_co (l0 : List Int) (l1 : List Int) : Co (fun k => impl_both.f k l0 l1) (impl_both.F l0 l1) := Co.base (fun k => impl_both.mono _ _ k)
theorem impl_both.L0_eq (x1 : List Int) (x6 : List Int) (x22 : List Int) (x23 : Int) (x24 : Int) : impl_both.L0 x1 x6 x22 x23 x24 = (if x24 < x23 then (if 0 ≤ x24 then (if x24 < (x22.length : Int) then ((slices_Contains_int_int.F x1 (rd x22 x24)).bind fun t174 => (if t174 = true then (if x6.length < 17592186044416 then (impl_both.L0 x1 (x6 ++ [rd x22 x24]) x22 x23 (wrap64 (x24 + 1))) else (none)) else (impl_both.L0 x1 x6 x22 x23 (wrap64 (x24 + 1))))) else (none)) else (none)) else (some (x6, decide ((x6.length : Int) > 0)))) := by
  refine Co.step (impl_both.L0_co x1 x6 x22 x23 x24) (h := fun k => impl_both.l0 (k + 1) x1 x6 x22 x23 x24) (fun _ => rfl) ?_
  simp only [impl_both.l0]
  repeat' first | (with_reducible exact Co.const _) | (with_reducible exact impl_both.L0_co _ _ _ _ _) | (with_reducible exact slices_Contains_int_int.F_co _ _) | (with_reducible refine Co.ite ?_ ?_) | (with_reducible refine Co.bind ?_ (fun _ => ?_))
theorem impl_both.F_eq (l0 : List Int) (l1 : List Int) : impl_both.F l0 l1 = (if (l0.length : Int) = 0 then ((slices_Clone_int_int.f l1).bind fun t164 => (some (t164, true))) else (if (l1.length : Int) = 0 then ((slices_Clone_int_int.f l0).bind fun t167 => (some (t167, true))) else (impl_both.L0 l1 (([] : List Int)) l0 (l0.length : Int) 0))) := by
  refine Co.same (impl_both.F_co l0 l1) (h := fun k => impl_both.f k l0 l1) (fun _ => rfl) ?_
  unfold impl_both.f
  repeat' first | (with_reducible exact Co.const _) | (with_reducible exact impl_both.L0_co _ _ _ _ _) | (with_reducible refine Co.ite ?_ ?_) | (with_reducible refine Co.bind ?_ (fun _ => ?_))

noncomputable def impl_AlongRoute.J0 (x1 : List (S130)) (x18 : Bool) (x179000 : Int) (x179001 : Int) (x179002 : List Int) (x179003 : Int) (x179004 : Int) (x179005 : List Int) (x179006 : Int) (x179007 : Int) (x193000 : Int) (x193001 : Int) (x193002 : List Int) (x193003 : Int) (x193004 : Int) (x193005 : List Int) (x193006 : Int) (x193007 : Int) : Option (Int × Int × List Int × Int × Int × List Int × Int × Int × Bool) := lim (fun k => impl_AlongRoute.j0 k x1 x18 x179000 x179001 x179002 x179003 x179004 x179005 x179006 x179007 x193000 x193001 x193002 x193003 x193004 x193005 x193006 x193007)
theorem impl_AlongRoute.J0_co (x1 : List (S130)) (x18 : Bool) (x179000 : Int) (x179001 : Int) (x179002 : List Int) (x179003 : Int) (x179004 : Int) (x179005 : List Int) (x179006 : Int) (x179007 : Int) (x193000 : Int) (x193001 : Int) (x193002 : List Int) (x193003 : Int) (x193004 : Int) (x193005 : List Int) (x193006 : Int) (x193007 : Int) : Co (fun k => impl_AlongRoute.j0 k x1 x18 x179000 x179001 x179002 x179003 x179004 x179005 x179006 x179007 x193000 x193001 x193002 x193003 x193004 x193005 x193006 x193007) (impl_AlongRoute.J0 x1 x18 x179000 x179001 x179002 x179003 x179004 x179005 x179006 x179007 x193000 x193001 x193002 x193003 x193004 x193005 x193006 x193007) := Co.base (fun k => (impl_AlongRoute.mono_l k) _ _ _ _ _ _ _ _ _ _ _ _ _ _ _ _ _ _)
noncomputable def impl_AlongRoute.F (a0_0 : Int) (a0_1 : Int) (l0_2 : List Int) (a0_3 : Int) (a0_4 : Int) (l0_5 : List Int) (a0_6 : Int) (a0_7 : Int) (l1 : List (S130)) : Option (Int × Int × List Int × Int × Int × List Int × Int × Int × Bool) := lim (fun k => impl_AlongRoute.f k a0_0 a0_1 l0_2 a0_3 a0_4 l0_5 a0_6 a0_7 l1)
theorem impl_AlongRoute.F_co (a0_0 : Int) (a0_1 : Int) (l0_2 : List Int) (a0_3 : Int) (a0_4 : Int) (l0_5 : List Int) (a0_6 : Int) (a0_7 : Int) (l1 : List (S130)) : Co (fun k => impl_AlongRoute.f k a0_0 a0_1 l0_2 a0_3 a0_4 l0_5 a0_6 a0_7 l1) (impl_AlongRoute.F a0_0 a0_1 l0_2 a0_3 a0_4 l0_5 a0_6 a0_7 l1) := Co.base (fun k => impl_AlongRoute.mono _ _ _ _ _ _ _ _ _ k)
theorem impl_AlongRoute.J0_eq (x1 : List (S130)) (x18 : Bool) (x179000 : Int) (x179001 : Int) (x179002 : List Int) (x179003 : Int) (x179004 : Int) (x179005 : List Int) (x179006 : Int) (x179007 : Int) (x193000 : Int) (x193001 : Int) (x193002 : List Int) (x193003 : Int) (x193004 : Int) (x193005 : List Int) (x193006 : Int) (x193007 : Int) : impl_AlongRoute.J0 x1 x18 x179000 x179001 x179002 x179003 x179004 x179005 x179006 x179007 x193000 x193001 x193002 x193003 x193004 x193005 x193006 x193007 = (if x18 = true then (some (x193000, x193001, x193002, x193003, x193004, x193005, x193006, x193007, false)) else ((impl_LeftBetween.F x1 x179006 x179007).bind fun t195 => ((impl_both.F t195 x179005).bind fun bt198 => (if bt198.2 = true then (some (x193000, x193001, x193002, x193003, x193004, bt198.1, x193006, x193007, true)) else (some (x193000, x193001, x193002, x193003, x193004, x193005, x193006, x193007, false)))))) := by
  refine Co.step (impl_AlongRoute.J0_co x1 x18 x179000 x179001 x179002 x179003 x179004 x179005 x179006 x179007 x193000 x193001 x193002 x193003 x193004 x193005 x193006 x193007) (h := fun k => impl_AlongRoute.j0 (k + 1) x1 x18 x179000 x179001 x179002 x179003 x179004 x179005 x179006 x179007 x193000 x193001 x193002 x193003 x193004 x193005 x193006 x193007) (fun _ => rfl) ?_
  simp only [impl_AlongRoute.j0]
  repeat' first | (with_reducible exact Co.const _) | (with_reducible exact impl_LeftBetween.F_co _ _ _) | (with_reducible exact impl_both.F_co _ _) | (with_reducible refine Co.ite ?_ ?_) | (with_reducible refine Co.bind ?_ (fun _ => ?_))
theorem impl_AlongRoute.F_eq (a0_0 : Int) (a0_1 : Int) (l0_2 : List Int) (a0_3 : Int) (a0_4 : Int) (l0_5 : List Int) (a0_6 : Int) (a0_7 : Int) (l1 : List (S130)) : impl_AlongRoute.F a0_0 a0_1 l0_2 a0_3 a0_4 l0_5 a0_6 a0_7 l1 = ((impl_cloneReport.f a0_0 a0_1 l0_2 a0_3 a0_4 l0_5 a0_6 a0_7).bind fun bt180 => ((impl_IsReport.F a0_0 a0_1 l0_2 a0_3 a0_4 l0_5 a0_6 a0_7).bind fun t193 => (if t193 = true then ((impl_IsRoute.F l1).bind fun t194 => (impl_AlongRoute.J0 l1 (!t194) a0_0 a0_1 l0_2 a0_3 a0_4 l0_5 a0_6 a0_7 bt180.1 bt180.2.1 bt180.2.2.1 bt180.2.2.2.1 bt180.2.2.2.2.1 bt180.2.2.2.2.2.1 bt180.2.2.2.2.2.2.1 bt180.2.2.2.2.2.2.2)) else (impl_AlongRoute.J0 l1 true a0_0 a0_1 l0_2 a0_3 a0_4 l0_5 a0_6 a0_7 bt180.1 bt180.2.1 bt180.2.2.1 bt180.2.2.2.1 bt180.2.2.2.2.1 bt180.2.2.2.2.2.1 bt180.2.2.2.2.2.2.1 bt180.2.2.2.2.2.2.2)))) := by
  refine Co.same (impl_AlongRoute.F_co a0_0 a0_1 l0_2 a0_3 a0_4 l0_5 a0_6 a0_7 l1) (h := fun k => impl_AlongRoute.f k a0_0 a0_1 l0_2 a0_3 a0_4 l0_5 a0_6 a0_7 l1) (fun _ => rfl) ?_
  unfold impl_AlongRoute.f
  repeat' first | (with_reducible exact Co.const _) | (with_reducible exact impl_AlongRoute.J0_co _ _ _ _ _ _ _ _ _ _ _ _ _ _ _ _ _ _) | (with_reducible exact impl_IsReport.F_co _ _ _ _ _ _ _ _) | (with_reducible exact impl_IsRoute.F_co _) | (with_reducible refine Co.ite ?_ ?_) | (with_reducible refine Co.bind ?_ (fun _ => ?_))

noncomputable def laws_ascends.L0 (x0 : List Int) (x3 : Int) : Option (Bool) := lim (fun k => laws_ascends.l0 k x0 x3)
theorem laws_ascends.L0_co (x0 : List Int) (x3 : Int) : Co (fun k => laws_ascends.l0 k x0 x3) (laws_ascends.L0 x0 x3) := Co.base (fun k => (laws_ascends.mono_l k) _ _)
noncomputable def laws_ascends.F (l0 : List Int) : Option (Bool) := lim (fun k => laws_ascends.f k l0)
theorem laws_ascends.F_co (l0 : List Int) : Co (fun k => laws_ascends.f k l0) (laws_ascends.F l0) := Co.base (fun k => laws_ascends.mono _ k)
theorem laws_ascends.L0_eq (x0 : List Int) (x3 : Int) : laws_ascends.L0 x0 x3 = (if x3 < (x0.length : Int) then (if 0 ≤ (wrap64 (x3 - 1)) then (if (wrap64 (x3 - 1)) < (x0.length : Int) then (if 0 ≤ x3 then (if (rd x0 (wrap64 (x3 - 1))) ≥ (rd x0 x3) then (some false) else (laws_ascends.L0 x0 (wrap64 (x3 + 1)))) else (none)) else (none)) else (none)) else (some true)) := by
  refine Co.step (laws_ascends.L0_co x0 x3) (h := fun k => laws_ascends.l0 (k + 1) x0 x3) (fun _ => rfl) ?_
  simp only [laws_ascends.l0]
  repeat' first | (with_reducible exact Co.const _) | (with_reducible exact laws_ascends.L0_co _ _) | (with_reducible refine Co.ite ?_ ?_) | (with_reducible refine Co.bind ?_ (fun _ => ?_))
theorem laws_ascends.F_eq (l0 : List Int) : laws_ascends.F l0 = (laws_ascends.L0 l0 1) := by
  refine Co.same (laws_ascends.F_co l0) (h := fun k => laws_ascends.f k l0) (fun _ => rfl) ?_
  unfold laws_ascends.f
  repeat' first | (with_reducible exact Co.const _) | (with_reducible exact laws_ascends.L0_co _ _) | (with_reducible refine Co.ite ?_ ?_) | (with_reducible refine Co.bind ?_ (fun _ => ?_))

noncomputable def laws_contains.L0 (x0 : List Int) (x1 : Int) (x5 : Int) : Option (Bool) := lim (fun k => laws_contains.l0 k x0 x1 x5)
theorem laws_contains.L0_co (x0 : List Int) (x1 : Int) (x5 : Int) : Co (fun k => laws_contains.l0 k x0 x1 x5) (laws_contains.L0 x0 x1 x5) := Co.base (fun k => (laws_contains.mono_l k) _ _ _)
noncomputable def laws_contains.F (l0 : List Int) (a1 : Int) : Option (Bool) := lim (fun k => laws_contains.f k l0 a1)
theorem laws_contains.F_co (l0 : List Int) (a1 : Int) : Co (fun k => laws_contains.f k l0 a1) (laws_contains.F l0 a1) := Co.base (fun k => laws_contains.mono _ _ k)
theorem laws_contains.L0_eq (x0 : List Int) (x1 : Int) (x5 : Int) : laws_contains.L0 x0 x1 x5 = (if x5 < (x0.length : Int) then (if 0 ≤ x5 then (if (rd x0 x5) = x1 then (some true) else (laws_contains.L0 x0 x1 (wrap64 (x5 + 1)))) else (none)) else (some false)) := by
  refine Co.step (laws_contains.L0_co x0 x1 x5) (h := fun k => laws_contains.l0 (k + 1) x0 x1 x5) (fun _ => rfl) ?_
  simp only [laws_contains.l0]
  repeat' first | (with_reducible exact Co.const _) | (with_reducible exact laws_contains.L0_co _ _ _) | (with_reducible refine Co.ite ?_ ?_) | (with_reducible refine Co.bind ?_ (fun _ => ?_))
theorem laws_contains.F_eq (l0 : List Int) (a1 : Int) : laws_contains.F l0 a1 = (laws_contains.L0 l0 a1 0) := by
  refine Co.same (laws_contains.F_co l0 a1) (h := fun k => laws_contains.f k l0 a1) (fun _ => rfl) ?_
  unfold laws_contains.f
  repeat' first | (with_reducible exact Co.const _) | (with_reducible exact laws_contains.L0_co _ _ _) | (with_reducible refine Co.ite ?_ ?_) | (with_reducible refine Co.bind ?_ (fun _ => ?_))

noncomputable def spec_l1New.L0 (x0 : List Int) (x3 : Int) (x4 : Int) : Option (List Int × Int × Int) := lim (fun k => spec_l1New.l0 k x0 x3 x4)
theorem spec_l1New.L0_co (x0 : List Int) (x3 : Int) (x4 : Int) : Co (fun k => spec_l1New.l0 k x0 x3 x4) (spec_l1New.L0 x0 x3 x4) := Co.base (fun k => (spec_l1New.mono_l k) _ _ _)
noncomputable def spec_l1New.F (l0 : List Int) : Option (List Int × Int × Int) := lim (fun k => spec_l1New.f k l0)
theorem spec_l1New.F_co (l0 : List Int) : Co (fun k => spec_l1New.f k l0) (spec_l1New.F l0) := Co.base (fun k => spec_l1New.mono _ k)
theorem spec_l1New.L0_eq (x0 : List Int) (x3 : Int) (x4 : Int) : spec_l1New.L0 x0 x3 x4 = (if x4 < (x0.length : Int) then (if x4 < 4000 then (if 0 ≤ x4 then (spec_l1New.L0 x0 (Go.bits .and .i64 (wrap64 ((wrap64 ((wrap64 (x3 * 137)) + (wrap64 (rd x0 x4)))) + 11)) 1073741823) (wrap64 (x4 + 1))) else (none)) else (some (x0, 0, x3))) else (some (x0, 0, x3))) := by
  refine Co.step (spec_l1New.L0_co x0 x3 x4) (h := fun k => spec_l1New.l0 (k + 1) x0 x3 x4) (fun _ => rfl) ?_
  simp only [spec_l1New.l0]
  repeat' first | (with_reducible exact Co.const _) | (with_reducible exact spec_l1New.L0_co _ _ _) | (with_reducible refine Co.ite ?_ ?_) | (with_reducible refine Co.bind ?_ (fun _ => ?_))
theorem spec_l1New.F_eq (l0 : List Int) : spec_l1New.F l0 = (spec_l1New.L0 l0 (wrap64 (193017 + (l0.length : Int))) 0) := by
  refine Co.same (spec_l1New.F_co l0) (h := fun k => spec_l1New.f k l0) (fun _ => rfl) ?_
  unfold spec_l1New.f
  repeat' first | (with_reducible exact Co.const _) | (with_reducible exact spec_l1New.L0_co _ _ _) | (with_reducible refine Co.ite ?_ ?_) | (with_reducible refine Co.bind ?_ (fun _ => ?_))

noncomputable def spec_l10Draw.L0 (x3 : List (S130)) (x4 : Int) (x5 : Int) (x1000 : List Int) (x1001 : Int) (x1002 : Int) : Option ((List (S130)) × Int × Int) := lim (fun k => spec_l10Draw.l0 k x3 x4 x5 x1000 x1001 x1002)
theorem spec_l10Draw.L0_co (x3 : List (S130)) (x4 : Int) (x5 : Int) (x1000 : List Int) (x1001 : Int) (x1002 : Int) : Co (fun k => spec_l10Draw.l0 k x3 x4 x5 x1000 x1001 x1002) (spec_l10Draw.L0 x3 x4 x5 x1000 x1001 x1002) := Co.base (fun k => (spec_l10Draw.mono_l k) _ _ _ _ _ _)
noncomputable def spec_l10Draw.F (s0_0 : List Int) (s0_1 : Int) (s0_2 : Int) : Option ((List (S130)) × Int × Int) := lim (fun k => spec_l10Draw.f k s0_0 s0_1 s0_2)
theorem spec_l10Draw.F_co (s0_0 : List Int) (s0_1 : Int) (s0_2 : Int) : Co (fun k => spec_l10Draw.f k s0_0 s0_1 s0_2) (spec_l10Draw.F s0_0 s0_1 s0_2) := Co.base (fun k => spec_l10Draw.mono _ _ _ k)
theorem spec_l10Draw.L0_eq (x3 : List (S130)) (x4 : Int) (x5 : Int) (x1000 : List Int) (x1001 : Int) (x1002 : Int) : spec_l10Draw.L0 x3 x4 x5 x1000 x1001 x1002 = (if x5 > 0 then ((spec_l1Below.f x1000 x1001 x1002 4).bind fun bt240 => ((spec_l1Below.f x1000 bt240.2.1 bt240.2.2 6).bind fun bt243 => (if x3.length < 5864062014805 then ((spec_l1Below.f x1000 bt243.2.1 bt243.2.2 8).bind fun bt249 => (spec_l10Draw.L0 (x3 ++ [(⟨wrap64 (1 + bt243.1), x4, wrap64 (x4 + bt240.1)⟩ : S130)]) (wrap64 ((wrap64 (x4 + bt240.1)) + bt249.1)) (wrap64 (x5 - 1)) x1000 bt249.2.1 bt249.2.2)) else (none)))) else (some (x3, x1001, x1002))) := by
  refine Co.step (spec_l10Draw.L0_co x3 x4 x5 x1000 x1001 x1002) (h := fun k => spec_l10Draw.l0 (k + 1) x3 x4 x5 x1000 x1001 x1002) (fun _ => rfl) ?_
  simp only [spec_l10Draw.l0]
  repeat' first | (with_reducible exact Co.const _) | (with_reducible exact spec_l10Draw.L0_co _ _ _ _ _ _) | (with_reducible refine Co.ite ?_ ?_) | (with_reducible refine Co.bind ?_ (fun _ => ?_))
theorem spec_l10Draw.F_eq (s0_0 : List Int) (s0_1 : Int) (s0_2 : Int) : spec_l10Draw.F s0_0 s0_1 s0_2 = ((spec_l1Below.f s0_0 s0_1 s0_2 30).bind fun bt234 => ((spec_l1Below.f s0_0 bt234.2.1 bt234.2.2 5).bind fun bt237 => (spec_l10Draw.L0 (([] : List (S130))) bt234.1 (wrap64 (1 + bt237.1)) s0_0 bt237.2.1 bt237.2.2))) := by
  refine Co.same (spec_l10Draw.F_co s0_0 s0_1 s0_2) (h := fun k => spec_l10Draw.f k s0_0 s0_1 s0_2) (fun _ => rfl) ?_
  unfold spec_l10Draw.f
  repeat' first | (with_reducible exact Co.const _) | (with_reducible exact spec_l10Draw.L0_co _ _ _ _ _ _) | (with_reducible refine Co.ite ?_ ?_) | (with_reducible refine Co.bind ?_ (fun _ => ?_))

noncomputable def spec_l10Any.F (s0_0 : List Int) (s0_1 : Int) (s0_2 : Int) : Option ((List (S130)) × Int × Int) := lim (fun k => spec_l10Any.f k s0_0 s0_1 s0_2)
theorem spec_l10Any.F_co (s0_0 : List Int) (s0_1 : Int) (s0_2 : Int) : Co (fun k => spec_l10Any.f k s0_0 s0_1 s0_2) (spec_l10Any.F s0_0 s0_1 s0_2) := Co.base (fun k => spec_l10Any.mono _ _ _ k)
theorem spec_l10Any.F_eq (s0_0 : List Int) (s0_1 : Int) (s0_2 : Int) : spec_l10Any.F s0_0 s0_1 s0_2 = ((spec_l10Draw.F s0_0 s0_1 s0_2).bind fun bt252 => ((spec_l1Below.f s0_0 bt252.2.1 bt252.2.2 (bt252.1.length : Int)).bind fun bt257 => ((spec_l1Below.f s0_0 bt257.2.1 bt257.2.2 10).bind fun bt260 => (if bt260.1 = 0 then ((spec_l1Int.f s0_0 bt260.2.1 bt260.2.2 (([0, 30, 31] : List Int))).bind fun bt266 => (if 0 ≤ bt257.1 then (if bt257.1 < (bt252.1.length : Int) then (some ((bt252.1.set (bt257.1 : Int).toNat (⟨bt266.1, (rd_T130 bt252.1 bt257.1).f1, (rd_T130 bt252.1 bt257.1).f2⟩ : S130)), bt266.2.1, bt266.2.2)) else (none)) else (none))) else (if bt260.1 = 1 then ((spec_l4Raw.f s0_0 bt260.2.1 bt260.2.2).bind fun bt270 => (if 0 ≤ bt257.1 then (if bt257.1 < (bt252.1.length : Int) then (some ((bt252.1.set (bt257.1 : Int).toNat (⟨(rd_T130 bt252.1 bt257.1).f0, bt270.1, (rd_T130 bt252.1 bt257.1).f2⟩ : S130)), bt270.2.1, bt270.2.2)) else (none)) else (none))) else (if bt260.1 = 2 then ((spec_l1Int.f s0_0 bt260.2.1 bt260.2.2 (([(-1), 100000, 100001] : List Int))).bind fun bt277 => (if 0 ≤ bt257.1 then (if bt257.1 < (bt252.1.length : Int) then (some ((bt252.1.set (bt257.1 : Int).toNat (⟨(rd_T130 bt252.1 bt257.1).f0, (rd_T130 bt252.1 bt257.1).f1, bt277.1⟩ : S130)), bt277.2.1, bt277.2.2)) else (none)) else (none))) else (if bt260.1 = 3 then (some (([] : List (S130)), bt260.2.1, bt260.2.2)) else (some (bt252.1, bt260.2.1, bt260.2.2))))))))) := by
  refine Co.same (spec_l10Any.F_co s0_0 s0_1 s0_2) (h := fun k => spec_l10Any.f k s0_0 s0_1 s0_2) (fun _ => rfl) ?_
  unfold spec_l10Any.f
  repeat' first | (with_reducible exact Co.const _) | (with_reducible exact spec_l10Draw.F_co _ _ _) | (with_reducible refine Co.ite ?_ ?_) | (with_reducible refine Co.bind ?_ (fun _ => ?_))

noncomputable def spec_DrawLeftBetween.F (l0 : List Int) : Option ((List (S130)) × Int × Int) := lim (fun k => spec_DrawLeftBetween.f k l0)
theorem spec_DrawLeftBetween.F_co (l0 : List Int) : Co (fun k => spec_DrawLeftBetween.f k l0) (spec_DrawLeftBetween.F l0) := Co.base (fun k => spec_DrawLeftBetween.mono _ k)
theorem spec_DrawLeftBetween.F_eq (l0 : List Int) : spec_DrawLeftBetween.F l0 = ((spec_l1New.F l0).bind fun bt307 => ((spec_l10Any.F bt307.1 bt307.2.1 bt307.2.2).bind fun bt311 => ((spec_l5Any.f bt307.1 bt311.2.1 bt311.2.2).bind fun bt316 => (some (bt311.1, bt316.1, bt316.2.1))))) := by
  refine Co.same (spec_DrawLeftBetween.F_co l0) (h := fun k => spec_DrawLeftBetween.f k l0) (fun _ => rfl) ?_
  unfold spec_DrawLeftBetween.f
  repeat' first | (with_reducible exact Co.const _) | (with_reducible exact spec_l10Any.F_co _ _ _) | (with_reducible exact spec_l1New.F_co _) | (with_reducible refine Co.ite ?_ ?_) | (with_reducible refine Co.bind ?_ (fun _ => ?_))

noncomputable def impl_StopAt.L0 (x1 : Int) (x10 : List (S130)) (x11 : Int) (x12 : Int) : Option (Int) := lim (fun k => impl_StopAt.l0 k x1 x10 x11 x12)
theorem impl_StopAt.L0_co (x1 : Int) (x10 : List (S130)) (x11 : Int) (x12 : Int) : Co (fun k => impl_StopAt.l0 k x1 x10 x11 x12) (impl_StopAt.L0 x1 x10 x11 x12) := Co.base (fun k => (impl_StopAt.mono_l k) _ _ _ _)
noncomputable def impl_StopAt.F (l0 : List (S130)) (a1 : Int) : Option (Int) := lim (fun k => impl_StopAt.f k l0 a1)
theorem impl_StopAt.F_co (l0 : List (S130)) (a1 : Int) : Co (fun k => impl_StopAt.f k l0 a1) (impl_StopAt.F l0 a1) := Co.base (fun k => impl_StopAt.mono _ _ k)
theorem impl_StopAt.L0_eq (x1 : Int) (x10 : List (S130)) (x11 : Int) (x12 : Int) : impl_StopAt.L0 x1 x10 x11 x12 = (if x12 < x11 then (if 0 ≤ x12 then (if x12 < (x10.length : Int) then ((impl_InRange.f x1 ((rd_T130 x10 x12).f1) ((rd_T130 x10 x12).f2)).bind fun t323 => (if t323 = true then (some ((rd_T130 x10 x12).f0)) else (impl_StopAt.L0 x1 x10 x11 (wrap64 (x12 + 1))))) else (none)) else (none)) else (some 0)) := by
  refine Co.step (impl_StopAt.L0_co x1 x10 x11 x12) (h := fun k => impl_StopAt.l0 (k + 1) x1 x10 x11 x12) (fun _ => rfl) ?_
  simp only [impl_StopAt.l0]
  repeat' first | (with_reducible exact Co.const _) | (with_reducible exact impl_StopAt.L0_co _ _ _ _) | (with_reducible refine Co.ite ?_ ?_) | (with_reducible refine Co.bind ?_ (fun _ => ?_))
theorem impl_StopAt.F_eq (l0 : List (S130)) (a1 : Int) : impl_StopAt.F l0 a1 = ((impl_IsRoute.F l0).bind fun t320 => (if t320 = true then (impl_StopAt.L0 a1 l0 (l0.length : Int) 0) else (some 0))) := by
  refine Co.same (impl_StopAt.F_co l0 a1) (h := fun k => impl_StopAt.f k l0 a1) (fun _ => rfl) ?_
  unfold impl_StopAt.f
  repeat' first | (with_reducible exact Co.const _) | (with_reducible exact impl_IsRoute.F_co _) | (with_reducible exact impl_StopAt.L0_co _ _ _ _) | (with_reducible refine Co.ite ?_ ?_) | (with_reducible refine Co.bind ?_ (fun _ => ?_))

noncomputable def spec_l7Some.L0 (x2 : Int) (x3 : Int) (x9 : List Int) (x10 : Int) (x1000 : List Int) (x1001 : Int) (x1002 : Int) : Option (List Int × Int × Int) := lim (fun k => spec_l7Some.l0 k x2 x3 x9 x10 x1000 x1001 x1002)
theorem spec_l7Some.L0_co (x2 : Int) (x3 : Int) (x9 : List Int) (x10 : Int) (x1000 : List Int) (x1001 : Int) (x1002 : Int) : Co (fun k => spec_l7Some.l0 k x2 x3 x9 x10 x1000 x1001 x1002) (spec_l7Some.L0 x2 x3 x9 x10 x1000 x1001 x1002) := Co.base (fun k => (spec_l7Some.mono_l k) _ _ _ _ _ _ _)
noncomputable def spec_l7Some.F (s0_0 : List Int) (s0_1 : Int) (s0_2 : Int) (a1 : Int) (a2 : Int) (a3 : Int) : Option (List Int × Int × Int) := lim (fun k => spec_l7Some.f k s0_0 s0_1 s0_2 a1 a2 a3)
theorem spec_l7Some.F_co (s0_0 : List Int) (s0_1 : Int) (s0_2 : Int) (a1 : Int) (a2 : Int) (a3 : Int) : Co (fun k => spec_l7Some.f k s0_0 s0_1 s0_2 a1 a2 a3) (spec_l7Some.F s0_0 s0_1 s0_2 a1 a2 a3) := Co.base (fun k => spec_l7Some.mono _ _ _ _ _ _ k)
theorem spec_l7Some.L0_eq (x2 : Int) (x3 : Int) (x9 : List Int) (x10 : Int) (x1000 : List Int) (x1001 : Int) (x1002 : Int) : spec_l7Some.L0 x2 x3 x9 x10 x1000 x1001 x1002 = (if x10 ≤ x2 then ((spec_l1Once.f x1000 x1001 x1002 x3).bind fun bt330 => (if bt330.1 = true then (if x9.length < 17592186044416 then (spec_l7Some.L0 x2 x3 (x9 ++ [x10]) (wrap64 (x10 + 1)) x1000 bt330.2.1 bt330.2.2) else (none)) else (spec_l7Some.L0 x2 x3 x9 (wrap64 (x10 + 1)) x1000 bt330.2.1 bt330.2.2))) else (some (x9, x1001, x1002))) := by
  refine Co.step (spec_l7Some.L0_co x2 x3 x9 x10 x1000 x1001 x1002) (h := fun k => spec_l7Some.l0 (k + 1) x2 x3 x9 x10 x1000 x1001 x1002) (fun _ => rfl) ?_
  simp only [spec_l7Some.l0]
  repeat' first | (with_reducible exact Co.const _) | (with_reducible exact spec_l7Some.L0_co _ _ _ _ _ _ _) | (with_reducible refine Co.ite ?_ ?_) | (with_reducible refine Co.bind ?_ (fun _ => ?_))
theorem spec_l7Some.F_eq (s0_0 : List Int) (s0_1 : Int) (s0_2 : Int) (a1 : Int) (a2 : Int) (a3 : Int) : spec_l7Some.F s0_0 s0_1 s0_2 a1 a2 a3 = (spec_l7Some.L0 a2 a3 (([] : List Int)) a1 s0_0 s0_1 s0_2) := by
  refine Co.same (spec_l7Some.F_co s0_0 s0_1 s0_2 a1 a2 a3) (h := fun k => spec_l7Some.f k s0_0 s0_1 s0_2 a1 a2 a3) (fun _ => rfl) ?_
  unfold spec_l7Some.f
  repeat' first | (with_reducible exact Co.const _) | (with_reducible exact spec_l7Some.L0_co _ _ _ _ _ _ _) | (with_reducible refine Co.ite ?_ ?_) | (with_reducible refine Co.bind ?_ (fun _ => ?_))

noncomputable def spec_l7Draw.F (s0_0 : List Int) (s0_1 : Int) (s0_2 : Int) (a1 : Int) : Option (Int × Int × List Int × Int × Int × List Int × Int × Int × Int × Int) := lim (fun k => spec_l7Draw.f k s0_0 s0_1 s0_2 a1)
theorem spec_l7Draw.F_co (s0_0 : List Int) (s0_1 : Int) (s0_2 : Int) (a1 : Int) : Co (fun k => spec_l7Draw.f k s0_0 s0_1 s0_2 a1) (spec_l7Draw.F s0_0 s0_1 s0_2 a1) := Co.base (fun k => spec_l7Draw.mono _ _ _ _ k)
theorem spec_l7Draw.F_eq (s0_0 : List Int) (s0_1 : Int) (s0_2 : Int) (a1 : Int) : spec_l7Draw.F s0_0 s0_1 s0_2 a1 = ((spec_l1Below.f s0_0 s0_1 s0_2 12).bind fun bt337 => ((spec_l1Below.f s0_0 bt337.2.1 bt337.2.2 8).bind fun bt340 => ((spec_l7Some.F s0_0 bt340.2.1 bt340.2.2 0 7 3).bind fun bt343 => ((spec_l1Below.f s0_0 bt343.2.1 bt343.2.2 15).bind fun bt348 => ((spec_l7Some.F s0_0 bt348.2.1 bt348.2.2 1 6 2).bind fun bt351 => ((spec_l5Draw.f s0_0 bt351.2.1 bt351.2.2).bind fun bt356 => (some (a1, wrap64 (1 + bt340.1), bt343.1, wrap64 (1 + bt337.1), wrap64 ((wrap64 (1 + bt337.1)) + bt348.1), bt351.1, bt356.1, bt356.2.1, bt356.2.2.1, bt356.2.2.2)))))))) := by
  refine Co.same (spec_l7Draw.F_co s0_0 s0_1 s0_2 a1) (h := fun k => spec_l7Draw.f k s0_0 s0_1 s0_2 a1) (fun _ => rfl) ?_
  unfold spec_l7Draw.f
  repeat' first | (with_reducible exact Co.const _) | (with_reducible exact spec_l7Some.F_co _ _ _ _ _ _) | (with_reducible refine Co.ite ?_ ?_) | (with_reducible refine Co.bind ?_ (fun _ => ?_))

noncomputable def spec_l7Any.F (s0_0 : List Int) (s0_1 : Int) (s0_2 : Int) : Option (Int × Int × List Int × Int × Int × List Int × Int × Int × Int × Int) := lim (fun k => spec_l7Any.f k s0_0 s0_1 s0_2)
theorem spec_l7Any.F_co (s0_0 : List Int) (s0_1 : Int) (s0_2 : Int) : Co (fun k => spec_l7Any.f k s0_0 s0_1 s0_2) (spec_l7Any.F s0_0 s0_1 s0_2) := Co.base (fun k => spec_l7Any.mono _ _ _ k)
theorem spec_l7Any.F_eq (s0_0 : List Int) (s0_1 : Int) (s0_2 : Int) : spec_l7Any.F s0_0 s0_1 s0_2 = ((spec_l1Below.f s0_0 s0_1 s0_2 9).bind fun bt361 => ((spec_l7Draw.F s0_0 bt361.2.1 bt361.2.2 (wrap64 (1 + bt361.1))).bind fun bt364 => ((spec_l1Below.f s0_0 bt364.2.2.2.2.2.2.2.2.1 bt364.2.2.2.2.2.2.2.2.2 14).bind fun bt379 => (if bt379.1 = 0 then ((spec_l1Int.f s0_0 bt379.2.1 bt379.2.2 (([0, 999, 1000] : List Int))).bind fun bt385 => (some (bt385.1, bt364.2.1, bt364.2.2.1, bt364.2.2.2.1, bt364.2.2.2.2.1, bt364.2.2.2.2.2.1, bt364.2.2.2.2.2.2.1, bt364.2.2.2.2.2.2.2.1, bt385.2.1, bt385.2.2))) else (if bt379.1 = 1 then ((spec_l1Int.f s0_0 bt379.2.1 bt379.2.2 (([0, 8, 9] : List Int))).bind fun bt391 => (some (bt364.1, bt391.1, bt364.2.2.1, bt364.2.2.2.1, bt364.2.2.2.2.1, bt364.2.2.2.2.2.1, bt364.2.2.2.2.2.2.1, bt364.2.2.2.2.2.2.2.1, bt391.2.1, bt391.2.2))) else (if bt379.1 = 2 then ((spec_l1Int.f s0_0 bt379.2.1 bt379.2.2 (([(-1), 3, 8] : List Int))).bind fun bt397 => (some (bt364.1, bt364.2.1, (([bt397.1, 3] : List Int)), bt364.2.2.2.1, bt364.2.2.2.2.1, bt364.2.2.2.2.2.1, bt364.2.2.2.2.2.2.1, bt364.2.2.2.2.2.2.2.1, bt397.2.1, bt397.2.2))) else (if bt379.1 = 3 then ((spec_l4Raw.f s0_0 bt379.2.1 bt379.2.2).bind fun bt403 => (some (bt364.1, bt364.2.1, bt364.2.2.1, bt403.1, bt364.2.2.2.2.1, bt364.2.2.2.2.2.1, bt364.2.2.2.2.2.2.1, bt364.2.2.2.2.2.2.2.1, bt403.2.1, bt403.2.2))) else (if bt379.1 = 4 then ((spec_l4Raw.f s0_0 bt379.2.1 bt379.2.2).bind fun bt406 => (some (bt364.1, bt364.2.1, bt364.2.2.1, bt364.2.2.2.1, bt406.1, bt364.2.2.2.2.2.1, bt364.2.2.2.2.2.2.1, bt364.2.2.2.2.2.2.2.1, bt406.2.1, bt406.2.2))) else (if bt379.1 = 5 then ((spec_l1Int.f s0_0 bt379.2.1 bt379.2.2 (([0, 30, 31] : List Int))).bind fun bt412 => (some (bt364.1, bt364.2.1, bt364.2.2.1, bt364.2.2.2.1, bt364.2.2.2.2.1, (([bt412.1] : List Int)), bt364.2.2.2.2.2.2.1, bt364.2.2.2.2.2.2.2.1, bt412.2.1, bt412.2.2))) else (if bt379.1 = 6 then ((spec_l5Any.f s0_0 bt379.2.1 bt379.2.2).bind fun bt418 => (some (bt364.1, bt364.2.1, bt364.2.2.1, bt364.2.2.2.1, bt364.2.2.2.2.1, bt364.2.2.2.2.2.1, bt418.1, bt418.2.1, bt418.2.2.1, bt418.2.2.2))) else (if bt379.1 = 7 then (some (bt364.1, bt364.2.1, ([] : List Int), 1, 50, ([] : List Int), bt364.2.2.2.2.2.2.1, bt364.2.2.2.2.2.2.2.1, bt379.2.1, bt379.2.2)) else (some (bt364.1, bt364.2.1, bt364.2.2.1, bt364.2.2.2.1, bt364.2.2.2.2.1, bt364.2.2.2.2.2.1, bt364.2.2.2.2.2.2.1, bt364.2.2.2.2.2.2.2.1, bt379.2.1, bt379.2.2))))))))))))) := by
  refine Co.same (spec_l7Any.F_co s0_0 s0_1 s0_2) (h := fun k => spec_l7Any.f k s0_0 s0_1 s0_2) (fun _ => rfl) ?_
  unfold spec_l7Any.f
  repeat' first | (with_reducible exact Co.const _) | (with_reducible exact spec_l7Draw.F_co _ _ _ _) | (with_reducible refine Co.ite ?_ ?_) | (with_reducible refine Co.bind ?_ (fun _ => ?_))

noncomputable def spec_DrawAlongRoute.F (l0 : List Int) : Option (Int × Int × List Int × Int × Int × List Int × Int × Int × (List (S130))) := lim (fun k => spec_DrawAlongRoute.f k l0)
theorem spec_DrawAlongRoute.F_co (l0 : List Int) : Co (fun k => spec_DrawAlongRoute.f k l0) (spec_DrawAlongRoute.F l0) := Co.base (fun k => spec_DrawAlongRoute.mono _ k)
theorem spec_DrawAlongRoute.F_eq (l0 : List Int) : spec_DrawAlongRoute.F l0 = ((spec_l1New.F l0).bind fun bt423 => ((spec_l7Any.F bt423.1 bt423.2.1 bt423.2.2).bind fun bt427 => ((spec_l10Any.F bt423.1 bt427.2.2.2.2.2.2.2.2.1 bt427.2.2.2.2.2.2.2.2.2).bind fun bt442 => (some (bt427.1, bt427.2.1, bt427.2.2.1, bt427.2.2.2.1, bt427.2.2.2.2.1, bt427.2.2.2.2.2.1, bt427.2.2.2.2.2.2.1, bt427.2.2.2.2.2.2.2.1, bt442.1))))) := by
  refine Co.same (spec_DrawAlongRoute.F_co l0) (h := fun k => spec_DrawAlongRoute.f k l0) (fun _ => rfl) ?_
  unfold spec_DrawAlongRoute.f
  repeat' first | (with_reducible exact Co.const _) | (with_reducible exact spec_l10Any.F_co _ _ _) | (with_reducible exact spec_l1New.F_co _) | (with_reducible exact spec_l7Any.F_co _ _ _) | (with_reducible refine Co.ite ?_ ?_) | (with_reducible refine Co.bind ?_ (fun _ => ?_))

noncomputable def impl_allowsAll.J0 (x0 : List Int) (x1 : List Int) (x14 : Bool) : Option (Bool) := lim (fun k => impl_allowsAll.j0 k x0 x1 x14)
theorem impl_allowsAll.J0_co (x0 : List Int) (x1 : List Int) (x14 : Bool) : Co (fun k => impl_allowsAll.j0 k x0 x1 x14) (impl_allowsAll.J0 x0 x1 x14) := Co.base (fun k => (impl_allowsAll.mono_l k).1 _ _ _)
noncomputable def impl_allowsAll.L0 (x0 : List Int) (x18 : List Int) (x19 : Int) (x20 : Int) : Option (Bool) := lim (fun k => impl_allowsAll.l0 k x0 x18 x19 x20)
theorem impl_allowsAll.L0_co (x0 : List Int) (x18 : List Int) (x19 : Int) (x20 : Int) : Co (fun k => impl_allowsAll.l0 k x0 x18 x19 x20) (impl_allowsAll.L0 x0 x18 x19 x20) := Co.base (fun k => (impl_allowsAll.mono_l k).2 _ _ _ _)
noncomputable def impl_allowsAll.F (l0 : List Int) (l1 : List Int) : Option (Bool) := lim (fun k => impl_allowsAll.f k l0 l1)
theorem impl_allowsAll.F_co (l0 : List Int) (l1 : List Int) : Co (fun k => impl_allowsAll.f k l0 l1) (impl_allowsAll.F l0 l1) := Co.base (fun k => impl_allowsAll.mono _ _ k)
theorem impl_allowsAll.J0_eq (x0 : List Int) (x1 : List Int) (x14 : Bool) : impl_allowsAll.J0 x0 x1 x14 = (if x14 = true then (some ((x0.length : Int) == 0)) else (impl_allowsAll.L0 x0 x1 (x1.length : Int) 0)) := by
  refine Co.step (impl_allowsAll.J0_co x0 x1 x14) (h := fun k => impl_allowsAll.j0 (k + 1) x0 x1 x14) (fun _ => rfl) ?_
  simp only [impl_allowsAll.j0]
  repeat' first | (with_reducible exact Co.const _) | (with_reducible exact impl_allowsAll.L0_co _ _ _ _) | (with_reducible refine Co.ite ?_ ?_) | (with_reducible refine Co.bind ?_ (fun _ => ?_))
theorem impl_allowsAll.L0_eq (x0 : List Int) (x18 : List Int) (x19 : Int) (x20 : Int) : impl_allowsAll.L0 x0 x18 x19 x20 = (if x20 < x19 then (if 0 ≤ x20 then (if x20 < (x18.length : Int) then ((slices_Contains_int_int.F x0 (rd x18 x20)).bind fun t448 => (if t448 = true then (impl_allowsAll.L0 x0 x18 x19 (wrap64 (x20 + 1))) else (some false))) else (none)) else (none)) else (some true)) := by
  refine Co.step (impl_allowsAll.L0_co x0 x18 x19 x20) (h := fun k => impl_allowsAll.l0 (k + 1) x0 x18 x19 x20) (fun _ => rfl) ?_
  simp only [impl_allowsAll.l0]
  repeat' first | (with_reducible exact Co.const _) | (with_reducible exact impl_allowsAll.L0_co _ _ _ _) | (with_reducible exact slices_Contains_int_int.F_co _ _) | (with_reducible refine Co.ite ?_ ?_) | (with_reducible refine Co.bind ?_ (fun _ => ?_))
theorem impl_allowsAll.F_eq (l0 : List Int) (l1 : List Int) : impl_allowsAll.F l0 l1 = (if (l0.length : Int) = 0 then (impl_allowsAll.J0 l0 l1 true) else (impl_allowsAll.J0 l0 l1 ((l1.length : Int) == 0))) := by
  refine Co.same (impl_allowsAll.F_co l0 l1) (h := fun k => impl_allowsAll.f k l0 l1) (fun _ => rfl) ?_
  unfold impl_allowsAll.f
  repeat' first | (with_reducible exact Co.const _) | (with_reducible exact impl_allowsAll.J0_co _ _ _) | (with_reducible refine Co.ite ?_ ?_) | (with_reducible refine Co.bind ?_ (fun _ => ?_))

noncomputable def impl_IsWider.F (a0_0 : Int) (a0_1 : Int) (l0_2 : List Int) (a0_3 : Int) (a0_4 : Int) (l0_5 : List Int) (a0_6 : Int) (a0_7 : Int) (a1_0 : Int) (a1_1 : Int) (l1_2 : List Int) (a1_3 : Int) (a1_4 : Int) (l1_5 : List Int) (a1_6 : Int) (a1_7 : Int) : Option (Bool) := lim (fun k => impl_IsWider.f k a0_0 a0_1 l0_2 a0_3 a0_4 l0_5 a0_6 a0_7 a1_0 a1_1 l1_2 a1_3 a1_4 l1_5 a1_6 a1_7)
theorem impl_IsWider.F_co (a0_0 : Int) (a0_1 : Int) (l0_2 : List Int) (a0_3 : Int) (a0_4 : Int) (l0_5 : List Int) (a0_6 : Int) (a0_7 : Int) (a1_0 : Int) (a1_1 : Int) (l1_2 : List Int) (a1_3 : Int) (a1_4 : Int) (l1_5 : List Int) (a1_6 : Int) (a1_7 : Int) : Co (fun k => impl_IsWider.f k a0_0 a0_1 l0_2 a0_3 a0_4 l0_5 a0_6 a0_7 a1_0 a1_1 l1_2 a1_3 a1_4 l1_5 a1_6 a1_7) (impl_IsWider.F a0_0 a0_1 l0_2 a0_3 a0_4 l0_5 a0_6 a0_7 a1_0 a1_1 l1_2 a1_3 a1_4 l1_5 a1_6 a1_7) := Co.base (fun k => impl_IsWider.mono _ _ _ _ _ _ _ _ _ _ _ _ _ _ _ _ k)
theorem impl_IsWider.F_eq (a0_0 : Int) (a0_1 : Int) (l0_2 : List Int) (a0_3 : Int) (a0_4 : Int) (l0_5 : List Int) (a0_6 : Int) (a0_7 : Int) (a1_0 : Int) (a1_1 : Int) (l1_2 : List Int) (a1_3 : Int) (a1_4 : Int) (l1_5 : List Int) (a1_6 : Int) (a1_7 : Int) : impl_IsWider.F a0_0 a0_1 l0_2 a0_3 a0_4 l0_5 a0_6 a0_7 a1_0 a1_1 l1_2 a1_3 a1_4 l1_5 a1_6 a1_7 = ((impl_IsReport.F a0_0 a0_1 l0_2 a0_3 a0_4 l0_5 a0_6 a0_7).bind fun t451 => (if t451 = true then ((impl_IsReport.F a1_0 a1_1 l1_2 a1_3 a1_4 l1_5 a1_6 a1_7).bind fun t452 => (if t452 = true then (if a0_1 = a1_1 then ((impl_allowsAll.F l0_2 l1_2).bind fun t453 => (if t453 = true then (if a0_3 ≤ a1_3 then (if a1_4 ≤ a0_4 then ((impl_allowsAll.F l0_5 l1_5).bind fun t454 => (if t454 = true then (some (decide (a0_6 ≤ a1_6))) else (some false))) else (some false)) else (some false)) else (some false))) else (some false)) else (some false))) else (some false))) := by
  refine Co.same (impl_IsWider.F_co a0_0 a0_1 l0_2 a0_3 a0_4 l0_5 a0_6 a0_7 a1_0 a1_1 l1_2 a1_3 a1_4 l1_5 a1_6 a1_7) (h := fun k => impl_IsWider.f k a0_0 a0_1 l0_2 a0_3 a0_4 l0_5 a0_6 a0_7 a1_0 a1_1 l1_2 a1_3 a1_4 l1_5 a1_6 a1_7) (fun _ => rfl) ?_
  unfold impl_IsWider.f
  repeat' first | (with_reducible exact Co.const _) | (with_reducible exact impl_IsReport.F_co _ _ _ _ _ _ _ _) | (with_reducible exact impl_allowsAll.F_co _ _) | (with_reducible refine Co.ite ?_ ?_) | (with_reducible refine Co.bind ?_ (fun _ => ?_))

noncomputable def laws_within.L0 (x0 : List Int) (x1 : List Int) (x5 : Int) : Option (Bool) := lim (fun k => laws_within.l0 k x0 x1 x5)
theorem laws_within.L0_co (x0 : List Int) (x1 : List Int) (x5 : Int) : Co (fun k => laws_within.l0 k x0 x1 x5) (laws_within.L0 x0 x1 x5) := Co.base (fun k => (laws_within.mono_l k) _ _ _)
noncomputable def laws_within.F (l0 : List Int) (l1 : List Int) : Option (Bool) := lim (fun k => laws_within.f k l0 l1)
theorem laws_within.F_co (l0 : List Int) (l1 : List Int) : Co (fun k => laws_within.f k l0 l1) (laws_within.F l0 l1) := Co.base (fun k => laws_within.mono _ _ k)
theorem laws_within.L0_eq (x0 : List Int) (x1 : List Int) (x5 : Int) : laws_within.L0 x0 x1 x5 = (if x5 < (x0.length : Int) then (if 0 ≤ x5 then ((laws_contains.F x1 (rd x0 x5)).bind fun t456 => (if t456 = true then (laws_within.L0 x0 x1 (wrap64 (x5 + 1))) else (some false))) else (none)) else (some true)) := by
  refine Co.step (laws_within.L0_co x0 x1 x5) (h := fun k => laws_within.l0 (k + 1) x0 x1 x5) (fun _ => rfl) ?_
  simp only [laws_within.l0]
  repeat' first | (with_reducible exact Co.const _) | (with_reducible exact laws_contains.F_co _ _) | (with_reducible exact laws_within.L0_co _ _ _) | (with_reducible refine Co.ite ?_ ?_) | (with_reducible refine Co.bind ?_ (fun _ => ?_))
theorem laws_within.F_eq (l0 : List Int) (l1 : List Int) : laws_within.F l0 l1 = (laws_within.L0 l0 l1 0) := by
  refine Co.same (laws_within.F_co l0 l1) (h := fun k => laws_within.f k l0 l1) (fun _ => rfl) ?_
  unfold laws_within.f
  repeat' first | (with_reducible exact Co.const _) | (with_reducible exact laws_within.L0_co _ _ _) | (with_reducible refine Co.ite ?_ ?_) | (with_reducible refine Co.bind ?_ (fun _ => ?_))

noncomputable def slices_Equal_int_int.L0 (x0 : List Int) (x1 : List Int) (x12 : Int) (x13 : Int) : Option (Bool) := lim (fun k => slices_Equal_int_int.l0 k x0 x1 x12 x13)
theorem slices_Equal_int_int.L0_co (x0 : List Int) (x1 : List Int) (x12 : Int) (x13 : Int) : Co (fun k => slices_Equal_int_int.l0 k x0 x1 x12 x13) (slices_Equal_int_int.L0 x0 x1 x12 x13) := Co.base (fun k => (slices_Equal_int_int.mono_l k) _ _ _ _)
noncomputable def slices_Equal_int_int.F (l0 : List Int) (l1 : List Int) : Option (Bool) := lim (fun k => slices_Equal_int_int.f k l0 l1)
theorem slices_Equal_int_int.F_co (l0 : List Int) (l1 : List Int) : Co (fun k => slices_Equal_int_int.f k l0 l1) (slices_Equal_int_int.F l0 l1) := Co.base (fun k => slices_Equal_int_int.mono _ _ k)
theorem slices_Equal_int_int.L0_eq (x0 : List Int) (x1 : List Int) (x12 : Int) (x13 : Int) : slices_Equal_int_int.L0 x0 x1 x12 x13 = (if x13 < x12 then (if 0 ≤ x13 then (if x13 < (x0.length : Int) then (if x13 < (x1.length : Int) then (if (rd x0 x13) = (rd x1 x13) then (slices_Equal_int_int.L0 x0 x1 x12 (wrap64 (x13 + 1))) else (some false)) else (none)) else (none)) else (none)) else (some true)) := by
  refine Co.step (slices_Equal_int_int.L0_co x0 x1 x12 x13) (h := fun k => slices_Equal_int_int.l0 (k + 1) x0 x1 x12 x13) (fun _ => rfl) ?_
  simp only [slices_Equal_int_int.l0]
  repeat' first | (with_reducible exact Co.const _) | (with_reducible exact slices_Equal_int_int.L0_co _ _ _ _) | (with_reducible refine Co.ite ?_ ?_) | (with_reducible refine Co.bind ?_ (fun _ => ?_))
theorem slices_Equal_int_int.F_eq (l0 : List Int) (l1 : List Int) : slices_Equal_int_int.F l0 l1 = (if (l0.length : Int) = (l1.length : Int) then (slices_Equal_int_int.L0 l0 l1 (l0.length : Int) 0) else (some false)) := by
  refine Co.same (slices_Equal_int_int.F_co l0 l1) (h := fun k => slices_Equal_int_int.f k l0 l1) (fun _ => rfl) ?_
  unfold slices_Equal_int_int.f
  repeat' first | (with_reducible exact Co.const _) | (with_reducible exact slices_Equal_int_int.L0_co _ _ _ _) | (with_reducible refine Co.ite ?_ ?_) | (with_reducible refine Co.bind ?_ (fun _ => ?_))

noncomputable def impl_EqualReports.F (a0_0 : Int) (a0_1 : Int) (l0_2 : List Int) (a0_3 : Int) (a0_4 : Int) (l0_5 : List Int) (a0_6 : Int) (a0_7 : Int) (a1_0 : Int) (a1_1 : Int) (l1_2 : List Int) (a1_3 : Int) (a1_4 : Int) (l1_5 : List Int) (a1_6 : Int) (a1_7 : Int) : Option (Bool) := lim (fun k => impl_EqualReports.f k a0_0 a0_1 l0_2 a0_3 a0_4 l0_5 a0_6 a0_7 a1_0 a1_1 l1_2 a1_3 a1_4 l1_5 a1_6 a1_7)
theorem impl_EqualReports.F_co (a0_0 : Int) (a0_1 : Int) (l0_2 : List Int) (a0_3 : Int) (a0_4 : Int) (l0_5 : List Int) (a0_6 : Int) (a0_7 : Int) (a1_0 : Int) (a1_1 : Int) (l1_2 : List Int) (a1_3 : Int) (a1_4 : Int) (l1_5 : List Int) (a1_6 : Int) (a1_7 : Int) : Co (fun k => impl_EqualReports.f k a0_0 a0_1 l0_2 a0_3 a0_4 l0_5 a0_6 a0_7 a1_0 a1_1 l1_2 a1_3 a1_4 l1_5 a1_6 a1_7) (impl_EqualReports.F a0_0 a0_1 l0_2 a0_3 a0_4 l0_5 a0_6 a0_7 a1_0 a1_1 l1_2 a1_3 a1_4 l1_5 a1_6 a1_7) := Co.base (fun k => impl_EqualReports.mono _ _ _ _ _ _ _ _ _ _ _ _ _ _ _ _ k)
theorem impl_EqualReports.F_eq (a0_0 : Int) (a0_1 : Int) (l0_2 : List Int) (a0_3 : Int) (a0_4 : Int) (l0_5 : List Int) (a0_6 : Int) (a0_7 : Int) (a1_0 : Int) (a1_1 : Int) (l1_2 : List Int) (a1_3 : Int) (a1_4 : Int) (l1_5 : List Int) (a1_6 : Int) (a1_7 : Int) : impl_EqualReports.F a0_0 a0_1 l0_2 a0_3 a0_4 l0_5 a0_6 a0_7 a1_0 a1_1 l1_2 a1_3 a1_4 l1_5 a1_6 a1_7 = (if a0_0 = a1_0 then (if a0_1 = a1_1 then (if a0_3 = a1_3 then (if a0_4 = a1_4 then (if (a0_6 == a1_6 && (a0_7 == a1_7)) = true then ((slices_Equal_int_int.F l0_2 l1_2).bind fun t461 => (if t461 = true then ((slices_Equal_int_int.F l0_5 l1_5).bind fun t462 => (some t462)) else (some false))) else (some false)) else (some false)) else (some false)) else (some false)) else (some false)) := by
  refine Co.same (impl_EqualReports.F_co a0_0 a0_1 l0_2 a0_3 a0_4 l0_5 a0_6 a0_7 a1_0 a1_1 l1_2 a1_3 a1_4 l1_5 a1_6 a1_7) (h := fun k => impl_EqualReports.f k a0_0 a0_1 l0_2 a0_3 a0_4 l0_5 a0_6 a0_7 a1_0 a1_1 l1_2 a1_3 a1_4 l1_5 a1_6 a1_7) (fun _ => rfl) ?_
  unfold impl_EqualReports.f
  repeat' first | (with_reducible exact Co.const _) | (with_reducible exact slices_Equal_int_int.F_co _ _) | (with_reducible refine Co.ite ?_ ?_) | (with_reducible refine Co.bind ?_ (fun _ => ?_))

noncomputable def impl_RouteHours.F (l0 : List (S130)) : Option (Int) := lim (fun k => impl_RouteHours.f k l0)
theorem impl_RouteHours.F_co (l0 : List (S130)) : Co (fun k => impl_RouteHours.f k l0) (impl_RouteHours.F l0) := Co.base (fun k => impl_RouteHours.mono _ k)
theorem impl_RouteHours.F_eq (l0 : List (S130)) : impl_RouteHours.F l0 = ((impl_IsRoute.F l0).bind fun t463 => (if t463 = true then (if 0 ≤ (wrap64 ((l0.length : Int) - 1)) then (if (wrap64 ((l0.length : Int) - 1)) < (l0.length : Int) then (if 0 < (l0.length : Int) then (some (wrap64 (((rd_T130 l0 (wrap64 ((l0.length : Int) - 1))).f2) - ((rd_T130 l0 0).f1)))) else (none)) else (none)) else (none)) else (some 0))) := by
  refine Co.same (impl_RouteHours.F_co l0) (h := fun k => impl_RouteHours.f k l0) (fun _ => rfl) ?_
  unfold impl_RouteHours.f
  repeat' first | (with_reducible exact Co.const _) | (with_reducible exact impl_IsRoute.F_co _) | (with_reducible refine Co.ite ?_ ?_) | (with_reducible refine Co.bind ?_ (fun _ => ?_))

noncomputable def laws_FnRoutes.J0 (x0 : List Int) (x3 : List (S130)) (x5 : List Int) (x49 : Bool) (x473000 : Int) (x473001 : Int) : Option (Bool) := lim (fun k => laws_FnRoutes.j0 k x0 x3 x5 x49 x473000 x473001)
theorem laws_FnRoutes.J0_co (x0 : List Int) (x3 : List (S130)) (x5 : List Int) (x49 : Bool) (x473000 : Int) (x473001 : Int) : Co (fun k => laws_FnRoutes.j0 k x0 x3 x5 x49 x473000 x473001) (laws_FnRoutes.J0 x0 x3 x5 x49 x473000 x473001) := Co.base (fun k => (laws_FnRoutes.mono_l k).1 _ _ _ _ _ _)
noncomputable def laws_FnRoutes.L0 (x0 : List Int) (x3 : List (S130)) (x5 : List Int) (x6 : Int) (x473000 : Int) (x473001 : Int) : Option (Bool) := lim (fun k => laws_FnRoutes.l0 k x0 x3 x5 x6 x473000 x473001)
theorem laws_FnRoutes.L0_co (x0 : List Int) (x3 : List (S130)) (x5 : List Int) (x6 : Int) (x473000 : Int) (x473001 : Int) : Co (fun k => laws_FnRoutes.l0 k x0 x3 x5 x6 x473000 x473001) (laws_FnRoutes.L0 x0 x3 x5 x6 x473000 x473001) := Co.base (fun k => (laws_FnRoutes.mono_l k).2.1 _ _ _ _ _ _)
noncomputable def laws_FnRoutes.J2 (x0 : List Int) (x3 : List (S130)) (x5 : List Int) (x6 : Int) (x70 : Bool) (x473000 : Int) (x473001 : Int) : Option (Bool) := lim (fun k => laws_FnRoutes.j2 k x0 x3 x5 x6 x70 x473000 x473001)
theorem laws_FnRoutes.J2_co (x0 : List Int) (x3 : List (S130)) (x5 : List Int) (x6 : Int) (x70 : Bool) (x473000 : Int) (x473001 : Int) : Co (fun k => laws_FnRoutes.j2 k x0 x3 x5 x6 x70 x473000 x473001) (laws_FnRoutes.J2 x0 x3 x5 x6 x70 x473000 x473001) := Co.base (fun k => (laws_FnRoutes.mono_l k).2.2 _ _ _ _ _ _ _)
noncomputable def laws_FnRoutes.F (l0 : List Int) : Option (Bool) := lim (fun k => laws_FnRoutes.f k l0)
theorem laws_FnRoutes.F_co (l0 : List Int) : Co (fun k => laws_FnRoutes.f k l0) (laws_FnRoutes.F l0) := Co.base (fun k => laws_FnRoutes.mono _ k)
theorem laws_FnRoutes.J0_eq (x0 : List Int) (x3 : List (S130)) (x5 : List Int) (x49 : Bool) (x473000 : Int) (x473001 : Int) : laws_FnRoutes.J0 x0 x3 x5 x49 x473000 x473001 = (if x49 = true then (some false) else (laws_FnRoutes.L0 x0 x3 x5 x473000 x473000 x473001)) := by
  refine Co.step (laws_FnRoutes.J0_co x0 x3 x5 x49 x473000 x473001) (h := fun k => laws_FnRoutes.j0 (k + 1) x0 x3 x5 x49 x473000 x473001) (fun _ => rfl) ?_
  simp only [laws_FnRoutes.j0]
  repeat' first | (with_reducible exact Co.const _) | (with_reducible exact laws_FnRoutes.L0_co _ _ _ _ _ _) | (with_reducible refine Co.ite ?_ ?_) | (with_reducible refine Co.bind ?_ (fun _ => ?_))
theorem laws_FnRoutes.L0_eq (x0 : List Int) (x3 : List (S130)) (x5 : List Int) (x6 : Int) (x473000 : Int) (x473001 : Int) : laws_FnRoutes.L0 x0 x3 x5 x6 x473000 x473001 = ((impl_IsRoute.F x3).bind fun t481 => (if t481 = true then ((impl_IsSpan.f x473000 x473001).bind fun t482 => (if t482 = true then (if x6 ≤ x473001 then (laws_FnRoutes.J2 x0 x3 x5 x6 (decide (x6 < (wrap64 (x473000 + 200)))) x473000 x473001) else (laws_FnRoutes.J2 x0 x3 x5 x6 false x473000 x473001)) else (laws_FnRoutes.J2 x0 x3 x5 x6 false x473000 x473001))) else (laws_FnRoutes.J2 x0 x3 x5 x6 false x473000 x473001))) := by
  refine Co.step (laws_FnRoutes.L0_co x0 x3 x5 x6 x473000 x473001) (h := fun k => laws_FnRoutes.l0 (k + 1) x0 x3 x5 x6 x473000 x473001) (fun _ => rfl) ?_
  simp only [laws_FnRoutes.l0]
  repeat' first | (with_reducible exact Co.const _) | (with_reducible exact impl_IsRoute.F_co _) | (with_reducible exact laws_FnRoutes.J2_co _ _ _ _ _ _ _) | (with_reducible refine Co.ite ?_ ?_) | (with_reducible refine Co.bind ?_ (fun _ => ?_))
theorem laws_FnRoutes.J2_eq (x0 : List Int) (x3 : List (S130)) (x5 : List Int) (x6 : Int) (x70 : Bool) (x473000 : Int) (x473001 : Int) : laws_FnRoutes.J2 x0 x3 x5 x6 x70 x473000 x473001 = (if x70 = true then ((impl_StopAt.F x3 x6).bind fun t483 => (if t483 = 0 then (laws_FnRoutes.L0 x0 x3 x5 (wrap64 (x6 + 1)) x473000 x473001) else ((laws_contains.F x5 t483).bind fun t484 => (if t484 = true then (laws_FnRoutes.L0 x0 x3 x5 (wrap64 (x6 + 1)) x473000 x473001) else (some false))))) else ((spec_DrawAlongRoute.F x0).bind fun bt485 => ((impl_AlongRoute.F bt485.1 bt485.2.1 bt485.2.2.1 bt485.2.2.2.1 bt485.2.2.2.2.1 bt485.2.2.2.2.2.1 bt485.2.2.2.2.2.2.1 bt485.2.2.2.2.2.2.2.1 bt485.2.2.2.2.2.2.2.2).bind fun bt501 => (if bt501.2.2.2.2.2.2.2.2 = true then ((impl_IsWider.F bt485.1 bt485.2.1 bt485.2.2.1 bt485.2.2.2.1 bt485.2.2.2.2.1 bt485.2.2.2.2.2.1 bt485.2.2.2.2.2.2.1 bt485.2.2.2.2.2.2.2.1 bt501.1 bt501.2.1 bt501.2.2.1 bt501.2.2.2.1 bt501.2.2.2.2.1 bt501.2.2.2.2.2.1 bt501.2.2.2.2.2.2.1 bt501.2.2.2.2.2.2.2.1).bind fun t515 => (if t515 = true then ((impl_LeftBetween.F bt485.2.2.2.2.2.2.2.2 bt485.2.2.2.2.2.2.1 bt485.2.2.2.2.2.2.2.1).bind fun t516 => ((laws_within.F bt501.2.2.2.2.2.1 t516).bind fun t519 => (if t519 = true then ((impl_RouteHours.F bt485.2.2.2.2.2.2.2.2).bind fun t520 => (some (decide (t520 ≥ 0)))) else (some false)))) else (some false))) else ((impl_EqualReports.F bt501.1 bt501.2.1 bt501.2.2.1 bt501.2.2.2.1 bt501.2.2.2.2.1 bt501.2.2.2.2.2.1 bt501.2.2.2.2.2.2.1 bt501.2.2.2.2.2.2.2.1 bt485.1 bt485.2.1 bt485.2.2.1 bt485.2.2.2.1 bt485.2.2.2.2.1 bt485.2.2.2.2.2.1 bt485.2.2.2.2.2.2.1 bt485.2.2.2.2.2.2.2.1).bind fun t521 => (if t521 = true then ((impl_RouteHours.F bt485.2.2.2.2.2.2.2.2).bind fun t522 => (some (decide (t522 ≥ 0)))) else (some false))))))) := by
  refine Co.step (laws_FnRoutes.J2_co x0 x3 x5 x6 x70 x473000 x473001) (h := fun k => laws_FnRoutes.j2 (k + 1) x0 x3 x5 x6 x70 x473000 x473001) (fun _ => rfl) ?_
  simp only [laws_FnRoutes.j2]
  repeat' first | (with_reducible exact Co.const _) | (with_reducible exact impl_AlongRoute.F_co _ _ _ _ _ _ _ _ _) | (with_reducible exact impl_EqualReports.F_co _ _ _ _ _ _ _ _ _ _ _ _ _ _ _ _) | (with_reducible exact impl_IsWider.F_co _ _ _ _ _ _ _ _ _ _ _ _ _ _ _ _) | (with_reducible exact impl_LeftBetween.F_co _ _ _) | (with_reducible exact impl_RouteHours.F_co _) | (with_reducible exact impl_StopAt.F_co _ _) | (with_reducible exact laws_FnRoutes.L0_co _ _ _ _ _ _) | (with_reducible exact laws_contains.F_co _ _) | (with_reducible exact laws_within.F_co _ _) | (with_reducible exact spec_DrawAlongRoute.F_co _) | (with_reducible refine Co.ite ?_ ?_) | (with_reducible refine Co.bind ?_ (fun _ => ?_))
theorem laws_FnRoutes.F_eq (l0 : List Int) : laws_FnRoutes.F l0 = ((laws_big.f l0).bind fun t466 => (if t466 = true then (some true) else ((spec_DrawLeftBetween.F l0).bind fun bt467 => ((impl_LeftBetween.F bt467.1 bt467.2.1 bt467.2.2).bind fun t473 => ((laws_ascends.F t473).bind fun t476 => (if t476 = true then ((impl_IsRoute.F bt467.1).bind fun t477 => (if t477 = true then ((impl_IsSpan.f bt467.2.1 bt467.2.2).bind fun t478 => (if t478 = true then (if (t473.length : Int) = 0 then (laws_FnRoutes.J0 l0 bt467.1 t473 true bt467.2.1 bt467.2.2) else (if 0 ≤ (wrap64 ((bt467.1.length : Int) - 1)) then (if (wrap64 ((bt467.1.length : Int) - 1)) < (bt467.1.length : Int) then ((laws_contains.F t473 ((rd_T130 bt467.1 (wrap64 ((bt467.1.length : Int) - 1))).f0)).bind fun t480 => (laws_FnRoutes.J0 l0 bt467.1 t473 (!t480) bt467.2.1 bt467.2.2)) else (none)) else (none))) else (laws_FnRoutes.J0 l0 bt467.1 t473 false bt467.2.1 bt467.2.2))) else (laws_FnRoutes.J0 l0 bt467.1 t473 false bt467.2.1 bt467.2.2))) else (laws_FnRoutes.J0 l0 bt467.1 t473 true bt467.2.1 bt467.2.2))))))) := by
  refine Co.same (laws_FnRoutes.F_co l0) (h := fun k => laws_FnRoutes.f k l0) (fun _ => rfl) ?_
  unfold laws_FnRoutes.f
  repeat' first | (with_reducible exact Co.const _) | (with_reducible exact impl_IsRoute.F_co _) | (with_reducible exact impl_LeftBetween.F_co _ _ _) | (with_reducible exact laws_FnRoutes.J0_co _ _ _ _ _ _) | (with_reducible exact laws_ascends.F_co _) | (with_reducible exact laws_contains.F_co _ _) | (with_reducible exact spec_DrawLeftBetween.F_co _) | (with_reducible refine Co.ite ?_ ?_) | (with_reducible refine Co.bind ?_ (fun _ => ?_))

end Go.Proofs.Ytkfalbaklodnjaa.PFnRoutes.Pure
