/-
  The printed functions that this law reaches, their rounds used up, and the equations that they meet.
-/
import Derived.Test.YtfolhmompclmbaaPFnReportsx2
import Derived.Test.YtfolhmompclmbaaPFnReportsx3
import Derived.Test.YtfolhmompclmbaaPFnReportsx4
import Derived.Test.YtfolhmompclmbaaPFnReportsx5
import Derived.Test.YtfolhmompclmbaaPFnReportsx6
import Derived.Test.YtfolhmompclmbaaPFnReportsx7
import Derived.Test.YtfolhmompclmbaaPFnReportsx8
import Derived.Test.YtfolhmompclmbaaPFnReportsx9
import Derived.Test.YtfolhmompclmbaaLim
namespace Go.Proofs.Ytfolhmompclmbaa.PFnReports.Pure
open Go.RowKit Go.Proofs.YtfolhmompclmbaaW.PrintWords Go.Proofs.YtfolhmompclmbaaW.PrintLast Go.Proofs.YtfolhmompclmbaaW.PrintMore Go.Proofs.Ytfolhmompclmbaa.PFnReports Go.Proofs.Ytfolhmompclmbaa.Lim
set_option linter.unusedVariables false
set_option maxRecDepth 100000

noncomputable def spec_l1New.L0 (x0 : List Int) (x3 : Int) (x4 : Int) : Option (List Int × Int × Int) := lim (fun k => spec_l1New.l0 k x0 x3 x4)
theorem spec_l1New.L0_co (x0 : List Int) (x3 : Int) (x4 : Int) : Co (fun k => spec_l1New.l0 k x0 x3 x4) (spec_l1New.L0 x0 x3 x4) := Co.base (fun k => (spec_l1New.mono_l k) _ _ _)
noncomputable def spec_l1New.F (l0 : List Int) : Option (List Int × Int × Int) := lim (fun k => spec_l1New.f k l0)
theorem spec_l1New.F_co (l0 : List Int) : Co (fun k => spec_l1New.f k l0) (spec_l1New.F l0) := Co.base (fun k => spec_l1New.mono _ k)
theorem spec_l1New.L0_eq (x0 : List Int) (x3 : Int) (x4 : Int) : spec_l1New.L0 x0 x3 x4 = (if x4 < (x0.length : Int) then (if x4 < 4000 then (if 0 ≤ x4 then (spec_l1New.L0 x0 (Go.bits .and .i64 (wrap64 ((wrap64 ((wrap64 (x3 * 137)) + (wrap64 (rd x0 x4)))) + 11)) 1073741823) (wrap64 (x4 + 1))) else (none)) else (some (x0, 0, x3))) else (some (x0, 0, x3))) := by
  refine Co.step (spec_l1New.L0_co x0 x3 x4) (h := fun k => spec_l1New.l0 (k + 1) x0 x3 x4) (fun _ => rfl) ?_
  simp only [spec_l1New.l0]
  repeat' first | (with_reducible exact Co.const _) | (with_reducible exact spec_l1New.L0_co _ _ _) | (with_reducible refine Co.ite ?_ ?_) | (with_reducible refine Co.bind ?_ (fun _ => ?_))
theorem spec_l1New.F_eq (l0 : List Int) : spec_l1New.F l0 = (spec_l1New.L0 l0 (wrap64 (193017 + (l0.length : Int))) 0) := by
  refine Co.same (spec_l1New.F_co l0) (h := fun k => spec_l1New.f k l0) (fun _ => rfl) ?_
  unfold spec_l1New.f
  repeat' first | (with_reducible exact Co.const _) | (with_reducible exact spec_l1New.L0_co _ _ _) | (with_reducible refine Co.ite ?_ ?_) | (with_reducible refine Co.bind ?_ (fun _ => ?_))

noncomputable def spec_l7Some.L0 (x2 : Int) (x3 : Int) (x9 : List Int) (x10 : Int) (x1000 : List Int) (x1001 : Int) (x1002 : Int) : Option (List Int × Int × Int) := lim (fun k => spec_l7Some.l0 k x2 x3 x9 x10 x1000 x1001 x1002)
theorem spec_l7Some.L0_co (x2 : Int) (x3 : Int) (x9 : List Int) (x10 : Int) (x1000 : List Int) (x1001 : Int) (x1002 : Int) : Co (fun k => spec_l7Some.l0 k x2 x3 x9 x10 x1000 x1001 x1002) (spec_l7Some.L0 x2 x3 x9 x10 x1000 x1001 x1002) := Co.base (fun k => (spec_l7Some.mono_l k) _ _ _ _ _ _ _)
noncomputable def spec_l7Some.F (s0_0 : List Int) (s0_1 : Int) (s0_2 : Int) (a1 : Int) (a2 : Int) (a3 : Int) : Option (List Int × Int × Int) := lim (fun k => spec_l7Some.f k s0_0 s0_1 s0_2 a1 a2 a3)
theorem spec_l7Some.F_co (s0_0 : List Int) (s0_1 : Int) (s0_2 : Int) (a1 : Int) (a2 : Int) (a3 : Int) : Co (fun k => spec_l7Some.f k s0_0 s0_1 s0_2 a1 a2 a3) (spec_l7Some.F s0_0 s0_1 s0_2 a1 a2 a3) := Co.base (fun k => spec_l7Some.mono _ _ _ _ _ _ k)
theorem spec_l7Some.L0_eq (x2 : Int) (x3 : Int) (x9 : List Int) (x10 : Int) (x1000 : List Int) (x1001 : Int) (x1002 : Int) : spec_l7Some.L0 x2 x3 x9 x10 x1000 x1001 x1002 = (if x10 ≤ x2 then ((spec_l1Once.f x1000 x1001 x1002 x3).bind fun bt123 => (if bt123.1 = true then (if x9.length < 17592186044416 then (spec_l7Some.L0 x2 x3 (x9 ++ [x10]) (wrap64 (x10 + 1)) x1000 bt123.2.1 bt123.2.2) else (none)) else (spec_l7Some.L0 x2 x3 x9 (wrap64 (x10 + 1)) x1000 bt123.2.1 bt123.2.2))) else (some (x9, x1001, x1002))) := by
  refine Co.step (spec_l7Some.L0_co x2 x3 x9 x10 x1000 x1001 x1002) (h := fun k => spec_l7Some.l0 (k + 1) x2 x3 x9 x10 x1000 x1001 x1002) (fun _ => rfl) ?_
  simp only [spec_l7Some.l0]
  repeat' first | (with_reducible exact Co.const _) | (with_reducible exact spec_l7Some.L0_co _ _ _ _ _ _ _) | (with_reducible refine Co.ite ?_ ?_) | (with_reducible refine Co.bind ?_ (fun _ => ?_))
theorem spec_l7Some.F_eq (s0_0 : List Int) (s0_1 : Int) (s0_2 : Int) (a1 : Int) (a2 : Int) (a3 : Int) : spec_l7Some.F s0_0 s0_1 s0_2 a1 a2 a3 = (spec_l7Some.L0 a2 a3 (([] : List Int)) a1 s0_0 s0_1 s0_2) := by
  refine Co.same (spec_l7Some.F_co s0_0 s0_1 s0_2 a1 a2 a3) (h := fun k => spec_l7Some.f k s0_0 s0_1 s0_2 a1 a2 a3) (fun _ => rfl) ?_
  unfold spec_l7Some.f
  repeat' first | (with_reducible exact Co.const _) | (with_reducible exact spec_l7Some.L0_co _ _ _ _ _ _ _) | (with_reducible refine Co.ite ?_ ?_) | (with_reducible refine Co.bind ?_ (fun _ => ?_))

noncomputable def spec_l7Draw.F (s0_0 : List Int) (s0_1 : Int) (s0_2 : Int) (a1 : Int) : Option (Int × Int × List Int × Int × Int × List Int × Int × Int × Int × Int) := lim (fun k => spec_l7Draw.f k s0_0 s0_1 s0_2 a1)
theorem spec_l7Draw.F_co (s0_0 : List Int) (s0_1 : Int) (s0_2 : Int) (a1 : Int) : Co (fun k => spec_l7Draw.f k s0_0 s0_1 s0_2 a1) (spec_l7Draw.F s0_0 s0_1 s0_2 a1) := Co.base (fun k => spec_l7Draw.mono _ _ _ _ k)
theorem spec_l7Draw.F_eq (s0_0 : List Int) (s0_1 : Int) (s0_2 : Int) (a1 : Int) : spec_l7Draw.F s0_0 s0_1 s0_2 a1 = ((spec_l1Below.f s0_0 s0_1 s0_2 12).bind fun D => ((spec_l1Below.f s0_0 D.2.1 D.2.2 8).bind fun L => ((spec_l7Some.F s0_0 L.2.1 L.2.2 0 7 3).bind fun Y => ((spec_l1Below.f s0_0 Y.2.1 Y.2.2 15).bind fun aa => ((spec_l7Some.F s0_0 aa.2.1 aa.2.2 1 6 2).bind fun ab => ((spec_l5Draw.f s0_0 ab.2.1 ab.2.2).bind fun J => (some (a1, wrap64 (1 + L.1), Y.1, wrap64 (1 + D.1), wrap64 ((wrap64 (1 + D.1)) + aa.1), ab.1, J.1, J.2.1, J.2.2.1, J.2.2.2)))))))) := by
  refine Co.same (spec_l7Draw.F_co s0_0 s0_1 s0_2 a1) (h := fun k => spec_l7Draw.f k s0_0 s0_1 s0_2 a1) (fun _ => rfl) ?_
  unfold spec_l7Draw.f
  repeat' first | (with_reducible exact Co.const _) | (with_reducible exact spec_l7Some.F_co _ _ _ _ _ _) | (with_reducible refine Co.ite ?_ ?_) | (with_reducible refine Co.bind ?_ (fun _ => ?_))

noncomputable def spec_l7Any.F (s0_0 : List Int) (s0_1 : Int) (s0_2 : Int) : Option (Int × Int × List Int × Int × Int × List Int × Int × Int × Int × Int) := lim (fun k => spec_l7Any.f k s0_0 s0_1 s0_2)
theorem spec_l7Any.F_co (s0_0 : List Int) (s0_1 : Int) (s0_2 : Int) : Co (fun k => spec_l7Any.f k s0_0 s0_1 s0_2) (spec_l7Any.F s0_0 s0_1 s0_2) := Co.base (fun k => spec_l7Any.mono _ _ _ k)
theorem spec_l7Any.F_eq (s0_0 : List Int) (s0_1 : Int) (s0_2 : Int) : spec_l7Any.F s0_0 s0_1 s0_2 = ((spec_l1Below.f s0_0 s0_1 s0_2 9).bind fun Y => ((spec_l7Draw.F s0_0 Y.2.1 Y.2.2 (wrap64 (1 + Y.1))).bind fun D => ((spec_l1Below.f s0_0 D.2.2.2.2.2.2.2.2.1 D.2.2.2.2.2.2.2.2.2 14).bind fun J => (if J.1 = 0 then ((spec_l1Int.f s0_0 J.2.1 J.2.2 (([0, 999, 1000] : List Int))).bind fun aa => (some (aa.1, D.2.1, D.2.2.1, D.2.2.2.1, D.2.2.2.2.1, D.2.2.2.2.2.1, D.2.2.2.2.2.2.1, D.2.2.2.2.2.2.2.1, aa.2.1, aa.2.2))) else (if J.1 = 1 then ((spec_l1Int.f s0_0 J.2.1 J.2.2 (([0, 8, 9] : List Int))).bind fun ab => (some (D.1, ab.1, D.2.2.1, D.2.2.2.1, D.2.2.2.2.1, D.2.2.2.2.2.1, D.2.2.2.2.2.2.1, D.2.2.2.2.2.2.2.1, ab.2.1, ab.2.2))) else (if J.1 = 2 then ((spec_l1Int.f s0_0 J.2.1 J.2.2 (([(-1), 3, 8] : List Int))).bind fun ac => (some (D.1, D.2.1, (([ac.1, 3] : List Int)), D.2.2.2.1, D.2.2.2.2.1, D.2.2.2.2.2.1, D.2.2.2.2.2.2.1, D.2.2.2.2.2.2.2.1, ac.2.1, ac.2.2))) else (if J.1 = 3 then ((spec_l4Raw.f s0_0 J.2.1 J.2.2).bind fun ae => (some (D.1, D.2.1, D.2.2.1, ae.1, D.2.2.2.2.1, D.2.2.2.2.2.1, D.2.2.2.2.2.2.1, D.2.2.2.2.2.2.2.1, ae.2.1, ae.2.2))) else (if J.1 = 4 then ((spec_l4Raw.f s0_0 J.2.1 J.2.2).bind fun af => (some (D.1, D.2.1, D.2.2.1, D.2.2.2.1, af.1, D.2.2.2.2.2.1, D.2.2.2.2.2.2.1, D.2.2.2.2.2.2.2.1, af.2.1, af.2.2))) else (if J.1 = 5 then ((spec_l1Int.f s0_0 J.2.1 J.2.2 (([0, 30, 31] : List Int))).bind fun ag => (some (D.1, D.2.1, D.2.2.1, D.2.2.2.1, D.2.2.2.2.1, (([ag.1] : List Int)), D.2.2.2.2.2.2.1, D.2.2.2.2.2.2.2.1, ag.2.1, ag.2.2))) else (if J.1 = 6 then ((spec_l5Any.f s0_0 J.2.1 J.2.2).bind fun L => (some (D.1, D.2.1, D.2.2.1, D.2.2.2.1, D.2.2.2.2.1, D.2.2.2.2.2.1, L.1, L.2.1, L.2.2.1, L.2.2.2))) else (if J.1 = 7 then (some (D.1, D.2.1, ([] : List Int), 1, 50, ([] : List Int), D.2.2.2.2.2.2.1, D.2.2.2.2.2.2.2.1, J.2.1, J.2.2)) else (some (D.1, D.2.1, D.2.2.1, D.2.2.2.1, D.2.2.2.2.1, D.2.2.2.2.2.1, D.2.2.2.2.2.2.1, D.2.2.2.2.2.2.2.1, J.2.1, J.2.2))))))))))))) := by
  refine Co.same (spec_l7Any.F_co s0_0 s0_1 s0_2) (h := fun k => spec_l7Any.f k s0_0 s0_1 s0_2) (fun _ => rfl) ?_
  unfold spec_l7Any.f
  repeat' first | (with_reducible exact Co.const _) | (with_reducible exact spec_l7Draw.F_co _ _ _ _) | (with_reducible refine Co.ite ?_ ?_) | (with_reducible refine Co.bind ?_ (fun _ => ?_))

noncomputable def spec_l7List.L0 (x3 : List (S29)) (x4 : Int) (L : List Int) (aa : Int) (ab : Int) : Option ((List (S29)) × Int × Int) := lim (fun k => spec_l7List.l0 k x3 x4 L aa ab)
theorem spec_l7List.L0_co (x3 : List (S29)) (x4 : Int) (L : List Int) (aa : Int) (ab : Int) : Co (fun k => spec_l7List.l0 k x3 x4 L aa ab) (spec_l7List.L0 x3 x4 L aa ab) := Co.base (fun k => (spec_l7List.mono_l k).1 _ _ _ _ _)
noncomputable def spec_l7List.J1 (x3 : List (S29)) (ab : Bool) (L : List Int) (Y : Int) (aa : Int) : Option ((List (S29)) × Int × Int) := lim (fun k => spec_l7List.j1 k x3 ab L Y aa)
theorem spec_l7List.J1_co (x3 : List (S29)) (ab : Bool) (L : List Int) (Y : Int) (aa : Int) : Co (fun k => spec_l7List.j1 k x3 ab L Y aa) (spec_l7List.J1 x3 ab L Y aa) := Co.base (fun k => (spec_l7List.mono_l k).2 _ _ _ _ _)
noncomputable def spec_l7List.F (s0_0 : List Int) (s0_1 : Int) (s0_2 : Int) : Option ((List (S29)) × Int × Int) := lim (fun k => spec_l7List.f k s0_0 s0_1 s0_2)
theorem spec_l7List.F_co (s0_0 : List Int) (s0_1 : Int) (s0_2 : Int) : Co (fun k => spec_l7List.f k s0_0 s0_1 s0_2) (spec_l7List.F s0_0 s0_1 s0_2) := Co.base (fun k => spec_l7List.mono _ _ _ k)
theorem spec_l7List.L0_eq (x3 : List (S29)) (x4 : Int) (L : List Int) (aa : Int) (ab : Int) : spec_l7List.L0 x3 x4 L aa ab = ((spec_l1Below.f L aa ab 6).bind fun J => (if x4 ≤ J.1 then ((spec_l7Draw.F L J.2.1 J.2.2 (wrap64 (3 * x4))).bind fun D => (if x3.length < 1466015503701 then (spec_l7List.L0 (x3 ++ [(⟨D.1, D.2.1, D.2.2.1, D.2.2.2.1, D.2.2.2.2.1, D.2.2.2.2.2.1, (⟨D.2.2.2.2.2.2.1, D.2.2.2.2.2.2.2.1⟩ : S27)⟩ : S29)]) (wrap64 (x4 + 1)) L D.2.2.2.2.2.2.2.2.1 D.2.2.2.2.2.2.2.2.2) else (none))) else (if (x3.length : Int) > 0 then ((spec_l1Once.f L J.2.1 J.2.2 8).bind fun Y => (spec_l7List.J1 x3 Y.1 L Y.2.1 Y.2.2)) else (spec_l7List.J1 x3 false L J.2.1 J.2.2)))) := by
  refine Co.step (spec_l7List.L0_co x3 x4 L aa ab) (h := fun k => spec_l7List.l0 (k + 1) x3 x4 L aa ab) (fun _ => rfl) ?_
  simp only [spec_l7List.l0]
  repeat' first | (with_reducible exact Co.const _) | (with_reducible exact spec_l7Draw.F_co _ _ _ _) | (with_reducible exact spec_l7List.J1_co _ _ _ _ _) | (with_reducible exact spec_l7List.L0_co _ _ _ _ _) | (with_reducible refine Co.ite ?_ ?_) | (with_reducible refine Co.bind ?_ (fun _ => ?_))
theorem spec_l7List.J1_eq (x3 : List (S29)) (ab : Bool) (L : List Int) (Y : Int) (aa : Int) : spec_l7List.J1 x3 ab L Y aa = (if ab = true then ((spec_l1Below.f L Y aa (x3.length : Int)).bind fun J => ((spec_l7Any.F L J.2.1 J.2.2).bind fun D => (if 0 ≤ J.1 then (if J.1 < (x3.length : Int) then (some ((x3.set (J.1 : Int).toNat (⟨D.1, D.2.1, D.2.2.1, D.2.2.2.1, D.2.2.2.2.1, D.2.2.2.2.2.1, (⟨D.2.2.2.2.2.2.1, D.2.2.2.2.2.2.2.1⟩ : S27)⟩ : S29)), D.2.2.2.2.2.2.2.2.1, D.2.2.2.2.2.2.2.2.2)) else (none)) else (none)))) else (some (x3, Y, aa))) := by
  refine Co.step (spec_l7List.J1_co x3 ab L Y aa) (h := fun k => spec_l7List.j1 (k + 1) x3 ab L Y aa) (fun _ => rfl) ?_
  simp only [spec_l7List.j1]
  repeat' first | (with_reducible exact Co.const _) | (with_reducible exact spec_l7Any.F_co _ _ _) | (with_reducible refine Co.ite ?_ ?_) | (with_reducible refine Co.bind ?_ (fun _ => ?_))
theorem spec_l7List.F_eq (s0_0 : List Int) (s0_1 : Int) (s0_2 : Int) : spec_l7List.F s0_0 s0_1 s0_2 = (spec_l7List.L0 (([] : List (S29))) 1 s0_0 s0_1 s0_2) := by
  refine Co.same (spec_l7List.F_co s0_0 s0_1 s0_2) (h := fun k => spec_l7List.f k s0_0 s0_1 s0_2) (fun _ => rfl) ?_
  unfold spec_l7List.f
  repeat' first | (with_reducible exact Co.const _) | (with_reducible exact spec_l7List.L0_co _ _ _ _ _) | (with_reducible refine Co.ite ?_ ?_) | (with_reducible refine Co.bind ?_ (fun _ => ?_))

noncomputable def spec_DrawPutReport.F (l0 : List Int) : Option ((List (S29)) × Int × Int × List Int × Int × Int × List Int × Int × Int) := lim (fun k => spec_DrawPutReport.f k l0)
theorem spec_DrawPutReport.F_co (l0 : List Int) : Co (fun k => spec_DrawPutReport.f k l0) (spec_DrawPutReport.F l0) := Co.base (fun k => spec_DrawPutReport.mono _ k)
theorem spec_DrawPutReport.F_eq (l0 : List Int) : spec_DrawPutReport.F l0 = ((spec_l1New.F l0).bind fun bt295 => ((spec_l7List.F bt295.1 bt295.2.1 bt295.2.2).bind fun bt299 => ((spec_l7Any.F bt295.1 bt299.2.1 bt299.2.2).bind fun bt304 => (some (bt299.1, bt304.1, bt304.2.1, bt304.2.2.1, bt304.2.2.2.1, bt304.2.2.2.2.1, bt304.2.2.2.2.2.1, bt304.2.2.2.2.2.2.1, bt304.2.2.2.2.2.2.2.1))))) := by
  refine Co.same (spec_DrawPutReport.F_co l0) (h := fun k => spec_DrawPutReport.f k l0) (fun _ => rfl) ?_
  unfold spec_DrawPutReport.f
  repeat' first | (with_reducible exact Co.const _) | (with_reducible exact spec_l1New.F_co _) | (with_reducible exact spec_l7Any.F_co _ _ _) | (with_reducible exact spec_l7List.F_co _ _ _) | (with_reducible refine Co.ite ?_ ?_) | (with_reducible refine Co.bind ?_ (fun _ => ?_))

noncomputable def impl_isAscending.L0 (x0 : List Int) (x1 : Int) (x2 : Int) (x9 : List Int) (J : Int) (D : Int) : Option (Bool) := lim (fun k => impl_isAscending.l0 k x0 x1 x2 x9 J D)
theorem impl_isAscending.L0_co (x0 : List Int) (x1 : Int) (x2 : Int) (x9 : List Int) (J : Int) (D : Int) : Co (fun k => impl_isAscending.l0 k x0 x1 x2 x9 J D) (impl_isAscending.L0 x0 x1 x2 x9 J D) := Co.base (fun k => (impl_isAscending.mono_l k) _ _ _ _ _ _)
noncomputable def impl_isAscending.F (l0 : List Int) (a1 : Int) (a2 : Int) : Option (Bool) := lim (fun k => impl_isAscending.f k l0 a1 a2)
theorem impl_isAscending.F_co (l0 : List Int) (a1 : Int) (a2 : Int) : Co (fun k => impl_isAscending.f k l0 a1 a2) (impl_isAscending.F l0 a1 a2) := Co.base (fun k => impl_isAscending.mono _ _ _ k)
theorem impl_isAscending.L0_eq (x0 : List Int) (x1 : Int) (x2 : Int) (x9 : List Int) (J : Int) (D : Int) : impl_isAscending.L0 x0 x1 x2 x9 J D = (if D < J then (if 0 ≤ D then (if D < (x9.length : Int) then ((impl_InRange.f (rd x9 D) x1 x2).bind fun L => (if L = true then (if D > 0 then (if 0 ≤ (wrap64 (D - 1)) then (if (wrap64 (D - 1)) < (x0.length : Int) then (if (rd x9 D) ≤ (rd x0 (wrap64 (D - 1))) then (some false) else (impl_isAscending.L0 x0 x1 x2 x9 J (wrap64 (D + 1)))) else (none)) else (none)) else (impl_isAscending.L0 x0 x1 x2 x9 J (wrap64 (D + 1)))) else (some false))) else (none)) else (none)) else (some true)) := by
  refine Co.step (impl_isAscending.L0_co x0 x1 x2 x9 J D) (h := fun k => impl_isAscending.l0 (k + 1) x0 x1 x2 x9 J D) (fun _ => rfl) ?_
  simp only [impl_isAscending.l0]
  repeat' first | (with_reducible exact Co.const _) | (with_reducible exact impl_isAscending.L0_co _ _ _ _ _ _) | (with_reducible refine Co.ite ?_ ?_) | (with_reducible refine Co.bind ?_ (fun _ => ?_))
theorem impl_isAscending.F_eq (l0 : List Int) (a1 : Int) (a2 : Int) : impl_isAscending.F l0 a1 a2 = (impl_isAscending.L0 l0 a1 a2 l0 (l0.length : Int) 0) := by
  refine Co.same (impl_isAscending.F_co l0 a1 a2) (h := fun k => impl_isAscending.f k l0 a1 a2) (fun _ => rfl) ?_
  unfold impl_isAscending.f
  repeat' first | (with_reducible exact Co.const _) | (with_reducible exact impl_isAscending.L0_co _ _ _ _ _ _) | (with_reducible refine Co.ite ?_ ?_) | (with_reducible refine Co.bind ?_ (fun _ => ?_))

noncomputable def impl_IsReport.F (a0_0 : Int) (a0_1 : Int) (l0_2 : List Int) (a0_3 : Int) (a0_4 : Int) (l0_5 : List Int) (a0_6 : Int) (a0_7 : Int) : Option (Bool) := lim (fun k => impl_IsReport.f k a0_0 a0_1 l0_2 a0_3 a0_4 l0_5 a0_6 a0_7)
theorem impl_IsReport.F_co (a0_0 : Int) (a0_1 : Int) (l0_2 : List Int) (a0_3 : Int) (a0_4 : Int) (l0_5 : List Int) (a0_6 : Int) (a0_7 : Int) : Co (fun k => impl_IsReport.f k a0_0 a0_1 l0_2 a0_3 a0_4 l0_5 a0_6 a0_7) (impl_IsReport.F a0_0 a0_1 l0_2 a0_3 a0_4 l0_5 a0_6 a0_7) := Co.base (fun k => impl_IsReport.mono _ _ _ _ _ _ _ _ k)
theorem impl_IsReport.F_eq (a0_0 : Int) (a0_1 : Int) (l0_2 : List Int) (a0_3 : Int) (a0_4 : Int) (l0_5 : List Int) (a0_6 : Int) (a0_7 : Int) : impl_IsReport.F a0_0 a0_1 l0_2 a0_3 a0_4 l0_5 a0_6 a0_7 = ((impl_InRange.f a0_0 1 999).bind fun D => (if D = true then ((impl_InRange.f a0_1 1 8).bind fun J => (if J = true then ((impl_isAscending.F l0_2 0 7).bind fun L => (if L = true then (if 1 ≤ a0_3 then (if a0_3 ≤ a0_4 then (if a0_4 ≤ 50 then ((impl_isAscending.F l0_5 1 30).bind fun Y => (if Y = true then (if (l0_5.length : Int) ≤ 10 then ((impl_IsSpan.f a0_6 a0_7).bind fun aa => (some aa)) else (some false)) else (some false))) else (some false)) else (some false)) else (some false)) else (some false))) else (some false))) else (some false))) := by
  refine Co.same (impl_IsReport.F_co a0_0 a0_1 l0_2 a0_3 a0_4 l0_5 a0_6 a0_7) (h := fun k => impl_IsReport.f k a0_0 a0_1 l0_2 a0_3 a0_4 l0_5 a0_6 a0_7) (fun _ => rfl) ?_
  unfold impl_IsReport.f
  repeat' first | (with_reducible exact Co.const _) | (with_reducible exact impl_isAscending.F_co _ _ _) | (with_reducible refine Co.ite ?_ ?_) | (with_reducible refine Co.bind ?_ (fun _ => ?_))

noncomputable def impl_AreReports.L0 (x0 : List (S29)) (x8 : List (S29)) (x9 : Int) (D : Int) : Option (Bool) := lim (fun k => impl_AreReports.l0 k x0 x8 x9 D)
theorem impl_AreReports.L0_co (x0 : List (S29)) (x8 : List (S29)) (x9 : Int) (D : Int) : Co (fun k => impl_AreReports.l0 k x0 x8 x9 D) (impl_AreReports.L0 x0 x8 x9 D) := Co.base (fun k => (impl_AreReports.mono_l k) _ _ _ _)
noncomputable def impl_AreReports.F (l0 : List (S29)) : Option (Bool) := lim (fun k => impl_AreReports.f k l0)
theorem impl_AreReports.F_co (l0 : List (S29)) : Co (fun k => impl_AreReports.f k l0) (impl_AreReports.F l0) := Co.base (fun k => impl_AreReports.mono _ k)
theorem impl_AreReports.L0_eq (x0 : List (S29)) (x8 : List (S29)) (x9 : Int) (D : Int) : impl_AreReports.L0 x0 x8 x9 D = (if D < x9 then (if 0 ≤ D then (if D < (x8.length : Int) then ((impl_IsReport.F ((rd_T29 x8 D).f0) ((rd_T29 x8 D).f1) ((rd_T29 x8 D).f2) ((rd_T29 x8 D).f3) ((rd_T29 x8 D).f4) ((rd_T29 x8 D).f5) ((rd_T29 x8 D).f6.f0) ((rd_T29 x8 D).f6.f1)).bind fun J => (if J = true then (if D > 0 then (if 0 ≤ (wrap64 (D - 1)) then (if (wrap64 (D - 1)) < (x0.length : Int) then (if ((rd_T29 x8 D).f0) ≤ ((rd_T29 x0 (wrap64 (D - 1))).f0) then (some false) else (impl_AreReports.L0 x0 x8 x9 (wrap64 (D + 1)))) else (none)) else (none)) else (impl_AreReports.L0 x0 x8 x9 (wrap64 (D + 1)))) else (some false))) else (none)) else (none)) else (some true)) := by
  refine Co.step (impl_AreReports.L0_co x0 x8 x9 D) (h := fun k => impl_AreReports.l0 (k + 1) x0 x8 x9 D) (fun _ => rfl) ?_
  simp only [impl_AreReports.l0]
  repeat' first | (with_reducible exact Co.const _) | (with_reducible exact impl_AreReports.L0_co _ _ _ _) | (with_reducible exact impl_IsReport.F_co _ _ _ _ _ _ _ _) | (with_reducible refine Co.ite ?_ ?_) | (with_reducible refine Co.bind ?_ (fun _ => ?_))
theorem impl_AreReports.F_eq (l0 : List (S29)) : impl_AreReports.F l0 = (if (l0.length : Int) > 20 then (some false) else (impl_AreReports.L0 l0 l0 (l0.length : Int) 0)) := by
  refine Co.same (impl_AreReports.F_co l0) (h := fun k => impl_AreReports.f k l0) (fun _ => rfl) ?_
  unfold impl_AreReports.f
  repeat' first | (with_reducible exact Co.const _) | (with_reducible exact impl_AreReports.L0_co _ _ _ _) | (with_reducible refine Co.ite ?_ ?_) | (with_reducible refine Co.bind ?_ (fun _ => ?_))

noncomputable def impl_cloneReports.L0 (x3 : List (S29)) (x7 : List (S29)) (x8 : Int) (x9 : Int) : Option ((List (S29))) := lim (fun k => impl_cloneReports.l0 k x3 x7 x8 x9)
theorem impl_cloneReports.L0_co (x3 : List (S29)) (x7 : List (S29)) (x8 : Int) (x9 : Int) : Co (fun k => impl_cloneReports.l0 k x3 x7 x8 x9) (impl_cloneReports.L0 x3 x7 x8 x9) := Co.base (fun k => (impl_cloneReports.mono_l k) _ _ _ _)
noncomputable def impl_cloneReports.F (l0 : List (S29)) : Option ((List (S29))) := lim (fun k => impl_cloneReports.f k l0)
theorem impl_cloneReports.F_co (l0 : List (S29)) : Co (fun k => impl_cloneReports.f k l0) (impl_cloneReports.F l0) := Co.base (fun k => impl_cloneReports.mono _ k)
theorem impl_cloneReports.L0_eq (x3 : List (S29)) (x7 : List (S29)) (x8 : Int) (x9 : Int) : impl_cloneReports.L0 x3 x7 x8 x9 = (if x9 < x8 then (if 0 ≤ x9 then (if x9 < (x7.length : Int) then ((impl_cloneReport.f ((rd_T29 x7 x9).f0) ((rd_T29 x7 x9).f1) ((rd_T29 x7 x9).f2) ((rd_T29 x7 x9).f3) ((rd_T29 x7 x9).f4) ((rd_T29 x7 x9).f5) ((rd_T29 x7 x9).f6.f0) ((rd_T29 x7 x9).f6.f1)).bind fun D => (if x3.length < 1466015503701 then (impl_cloneReports.L0 (x3 ++ [(⟨D.1, D.2.1, D.2.2.1, D.2.2.2.1, D.2.2.2.2.1, D.2.2.2.2.2.1, (⟨D.2.2.2.2.2.2.1, D.2.2.2.2.2.2.2⟩ : S27)⟩ : S29)]) x7 x8 (wrap64 (x9 + 1))) else (none))) else (none)) else (none)) else (some x3)) := by
  refine Co.step (impl_cloneReports.L0_co x3 x7 x8 x9) (h := fun k => impl_cloneReports.l0 (k + 1) x3 x7 x8 x9) (fun _ => rfl) ?_
  simp only [impl_cloneReports.l0]
  repeat' first | (with_reducible exact Co.const _) | (with_reducible exact impl_cloneReports.L0_co _ _ _ _) | (with_reducible refine Co.ite ?_ ?_) | (with_reducible refine Co.bind ?_ (fun _ => ?_))
theorem impl_cloneReports.F_eq (l0 : List (S29)) : impl_cloneReports.F l0 = (impl_cloneReports.L0 (([] : List (S29))) l0 (l0.length : Int) 0) := by
  refine Co.same (impl_cloneReports.F_co l0) (h := fun k => impl_cloneReports.f k l0) (fun _ => rfl) ?_
  unfold impl_cloneReports.f
  repeat' first | (with_reducible exact Co.const _) | (with_reducible exact impl_cloneReports.L0_co _ _ _ _) | (with_reducible refine Co.ite ?_ ?_) | (with_reducible refine Co.bind ?_ (fun _ => ?_))

noncomputable def impl_PutReport.J1 (x0 : List (S29)) (x6 : List (S29)) : Option ((List (S29)) × Bool) := lim (fun k => impl_PutReport.j1 k x0 x6)
theorem impl_PutReport.J1_co (x0 : List (S29)) (x6 : List (S29)) : Co (fun k => impl_PutReport.j1 k x0 x6) (impl_PutReport.J1 x0 x6) := Co.base (fun k => (impl_PutReport.mono_l k).1 _ _)
noncomputable def impl_PutReport.L0 (x0 : List (S29)) (x6 : List (S29)) (x8 : Int) (L : Int) (Y : Int) (aa : List Int) (ab : Int) (ac : Int) (ad : List Int) (ae : Int) (af : Int) : Option ((List (S29)) × Bool) := lim (fun k => impl_PutReport.l0 k x0 x6 x8 L Y aa ab ac ad ae af)
theorem impl_PutReport.L0_co (x0 : List (S29)) (x6 : List (S29)) (x8 : Int) (L : Int) (Y : Int) (aa : List Int) (ab : Int) (ac : Int) (ad : List Int) (ae : Int) (af : Int) : Co (fun k => impl_PutReport.l0 k x0 x6 x8 L Y aa ab ac ad ae af) (impl_PutReport.L0 x0 x6 x8 L Y aa ab ac ad ae af) := Co.base (fun k => (impl_PutReport.mono_l k).2 _ _ _ _ _ _ _ _ _ _ _)
noncomputable def impl_PutReport.F (l0 : List (S29)) (a1_0 : Int) (a1_1 : Int) (l1_2 : List Int) (a1_3 : Int) (a1_4 : Int) (l1_5 : List Int) (a1_6 : Int) (a1_7 : Int) : Option ((List (S29)) × Bool) := lim (fun k => impl_PutReport.f k l0 a1_0 a1_1 l1_2 a1_3 a1_4 l1_5 a1_6 a1_7)
theorem impl_PutReport.F_co (l0 : List (S29)) (a1_0 : Int) (a1_1 : Int) (l1_2 : List Int) (a1_3 : Int) (a1_4 : Int) (l1_5 : List Int) (a1_6 : Int) (a1_7 : Int) : Co (fun k => impl_PutReport.f k l0 a1_0 a1_1 l1_2 a1_3 a1_4 l1_5 a1_6 a1_7) (impl_PutReport.F l0 a1_0 a1_1 l1_2 a1_3 a1_4 l1_5 a1_6 a1_7) := Co.base (fun k => impl_PutReport.mono _ _ _ _ _ _ _ _ _ k)
theorem impl_PutReport.J1_eq (x0 : List (S29)) (x6 : List (S29)) : impl_PutReport.J1 x0 x6 = ((impl_AreReports.F x6).bind fun t417 => (if t417 = true then (some (x6, true)) else ((impl_cloneReports.F x0).bind fun t418 => (some (t418, false))))) := by
  refine Co.step (impl_PutReport.J1_co x0 x6) (h := fun k => impl_PutReport.j1 (k + 1) x0 x6) (fun _ => rfl) ?_
  simp only [impl_PutReport.j1]
  repeat' first | (with_reducible exact Co.const _) | (with_reducible exact impl_AreReports.F_co _) | (with_reducible exact impl_cloneReports.F_co _) | (with_reducible refine Co.ite ?_ ?_) | (with_reducible refine Co.bind ?_ (fun _ => ?_))
theorem impl_PutReport.L0_eq (x0 : List (S29)) (x6 : List (S29)) (x8 : Int) (L : Int) (Y : Int) (aa : List Int) (ab : Int) (ac : Int) (ad : List Int) (ae : Int) (af : Int) : impl_PutReport.L0 x0 x6 x8 L Y aa ab ac ad ae af = (if x8 < (x0.length : Int) then (if 0 ≤ x8 then (if ((rd_T29 x0 x8).f0) < L then (impl_PutReport.L0 x0 x6 (wrap64 (x8 + 1)) L Y aa ab ac ad ae af) else ((impl_cloneReport.f L Y aa ab ac ad ae af).bind fun D => (if 0 ≤ x8 ∧ x8 ≤ (x6.length : Int) ∧ x6.length + 1 ≤ 4000000 then (impl_PutReport.J1 x0 (x6.take x8.toNat ++ [(⟨D.1, D.2.1, D.2.2.1, D.2.2.2.1, D.2.2.2.2.1, D.2.2.2.2.2.1, (⟨D.2.2.2.2.2.2.1, D.2.2.2.2.2.2.2⟩ : S27)⟩ : S29)] ++ x6.drop x8.toNat)) else (none)))) else (none)) else ((impl_cloneReport.f L Y aa ab ac ad ae af).bind fun J => (if 0 ≤ x8 ∧ x8 ≤ (x6.length : Int) ∧ x6.length + 1 ≤ 4000000 then (impl_PutReport.J1 x0 (x6.take x8.toNat ++ [(⟨J.1, J.2.1, J.2.2.1, J.2.2.2.1, J.2.2.2.2.1, J.2.2.2.2.2.1, (⟨J.2.2.2.2.2.2.1, J.2.2.2.2.2.2.2⟩ : S27)⟩ : S29)] ++ x6.drop x8.toNat)) else (none)))) := by
  refine Co.step (impl_PutReport.L0_co x0 x6 x8 L Y aa ab ac ad ae af) (h := fun k => impl_PutReport.l0 (k + 1) x0 x6 x8 L Y aa ab ac ad ae af) (fun _ => rfl) ?_
  simp only [impl_PutReport.l0]
  repeat' first | (with_reducible exact Co.const _) | (with_reducible exact impl_PutReport.J1_co _ _) | (with_reducible exact impl_PutReport.L0_co _ _ _ _ _ _ _ _ _ _ _) | (with_reducible refine Co.ite ?_ ?_) | (with_reducible refine Co.bind ?_ (fun _ => ?_))
theorem impl_PutReport.F_eq (l0 : List (S29)) (a1_0 : Int) (a1_1 : Int) (l1_2 : List Int) (a1_3 : Int) (a1_4 : Int) (l1_5 : List Int) (a1_6 : Int) (a1_7 : Int) : impl_PutReport.F l0 a1_0 a1_1 l1_2 a1_3 a1_4 l1_5 a1_6 a1_7 = ((impl_cloneReports.F l0).bind fun L => ((impl_FindReport.f l0 a1_0).bind fun J => (if J ≥ 0 then ((impl_cloneReport.f a1_0 a1_1 l1_2 a1_3 a1_4 l1_5 a1_6 a1_7).bind fun D => (if 0 ≤ J then (if J < (L.length : Int) then (impl_PutReport.J1 l0 (L.set (J : Int).toNat (⟨D.1, D.2.1, D.2.2.1, D.2.2.2.1, D.2.2.2.2.1, D.2.2.2.2.2.1, (⟨D.2.2.2.2.2.2.1, D.2.2.2.2.2.2.2⟩ : S27)⟩ : S29))) else (none)) else (none))) else (impl_PutReport.L0 l0 L 0 a1_0 a1_1 l1_2 a1_3 a1_4 l1_5 a1_6 a1_7)))) := by
  refine Co.same (impl_PutReport.F_co l0 a1_0 a1_1 l1_2 a1_3 a1_4 l1_5 a1_6 a1_7) (h := fun k => impl_PutReport.f k l0 a1_0 a1_1 l1_2 a1_3 a1_4 l1_5 a1_6 a1_7) (fun _ => rfl) ?_
  unfold impl_PutReport.f
  repeat' first | (with_reducible exact Co.const _) | (with_reducible exact impl_PutReport.J1_co _ _) | (with_reducible exact impl_PutReport.L0_co _ _ _ _ _ _ _ _ _ _ _) | (with_reducible exact impl_cloneReports.F_co _) | (with_reducible refine Co.ite ?_ ?_) | (with_reducible refine Co.bind ?_ (fun _ => ?_))

noncomputable def slices_Equal_int_int.L0 (x0 : List Int) (x1 : List Int) (x12 : Int) (x13 : Int) : Option (Bool) := lim (fun k => slices_Equal_int_int.l0 k x0 x1 x12 x13)
theorem slices_Equal_int_int.L0_co (x0 : List Int) (x1 : List Int) (x12 : Int) (x13 : Int) : Co (fun k => slices_Equal_int_int.l0 k x0 x1 x12 x13) (slices_Equal_int_int.L0 x0 x1 x12 x13) := Co.base (fun k => (slices_Equal_int_int.mono_l k) _ _ _ _)
noncomputable def slices_Equal_int_int.F (l0 : List Int) (l1 : List Int) : Option (Bool) := lim (fun k => slices_Equal_int_int.f k l0 l1)
theorem slices_Equal_int_int.F_co (l0 : List Int) (l1 : List Int) : Co (fun k => slices_Equal_int_int.f k l0 l1) (slices_Equal_int_int.F l0 l1) := Co.base (fun k => slices_Equal_int_int.mono _ _ k)
theorem slices_Equal_int_int.L0_eq (x0 : List Int) (x1 : List Int) (x12 : Int) (x13 : Int) : slices_Equal_int_int.L0 x0 x1 x12 x13 = (if x13 < x12 then (if 0 ≤ x13 then (if x13 < (x0.length : Int) then (if x13 < (x1.length : Int) then (if (rd x0 x13) = (rd x1 x13) then (slices_Equal_int_int.L0 x0 x1 x12 (wrap64 (x13 + 1))) else (some false)) else (none)) else (none)) else (none)) else (some true)) := by
  refine Co.step (slices_Equal_int_int.L0_co x0 x1 x12 x13) (h := fun k => slices_Equal_int_int.l0 (k + 1) x0 x1 x12 x13) (fun _ => rfl) ?_
  simp only [slices_Equal_int_int.l0]
  repeat' first | (with_reducible exact Co.const _) | (with_reducible exact slices_Equal_int_int.L0_co _ _ _ _) | (with_reducible refine Co.ite ?_ ?_) | (with_reducible refine Co.bind ?_ (fun _ => ?_))
theorem slices_Equal_int_int.F_eq (l0 : List Int) (l1 : List Int) : slices_Equal_int_int.F l0 l1 = (if (l0.length : Int) = (l1.length : Int) then (slices_Equal_int_int.L0 l0 l1 (l0.length : Int) 0) else (some false)) := by
  refine Co.same (slices_Equal_int_int.F_co l0 l1) (h := fun k => slices_Equal_int_int.f k l0 l1) (fun _ => rfl) ?_
  unfold slices_Equal_int_int.f
  repeat' first | (with_reducible exact Co.const _) | (with_reducible exact slices_Equal_int_int.L0_co _ _ _ _) | (with_reducible refine Co.ite ?_ ?_) | (with_reducible refine Co.bind ?_ (fun _ => ?_))

noncomputable def impl_EqualReports.F (a0_0 : Int) (a0_1 : Int) (l0_2 : List Int) (a0_3 : Int) (a0_4 : Int) (l0_5 : List Int) (a0_6 : Int) (a0_7 : Int) (a1_0 : Int) (a1_1 : Int) (l1_2 : List Int) (a1_3 : Int) (a1_4 : Int) (l1_5 : List Int) (a1_6 : Int) (a1_7 : Int) : Option (Bool) := lim (fun k => impl_EqualReports.f k a0_0 a0_1 l0_2 a0_3 a0_4 l0_5 a0_6 a0_7 a1_0 a1_1 l1_2 a1_3 a1_4 l1_5 a1_6 a1_7)
theorem impl_EqualReports.F_co (a0_0 : Int) (a0_1 : Int) (l0_2 : List Int) (a0_3 : Int) (a0_4 : Int) (l0_5 : List Int) (a0_6 : Int) (a0_7 : Int) (a1_0 : Int) (a1_1 : Int) (l1_2 : List Int) (a1_3 : Int) (a1_4 : Int) (l1_5 : List Int) (a1_6 : Int) (a1_7 : Int) : Co (fun k => impl_EqualReports.f k a0_0 a0_1 l0_2 a0_3 a0_4 l0_5 a0_6 a0_7 a1_0 a1_1 l1_2 a1_3 a1_4 l1_5 a1_6 a1_7) (impl_EqualReports.F a0_0 a0_1 l0_2 a0_3 a0_4 l0_5 a0_6 a0_7 a1_0 a1_1 l1_2 a1_3 a1_4 l1_5 a1_6 a1_7) := Co.base (fun k => impl_EqualReports.mono _ _ _ _ _ _ _ _ _ _ _ _ _ _ _ _ k)
theorem impl_EqualReports.F_eq (a0_0 : Int) (a0_1 : Int) (l0_2 : List Int) (a0_3 : Int) (a0_4 : Int) (l0_5 : List Int) (a0_6 : Int) (a0_7 : Int) (a1_0 : Int) (a1_1 : Int) (l1_2 : List Int) (a1_3 : Int) (a1_4 : Int) (l1_5 : List Int) (a1_6 : Int) (a1_7 : Int) : impl_EqualReports.F a0_0 a0_1 l0_2 a0_3 a0_4 l0_5 a0_6 a0_7 a1_0 a1_1 l1_2 a1_3 a1_4 l1_5 a1_6 a1_7 = (if a0_0 = a1_0 then (if a0_1 = a1_1 then (if a0_3 = a1_3 then (if a0_4 = a1_4 then (if (a0_6 == a1_6 && (a0_7 == a1_7)) = true then ((slices_Equal_int_int.F l0_2 l1_2).bind fun D => (if D = true then ((slices_Equal_int_int.F l0_5 l1_5).bind fun J => (some J)) else (some false))) else (some false)) else (some false)) else (some false)) else (some false)) else (some false)) := by
  refine Co.same (impl_EqualReports.F_co a0_0 a0_1 l0_2 a0_3 a0_4 l0_5 a0_6 a0_7 a1_0 a1_1 l1_2 a1_3 a1_4 l1_5 a1_6 a1_7) (h := fun k => impl_EqualReports.f k a0_0 a0_1 l0_2 a0_3 a0_4 l0_5 a0_6 a0_7 a1_0 a1_1 l1_2 a1_3 a1_4 l1_5 a1_6 a1_7) (fun _ => rfl) ?_
  unfold impl_EqualReports.f
  repeat' first | (with_reducible exact Co.const _) | (with_reducible exact slices_Equal_int_int.F_co _ _) | (with_reducible refine Co.ite ?_ ?_) | (with_reducible refine Co.bind ?_ (fun _ => ?_))

noncomputable def spec_DrawEqualReports.F (l0 : List Int) : Option (Int × Int × List Int × Int × Int × List Int × Int × Int × Int × Int × List Int × Int × Int × List Int × Int × Int) := lim (fun k => spec_DrawEqualReports.f k l0)
theorem spec_DrawEqualReports.F_co (l0 : List Int) : Co (fun k => spec_DrawEqualReports.f k l0) (spec_DrawEqualReports.F l0) := Co.base (fun k => spec_DrawEqualReports.mono _ k)
theorem spec_DrawEqualReports.F_eq (l0 : List Int) : spec_DrawEqualReports.F l0 = ((spec_l1New.F l0).bind fun Y => ((spec_l7Any.F Y.1 Y.2.1 Y.2.2).bind fun D => ((spec_l1Once.f Y.1 D.2.2.2.2.2.2.2.2.1 D.2.2.2.2.2.2.2.2.2 2).bind fun aa => (if aa.1 = true then ((spec_l7Report.f D.1 D.2.1 D.2.2.1 D.2.2.2.1 D.2.2.2.2.1 D.2.2.2.2.2.1 D.2.2.2.2.2.2.1 D.2.2.2.2.2.2.2.1).bind fun J => (some (D.1, D.2.1, D.2.2.1, D.2.2.2.1, D.2.2.2.2.1, D.2.2.2.2.2.1, D.2.2.2.2.2.2.1, D.2.2.2.2.2.2.2.1, J.1, J.2.1, J.2.2.1, J.2.2.2.1, J.2.2.2.2.1, J.2.2.2.2.2.1, J.2.2.2.2.2.2.1, J.2.2.2.2.2.2.2))) else ((spec_l7Any.F Y.1 aa.2.1 aa.2.2).bind fun L => (some (D.1, D.2.1, D.2.2.1, D.2.2.2.1, D.2.2.2.2.1, D.2.2.2.2.2.1, D.2.2.2.2.2.2.1, D.2.2.2.2.2.2.2.1, L.1, L.2.1, L.2.2.1, L.2.2.2.1, L.2.2.2.2.1, L.2.2.2.2.2.1, L.2.2.2.2.2.2.1, L.2.2.2.2.2.2.2.1))))))) := by
  refine Co.same (spec_DrawEqualReports.F_co l0) (h := fun k => spec_DrawEqualReports.f k l0) (fun _ => rfl) ?_
  unfold spec_DrawEqualReports.f
  repeat' first | (with_reducible exact Co.const _) | (with_reducible exact spec_l1New.F_co _) | (with_reducible exact spec_l7Any.F_co _ _ _) | (with_reducible refine Co.ite ?_ ?_) | (with_reducible refine Co.bind ?_ (fun _ => ?_))

noncomputable def spec_DrawIsReport.F (l0 : List Int) : Option (Int × Int × List Int × Int × Int × List Int × Int × Int) := lim (fun k => spec_DrawIsReport.f k l0)
theorem spec_DrawIsReport.F_co (l0 : List Int) : Co (fun k => spec_DrawIsReport.f k l0) (spec_DrawIsReport.F l0) := Co.base (fun k => spec_DrawIsReport.mono _ k)
theorem spec_DrawIsReport.F_eq (l0 : List Int) : spec_DrawIsReport.F l0 = ((spec_l1New.F l0).bind fun bt492 => ((spec_l7Any.F bt492.1 bt492.2.1 bt492.2.2).bind fun bt496 => (some (bt496.1, bt496.2.1, bt496.2.2.1, bt496.2.2.2.1, bt496.2.2.2.2.1, bt496.2.2.2.2.2.1, bt496.2.2.2.2.2.2.1, bt496.2.2.2.2.2.2.2.1)))) := by
  refine Co.same (spec_DrawIsReport.F_co l0) (h := fun k => spec_DrawIsReport.f k l0) (fun _ => rfl) ?_
  unfold spec_DrawIsReport.f
  repeat' first | (with_reducible exact Co.const _) | (with_reducible exact spec_l1New.F_co _) | (with_reducible exact spec_l7Any.F_co _ _ _) | (with_reducible refine Co.ite ?_ ?_) | (with_reducible refine Co.bind ?_ (fun _ => ?_))

noncomputable def spec_DrawIsVague.F (l0 : List Int) : Option (Int × Int × List Int × Int × Int × List Int × Int × Int) := lim (fun k => spec_DrawIsVague.f k l0)
theorem spec_DrawIsVague.F_co (l0 : List Int) : Co (fun k => spec_DrawIsVague.f k l0) (spec_DrawIsVague.F l0) := Co.base (fun k => spec_DrawIsVague.mono _ k)
theorem spec_DrawIsVague.F_eq (l0 : List Int) : spec_DrawIsVague.F l0 = ((spec_DrawIsReport.F l0).bind fun bt511 => (some (bt511.1, bt511.2.1, bt511.2.2.1, bt511.2.2.2.1, bt511.2.2.2.2.1, bt511.2.2.2.2.2.1, bt511.2.2.2.2.2.2.1, bt511.2.2.2.2.2.2.2))) := by
  refine Co.same (spec_DrawIsVague.F_co l0) (h := fun k => spec_DrawIsVague.f k l0) (fun _ => rfl) ?_
  unfold spec_DrawIsVague.f
  repeat' first | (with_reducible exact Co.const _) | (with_reducible exact spec_DrawIsReport.F_co _) | (with_reducible refine Co.ite ?_ ?_) | (with_reducible refine Co.bind ?_ (fun _ => ?_))

noncomputable def impl_IsVague.F (a0_0 : Int) (a0_1 : Int) (l0_2 : List Int) (a0_3 : Int) (a0_4 : Int) (l0_5 : List Int) (a0_6 : Int) (a0_7 : Int) : Option (Bool) := lim (fun k => impl_IsVague.f k a0_0 a0_1 l0_2 a0_3 a0_4 l0_5 a0_6 a0_7)
theorem impl_IsVague.F_co (a0_0 : Int) (a0_1 : Int) (l0_2 : List Int) (a0_3 : Int) (a0_4 : Int) (l0_5 : List Int) (a0_6 : Int) (a0_7 : Int) : Co (fun k => impl_IsVague.f k a0_0 a0_1 l0_2 a0_3 a0_4 l0_5 a0_6 a0_7) (impl_IsVague.F a0_0 a0_1 l0_2 a0_3 a0_4 l0_5 a0_6 a0_7) := Co.base (fun k => impl_IsVague.mono _ _ _ _ _ _ _ _ k)
theorem impl_IsVague.F_eq (a0_0 : Int) (a0_1 : Int) (l0_2 : List Int) (a0_3 : Int) (a0_4 : Int) (l0_5 : List Int) (a0_6 : Int) (a0_7 : Int) : impl_IsVague.F a0_0 a0_1 l0_2 a0_3 a0_4 l0_5 a0_6 a0_7 = ((impl_IsReport.F a0_0 a0_1 l0_2 a0_3 a0_4 l0_5 a0_6 a0_7).bind fun t524 => (if t524 = true then (if (l0_2.length : Int) = 0 then (if (l0_5.length : Int) = 0 then (if a0_3 = 1 then (some (a0_4 == 50)) else (some false)) else (some false)) else (some false)) else (some false))) := by
  refine Co.same (impl_IsVague.F_co a0_0 a0_1 l0_2 a0_3 a0_4 l0_5 a0_6 a0_7) (h := fun k => impl_IsVague.f k a0_0 a0_1 l0_2 a0_3 a0_4 l0_5 a0_6 a0_7) (fun _ => rfl) ?_
  unfold impl_IsVague.f
  repeat' first | (with_reducible exact Co.const _) | (with_reducible exact impl_IsReport.F_co _ _ _ _ _ _ _ _) | (with_reducible refine Co.ite ?_ ?_) | (with_reducible refine Co.bind ?_ (fun _ => ?_))

noncomputable def laws_FnReports.J0 (x0 : List Int) : Option (Bool) := lim (fun k => laws_FnReports.j0 k x0)
theorem laws_FnReports.J0_co (x0 : List Int) : Co (fun k => laws_FnReports.j0 k x0) (laws_FnReports.J0 x0) := Co.base (fun k => (laws_FnReports.mono_l k) _)
noncomputable def laws_FnReports.F (l0 : List Int) : Option (Bool) := lim (fun k => laws_FnReports.f k l0)
theorem laws_FnReports.F_co (l0 : List Int) : Co (fun k => laws_FnReports.f k l0) (laws_FnReports.F l0) := Co.base (fun k => laws_FnReports.mono _ k)
theorem laws_FnReports.J0_eq (x0 : List Int) : laws_FnReports.J0 x0 = ((spec_DrawEqualReports.F x0).bind fun D => ((spec_DrawIsVague.F x0).bind fun J => ((impl_EqualReports.F D.1 D.2.1 D.2.2.1 D.2.2.2.1 D.2.2.2.2.1 D.2.2.2.2.2.1 D.2.2.2.2.2.2.1 D.2.2.2.2.2.2.2.1 D.2.2.2.2.2.2.2.2.1 D.2.2.2.2.2.2.2.2.2.1 D.2.2.2.2.2.2.2.2.2.2.1 D.2.2.2.2.2.2.2.2.2.2.2.1 D.2.2.2.2.2.2.2.2.2.2.2.2.1 D.2.2.2.2.2.2.2.2.2.2.2.2.2.1 D.2.2.2.2.2.2.2.2.2.2.2.2.2.2.1 D.2.2.2.2.2.2.2.2.2.2.2.2.2.2.2).bind fun L => ((impl_EqualReports.F D.2.2.2.2.2.2.2.2.1 D.2.2.2.2.2.2.2.2.2.1 D.2.2.2.2.2.2.2.2.2.2.1 D.2.2.2.2.2.2.2.2.2.2.2.1 D.2.2.2.2.2.2.2.2.2.2.2.2.1 D.2.2.2.2.2.2.2.2.2.2.2.2.2.1 D.2.2.2.2.2.2.2.2.2.2.2.2.2.2.1 D.2.2.2.2.2.2.2.2.2.2.2.2.2.2.2 D.1 D.2.1 D.2.2.1 D.2.2.2.1 D.2.2.2.2.1 D.2.2.2.2.2.1 D.2.2.2.2.2.2.1 D.2.2.2.2.2.2.2.1).bind fun Y => (if (L == Y) = true then ((impl_EqualReports.F D.1 D.2.1 D.2.2.1 D.2.2.2.1 D.2.2.2.2.1 D.2.2.2.2.2.1 D.2.2.2.2.2.2.1 D.2.2.2.2.2.2.2.1 D.1 D.2.1 D.2.2.1 D.2.2.2.1 D.2.2.2.2.1 D.2.2.2.2.2.1 D.2.2.2.2.2.2.1 D.2.2.2.2.2.2.2.1).bind fun aa => (if aa = true then ((impl_IsVague.F J.1 J.2.1 J.2.2.1 J.2.2.2.1 J.2.2.2.2.1 J.2.2.2.2.2.1 J.2.2.2.2.2.2.1 J.2.2.2.2.2.2.2).bind fun ab => (if ab = true then ((impl_IsReport.F J.1 J.2.1 J.2.2.1 J.2.2.2.1 J.2.2.2.2.1 J.2.2.2.2.2.1 J.2.2.2.2.2.2.1 J.2.2.2.2.2.2.2).bind fun ac => (some ac)) else (some true))) else (some false))) else (some false)))))) := by
  refine Co.step (laws_FnReports.J0_co x0) (h := fun k => laws_FnReports.j0 (k + 1) x0) (fun _ => rfl) ?_
  simp only [laws_FnReports.j0]
  repeat' first | (with_reducible exact Co.const _) | (with_reducible exact impl_EqualReports.F_co _ _ _ _ _ _ _ _ _ _ _ _ _ _ _ _) | (with_reducible exact impl_IsReport.F_co _ _ _ _ _ _ _ _) | (with_reducible exact impl_IsVague.F_co _ _ _ _ _ _ _ _) | (with_reducible exact spec_DrawEqualReports.F_co _) | (with_reducible exact spec_DrawIsVague.F_co _) | (with_reducible refine Co.ite ?_ ?_) | (with_reducible refine Co.bind ?_ (fun _ => ?_))
theorem laws_FnReports.F_eq (l0 : List Int) : laws_FnReports.F l0 = ((laws_big.f l0).bind fun Y => (if Y = true then (some true) else ((spec_DrawPutReport.F l0).bind fun D => ((impl_PutReport.F D.1 D.2.1 D.2.2.1 D.2.2.2.1 D.2.2.2.2.1 D.2.2.2.2.2.1 D.2.2.2.2.2.2.1 D.2.2.2.2.2.2.2.1 D.2.2.2.2.2.2.2.2).bind fun J => (if J.2 = true then ((impl_FindReport.f J.1 D.2.1).bind fun L => ((impl_AreReports.F J.1).bind fun aa => (if aa = true then (if L < 0 then (some false) else (if 0 ≤ L then (if L < (J.1.length : Int) then ((impl_EqualReports.F ((rd_T29 J.1 L).f0) ((rd_T29 J.1 L).f1) ((rd_T29 J.1 L).f2) ((rd_T29 J.1 L).f3) ((rd_T29 J.1 L).f4) ((rd_T29 J.1 L).f5) ((rd_T29 J.1 L).f6.f0) ((rd_T29 J.1 L).f6.f1) D.2.1 D.2.2.1 D.2.2.2.1 D.2.2.2.2.1 D.2.2.2.2.2.1 D.2.2.2.2.2.2.1 D.2.2.2.2.2.2.2.1 D.2.2.2.2.2.2.2.2).bind fun ab => (if ab = true then (laws_FnReports.J0 l0) else (some false))) else (none)) else (none))) else (some false)))) else (if (J.1.length : Int) = (D.1.length : Int) then (laws_FnReports.J0 l0) else (some false))))))) := by
  refine Co.same (laws_FnReports.F_co l0) (h := fun k => laws_FnReports.f k l0) (fun _ => rfl) ?_
  unfold laws_FnReports.f
  repeat' first | (with_reducible exact Co.const _) | (with_reducible exact impl_AreReports.F_co _) | (with_reducible exact impl_EqualReports.F_co _ _ _ _ _ _ _ _ _ _ _ _ _ _ _ _) | (with_reducible exact impl_PutReport.F_co _ _ _ _ _ _ _ _ _) | (with_reducible exact laws_FnReports.J0_co _) | (with_reducible exact spec_DrawPutReport.F_co _) | (with_reducible refine Co.ite ?_ ?_) | (with_reducible refine Co.bind ?_ (fun _ => ?_))

end Go.Proofs.Ytfolhmompclmbaa.PFnReports.Pure
