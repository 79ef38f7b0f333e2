/-
  The printed functions that this law reaches, their rounds used up, and the equations that they meet.
-/
import Derived.Test.YtfolhmompclmbaaPFnExactPutReportx1
import Derived.Test.YtfolhmompclmbaaPFnExactPutReportx10
import Derived.Test.YtfolhmompclmbaaPFnExactPutReportx11
import Derived.Test.YtfolhmompclmbaaPFnExactPutReportx2
import Derived.Test.YtfolhmompclmbaaPFnExactPutReportx3
import Derived.Test.YtfolhmompclmbaaPFnExactPutReportx4
import Derived.Test.YtfolhmompclmbaaPFnExactPutReportx5
import Derived.Test.YtfolhmompclmbaaPFnExactPutReportx6
import Derived.Test.YtfolhmompclmbaaPFnExactPutReportx7
import Derived.Test.YtfolhmompclmbaaPFnExactPutReportx8
import Derived.Test.YtfolhmompclmbaaPFnExactPutReportx9
import Derived.Test.YtfolhmompclmbaaLim
namespace Go.Proofs.Ytfolhmompclmbaa.PFnExactPutReport.Pure
open Go.RowKit Go.Proofs.YtfolhmompclmbaaW.PrintWords Go.Proofs.YtfolhmompclmbaaW.PrintLast Go.Proofs.YtfolhmompclmbaaW.PrintMore Go.Proofs.Ytfolhmompclmbaa.PFnExactPutReport Go.Proofs.Ytfolhmompclmbaa.Lim
set_option linter.unusedVariables false
set_option maxRecDepth 100000

noncomputable def impl_isAscending.L0 (x0 : List Int) (x1 : Int) (x2 : Int) (x9 : List Int) (J : Int) (D : Int) : Option (Bool) := lim (fun k => impl_isAscending.l0 k x0 x1 x2 x9 J D)
theorem impl_isAscending.L0_co (x0 : List Int) (x1 : Int) (x2 : Int) (x9 : List Int) (J : Int) (D : Int) : Co (fun k => impl_isAscending.l0 k x0 x1 x2 x9 J D) (impl_isAscending.L0 x0 x1 x2 x9 J D) := Co.base (fun k => (impl_isAscending.mono_l k) _ _ _ _ _ _)
noncomputable def impl_isAscending.F (l0 : List Int) (a1 : Int) (a2 : Int) : Option (Bool) := lim (fun k => impl_isAscending.f k l0 a1 a2)
theorem impl_isAscending.F_co (l0 : List Int) (a1 : Int) (a2 : Int) : Co (fun k => impl_isAscending.f k l0 a1 a2) (impl_isAscending.F l0 a1 a2) := Co.base (fun k => impl_isAscending.mono _ _ _ k)
theorem impl_isAscending.L0_eq (x0 : List Int) (x1 : Int) (x2 : Int) (x9 : List Int) (J : Int) (D : Int) : impl_isAscending.L0 x0 x1 x2 x9 J D = (if D < J then (if 0 ≤ D then (if D < (x9.length : Int) then ((impl_InRange.f (rd x9 D) x1 x2).bind fun L => (if L = true then (if D > 0 then (if 0 ≤ (wrap64 (D - 1)) then (if (wrap64 (D - 1)) < (x0.length : Int) then (if (rd x9 D) ≤ (rd x0 (wrap64 (D - 1))) then (some false) else (impl_isAscending.L0 x0 x1 x2 x9 J (wrap64 (D + 1)))) else (none)) else (none)) else (impl_isAscending.L0 x0 x1 x2 x9 J (wrap64 (D + 1)))) else (some false))) else (none)) else (none)) else (some true)) := by
  refine Co.step (impl_isAscending.L0_co x0 x1 x2 x9 J D) (h := fun k => impl_isAscending.l0 (k + 1) x0 x1 x2 x9 J D) (fun _ => rfl) ?_
  simp only [impl_isAscending.l0]
  repeat' first | (with_reducible exact Co.const _) | (with_reducible exact impl_isAscending.L0_co _ _ _ _ _ _) | (with_reducible refine Co.ite ?_ ?_) | (with_reducible refine Co.bind ?_ (fun _ => ?_))
theorem impl_isAscending.F_eq (l0 : List Int) (a1 : Int) (a2 : Int) : impl_isAscending.F l0 a1 a2 = (impl_isAscending.L0 l0 a1 a2 l0 (l0.length : Int) 0) := by
  refine Co.same (impl_isAscending.F_co l0 a1 a2) (h := fun k => impl_isAscending.f k l0 a1 a2) (fun _ => rfl) ?_
  unfold impl_isAscending.f
  repeat' first | (with_reducible exact Co.const _) | (with_reducible exact impl_isAscending.L0_co _ _ _ _ _ _) | (with_reducible refine Co.ite ?_ ?_) | (with_reducible refine Co.bind ?_ (fun _ => ?_))

noncomputable def impl_IsReport.F (a0_0 : Int) (a0_1 : Int) (l0_2 : List Int) (a0_3 : Int) (a0_4 : Int) (l0_5 : List Int) (a0_6 : Int) (a0_7 : Int) : Option (Bool) := lim (fun k => impl_IsReport.f k a0_0 a0_1 l0_2 a0_3 a0_4 l0_5 a0_6 a0_7)
theorem impl_IsReport.F_co (a0_0 : Int) (a0_1 : Int) (l0_2 : List Int) (a0_3 : Int) (a0_4 : Int) (l0_5 : List Int) (a0_6 : Int) (a0_7 : Int) : Co (fun k => impl_IsReport.f k a0_0 a0_1 l0_2 a0_3 a0_4 l0_5 a0_6 a0_7) (impl_IsReport.F a0_0 a0_1 l0_2 a0_3 a0_4 l0_5 a0_6 a0_7) := Co.base (fun k => impl_IsReport.mono _ _ _ _ _ _ _ _ k)
theorem impl_IsReport.F_eq (a0_0 : Int) (a0_1 : Int) (l0_2 : List Int) (a0_3 : Int) (a0_4 : Int) (l0_5 : List Int) (a0_6 : Int) (a0_7 : Int) : impl_IsReport.F a0_0 a0_1 l0_2 a0_3 a0_4 l0_5 a0_6 a0_7 = ((impl_InRange.f a0_0 1 999).bind fun D => (if D = true then ((impl_InRange.f a0_1 1 8).bind fun J => (if J = true then ((impl_isAscending.F l0_2 0 7).bind fun L => (if L = true then (if 1 ≤ a0_3 then (if a0_3 ≤ a0_4 then (if a0_4 ≤ 50 then ((impl_isAscending.F l0_5 1 30).bind fun Y => (if Y = true then (if (l0_5.length : Int) ≤ 10 then ((impl_IsSpan.f a0_6 a0_7).bind fun aa => (some aa)) else (some false)) else (some false))) else (some false)) else (some false)) else (some false)) else (some false))) else (some false))) else (some false))) := by
  refine Co.same (impl_IsReport.F_co a0_0 a0_1 l0_2 a0_3 a0_4 l0_5 a0_6 a0_7) (h := fun k => impl_IsReport.f k a0_0 a0_1 l0_2 a0_3 a0_4 l0_5 a0_6 a0_7) (fun _ => rfl) ?_
  unfold impl_IsReport.f
  repeat' first | (with_reducible exact Co.const _) | (with_reducible exact impl_isAscending.F_co _ _ _) | (with_reducible refine Co.ite ?_ ?_) | (with_reducible refine Co.bind ?_ (fun _ => ?_))

noncomputable def impl_AreReports.L0 (x0 : List (S29)) (x8 : List (S29)) (x9 : Int) (D : Int) : Option (Bool) := lim (fun k => impl_AreReports.l0 k x0 x8 x9 D)
theorem impl_AreReports.L0_co (x0 : List (S29)) (x8 : List (S29)) (x9 : Int) (D : Int) : Co (fun k => impl_AreReports.l0 k x0 x8 x9 D) (impl_AreReports.L0 x0 x8 x9 D) := Co.base (fun k => (impl_AreReports.mono_l k) _ _ _ _)
noncomputable def impl_AreReports.F (l0 : List (S29)) : Option (Bool) := lim (fun k => impl_AreReports.f k l0)
theorem impl_AreReports.F_co (l0 : List (S29)) : Co (fun k => impl_AreReports.f k l0) (impl_AreReports.F l0) := Co.base (fun k => impl_AreReports.mono _ k)
theorem impl_AreReports.L0_eq (x0 : List (S29)) (x8 : List (S29)) (x9 : Int) (D : Int) : impl_AreReports.L0 x0 x8 x9 D = (if D < x9 then (if 0 ≤ D then (if D < (x8.length : Int) then ((impl_IsReport.F ((rd_T29 x8 D).f0) ((rd_T29 x8 D).f1) ((rd_T29 x8 D).f2) ((rd_T29 x8 D).f3) ((rd_T29 x8 D).f4) ((rd_T29 x8 D).f5) ((rd_T29 x8 D).f6.f0) ((rd_T29 x8 D).f6.f1)).bind fun J => (if J = true then (if D > 0 then (if 0 ≤ (wrap64 (D - 1)) then (if (wrap64 (D - 1)) < (x0.length : Int) then (if ((rd_T29 x8 D).f0) ≤ ((rd_T29 x0 (wrap64 (D - 1))).f0) then (some false) else (impl_AreReports.L0 x0 x8 x9 (wrap64 (D + 1)))) else (none)) else (none)) else (impl_AreReports.L0 x0 x8 x9 (wrap64 (D + 1)))) else (some false))) else (none)) else (none)) else (some true)) := by
  refine Co.step (impl_AreReports.L0_co x0 x8 x9 D) (h := fun k => impl_AreReports.l0 (k + 1) x0 x8 x9 D) (fun _ => rfl) ?_
  simp only [impl_AreReports.l0]
  repeat' first | (with_reducible exact Co.const _) | (with_reducible exact impl_AreReports.L0_co _ _ _ _) | (with_reducible exact impl_IsReport.F_co _ _ _ _ _ _ _ _) | (with_reducible refine Co.ite ?_ ?_) | (with_reducible refine Co.bind ?_ (fun _ => ?_))
theorem impl_AreReports.F_eq (l0 : List (S29)) : impl_AreReports.F l0 = (if (l0.length : Int) > 20 then (some false) else (impl_AreReports.L0 l0 l0 (l0.length : Int) 0)) := by
  refine Co.same (impl_AreReports.F_co l0) (h := fun k => impl_AreReports.f k l0) (fun _ => rfl) ?_
  unfold impl_AreReports.f
  repeat' first | (with_reducible exact Co.const _) | (with_reducible exact impl_AreReports.L0_co _ _ _ _) | (with_reducible refine Co.ite ?_ ?_) | (with_reducible refine Co.bind ?_ (fun _ => ?_))

noncomputable def impl_cloneReports.L0 (x3 : List (S29)) (x7 : List (S29)) (x8 : Int) (x9 : Int) : Option ((List (S29))) := lim (fun k => impl_cloneReports.l0 k x3 x7 x8 x9)
theorem impl_cloneReports.L0_co (x3 : List (S29)) (x7 : List (S29)) (x8 : Int) (x9 : Int) : Co (fun k => impl_cloneReports.l0 k x3 x7 x8 x9) (impl_cloneReports.L0 x3 x7 x8 x9) := Co.base (fun k => (impl_cloneReports.mono_l k) _ _ _ _)
noncomputable def impl_cloneReports.F (l0 : List (S29)) : Option ((List (S29))) := lim (fun k => impl_cloneReports.f k l0)
theorem impl_cloneReports.F_co (l0 : List (S29)) : Co (fun k => impl_cloneReports.f k l0) (impl_cloneReports.F l0) := Co.base (fun k => impl_cloneReports.mono _ k)
theorem impl_cloneReports.L0_eq (x3 : List (S29)) (x7 : List (S29)) (x8 : Int) (x9 : Int) : impl_cloneReports.L0 x3 x7 x8 x9 = (if x9 < x8 then (if 0 ≤ x9 then (if x9 < (x7.length : Int) then ((impl_cloneReport.f ((rd_T29 x7 x9).f0) ((rd_T29 x7 x9).f1) ((rd_T29 x7 x9).f2) ((rd_T29 x7 x9).f3) ((rd_T29 x7 x9).f4) ((rd_T29 x7 x9).f5) ((rd_T29 x7 x9).f6.f0) ((rd_T29 x7 x9).f6.f1)).bind fun D => (if x3.length < 1466015503701 then (impl_cloneReports.L0 (x3 ++ [(⟨D.1, D.2.1, D.2.2.1, D.2.2.2.1, D.2.2.2.2.1, D.2.2.2.2.2.1, (⟨D.2.2.2.2.2.2.1, D.2.2.2.2.2.2.2⟩ : S27)⟩ : S29)]) x7 x8 (wrap64 (x9 + 1))) else (none))) else (none)) else (none)) else (some x3)) := by
  refine Co.step (impl_cloneReports.L0_co x3 x7 x8 x9) (h := fun k => impl_cloneReports.l0 (k + 1) x3 x7 x8 x9) (fun _ => rfl) ?_
  simp only [impl_cloneReports.l0]
  repeat' first | (with_reducible exact Co.const _) | (with_reducible exact impl_cloneReports.L0_co _ _ _ _) | (with_reducible refine Co.ite ?_ ?_) | (with_reducible refine Co.bind ?_ (fun _ => ?_))
theorem impl_cloneReports.F_eq (l0 : List (S29)) : impl_cloneReports.F l0 = (impl_cloneReports.L0 (([] : List (S29))) l0 (l0.length : Int) 0) := by
  refine Co.same (impl_cloneReports.F_co l0) (h := fun k => impl_cloneReports.f k l0) (fun _ => rfl) ?_
  unfold impl_cloneReports.f
  repeat' first | (with_reducible exact Co.const _) | (with_reducible exact impl_cloneReports.L0_co _ _ _ _) | (with_reducible refine Co.ite ?_ ?_) | (with_reducible refine Co.bind ?_ (fun _ => ?_))

noncomputable def impl_PutReport.J1 (x0 : List (S29)) (x6 : List (S29)) : Option ((List (S29)) × Bool) := lim (fun k => impl_PutReport.j1 k x0 x6)
theorem impl_PutReport.J1_co (x0 : List (S29)) (x6 : List (S29)) : Co (fun k => impl_PutReport.j1 k x0 x6) (impl_PutReport.J1 x0 x6) := Co.base (fun k => (impl_PutReport.mono_l k).1 _ _)
noncomputable def impl_PutReport.L0 (x0 : List (S29)) (x6 : List (S29)) (x8 : Int) (L : Int) (Y : Int) (aa : List Int) (ab : Int) (ac : Int) (ad : List Int) (ae : Int) (af : Int) : Option ((List (S29)) × Bool) := lim (fun k => impl_PutReport.l0 k x0 x6 x8 L Y aa ab ac ad ae af)
theorem impl_PutReport.L0_co (x0 : List (S29)) (x6 : List (S29)) (x8 : Int) (L : Int) (Y : Int) (aa : List Int) (ab : Int) (ac : Int) (ad : List Int) (ae : Int) (af : Int) : Co (fun k => impl_PutReport.l0 k x0 x6 x8 L Y aa ab ac ad ae af) (impl_PutReport.L0 x0 x6 x8 L Y aa ab ac ad ae af) := Co.base (fun k => (impl_PutReport.mono_l k).2 _ _ _ _ _ _ _ _ _ _ _)
noncomputable def impl_PutReport.F (l0 : List (S29)) (a1_0 : Int) (a1_1 : Int) (l1_2 : List Int) (a1_3 : Int) (a1_4 : Int) (l1_5 : List Int) (a1_6 : Int) (a1_7 : Int) : Option ((List (S29)) × Bool) := lim (fun k => impl_PutReport.f k l0 a1_0 a1_1 l1_2 a1_3 a1_4 l1_5 a1_6 a1_7)
theorem impl_PutReport.F_co (l0 : List (S29)) (a1_0 : Int) (a1_1 : Int) (l1_2 : List Int) (a1_3 : Int) (a1_4 : Int) (l1_5 : List Int) (a1_6 : Int) (a1_7 : Int) : Co (fun k => impl_PutReport.f k l0 a1_0 a1_1 l1_2 a1_3 a1_4 l1_5 a1_6 a1_7) (impl_PutReport.F l0 a1_0 a1_1 l1_2 a1_3 a1_4 l1_5 a1_6 a1_7) := Co.base (fun k => impl_PutReport.mono _ _ _ _ _ _ _ _ _ k)
theorem impl_PutReport.J1_eq (x0 : List (S29)) (x6 : List (S29)) : impl_PutReport.J1 x0 x6 = ((impl_AreReports.F x6).bind fun t200 => (if t200 = true then (some (x6, true)) else ((impl_cloneReports.F x0).bind fun t201 => (some (t201, false))))) := by
  refine Co.step (impl_PutReport.J1_co x0 x6) (h := fun k => impl_PutReport.j1 (k + 1) x0 x6) (fun _ => rfl) ?_
  simp only [impl_PutReport.j1]
  repeat' first | (with_reducible exact Co.const _) | (with_reducible exact impl_AreReports.F_co _) | (with_reducible exact impl_cloneReports.F_co _) | (with_reducible refine Co.ite ?_ ?_) | (with_reducible refine Co.bind ?_ (fun _ => ?_))
theorem impl_PutReport.L0_eq (x0 : List (S29)) (x6 : List (S29)) (x8 : Int) (L : Int) (Y : Int) (aa : List Int) (ab : Int) (ac : Int) (ad : List Int) (ae : Int) (af : Int) : impl_PutReport.L0 x0 x6 x8 L Y aa ab ac ad ae af = (if x8 < (x0.length : Int) then (if 0 ≤ x8 then (if ((rd_T29 x0 x8).f0) < L then (impl_PutReport.L0 x0 x6 (wrap64 (x8 + 1)) L Y aa ab ac ad ae af) else ((impl_cloneReport.f L Y aa ab ac ad ae af).bind fun D => (if 0 ≤ x8 ∧ x8 ≤ (x6.length : Int) ∧ x6.length + 1 ≤ 4000000 then (impl_PutReport.J1 x0 (x6.take x8.toNat ++ [(⟨D.1, D.2.1, D.2.2.1, D.2.2.2.1, D.2.2.2.2.1, D.2.2.2.2.2.1, (⟨D.2.2.2.2.2.2.1, D.2.2.2.2.2.2.2⟩ : S27)⟩ : S29)] ++ x6.drop x8.toNat)) else (none)))) else (none)) else ((impl_cloneReport.f L Y aa ab ac ad ae af).bind fun J => (if 0 ≤ x8 ∧ x8 ≤ (x6.length : Int) ∧ x6.length + 1 ≤ 4000000 then (impl_PutReport.J1 x0 (x6.take x8.toNat ++ [(⟨J.1, J.2.1, J.2.2.1, J.2.2.2.1, J.2.2.2.2.1, J.2.2.2.2.2.1, (⟨J.2.2.2.2.2.2.1, J.2.2.2.2.2.2.2⟩ : S27)⟩ : S29)] ++ x6.drop x8.toNat)) else (none)))) := by
  refine Co.step (impl_PutReport.L0_co x0 x6 x8 L Y aa ab ac ad ae af) (h := fun k => impl_PutReport.l0 (k + 1) x0 x6 x8 L Y aa ab ac ad ae af) (fun _ => rfl) ?_
  simp only [impl_PutReport.l0]
  repeat' first | (with_reducible exact Co.const _) | (with_reducible exact impl_PutReport.J1_co _ _) | (with_reducible exact impl_PutReport.L0_co _ _ _ _ _ _ _ _ _ _ _) | (with_reducible refine Co.ite ?_ ?_) | (with_reducible refine Co.bind ?_ (fun _ => ?_))
theorem impl_PutReport.F_eq (l0 : List (S29)) (a1_0 : Int) (a1_1 : Int) (l1_2 : List Int) (a1_3 : Int) (a1_4 : Int) (l1_5 : List Int) (a1_6 : Int) (a1_7 : Int) : impl_PutReport.F l0 a1_0 a1_1 l1_2 a1_3 a1_4 l1_5 a1_6 a1_7 = ((impl_cloneReports.F l0).bind fun L => ((impl_FindReport.f l0 a1_0).bind fun J => (if J ≥ 0 then ((impl_cloneReport.f a1_0 a1_1 l1_2 a1_3 a1_4 l1_5 a1_6 a1_7).bind fun D => (if 0 ≤ J then (if J < (L.length : Int) then (impl_PutReport.J1 l0 (L.set (J : Int).toNat (⟨D.1, D.2.1, D.2.2.1, D.2.2.2.1, D.2.2.2.2.1, D.2.2.2.2.2.1, (⟨D.2.2.2.2.2.2.1, D.2.2.2.2.2.2.2⟩ : S27)⟩ : S29))) else (none)) else (none))) else (impl_PutReport.L0 l0 L 0 a1_0 a1_1 l1_2 a1_3 a1_4 l1_5 a1_6 a1_7)))) := by
  refine Co.same (impl_PutReport.F_co l0 a1_0 a1_1 l1_2 a1_3 a1_4 l1_5 a1_6 a1_7) (h := fun k => impl_PutReport.f k l0 a1_0 a1_1 l1_2 a1_3 a1_4 l1_5 a1_6 a1_7) (fun _ => rfl) ?_
  unfold impl_PutReport.f
  repeat' first | (with_reducible exact Co.const _) | (with_reducible exact impl_PutReport.J1_co _ _) | (with_reducible exact impl_PutReport.L0_co _ _ _ _ _ _ _ _ _ _ _) | (with_reducible exact impl_cloneReports.F_co _) | (with_reducible refine Co.ite ?_ ?_) | (with_reducible refine Co.bind ?_ (fun _ => ?_))

noncomputable def laws_szReportS.L0 (x0 : List (S44)) (x1 : Int) (x5 : Int) : Option (Int) := lim (fun k => laws_szReportS.l0 k x0 x1 x5)
theorem laws_szReportS.L0_co (x0 : List (S44)) (x1 : Int) (x5 : Int) : Co (fun k => laws_szReportS.l0 k x0 x1 x5) (laws_szReportS.L0 x0 x1 x5) := Co.base (fun k => (laws_szReportS.mono_l k) _ _ _)
noncomputable def laws_szReportS.F (l0 : List (S44)) (a1 : Int) : Option (Int) := lim (fun k => laws_szReportS.f k l0 a1)
theorem laws_szReportS.F_co (l0 : List (S44)) (a1 : Int) : Co (fun k => laws_szReportS.f k l0 a1) (laws_szReportS.F l0 a1) := Co.base (fun k => laws_szReportS.mono _ _ k)
theorem laws_szReportS.L0_eq (x0 : List (S44)) (x1 : Int) (x5 : Int) : laws_szReportS.L0 x0 x1 x5 = (if x5 < (x0.length : Int) then (if 0 ≤ x5 then ((laws_szReport.f ((rd_T44 x0 x5).f0) ((rd_T44 x0 x5).f1) ((rd_T44 x0 x5).f2) ((rd_T44 x0 x5).f3) ((rd_T44 x0 x5).f4) ((rd_T44 x0 x5).f5) ((rd_T44 x0 x5).f6.f0) ((rd_T44 x0 x5).f6.f1) x1).bind fun t208 => (if t208 < 0 then (some (-1)) else (laws_szReportS.L0 x0 t208 (wrap64 (x5 + 1))))) else (none)) else (some x1)) := by
  refine Co.step (laws_szReportS.L0_co x0 x1 x5) (h := fun k => laws_szReportS.l0 (k + 1) x0 x1 x5) (fun _ => rfl) ?_
  simp only [laws_szReportS.l0]
  repeat' first | (with_reducible exact Co.const _) | (with_reducible exact laws_szReportS.L0_co _ _ _) | (with_reducible refine Co.ite ?_ ?_) | (with_reducible refine Co.bind ?_ (fun _ => ?_))
theorem laws_szReportS.F_eq (l0 : List (S44)) (a1 : Int) : laws_szReportS.F l0 a1 = (if (wrap64 (a1 - (l0.length : Int))) < 0 then (some (-1)) else (laws_szReportS.L0 l0 (wrap64 (a1 - (l0.length : Int))) 0)) := by
  refine Co.same (laws_szReportS.F_co l0 a1) (h := fun k => laws_szReportS.f k l0 a1) (fun _ => rfl) ?_
  unfold laws_szReportS.f
  repeat' first | (with_reducible exact Co.const _) | (with_reducible exact laws_szReportS.L0_co _ _ _) | (with_reducible refine Co.ite ?_ ?_) | (with_reducible refine Co.bind ?_ (fun _ => ?_))

noncomputable def spec_l7Copy.L0 (x0 : List (S29)) (x3 : List (S29)) (x4 : Int) : Option ((List (S29))) := lim (fun k => spec_l7Copy.l0 k x0 x3 x4)
theorem spec_l7Copy.L0_co (x0 : List (S29)) (x3 : List (S29)) (x4 : Int) : Co (fun k => spec_l7Copy.l0 k x0 x3 x4) (spec_l7Copy.L0 x0 x3 x4) := Co.base (fun k => (spec_l7Copy.mono_l k) _ _ _)
noncomputable def spec_l7Copy.F (l0 : List (S29)) : Option ((List (S29))) := lim (fun k => spec_l7Copy.f k l0)
theorem spec_l7Copy.F_co (l0 : List (S29)) : Co (fun k => spec_l7Copy.f k l0) (spec_l7Copy.F l0) := Co.base (fun k => spec_l7Copy.mono _ k)
theorem spec_l7Copy.L0_eq (x0 : List (S29)) (x3 : List (S29)) (x4 : Int) : spec_l7Copy.L0 x0 x3 x4 = (if x4 < (x0.length : Int) then (if 0 ≤ x4 then ((spec_l7Report.f ((rd_T29 x0 x4).f0) ((rd_T29 x0 x4).f1) ((rd_T29 x0 x4).f2) ((rd_T29 x0 x4).f3) ((rd_T29 x0 x4).f4) ((rd_T29 x0 x4).f5) ((rd_T29 x0 x4).f6.f0) ((rd_T29 x0 x4).f6.f1)).bind fun D => (if x3.length < 1466015503701 then (spec_l7Copy.L0 x0 (x3 ++ [(⟨D.1, D.2.1, D.2.2.1, D.2.2.2.1, D.2.2.2.2.1, D.2.2.2.2.2.1, (⟨D.2.2.2.2.2.2.1, D.2.2.2.2.2.2.2⟩ : S27)⟩ : S29)]) (wrap64 (x4 + 1))) else (none))) else (none)) else (some x3)) := by
  refine Co.step (spec_l7Copy.L0_co x0 x3 x4) (h := fun k => spec_l7Copy.l0 (k + 1) x0 x3 x4) (fun _ => rfl) ?_
  simp only [spec_l7Copy.l0]
  repeat' first | (with_reducible exact Co.const _) | (with_reducible exact spec_l7Copy.L0_co _ _ _) | (with_reducible refine Co.ite ?_ ?_) | (with_reducible refine Co.bind ?_ (fun _ => ?_))
theorem spec_l7Copy.F_eq (l0 : List (S29)) : spec_l7Copy.F l0 = (spec_l7Copy.L0 l0 (([] : List (S29))) 0) := by
  refine Co.same (spec_l7Copy.F_co l0) (h := fun k => spec_l7Copy.f k l0) (fun _ => rfl) ?_
  unfold spec_l7Copy.f
  repeat' first | (with_reducible exact Co.const _) | (with_reducible exact spec_l7Copy.L0_co _ _ _) | (with_reducible refine Co.ite ?_ ?_) | (with_reducible refine Co.bind ?_ (fun _ => ?_))

noncomputable def spec_l7Ids.L0 (x0 : List Int) (x1 : Int) (x2 : Int) (x7 : Int) : Option (Bool) := lim (fun k => spec_l7Ids.l0 k x0 x1 x2 x7)
theorem spec_l7Ids.L0_co (x0 : List Int) (x1 : Int) (x2 : Int) (x7 : Int) : Co (fun k => spec_l7Ids.l0 k x0 x1 x2 x7) (spec_l7Ids.L0 x0 x1 x2 x7) := Co.base (fun k => (spec_l7Ids.mono_l k) _ _ _ _)
noncomputable def spec_l7Ids.F (l0 : List Int) (a1 : Int) (a2 : Int) : Option (Bool) := lim (fun k => spec_l7Ids.f k l0 a1 a2)
theorem spec_l7Ids.F_co (l0 : List Int) (a1 : Int) (a2 : Int) : Co (fun k => spec_l7Ids.f k l0 a1 a2) (spec_l7Ids.F l0 a1 a2) := Co.base (fun k => spec_l7Ids.mono _ _ _ k)
theorem spec_l7Ids.L0_eq (x0 : List Int) (x1 : Int) (x2 : Int) (x7 : Int) : spec_l7Ids.L0 x0 x1 x2 x7 = (if x7 < (x0.length : Int) then (if 0 ≤ x7 then ((spec_l1In.f (rd x0 x7) x1 x2).bind fun t243 => (if t243 = true then (if x7 > 0 then (if 0 ≤ (wrap64 (x7 - 1)) then (if (wrap64 (x7 - 1)) < (x0.length : Int) then (if (rd x0 (wrap64 (x7 - 1))) ≥ (rd x0 x7) then (some false) else (spec_l7Ids.L0 x0 x1 x2 (wrap64 (x7 + 1)))) else (none)) else (none)) else (spec_l7Ids.L0 x0 x1 x2 (wrap64 (x7 + 1)))) else (some false))) else (none)) else (some true)) := by
  refine Co.step (spec_l7Ids.L0_co x0 x1 x2 x7) (h := fun k => spec_l7Ids.l0 (k + 1) x0 x1 x2 x7) (fun _ => rfl) ?_
  simp only [spec_l7Ids.l0]
  repeat' first | (with_reducible exact Co.const _) | (with_reducible exact spec_l7Ids.L0_co _ _ _ _) | (with_reducible refine Co.ite ?_ ?_) | (with_reducible refine Co.bind ?_ (fun _ => ?_))
theorem spec_l7Ids.F_eq (l0 : List Int) (a1 : Int) (a2 : Int) : spec_l7Ids.F l0 a1 a2 = (spec_l7Ids.L0 l0 a1 a2 0) := by
  refine Co.same (spec_l7Ids.F_co l0 a1 a2) (h := fun k => spec_l7Ids.f k l0 a1 a2) (fun _ => rfl) ?_
  unfold spec_l7Ids.f
  repeat' first | (with_reducible exact Co.const _) | (with_reducible exact spec_l7Ids.L0_co _ _ _ _) | (with_reducible refine Co.ite ?_ ?_) | (with_reducible refine Co.bind ?_ (fun _ => ?_))

noncomputable def spec_IsReport.F (a0_0 : Int) (a0_1 : Int) (l0_2 : List Int) (a0_3 : Int) (a0_4 : Int) (l0_5 : List Int) (a0_6 : Int) (a0_7 : Int) : Option (Bool) := lim (fun k => spec_IsReport.f k a0_0 a0_1 l0_2 a0_3 a0_4 l0_5 a0_6 a0_7)
theorem spec_IsReport.F_co (a0_0 : Int) (a0_1 : Int) (l0_2 : List Int) (a0_3 : Int) (a0_4 : Int) (l0_5 : List Int) (a0_6 : Int) (a0_7 : Int) : Co (fun k => spec_IsReport.f k a0_0 a0_1 l0_2 a0_3 a0_4 l0_5 a0_6 a0_7) (spec_IsReport.F a0_0 a0_1 l0_2 a0_3 a0_4 l0_5 a0_6 a0_7) := Co.base (fun k => spec_IsReport.mono _ _ _ _ _ _ _ _ k)
theorem spec_IsReport.F_eq (a0_0 : Int) (a0_1 : Int) (l0_2 : List Int) (a0_3 : Int) (a0_4 : Int) (l0_5 : List Int) (a0_6 : Int) (a0_7 : Int) : spec_IsReport.F a0_0 a0_1 l0_2 a0_3 a0_4 l0_5 a0_6 a0_7 = ((spec_l1In.f a0_0 1 999).bind fun D => (if D = true then ((spec_l1In.f a0_1 1 8).bind fun J => (if J = true then ((spec_l7Ids.F l0_2 0 7).bind fun L => (if L = true then (if a0_3 ≥ 1 then (if a0_3 ≤ a0_4 then (if a0_4 ≤ 50 then ((spec_l7Ids.F l0_5 1 30).bind fun Y => (if Y = true then (if (l0_5.length : Int) ≤ 10 then ((spec_IsSpan.f a0_6 a0_7).bind fun aa => (some aa)) else (some false)) else (some false))) else (some false)) else (some false)) else (some false)) else (some false))) else (some false))) else (some false))) := by
  refine Co.same (spec_IsReport.F_co a0_0 a0_1 l0_2 a0_3 a0_4 l0_5 a0_6 a0_7) (h := fun k => spec_IsReport.f k a0_0 a0_1 l0_2 a0_3 a0_4 l0_5 a0_6 a0_7) (fun _ => rfl) ?_
  unfold spec_IsReport.f
  repeat' first | (with_reducible exact Co.const _) | (with_reducible exact spec_l7Ids.F_co _ _ _) | (with_reducible refine Co.ite ?_ ?_) | (with_reducible refine Co.bind ?_ (fun _ => ?_))

noncomputable def spec_AreReports.L0 (x0 : List (S29)) (x3 : Int) : Option (Bool) := lim (fun k => spec_AreReports.l0 k x0 x3)
theorem spec_AreReports.L0_co (x0 : List (S29)) (x3 : Int) : Co (fun k => spec_AreReports.l0 k x0 x3) (spec_AreReports.L0 x0 x3) := Co.base (fun k => (spec_AreReports.mono_l k) _ _)
noncomputable def spec_AreReports.F (l0 : List (S29)) : Option (Bool) := lim (fun k => spec_AreReports.f k l0)
theorem spec_AreReports.F_co (l0 : List (S29)) : Co (fun k => spec_AreReports.f k l0) (spec_AreReports.F l0) := Co.base (fun k => spec_AreReports.mono _ k)
theorem spec_AreReports.L0_eq (x0 : List (S29)) (x3 : Int) : spec_AreReports.L0 x0 x3 = (if x3 < (x0.length : Int) then (if 0 ≤ x3 then ((spec_IsReport.F ((rd_T29 x0 x3).f0) ((rd_T29 x0 x3).f1) ((rd_T29 x0 x3).f2) ((rd_T29 x0 x3).f3) ((rd_T29 x0 x3).f4) ((rd_T29 x0 x3).f5) ((rd_T29 x0 x3).f6.f0) ((rd_T29 x0 x3).f6.f1)).bind fun D => (if D = true then (if x3 > 0 then (if 0 ≤ (wrap64 (x3 - 1)) then (if (wrap64 (x3 - 1)) < (x0.length : Int) then (if ((rd_T29 x0 (wrap64 (x3 - 1))).f0) ≥ ((rd_T29 x0 x3).f0) then (some false) else (spec_AreReports.L0 x0 (wrap64 (x3 + 1)))) else (none)) else (none)) else (spec_AreReports.L0 x0 (wrap64 (x3 + 1)))) else (some false))) else (none)) else (some (decide ((x0.length : Int) ≤ 20)))) := by
  refine Co.step (spec_AreReports.L0_co x0 x3) (h := fun k => spec_AreReports.l0 (k + 1) x0 x3) (fun _ => rfl) ?_
  simp only [spec_AreReports.l0]
  repeat' first | (with_reducible exact Co.const _) | (with_reducible exact spec_AreReports.L0_co _ _) | (with_reducible exact spec_IsReport.F_co _ _ _ _ _ _ _ _) | (with_reducible refine Co.ite ?_ ?_) | (with_reducible refine Co.bind ?_ (fun _ => ?_))
theorem spec_AreReports.F_eq (l0 : List (S29)) : spec_AreReports.F l0 = (spec_AreReports.L0 l0 0) := by
  refine Co.same (spec_AreReports.F_co l0) (h := fun k => spec_AreReports.f k l0) (fun _ => rfl) ?_
  unfold spec_AreReports.f
  repeat' first | (with_reducible exact Co.const _) | (with_reducible exact spec_AreReports.L0_co _ _) | (with_reducible refine Co.ite ?_ ?_) | (with_reducible refine Co.bind ?_ (fun _ => ?_))

noncomputable def spec_PutReport.J1 (x0 : List (S29)) (x6 : Int) (J : Int) (L : Int) (Y : List Int) (aa : Int) (ab : Int) (ac : List Int) (ad : Int) (ae : Int) : Option ((List (S29)) × Bool) := lim (fun k => spec_PutReport.j1 k x0 x6 J L Y aa ab ac ad ae)
theorem spec_PutReport.J1_co (x0 : List (S29)) (x6 : Int) (J : Int) (L : Int) (Y : List Int) (aa : Int) (ab : Int) (ac : List Int) (ad : Int) (ae : Int) : Co (fun k => spec_PutReport.j1 k x0 x6 J L Y aa ab ac ad ae) (spec_PutReport.J1 x0 x6 J L Y aa ab ac ad ae) := Co.base (fun k => (spec_PutReport.mono_l k).1 _ _ _ _ _ _ _ _ _ _)
noncomputable def spec_PutReport.J2 (x0 : List (S29)) (x6 : Int) (x7 : List (S29)) (ae : Bool) (D : Int) (J : Int) (L : List Int) (Y : Int) (aa : Int) (ab : List Int) (ac : Int) (ad : Int) : Option ((List (S29)) × Bool) := lim (fun k => spec_PutReport.j2 k x0 x6 x7 ae D J L Y aa ab ac ad)
theorem spec_PutReport.J2_co (x0 : List (S29)) (x6 : Int) (x7 : List (S29)) (ae : Bool) (D : Int) (J : Int) (L : List Int) (Y : Int) (aa : Int) (ab : List Int) (ac : Int) (ad : Int) : Co (fun k => spec_PutReport.j2 k x0 x6 x7 ae D J L Y aa ab ac ad) (spec_PutReport.J2 x0 x6 x7 ae D J L Y aa ab ac ad) := Co.base (fun k => (spec_PutReport.mono_l k).2.1 _ _ _ _ _ _ _ _ _ _ _ _)
noncomputable def spec_PutReport.J3 (x0 : List (S29)) (x6 : Int) (x7 : List (S29)) (ab : Int) (ac : Int) (ad : List Int) (ae : Int) (af : Int) (ag : List Int) (ah : Int) (ai : Int) : Option ((List (S29)) × Bool) := lim (fun k => spec_PutReport.j3 k x0 x6 x7 ab ac ad ae af ag ah ai)
theorem spec_PutReport.J3_co (x0 : List (S29)) (x6 : Int) (x7 : List (S29)) (ab : Int) (ac : Int) (ad : List Int) (ae : Int) (af : Int) (ag : List Int) (ah : Int) (ai : Int) : Co (fun k => spec_PutReport.j3 k x0 x6 x7 ab ac ad ae af ag ah ai) (spec_PutReport.J3 x0 x6 x7 ab ac ad ae af ag ah ai) := Co.base (fun k => (spec_PutReport.mono_l k).2.2.1 _ _ _ _ _ _ _ _ _ _ _)
noncomputable def spec_PutReport.L0 (x0 : List (S29)) (x6 : Int) (D : Int) (J : Int) (L : List Int) (Y : Int) (aa : Int) (ab : List Int) (ac : Int) (ad : Int) : Option ((List (S29)) × Bool) := lim (fun k => spec_PutReport.l0 k x0 x6 D J L Y aa ab ac ad)
theorem spec_PutReport.L0_co (x0 : List (S29)) (x6 : Int) (D : Int) (J : Int) (L : List Int) (Y : Int) (aa : Int) (ab : List Int) (ac : Int) (ad : Int) : Co (fun k => spec_PutReport.l0 k x0 x6 D J L Y aa ab ac ad) (spec_PutReport.L0 x0 x6 D J L Y aa ab ac ad) := Co.base (fun k => (spec_PutReport.mono_l k).2.2.2 _ _ _ _ _ _ _ _ _ _)
noncomputable def spec_PutReport.F (l0 : List (S29)) (a1_0 : Int) (a1_1 : Int) (l1_2 : List Int) (a1_3 : Int) (a1_4 : Int) (l1_5 : List Int) (a1_6 : Int) (a1_7 : Int) : Option ((List (S29)) × Bool) := lim (fun k => spec_PutReport.f k l0 a1_0 a1_1 l1_2 a1_3 a1_4 l1_5 a1_6 a1_7)
theorem spec_PutReport.F_co (l0 : List (S29)) (a1_0 : Int) (a1_1 : Int) (l1_2 : List Int) (a1_3 : Int) (a1_4 : Int) (l1_5 : List Int) (a1_6 : Int) (a1_7 : Int) : Co (fun k => spec_PutReport.f k l0 a1_0 a1_1 l1_2 a1_3 a1_4 l1_5 a1_6 a1_7) (spec_PutReport.F l0 a1_0 a1_1 l1_2 a1_3 a1_4 l1_5 a1_6 a1_7) := Co.base (fun k => spec_PutReport.mono _ _ _ _ _ _ _ _ _ k)
theorem spec_PutReport.J1_eq (x0 : List (S29)) (x6 : Int) (J : Int) (L : Int) (Y : List Int) (aa : Int) (ab : Int) (ac : List Int) (ad : Int) (ae : Int) : spec_PutReport.J1 x0 x6 J L Y aa ab ac ad ae = (if 0 ≤ x6 then (if x6 ≤ (x0.length : Int) then ((some (x0.drop (x6 : Int).toNat : List (S29))).bind fun D => (if (D.length : Int) > 0 then (if 0 < (D.length : Int) then (spec_PutReport.J2 x0 x6 D (((rd_T29 D 0).f0) == J) J L Y aa ab ac ad ae) else (none)) else (spec_PutReport.J2 x0 x6 D false J L Y aa ab ac ad ae))) else (none)) else (none)) := by
  refine Co.step (spec_PutReport.J1_co x0 x6 J L Y aa ab ac ad ae) (h := fun k => spec_PutReport.j1 (k + 1) x0 x6 J L Y aa ab ac ad ae) (fun _ => rfl) ?_
  simp only [spec_PutReport.j1]
  repeat' first | (with_reducible exact Co.const _) | (with_reducible exact spec_PutReport.J2_co _ _ _ _ _ _ _ _ _ _ _ _) | (with_reducible refine Co.ite ?_ ?_) | (with_reducible refine Co.bind ?_ (fun _ => ?_))
theorem spec_PutReport.J2_eq (x0 : List (S29)) (x6 : Int) (x7 : List (S29)) (ae : Bool) (D : Int) (J : Int) (L : List Int) (Y : Int) (aa : Int) (ab : List Int) (ac : Int) (ad : Int) : spec_PutReport.J2 x0 x6 x7 ae D J L Y aa ab ac ad = (if ae = true then (if 1 ≤ (x7.length : Int) then (spec_PutReport.J3 x0 x6 (x7.drop 1) D J L Y aa ab ac ad) else (none)) else (spec_PutReport.J3 x0 x6 x7 D J L Y aa ab ac ad)) := by
  refine Co.step (spec_PutReport.J2_co x0 x6 x7 ae D J L Y aa ab ac ad) (h := fun k => spec_PutReport.j2 (k + 1) x0 x6 x7 ae D J L Y aa ab ac ad) (fun _ => rfl) ?_
  simp only [spec_PutReport.j2]
  repeat' first | (with_reducible exact Co.const _) | (with_reducible exact spec_PutReport.J3_co _ _ _ _ _ _ _ _ _ _ _) | (with_reducible refine Co.ite ?_ ?_) | (with_reducible refine Co.bind ?_ (fun _ => ?_))
theorem spec_PutReport.J3_eq (x0 : List (S29)) (x6 : Int) (x7 : List (S29)) (ab : Int) (ac : Int) (ad : List Int) (ae : Int) (af : Int) (ag : List Int) (ah : Int) (ai : Int) : spec_PutReport.J3 x0 x6 x7 ab ac ad ae af ag ah ai = (if 0 ≤ x6 then (if x6 ≤ (x0.length : Int) then ((spec_l7Copy.F (x0.take (x6 : Int).toNat)).bind fun J => ((spec_l7Report.f ab ac ad ae af ag ah ai).bind fun D => (if J.length < 1466015503701 then ((some (J ++ [(⟨D.1, D.2.1, D.2.2.1, D.2.2.2.1, D.2.2.2.2.1, D.2.2.2.2.2.1, (⟨D.2.2.2.2.2.2.1, D.2.2.2.2.2.2.2⟩ : S27)⟩ : S29)] : List (S29))).bind fun L => ((spec_l7Copy.F x7).bind fun Y => (if L.length + Y.length < 1466015503701 then ((some (L ++ Y : List (S29))).bind fun aa => ((spec_AreReports.F aa).bind fun aj => (if aj = true then (some (aa, true)) else ((spec_l7Copy.F x0).bind fun ak => (some (ak, false)))))) else (none)))) else (none)))) else (none)) else (none)) := by
  refine Co.step (spec_PutReport.J3_co x0 x6 x7 ab ac ad ae af ag ah ai) (h := fun k => spec_PutReport.j3 (k + 1) x0 x6 x7 ab ac ad ae af ag ah ai) (fun _ => rfl) ?_
  simp only [spec_PutReport.j3]
  repeat' first | (with_reducible exact Co.const _) | (with_reducible exact spec_AreReports.F_co _) | (with_reducible exact spec_l7Copy.F_co _) | (with_reducible refine Co.ite ?_ ?_) | (with_reducible refine Co.bind ?_ (fun _ => ?_))
theorem spec_PutReport.L0_eq (x0 : List (S29)) (x6 : Int) (D : Int) (J : Int) (L : List Int) (Y : Int) (aa : Int) (ab : List Int) (ac : Int) (ad : Int) : spec_PutReport.L0 x0 x6 D J L Y aa ab ac ad = (if x6 < (x0.length : Int) then (if 0 ≤ x6 then (if ((rd_T29 x0 x6).f0) < D then (spec_PutReport.L0 x0 (wrap64 (x6 + 1)) D J L Y aa ab ac ad) else (spec_PutReport.J1 x0 x6 D J L Y aa ab ac ad)) else (none)) else (spec_PutReport.J1 x0 x6 D J L Y aa ab ac ad)) := by
  refine Co.step (spec_PutReport.L0_co x0 x6 D J L Y aa ab ac ad) (h := fun k => spec_PutReport.l0 (k + 1) x0 x6 D J L Y aa ab ac ad) (fun _ => rfl) ?_
  simp only [spec_PutReport.l0]
  repeat' first | (with_reducible exact Co.const _) | (with_reducible exact spec_PutReport.J1_co _ _ _ _ _ _ _ _ _ _) | (with_reducible exact spec_PutReport.L0_co _ _ _ _ _ _ _ _ _ _) | (with_reducible refine Co.ite ?_ ?_) | (with_reducible refine Co.bind ?_ (fun _ => ?_))
theorem spec_PutReport.F_eq (l0 : List (S29)) (a1_0 : Int) (a1_1 : Int) (l1_2 : List Int) (a1_3 : Int) (a1_4 : Int) (l1_5 : List Int) (a1_6 : Int) (a1_7 : Int) : spec_PutReport.F l0 a1_0 a1_1 l1_2 a1_3 a1_4 l1_5 a1_6 a1_7 = (spec_PutReport.L0 l0 0 a1_0 a1_1 l1_2 a1_3 a1_4 l1_5 a1_6 a1_7) := by
  refine Co.same (spec_PutReport.F_co l0 a1_0 a1_1 l1_2 a1_3 a1_4 l1_5 a1_6 a1_7) (h := fun k => spec_PutReport.f k l0 a1_0 a1_1 l1_2 a1_3 a1_4 l1_5 a1_6 a1_7) (fun _ => rfl) ?_
  unfold spec_PutReport.f
  repeat' first | (with_reducible exact Co.const _) | (with_reducible exact spec_PutReport.L0_co _ _ _ _ _ _ _ _ _ _) | (with_reducible refine Co.ite ?_ ?_) | (with_reducible refine Co.bind ?_ (fun _ => ?_))

noncomputable def laws_toIntS.L0 (x0 : List Int) (x3 : List Int) (x4 : Int) : Option (List Int) := lim (fun k => laws_toIntS.l0 k x0 x3 x4)
theorem laws_toIntS.L0_co (x0 : List Int) (x3 : List Int) (x4 : Int) : Co (fun k => laws_toIntS.l0 k x0 x3 x4) (laws_toIntS.L0 x0 x3 x4) := Co.base (fun k => (laws_toIntS.mono_l k) _ _ _)
noncomputable def laws_toIntS.F (l0 : List Int) : Option (List Int) := lim (fun k => laws_toIntS.f k l0)
theorem laws_toIntS.F_co (l0 : List Int) : Co (fun k => laws_toIntS.f k l0) (laws_toIntS.F l0) := Co.base (fun k => laws_toIntS.mono _ k)
theorem laws_toIntS.L0_eq (x0 : List Int) (x3 : List Int) (x4 : Int) : laws_toIntS.L0 x0 x3 x4 = (if x4 < (x0.length : Int) then (if 0 ≤ x4 then (if x4 < (x3.length : Int) then (laws_toIntS.L0 x0 (x3.set (x4 : Int).toNat (rd x0 x4)) (wrap64 (x4 + 1))) else (none)) else (none)) else (some x3)) := by
  refine Co.step (laws_toIntS.L0_co x0 x3 x4) (h := fun k => laws_toIntS.l0 (k + 1) x0 x3 x4) (fun _ => rfl) ?_
  simp only [laws_toIntS.l0]
  repeat' first | (with_reducible exact Co.const _) | (with_reducible exact laws_toIntS.L0_co _ _ _) | (with_reducible refine Co.ite ?_ ?_) | (with_reducible refine Co.bind ?_ (fun _ => ?_))
theorem laws_toIntS.F_eq (l0 : List Int) : laws_toIntS.F l0 = (if 0 ≤ (l0.length : Int) then (if ((l0.length : Int) : Int).toNat ≤ 35184372088832 then (laws_toIntS.L0 l0 (List.replicate ((l0.length : Int) : Int).toNat 0) 0) else (none)) else (none)) := by
  refine Co.same (laws_toIntS.F_co l0) (h := fun k => laws_toIntS.f k l0) (fun _ => rfl) ?_
  unfold laws_toIntS.f
  repeat' first | (with_reducible exact Co.const _) | (with_reducible exact laws_toIntS.L0_co _ _ _) | (with_reducible refine Co.ite ?_ ?_) | (with_reducible refine Co.bind ?_ (fun _ => ?_))

noncomputable def laws_toReport.F (a0_0 : Int) (a0_1 : Int) (l0_2 : List Int) (a0_3 : Int) (a0_4 : Int) (l0_5 : List Int) (a0_6 : Int) (a0_7 : Int) : Option (Int × Int × List Int × Int × Int × List Int × Int × Int) := lim (fun k => laws_toReport.f k a0_0 a0_1 l0_2 a0_3 a0_4 l0_5 a0_6 a0_7)
theorem laws_toReport.F_co (a0_0 : Int) (a0_1 : Int) (l0_2 : List Int) (a0_3 : Int) (a0_4 : Int) (l0_5 : List Int) (a0_6 : Int) (a0_7 : Int) : Co (fun k => laws_toReport.f k a0_0 a0_1 l0_2 a0_3 a0_4 l0_5 a0_6 a0_7) (laws_toReport.F a0_0 a0_1 l0_2 a0_3 a0_4 l0_5 a0_6 a0_7) := Co.base (fun k => laws_toReport.mono _ _ _ _ _ _ _ _ k)
theorem laws_toReport.F_eq (a0_0 : Int) (a0_1 : Int) (l0_2 : List Int) (a0_3 : Int) (a0_4 : Int) (l0_5 : List Int) (a0_6 : Int) (a0_7 : Int) : laws_toReport.F a0_0 a0_1 l0_2 a0_3 a0_4 l0_5 a0_6 a0_7 = ((laws_toIntS.F l0_2).bind fun t316 => ((laws_toIntS.F l0_5).bind fun t319 => ((laws_toSpan.f a0_6 a0_7).bind fun bt322 => (some (a0_0, a0_1, t316, a0_3, a0_4, t319, bt322.1, bt322.2))))) := by
  refine Co.same (laws_toReport.F_co a0_0 a0_1 l0_2 a0_3 a0_4 l0_5 a0_6 a0_7) (h := fun k => laws_toReport.f k a0_0 a0_1 l0_2 a0_3 a0_4 l0_5 a0_6 a0_7) (fun _ => rfl) ?_
  unfold laws_toReport.f
  repeat' first | (with_reducible exact Co.const _) | (with_reducible exact laws_toIntS.F_co _) | (with_reducible refine Co.ite ?_ ?_) | (with_reducible refine Co.bind ?_ (fun _ => ?_))

noncomputable def laws_toReportS.L0 (x0 : List (S44)) (x3 : List (S29)) (x4 : Int) : Option ((List (S29))) := lim (fun k => laws_toReportS.l0 k x0 x3 x4)
theorem laws_toReportS.L0_co (x0 : List (S44)) (x3 : List (S29)) (x4 : Int) : Co (fun k => laws_toReportS.l0 k x0 x3 x4) (laws_toReportS.L0 x0 x3 x4) := Co.base (fun k => (laws_toReportS.mono_l k) _ _ _)
noncomputable def laws_toReportS.F (l0 : List (S44)) : Option ((List (S29))) := lim (fun k => laws_toReportS.f k l0)
theorem laws_toReportS.F_co (l0 : List (S44)) : Co (fun k => laws_toReportS.f k l0) (laws_toReportS.F l0) := Co.base (fun k => laws_toReportS.mono _ k)
theorem laws_toReportS.L0_eq (x0 : List (S44)) (x3 : List (S29)) (x4 : Int) : laws_toReportS.L0 x0 x3 x4 = (if x4 < (x0.length : Int) then (if 0 ≤ x4 then ((laws_toReport.F ((rd_T44 x0 x4).f0) ((rd_T44 x0 x4).f1) ((rd_T44 x0 x4).f2) ((rd_T44 x0 x4).f3) ((rd_T44 x0 x4).f4) ((rd_T44 x0 x4).f5) ((rd_T44 x0 x4).f6.f0) ((rd_T44 x0 x4).f6.f1)).bind fun D => (if x4 < (x3.length : Int) then (laws_toReportS.L0 x0 (x3.set (x4 : Int).toNat (⟨D.1, D.2.1, D.2.2.1, D.2.2.2.1, D.2.2.2.2.1, D.2.2.2.2.2.1, (⟨D.2.2.2.2.2.2.1, D.2.2.2.2.2.2.2⟩ : S27)⟩ : S29)) (wrap64 (x4 + 1))) else (none))) else (none)) else (some x3)) := by
  refine Co.step (laws_toReportS.L0_co x0 x3 x4) (h := fun k => laws_toReportS.l0 (k + 1) x0 x3 x4) (fun _ => rfl) ?_
  simp only [laws_toReportS.l0]
  repeat' first | (with_reducible exact Co.const _) | (with_reducible exact laws_toReport.F_co _ _ _ _ _ _ _ _) | (with_reducible exact laws_toReportS.L0_co _ _ _) | (with_reducible refine Co.ite ?_ ?_) | (with_reducible refine Co.bind ?_ (fun _ => ?_))
theorem laws_toReportS.F_eq (l0 : List (S44)) : laws_toReportS.F l0 = (if 0 ≤ (l0.length : Int) then (if ((l0.length : Int) : Int).toNat ≤ 2932031007402 then (laws_toReportS.L0 l0 (List.replicate ((l0.length : Int) : Int).toNat z29) 0) else (none)) else (none)) := by
  refine Co.same (laws_toReportS.F_co l0) (h := fun k => laws_toReportS.f k l0) (fun _ => rfl) ?_
  unfold laws_toReportS.f
  repeat' first | (with_reducible exact Co.const _) | (with_reducible exact laws_toReportS.L0_co _ _ _) | (with_reducible refine Co.ite ?_ ?_) | (with_reducible refine Co.bind ?_ (fun _ => ?_))

noncomputable def laws_eqIntS.L0 (x0 : List Int) (x1 : List Int) (x5 : Int) : Option (Bool) := lim (fun k => laws_eqIntS.l0 k x0 x1 x5)
theorem laws_eqIntS.L0_co (x0 : List Int) (x1 : List Int) (x5 : Int) : Co (fun k => laws_eqIntS.l0 k x0 x1 x5) (laws_eqIntS.L0 x0 x1 x5) := Co.base (fun k => (laws_eqIntS.mono_l k) _ _ _)
noncomputable def laws_eqIntS.F (l0 : List Int) (l1 : List Int) : Option (Bool) := lim (fun k => laws_eqIntS.f k l0 l1)
theorem laws_eqIntS.F_co (l0 : List Int) (l1 : List Int) : Co (fun k => laws_eqIntS.f k l0 l1) (laws_eqIntS.F l0 l1) := Co.base (fun k => laws_eqIntS.mono _ _ k)
theorem laws_eqIntS.L0_eq (x0 : List Int) (x1 : List Int) (x5 : Int) : laws_eqIntS.L0 x0 x1 x5 = (if x5 < (x0.length : Int) then (if 0 ≤ x5 then (if x5 < (x1.length : Int) then (if (rd x0 x5) = (rd x1 x5) then (laws_eqIntS.L0 x0 x1 (wrap64 (x5 + 1))) else (some false)) else (none)) else (none)) else (some true)) := by
  refine Co.step (laws_eqIntS.L0_co x0 x1 x5) (h := fun k => laws_eqIntS.l0 (k + 1) x0 x1 x5) (fun _ => rfl) ?_
  simp only [laws_eqIntS.l0]
  repeat' first | (with_reducible exact Co.const _) | (with_reducible exact laws_eqIntS.L0_co _ _ _) | (with_reducible refine Co.ite ?_ ?_) | (with_reducible refine Co.bind ?_ (fun _ => ?_))
theorem laws_eqIntS.F_eq (l0 : List Int) (l1 : List Int) : laws_eqIntS.F l0 l1 = (if (l0.length : Int) = (l1.length : Int) then (laws_eqIntS.L0 l0 l1 0) else (some false)) := by
  refine Co.same (laws_eqIntS.F_co l0 l1) (h := fun k => laws_eqIntS.f k l0 l1) (fun _ => rfl) ?_
  unfold laws_eqIntS.f
  repeat' first | (with_reducible exact Co.const _) | (with_reducible exact laws_eqIntS.L0_co _ _ _) | (with_reducible refine Co.ite ?_ ?_) | (with_reducible refine Co.bind ?_ (fun _ => ?_))

noncomputable def laws_eqReport.F (a0_0 : Int) (a0_1 : Int) (l0_2 : List Int) (a0_3 : Int) (a0_4 : Int) (l0_5 : List Int) (a0_6 : Int) (a0_7 : Int) (a1_0 : Int) (a1_1 : Int) (l1_2 : List Int) (a1_3 : Int) (a1_4 : Int) (l1_5 : List Int) (a1_6 : Int) (a1_7 : Int) : Option (Bool) := lim (fun k => laws_eqReport.f k a0_0 a0_1 l0_2 a0_3 a0_4 l0_5 a0_6 a0_7 a1_0 a1_1 l1_2 a1_3 a1_4 l1_5 a1_6 a1_7)
theorem laws_eqReport.F_co (a0_0 : Int) (a0_1 : Int) (l0_2 : List Int) (a0_3 : Int) (a0_4 : Int) (l0_5 : List Int) (a0_6 : Int) (a0_7 : Int) (a1_0 : Int) (a1_1 : Int) (l1_2 : List Int) (a1_3 : Int) (a1_4 : Int) (l1_5 : List Int) (a1_6 : Int) (a1_7 : Int) : Co (fun k => laws_eqReport.f k a0_0 a0_1 l0_2 a0_3 a0_4 l0_5 a0_6 a0_7 a1_0 a1_1 l1_2 a1_3 a1_4 l1_5 a1_6 a1_7) (laws_eqReport.F a0_0 a0_1 l0_2 a0_3 a0_4 l0_5 a0_6 a0_7 a1_0 a1_1 l1_2 a1_3 a1_4 l1_5 a1_6 a1_7) := Co.base (fun k => laws_eqReport.mono _ _ _ _ _ _ _ _ _ _ _ _ _ _ _ _ k)
theorem laws_eqReport.F_eq (a0_0 : Int) (a0_1 : Int) (l0_2 : List Int) (a0_3 : Int) (a0_4 : Int) (l0_5 : List Int) (a0_6 : Int) (a0_7 : Int) (a1_0 : Int) (a1_1 : Int) (l1_2 : List Int) (a1_3 : Int) (a1_4 : Int) (l1_5 : List Int) (a1_6 : Int) (a1_7 : Int) : laws_eqReport.F a0_0 a0_1 l0_2 a0_3 a0_4 l0_5 a0_6 a0_7 a1_0 a1_1 l1_2 a1_3 a1_4 l1_5 a1_6 a1_7 = (if a0_0 = a1_0 then (if a0_1 = a1_1 then ((laws_eqIntS.F l0_2 l1_2).bind fun D => (if D = true then (if a0_3 = a1_3 then (if a0_4 = a1_4 then ((laws_eqIntS.F l0_5 l1_5).bind fun J => (if J = true then ((laws_eqSpan.f a0_6 a0_7 a1_6 a1_7).bind fun L => (if L = true then (some true) else (some false))) else (some false))) else (some false)) else (some false)) else (some false))) else (some false)) else (some false)) := by
  refine Co.same (laws_eqReport.F_co a0_0 a0_1 l0_2 a0_3 a0_4 l0_5 a0_6 a0_7 a1_0 a1_1 l1_2 a1_3 a1_4 l1_5 a1_6 a1_7) (h := fun k => laws_eqReport.f k a0_0 a0_1 l0_2 a0_3 a0_4 l0_5 a0_6 a0_7 a1_0 a1_1 l1_2 a1_3 a1_4 l1_5 a1_6 a1_7) (fun _ => rfl) ?_
  unfold laws_eqReport.f
  repeat' first | (with_reducible exact Co.const _) | (with_reducible exact laws_eqIntS.F_co _ _) | (with_reducible refine Co.ite ?_ ?_) | (with_reducible refine Co.bind ?_ (fun _ => ?_))

noncomputable def laws_eqReportS.L0 (x0 : List (S29)) (x1 : List (S29)) (x5 : Int) : Option (Bool) := lim (fun k => laws_eqReportS.l0 k x0 x1 x5)
theorem laws_eqReportS.L0_co (x0 : List (S29)) (x1 : List (S29)) (x5 : Int) : Co (fun k => laws_eqReportS.l0 k x0 x1 x5) (laws_eqReportS.L0 x0 x1 x5) := Co.base (fun k => (laws_eqReportS.mono_l k) _ _ _)
noncomputable def laws_eqReportS.F (l0 : List (S29)) (l1 : List (S29)) : Option (Bool) := lim (fun k => laws_eqReportS.f k l0 l1)
theorem laws_eqReportS.F_co (l0 : List (S29)) (l1 : List (S29)) : Co (fun k => laws_eqReportS.f k l0 l1) (laws_eqReportS.F l0 l1) := Co.base (fun k => laws_eqReportS.mono _ _ k)
theorem laws_eqReportS.L0_eq (x0 : List (S29)) (x1 : List (S29)) (x5 : Int) : laws_eqReportS.L0 x0 x1 x5 = (if x5 < (x0.length : Int) then (if 0 ≤ x5 then (if x5 < (x1.length : Int) then ((laws_eqReport.F ((rd_T29 x0 x5).f0) ((rd_T29 x0 x5).f1) ((rd_T29 x0 x5).f2) ((rd_T29 x0 x5).f3) ((rd_T29 x0 x5).f4) ((rd_T29 x0 x5).f5) ((rd_T29 x0 x5).f6.f0) ((rd_T29 x0 x5).f6.f1) ((rd_T29 x1 x5).f0) ((rd_T29 x1 x5).f1) ((rd_T29 x1 x5).f2) ((rd_T29 x1 x5).f3) ((rd_T29 x1 x5).f4) ((rd_T29 x1 x5).f5) ((rd_T29 x1 x5).f6.f0) ((rd_T29 x1 x5).f6.f1)).bind fun D => (if D = true then (laws_eqReportS.L0 x0 x1 (wrap64 (x5 + 1))) else (some false))) else (none)) else (none)) else (some true)) := by
  refine Co.step (laws_eqReportS.L0_co x0 x1 x5) (h := fun k => laws_eqReportS.l0 (k + 1) x0 x1 x5) (fun _ => rfl) ?_
  simp only [laws_eqReportS.l0]
  repeat' first | (with_reducible exact Co.const _) | (with_reducible exact laws_eqReport.F_co _ _ _ _ _ _ _ _ _ _ _ _ _ _ _ _) | (with_reducible exact laws_eqReportS.L0_co _ _ _) | (with_reducible refine Co.ite ?_ ?_) | (with_reducible refine Co.bind ?_ (fun _ => ?_))
theorem laws_eqReportS.F_eq (l0 : List (S29)) (l1 : List (S29)) : laws_eqReportS.F l0 l1 = (if (l0.length : Int) = (l1.length : Int) then (laws_eqReportS.L0 l0 l1 0) else (some false)) := by
  refine Co.same (laws_eqReportS.F_co l0 l1) (h := fun k => laws_eqReportS.f k l0 l1) (fun _ => rfl) ?_
  unfold laws_eqReportS.f
  repeat' first | (with_reducible exact Co.const _) | (with_reducible exact laws_eqReportS.L0_co _ _ _) | (with_reducible refine Co.ite ?_ ?_) | (with_reducible refine Co.bind ?_ (fun _ => ?_))

noncomputable def laws_markIntS.L0 (x0 : List Int) (x1 : Int) (x5 : Int) : Option (Int × List Int) := lim (fun k => laws_markIntS.l0 k x0 x1 x5)
theorem laws_markIntS.L0_co (x0 : List Int) (x1 : Int) (x5 : Int) : Co (fun k => laws_markIntS.l0 k x0 x1 x5) (laws_markIntS.L0 x0 x1 x5) := Co.base (fun k => (laws_markIntS.mono_l k) _ _ _)
noncomputable def laws_markIntS.F (l0 : List Int) (a1 : Int) : Option (Int × List Int) := lim (fun k => laws_markIntS.f k l0 a1)
theorem laws_markIntS.F_co (l0 : List Int) (a1 : Int) : Co (fun k => laws_markIntS.f k l0 a1) (laws_markIntS.F l0 a1) := Co.base (fun k => laws_markIntS.mono _ _ k)
theorem laws_markIntS.L0_eq (x0 : List Int) (x1 : Int) (x5 : Int) : laws_markIntS.L0 x0 x1 x5 = (if x5 < (x0.length : Int) then (if 0 ≤ x5 then (laws_markIntS.L0 (x0.set (x5 : Int).toNat x1) (wrap64 (x1 + 1)) (wrap64 (x5 + 1))) else (none)) else (some (x1, x0))) := by
  refine Co.step (laws_markIntS.L0_co x0 x1 x5) (h := fun k => laws_markIntS.l0 (k + 1) x0 x1 x5) (fun _ => rfl) ?_
  simp only [laws_markIntS.l0]
  repeat' first | (with_reducible exact Co.const _) | (with_reducible exact laws_markIntS.L0_co _ _ _) | (with_reducible refine Co.ite ?_ ?_) | (with_reducible refine Co.bind ?_ (fun _ => ?_))
theorem laws_markIntS.F_eq (l0 : List Int) (a1 : Int) : laws_markIntS.F l0 a1 = (laws_markIntS.L0 l0 a1 0) := by
  refine Co.same (laws_markIntS.F_co l0 a1) (h := fun k => laws_markIntS.f k l0 a1) (fun _ => rfl) ?_
  unfold laws_markIntS.f
  repeat' first | (with_reducible exact Co.const _) | (with_reducible exact laws_markIntS.L0_co _ _ _) | (with_reducible refine Co.ite ?_ ?_) | (with_reducible refine Co.bind ?_ (fun _ => ?_))

noncomputable def laws_markReport.F (a0_0 : Int) (a0_1 : Int) (l0_2 : List Int) (a0_3 : Int) (a0_4 : Int) (l0_5 : List Int) (a0_6 : Int) (a0_7 : Int) (a1 : Int) : Option (Int × List Int × List Int) := lim (fun k => laws_markReport.f k a0_0 a0_1 l0_2 a0_3 a0_4 l0_5 a0_6 a0_7 a1)
theorem laws_markReport.F_co (a0_0 : Int) (a0_1 : Int) (l0_2 : List Int) (a0_3 : Int) (a0_4 : Int) (l0_5 : List Int) (a0_6 : Int) (a0_7 : Int) (a1 : Int) : Co (fun k => laws_markReport.f k a0_0 a0_1 l0_2 a0_3 a0_4 l0_5 a0_6 a0_7 a1) (laws_markReport.F a0_0 a0_1 l0_2 a0_3 a0_4 l0_5 a0_6 a0_7 a1) := Co.base (fun k => laws_markReport.mono _ _ _ _ _ _ _ _ _ k)
theorem laws_markReport.F_eq (a0_0 : Int) (a0_1 : Int) (l0_2 : List Int) (a0_3 : Int) (a0_4 : Int) (l0_5 : List Int) (a0_6 : Int) (a0_7 : Int) (a1 : Int) : laws_markReport.F a0_0 a0_1 l0_2 a0_3 a0_4 l0_5 a0_6 a0_7 a1 = ((laws_markIntS.F l0_2 a1).bind fun bt355 => ((laws_markIntS.F l0_5 bt355.1).bind fun bt357 => (some (bt357.1, bt355.2, bt357.2)))) := by
  refine Co.same (laws_markReport.F_co a0_0 a0_1 l0_2 a0_3 a0_4 l0_5 a0_6 a0_7 a1) (h := fun k => laws_markReport.f k a0_0 a0_1 l0_2 a0_3 a0_4 l0_5 a0_6 a0_7 a1) (fun _ => rfl) ?_
  unfold laws_markReport.f
  repeat' first | (with_reducible exact Co.const _) | (with_reducible exact laws_markIntS.F_co _ _) | (with_reducible refine Co.ite ?_ ?_) | (with_reducible refine Co.bind ?_ (fun _ => ?_))

noncomputable def laws_heldIntS.L0 (x0 : List Int) (x1 : Int) (x5 : Int) : Option (Int) := lim (fun k => laws_heldIntS.l0 k x0 x1 x5)
theorem laws_heldIntS.L0_co (x0 : List Int) (x1 : Int) (x5 : Int) : Co (fun k => laws_heldIntS.l0 k x0 x1 x5) (laws_heldIntS.L0 x0 x1 x5) := Co.base (fun k => (laws_heldIntS.mono_l k) _ _ _)
noncomputable def laws_heldIntS.F (l0 : List Int) (a1 : Int) : Option (Int) := lim (fun k => laws_heldIntS.f k l0 a1)
theorem laws_heldIntS.F_co (l0 : List Int) (a1 : Int) : Co (fun k => laws_heldIntS.f k l0 a1) (laws_heldIntS.F l0 a1) := Co.base (fun k => laws_heldIntS.mono _ _ k)
theorem laws_heldIntS.L0_eq (x0 : List Int) (x1 : Int) (x5 : Int) : laws_heldIntS.L0 x0 x1 x5 = (if x5 < (x0.length : Int) then (if 0 ≤ x5 then (if (rd x0 x5) = x1 then (laws_heldIntS.L0 x0 (wrap64 (x1 + 1)) (wrap64 (x5 + 1))) else (some (-1))) else (none)) else (some x1)) := by
  refine Co.step (laws_heldIntS.L0_co x0 x1 x5) (h := fun k => laws_heldIntS.l0 (k + 1) x0 x1 x5) (fun _ => rfl) ?_
  simp only [laws_heldIntS.l0]
  repeat' first | (with_reducible exact Co.const _) | (with_reducible exact laws_heldIntS.L0_co _ _ _) | (with_reducible refine Co.ite ?_ ?_) | (with_reducible refine Co.bind ?_ (fun _ => ?_))
theorem laws_heldIntS.F_eq (l0 : List Int) (a1 : Int) : laws_heldIntS.F l0 a1 = (laws_heldIntS.L0 l0 a1 0) := by
  refine Co.same (laws_heldIntS.F_co l0 a1) (h := fun k => laws_heldIntS.f k l0 a1) (fun _ => rfl) ?_
  unfold laws_heldIntS.f
  repeat' first | (with_reducible exact Co.const _) | (with_reducible exact laws_heldIntS.L0_co _ _ _) | (with_reducible refine Co.ite ?_ ?_) | (with_reducible refine Co.bind ?_ (fun _ => ?_))

noncomputable def laws_heldReportS.L0 (x0 : List (S29)) (x1 : Int) (x5 : Int) : Option (Int) := lim (fun k => laws_heldReportS.l0 k x0 x1 x5)
theorem laws_heldReportS.L0_co (x0 : List (S29)) (x1 : Int) (x5 : Int) : Co (fun k => laws_heldReportS.l0 k x0 x1 x5) (laws_heldReportS.L0 x0 x1 x5) := Co.base (fun k => (laws_heldReportS.mono_l k) _ _ _)
noncomputable def laws_heldReportS.F (l0 : List (S29)) (a1 : Int) : Option (Int) := lim (fun k => laws_heldReportS.f k l0 a1)
theorem laws_heldReportS.F_co (l0 : List (S29)) (a1 : Int) : Co (fun k => laws_heldReportS.f k l0 a1) (laws_heldReportS.F l0 a1) := Co.base (fun k => laws_heldReportS.mono _ _ k)
theorem laws_heldReportS.L0_eq (x0 : List (S29)) (x1 : Int) (x5 : Int) : laws_heldReportS.L0 x0 x1 x5 = (if x5 < (x0.length : Int) then (if 0 ≤ x5 then (if ((rd_T29 x0 x5).f0) = x1 then (if ((rd_T29 x0 x5).f1) = (wrap64 (x1 + 1)) then ((laws_heldIntS.F ((rd_T29 x0 x5).f2) (wrap64 ((wrap64 (x1 + 1)) + 1))).bind fun D => (if D < 0 then (some (-1)) else (if ((rd_T29 x0 x5).f3) = D then (if ((rd_T29 x0 x5).f4) = (wrap64 (D + 1)) then ((laws_heldIntS.F ((rd_T29 x0 x5).f5) (wrap64 ((wrap64 (D + 1)) + 1))).bind fun J => (if J < 0 then (some (-1)) else (if ((rd_T29 x0 x5).f6.f0) = J then (if ((rd_T29 x0 x5).f6.f1) = (wrap64 (J + 1)) then (laws_heldReportS.L0 x0 (wrap64 ((wrap64 (J + 1)) + 1)) (wrap64 (x5 + 1))) else (some (-1))) else (some (-1))))) else (some (-1))) else (some (-1))))) else (some (-1))) else (some (-1))) else (none)) else (some x1)) := by
  refine Co.step (laws_heldReportS.L0_co x0 x1 x5) (h := fun k => laws_heldReportS.l0 (k + 1) x0 x1 x5) (fun _ => rfl) ?_
  simp only [laws_heldReportS.l0]
  repeat' first | (with_reducible exact Co.const _) | (with_reducible exact laws_heldIntS.F_co _ _) | (with_reducible exact laws_heldReportS.L0_co _ _ _) | (with_reducible refine Co.ite ?_ ?_) | (with_reducible refine Co.bind ?_ (fun _ => ?_))
theorem laws_heldReportS.F_eq (l0 : List (S29)) (a1 : Int) : laws_heldReportS.F l0 a1 = (laws_heldReportS.L0 l0 a1 0) := by
  refine Co.same (laws_heldReportS.F_co l0 a1) (h := fun k => laws_heldReportS.f k l0 a1) (fun _ => rfl) ?_
  unfold laws_heldReportS.f
  repeat' first | (with_reducible exact Co.const _) | (with_reducible exact laws_heldReportS.L0_co _ _ _) | (with_reducible refine Co.ite ?_ ?_) | (with_reducible refine Co.bind ?_ (fun _ => ?_))

noncomputable def laws_FnExactPutReport.F (l0 : List (S44)) (a1_0 : Int) (a1_1 : Int) (l1_2 : List Int) (a1_3 : Int) (a1_4 : Int) (l1_5 : List Int) (a1_6 : Int) (a1_7 : Int) : Option (Bool) := lim (fun k => laws_FnExactPutReport.f k l0 a1_0 a1_1 l1_2 a1_3 a1_4 l1_5 a1_6 a1_7)
theorem laws_FnExactPutReport.F_co (l0 : List (S44)) (a1_0 : Int) (a1_1 : Int) (l1_2 : List Int) (a1_3 : Int) (a1_4 : Int) (l1_5 : List Int) (a1_6 : Int) (a1_7 : Int) : Co (fun k => laws_FnExactPutReport.f k l0 a1_0 a1_1 l1_2 a1_3 a1_4 l1_5 a1_6 a1_7) (laws_FnExactPutReport.F l0 a1_0 a1_1 l1_2 a1_3 a1_4 l1_5 a1_6 a1_7) := Co.base (fun k => laws_FnExactPutReport.mono _ _ _ _ _ _ _ _ _ k)
theorem laws_FnExactPutReport.F_eq (l0 : List (S44)) (a1_0 : Int) (a1_1 : Int) (l1_2 : List Int) (a1_3 : Int) (a1_4 : Int) (l1_5 : List Int) (a1_6 : Int) (a1_7 : Int) : laws_FnExactPutReport.F l0 a1_0 a1_1 l1_2 a1_3 a1_4 l1_5 a1_6 a1_7 = ((laws_szReportS.F l0 1048576).bind fun a => (if a < 0 then (some true) else ((laws_szReport.f a1_0 a1_1 l1_2 a1_3 a1_4 l1_5 a1_6 a1_7 a).bind fun b => (if b < 0 then (some true) else ((laws_toReportS.F l0).bind fun X => ((laws_toReport.F a1_0 a1_1 l1_2 a1_3 a1_4 l1_5 a1_6 a1_7).bind fun D => ((spec_PutReport.F X D.1 D.2.1 D.2.2.1 D.2.2.2.1 D.2.2.2.2.1 D.2.2.2.2.2.1 D.2.2.2.2.2.2.1 D.2.2.2.2.2.2.2).bind fun L => ((impl_PutReport.F X D.1 D.2.1 D.2.2.1 D.2.2.2.1 D.2.2.2.2.1 D.2.2.2.2.2.1 D.2.2.2.2.2.2.1 D.2.2.2.2.2.2.2).bind fun Y => ((laws_eqReportS.F Y.1 L.1).bind fun e1 => ((laws_eqReportS.F X X).bind fun e2 => ((laws_eqReport.F D.1 D.2.1 D.2.2.1 D.2.2.2.1 D.2.2.2.2.1 D.2.2.2.2.2.1 D.2.2.2.2.2.2.1 D.2.2.2.2.2.2.2 D.1 D.2.1 D.2.2.1 D.2.2.2.1 D.2.2.2.2.1 D.2.2.2.2.2.1 D.2.2.2.2.2.2.1 D.2.2.2.2.2.2.2).bind fun e3 => ((laws_markReportS.f X 1).bind fun m => ((laws_markReport.F D.1 D.2.1 D.2.2.1 D.2.2.2.1 D.2.2.2.2.1 D.2.2.2.2.2.1 D.2.2.2.2.2.2.1 D.2.2.2.2.2.2.2 m).bind fun n => ((laws_markReportS.f Y.1 1).bind fun q => ((laws_heldReportS.F (mkList 1 Y.1) 1).bind fun v => (if e1 = true ∧ e2 = true ∧ e3 = true ∧ Y.2 = L.2 ∧ 0 ≤ n.1 ∧ v = q ∧ 0 ≤ q then (some true) else none)))))))))))))))) := by
  refine Co.same (laws_FnExactPutReport.F_co l0 a1_0 a1_1 l1_2 a1_3 a1_4 l1_5 a1_6 a1_7) (h := fun k => laws_FnExactPutReport.f k l0 a1_0 a1_1 l1_2 a1_3 a1_4 l1_5 a1_6 a1_7) (fun _ => rfl) ?_
  unfold laws_FnExactPutReport.f
  repeat' first | (with_reducible exact Co.const _) | (with_reducible exact impl_PutReport.F_co _ _ _ _ _ _ _ _ _) | (with_reducible exact laws_eqReport.F_co _ _ _ _ _ _ _ _ _ _ _ _ _ _ _ _) | (with_reducible exact laws_eqReportS.F_co _ _) | (with_reducible exact laws_heldReportS.F_co _ _) | (with_reducible exact laws_markReport.F_co _ _ _ _ _ _ _ _ _) | (with_reducible exact laws_szReportS.F_co _ _) | (with_reducible exact laws_toReport.F_co _ _ _ _ _ _ _ _) | (with_reducible exact laws_toReportS.F_co _) | (with_reducible exact spec_PutReport.F_co _ _ _ _ _ _ _ _ _) | (with_reducible refine Co.ite ?_ ?_) | (with_reducible refine Co.bind ?_ (fun _ => ?_))

end Go.Proofs.Ytfolhmompclmbaa.PFnExactPutReport.Pure
