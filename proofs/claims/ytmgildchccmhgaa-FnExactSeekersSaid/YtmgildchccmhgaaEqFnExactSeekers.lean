/-
  The printed functions that this law reaches, their rounds used up, and the equations that they meet.
-/
import Derived.Test.YtmgildchccmhgaaPFnExactSeekersx1
import Derived.Test.YtmgildchccmhgaaPFnExactSeekersx10
import Derived.Test.YtmgildchccmhgaaPFnExactSeekersx11
import Derived.Test.YtmgildchccmhgaaPFnExactSeekersx2
import Derived.Test.YtmgildchccmhgaaPFnExactSeekersx3
import Derived.Test.YtmgildchccmhgaaPFnExactSeekersx4
import Derived.Test.YtmgildchccmhgaaPFnExactSeekersx5
import Derived.Test.YtmgildchccmhgaaPFnExactSeekersx6
import Derived.Test.YtmgildchccmhgaaPFnExactSeekersx7
import Derived.Test.YtmgildchccmhgaaPFnExactSeekersx8
import Derived.Test.YtmgildchccmhgaaPFnExactSeekersx9
import Derived.Test.YtmgildchccmhgaaLim
namespace Go.Proofs.Ytmgildchccmhgaa.PFnExactSeekers.Pure
open Go.RowKit Go.Proofs.YtmgildchccmhgaaW.PrintWords Go.Proofs.YtmgildchccmhgaaW.PrintLast Go.Proofs.YtmgildchccmhgaaW.PrintMore Go.Proofs.Ytmgildchccmhgaa.PFnExactSeekers Go.Proofs.Ytmgildchccmhgaa.Lim
set_option linter.unusedVariables false
set_option maxRecDepth 100000

noncomputable def laws_szReportS.L0 (x0 : List (S45)) (x1 : Int) (x5 : Int) : Option (Int) := lim (fun k => laws_szReportS.l0 k x0 x1 x5)
theorem laws_szReportS.L0_co (x0 : List (S45)) (x1 : Int) (x5 : Int) : Co (fun k => laws_szReportS.l0 k x0 x1 x5) (laws_szReportS.L0 x0 x1 x5) := Co.base (fun k => (laws_szReportS.mono_l k) _ _ _)
noncomputable def laws_szReportS.F (l0 : List (S45)) (a1 : Int) : Option (Int) := lim (fun k => laws_szReportS.f k l0 a1)
theorem laws_szReportS.F_co (l0 : List (S45)) (a1 : Int) : Co (fun k => laws_szReportS.f k l0 a1) (laws_szReportS.F l0 a1) := Co.base (fun k => laws_szReportS.mono _ _ k)
theorem laws_szReportS.L0_eq (x0 : List (S45)) (x1 : Int) (x5 : Int) : laws_szReportS.L0 x0 x1 x5 = (if x5 < (x0.length : Int) then (if 0 ≤ x5 then ((laws_szReport.f ((rd_T45 x0 x5).f0) ((rd_T45 x0 x5).f1) ((rd_T45 x0 x5).f2) ((rd_T45 x0 x5).f3) ((rd_T45 x0 x5).f4) ((rd_T45 x0 x5).f5) ((rd_T45 x0 x5).f6.f0) ((rd_T45 x0 x5).f6.f1) x1).bind fun t105 => (if t105 < 0 then (some (-1)) else (laws_szReportS.L0 x0 t105 (wrap64 (x5 + 1))))) else (none)) else (some x1)) := by
  refine Co.step (laws_szReportS.L0_co x0 x1 x5) (h := fun k => laws_szReportS.l0 (k + 1) x0 x1 x5) (fun _ => rfl) ?_
  simp only [laws_szReportS.l0]
  repeat' first | (with_reducible exact Co.const _) | (with_reducible exact laws_szReportS.L0_co _ _ _) | (with_reducible refine Co.ite ?_ ?_) | (with_reducible refine Co.bind ?_ (fun _ => ?_))
theorem laws_szReportS.F_eq (l0 : List (S45)) (a1 : Int) : laws_szReportS.F l0 a1 = (if (wrap64 (a1 - (l0.length : Int))) < 0 then (some (-1)) else (laws_szReportS.L0 l0 (wrap64 (a1 - (l0.length : Int))) 0)) := by
  refine Co.same (laws_szReportS.F_co l0 a1) (h := fun k => laws_szReportS.f k l0 a1) (fun _ => rfl) ?_
  unfold laws_szReportS.f
  repeat' first | (with_reducible exact Co.const _) | (with_reducible exact laws_szReportS.L0_co _ _ _) | (with_reducible refine Co.ite ?_ ?_) | (with_reducible refine Co.bind ?_ (fun _ => ?_))

noncomputable def spec_l7Ids.L0 (x0 : List Int) (x1 : Int) (x2 : Int) (x7 : Int) : Option (Bool) := lim (fun k => spec_l7Ids.l0 k x0 x1 x2 x7)
theorem spec_l7Ids.L0_co (x0 : List Int) (x1 : Int) (x2 : Int) (x7 : Int) : Co (fun k => spec_l7Ids.l0 k x0 x1 x2 x7) (spec_l7Ids.L0 x0 x1 x2 x7) := Co.base (fun k => (spec_l7Ids.mono_l k) _ _ _ _)
noncomputable def spec_l7Ids.F (l0 : List Int) (a1 : Int) (a2 : Int) : Option (Bool) := lim (fun k => spec_l7Ids.f k l0 a1 a2)
theorem spec_l7Ids.F_co (l0 : List Int) (a1 : Int) (a2 : Int) : Co (fun k => spec_l7Ids.f k l0 a1 a2) (spec_l7Ids.F l0 a1 a2) := Co.base (fun k => spec_l7Ids.mono _ _ _ k)
theorem spec_l7Ids.L0_eq (x0 : List Int) (x1 : Int) (x2 : Int) (x7 : Int) : spec_l7Ids.L0 x0 x1 x2 x7 = (if x7 < (x0.length : Int) then (if 0 ≤ x7 then ((spec_l1In.f (rd x0 x7) x1 x2).bind fun t107 => (if t107 = true then (if x7 > 0 then (if 0 ≤ (wrap64 (x7 - 1)) then (if (wrap64 (x7 - 1)) < (x0.length : Int) then (if (rd x0 (wrap64 (x7 - 1))) ≥ (rd x0 x7) then (some false) else (spec_l7Ids.L0 x0 x1 x2 (wrap64 (x7 + 1)))) else (none)) else (none)) else (spec_l7Ids.L0 x0 x1 x2 (wrap64 (x7 + 1)))) else (some false))) else (none)) else (some true)) := by
  refine Co.step (spec_l7Ids.L0_co x0 x1 x2 x7) (h := fun k => spec_l7Ids.l0 (k + 1) x0 x1 x2 x7) (fun _ => rfl) ?_
  simp only [spec_l7Ids.l0]
  repeat' first | (with_reducible exact Co.const _) | (with_reducible exact spec_l7Ids.L0_co _ _ _ _) | (with_reducible refine Co.ite ?_ ?_) | (with_reducible refine Co.bind ?_ (fun _ => ?_))
theorem spec_l7Ids.F_eq (l0 : List Int) (a1 : Int) (a2 : Int) : spec_l7Ids.F l0 a1 a2 = (spec_l7Ids.L0 l0 a1 a2 0) := by
  refine Co.same (spec_l7Ids.F_co l0 a1 a2) (h := fun k => spec_l7Ids.f k l0 a1 a2) (fun _ => rfl) ?_
  unfold spec_l7Ids.f
  repeat' first | (with_reducible exact Co.const _) | (with_reducible exact spec_l7Ids.L0_co _ _ _ _) | (with_reducible refine Co.ite ?_ ?_) | (with_reducible refine Co.bind ?_ (fun _ => ?_))

noncomputable def spec_IsReport.F (a0_0 : Int) (a0_1 : Int) (l0_2 : List Int) (a0_3 : Int) (a0_4 : Int) (l0_5 : List Int) (a0_6 : Int) (a0_7 : Int) : Option (Bool) := lim (fun k => spec_IsReport.f k a0_0 a0_1 l0_2 a0_3 a0_4 l0_5 a0_6 a0_7)
theorem spec_IsReport.F_co (a0_0 : Int) (a0_1 : Int) (l0_2 : List Int) (a0_3 : Int) (a0_4 : Int) (l0_5 : List Int) (a0_6 : Int) (a0_7 : Int) : Co (fun k => spec_IsReport.f k a0_0 a0_1 l0_2 a0_3 a0_4 l0_5 a0_6 a0_7) (spec_IsReport.F a0_0 a0_1 l0_2 a0_3 a0_4 l0_5 a0_6 a0_7) := Co.base (fun k => spec_IsReport.mono _ _ _ _ _ _ _ _ k)
theorem spec_IsReport.F_eq (a0_0 : Int) (a0_1 : Int) (l0_2 : List Int) (a0_3 : Int) (a0_4 : Int) (l0_5 : List Int) (a0_6 : Int) (a0_7 : Int) : spec_IsReport.F a0_0 a0_1 l0_2 a0_3 a0_4 l0_5 a0_6 a0_7 = ((spec_l1In.f a0_0 1 999).bind fun D => (if D = true then ((spec_l1In.f a0_1 1 8).bind fun J => (if J = true then ((spec_l7Ids.F l0_2 0 7).bind fun L => (if L = true then (if a0_3 ≥ 1 then (if a0_3 ≤ a0_4 then (if a0_4 ≤ 50 then ((spec_l7Ids.F l0_5 1 30).bind fun Y => (if Y = true then (if (l0_5.length : Int) ≤ 10 then ((spec_IsSpan.f a0_6 a0_7).bind fun aa => (some aa)) else (some false)) else (some false))) else (some false)) else (some false)) else (some false)) else (some false))) else (some false))) else (some false))) := by
  refine Co.same (spec_IsReport.F_co a0_0 a0_1 l0_2 a0_3 a0_4 l0_5 a0_6 a0_7) (h := fun k => spec_IsReport.f k a0_0 a0_1 l0_2 a0_3 a0_4 l0_5 a0_6 a0_7) (fun _ => rfl) ?_
  unfold spec_IsReport.f
  repeat' first | (with_reducible exact Co.const _) | (with_reducible exact spec_l7Ids.F_co _ _ _) | (with_reducible refine Co.ite ?_ ?_) | (with_reducible refine Co.bind ?_ (fun _ => ?_))

noncomputable def spec_AreReports.L0 (x0 : List (S50)) (x3 : Int) : Option (Bool) := lim (fun k => spec_AreReports.l0 k x0 x3)
theorem spec_AreReports.L0_co (x0 : List (S50)) (x3 : Int) : Co (fun k => spec_AreReports.l0 k x0 x3) (spec_AreReports.L0 x0 x3) := Co.base (fun k => (spec_AreReports.mono_l k) _ _)
noncomputable def spec_AreReports.F (l0 : List (S50)) : Option (Bool) := lim (fun k => spec_AreReports.f k l0)
theorem spec_AreReports.F_co (l0 : List (S50)) : Co (fun k => spec_AreReports.f k l0) (spec_AreReports.F l0) := Co.base (fun k => spec_AreReports.mono _ k)
theorem spec_AreReports.L0_eq (x0 : List (S50)) (x3 : Int) : spec_AreReports.L0 x0 x3 = (if x3 < (x0.length : Int) then (if 0 ≤ x3 then ((spec_IsReport.F ((rd_T50 x0 x3).f0) ((rd_T50 x0 x3).f1) ((rd_T50 x0 x3).f2) ((rd_T50 x0 x3).f3) ((rd_T50 x0 x3).f4) ((rd_T50 x0 x3).f5) ((rd_T50 x0 x3).f6.f0) ((rd_T50 x0 x3).f6.f1)).bind fun D => (if D = true then (if x3 > 0 then (if 0 ≤ (wrap64 (x3 - 1)) then (if (wrap64 (x3 - 1)) < (x0.length : Int) then (if ((rd_T50 x0 (wrap64 (x3 - 1))).f0) ≥ ((rd_T50 x0 x3).f0) then (some false) else (spec_AreReports.L0 x0 (wrap64 (x3 + 1)))) else (none)) else (none)) else (spec_AreReports.L0 x0 (wrap64 (x3 + 1)))) else (some false))) else (none)) else (some (decide ((x0.length : Int) ≤ 20)))) := by
  refine Co.step (spec_AreReports.L0_co x0 x3) (h := fun k => spec_AreReports.l0 (k + 1) x0 x3) (fun _ => rfl) ?_
  simp only [spec_AreReports.l0]
  repeat' first | (with_reducible exact Co.const _) | (with_reducible exact spec_AreReports.L0_co _ _) | (with_reducible exact spec_IsReport.F_co _ _ _ _ _ _ _ _) | (with_reducible refine Co.ite ?_ ?_) | (with_reducible refine Co.bind ?_ (fun _ => ?_))
theorem spec_AreReports.F_eq (l0 : List (S50)) : spec_AreReports.F l0 = (spec_AreReports.L0 l0 0) := by
  refine Co.same (spec_AreReports.F_co l0) (h := fun k => spec_AreReports.f k l0) (fun _ => rfl) ?_
  unfold spec_AreReports.f
  repeat' first | (with_reducible exact Co.const _) | (with_reducible exact spec_AreReports.L0_co _ _) | (with_reducible refine Co.ite ?_ ?_) | (with_reducible refine Co.bind ?_ (fun _ => ?_))

noncomputable def spec_l8Has.L0 (x0 : List Int) (x1 : Int) (x5 : Int) : Option (Bool) := lim (fun k => spec_l8Has.l0 k x0 x1 x5)
theorem spec_l8Has.L0_co (x0 : List Int) (x1 : Int) (x5 : Int) : Co (fun k => spec_l8Has.l0 k x0 x1 x5) (spec_l8Has.L0 x0 x1 x5) := Co.base (fun k => (spec_l8Has.mono_l k) _ _ _)
noncomputable def spec_l8Has.F (l0 : List Int) (a1 : Int) : Option (Bool) := lim (fun k => spec_l8Has.f k l0 a1)
theorem spec_l8Has.F_co (l0 : List Int) (a1 : Int) : Co (fun k => spec_l8Has.f k l0 a1) (spec_l8Has.F l0 a1) := Co.base (fun k => spec_l8Has.mono _ _ k)
theorem spec_l8Has.L0_eq (x0 : List Int) (x1 : Int) (x5 : Int) : spec_l8Has.L0 x0 x1 x5 = (if x5 < (x0.length : Int) then (if 0 ≤ x5 then (if (rd x0 x5) = x1 then (some true) else (spec_l8Has.L0 x0 x1 (wrap64 (x5 + 1)))) else (none)) else (some false)) := by
  refine Co.step (spec_l8Has.L0_co x0 x1 x5) (h := fun k => spec_l8Has.l0 (k + 1) x0 x1 x5) (fun _ => rfl) ?_
  simp only [spec_l8Has.l0]
  repeat' first | (with_reducible exact Co.const _) | (with_reducible exact spec_l8Has.L0_co _ _ _) | (with_reducible refine Co.ite ?_ ?_) | (with_reducible refine Co.bind ?_ (fun _ => ?_))
theorem spec_l8Has.F_eq (l0 : List Int) (a1 : Int) : spec_l8Has.F l0 a1 = (spec_l8Has.L0 l0 a1 0) := by
  refine Co.same (spec_l8Has.F_co l0 a1) (h := fun k => spec_l8Has.f k l0 a1) (fun _ => rfl) ?_
  unfold spec_l8Has.f
  repeat' first | (with_reducible exact Co.const _) | (with_reducible exact spec_l8Has.L0_co _ _ _) | (with_reducible refine Co.ite ?_ ?_) | (with_reducible refine Co.bind ?_ (fun _ => ?_))

noncomputable def spec_WhyNot.J0 (x5 : Bool) (aa : Int) (J : Int) (D : List Int) (ab : Int) (ac : Int) (ad : List Int) (ae : Int) (af : Int) (ag : Int) (L : Int) (Y : Int) (ah : Int) (ai : Int) (aj : Int) (ak : Int) (al : Int) : Option (ByteArray) := lim (fun k => spec_WhyNot.j0 k x5 aa J D ab ac ad ae af ag L Y ah ai aj ak al)
theorem spec_WhyNot.J0_co (x5 : Bool) (aa : Int) (J : Int) (D : List Int) (ab : Int) (ac : Int) (ad : List Int) (ae : Int) (af : Int) (ag : Int) (L : Int) (Y : Int) (ah : Int) (ai : Int) (aj : Int) (ak : Int) (al : Int) : Co (fun k => spec_WhyNot.j0 k x5 aa J D ab ac ad ae af ag L Y ah ai aj ak al) (spec_WhyNot.J0 x5 aa J D ab ac ad ae af ag L Y ah ai aj ak al) := Co.base (fun k => (spec_WhyNot.mono_l k).1 _ _ _ _ _ _ _ _ _ _ _ _ _ _ _ _ _)
noncomputable def spec_WhyNot.J1 (am : Bool) (ab : Int) (ac : Int) (ad : List Int) (J : Int) (L : Int) (D : List Int) (ae : Int) (af : Int) (ag : Int) (ah : Int) (ai : Int) (Y : Int) (aj : Int) (aa : Int) (ak : Int) (al : Int) : Option (ByteArray) := lim (fun k => spec_WhyNot.j1 k am ab ac ad J L D ae af ag ah ai Y aj aa ak al)
theorem spec_WhyNot.J1_co (am : Bool) (ab : Int) (ac : Int) (ad : List Int) (J : Int) (L : Int) (D : List Int) (ae : Int) (af : Int) (ag : Int) (ah : Int) (ai : Int) (Y : Int) (aj : Int) (aa : Int) (ak : Int) (al : Int) : Co (fun k => spec_WhyNot.j1 k am ab ac ad J L D ae af ag ah ai Y aj aa ak al) (spec_WhyNot.J1 am ab ac ad J L D ae af ag ah ai Y aj aa ak al) := Co.base (fun k => (spec_WhyNot.mono_l k).2.1 _ _ _ _ _ _ _ _ _ _ _ _ _ _ _ _ _)
noncomputable def spec_WhyNot.J2 (D : Bool) (Y : Int) (aa : Int) (ab : List Int) (ac : Int) (ad : Int) (ae : List Int) (J : Int) (af : Int) (ag : Int) (ah : Int) (ai : Int) (aj : Int) (ak : Int) (al : Int) (L : Int) (am : Int) : Option (ByteArray) := lim (fun k => spec_WhyNot.j2 k D Y aa ab ac ad ae J af ag ah ai aj ak al L am)
theorem spec_WhyNot.J2_co (D : Bool) (Y : Int) (aa : Int) (ab : List Int) (ac : Int) (ad : Int) (ae : List Int) (J : Int) (af : Int) (ag : Int) (ah : Int) (ai : Int) (aj : Int) (ak : Int) (al : Int) (L : Int) (am : Int) : Co (fun k => spec_WhyNot.j2 k D Y aa ab ac ad ae J af ag ah ai aj ak al L am) (spec_WhyNot.J2 D Y aa ab ac ad ae J af ag ah ai aj ak al L am) := Co.base (fun k => (spec_WhyNot.mono_l k).2.2 _ _ _ _ _ _ _ _ _ _ _ _ _ _ _ _ _)
noncomputable def spec_WhyNot.F (a0_0 : Int) (a0_1 : Int) (l0_2 : List Int) (a0_3 : Int) (a0_4 : Int) (l0_5 : List Int) (a0_6 : Int) (a0_7 : Int) (a1_0 : Int) (a1_1 : Int) (a1_2 : Int) (a1_3 : Int) (a1_4 : Int) (a1_5 : Int) (a1_6 : Int) (a1_7 : Int) : Option (ByteArray) := lim (fun k => spec_WhyNot.f k a0_0 a0_1 l0_2 a0_3 a0_4 l0_5 a0_6 a0_7 a1_0 a1_1 a1_2 a1_3 a1_4 a1_5 a1_6 a1_7)
theorem spec_WhyNot.F_co (a0_0 : Int) (a0_1 : Int) (l0_2 : List Int) (a0_3 : Int) (a0_4 : Int) (l0_5 : List Int) (a0_6 : Int) (a0_7 : Int) (a1_0 : Int) (a1_1 : Int) (a1_2 : Int) (a1_3 : Int) (a1_4 : Int) (a1_5 : Int) (a1_6 : Int) (a1_7 : Int) : Co (fun k => spec_WhyNot.f k a0_0 a0_1 l0_2 a0_3 a0_4 l0_5 a0_6 a0_7 a1_0 a1_1 a1_2 a1_3 a1_4 a1_5 a1_6 a1_7) (spec_WhyNot.F a0_0 a0_1 l0_2 a0_3 a0_4 l0_5 a0_6 a0_7 a1_0 a1_1 a1_2 a1_3 a1_4 a1_5 a1_6 a1_7) := Co.base (fun k => spec_WhyNot.mono _ _ _ _ _ _ _ _ _ _ _ _ _ _ _ _ k)
theorem spec_WhyNot.J0_eq (x5 : Bool) (aa : Int) (J : Int) (D : List Int) (ab : Int) (ac : Int) (ad : List Int) (ae : Int) (af : Int) (ag : Int) (L : Int) (Y : Int) (ah : Int) (ai : Int) (aj : Int) (ak : Int) (al : Int) : spec_WhyNot.J0 x5 aa J D ab ac ad ae af ag L Y ah ai aj ak al = (if x5 = true then (some (⟨#[105, 110, 118, 97, 108, 105, 100]⟩ : ByteArray)) else (if J = L then (if (D.length : Int) > 0 then ((spec_l8Has.F D Y).bind fun am => (spec_WhyNot.J1 (!am) aa J D ab ac ad ae af ag L Y ah ai aj ak al)) else (spec_WhyNot.J1 false aa J D ab ac ad ae af ag L Y ah ai aj ak al)) else (some (⟨#[107, 105, 110, 100]⟩ : ByteArray)))) := by
  refine Co.step (spec_WhyNot.J0_co x5 aa J D ab ac ad ae af ag L Y ah ai aj ak al) (h := fun k => spec_WhyNot.j0 (k + 1) x5 aa J D ab ac ad ae af ag L Y ah ai aj ak al) (fun _ => rfl) ?_
  simp only [spec_WhyNot.j0]
  repeat' first | (with_reducible exact Co.const _) | (with_reducible exact spec_WhyNot.J1_co _ _ _ _ _ _ _ _ _ _ _ _ _ _ _ _ _) | (with_reducible exact spec_l8Has.F_co _ _) | (with_reducible refine Co.ite ?_ ?_) | (with_reducible refine Co.bind ?_ (fun _ => ?_))
theorem spec_WhyNot.J1_eq (am : Bool) (ab : Int) (ac : Int) (ad : List Int) (J : Int) (L : Int) (D : List Int) (ae : Int) (af : Int) (ag : Int) (ah : Int) (ai : Int) (Y : Int) (aj : Int) (aa : Int) (ak : Int) (al : Int) : spec_WhyNot.J1 am ab ac ad J L D ae af ag ah ai Y aj aa ak al = (if am = true then (some (⟨#[99, 111, 108, 111, 117, 114]⟩ : ByteArray)) else ((spec_l1In.f Y J L).bind fun ao => (if ao = true then (if (D.length : Int) > 0 then ((spec_l8Has.F D aa).bind fun ap => (spec_WhyNot.J2 (!ap) ab ac ad J L D ae af ag ah ai Y aj aa ak al)) else (spec_WhyNot.J2 false ab ac ad J L D ae af ag ah ai Y aj aa ak al)) else (some (⟨#[115, 105, 122, 101]⟩ : ByteArray))))) := by
  refine Co.step (spec_WhyNot.J1_co am ab ac ad J L D ae af ag ah ai Y aj aa ak al) (h := fun k => spec_WhyNot.j1 (k + 1) am ab ac ad J L D ae af ag ah ai Y aj aa ak al) (fun _ => rfl) ?_
  simp only [spec_WhyNot.j1]
  repeat' first | (with_reducible exact Co.const _) | (with_reducible exact spec_WhyNot.J2_co _ _ _ _ _ _ _ _ _ _ _ _ _ _ _ _ _) | (with_reducible exact spec_l8Has.F_co _ _) | (with_reducible refine Co.ite ?_ ?_) | (with_reducible refine Co.bind ?_ (fun _ => ?_))
theorem spec_WhyNot.J2_eq (D : Bool) (Y : Int) (aa : Int) (ab : List Int) (ac : Int) (ad : Int) (ae : List Int) (J : Int) (af : Int) (ag : Int) (ah : Int) (ai : Int) (aj : Int) (ak : Int) (al : Int) (L : Int) (am : Int) : spec_WhyNot.J2 D Y aa ab ac ad ae J af ag ah ai aj ak al L am = (if D = true then (some (⟨#[112, 108, 97, 99, 101]⟩ : ByteArray)) else (if L < J then (some (⟨#[116, 105, 109, 101]⟩ : ByteArray)) else (some (⟨#[]⟩ : ByteArray)))) := by
  refine Co.step (spec_WhyNot.J2_co D Y aa ab ac ad ae J af ag ah ai aj ak al L am) (h := fun k => spec_WhyNot.j2 (k + 1) D Y aa ab ac ad ae J af ag ah ai aj ak al L am) (fun _ => rfl) ?_
  simp only [spec_WhyNot.j2]
  repeat' first | (with_reducible exact Co.const _) | (with_reducible refine Co.ite ?_ ?_) | (with_reducible refine Co.bind ?_ (fun _ => ?_))
theorem spec_WhyNot.F_eq (a0_0 : Int) (a0_1 : Int) (l0_2 : List Int) (a0_3 : Int) (a0_4 : Int) (l0_5 : List Int) (a0_6 : Int) (a0_7 : Int) (a1_0 : Int) (a1_1 : Int) (a1_2 : Int) (a1_3 : Int) (a1_4 : Int) (a1_5 : Int) (a1_6 : Int) (a1_7 : Int) : spec_WhyNot.F a0_0 a0_1 l0_2 a0_3 a0_4 l0_5 a0_6 a0_7 a1_0 a1_1 a1_2 a1_3 a1_4 a1_5 a1_6 a1_7 = ((spec_IsReport.F a0_0 a0_1 l0_2 a0_3 a0_4 l0_5 a0_6 a0_7).bind fun D => (if D = true then ((spec_IsFind.f a1_0 a1_1 a1_2 a1_3 a1_4 a1_5 a1_6 a1_7).bind fun J => (spec_WhyNot.J0 (!J) a0_0 a0_1 l0_2 a0_3 a0_4 l0_5 a0_6 a0_7 a1_0 a1_1 a1_2 a1_3 a1_4 a1_5 a1_6 a1_7)) else (spec_WhyNot.J0 true a0_0 a0_1 l0_2 a0_3 a0_4 l0_5 a0_6 a0_7 a1_0 a1_1 a1_2 a1_3 a1_4 a1_5 a1_6 a1_7))) := by
  refine Co.same (spec_WhyNot.F_co a0_0 a0_1 l0_2 a0_3 a0_4 l0_5 a0_6 a0_7 a1_0 a1_1 a1_2 a1_3 a1_4 a1_5 a1_6 a1_7) (h := fun k => spec_WhyNot.f k a0_0 a0_1 l0_2 a0_3 a0_4 l0_5 a0_6 a0_7 a1_0 a1_1 a1_2 a1_3 a1_4 a1_5 a1_6 a1_7) (fun _ => rfl) ?_
  unfold spec_WhyNot.f
  repeat' first | (with_reducible exact Co.const _) | (with_reducible exact spec_IsReport.F_co _ _ _ _ _ _ _ _) | (with_reducible exact spec_WhyNot.J0_co _ _ _ _ _ _ _ _ _ _ _ _ _ _ _ _ _) | (with_reducible refine Co.ite ?_ ?_) | (with_reducible refine Co.bind ?_ (fun _ => ?_))

noncomputable def spec_CanBe.F (a0_0 : Int) (a0_1 : Int) (l0_2 : List Int) (a0_3 : Int) (a0_4 : Int) (l0_5 : List Int) (a0_6 : Int) (a0_7 : Int) (a1_0 : Int) (a1_1 : Int) (a1_2 : Int) (a1_3 : Int) (a1_4 : Int) (a1_5 : Int) (a1_6 : Int) (a1_7 : Int) : Option (Bool) := lim (fun k => spec_CanBe.f k a0_0 a0_1 l0_2 a0_3 a0_4 l0_5 a0_6 a0_7 a1_0 a1_1 a1_2 a1_3 a1_4 a1_5 a1_6 a1_7)
theorem spec_CanBe.F_co (a0_0 : Int) (a0_1 : Int) (l0_2 : List Int) (a0_3 : Int) (a0_4 : Int) (l0_5 : List Int) (a0_6 : Int) (a0_7 : Int) (a1_0 : Int) (a1_1 : Int) (a1_2 : Int) (a1_3 : Int) (a1_4 : Int) (a1_5 : Int) (a1_6 : Int) (a1_7 : Int) : Co (fun k => spec_CanBe.f k a0_0 a0_1 l0_2 a0_3 a0_4 l0_5 a0_6 a0_7 a1_0 a1_1 a1_2 a1_3 a1_4 a1_5 a1_6 a1_7) (spec_CanBe.F a0_0 a0_1 l0_2 a0_3 a0_4 l0_5 a0_6 a0_7 a1_0 a1_1 a1_2 a1_3 a1_4 a1_5 a1_6 a1_7) := Co.base (fun k => spec_CanBe.mono _ _ _ _ _ _ _ _ _ _ _ _ _ _ _ _ k)
theorem spec_CanBe.F_eq (a0_0 : Int) (a0_1 : Int) (l0_2 : List Int) (a0_3 : Int) (a0_4 : Int) (l0_5 : List Int) (a0_6 : Int) (a0_7 : Int) (a1_0 : Int) (a1_1 : Int) (a1_2 : Int) (a1_3 : Int) (a1_4 : Int) (a1_5 : Int) (a1_6 : Int) (a1_7 : Int) : spec_CanBe.F a0_0 a0_1 l0_2 a0_3 a0_4 l0_5 a0_6 a0_7 a1_0 a1_1 a1_2 a1_3 a1_4 a1_5 a1_6 a1_7 = ((spec_WhyNot.F a0_0 a0_1 l0_2 a0_3 a0_4 l0_5 a0_6 a0_7 a1_0 a1_1 a1_2 a1_3 a1_4 a1_5 a1_6 a1_7).bind fun t144 => (some (t144.toList == ([] : List UInt8)))) := by
  refine Co.same (spec_CanBe.F_co a0_0 a0_1 l0_2 a0_3 a0_4 l0_5 a0_6 a0_7 a1_0 a1_1 a1_2 a1_3 a1_4 a1_5 a1_6 a1_7) (h := fun k => spec_CanBe.f k a0_0 a0_1 l0_2 a0_3 a0_4 l0_5 a0_6 a0_7 a1_0 a1_1 a1_2 a1_3 a1_4 a1_5 a1_6 a1_7) (fun _ => rfl) ?_
  unfold spec_CanBe.f
  repeat' first | (with_reducible exact Co.const _) | (with_reducible exact spec_WhyNot.F_co _ _ _ _ _ _ _ _ _ _ _ _ _ _ _ _) | (with_reducible refine Co.ite ?_ ?_) | (with_reducible refine Co.bind ?_ (fun _ => ?_))

noncomputable def spec_Seekers.L0 (x1 : List (S50)) (x5 : List Int) (x6 : Int) (x146000 : Int) (x146001 : Int) (x146002 : Int) (x146003 : Int) (x146004 : Int) (x146005 : Int) (x146006 : Int) (x146007 : Int) : Option (List Int) := lim (fun k => spec_Seekers.l0 k x1 x5 x6 x146000 x146001 x146002 x146003 x146004 x146005 x146006 x146007)
theorem spec_Seekers.L0_co (x1 : List (S50)) (x5 : List Int) (x6 : Int) (x146000 : Int) (x146001 : Int) (x146002 : Int) (x146003 : Int) (x146004 : Int) (x146005 : Int) (x146006 : Int) (x146007 : Int) : Co (fun k => spec_Seekers.l0 k x1 x5 x6 x146000 x146001 x146002 x146003 x146004 x146005 x146006 x146007) (spec_Seekers.L0 x1 x5 x6 x146000 x146001 x146002 x146003 x146004 x146005 x146006 x146007) := Co.base (fun k => (spec_Seekers.mono_l k).1 _ _ _ _ _ _ _ _ _ _ _)
noncomputable def spec_Seekers.J1 (x1 : List (S50)) (x5 : List Int) (x6 : Int) (ae : Bool) (D : Int) (J : Int) (L : Int) (Y : Int) (aa : Int) (ab : Int) (ac : Int) (ad : Int) : Option (List Int) := lim (fun k => spec_Seekers.j1 k x1 x5 x6 ae D J L Y aa ab ac ad)
theorem spec_Seekers.J1_co (x1 : List (S50)) (x5 : List Int) (x6 : Int) (ae : Bool) (D : Int) (J : Int) (L : Int) (Y : Int) (aa : Int) (ab : Int) (ac : Int) (ad : Int) : Co (fun k => spec_Seekers.j1 k x1 x5 x6 ae D J L Y aa ab ac ad) (spec_Seekers.J1 x1 x5 x6 ae D J L Y aa ab ac ad) := Co.base (fun k => (spec_Seekers.mono_l k).2 _ _ _ _ _ _ _ _ _ _ _ _)
noncomputable def spec_Seekers.F (a0_0 : Int) (a0_1 : Int) (a0_2 : Int) (a0_3 : Int) (a0_4 : Int) (a0_5 : Int) (a0_6 : Int) (a0_7 : Int) (l1 : List (S50)) : Option (List Int) := lim (fun k => spec_Seekers.f k a0_0 a0_1 a0_2 a0_3 a0_4 a0_5 a0_6 a0_7 l1)
theorem spec_Seekers.F_co (a0_0 : Int) (a0_1 : Int) (a0_2 : Int) (a0_3 : Int) (a0_4 : Int) (a0_5 : Int) (a0_6 : Int) (a0_7 : Int) (l1 : List (S50)) : Co (fun k => spec_Seekers.f k a0_0 a0_1 a0_2 a0_3 a0_4 a0_5 a0_6 a0_7 l1) (spec_Seekers.F a0_0 a0_1 a0_2 a0_3 a0_4 a0_5 a0_6 a0_7 l1) := Co.base (fun k => spec_Seekers.mono _ _ _ _ _ _ _ _ _ k)
theorem spec_Seekers.L0_eq (x1 : List (S50)) (x5 : List Int) (x6 : Int) (x146000 : Int) (x146001 : Int) (x146002 : Int) (x146003 : Int) (x146004 : Int) (x146005 : Int) (x146006 : Int) (x146007 : Int) : spec_Seekers.L0 x1 x5 x6 x146000 x146001 x146002 x146003 x146004 x146005 x146006 x146007 = (if x6 < (x1.length : Int) then ((spec_AreReports.F x1).bind fun t149 => (spec_Seekers.J1 x1 x5 x6 t149 x146000 x146001 x146002 x146003 x146004 x146005 x146006 x146007)) else (spec_Seekers.J1 x1 x5 x6 false x146000 x146001 x146002 x146003 x146004 x146005 x146006 x146007)) := by
  refine Co.step (spec_Seekers.L0_co x1 x5 x6 x146000 x146001 x146002 x146003 x146004 x146005 x146006 x146007) (h := fun k => spec_Seekers.l0 (k + 1) x1 x5 x6 x146000 x146001 x146002 x146003 x146004 x146005 x146006 x146007) (fun _ => rfl) ?_
  simp only [spec_Seekers.l0]
  repeat' first | (with_reducible exact Co.const _) | (with_reducible exact spec_AreReports.F_co _) | (with_reducible exact spec_Seekers.J1_co _ _ _ _ _ _ _ _ _ _ _ _) | (with_reducible refine Co.ite ?_ ?_) | (with_reducible refine Co.bind ?_ (fun _ => ?_))
theorem spec_Seekers.J1_eq (x1 : List (S50)) (x5 : List Int) (x6 : Int) (ae : Bool) (D : Int) (J : Int) (L : Int) (Y : Int) (aa : Int) (ab : Int) (ac : Int) (ad : Int) : spec_Seekers.J1 x1 x5 x6 ae D J L Y aa ab ac ad = (if ae = true then (if 0 ≤ x6 then (if x6 < (x1.length : Int) then ((spec_CanBe.F ((rd_T50 x1 x6).f0) ((rd_T50 x1 x6).f1) ((rd_T50 x1 x6).f2) ((rd_T50 x1 x6).f3) ((rd_T50 x1 x6).f4) ((rd_T50 x1 x6).f5) ((rd_T50 x1 x6).f6.f0) ((rd_T50 x1 x6).f6.f1) D J L Y aa ab ac ad).bind fun af => (if af = true then (if x5.length < 17592186044416 then (spec_Seekers.L0 x1 (x5 ++ [(rd_T50 x1 x6).f0]) (wrap64 (x6 + 1)) D J L Y aa ab ac ad) else (none)) else (spec_Seekers.L0 x1 x5 (wrap64 (x6 + 1)) D J L Y aa ab ac ad))) else (none)) else (none)) else (some x5)) := by
  refine Co.step (spec_Seekers.J1_co x1 x5 x6 ae D J L Y aa ab ac ad) (h := fun k => spec_Seekers.j1 (k + 1) x1 x5 x6 ae D J L Y aa ab ac ad) (fun _ => rfl) ?_
  simp only [spec_Seekers.j1]
  repeat' first | (with_reducible exact Co.const _) | (with_reducible exact spec_CanBe.F_co _ _ _ _ _ _ _ _ _ _ _ _ _ _ _ _) | (with_reducible exact spec_Seekers.L0_co _ _ _ _ _ _ _ _ _ _ _) | (with_reducible refine Co.ite ?_ ?_) | (with_reducible refine Co.bind ?_ (fun _ => ?_))
theorem spec_Seekers.F_eq (a0_0 : Int) (a0_1 : Int) (a0_2 : Int) (a0_3 : Int) (a0_4 : Int) (a0_5 : Int) (a0_6 : Int) (a0_7 : Int) (l1 : List (S50)) : spec_Seekers.F a0_0 a0_1 a0_2 a0_3 a0_4 a0_5 a0_6 a0_7 l1 = (spec_Seekers.L0 l1 (([] : List Int)) 0 a0_0 a0_1 a0_2 a0_3 a0_4 a0_5 a0_6 a0_7) := by
  refine Co.same (spec_Seekers.F_co a0_0 a0_1 a0_2 a0_3 a0_4 a0_5 a0_6 a0_7 l1) (h := fun k => spec_Seekers.f k a0_0 a0_1 a0_2 a0_3 a0_4 a0_5 a0_6 a0_7 l1) (fun _ => rfl) ?_
  unfold spec_Seekers.f
  repeat' first | (with_reducible exact Co.const _) | (with_reducible exact spec_Seekers.L0_co _ _ _ _ _ _ _ _ _ _ _) | (with_reducible refine Co.ite ?_ ?_) | (with_reducible refine Co.bind ?_ (fun _ => ?_))

noncomputable def laws_toIntS.L0 (x0 : List Int) (x3 : List Int) (x4 : Int) : Option (List Int) := lim (fun k => laws_toIntS.l0 k x0 x3 x4)
theorem laws_toIntS.L0_co (x0 : List Int) (x3 : List Int) (x4 : Int) : Co (fun k => laws_toIntS.l0 k x0 x3 x4) (laws_toIntS.L0 x0 x3 x4) := Co.base (fun k => (laws_toIntS.mono_l k) _ _ _)
noncomputable def laws_toIntS.F (l0 : List Int) : Option (List Int) := lim (fun k => laws_toIntS.f k l0)
theorem laws_toIntS.F_co (l0 : List Int) : Co (fun k => laws_toIntS.f k l0) (laws_toIntS.F l0) := Co.base (fun k => laws_toIntS.mono _ k)
theorem laws_toIntS.L0_eq (x0 : List Int) (x3 : List Int) (x4 : Int) : laws_toIntS.L0 x0 x3 x4 = (if x4 < (x0.length : Int) then (if 0 ≤ x4 then (if x4 < (x3.length : Int) then (laws_toIntS.L0 x0 (x3.set (x4 : Int).toNat (rd x0 x4)) (wrap64 (x4 + 1))) else (none)) else (none)) else (some x3)) := by
  refine Co.step (laws_toIntS.L0_co x0 x3 x4) (h := fun k => laws_toIntS.l0 (k + 1) x0 x3 x4) (fun _ => rfl) ?_
  simp only [laws_toIntS.l0]
  repeat' first | (with_reducible exact Co.const _) | (with_reducible exact laws_toIntS.L0_co _ _ _) | (with_reducible refine Co.ite ?_ ?_) | (with_reducible refine Co.bind ?_ (fun _ => ?_))
theorem laws_toIntS.F_eq (l0 : List Int) : laws_toIntS.F l0 = (if 0 ≤ (l0.length : Int) then (if ((l0.length : Int) : Int).toNat ≤ 35184372088832 then (laws_toIntS.L0 l0 (List.replicate ((l0.length : Int) : Int).toNat 0) 0) else (none)) else (none)) := by
  refine Co.same (laws_toIntS.F_co l0) (h := fun k => laws_toIntS.f k l0) (fun _ => rfl) ?_
  unfold laws_toIntS.f
  repeat' first | (with_reducible exact Co.const _) | (with_reducible exact laws_toIntS.L0_co _ _ _) | (with_reducible refine Co.ite ?_ ?_) | (with_reducible refine Co.bind ?_ (fun _ => ?_))

noncomputable def laws_toReport.F (a0_0 : Int) (a0_1 : Int) (l0_2 : List Int) (a0_3 : Int) (a0_4 : Int) (l0_5 : List Int) (a0_6 : Int) (a0_7 : Int) : Option (Int × Int × List Int × Int × Int × List Int × Int × Int) := lim (fun k => laws_toReport.f k a0_0 a0_1 l0_2 a0_3 a0_4 l0_5 a0_6 a0_7)
theorem laws_toReport.F_co (a0_0 : Int) (a0_1 : Int) (l0_2 : List Int) (a0_3 : Int) (a0_4 : Int) (l0_5 : List Int) (a0_6 : Int) (a0_7 : Int) : Co (fun k => laws_toReport.f k a0_0 a0_1 l0_2 a0_3 a0_4 l0_5 a0_6 a0_7) (laws_toReport.F a0_0 a0_1 l0_2 a0_3 a0_4 l0_5 a0_6 a0_7) := Co.base (fun k => laws_toReport.mono _ _ _ _ _ _ _ _ k)
theorem laws_toReport.F_eq (a0_0 : Int) (a0_1 : Int) (l0_2 : List Int) (a0_3 : Int) (a0_4 : Int) (l0_5 : List Int) (a0_6 : Int) (a0_7 : Int) : laws_toReport.F a0_0 a0_1 l0_2 a0_3 a0_4 l0_5 a0_6 a0_7 = ((laws_toIntS.F l0_2).bind fun t178 => ((laws_toIntS.F l0_5).bind fun t181 => ((laws_toSpan.f a0_6 a0_7).bind fun bt184 => (some (a0_0, a0_1, t178, a0_3, a0_4, t181, bt184.1, bt184.2))))) := by
  refine Co.same (laws_toReport.F_co a0_0 a0_1 l0_2 a0_3 a0_4 l0_5 a0_6 a0_7) (h := fun k => laws_toReport.f k a0_0 a0_1 l0_2 a0_3 a0_4 l0_5 a0_6 a0_7) (fun _ => rfl) ?_
  unfold laws_toReport.f
  repeat' first | (with_reducible exact Co.const _) | (with_reducible exact laws_toIntS.F_co _) | (with_reducible refine Co.ite ?_ ?_) | (with_reducible refine Co.bind ?_ (fun _ => ?_))

noncomputable def laws_toReportS.L0 (x0 : List (S45)) (x3 : List (S50)) (x4 : Int) : Option ((List (S50))) := lim (fun k => laws_toReportS.l0 k x0 x3 x4)
theorem laws_toReportS.L0_co (x0 : List (S45)) (x3 : List (S50)) (x4 : Int) : Co (fun k => laws_toReportS.l0 k x0 x3 x4) (laws_toReportS.L0 x0 x3 x4) := Co.base (fun k => (laws_toReportS.mono_l k) _ _ _)
noncomputable def laws_toReportS.F (l0 : List (S45)) : Option ((List (S50))) := lim (fun k => laws_toReportS.f k l0)
theorem laws_toReportS.F_co (l0 : List (S45)) : Co (fun k => laws_toReportS.f k l0) (laws_toReportS.F l0) := Co.base (fun k => laws_toReportS.mono _ k)
theorem laws_toReportS.L0_eq (x0 : List (S45)) (x3 : List (S50)) (x4 : Int) : laws_toReportS.L0 x0 x3 x4 = (if x4 < (x0.length : Int) then (if 0 ≤ x4 then ((laws_toReport.F ((rd_T45 x0 x4).f0) ((rd_T45 x0 x4).f1) ((rd_T45 x0 x4).f2) ((rd_T45 x0 x4).f3) ((rd_T45 x0 x4).f4) ((rd_T45 x0 x4).f5) ((rd_T45 x0 x4).f6.f0) ((rd_T45 x0 x4).f6.f1)).bind fun D => (if x4 < (x3.length : Int) then (laws_toReportS.L0 x0 (x3.set (x4 : Int).toNat (⟨D.1, D.2.1, D.2.2.1, D.2.2.2.1, D.2.2.2.2.1, D.2.2.2.2.2.1, (⟨D.2.2.2.2.2.2.1, D.2.2.2.2.2.2.2⟩ : S48)⟩ : S50)) (wrap64 (x4 + 1))) else (none))) else (none)) else (some x3)) := by
  refine Co.step (laws_toReportS.L0_co x0 x3 x4) (h := fun k => laws_toReportS.l0 (k + 1) x0 x3 x4) (fun _ => rfl) ?_
  simp only [laws_toReportS.l0]
  repeat' first | (with_reducible exact Co.const _) | (with_reducible exact laws_toReport.F_co _ _ _ _ _ _ _ _) | (with_reducible exact laws_toReportS.L0_co _ _ _) | (with_reducible refine Co.ite ?_ ?_) | (with_reducible refine Co.bind ?_ (fun _ => ?_))
theorem laws_toReportS.F_eq (l0 : List (S45)) : laws_toReportS.F l0 = (if 0 ≤ (l0.length : Int) then (if ((l0.length : Int) : Int).toNat ≤ 2932031007402 then (laws_toReportS.L0 l0 (List.replicate ((l0.length : Int) : Int).toNat z50) 0) else (none)) else (none)) := by
  refine Co.same (laws_toReportS.F_co l0) (h := fun k => laws_toReportS.f k l0) (fun _ => rfl) ?_
  unfold laws_toReportS.f
  repeat' first | (with_reducible exact Co.const _) | (with_reducible exact laws_toReportS.L0_co _ _ _) | (with_reducible refine Co.ite ?_ ?_) | (with_reducible refine Co.bind ?_ (fun _ => ?_))

noncomputable def impl_isAscending.L0 (x0 : List Int) (x1 : Int) (x2 : Int) (x9 : List Int) (J : Int) (D : Int) : Option (Bool) := lim (fun k => impl_isAscending.l0 k x0 x1 x2 x9 J D)
theorem impl_isAscending.L0_co (x0 : List Int) (x1 : Int) (x2 : Int) (x9 : List Int) (J : Int) (D : Int) : Co (fun k => impl_isAscending.l0 k x0 x1 x2 x9 J D) (impl_isAscending.L0 x0 x1 x2 x9 J D) := Co.base (fun k => (impl_isAscending.mono_l k) _ _ _ _ _ _)
noncomputable def impl_isAscending.F (l0 : List Int) (a1 : Int) (a2 : Int) : Option (Bool) := lim (fun k => impl_isAscending.f k l0 a1 a2)
theorem impl_isAscending.F_co (l0 : List Int) (a1 : Int) (a2 : Int) : Co (fun k => impl_isAscending.f k l0 a1 a2) (impl_isAscending.F l0 a1 a2) := Co.base (fun k => impl_isAscending.mono _ _ _ k)
theorem impl_isAscending.L0_eq (x0 : List Int) (x1 : Int) (x2 : Int) (x9 : List Int) (J : Int) (D : Int) : impl_isAscending.L0 x0 x1 x2 x9 J D = (if D < J then (if 0 ≤ D then (if D < (x9.length : Int) then ((impl_InRange.f (rd x9 D) x1 x2).bind fun L => (if L = true then (if D > 0 then (if 0 ≤ (wrap64 (D - 1)) then (if (wrap64 (D - 1)) < (x0.length : Int) then (if (rd x9 D) ≤ (rd x0 (wrap64 (D - 1))) then (some false) else (impl_isAscending.L0 x0 x1 x2 x9 J (wrap64 (D + 1)))) else (none)) else (none)) else (impl_isAscending.L0 x0 x1 x2 x9 J (wrap64 (D + 1)))) else (some false))) else (none)) else (none)) else (some true)) := by
  refine Co.step (impl_isAscending.L0_co x0 x1 x2 x9 J D) (h := fun k => impl_isAscending.l0 (k + 1) x0 x1 x2 x9 J D) (fun _ => rfl) ?_
  simp only [impl_isAscending.l0]
  repeat' first | (with_reducible exact Co.const _) | (with_reducible exact impl_isAscending.L0_co _ _ _ _ _ _) | (with_reducible refine Co.ite ?_ ?_) | (with_reducible refine Co.bind ?_ (fun _ => ?_))
theorem impl_isAscending.F_eq (l0 : List Int) (a1 : Int) (a2 : Int) : impl_isAscending.F l0 a1 a2 = (impl_isAscending.L0 l0 a1 a2 l0 (l0.length : Int) 0) := by
  refine Co.same (impl_isAscending.F_co l0 a1 a2) (h := fun k => impl_isAscending.f k l0 a1 a2) (fun _ => rfl) ?_
  unfold impl_isAscending.f
  repeat' first | (with_reducible exact Co.const _) | (with_reducible exact impl_isAscending.L0_co _ _ _ _ _ _) | (with_reducible refine Co.ite ?_ ?_) | (with_reducible refine Co.bind ?_ (fun _ => ?_))

noncomputable def impl_IsReport.F (a0_0 : Int) (a0_1 : Int) (l0_2 : List Int) (a0_3 : Int) (a0_4 : Int) (l0_5 : List Int) (a0_6 : Int) (a0_7 : Int) : Option (Bool) := lim (fun k => impl_IsReport.f k a0_0 a0_1 l0_2 a0_3 a0_4 l0_5 a0_6 a0_7)
theorem impl_IsReport.F_co (a0_0 : Int) (a0_1 : Int) (l0_2 : List Int) (a0_3 : Int) (a0_4 : Int) (l0_5 : List Int) (a0_6 : Int) (a0_7 : Int) : Co (fun k => impl_IsReport.f k a0_0 a0_1 l0_2 a0_3 a0_4 l0_5 a0_6 a0_7) (impl_IsReport.F a0_0 a0_1 l0_2 a0_3 a0_4 l0_5 a0_6 a0_7) := Co.base (fun k => impl_IsReport.mono _ _ _ _ _ _ _ _ k)
theorem impl_IsReport.F_eq (a0_0 : Int) (a0_1 : Int) (l0_2 : List Int) (a0_3 : Int) (a0_4 : Int) (l0_5 : List Int) (a0_6 : Int) (a0_7 : Int) : impl_IsReport.F a0_0 a0_1 l0_2 a0_3 a0_4 l0_5 a0_6 a0_7 = ((impl_InRange.f a0_0 1 999).bind fun D => (if D = true then ((impl_InRange.f a0_1 1 8).bind fun J => (if J = true then ((impl_isAscending.F l0_2 0 7).bind fun L => (if L = true then (if 1 ≤ a0_3 then (if a0_3 ≤ a0_4 then (if a0_4 ≤ 50 then ((impl_isAscending.F l0_5 1 30).bind fun Y => (if Y = true then (if (l0_5.length : Int) ≤ 10 then ((impl_IsSpan.f a0_6 a0_7).bind fun aa => (some aa)) else (some false)) else (some false))) else (some false)) else (some false)) else (some false)) else (some false))) else (some false))) else (some false))) := by
  refine Co.same (impl_IsReport.F_co a0_0 a0_1 l0_2 a0_3 a0_4 l0_5 a0_6 a0_7) (h := fun k => impl_IsReport.f k a0_0 a0_1 l0_2 a0_3 a0_4 l0_5 a0_6 a0_7) (fun _ => rfl) ?_
  unfold impl_IsReport.f
  repeat' first | (with_reducible exact Co.const _) | (with_reducible exact impl_isAscending.F_co _ _ _) | (with_reducible refine Co.ite ?_ ?_) | (with_reducible refine Co.bind ?_ (fun _ => ?_))

noncomputable def impl_AreReports.L0 (x0 : List (S50)) (x8 : List (S50)) (x9 : Int) (D : Int) : Option (Bool) := lim (fun k => impl_AreReports.l0 k x0 x8 x9 D)
theorem impl_AreReports.L0_co (x0 : List (S50)) (x8 : List (S50)) (x9 : Int) (D : Int) : Co (fun k => impl_AreReports.l0 k x0 x8 x9 D) (impl_AreReports.L0 x0 x8 x9 D) := Co.base (fun k => (impl_AreReports.mono_l k) _ _ _ _)
noncomputable def impl_AreReports.F (l0 : List (S50)) : Option (Bool) := lim (fun k => impl_AreReports.f k l0)
theorem impl_AreReports.F_co (l0 : List (S50)) : Co (fun k => impl_AreReports.f k l0) (impl_AreReports.F l0) := Co.base (fun k => impl_AreReports.mono _ k)
theorem impl_AreReports.L0_eq (x0 : List (S50)) (x8 : List (S50)) (x9 : Int) (D : Int) : impl_AreReports.L0 x0 x8 x9 D = (if D < x9 then (if 0 ≤ D then (if D < (x8.length : Int) then ((impl_IsReport.F ((rd_T50 x8 D).f0) ((rd_T50 x8 D).f1) ((rd_T50 x8 D).f2) ((rd_T50 x8 D).f3) ((rd_T50 x8 D).f4) ((rd_T50 x8 D).f5) ((rd_T50 x8 D).f6.f0) ((rd_T50 x8 D).f6.f1)).bind fun J => (if J = true then (if D > 0 then (if 0 ≤ (wrap64 (D - 1)) then (if (wrap64 (D - 1)) < (x0.length : Int) then (if ((rd_T50 x8 D).f0) ≤ ((rd_T50 x0 (wrap64 (D - 1))).f0) then (some false) else (impl_AreReports.L0 x0 x8 x9 (wrap64 (D + 1)))) else (none)) else (none)) else (impl_AreReports.L0 x0 x8 x9 (wrap64 (D + 1)))) else (some false))) else (none)) else (none)) else (some true)) := by
  refine Co.step (impl_AreReports.L0_co x0 x8 x9 D) (h := fun k => impl_AreReports.l0 (k + 1) x0 x8 x9 D) (fun _ => rfl) ?_
  simp only [impl_AreReports.l0]
  repeat' first | (with_reducible exact Co.const _) | (with_reducible exact impl_AreReports.L0_co _ _ _ _) | (with_reducible exact impl_IsReport.F_co _ _ _ _ _ _ _ _) | (with_reducible refine Co.ite ?_ ?_) | (with_reducible refine Co.bind ?_ (fun _ => ?_))
theorem impl_AreReports.F_eq (l0 : List (S50)) : impl_AreReports.F l0 = (if (l0.length : Int) > 20 then (some false) else (impl_AreReports.L0 l0 l0 (l0.length : Int) 0)) := by
  refine Co.same (impl_AreReports.F_co l0) (h := fun k => impl_AreReports.f k l0) (fun _ => rfl) ?_
  unfold impl_AreReports.f
  repeat' first | (with_reducible exact Co.const _) | (with_reducible exact impl_AreReports.L0_co _ _ _ _) | (with_reducible refine Co.ite ?_ ?_) | (with_reducible refine Co.bind ?_ (fun _ => ?_))

noncomputable def slices_Index_int_int.L0 (x0 : List Int) (x1 : Int) (x7 : Int) (x8 : Int) : Option (Int) := lim (fun k => slices_Index_int_int.l0 k x0 x1 x7 x8)
theorem slices_Index_int_int.L0_co (x0 : List Int) (x1 : Int) (x7 : Int) (x8 : Int) : Co (fun k => slices_Index_int_int.l0 k x0 x1 x7 x8) (slices_Index_int_int.L0 x0 x1 x7 x8) := Co.base (fun k => (slices_Index_int_int.mono_l k) _ _ _ _)
noncomputable def slices_Index_int_int.F (l0 : List Int) (a1 : Int) : Option (Int) := lim (fun k => slices_Index_int_int.f k l0 a1)
theorem slices_Index_int_int.F_co (l0 : List Int) (a1 : Int) : Co (fun k => slices_Index_int_int.f k l0 a1) (slices_Index_int_int.F l0 a1) := Co.base (fun k => slices_Index_int_int.mono _ _ k)
theorem slices_Index_int_int.L0_eq (x0 : List Int) (x1 : Int) (x7 : Int) (x8 : Int) : slices_Index_int_int.L0 x0 x1 x7 x8 = (if x8 < x7 then (if 0 ≤ x8 then (if x8 < (x0.length : Int) then (if x1 = (rd x0 x8) then (some x8) else (slices_Index_int_int.L0 x0 x1 x7 (wrap64 (x8 + 1)))) else (none)) else (none)) else (some (-1))) := by
  refine Co.step (slices_Index_int_int.L0_co x0 x1 x7 x8) (h := fun k => slices_Index_int_int.l0 (k + 1) x0 x1 x7 x8) (fun _ => rfl) ?_
  simp only [slices_Index_int_int.l0]
  repeat' first | (with_reducible exact Co.const _) | (with_reducible exact slices_Index_int_int.L0_co _ _ _ _) | (with_reducible refine Co.ite ?_ ?_) | (with_reducible refine Co.bind ?_ (fun _ => ?_))
theorem slices_Index_int_int.F_eq (l0 : List Int) (a1 : Int) : slices_Index_int_int.F l0 a1 = (slices_Index_int_int.L0 l0 a1 (l0.length : Int) 0) := by
  refine Co.same (slices_Index_int_int.F_co l0 a1) (h := fun k => slices_Index_int_int.f k l0 a1) (fun _ => rfl) ?_
  unfold slices_Index_int_int.f
  repeat' first | (with_reducible exact Co.const _) | (with_reducible exact slices_Index_int_int.L0_co _ _ _ _) | (with_reducible refine Co.ite ?_ ?_) | (with_reducible refine Co.bind ?_ (fun _ => ?_))

noncomputable def slices_Contains_int_int.F (l0 : List Int) (a1 : Int) : Option (Bool) := lim (fun k => slices_Contains_int_int.f k l0 a1)
theorem slices_Contains_int_int.F_co (l0 : List Int) (a1 : Int) : Co (fun k => slices_Contains_int_int.f k l0 a1) (slices_Contains_int_int.F l0 a1) := Co.base (fun k => slices_Contains_int_int.mono _ _ k)
theorem slices_Contains_int_int.F_eq (l0 : List Int) (a1 : Int) : slices_Contains_int_int.F l0 a1 = ((slices_Index_int_int.F l0 a1).bind fun t231 => (some (decide (t231 ≥ 0)))) := by
  refine Co.same (slices_Contains_int_int.F_co l0 a1) (h := fun k => slices_Contains_int_int.f k l0 a1) (fun _ => rfl) ?_
  unfold slices_Contains_int_int.f
  repeat' first | (with_reducible exact Co.const _) | (with_reducible exact slices_Index_int_int.F_co _ _) | (with_reducible refine Co.ite ?_ ?_) | (with_reducible refine Co.bind ?_ (fun _ => ?_))

noncomputable def impl_allows.F (l0 : List Int) (a1 : Int) : Option (Bool) := lim (fun k => impl_allows.f k l0 a1)
theorem impl_allows.F_co (l0 : List Int) (a1 : Int) : Co (fun k => impl_allows.f k l0 a1) (impl_allows.F l0 a1) := Co.base (fun k => impl_allows.mono _ _ k)
theorem impl_allows.F_eq (l0 : List Int) (a1 : Int) : impl_allows.F l0 a1 = (if (l0.length : Int) = 0 then (some true) else ((slices_Contains_int_int.F l0 a1).bind fun t232 => (some t232))) := by
  refine Co.same (impl_allows.F_co l0 a1) (h := fun k => impl_allows.f k l0 a1) (fun _ => rfl) ?_
  unfold impl_allows.f
  repeat' first | (with_reducible exact Co.const _) | (with_reducible exact slices_Contains_int_int.F_co _ _) | (with_reducible refine Co.ite ?_ ?_) | (with_reducible refine Co.bind ?_ (fun _ => ?_))

noncomputable def impl_WhyNot.J0 (x5 : Bool) (ak : Int) (D : Int) (J : List Int) (L : Int) (Y : Int) (aa : List Int) (ab : Int) (al : Int) (am : Int) (ac : Int) (ad : Int) (ae : Int) (ao : Int) (af : Int) (ag : Int) (ap : Int) : Option (ByteArray) := lim (fun k => impl_WhyNot.j0 k x5 ak D J L Y aa ab al am ac ad ae ao af ag ap)
theorem impl_WhyNot.J0_co (x5 : Bool) (ak : Int) (D : Int) (J : List Int) (L : Int) (Y : Int) (aa : List Int) (ab : Int) (al : Int) (am : Int) (ac : Int) (ad : Int) (ae : Int) (ao : Int) (af : Int) (ag : Int) (ap : Int) : Co (fun k => impl_WhyNot.j0 k x5 ak D J L Y aa ab al am ac ad ae ao af ag ap) (impl_WhyNot.J0 x5 ak D J L Y aa ab al am ac ad ae ao af ag ap) := Co.base (fun k => (impl_WhyNot.mono_l k) _ _ _ _ _ _ _ _ _ _ _ _ _ _ _ _ _)
noncomputable def impl_WhyNot.F (a0_0 : Int) (a0_1 : Int) (l0_2 : List Int) (a0_3 : Int) (a0_4 : Int) (l0_5 : List Int) (a0_6 : Int) (a0_7 : Int) (a1_0 : Int) (a1_1 : Int) (a1_2 : Int) (a1_3 : Int) (a1_4 : Int) (a1_5 : Int) (a1_6 : Int) (a1_7 : Int) : Option (ByteArray) := lim (fun k => impl_WhyNot.f k a0_0 a0_1 l0_2 a0_3 a0_4 l0_5 a0_6 a0_7 a1_0 a1_1 a1_2 a1_3 a1_4 a1_5 a1_6 a1_7)
theorem impl_WhyNot.F_co (a0_0 : Int) (a0_1 : Int) (l0_2 : List Int) (a0_3 : Int) (a0_4 : Int) (l0_5 : List Int) (a0_6 : Int) (a0_7 : Int) (a1_0 : Int) (a1_1 : Int) (a1_2 : Int) (a1_3 : Int) (a1_4 : Int) (a1_5 : Int) (a1_6 : Int) (a1_7 : Int) : Co (fun k => impl_WhyNot.f k a0_0 a0_1 l0_2 a0_3 a0_4 l0_5 a0_6 a0_7 a1_0 a1_1 a1_2 a1_3 a1_4 a1_5 a1_6 a1_7) (impl_WhyNot.F a0_0 a0_1 l0_2 a0_3 a0_4 l0_5 a0_6 a0_7 a1_0 a1_1 a1_2 a1_3 a1_4 a1_5 a1_6 a1_7) := Co.base (fun k => impl_WhyNot.mono _ _ _ _ _ _ _ _ _ _ _ _ _ _ _ _ k)
theorem impl_WhyNot.J0_eq (x5 : Bool) (ak : Int) (D : Int) (J : List Int) (L : Int) (Y : Int) (aa : List Int) (ab : Int) (al : Int) (am : Int) (ac : Int) (ad : Int) (ae : Int) (ao : Int) (af : Int) (ag : Int) (ap : Int) : impl_WhyNot.J0 x5 ak D J L Y aa ab al am ac ad ae ao af ag ap = (if x5 = true then (some (⟨#[105, 110, 118, 97, 108, 105, 100]⟩ : ByteArray)) else (if D = ac then ((impl_allows.F J ad).bind fun ah => (if ah = true then ((impl_InRange.f ae L Y).bind fun ai => (if ai = true then ((impl_allows.F aa af).bind fun aj => (if aj = true then (if ag < ab then (some (⟨#[116, 105, 109, 101]⟩ : ByteArray)) else (some (⟨#[]⟩ : ByteArray))) else (some (⟨#[112, 108, 97, 99, 101]⟩ : ByteArray)))) else (some (⟨#[115, 105, 122, 101]⟩ : ByteArray)))) else (some (⟨#[99, 111, 108, 111, 117, 114]⟩ : ByteArray)))) else (some (⟨#[107, 105, 110, 100]⟩ : ByteArray)))) := by
  refine Co.step (impl_WhyNot.J0_co x5 ak D J L Y aa ab al am ac ad ae ao af ag ap) (h := fun k => impl_WhyNot.j0 (k + 1) x5 ak D J L Y aa ab al am ac ad ae ao af ag ap) (fun _ => rfl) ?_
  simp only [impl_WhyNot.j0]
  repeat' first | (with_reducible exact Co.const _) | (with_reducible exact impl_allows.F_co _ _) | (with_reducible refine Co.ite ?_ ?_) | (with_reducible refine Co.bind ?_ (fun _ => ?_))
theorem impl_WhyNot.F_eq (a0_0 : Int) (a0_1 : Int) (l0_2 : List Int) (a0_3 : Int) (a0_4 : Int) (l0_5 : List Int) (a0_6 : Int) (a0_7 : Int) (a1_0 : Int) (a1_1 : Int) (a1_2 : Int) (a1_3 : Int) (a1_4 : Int) (a1_5 : Int) (a1_6 : Int) (a1_7 : Int) : impl_WhyNot.F a0_0 a0_1 l0_2 a0_3 a0_4 l0_5 a0_6 a0_7 a1_0 a1_1 a1_2 a1_3 a1_4 a1_5 a1_6 a1_7 = ((impl_IsReport.F a0_0 a0_1 l0_2 a0_3 a0_4 l0_5 a0_6 a0_7).bind fun D => (if D = true then ((impl_IsFind.f a1_0 a1_1 a1_2 a1_3 a1_4 a1_5 a1_6 a1_7).bind fun J => (impl_WhyNot.J0 (!J) a0_0 a0_1 l0_2 a0_3 a0_4 l0_5 a0_6 a0_7 a1_0 a1_1 a1_2 a1_3 a1_4 a1_5 a1_6 a1_7)) else (impl_WhyNot.J0 true a0_0 a0_1 l0_2 a0_3 a0_4 l0_5 a0_6 a0_7 a1_0 a1_1 a1_2 a1_3 a1_4 a1_5 a1_6 a1_7))) := by
  refine Co.same (impl_WhyNot.F_co a0_0 a0_1 l0_2 a0_3 a0_4 l0_5 a0_6 a0_7 a1_0 a1_1 a1_2 a1_3 a1_4 a1_5 a1_6 a1_7) (h := fun k => impl_WhyNot.f k a0_0 a0_1 l0_2 a0_3 a0_4 l0_5 a0_6 a0_7 a1_0 a1_1 a1_2 a1_3 a1_4 a1_5 a1_6 a1_7) (fun _ => rfl) ?_
  unfold impl_WhyNot.f
  repeat' first | (with_reducible exact Co.const _) | (with_reducible exact impl_IsReport.F_co _ _ _ _ _ _ _ _) | (with_reducible exact impl_WhyNot.J0_co _ _ _ _ _ _ _ _ _ _ _ _ _ _ _ _ _) | (with_reducible refine Co.ite ?_ ?_) | (with_reducible refine Co.bind ?_ (fun _ => ?_))

noncomputable def impl_CanBe.F (a0_0 : Int) (a0_1 : Int) (l0_2 : List Int) (a0_3 : Int) (a0_4 : Int) (l0_5 : List Int) (a0_6 : Int) (a0_7 : Int) (a1_0 : Int) (a1_1 : Int) (a1_2 : Int) (a1_3 : Int) (a1_4 : Int) (a1_5 : Int) (a1_6 : Int) (a1_7 : Int) : Option (Bool) := lim (fun k => impl_CanBe.f k a0_0 a0_1 l0_2 a0_3 a0_4 l0_5 a0_6 a0_7 a1_0 a1_1 a1_2 a1_3 a1_4 a1_5 a1_6 a1_7)
theorem impl_CanBe.F_co (a0_0 : Int) (a0_1 : Int) (l0_2 : List Int) (a0_3 : Int) (a0_4 : Int) (l0_5 : List Int) (a0_6 : Int) (a0_7 : Int) (a1_0 : Int) (a1_1 : Int) (a1_2 : Int) (a1_3 : Int) (a1_4 : Int) (a1_5 : Int) (a1_6 : Int) (a1_7 : Int) : Co (fun k => impl_CanBe.f k a0_0 a0_1 l0_2 a0_3 a0_4 l0_5 a0_6 a0_7 a1_0 a1_1 a1_2 a1_3 a1_4 a1_5 a1_6 a1_7) (impl_CanBe.F a0_0 a0_1 l0_2 a0_3 a0_4 l0_5 a0_6 a0_7 a1_0 a1_1 a1_2 a1_3 a1_4 a1_5 a1_6 a1_7) := Co.base (fun k => impl_CanBe.mono _ _ _ _ _ _ _ _ _ _ _ _ _ _ _ _ k)
theorem impl_CanBe.F_eq (a0_0 : Int) (a0_1 : Int) (l0_2 : List Int) (a0_3 : Int) (a0_4 : Int) (l0_5 : List Int) (a0_6 : Int) (a0_7 : Int) (a1_0 : Int) (a1_1 : Int) (a1_2 : Int) (a1_3 : Int) (a1_4 : Int) (a1_5 : Int) (a1_6 : Int) (a1_7 : Int) : impl_CanBe.F a0_0 a0_1 l0_2 a0_3 a0_4 l0_5 a0_6 a0_7 a1_0 a1_1 a1_2 a1_3 a1_4 a1_5 a1_6 a1_7 = ((impl_WhyNot.F a0_0 a0_1 l0_2 a0_3 a0_4 l0_5 a0_6 a0_7 a1_0 a1_1 a1_2 a1_3 a1_4 a1_5 a1_6 a1_7).bind fun t242 => (some (t242.toList == ([] : List UInt8)))) := by
  refine Co.same (impl_CanBe.F_co a0_0 a0_1 l0_2 a0_3 a0_4 l0_5 a0_6 a0_7 a1_0 a1_1 a1_2 a1_3 a1_4 a1_5 a1_6 a1_7) (h := fun k => impl_CanBe.f k a0_0 a0_1 l0_2 a0_3 a0_4 l0_5 a0_6 a0_7 a1_0 a1_1 a1_2 a1_3 a1_4 a1_5 a1_6 a1_7) (fun _ => rfl) ?_
  unfold impl_CanBe.f
  repeat' first | (with_reducible exact Co.const _) | (with_reducible exact impl_WhyNot.F_co _ _ _ _ _ _ _ _ _ _ _ _ _ _ _ _) | (with_reducible refine Co.ite ?_ ?_) | (with_reducible refine Co.bind ?_ (fun _ => ?_))

noncomputable def impl_Seekers.L0 (x5 : List Int) (J : List (S50)) (L : Int) (D : Int) (Y : Int) (aa : Int) (ab : Int) (ac : Int) (ad : Int) (ae : Int) (af : Int) (ag : Int) : Option (List Int) := lim (fun k => impl_Seekers.l0 k x5 J L D Y aa ab ac ad ae af ag)
theorem impl_Seekers.L0_co (x5 : List Int) (J : List (S50)) (L : Int) (D : Int) (Y : Int) (aa : Int) (ab : Int) (ac : Int) (ad : Int) (ae : Int) (af : Int) (ag : Int) : Co (fun k => impl_Seekers.l0 k x5 J L D Y aa ab ac ad ae af ag) (impl_Seekers.L0 x5 J L D Y aa ab ac ad ae af ag) := Co.base (fun k => (impl_Seekers.mono_l k) _ _ _ _ _ _ _ _ _ _ _ _)
noncomputable def impl_Seekers.F (a0_0 : Int) (a0_1 : Int) (a0_2 : Int) (a0_3 : Int) (a0_4 : Int) (a0_5 : Int) (a0_6 : Int) (a0_7 : Int) (l1 : List (S50)) : Option (List Int) := lim (fun k => impl_Seekers.f k a0_0 a0_1 a0_2 a0_3 a0_4 a0_5 a0_6 a0_7 l1)
theorem impl_Seekers.F_co (a0_0 : Int) (a0_1 : Int) (a0_2 : Int) (a0_3 : Int) (a0_4 : Int) (a0_5 : Int) (a0_6 : Int) (a0_7 : Int) (l1 : List (S50)) : Co (fun k => impl_Seekers.f k a0_0 a0_1 a0_2 a0_3 a0_4 a0_5 a0_6 a0_7 l1) (impl_Seekers.F a0_0 a0_1 a0_2 a0_3 a0_4 a0_5 a0_6 a0_7 l1) := Co.base (fun k => impl_Seekers.mono _ _ _ _ _ _ _ _ _ k)
theorem impl_Seekers.L0_eq (x5 : List Int) (J : List (S50)) (L : Int) (D : Int) (Y : Int) (aa : Int) (ab : Int) (ac : Int) (ad : Int) (ae : Int) (af : Int) (ag : Int) : impl_Seekers.L0 x5 J L D Y aa ab ac ad ae af ag = (if D < L then (if 0 ≤ D then (if D < (J.length : Int) then ((impl_CanBe.F ((rd_T50 J D).f0) ((rd_T50 J D).f1) ((rd_T50 J D).f2) ((rd_T50 J D).f3) ((rd_T50 J D).f4) ((rd_T50 J D).f5) ((rd_T50 J D).f6.f0) ((rd_T50 J D).f6.f1) Y aa ab ac ad ae af ag).bind fun ah => (if ah = true then (if x5.length < 17592186044416 then (impl_Seekers.L0 (x5 ++ [(rd_T50 J D).f0]) J L (wrap64 (D + 1)) Y aa ab ac ad ae af ag) else (none)) else (impl_Seekers.L0 x5 J L (wrap64 (D + 1)) Y aa ab ac ad ae af ag))) else (none)) else (none)) else (some x5)) := by
  refine Co.step (impl_Seekers.L0_co x5 J L D Y aa ab ac ad ae af ag) (h := fun k => impl_Seekers.l0 (k + 1) x5 J L D Y aa ab ac ad ae af ag) (fun _ => rfl) ?_
  simp only [impl_Seekers.l0]
  repeat' first | (with_reducible exact Co.const _) | (with_reducible exact impl_CanBe.F_co _ _ _ _ _ _ _ _ _ _ _ _ _ _ _ _) | (with_reducible exact impl_Seekers.L0_co _ _ _ _ _ _ _ _ _ _ _ _) | (with_reducible refine Co.ite ?_ ?_) | (with_reducible refine Co.bind ?_ (fun _ => ?_))
theorem impl_Seekers.F_eq (a0_0 : Int) (a0_1 : Int) (a0_2 : Int) (a0_3 : Int) (a0_4 : Int) (a0_5 : Int) (a0_6 : Int) (a0_7 : Int) (l1 : List (S50)) : impl_Seekers.F a0_0 a0_1 a0_2 a0_3 a0_4 a0_5 a0_6 a0_7 l1 = ((some (([] : List Int) : List Int)).bind fun y244 => ((impl_AreReports.F l1).bind fun t247 => (if t247 = true then (impl_Seekers.L0 y244 l1 (l1.length : Int) 0 a0_0 a0_1 a0_2 a0_3 a0_4 a0_5 a0_6 a0_7) else (some y244)))) := by
  refine Co.same (impl_Seekers.F_co a0_0 a0_1 a0_2 a0_3 a0_4 a0_5 a0_6 a0_7 l1) (h := fun k => impl_Seekers.f k a0_0 a0_1 a0_2 a0_3 a0_4 a0_5 a0_6 a0_7 l1) (fun _ => rfl) ?_
  unfold impl_Seekers.f
  repeat' first | (with_reducible exact Co.const _) | (with_reducible exact impl_AreReports.F_co _) | (with_reducible exact impl_Seekers.L0_co _ _ _ _ _ _ _ _ _ _ _ _) | (with_reducible refine Co.ite ?_ ?_) | (with_reducible refine Co.bind ?_ (fun _ => ?_))

noncomputable def laws_eqIntS.L0 (x0 : List Int) (x1 : List Int) (x5 : Int) : Option (Bool) := lim (fun k => laws_eqIntS.l0 k x0 x1 x5)
theorem laws_eqIntS.L0_co (x0 : List Int) (x1 : List Int) (x5 : Int) : Co (fun k => laws_eqIntS.l0 k x0 x1 x5) (laws_eqIntS.L0 x0 x1 x5) := Co.base (fun k => (laws_eqIntS.mono_l k) _ _ _)
noncomputable def laws_eqIntS.F (l0 : List Int) (l1 : List Int) : Option (Bool) := lim (fun k => laws_eqIntS.f k l0 l1)
theorem laws_eqIntS.F_co (l0 : List Int) (l1 : List Int) : Co (fun k => laws_eqIntS.f k l0 l1) (laws_eqIntS.F l0 l1) := Co.base (fun k => laws_eqIntS.mono _ _ k)
theorem laws_eqIntS.L0_eq (x0 : List Int) (x1 : List Int) (x5 : Int) : laws_eqIntS.L0 x0 x1 x5 = (if x5 < (x0.length : Int) then (if 0 ≤ x5 then (if x5 < (x1.length : Int) then (if (rd x0 x5) = (rd x1 x5) then (laws_eqIntS.L0 x0 x1 (wrap64 (x5 + 1))) else (some false)) else (none)) else (none)) else (some true)) := by
  refine Co.step (laws_eqIntS.L0_co x0 x1 x5) (h := fun k => laws_eqIntS.l0 (k + 1) x0 x1 x5) (fun _ => rfl) ?_
  simp only [laws_eqIntS.l0]
  repeat' first | (with_reducible exact Co.const _) | (with_reducible exact laws_eqIntS.L0_co _ _ _) | (with_reducible refine Co.ite ?_ ?_) | (with_reducible refine Co.bind ?_ (fun _ => ?_))
theorem laws_eqIntS.F_eq (l0 : List Int) (l1 : List Int) : laws_eqIntS.F l0 l1 = (if (l0.length : Int) = (l1.length : Int) then (laws_eqIntS.L0 l0 l1 0) else (some false)) := by
  refine Co.same (laws_eqIntS.F_co l0 l1) (h := fun k => laws_eqIntS.f k l0 l1) (fun _ => rfl) ?_
  unfold laws_eqIntS.f
  repeat' first | (with_reducible exact Co.const _) | (with_reducible exact laws_eqIntS.L0_co _ _ _) | (with_reducible refine Co.ite ?_ ?_) | (with_reducible refine Co.bind ?_ (fun _ => ?_))

noncomputable def laws_eqReport.F (a0_0 : Int) (a0_1 : Int) (l0_2 : List Int) (a0_3 : Int) (a0_4 : Int) (l0_5 : List Int) (a0_6 : Int) (a0_7 : Int) (a1_0 : Int) (a1_1 : Int) (l1_2 : List Int) (a1_3 : Int) (a1_4 : Int) (l1_5 : List Int) (a1_6 : Int) (a1_7 : Int) : Option (Bool) := lim (fun k => laws_eqReport.f k a0_0 a0_1 l0_2 a0_3 a0_4 l0_5 a0_6 a0_7 a1_0 a1_1 l1_2 a1_3 a1_4 l1_5 a1_6 a1_7)
theorem laws_eqReport.F_co (a0_0 : Int) (a0_1 : Int) (l0_2 : List Int) (a0_3 : Int) (a0_4 : Int) (l0_5 : List Int) (a0_6 : Int) (a0_7 : Int) (a1_0 : Int) (a1_1 : Int) (l1_2 : List Int) (a1_3 : Int) (a1_4 : Int) (l1_5 : List Int) (a1_6 : Int) (a1_7 : Int) : Co (fun k => laws_eqReport.f k a0_0 a0_1 l0_2 a0_3 a0_4 l0_5 a0_6 a0_7 a1_0 a1_1 l1_2 a1_3 a1_4 l1_5 a1_6 a1_7) (laws_eqReport.F a0_0 a0_1 l0_2 a0_3 a0_4 l0_5 a0_6 a0_7 a1_0 a1_1 l1_2 a1_3 a1_4 l1_5 a1_6 a1_7) := Co.base (fun k => laws_eqReport.mono _ _ _ _ _ _ _ _ _ _ _ _ _ _ _ _ k)
theorem laws_eqReport.F_eq (a0_0 : Int) (a0_1 : Int) (l0_2 : List Int) (a0_3 : Int) (a0_4 : Int) (l0_5 : List Int) (a0_6 : Int) (a0_7 : Int) (a1_0 : Int) (a1_1 : Int) (l1_2 : List Int) (a1_3 : Int) (a1_4 : Int) (l1_5 : List Int) (a1_6 : Int) (a1_7 : Int) : laws_eqReport.F a0_0 a0_1 l0_2 a0_3 a0_4 l0_5 a0_6 a0_7 a1_0 a1_1 l1_2 a1_3 a1_4 l1_5 a1_6 a1_7 = (if a0_0 = a1_0 then (if a0_1 = a1_1 then ((laws_eqIntS.F l0_2 l1_2).bind fun D => (if D = true then (if a0_3 = a1_3 then (if a0_4 = a1_4 then ((laws_eqIntS.F l0_5 l1_5).bind fun J => (if J = true then ((laws_eqSpan.f a0_6 a0_7 a1_6 a1_7).bind fun L => (if L = true then (some true) else (some false))) else (some false))) else (some false)) else (some false)) else (some false))) else (some false)) else (some false)) := by
  refine Co.same (laws_eqReport.F_co a0_0 a0_1 l0_2 a0_3 a0_4 l0_5 a0_6 a0_7 a1_0 a1_1 l1_2 a1_3 a1_4 l1_5 a1_6 a1_7) (h := fun k => laws_eqReport.f k a0_0 a0_1 l0_2 a0_3 a0_4 l0_5 a0_6 a0_7 a1_0 a1_1 l1_2 a1_3 a1_4 l1_5 a1_6 a1_7) (fun _ => rfl) ?_
  unfold laws_eqReport.f
  repeat' first | (with_reducible exact Co.const _) | (with_reducible exact laws_eqIntS.F_co _ _) | (with_reducible refine Co.ite ?_ ?_) | (with_reducible refine Co.bind ?_ (fun _ => ?_))

noncomputable def laws_eqReportS.L0 (x0 : List (S50)) (x1 : List (S50)) (x5 : Int) : Option (Bool) := lim (fun k => laws_eqReportS.l0 k x0 x1 x5)
theorem laws_eqReportS.L0_co (x0 : List (S50)) (x1 : List (S50)) (x5 : Int) : Co (fun k => laws_eqReportS.l0 k x0 x1 x5) (laws_eqReportS.L0 x0 x1 x5) := Co.base (fun k => (laws_eqReportS.mono_l k) _ _ _)
noncomputable def laws_eqReportS.F (l0 : List (S50)) (l1 : List (S50)) : Option (Bool) := lim (fun k => laws_eqReportS.f k l0 l1)
theorem laws_eqReportS.F_co (l0 : List (S50)) (l1 : List (S50)) : Co (fun k => laws_eqReportS.f k l0 l1) (laws_eqReportS.F l0 l1) := Co.base (fun k => laws_eqReportS.mono _ _ k)
theorem laws_eqReportS.L0_eq (x0 : List (S50)) (x1 : List (S50)) (x5 : Int) : laws_eqReportS.L0 x0 x1 x5 = (if x5 < (x0.length : Int) then (if 0 ≤ x5 then (if x5 < (x1.length : Int) then ((laws_eqReport.F ((rd_T50 x0 x5).f0) ((rd_T50 x0 x5).f1) ((rd_T50 x0 x5).f2) ((rd_T50 x0 x5).f3) ((rd_T50 x0 x5).f4) ((rd_T50 x0 x5).f5) ((rd_T50 x0 x5).f6.f0) ((rd_T50 x0 x5).f6.f1) ((rd_T50 x1 x5).f0) ((rd_T50 x1 x5).f1) ((rd_T50 x1 x5).f2) ((rd_T50 x1 x5).f3) ((rd_T50 x1 x5).f4) ((rd_T50 x1 x5).f5) ((rd_T50 x1 x5).f6.f0) ((rd_T50 x1 x5).f6.f1)).bind fun D => (if D = true then (laws_eqReportS.L0 x0 x1 (wrap64 (x5 + 1))) else (some false))) else (none)) else (none)) else (some true)) := by
  refine Co.step (laws_eqReportS.L0_co x0 x1 x5) (h := fun k => laws_eqReportS.l0 (k + 1) x0 x1 x5) (fun _ => rfl) ?_
  simp only [laws_eqReportS.l0]
  repeat' first | (with_reducible exact Co.const _) | (with_reducible exact laws_eqReport.F_co _ _ _ _ _ _ _ _ _ _ _ _ _ _ _ _) | (with_reducible exact laws_eqReportS.L0_co _ _ _) | (with_reducible refine Co.ite ?_ ?_) | (with_reducible refine Co.bind ?_ (fun _ => ?_))
theorem laws_eqReportS.F_eq (l0 : List (S50)) (l1 : List (S50)) : laws_eqReportS.F l0 l1 = (if (l0.length : Int) = (l1.length : Int) then (laws_eqReportS.L0 l0 l1 0) else (some false)) := by
  refine Co.same (laws_eqReportS.F_co l0 l1) (h := fun k => laws_eqReportS.f k l0 l1) (fun _ => rfl) ?_
  unfold laws_eqReportS.f
  repeat' first | (with_reducible exact Co.const _) | (with_reducible exact laws_eqReportS.L0_co _ _ _) | (with_reducible refine Co.ite ?_ ?_) | (with_reducible refine Co.bind ?_ (fun _ => ?_))

noncomputable def laws_markIntS.L0 (x0 : List Int) (x1 : Int) (x5 : Int) : Option (Int × List Int) := lim (fun k => laws_markIntS.l0 k x0 x1 x5)
theorem laws_markIntS.L0_co (x0 : List Int) (x1 : Int) (x5 : Int) : Co (fun k => laws_markIntS.l0 k x0 x1 x5) (laws_markIntS.L0 x0 x1 x5) := Co.base (fun k => (laws_markIntS.mono_l k) _ _ _)
noncomputable def laws_markIntS.F (l0 : List Int) (a1 : Int) : Option (Int × List Int) := lim (fun k => laws_markIntS.f k l0 a1)
theorem laws_markIntS.F_co (l0 : List Int) (a1 : Int) : Co (fun k => laws_markIntS.f k l0 a1) (laws_markIntS.F l0 a1) := Co.base (fun k => laws_markIntS.mono _ _ k)
theorem laws_markIntS.L0_eq (x0 : List Int) (x1 : Int) (x5 : Int) : laws_markIntS.L0 x0 x1 x5 = (if x5 < (x0.length : Int) then (if 0 ≤ x5 then (laws_markIntS.L0 (x0.set (x5 : Int).toNat x1) (wrap64 (x1 + 1)) (wrap64 (x5 + 1))) else (none)) else (some (x1, x0))) := by
  refine Co.step (laws_markIntS.L0_co x0 x1 x5) (h := fun k => laws_markIntS.l0 (k + 1) x0 x1 x5) (fun _ => rfl) ?_
  simp only [laws_markIntS.l0]
  repeat' first | (with_reducible exact Co.const _) | (with_reducible exact laws_markIntS.L0_co _ _ _) | (with_reducible refine Co.ite ?_ ?_) | (with_reducible refine Co.bind ?_ (fun _ => ?_))
theorem laws_markIntS.F_eq (l0 : List Int) (a1 : Int) : laws_markIntS.F l0 a1 = (laws_markIntS.L0 l0 a1 0) := by
  refine Co.same (laws_markIntS.F_co l0 a1) (h := fun k => laws_markIntS.f k l0 a1) (fun _ => rfl) ?_
  unfold laws_markIntS.f
  repeat' first | (with_reducible exact Co.const _) | (with_reducible exact laws_markIntS.L0_co _ _ _) | (with_reducible refine Co.ite ?_ ?_) | (with_reducible refine Co.bind ?_ (fun _ => ?_))

noncomputable def laws_heldIntS.L0 (x0 : List Int) (x1 : Int) (x5 : Int) : Option (Int) := lim (fun k => laws_heldIntS.l0 k x0 x1 x5)
theorem laws_heldIntS.L0_co (x0 : List Int) (x1 : Int) (x5 : Int) : Co (fun k => laws_heldIntS.l0 k x0 x1 x5) (laws_heldIntS.L0 x0 x1 x5) := Co.base (fun k => (laws_heldIntS.mono_l k) _ _ _)
noncomputable def laws_heldIntS.F (l0 : List Int) (a1 : Int) : Option (Int) := lim (fun k => laws_heldIntS.f k l0 a1)
theorem laws_heldIntS.F_co (l0 : List Int) (a1 : Int) : Co (fun k => laws_heldIntS.f k l0 a1) (laws_heldIntS.F l0 a1) := Co.base (fun k => laws_heldIntS.mono _ _ k)
theorem laws_heldIntS.L0_eq (x0 : List Int) (x1 : Int) (x5 : Int) : laws_heldIntS.L0 x0 x1 x5 = (if x5 < (x0.length : Int) then (if 0 ≤ x5 then (if (rd x0 x5) = x1 then (laws_heldIntS.L0 x0 (wrap64 (x1 + 1)) (wrap64 (x5 + 1))) else (some (-1))) else (none)) else (some x1)) := by
  refine Co.step (laws_heldIntS.L0_co x0 x1 x5) (h := fun k => laws_heldIntS.l0 (k + 1) x0 x1 x5) (fun _ => rfl) ?_
  simp only [laws_heldIntS.l0]
  repeat' first | (with_reducible exact Co.const _) | (with_reducible exact laws_heldIntS.L0_co _ _ _) | (with_reducible refine Co.ite ?_ ?_) | (with_reducible refine Co.bind ?_ (fun _ => ?_))
theorem laws_heldIntS.F_eq (l0 : List Int) (a1 : Int) : laws_heldIntS.F l0 a1 = (laws_heldIntS.L0 l0 a1 0) := by
  refine Co.same (laws_heldIntS.F_co l0 a1) (h := fun k => laws_heldIntS.f k l0 a1) (fun _ => rfl) ?_
  unfold laws_heldIntS.f
  repeat' first | (with_reducible exact Co.const _) | (with_reducible exact laws_heldIntS.L0_co _ _ _) | (with_reducible refine Co.ite ?_ ?_) | (with_reducible refine Co.bind ?_ (fun _ => ?_))

noncomputable def laws_FnExactSeekers.J0 (x1 : List (S45)) (x6 : List Int) (x8 : List Int) (aa : Bool) (ab : Int) (ac : Int) (ad : Int) (ae : Int) (af : Int) (ag : Int) (ah : Int) (ai : Int) : Option (Bool) := lim (fun k => laws_FnExactSeekers.j0 k x1 x6 x8 aa ab ac ad ae af ag ah ai)
theorem laws_FnExactSeekers.J0_co (x1 : List (S45)) (x6 : List Int) (x8 : List Int) (aa : Bool) (ab : Int) (ac : Int) (ad : Int) (ae : Int) (af : Int) (ag : Int) (ah : Int) (ai : Int) : Co (fun k => laws_FnExactSeekers.j0 k x1 x6 x8 aa ab ac ad ae af ag ah ai) (laws_FnExactSeekers.J0 x1 x6 x8 aa ab ac ad ae af ag ah ai) := Co.base (fun k => (laws_FnExactSeekers.mono_l k) _ _ _ _ _ _ _ _ _ _ _ _)
noncomputable def laws_FnExactSeekers.F (a0_0 : Int) (a0_1 : Int) (a0_2 : Int) (a0_3 : Int) (a0_4 : Int) (a0_5 : Int) (a0_6 : Int) (a0_7 : Int) (l1 : List (S45)) : Option (Bool) := lim (fun k => laws_FnExactSeekers.f k a0_0 a0_1 a0_2 a0_3 a0_4 a0_5 a0_6 a0_7 l1)
theorem laws_FnExactSeekers.F_co (a0_0 : Int) (a0_1 : Int) (a0_2 : Int) (a0_3 : Int) (a0_4 : Int) (a0_5 : Int) (a0_6 : Int) (a0_7 : Int) (l1 : List (S45)) : Co (fun k => laws_FnExactSeekers.f k a0_0 a0_1 a0_2 a0_3 a0_4 a0_5 a0_6 a0_7 l1) (laws_FnExactSeekers.F a0_0 a0_1 a0_2 a0_3 a0_4 a0_5 a0_6 a0_7 l1) := Co.base (fun k => laws_FnExactSeekers.mono _ _ _ _ _ _ _ _ _ k)
theorem laws_FnExactSeekers.J0_eq (x1 : List (S45)) (x6 : List Int) (x8 : List Int) (aa : Bool) (ab : Int) (ac : Int) (ad : Int) (ae : Int) (af : Int) (ag : Int) (ah : Int) (ai : Int) : laws_FnExactSeekers.J0 x1 x6 x8 aa ab ac ad ae af ag ah ai = (if aa = true then (some false) else ((laws_markIntS.F x8 1).bind fun J => ((laws_heldIntS.F J.2 1).bind fun L => (if L < 0 then (some false) else (if L = J.1 then ((laws_toFind.f ab ac ad ae af ag ah ai).bind fun D => ((laws_toReportS.F x1).bind fun aj => ((impl_Seekers.F D.1 D.2.1 D.2.2.1 D.2.2.2.1 D.2.2.2.2.1 D.2.2.2.2.2.1 D.2.2.2.2.2.2.1 D.2.2.2.2.2.2.2 aj).bind fun ak => ((laws_eqIntS.F ak x6).bind fun al => (if al = true then ((laws_heldIntS.F J.2 1).bind fun Y => (if Y < 0 then (some false) else (if Y = J.1 then (some true) else (some false)))) else (some false)))))) else (some false)))))) := by
  refine Co.step (laws_FnExactSeekers.J0_co x1 x6 x8 aa ab ac ad ae af ag ah ai) (h := fun k => laws_FnExactSeekers.j0 (k + 1) x1 x6 x8 aa ab ac ad ae af ag ah ai) (fun _ => rfl) ?_
  simp only [laws_FnExactSeekers.j0]
  repeat' first | (with_reducible exact Co.const _) | (with_reducible exact impl_Seekers.F_co _ _ _ _ _ _ _ _ _) | (with_reducible exact laws_eqIntS.F_co _ _) | (with_reducible exact laws_heldIntS.F_co _ _) | (with_reducible exact laws_markIntS.F_co _ _) | (with_reducible exact laws_toReportS.F_co _) | (with_reducible refine Co.ite ?_ ?_) | (with_reducible refine Co.bind ?_ (fun _ => ?_))
theorem laws_FnExactSeekers.F_eq (a0_0 : Int) (a0_1 : Int) (a0_2 : Int) (a0_3 : Int) (a0_4 : Int) (a0_5 : Int) (a0_6 : Int) (a0_7 : Int) (l1 : List (S45)) : laws_FnExactSeekers.F a0_0 a0_1 a0_2 a0_3 a0_4 a0_5 a0_6 a0_7 l1 = ((laws_szReportS.F l1 1048576).bind fun ab => (if ab < 0 then (some true) else ((laws_toFind.f a0_0 a0_1 a0_2 a0_3 a0_4 a0_5 a0_6 a0_7).bind fun D => ((laws_toReportS.F l1).bind fun ac => ((spec_Seekers.F D.1 D.2.1 D.2.2.1 D.2.2.2.1 D.2.2.2.2.1 D.2.2.2.2.2.1 D.2.2.2.2.2.2.1 D.2.2.2.2.2.2.2 ac).bind fun L => ((laws_toReportS.F l1).bind fun aa => ((laws_toFind.f a0_0 a0_1 a0_2 a0_3 a0_4 a0_5 a0_6 a0_7).bind fun J => ((impl_Seekers.F J.1 J.2.1 J.2.2.1 J.2.2.2.1 J.2.2.2.2.1 J.2.2.2.2.2.1 J.2.2.2.2.2.2.1 J.2.2.2.2.2.2.2 aa).bind fun Y => ((laws_eqIntS.F Y L).bind fun ad => (if ad = true then ((laws_toReportS.F l1).bind fun ae => ((laws_eqReportS.F aa ae).bind fun af => (if af = true then ((laws_markReportS.f aa 1).bind fun ag => (if ag < 0 then (laws_FnExactSeekers.J0 l1 L Y true a0_0 a0_1 a0_2 a0_3 a0_4 a0_5 a0_6 a0_7) else ((laws_eqIntS.F Y L).bind fun ah => (laws_FnExactSeekers.J0 l1 L Y (!ah) a0_0 a0_1 a0_2 a0_3 a0_4 a0_5 a0_6 a0_7)))) else (some false)))) else (some false))))))))))) := by
  refine Co.same (laws_FnExactSeekers.F_co a0_0 a0_1 a0_2 a0_3 a0_4 a0_5 a0_6 a0_7 l1) (h := fun k => laws_FnExactSeekers.f k a0_0 a0_1 a0_2 a0_3 a0_4 a0_5 a0_6 a0_7 l1) (fun _ => rfl) ?_
  unfold laws_FnExactSeekers.f
  repeat' first | (with_reducible exact Co.const _) | (with_reducible exact impl_Seekers.F_co _ _ _ _ _ _ _ _ _) | (with_reducible exact laws_FnExactSeekers.J0_co _ _ _ _ _ _ _ _ _ _ _ _) | (with_reducible exact laws_eqIntS.F_co _ _) | (with_reducible exact laws_eqReportS.F_co _ _) | (with_reducible exact laws_szReportS.F_co _ _) | (with_reducible exact laws_toReportS.F_co _) | (with_reducible exact spec_Seekers.F_co _ _ _ _ _ _ _ _ _) | (with_reducible refine Co.ite ?_ ?_) | (with_reducible refine Co.bind ?_ (fun _ => ?_))

end Go.Proofs.Ytmgildchccmhgaa.PFnExactSeekers.Pure
