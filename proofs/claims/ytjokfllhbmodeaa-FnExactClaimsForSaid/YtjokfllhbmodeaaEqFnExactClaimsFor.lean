/-
  The printed functions that this law reaches, their rounds used up, and the equations that they meet.
-/
import Derived.Test.YtjokfllhbmodeaaPFnExactClaimsForx1
import Derived.Test.YtjokfllhbmodeaaPFnExactClaimsForx2
import Derived.Test.YtjokfllhbmodeaaPFnExactClaimsForx3
import Derived.Test.YtjokfllhbmodeaaLim
namespace Go.Proofs.Ytjokfllhbmodeaa.PFnExactClaimsFor.Pure
open Go.RowKit Go.Proofs.YtjokfllhbmodeaaW.PrintWords Go.Proofs.YtjokfllhbmodeaaW.PrintLast Go.Proofs.YtjokfllhbmodeaaW.PrintMore Go.Proofs.Ytjokfllhbmodeaa.PFnExactClaimsFor Go.Proofs.Ytjokfllhbmodeaa.Lim
set_option linter.unusedVariables false
set_option maxRecDepth 100000

noncomputable def laws_toClaimS.L0 (x0 : List (S124)) (x3 : List (S122)) (x4 : Int) : Option ((List (S122))) := lim (fun k => laws_toClaimS.l0 k x0 x3 x4)
theorem laws_toClaimS.L0_co (x0 : List (S124)) (x3 : List (S122)) (x4 : Int) : Co (fun k => laws_toClaimS.l0 k x0 x3 x4) (laws_toClaimS.L0 x0 x3 x4) := Co.base (fun k => (laws_toClaimS.mono_l k) _ _ _)
noncomputable def laws_toClaimS.F (l0 : List (S124)) : Option ((List (S122))) := lim (fun k => laws_toClaimS.f k l0)
theorem laws_toClaimS.F_co (l0 : List (S124)) : Co (fun k => laws_toClaimS.f k l0) (laws_toClaimS.F l0) := Co.base (fun k => laws_toClaimS.mono _ k)
theorem laws_toClaimS.L0_eq (x0 : List (S124)) (x3 : List (S122)) (x4 : Int) : laws_toClaimS.L0 x0 x3 x4 = (if x4 < (x0.length : Int) then (if 0 ≤ x4 then ((laws_toClaim.f ((rd_T124 x0 x4).f0) ((rd_T124 x0 x4).f1) ((rd_T124 x0 x4).f2) ((rd_T124 x0 x4).f3) ((rd_T124 x0 x4).f4)).bind fun bt108 => (if x4 < (x3.length : Int) then (laws_toClaimS.L0 x0 (x3.set (x4 : Int).toNat (⟨bt108.1, bt108.2.1, bt108.2.2.1, bt108.2.2.2.1, bt108.2.2.2.2⟩ : S122)) (wrap64 (x4 + 1))) else (none))) else (none)) else (some x3)) := by
  refine Co.step (laws_toClaimS.L0_co x0 x3 x4) (h := fun k => (if x4 < (x0.length : Int) then (if 0 ≤ x4 then ((laws_toClaim.f ((rd_T124 x0 x4).f0) ((rd_T124 x0 x4).f1) ((rd_T124 x0 x4).f2) ((rd_T124 x0 x4).f3) ((rd_T124 x0 x4).f4)).bind fun bt108 => (if x4 < (x3.length : Int) then (laws_toClaimS.l0 k x0 (x3.set (x4 : Int).toNat (⟨bt108.1, bt108.2.1, bt108.2.2.1, bt108.2.2.2.1, bt108.2.2.2.2⟩ : S122)) (wrap64 (x4 + 1))) else (none))) else (none)) else (some x3))) (fun k => by first | rfl | (simp only [laws_toClaimS.l0])) ?_
  repeat' first
    | (with_reducible exact Co.const _)
    | (with_reducible exact laws_toClaimS.L0_co _ _ _)
    | (with_reducible refine Co.ite ?_ ?_)
    | (with_reducible refine Co.bind ?_ (fun _ => ?_))
theorem laws_toClaimS.F_eq (l0 : List (S124)) : laws_toClaimS.F l0 = (if 0 ≤ (l0.length : Int) then (if ((l0.length : Int) : Int).toNat ≤ 7036874417766 then (laws_toClaimS.L0 l0 (List.replicate ((l0.length : Int) : Int).toNat z122) 0) else (none)) else (none)) := by
  refine Co.same (laws_toClaimS.F_co l0) (h := fun k => (if 0 ≤ (l0.length : Int) then (if ((l0.length : Int) : Int).toNat ≤ 7036874417766 then (laws_toClaimS.l0 k l0 (List.replicate ((l0.length : Int) : Int).toNat z122) 0) else (none)) else (none))) (fun k => by first | rfl | unfold laws_toClaimS.f; rfl) ?_
  repeat' first
    | (with_reducible exact Co.const _)
    | (with_reducible exact laws_toClaimS.L0_co _ _ _)
    | (with_reducible refine Co.ite ?_ ?_)
    | (with_reducible refine Co.bind ?_ (fun _ => ?_))

noncomputable def laws_eqClaimS.L0 (x0 : List (S122)) (x1 : List (S122)) (x5 : Int) : Option (Bool) := lim (fun k => laws_eqClaimS.l0 k x0 x1 x5)
theorem laws_eqClaimS.L0_co (x0 : List (S122)) (x1 : List (S122)) (x5 : Int) : Co (fun k => laws_eqClaimS.l0 k x0 x1 x5) (laws_eqClaimS.L0 x0 x1 x5) := Co.base (fun k => (laws_eqClaimS.mono_l k) _ _ _)
noncomputable def laws_eqClaimS.F (l0 : List (S122)) (l1 : List (S122)) : Option (Bool) := lim (fun k => laws_eqClaimS.f k l0 l1)
theorem laws_eqClaimS.F_co (l0 : List (S122)) (l1 : List (S122)) : Co (fun k => laws_eqClaimS.f k l0 l1) (laws_eqClaimS.F l0 l1) := Co.base (fun k => laws_eqClaimS.mono _ _ k)
theorem laws_eqClaimS.L0_eq (x0 : List (S122)) (x1 : List (S122)) (x5 : Int) : laws_eqClaimS.L0 x0 x1 x5 = (if x5 < (x0.length : Int) then (if 0 ≤ x5 then (if x5 < (x1.length : Int) then ((laws_eqClaim.f ((rd_T122 x0 x5).f0) ((rd_T122 x0 x5).f1) ((rd_T122 x0 x5).f2) ((rd_T122 x0 x5).f3) ((rd_T122 x0 x5).f4) ((rd_T122 x1 x5).f0) ((rd_T122 x1 x5).f1) ((rd_T122 x1 x5).f2) ((rd_T122 x1 x5).f3) ((rd_T122 x1 x5).f4)).bind fun t118 => (if t118 = true then (laws_eqClaimS.L0 x0 x1 (wrap64 (x5 + 1))) else (some false))) else (none)) else (none)) else (some true)) := by
  refine Co.step (laws_eqClaimS.L0_co x0 x1 x5) (h := fun k => (if x5 < (x0.length : Int) then (if 0 ≤ x5 then (if x5 < (x1.length : Int) then ((laws_eqClaim.f ((rd_T122 x0 x5).f0) ((rd_T122 x0 x5).f1) ((rd_T122 x0 x5).f2) ((rd_T122 x0 x5).f3) ((rd_T122 x0 x5).f4) ((rd_T122 x1 x5).f0) ((rd_T122 x1 x5).f1) ((rd_T122 x1 x5).f2) ((rd_T122 x1 x5).f3) ((rd_T122 x1 x5).f4)).bind fun t118 => (if t118 = true then (laws_eqClaimS.l0 k x0 x1 (wrap64 (x5 + 1))) else (some false))) else (none)) else (none)) else (some true))) (fun k => by first | rfl | (simp only [laws_eqClaimS.l0])) ?_
  repeat' first
    | (with_reducible exact Co.const _)
    | (with_reducible exact laws_eqClaimS.L0_co _ _ _)
    | (with_reducible refine Co.ite ?_ ?_)
    | (with_reducible refine Co.bind ?_ (fun _ => ?_))
theorem laws_eqClaimS.F_eq (l0 : List (S122)) (l1 : List (S122)) : laws_eqClaimS.F l0 l1 = (if (l0.length : Int) = (l1.length : Int) then (laws_eqClaimS.L0 l0 l1 0) else (some false)) := by
  refine Co.same (laws_eqClaimS.F_co l0 l1) (h := fun k => (if (l0.length : Int) = (l1.length : Int) then (laws_eqClaimS.l0 k l0 l1 0) else (some false))) (fun k => by first | rfl | unfold laws_eqClaimS.f; rfl) ?_
  repeat' first
    | (with_reducible exact Co.const _)
    | (with_reducible exact laws_eqClaimS.L0_co _ _ _)
    | (with_reducible refine Co.ite ?_ ?_)
    | (with_reducible refine Co.bind ?_ (fun _ => ?_))

noncomputable def laws_eqIntS.L0 (x0 : List Int) (x1 : List Int) (x5 : Int) : Option (Bool) := lim (fun k => laws_eqIntS.l0 k x0 x1 x5)
theorem laws_eqIntS.L0_co (x0 : List Int) (x1 : List Int) (x5 : Int) : Co (fun k => laws_eqIntS.l0 k x0 x1 x5) (laws_eqIntS.L0 x0 x1 x5) := Co.base (fun k => (laws_eqIntS.mono_l k) _ _ _)
noncomputable def laws_eqIntS.F (l0 : List Int) (l1 : List Int) : Option (Bool) := lim (fun k => laws_eqIntS.f k l0 l1)
theorem laws_eqIntS.F_co (l0 : List Int) (l1 : List Int) : Co (fun k => laws_eqIntS.f k l0 l1) (laws_eqIntS.F l0 l1) := Co.base (fun k => laws_eqIntS.mono _ _ k)
theorem laws_eqIntS.L0_eq (x0 : List Int) (x1 : List Int) (x5 : Int) : laws_eqIntS.L0 x0 x1 x5 = (if x5 < (x0.length : Int) then (if 0 ≤ x5 then (if x5 < (x1.length : Int) then (if (rd x0 x5) = (rd x1 x5) then (laws_eqIntS.L0 x0 x1 (wrap64 (x5 + 1))) else (some false)) else (none)) else (none)) else (some true)) := by
  refine Co.step (laws_eqIntS.L0_co x0 x1 x5) (h := fun k => (if x5 < (x0.length : Int) then (if 0 ≤ x5 then (if x5 < (x1.length : Int) then (if (rd x0 x5) = (rd x1 x5) then (laws_eqIntS.l0 k x0 x1 (wrap64 (x5 + 1))) else (some false)) else (none)) else (none)) else (some true))) (fun k => by first | rfl | (simp only [laws_eqIntS.l0])) ?_
  repeat' first
    | (with_reducible exact Co.const _)
    | (with_reducible exact laws_eqIntS.L0_co _ _ _)
    | (with_reducible refine Co.ite ?_ ?_)
    | (with_reducible refine Co.bind ?_ (fun _ => ?_))
theorem laws_eqIntS.F_eq (l0 : List Int) (l1 : List Int) : laws_eqIntS.F l0 l1 = (if (l0.length : Int) = (l1.length : Int) then (laws_eqIntS.L0 l0 l1 0) else (some false)) := by
  refine Co.same (laws_eqIntS.F_co l0 l1) (h := fun k => (if (l0.length : Int) = (l1.length : Int) then (laws_eqIntS.l0 k l0 l1 0) else (some false))) (fun k => by first | rfl | unfold laws_eqIntS.f; rfl) ?_
  repeat' first
    | (with_reducible exact Co.const _)
    | (with_reducible exact laws_eqIntS.L0_co _ _ _)
    | (with_reducible refine Co.ite ?_ ?_)
    | (with_reducible refine Co.bind ?_ (fun _ => ?_))

noncomputable def laws_markIntS.L0 (x0 : List Int) (x1 : Int) (x5 : Int) : Option (Int × List Int) := lim (fun k => laws_markIntS.l0 k x0 x1 x5)
theorem laws_markIntS.L0_co (x0 : List Int) (x1 : Int) (x5 : Int) : Co (fun k => laws_markIntS.l0 k x0 x1 x5) (laws_markIntS.L0 x0 x1 x5) := Co.base (fun k => (laws_markIntS.mono_l k) _ _ _)
noncomputable def laws_markIntS.F (l0 : List Int) (a1 : Int) : Option (Int × List Int) := lim (fun k => laws_markIntS.f k l0 a1)
theorem laws_markIntS.F_co (l0 : List Int) (a1 : Int) : Co (fun k => laws_markIntS.f k l0 a1) (laws_markIntS.F l0 a1) := Co.base (fun k => laws_markIntS.mono _ _ k)
theorem laws_markIntS.L0_eq (x0 : List Int) (x1 : Int) (x5 : Int) : laws_markIntS.L0 x0 x1 x5 = (if x5 < (x0.length : Int) then (if 0 ≤ x5 then (laws_markIntS.L0 (x0.set (x5 : Int).toNat x1) (wrap64 (x1 + 1)) (wrap64 (x5 + 1))) else (none)) else (some (x1, x0))) := by
  refine Co.step (laws_markIntS.L0_co x0 x1 x5) (h := fun k => (if x5 < (x0.length : Int) then (if 0 ≤ x5 then (laws_markIntS.l0 k (x0.set (x5 : Int).toNat x1) (wrap64 (x1 + 1)) (wrap64 (x5 + 1))) else (none)) else (some (x1, x0)))) (fun k => by first | rfl | (simp only [laws_markIntS.l0])) ?_
  repeat' first
    | (with_reducible exact Co.const _)
    | (with_reducible exact laws_markIntS.L0_co _ _ _)
    | (with_reducible refine Co.ite ?_ ?_)
    | (with_reducible refine Co.bind ?_ (fun _ => ?_))
theorem laws_markIntS.F_eq (l0 : List Int) (a1 : Int) : laws_markIntS.F l0 a1 = (laws_markIntS.L0 l0 a1 0) := by
  refine Co.same (laws_markIntS.F_co l0 a1) (h := fun k => (laws_markIntS.l0 k l0 a1 0)) (fun k => by first | rfl | unfold laws_markIntS.f; rfl) ?_
  repeat' first
    | (with_reducible exact Co.const _)
    | (with_reducible exact laws_markIntS.L0_co _ _ _)
    | (with_reducible refine Co.ite ?_ ?_)
    | (with_reducible refine Co.bind ?_ (fun _ => ?_))

noncomputable def laws_heldIntS.L0 (x0 : List Int) (x1 : Int) (x5 : Int) : Option (Int) := lim (fun k => laws_heldIntS.l0 k x0 x1 x5)
theorem laws_heldIntS.L0_co (x0 : List Int) (x1 : Int) (x5 : Int) : Co (fun k => laws_heldIntS.l0 k x0 x1 x5) (laws_heldIntS.L0 x0 x1 x5) := Co.base (fun k => (laws_heldIntS.mono_l k) _ _ _)
noncomputable def laws_heldIntS.F (l0 : List Int) (a1 : Int) : Option (Int) := lim (fun k => laws_heldIntS.f k l0 a1)
theorem laws_heldIntS.F_co (l0 : List Int) (a1 : Int) : Co (fun k => laws_heldIntS.f k l0 a1) (laws_heldIntS.F l0 a1) := Co.base (fun k => laws_heldIntS.mono _ _ k)
theorem laws_heldIntS.L0_eq (x0 : List Int) (x1 : Int) (x5 : Int) : laws_heldIntS.L0 x0 x1 x5 = (if x5 < (x0.length : Int) then (if 0 ≤ x5 then (if (rd x0 x5) = x1 then (laws_heldIntS.L0 x0 (wrap64 (x1 + 1)) (wrap64 (x5 + 1))) else (some (-1))) else (none)) else (some x1)) := by
  refine Co.step (laws_heldIntS.L0_co x0 x1 x5) (h := fun k => (if x5 < (x0.length : Int) then (if 0 ≤ x5 then (if (rd x0 x5) = x1 then (laws_heldIntS.l0 k x0 (wrap64 (x1 + 1)) (wrap64 (x5 + 1))) else (some (-1))) else (none)) else (some x1))) (fun k => by first | rfl | (simp only [laws_heldIntS.l0])) ?_
  repeat' first
    | (with_reducible exact Co.const _)
    | (with_reducible exact laws_heldIntS.L0_co _ _ _)
    | (with_reducible refine Co.ite ?_ ?_)
    | (with_reducible refine Co.bind ?_ (fun _ => ?_))
theorem laws_heldIntS.F_eq (l0 : List Int) (a1 : Int) : laws_heldIntS.F l0 a1 = (laws_heldIntS.L0 l0 a1 0) := by
  refine Co.same (laws_heldIntS.F_co l0 a1) (h := fun k => (laws_heldIntS.l0 k l0 a1 0)) (fun k => by first | rfl | unfold laws_heldIntS.f; rfl) ?_
  repeat' first
    | (with_reducible exact Co.const _)
    | (with_reducible exact laws_heldIntS.L0_co _ _ _)
    | (with_reducible refine Co.ite ?_ ?_)
    | (with_reducible refine Co.bind ?_ (fun _ => ?_))

noncomputable def spec_ClaimsFor.L0 (x0 : List (S122)) (x1 : Int) (x5 : List Int) (x6 : Int) : Option (List Int) := lim (fun k => spec_ClaimsFor.l0 k x0 x1 x5 x6)
theorem spec_ClaimsFor.L0_co (x0 : List (S122)) (x1 : Int) (x5 : List Int) (x6 : Int) : Co (fun k => spec_ClaimsFor.l0 k x0 x1 x5 x6) (spec_ClaimsFor.L0 x0 x1 x5 x6) := Co.base (fun k => (spec_ClaimsFor.mono_l k) _ _ _ _)
noncomputable def spec_ClaimsFor.F (l0 : List (S122)) (a1 : Int) : Option (List Int) := lim (fun k => spec_ClaimsFor.f k l0 a1)
theorem spec_ClaimsFor.F_co (l0 : List (S122)) (a1 : Int) : Co (fun k => spec_ClaimsFor.f k l0 a1) (spec_ClaimsFor.F l0 a1) := Co.base (fun k => spec_ClaimsFor.mono _ _ k)
theorem spec_ClaimsFor.L0_eq (x0 : List (S122)) (x1 : Int) (x5 : List Int) (x6 : Int) : spec_ClaimsFor.L0 x0 x1 x5 x6 = (if x6 < (x0.length : Int) then (if 0 ≤ x6 then (if ((rd_T122 x0 x6).f2) = x1 then (if x5.length < 17592186044416 then (spec_ClaimsFor.L0 x0 x1 (x5 ++ [(rd_T122 x0 x6).f0]) (wrap64 (x6 + 1))) else (none)) else (spec_ClaimsFor.L0 x0 x1 x5 (wrap64 (x6 + 1)))) else (none)) else (some x5)) := by
  refine Co.step (spec_ClaimsFor.L0_co x0 x1 x5 x6) (h := fun k => (if x6 < (x0.length : Int) then (if 0 ≤ x6 then (if ((rd_T122 x0 x6).f2) = x1 then (if x5.length < 17592186044416 then (spec_ClaimsFor.l0 k x0 x1 (x5 ++ [(rd_T122 x0 x6).f0]) (wrap64 (x6 + 1))) else (none)) else (spec_ClaimsFor.l0 k x0 x1 x5 (wrap64 (x6 + 1)))) else (none)) else (some x5))) (fun k => by first | rfl | (simp only [spec_ClaimsFor.l0])) ?_
  repeat' first
    | (with_reducible exact Co.const _)
    | (with_reducible exact spec_ClaimsFor.L0_co _ _ _ _)
    | (with_reducible refine Co.ite ?_ ?_)
    | (with_reducible refine Co.bind ?_ (fun _ => ?_))
theorem spec_ClaimsFor.F_eq (l0 : List (S122)) (a1 : Int) : spec_ClaimsFor.F l0 a1 = (spec_ClaimsFor.L0 l0 a1 (([] : List Int)) 0) := by
  refine Co.same (spec_ClaimsFor.F_co l0 a1) (h := fun k => (spec_ClaimsFor.l0 k l0 a1 (([] : List Int)) 0)) (fun k => by first | rfl | unfold spec_ClaimsFor.f; rfl) ?_
  repeat' first
    | (with_reducible exact Co.const _)
    | (with_reducible exact spec_ClaimsFor.L0_co _ _ _ _)
    | (with_reducible refine Co.ite ?_ ?_)
    | (with_reducible refine Co.bind ?_ (fun _ => ?_))

noncomputable def impl_ClaimsFor.L0 (x1 : Int) (x5 : List Int) (x9 : List (S122)) (x10 : Int) (x11 : Int) : Option (List Int) := lim (fun k => impl_ClaimsFor.l0 k x1 x5 x9 x10 x11)
theorem impl_ClaimsFor.L0_co (x1 : Int) (x5 : List Int) (x9 : List (S122)) (x10 : Int) (x11 : Int) : Co (fun k => impl_ClaimsFor.l0 k x1 x5 x9 x10 x11) (impl_ClaimsFor.L0 x1 x5 x9 x10 x11) := Co.base (fun k => (impl_ClaimsFor.mono_l k) _ _ _ _ _)
noncomputable def impl_ClaimsFor.F (l0 : List (S122)) (a1 : Int) : Option (List Int) := lim (fun k => impl_ClaimsFor.f k l0 a1)
theorem impl_ClaimsFor.F_co (l0 : List (S122)) (a1 : Int) : Co (fun k => impl_ClaimsFor.f k l0 a1) (impl_ClaimsFor.F l0 a1) := Co.base (fun k => impl_ClaimsFor.mono _ _ k)
theorem impl_ClaimsFor.L0_eq (x1 : Int) (x5 : List Int) (x9 : List (S122)) (x10 : Int) (x11 : Int) : impl_ClaimsFor.L0 x1 x5 x9 x10 x11 = (if x11 < x10 then (if 0 ≤ x11 then (if x11 < (x9.length : Int) then (if ((rd_T122 x9 x11).f2) = x1 then (if x5.length < 17592186044416 then (impl_ClaimsFor.L0 x1 (x5 ++ [(rd_T122 x9 x11).f0]) x9 x10 (wrap64 (x11 + 1))) else (none)) else (impl_ClaimsFor.L0 x1 x5 x9 x10 (wrap64 (x11 + 1)))) else (none)) else (none)) else (some x5)) := by
  refine Co.step (impl_ClaimsFor.L0_co x1 x5 x9 x10 x11) (h := fun k => (if x11 < x10 then (if 0 ≤ x11 then (if x11 < (x9.length : Int) then (if ((rd_T122 x9 x11).f2) = x1 then (if x5.length < 17592186044416 then (impl_ClaimsFor.l0 k x1 (x5 ++ [(rd_T122 x9 x11).f0]) x9 x10 (wrap64 (x11 + 1))) else (none)) else (impl_ClaimsFor.l0 k x1 x5 x9 x10 (wrap64 (x11 + 1)))) else (none)) else (none)) else (some x5))) (fun k => by first | rfl | (simp only [impl_ClaimsFor.l0])) ?_
  repeat' first
    | (with_reducible exact Co.const _)
    | (with_reducible exact impl_ClaimsFor.L0_co _ _ _ _ _)
    | (with_reducible refine Co.ite ?_ ?_)
    | (with_reducible refine Co.bind ?_ (fun _ => ?_))
theorem impl_ClaimsFor.F_eq (l0 : List (S122)) (a1 : Int) : impl_ClaimsFor.F l0 a1 = (impl_ClaimsFor.L0 a1 (([] : List Int)) l0 (l0.length : Int) 0) := by
  refine Co.same (impl_ClaimsFor.F_co l0 a1) (h := fun k => (impl_ClaimsFor.l0 k a1 (([] : List Int)) l0 (l0.length : Int) 0)) (fun k => by first | rfl | unfold impl_ClaimsFor.f; rfl) ?_
  repeat' first
    | (with_reducible exact Co.const _)
    | (with_reducible exact impl_ClaimsFor.L0_co _ _ _ _ _)
    | (with_reducible refine Co.ite ?_ ?_)
    | (with_reducible refine Co.bind ?_ (fun _ => ?_))

noncomputable def laws_markClaimS.L0 (x0 : List (S122)) (x1 : Int) (x5 : Int) : Option (Int × (List (S122))) := lim (fun k => laws_markClaimS.l0 k x0 x1 x5)
theorem laws_markClaimS.L0_co (x0 : List (S122)) (x1 : Int) (x5 : Int) : Co (fun k => laws_markClaimS.l0 k x0 x1 x5) (laws_markClaimS.L0 x0 x1 x5) := Co.base (fun k => (laws_markClaimS.mono_l k) _ _ _)
noncomputable def laws_markClaimS.F (l0 : List (S122)) (a1 : Int) : Option (Int × (List (S122))) := lim (fun k => laws_markClaimS.f k l0 a1)
theorem laws_markClaimS.F_co (l0 : List (S122)) (a1 : Int) : Co (fun k => laws_markClaimS.f k l0 a1) (laws_markClaimS.F l0 a1) := Co.base (fun k => laws_markClaimS.mono _ _ k)
theorem laws_markClaimS.L0_eq (x0 : List (S122)) (x1 : Int) (x5 : Int) : laws_markClaimS.L0 x0 x1 x5 = (if x5 < (x0.length : Int) then (if 0 ≤ x5 then ((some (x0.set (x5 : Int).toNat (⟨x1, (rd_T122 x0 x5).f1, (rd_T122 x0 x5).f2, (rd_T122 x0 x5).f3, (rd_T122 x0 x5).f4⟩ : S122) : List (S122))).bind fun y139 => ((some (y139.set (x5 : Int).toNat (⟨(rd_T122 y139 x5).f0, wrap64 (x1 + 1), (rd_T122 y139 x5).f2, (rd_T122 y139 x5).f3, (rd_T122 y139 x5).f4⟩ : S122) : List (S122))).bind fun y140 => ((some (y140.set (x5 : Int).toNat (⟨(rd_T122 y140 x5).f0, (rd_T122 y140 x5).f1, wrap64 ((wrap64 (x1 + 1)) + 1), (rd_T122 y140 x5).f3, (rd_T122 y140 x5).f4⟩ : S122) : List (S122))).bind fun y141 => ((some (y141.set (x5 : Int).toNat (⟨(rd_T122 y141 x5).f0, (rd_T122 y141 x5).f1, (rd_T122 y141 x5).f2, wrap64 ((wrap64 ((wrap64 (x1 + 1)) + 1)) + 1), (rd_T122 y141 x5).f4⟩ : S122) : List (S122))).bind fun y142 => (laws_markClaimS.L0 (y142.set (x5 : Int).toNat (⟨(rd_T122 y142 x5).f0, (rd_T122 y142 x5).f1, (rd_T122 y142 x5).f2, (rd_T122 y142 x5).f3, wrap64 ((wrap64 ((wrap64 ((wrap64 (x1 + 1)) + 1)) + 1)) + 1)⟩ : S122)) (wrap64 ((wrap64 ((wrap64 ((wrap64 ((wrap64 (x1 + 1)) + 1)) + 1)) + 1)) + 1)) (wrap64 (x5 + 1))))))) else (none)) else (some (x1, x0))) := by
  refine Co.step (laws_markClaimS.L0_co x0 x1 x5) (h := fun k => (if x5 < (x0.length : Int) then (if 0 ≤ x5 then ((some (x0.set (x5 : Int).toNat (⟨x1, (rd_T122 x0 x5).f1, (rd_T122 x0 x5).f2, (rd_T122 x0 x5).f3, (rd_T122 x0 x5).f4⟩ : S122) : List (S122))).bind fun y139 => ((some (y139.set (x5 : Int).toNat (⟨(rd_T122 y139 x5).f0, wrap64 (x1 + 1), (rd_T122 y139 x5).f2, (rd_T122 y139 x5).f3, (rd_T122 y139 x5).f4⟩ : S122) : List (S122))).bind fun y140 => ((some (y140.set (x5 : Int).toNat (⟨(rd_T122 y140 x5).f0, (rd_T122 y140 x5).f1, wrap64 ((wrap64 (x1 + 1)) + 1), (rd_T122 y140 x5).f3, (rd_T122 y140 x5).f4⟩ : S122) : List (S122))).bind fun y141 => ((some (y141.set (x5 : Int).toNat (⟨(rd_T122 y141 x5).f0, (rd_T122 y141 x5).f1, (rd_T122 y141 x5).f2, wrap64 ((wrap64 ((wrap64 (x1 + 1)) + 1)) + 1), (rd_T122 y141 x5).f4⟩ : S122) : List (S122))).bind fun y142 => (laws_markClaimS.l0 k (y142.set (x5 : Int).toNat (⟨(rd_T122 y142 x5).f0, (rd_T122 y142 x5).f1, (rd_T122 y142 x5).f2, (rd_T122 y142 x5).f3, wrap64 ((wrap64 ((wrap64 ((wrap64 (x1 + 1)) + 1)) + 1)) + 1)⟩ : S122)) (wrap64 ((wrap64 ((wrap64 ((wrap64 ((wrap64 (x1 + 1)) + 1)) + 1)) + 1)) + 1)) (wrap64 (x5 + 1))))))) else (none)) else (some (x1, x0)))) (fun k => by first | rfl | (simp only [laws_markClaimS.l0])) ?_
  repeat' first
    | (with_reducible exact Co.const _)
    | (with_reducible exact laws_markClaimS.L0_co _ _ _)
    | (with_reducible refine Co.ite ?_ ?_)
    | (with_reducible refine Co.bind ?_ (fun _ => ?_))
theorem laws_markClaimS.F_eq (l0 : List (S122)) (a1 : Int) : laws_markClaimS.F l0 a1 = (laws_markClaimS.L0 l0 a1 0) := by
  refine Co.same (laws_markClaimS.F_co l0 a1) (h := fun k => (laws_markClaimS.l0 k l0 a1 0)) (fun k => by first | rfl | unfold laws_markClaimS.f; rfl) ?_
  repeat' first
    | (with_reducible exact Co.const _)
    | (with_reducible exact laws_markClaimS.L0_co _ _ _)
    | (with_reducible refine Co.ite ?_ ?_)
    | (with_reducible refine Co.bind ?_ (fun _ => ?_))

noncomputable def laws_FnExactClaimsFor.J0 (x0 : List (S124)) (x1 : Int) (x6 : List Int) (x8 : List Int) (x46 : Bool) : Option (Bool) := lim (fun k => laws_FnExactClaimsFor.j0 k x0 x1 x6 x8 x46)
theorem laws_FnExactClaimsFor.J0_co (x0 : List (S124)) (x1 : Int) (x6 : List Int) (x8 : List Int) (x46 : Bool) : Co (fun k => laws_FnExactClaimsFor.j0 k x0 x1 x6 x8 x46) (laws_FnExactClaimsFor.J0 x0 x1 x6 x8 x46) := Co.base (fun k => (laws_FnExactClaimsFor.mono_l k) _ _ _ _ _)
noncomputable def laws_FnExactClaimsFor.F (l0 : List (S124)) (a1 : Int) : Option (Bool) := lim (fun k => laws_FnExactClaimsFor.f k l0 a1)
theorem laws_FnExactClaimsFor.F_co (l0 : List (S124)) (a1 : Int) : Co (fun k => laws_FnExactClaimsFor.f k l0 a1) (laws_FnExactClaimsFor.F l0 a1) := Co.base (fun k => laws_FnExactClaimsFor.mono _ _ k)
theorem laws_FnExactClaimsFor.J0_eq (x0 : List (S124)) (x1 : Int) (x6 : List Int) (x8 : List Int) (x46 : Bool) : laws_FnExactClaimsFor.J0 x0 x1 x6 x8 x46 = (if x46 = true then (some false) else ((laws_markIntS.F x8 1).bind fun bt165 => ((laws_heldIntS.F bt165.2 1).bind fun t167 => (if t167 < 0 then (some false) else (if t167 = bt165.1 then ((laws_toClaimS.F x0).bind fun t168 => ((impl_ClaimsFor.F t168 x1).bind fun t171 => ((laws_eqIntS.F t171 x6).bind fun t174 => (if t174 = true then ((laws_heldIntS.F bt165.2 1).bind fun t175 => (if t175 < 0 then (some false) else (if t175 = bt165.1 then (some true) else (some false)))) else (some false))))) else (some false)))))) := by
  refine Co.step (laws_FnExactClaimsFor.J0_co x0 x1 x6 x8 x46) (h := fun k => (if x46 = true then (some false) else ((laws_markIntS.f k x8 1).bind fun bt165 => ((laws_heldIntS.f k bt165.2 1).bind fun t167 => (if t167 < 0 then (some false) else (if t167 = bt165.1 then ((laws_toClaimS.f k x0).bind fun t168 => ((impl_ClaimsFor.f k t168 x1).bind fun t171 => ((laws_eqIntS.f k t171 x6).bind fun t174 => (if t174 = true then ((laws_heldIntS.f k bt165.2 1).bind fun t175 => (if t175 < 0 then (some false) else (if t175 = bt165.1 then (some true) else (some false)))) else (some false))))) else (some false))))))) (fun k => by first | rfl | (simp only [laws_FnExactClaimsFor.j0])) ?_
  repeat' first
    | (with_reducible exact Co.const _)
    | (with_reducible exact impl_ClaimsFor.F_co _ _)
    | (with_reducible exact laws_eqIntS.F_co _ _)
    | (with_reducible exact laws_heldIntS.F_co _ _)
    | (with_reducible exact laws_markIntS.F_co _ _)
    | (with_reducible exact laws_toClaimS.F_co _)
    | (with_reducible refine Co.ite ?_ ?_)
    | (with_reducible refine Co.bind ?_ (fun _ => ?_))
theorem laws_FnExactClaimsFor.F_eq (l0 : List (S124)) (a1 : Int) : laws_FnExactClaimsFor.F l0 a1 = ((laws_szClaimS.f l0 1048576).bind fun t144 => (if t144 < 0 then (some true) else ((laws_toClaimS.F l0).bind fun t145 => ((spec_ClaimsFor.F t145 a1).bind fun t148 => ((laws_toClaimS.F l0).bind fun t151 => ((impl_ClaimsFor.F t151 a1).bind fun t154 => ((laws_eqIntS.F t154 t148).bind fun t157 => (if t157 = true then ((laws_toClaimS.F l0).bind fun t158 => ((laws_eqClaimS.F t151 t158).bind fun t161 => (if t161 = true then ((laws_markClaimS.F t151 1).bind fun bt162 => (if bt162.1 < 0 then (laws_FnExactClaimsFor.J0 l0 a1 t148 t154 true) else ((laws_eqIntS.F t154 t148).bind fun t164 => (laws_FnExactClaimsFor.J0 l0 a1 t148 t154 (!t164))))) else (some false)))) else (some false))))))))) := by
  refine Co.same (laws_FnExactClaimsFor.F_co l0 a1) (h := fun k => ((laws_szClaimS.f l0 1048576).bind fun t144 => (if t144 < 0 then (some true) else ((laws_toClaimS.f k l0).bind fun t145 => ((spec_ClaimsFor.f k t145 a1).bind fun t148 => ((laws_toClaimS.f k l0).bind fun t151 => ((impl_ClaimsFor.f k t151 a1).bind fun t154 => ((laws_eqIntS.f k t154 t148).bind fun t157 => (if t157 = true then ((laws_toClaimS.f k l0).bind fun t158 => ((laws_eqClaimS.f k t151 t158).bind fun t161 => (if t161 = true then ((laws_markClaimS.f k t151 1).bind fun bt162 => (if bt162.1 < 0 then (laws_FnExactClaimsFor.j0 k l0 a1 t148 t154 true) else ((laws_eqIntS.f k t154 t148).bind fun t164 => (laws_FnExactClaimsFor.j0 k l0 a1 t148 t154 (!t164))))) else (some false)))) else (some false)))))))))) (fun k => by first | rfl | unfold laws_FnExactClaimsFor.f; rfl) ?_
  repeat' first
    | (with_reducible exact Co.const _)
    | (with_reducible exact impl_ClaimsFor.F_co _ _)
    | (with_reducible exact laws_FnExactClaimsFor.J0_co _ _ _ _ _)
    | (with_reducible exact laws_eqClaimS.F_co _ _)
    | (with_reducible exact laws_eqIntS.F_co _ _)
    | (with_reducible exact laws_markClaimS.F_co _ _)
    | (with_reducible exact laws_toClaimS.F_co _)
    | (with_reducible exact spec_ClaimsFor.F_co _ _)
    | (with_reducible refine Co.ite ?_ ?_)
    | (with_reducible refine Co.bind ?_ (fun _ => ?_))

end Go.Proofs.Ytjokfllhbmodeaa.PFnExactClaimsFor.Pure
