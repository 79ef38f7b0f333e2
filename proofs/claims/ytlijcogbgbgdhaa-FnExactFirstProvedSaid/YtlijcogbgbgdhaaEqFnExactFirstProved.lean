/-
  The printed functions that this law reaches, their rounds used up, and the equations that they meet.
-/
import Derived.Test.YtlijcogbgbgdhaaPFnExactFirstProvedx1
import Derived.Test.YtlijcogbgbgdhaaPFnExactFirstProvedx2
import Derived.Test.YtlijcogbgbgdhaaLim
namespace Go.Proofs.Ytlijcogbgbgdhaa.PFnExactFirstProved.Pure
open Go.RowKit Go.Proofs.YtlijcogbgbgdhaaW.PrintWords Go.Proofs.YtlijcogbgbgdhaaW.PrintLast Go.Proofs.YtlijcogbgbgdhaaW.PrintMore Go.Proofs.Ytlijcogbgbgdhaa.PFnExactFirstProved Go.Proofs.Ytlijcogbgbgdhaa.Lim
set_option linter.unusedVariables false
set_option maxRecDepth 100000

noncomputable def laws_toClaimS.L0 (x0 : List (S98)) (x3 : List (S96)) (x4 : Int) : Option ((List (S96))) := lim (fun k => laws_toClaimS.l0 k x0 x3 x4)
theorem laws_toClaimS.L0_co (x0 : List (S98)) (x3 : List (S96)) (x4 : Int) : Co (fun k => laws_toClaimS.l0 k x0 x3 x4) (laws_toClaimS.L0 x0 x3 x4) := Co.base (fun k => (laws_toClaimS.mono_l k) _ _ _)
noncomputable def laws_toClaimS.F (l0 : List (S98)) : Option ((List (S96))) := lim (fun k => laws_toClaimS.f k l0)
theorem laws_toClaimS.F_co (l0 : List (S98)) : Co (fun k => laws_toClaimS.f k l0) (laws_toClaimS.F l0) := Co.base (fun k => laws_toClaimS.mono _ k)
theorem laws_toClaimS.L0_eq (x0 : List (S98)) (x3 : List (S96)) (x4 : Int) : laws_toClaimS.L0 x0 x3 x4 = (if x4 < (x0.length : Int) then (if 0 ≤ x4 then ((laws_toClaim.f ((rd_T98 x0 x4).f0) ((rd_T98 x0 x4).f1) ((rd_T98 x0 x4).f2) ((rd_T98 x0 x4).f3) ((rd_T98 x0 x4).f4)).bind fun bt108 => (if x4 < (x3.length : Int) then (laws_toClaimS.L0 x0 (x3.set (x4 : Int).toNat (⟨bt108.1, bt108.2.1, bt108.2.2.1, bt108.2.2.2.1, bt108.2.2.2.2⟩ : S96)) (wrap64 (x4 + 1))) else (none))) else (none)) else (some x3)) := by
  refine Co.step (laws_toClaimS.L0_co x0 x3 x4) (h := fun k => (if x4 < (x0.length : Int) then (if 0 ≤ x4 then ((laws_toClaim.f ((rd_T98 x0 x4).f0) ((rd_T98 x0 x4).f1) ((rd_T98 x0 x4).f2) ((rd_T98 x0 x4).f3) ((rd_T98 x0 x4).f4)).bind fun bt108 => (if x4 < (x3.length : Int) then (laws_toClaimS.l0 k x0 (x3.set (x4 : Int).toNat (⟨bt108.1, bt108.2.1, bt108.2.2.1, bt108.2.2.2.1, bt108.2.2.2.2⟩ : S96)) (wrap64 (x4 + 1))) else (none))) else (none)) else (some x3))) (fun k => by first | rfl | (simp only [laws_toClaimS.l0])) ?_
  repeat' first
    | (with_reducible exact Co.const _)
    | (with_reducible exact laws_toClaimS.L0_co _ _ _)
    | (with_reducible refine Co.ite ?_ ?_)
    | (with_reducible refine Co.bind ?_ (fun _ => ?_))
theorem laws_toClaimS.F_eq (l0 : List (S98)) : laws_toClaimS.F l0 = (if 0 ≤ (l0.length : Int) then (if ((l0.length : Int) : Int).toNat ≤ 7036874417766 then (laws_toClaimS.L0 l0 (List.replicate ((l0.length : Int) : Int).toNat z96) 0) else (none)) else (none)) := by
  refine Co.same (laws_toClaimS.F_co l0) (h := fun k => (if 0 ≤ (l0.length : Int) then (if ((l0.length : Int) : Int).toNat ≤ 7036874417766 then (laws_toClaimS.l0 k l0 (List.replicate ((l0.length : Int) : Int).toNat z96) 0) else (none)) else (none))) (fun k => by first | rfl | unfold laws_toClaimS.f; rfl) ?_
  repeat' first
    | (with_reducible exact Co.const _)
    | (with_reducible exact laws_toClaimS.L0_co _ _ _)
    | (with_reducible refine Co.ite ?_ ?_)
    | (with_reducible refine Co.bind ?_ (fun _ => ?_))

noncomputable def laws_eqClaimS.L0 (x0 : List (S96)) (x1 : List (S96)) (x5 : Int) : Option (Bool) := lim (fun k => laws_eqClaimS.l0 k x0 x1 x5)
theorem laws_eqClaimS.L0_co (x0 : List (S96)) (x1 : List (S96)) (x5 : Int) : Co (fun k => laws_eqClaimS.l0 k x0 x1 x5) (laws_eqClaimS.L0 x0 x1 x5) := Co.base (fun k => (laws_eqClaimS.mono_l k) _ _ _)
noncomputable def laws_eqClaimS.F (l0 : List (S96)) (l1 : List (S96)) : Option (Bool) := lim (fun k => laws_eqClaimS.f k l0 l1)
theorem laws_eqClaimS.F_co (l0 : List (S96)) (l1 : List (S96)) : Co (fun k => laws_eqClaimS.f k l0 l1) (laws_eqClaimS.F l0 l1) := Co.base (fun k => laws_eqClaimS.mono _ _ k)
theorem laws_eqClaimS.L0_eq (x0 : List (S96)) (x1 : List (S96)) (x5 : Int) : laws_eqClaimS.L0 x0 x1 x5 = (if x5 < (x0.length : Int) then (if 0 ≤ x5 then (if x5 < (x1.length : Int) then ((laws_eqClaim.f ((rd_T96 x0 x5).f0) ((rd_T96 x0 x5).f1) ((rd_T96 x0 x5).f2) ((rd_T96 x0 x5).f3) ((rd_T96 x0 x5).f4) ((rd_T96 x1 x5).f0) ((rd_T96 x1 x5).f1) ((rd_T96 x1 x5).f2) ((rd_T96 x1 x5).f3) ((rd_T96 x1 x5).f4)).bind fun t118 => (if t118 = true then (laws_eqClaimS.L0 x0 x1 (wrap64 (x5 + 1))) else (some false))) else (none)) else (none)) else (some true)) := by
  refine Co.step (laws_eqClaimS.L0_co x0 x1 x5) (h := fun k => (if x5 < (x0.length : Int) then (if 0 ≤ x5 then (if x5 < (x1.length : Int) then ((laws_eqClaim.f ((rd_T96 x0 x5).f0) ((rd_T96 x0 x5).f1) ((rd_T96 x0 x5).f2) ((rd_T96 x0 x5).f3) ((rd_T96 x0 x5).f4) ((rd_T96 x1 x5).f0) ((rd_T96 x1 x5).f1) ((rd_T96 x1 x5).f2) ((rd_T96 x1 x5).f3) ((rd_T96 x1 x5).f4)).bind fun t118 => (if t118 = true then (laws_eqClaimS.l0 k x0 x1 (wrap64 (x5 + 1))) else (some false))) else (none)) else (none)) else (some true))) (fun k => by first | rfl | (simp only [laws_eqClaimS.l0])) ?_
  repeat' first
    | (with_reducible exact Co.const _)
    | (with_reducible exact laws_eqClaimS.L0_co _ _ _)
    | (with_reducible refine Co.ite ?_ ?_)
    | (with_reducible refine Co.bind ?_ (fun _ => ?_))
theorem laws_eqClaimS.F_eq (l0 : List (S96)) (l1 : List (S96)) : laws_eqClaimS.F l0 l1 = (if (l0.length : Int) = (l1.length : Int) then (laws_eqClaimS.L0 l0 l1 0) else (some false)) := by
  refine Co.same (laws_eqClaimS.F_co l0 l1) (h := fun k => (if (l0.length : Int) = (l1.length : Int) then (laws_eqClaimS.l0 k l0 l1 0) else (some false))) (fun k => by first | rfl | unfold laws_eqClaimS.f; rfl) ?_
  repeat' first
    | (with_reducible exact Co.const _)
    | (with_reducible exact laws_eqClaimS.L0_co _ _ _)
    | (with_reducible refine Co.ite ?_ ?_)
    | (with_reducible refine Co.bind ?_ (fun _ => ?_))

noncomputable def spec_FirstProved.L0 (x0 : List (S96)) (x1 : Int) (x5 : Int) (x6 : Int) : Option (Int) := lim (fun k => spec_FirstProved.l0 k x0 x1 x5 x6)
theorem spec_FirstProved.L0_co (x0 : List (S96)) (x1 : Int) (x5 : Int) (x6 : Int) : Co (fun k => spec_FirstProved.l0 k x0 x1 x5 x6) (spec_FirstProved.L0 x0 x1 x5 x6) := Co.base (fun k => (spec_FirstProved.mono_l k) _ _ _ _)
noncomputable def spec_FirstProved.F (l0 : List (S96)) (a1 : Int) : Option (Int) := lim (fun k => spec_FirstProved.f k l0 a1)
theorem spec_FirstProved.F_co (l0 : List (S96)) (a1 : Int) : Co (fun k => spec_FirstProved.f k l0 a1) (spec_FirstProved.F l0 a1) := Co.base (fun k => spec_FirstProved.mono _ _ k)
theorem spec_FirstProved.L0_eq (x0 : List (S96)) (x1 : Int) (x5 : Int) (x6 : Int) : spec_FirstProved.L0 x0 x1 x5 x6 = (if x6 < (x0.length : Int) then (if 0 ≤ x6 then (if ((rd_T96 x0 x6).f2) = x1 then (if ((rd_T96 x0 x6).f4) = 1 then (if x5 < 0 then (spec_FirstProved.L0 x0 x1 x6 (wrap64 (x6 + 1))) else (if 0 ≤ x5 then (if x5 < (x0.length : Int) then (if ((rd_T96 x0 x6).f3) < ((rd_T96 x0 x5).f3) then (spec_FirstProved.L0 x0 x1 x6 (wrap64 (x6 + 1))) else (spec_FirstProved.L0 x0 x1 x5 (wrap64 (x6 + 1)))) else (none)) else (none))) else (spec_FirstProved.L0 x0 x1 x5 (wrap64 (x6 + 1)))) else (spec_FirstProved.L0 x0 x1 x5 (wrap64 (x6 + 1)))) else (none)) else (if x5 < 0 then (some 0) else (if 0 ≤ x5 then (if x5 < (x0.length : Int) then (some ((rd_T96 x0 x5).f0)) else (none)) else (none)))) := by
  refine Co.step (spec_FirstProved.L0_co x0 x1 x5 x6) (h := fun k => (if x6 < (x0.length : Int) then (if 0 ≤ x6 then (if ((rd_T96 x0 x6).f2) = x1 then (if ((rd_T96 x0 x6).f4) = 1 then (if x5 < 0 then (spec_FirstProved.l0 k x0 x1 x6 (wrap64 (x6 + 1))) else (if 0 ≤ x5 then (if x5 < (x0.length : Int) then (if ((rd_T96 x0 x6).f3) < ((rd_T96 x0 x5).f3) then (spec_FirstProved.l0 k x0 x1 x6 (wrap64 (x6 + 1))) else (spec_FirstProved.l0 k x0 x1 x5 (wrap64 (x6 + 1)))) else (none)) else (none))) else (spec_FirstProved.l0 k x0 x1 x5 (wrap64 (x6 + 1)))) else (spec_FirstProved.l0 k x0 x1 x5 (wrap64 (x6 + 1)))) else (none)) else (if x5 < 0 then (some 0) else (if 0 ≤ x5 then (if x5 < (x0.length : Int) then (some ((rd_T96 x0 x5).f0)) else (none)) else (none))))) (fun k => by first | rfl | (simp only [spec_FirstProved.l0])) ?_
  repeat' first
    | (with_reducible exact Co.const _)
    | (with_reducible exact spec_FirstProved.L0_co _ _ _ _)
    | (with_reducible refine Co.ite ?_ ?_)
    | (with_reducible refine Co.bind ?_ (fun _ => ?_))
theorem spec_FirstProved.F_eq (l0 : List (S96)) (a1 : Int) : spec_FirstProved.F l0 a1 = (spec_FirstProved.L0 l0 a1 (-1) 0) := by
  refine Co.same (spec_FirstProved.F_co l0 a1) (h := fun k => (spec_FirstProved.l0 k l0 a1 (-1) 0)) (fun k => by first | rfl | unfold spec_FirstProved.f; rfl) ?_
  repeat' first
    | (with_reducible exact Co.const _)
    | (with_reducible exact spec_FirstProved.L0_co _ _ _ _)
    | (with_reducible refine Co.ite ?_ ?_)
    | (with_reducible refine Co.bind ?_ (fun _ => ?_))

noncomputable def impl_FirstProved.L0 (x1 : Int) (x6 : Bool) (x10 : List (S96)) (x11 : Int) (x12 : Int) (x125000 : Int) (x125001 : Int) (x125002 : Int) (x125003 : Int) (x125004 : Int) : Option (Int) := lim (fun k => impl_FirstProved.l0 k x1 x6 x10 x11 x12 x125000 x125001 x125002 x125003 x125004)
theorem impl_FirstProved.L0_co (x1 : Int) (x6 : Bool) (x10 : List (S96)) (x11 : Int) (x12 : Int) (x125000 : Int) (x125001 : Int) (x125002 : Int) (x125003 : Int) (x125004 : Int) : Co (fun k => impl_FirstProved.l0 k x1 x6 x10 x11 x12 x125000 x125001 x125002 x125003 x125004) (impl_FirstProved.L0 x1 x6 x10 x11 x12 x125000 x125001 x125002 x125003 x125004) := Co.base (fun k => (impl_FirstProved.mono_l k) _ _ _ _ _ _ _ _ _ _)
noncomputable def impl_FirstProved.F (l0 : List (S96)) (a1 : Int) : Option (Int) := lim (fun k => impl_FirstProved.f k l0 a1)
theorem impl_FirstProved.F_co (l0 : List (S96)) (a1 : Int) : Co (fun k => impl_FirstProved.f k l0 a1) (impl_FirstProved.F l0 a1) := Co.base (fun k => impl_FirstProved.mono _ _ k)
theorem impl_FirstProved.L0_eq (x1 : Int) (x6 : Bool) (x10 : List (S96)) (x11 : Int) (x12 : Int) (x125000 : Int) (x125001 : Int) (x125002 : Int) (x125003 : Int) (x125004 : Int) : impl_FirstProved.L0 x1 x6 x10 x11 x12 x125000 x125001 x125002 x125003 x125004 = (if x12 < x11 then (if 0 ≤ x12 then (if x12 < (x10.length : Int) then (if ((rd_T96 x10 x12).f2) = x1 then (if ((rd_T96 x10 x12).f4) = 1 then (if x6 = true then (if ((rd_T96 x10 x12).f3) < x125003 then (impl_FirstProved.L0 x1 true x10 x11 (wrap64 (x12 + 1)) ((rd_T96 x10 x12).f0) ((rd_T96 x10 x12).f1) ((rd_T96 x10 x12).f2) ((rd_T96 x10 x12).f3) ((rd_T96 x10 x12).f4)) else (impl_FirstProved.L0 x1 x6 x10 x11 (wrap64 (x12 + 1)) x125000 x125001 x125002 x125003 x125004)) else (impl_FirstProved.L0 x1 true x10 x11 (wrap64 (x12 + 1)) ((rd_T96 x10 x12).f0) ((rd_T96 x10 x12).f1) ((rd_T96 x10 x12).f2) ((rd_T96 x10 x12).f3) ((rd_T96 x10 x12).f4))) else (impl_FirstProved.L0 x1 x6 x10 x11 (wrap64 (x12 + 1)) x125000 x125001 x125002 x125003 x125004)) else (impl_FirstProved.L0 x1 x6 x10 x11 (wrap64 (x12 + 1)) x125000 x125001 x125002 x125003 x125004)) else (none)) else (none)) else (some x125000)) := by
  refine Co.step (impl_FirstProved.L0_co x1 x6 x10 x11 x12 x125000 x125001 x125002 x125003 x125004) (h := fun k => (if x12 < x11 then (if 0 ≤ x12 then (if x12 < (x10.length : Int) then (if ((rd_T96 x10 x12).f2) = x1 then (if ((rd_T96 x10 x12).f4) = 1 then (if x6 = true then (if ((rd_T96 x10 x12).f3) < x125003 then (impl_FirstProved.l0 k x1 true x10 x11 (wrap64 (x12 + 1)) ((rd_T96 x10 x12).f0) ((rd_T96 x10 x12).f1) ((rd_T96 x10 x12).f2) ((rd_T96 x10 x12).f3) ((rd_T96 x10 x12).f4)) else (impl_FirstProved.l0 k x1 x6 x10 x11 (wrap64 (x12 + 1)) x125000 x125001 x125002 x125003 x125004)) else (impl_FirstProved.l0 k x1 true x10 x11 (wrap64 (x12 + 1)) ((rd_T96 x10 x12).f0) ((rd_T96 x10 x12).f1) ((rd_T96 x10 x12).f2) ((rd_T96 x10 x12).f3) ((rd_T96 x10 x12).f4))) else (impl_FirstProved.l0 k x1 x6 x10 x11 (wrap64 (x12 + 1)) x125000 x125001 x125002 x125003 x125004)) else (impl_FirstProved.l0 k x1 x6 x10 x11 (wrap64 (x12 + 1)) x125000 x125001 x125002 x125003 x125004)) else (none)) else (none)) else (some x125000))) (fun k => by first | rfl | (simp only [impl_FirstProved.l0])) ?_
  repeat' first
    | (with_reducible exact Co.const _)
    | (with_reducible exact impl_FirstProved.L0_co _ _ _ _ _ _ _ _ _ _)
    | (with_reducible refine Co.ite ?_ ?_)
    | (with_reducible refine Co.bind ?_ (fun _ => ?_))
theorem impl_FirstProved.F_eq (l0 : List (S96)) (a1 : Int) : impl_FirstProved.F l0 a1 = (impl_FirstProved.L0 a1 false l0 (l0.length : Int) 0 0 0 0 0 0) := by
  refine Co.same (impl_FirstProved.F_co l0 a1) (h := fun k => (impl_FirstProved.l0 k a1 false l0 (l0.length : Int) 0 0 0 0 0 0)) (fun k => by first | rfl | unfold impl_FirstProved.f; rfl) ?_
  repeat' first
    | (with_reducible exact Co.const _)
    | (with_reducible exact impl_FirstProved.L0_co _ _ _ _ _ _ _ _ _ _)
    | (with_reducible refine Co.ite ?_ ?_)
    | (with_reducible refine Co.bind ?_ (fun _ => ?_))

noncomputable def laws_FnExactFirstProved.F (l0 : List (S98)) (a1 : Int) : Option (Bool) := lim (fun k => laws_FnExactFirstProved.f k l0 a1)
theorem laws_FnExactFirstProved.F_co (l0 : List (S98)) (a1 : Int) : Co (fun k => laws_FnExactFirstProved.f k l0 a1) (laws_FnExactFirstProved.F l0 a1) := Co.base (fun k => laws_FnExactFirstProved.mono _ _ k)
theorem laws_FnExactFirstProved.F_eq (l0 : List (S98)) (a1 : Int) : laws_FnExactFirstProved.F l0 a1 = ((laws_szClaimS.f l0 1048576).bind fun t127 => (if t127 < 0 then (some true) else ((laws_toClaimS.F l0).bind fun t128 => ((spec_FirstProved.F t128 a1).bind fun t131 => ((laws_toClaimS.F l0).bind fun t132 => ((impl_FirstProved.F t132 a1).bind fun t135 => (if t135 = t131 then ((laws_toClaimS.F l0).bind fun t136 => ((laws_eqClaimS.F t132 t136).bind fun t139 => (if t139 = true then (some true) else (some false)))) else (some false)))))))) := by
  refine Co.same (laws_FnExactFirstProved.F_co l0 a1) (h := fun k => ((laws_szClaimS.f l0 1048576).bind fun t127 => (if t127 < 0 then (some true) else ((laws_toClaimS.f k l0).bind fun t128 => ((spec_FirstProved.f k t128 a1).bind fun t131 => ((laws_toClaimS.f k l0).bind fun t132 => ((impl_FirstProved.f k t132 a1).bind fun t135 => (if t135 = t131 then ((laws_toClaimS.f k l0).bind fun t136 => ((laws_eqClaimS.f k t132 t136).bind fun t139 => (if t139 = true then (some true) else (some false)))) else (some false))))))))) (fun k => by first | rfl | unfold laws_FnExactFirstProved.f; rfl) ?_
  repeat' first
    | (with_reducible exact Co.const _)
    | (with_reducible exact impl_FirstProved.F_co _ _)
    | (with_reducible exact laws_eqClaimS.F_co _ _)
    | (with_reducible exact laws_toClaimS.F_co _)
    | (with_reducible exact spec_FirstProved.F_co _ _)
    | (with_reducible refine Co.ite ?_ ?_)
    | (with_reducible refine Co.bind ?_ (fun _ => ?_))

end Go.Proofs.Ytlijcogbgbgdhaa.PFnExactFirstProved.Pure
