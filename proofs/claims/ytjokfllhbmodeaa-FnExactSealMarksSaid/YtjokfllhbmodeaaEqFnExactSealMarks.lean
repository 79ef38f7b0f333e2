/-
  The printed functions that this law reaches, their rounds used up, and the equations that they meet.
-/
import Derived.Test.YtjokfllhbmodeaaPFnExactSealMarksx1
import Derived.Test.YtjokfllhbmodeaaPFnExactSealMarksx2
import Derived.Test.YtjokfllhbmodeaaLim
namespace Go.Proofs.Ytjokfllhbmodeaa.PFnExactSealMarks.Pure
open Go.RowKit Go.Proofs.YtjokfllhbmodeaaW.PrintWords Go.Proofs.YtjokfllhbmodeaaW.PrintLast Go.Proofs.YtjokfllhbmodeaaW.PrintMore Go.Proofs.Ytjokfllhbmodeaa.PFnExactSealMarks Go.Proofs.Ytjokfllhbmodeaa.Lim
set_option linter.unusedVariables false
set_option maxRecDepth 100000

noncomputable def spec_Hash.L0 (x0 : List Int) (x3 : Int) (x4 : Int) : Option (Int) := lim (fun k => spec_Hash.l0 k x0 x3 x4)
theorem spec_Hash.L0_co (x0 : List Int) (x3 : Int) (x4 : Int) : Co (fun k => spec_Hash.l0 k x0 x3 x4) (spec_Hash.L0 x0 x3 x4) := Co.base (fun k => (spec_Hash.mono_l k) _ _ _)
noncomputable def spec_Hash.F (l0 : List Int) : Option (Int) := lim (fun k => spec_Hash.f k l0)
theorem spec_Hash.F_co (l0 : List Int) : Co (fun k => spec_Hash.f k l0) (spec_Hash.F l0) := Co.base (fun k => spec_Hash.mono _ k)
theorem spec_Hash.L0_eq (x0 : List Int) (x3 : Int) (x4 : Int) : spec_Hash.L0 x0 x3 x4 = (if x4 < (x0.length : Int) then (if 0 ≤ x4 then ((spec_Mod.f (rd x0 x4) 2147483647).bind fun t103 => (spec_Hash.L0 x0 (Int.tmod (wrap64 ((wrap64 ((wrap64 (x3 * 1000003)) + t103)) + 13)) 2147483647) (wrap64 (x4 + 1)))) else (none)) else (some x3)) := by
  refine Co.step (spec_Hash.L0_co x0 x3 x4) (h := fun k => (if x4 < (x0.length : Int) then (if 0 ≤ x4 then ((spec_Mod.f (rd x0 x4) 2147483647).bind fun t103 => (spec_Hash.l0 k x0 (Int.tmod (wrap64 ((wrap64 ((wrap64 (x3 * 1000003)) + t103)) + 13)) 2147483647) (wrap64 (x4 + 1)))) else (none)) else (some x3))) (fun k => by first | rfl | (simp only [spec_Hash.l0])) ?_
  repeat' first
    | (with_reducible exact Co.const _)
    | (with_reducible exact spec_Hash.L0_co _ _ _)
    | (with_reducible refine Co.ite ?_ ?_)
    | (with_reducible refine Co.bind ?_ (fun _ => ?_))
theorem spec_Hash.F_eq (l0 : List Int) : spec_Hash.F l0 = (spec_Hash.L0 l0 11 0) := by
  refine Co.same (spec_Hash.F_co l0) (h := fun k => (spec_Hash.l0 k l0 11 0)) (fun k => by first | rfl | unfold spec_Hash.f; rfl) ?_
  repeat' first
    | (with_reducible exact Co.const _)
    | (with_reducible exact spec_Hash.L0_co _ _ _)
    | (with_reducible refine Co.ite ?_ ?_)
    | (with_reducible refine Co.bind ?_ (fun _ => ?_))

noncomputable def spec_SealMarks.L0 (x0 : List (S127)) (x5 : List Int) (x6 : Int) : Option (Int) := lim (fun k => spec_SealMarks.l0 k x0 x5 x6)
theorem spec_SealMarks.L0_co (x0 : List (S127)) (x5 : List Int) (x6 : Int) : Co (fun k => spec_SealMarks.l0 k x0 x5 x6) (spec_SealMarks.L0 x0 x5 x6) := Co.base (fun k => (spec_SealMarks.mono_l k) _ _ _)
noncomputable def spec_SealMarks.F (l0 : List (S127)) (a1 : Int) : Option (Int) := lim (fun k => spec_SealMarks.f k l0 a1)
theorem spec_SealMarks.F_co (l0 : List (S127)) (a1 : Int) : Co (fun k => spec_SealMarks.f k l0 a1) (spec_SealMarks.F l0 a1) := Co.base (fun k => spec_SealMarks.mono _ _ k)
theorem spec_SealMarks.L0_eq (x0 : List (S127)) (x5 : List Int) (x6 : Int) : spec_SealMarks.L0 x0 x5 x6 = (if x6 < (x0.length : Int) then (if 0 ≤ x6 then ((some (([(rd_T127 x0 x6).f0, (rd_T127 x0 x6).f1] : List Int) : List Int)).bind fun y109 => (if x5.length + y109.length < 17592186044416 then (spec_SealMarks.L0 x0 (x5 ++ y109) (wrap64 (x6 + 1))) else (none))) else (none)) else ((spec_Hash.F x5).bind fun t115 => (some t115))) := by
  refine Co.step (spec_SealMarks.L0_co x0 x5 x6) (h := fun k => (if x6 < (x0.length : Int) then (if 0 ≤ x6 then ((some (([(rd_T127 x0 x6).f0, (rd_T127 x0 x6).f1] : List Int) : List Int)).bind fun y109 => (if x5.length + y109.length < 17592186044416 then (spec_SealMarks.l0 k x0 (x5 ++ y109) (wrap64 (x6 + 1))) else (none))) else (none)) else ((spec_Hash.f k x5).bind fun t115 => (some t115)))) (fun k => by first | rfl | (simp only [spec_SealMarks.l0])) ?_
  repeat' first
    | (with_reducible exact Co.const _)
    | (with_reducible exact spec_Hash.F_co _)
    | (with_reducible exact spec_SealMarks.L0_co _ _ _)
    | (with_reducible refine Co.ite ?_ ?_)
    | (with_reducible refine Co.bind ?_ (fun _ => ?_))
theorem spec_SealMarks.F_eq (l0 : List (S127)) (a1 : Int) : spec_SealMarks.F l0 a1 = (spec_SealMarks.L0 l0 (([a1] : List Int)) 0) := by
  refine Co.same (spec_SealMarks.F_co l0 a1) (h := fun k => (spec_SealMarks.l0 k l0 (([a1] : List Int)) 0)) (fun k => by first | rfl | unfold spec_SealMarks.f; rfl) ?_
  repeat' first
    | (with_reducible exact Co.const _)
    | (with_reducible exact spec_SealMarks.L0_co _ _ _)
    | (with_reducible refine Co.ite ?_ ?_)
    | (with_reducible refine Co.bind ?_ (fun _ => ?_))

noncomputable def laws_toMarkS.L0 (x0 : List (S130)) (x3 : List (S127)) (x4 : Int) : Option ((List (S127))) := lim (fun k => laws_toMarkS.l0 k x0 x3 x4)
theorem laws_toMarkS.L0_co (x0 : List (S130)) (x3 : List (S127)) (x4 : Int) : Co (fun k => laws_toMarkS.l0 k x0 x3 x4) (laws_toMarkS.L0 x0 x3 x4) := Co.base (fun k => (laws_toMarkS.mono_l k) _ _ _)
noncomputable def laws_toMarkS.F (l0 : List (S130)) : Option ((List (S127))) := lim (fun k => laws_toMarkS.f k l0)
theorem laws_toMarkS.F_co (l0 : List (S130)) : Co (fun k => laws_toMarkS.f k l0) (laws_toMarkS.F l0) := Co.base (fun k => laws_toMarkS.mono _ k)
theorem laws_toMarkS.L0_eq (x0 : List (S130)) (x3 : List (S127)) (x4 : Int) : laws_toMarkS.L0 x0 x3 x4 = (if x4 < (x0.length : Int) then (if 0 ≤ x4 then ((laws_toMark.f ((rd_T130 x0 x4).f0) ((rd_T130 x0 x4).f1)).bind fun bt123 => (if x4 < (x3.length : Int) then (laws_toMarkS.L0 x0 (x3.set (x4 : Int).toNat (⟨bt123.1, bt123.2⟩ : S127)) (wrap64 (x4 + 1))) else (none))) else (none)) else (some x3)) := by
  refine Co.step (laws_toMarkS.L0_co x0 x3 x4) (h := fun k => (if x4 < (x0.length : Int) then (if 0 ≤ x4 then ((laws_toMark.f ((rd_T130 x0 x4).f0) ((rd_T130 x0 x4).f1)).bind fun bt123 => (if x4 < (x3.length : Int) then (laws_toMarkS.l0 k x0 (x3.set (x4 : Int).toNat (⟨bt123.1, bt123.2⟩ : S127)) (wrap64 (x4 + 1))) else (none))) else (none)) else (some x3))) (fun k => by first | rfl | (simp only [laws_toMarkS.l0])) ?_
  repeat' first
    | (with_reducible exact Co.const _)
    | (with_reducible exact laws_toMarkS.L0_co _ _ _)
    | (with_reducible refine Co.ite ?_ ?_)
    | (with_reducible refine Co.bind ?_ (fun _ => ?_))
theorem laws_toMarkS.F_eq (l0 : List (S130)) : laws_toMarkS.F l0 = (if 0 ≤ (l0.length : Int) then (if ((l0.length : Int) : Int).toNat ≤ 17592186044416 then (laws_toMarkS.L0 l0 (List.replicate ((l0.length : Int) : Int).toNat z127) 0) else (none)) else (none)) := by
  refine Co.same (laws_toMarkS.F_co l0) (h := fun k => (if 0 ≤ (l0.length : Int) then (if ((l0.length : Int) : Int).toNat ≤ 17592186044416 then (laws_toMarkS.l0 k l0 (List.replicate ((l0.length : Int) : Int).toNat z127) 0) else (none)) else (none))) (fun k => by first | rfl | unfold laws_toMarkS.f; rfl) ?_
  repeat' first
    | (with_reducible exact Co.const _)
    | (with_reducible exact laws_toMarkS.L0_co _ _ _)
    | (with_reducible refine Co.ite ?_ ?_)
    | (with_reducible refine Co.bind ?_ (fun _ => ?_))

noncomputable def impl_Hash.L0 (x3 : Int) (x6 : List Int) (x7 : Int) (x8 : Int) : Option (Int) := lim (fun k => impl_Hash.l0 k x3 x6 x7 x8)
theorem impl_Hash.L0_co (x3 : Int) (x6 : List Int) (x7 : Int) (x8 : Int) : Co (fun k => impl_Hash.l0 k x3 x6 x7 x8) (impl_Hash.L0 x3 x6 x7 x8) := Co.base (fun k => (impl_Hash.mono_l k) _ _ _ _)
noncomputable def impl_Hash.F (l0 : List Int) : Option (Int) := lim (fun k => impl_Hash.f k l0)
theorem impl_Hash.F_co (l0 : List Int) : Co (fun k => impl_Hash.f k l0) (impl_Hash.F l0) := Co.base (fun k => impl_Hash.mono _ k)
theorem impl_Hash.L0_eq (x3 : Int) (x6 : List Int) (x7 : Int) (x8 : Int) : impl_Hash.L0 x3 x6 x7 x8 = (if x8 < x7 then (if 0 ≤ x8 then (if x8 < (x6.length : Int) then ((impl_fold.f x3 (rd x6 x8)).bind fun t129 => (impl_Hash.L0 t129 x6 x7 (wrap64 (x8 + 1)))) else (none)) else (none)) else (some x3)) := by
  refine Co.step (impl_Hash.L0_co x3 x6 x7 x8) (h := fun k => (if x8 < x7 then (if 0 ≤ x8 then (if x8 < (x6.length : Int) then ((impl_fold.f x3 (rd x6 x8)).bind fun t129 => (impl_Hash.l0 k t129 x6 x7 (wrap64 (x8 + 1)))) else (none)) else (none)) else (some x3))) (fun k => by first | rfl | (simp only [impl_Hash.l0])) ?_
  repeat' first
    | (with_reducible exact Co.const _)
    | (with_reducible exact impl_Hash.L0_co _ _ _ _)
    | (with_reducible refine Co.ite ?_ ?_)
    | (with_reducible refine Co.bind ?_ (fun _ => ?_))
theorem impl_Hash.F_eq (l0 : List Int) : impl_Hash.F l0 = (impl_Hash.L0 11 l0 (l0.length : Int) 0) := by
  refine Co.same (impl_Hash.F_co l0) (h := fun k => (impl_Hash.l0 k 11 l0 (l0.length : Int) 0)) (fun k => by first | rfl | unfold impl_Hash.f; rfl) ?_
  repeat' first
    | (with_reducible exact Co.const _)
    | (with_reducible exact impl_Hash.L0_co _ _ _ _)
    | (with_reducible refine Co.ite ?_ ?_)
    | (with_reducible refine Co.bind ?_ (fun _ => ?_))

noncomputable def impl_SealMarks.L0 (x5 : List Int) (x10 : List (S127)) (x11 : Int) (x12 : Int) : Option (Int) := lim (fun k => impl_SealMarks.l0 k x5 x10 x11 x12)
theorem impl_SealMarks.L0_co (x5 : List Int) (x10 : List (S127)) (x11 : Int) (x12 : Int) : Co (fun k => impl_SealMarks.l0 k x5 x10 x11 x12) (impl_SealMarks.L0 x5 x10 x11 x12) := Co.base (fun k => (impl_SealMarks.mono_l k) _ _ _ _)
noncomputable def impl_SealMarks.F (l0 : List (S127)) (a1 : Int) : Option (Int) := lim (fun k => impl_SealMarks.f k l0 a1)
theorem impl_SealMarks.F_co (l0 : List (S127)) (a1 : Int) : Co (fun k => impl_SealMarks.f k l0 a1) (impl_SealMarks.F l0 a1) := Co.base (fun k => impl_SealMarks.mono _ _ k)
theorem impl_SealMarks.L0_eq (x5 : List Int) (x10 : List (S127)) (x11 : Int) (x12 : Int) : impl_SealMarks.L0 x5 x10 x11 x12 = (if x12 < x11 then (if 0 ≤ x12 then (if x12 < (x10.length : Int) then ((some (([(rd_T127 x10 x12).f0, (rd_T127 x10 x12).f1] : List Int) : List Int)).bind fun y135 => (if x5.length + y135.length < 17592186044416 then (impl_SealMarks.L0 (x5 ++ y135) x10 x11 (wrap64 (x12 + 1))) else (none))) else (none)) else (none)) else ((impl_Hash.F x5).bind fun t141 => (some t141))) := by
  refine Co.step (impl_SealMarks.L0_co x5 x10 x11 x12) (h := fun k => (if x12 < x11 then (if 0 ≤ x12 then (if x12 < (x10.length : Int) then ((some (([(rd_T127 x10 x12).f0, (rd_T127 x10 x12).f1] : List Int) : List Int)).bind fun y135 => (if x5.length + y135.length < 17592186044416 then (impl_SealMarks.l0 k (x5 ++ y135) x10 x11 (wrap64 (x12 + 1))) else (none))) else (none)) else (none)) else ((impl_Hash.f k x5).bind fun t141 => (some t141)))) (fun k => by first | rfl | (simp only [impl_SealMarks.l0])) ?_
  repeat' first
    | (with_reducible exact Co.const _)
    | (with_reducible exact impl_Hash.F_co _)
    | (with_reducible exact impl_SealMarks.L0_co _ _ _ _)
    | (with_reducible refine Co.ite ?_ ?_)
    | (with_reducible refine Co.bind ?_ (fun _ => ?_))
theorem impl_SealMarks.F_eq (l0 : List (S127)) (a1 : Int) : impl_SealMarks.F l0 a1 = (impl_SealMarks.L0 (([a1] : List Int)) l0 (l0.length : Int) 0) := by
  refine Co.same (impl_SealMarks.F_co l0 a1) (h := fun k => (impl_SealMarks.l0 k (([a1] : List Int)) l0 (l0.length : Int) 0)) (fun k => by first | rfl | unfold impl_SealMarks.f; rfl) ?_
  repeat' first
    | (with_reducible exact Co.const _)
    | (with_reducible exact impl_SealMarks.L0_co _ _ _ _)
    | (with_reducible refine Co.ite ?_ ?_)
    | (with_reducible refine Co.bind ?_ (fun _ => ?_))

noncomputable def laws_eqMarkS.L0 (x0 : List (S127)) (x1 : List (S127)) (x5 : Int) : Option (Bool) := lim (fun k => laws_eqMarkS.l0 k x0 x1 x5)
theorem laws_eqMarkS.L0_co (x0 : List (S127)) (x1 : List (S127)) (x5 : Int) : Co (fun k => laws_eqMarkS.l0 k x0 x1 x5) (laws_eqMarkS.L0 x0 x1 x5) := Co.base (fun k => (laws_eqMarkS.mono_l k) _ _ _)
noncomputable def laws_eqMarkS.F (l0 : List (S127)) (l1 : List (S127)) : Option (Bool) := lim (fun k => laws_eqMarkS.f k l0 l1)
theorem laws_eqMarkS.F_co (l0 : List (S127)) (l1 : List (S127)) : Co (fun k => laws_eqMarkS.f k l0 l1) (laws_eqMarkS.F l0 l1) := Co.base (fun k => laws_eqMarkS.mono _ _ k)
theorem laws_eqMarkS.L0_eq (x0 : List (S127)) (x1 : List (S127)) (x5 : Int) : laws_eqMarkS.L0 x0 x1 x5 = (if x5 < (x0.length : Int) then (if 0 ≤ x5 then (if x5 < (x1.length : Int) then ((laws_eqMark.f ((rd_T127 x0 x5).f0) ((rd_T127 x0 x5).f1) ((rd_T127 x1 x5).f0) ((rd_T127 x1 x5).f1)).bind fun t146 => (if t146 = true then (laws_eqMarkS.L0 x0 x1 (wrap64 (x5 + 1))) else (some false))) else (none)) else (none)) else (some true)) := by
  refine Co.step (laws_eqMarkS.L0_co x0 x1 x5) (h := fun k => (if x5 < (x0.length : Int) then (if 0 ≤ x5 then (if x5 < (x1.length : Int) then ((laws_eqMark.f ((rd_T127 x0 x5).f0) ((rd_T127 x0 x5).f1) ((rd_T127 x1 x5).f0) ((rd_T127 x1 x5).f1)).bind fun t146 => (if t146 = true then (laws_eqMarkS.l0 k x0 x1 (wrap64 (x5 + 1))) else (some false))) else (none)) else (none)) else (some true))) (fun k => by first | rfl | (simp only [laws_eqMarkS.l0])) ?_
  repeat' first
    | (with_reducible exact Co.const _)
    | (with_reducible exact laws_eqMarkS.L0_co _ _ _)
    | (with_reducible refine Co.ite ?_ ?_)
    | (with_reducible refine Co.bind ?_ (fun _ => ?_))
theorem laws_eqMarkS.F_eq (l0 : List (S127)) (l1 : List (S127)) : laws_eqMarkS.F l0 l1 = (if (l0.length : Int) = (l1.length : Int) then (laws_eqMarkS.L0 l0 l1 0) else (some false)) := by
  refine Co.same (laws_eqMarkS.F_co l0 l1) (h := fun k => (if (l0.length : Int) = (l1.length : Int) then (laws_eqMarkS.l0 k l0 l1 0) else (some false))) (fun k => by first | rfl | unfold laws_eqMarkS.f; rfl) ?_
  repeat' first
    | (with_reducible exact Co.const _)
    | (with_reducible exact laws_eqMarkS.L0_co _ _ _)
    | (with_reducible refine Co.ite ?_ ?_)
    | (with_reducible refine Co.bind ?_ (fun _ => ?_))

noncomputable def laws_FnExactSealMarks.F (l0 : List (S130)) (a1 : Int) : Option (Bool) := lim (fun k => laws_FnExactSealMarks.f k l0 a1)
theorem laws_FnExactSealMarks.F_co (l0 : List (S130)) (a1 : Int) : Co (fun k => laws_FnExactSealMarks.f k l0 a1) (laws_FnExactSealMarks.F l0 a1) := Co.base (fun k => laws_FnExactSealMarks.mono _ _ k)
theorem laws_FnExactSealMarks.F_eq (l0 : List (S130)) (a1 : Int) : laws_FnExactSealMarks.F l0 a1 = ((laws_szMarkS.f l0 1048576).bind fun t147 => (if t147 < 0 then (some true) else ((laws_toMarkS.F l0).bind fun t148 => ((spec_SealMarks.F t148 a1).bind fun t151 => ((laws_toMarkS.F l0).bind fun t152 => ((impl_SealMarks.F t152 a1).bind fun t155 => (if t155 = t151 then ((laws_toMarkS.F l0).bind fun t156 => ((laws_eqMarkS.F t152 t156).bind fun t159 => (if t159 = true then (some true) else (some false)))) else (some false)))))))) := by
  refine Co.same (laws_FnExactSealMarks.F_co l0 a1) (h := fun k => ((laws_szMarkS.f l0 1048576).bind fun t147 => (if t147 < 0 then (some true) else ((laws_toMarkS.f k l0).bind fun t148 => ((spec_SealMarks.f k t148 a1).bind fun t151 => ((laws_toMarkS.f k l0).bind fun t152 => ((impl_SealMarks.f k t152 a1).bind fun t155 => (if t155 = t151 then ((laws_toMarkS.f k l0).bind fun t156 => ((laws_eqMarkS.f k t152 t156).bind fun t159 => (if t159 = true then (some true) else (some false)))) else (some false))))))))) (fun k => by first | rfl | unfold laws_FnExactSealMarks.f; rfl) ?_
  repeat' first
    | (with_reducible exact Co.const _)
    | (with_reducible exact impl_SealMarks.F_co _ _)
    | (with_reducible exact laws_eqMarkS.F_co _ _)
    | (with_reducible exact laws_toMarkS.F_co _)
    | (with_reducible exact spec_SealMarks.F_co _ _)
    | (with_reducible refine Co.ite ?_ ?_)
    | (with_reducible refine Co.bind ?_ (fun _ => ?_))

end Go.Proofs.Ytjokfllhbmodeaa.PFnExactSealMarks.Pure
