/-
  The printed functions that this law reaches, their rounds used up, and the equations that they meet.
-/
import Derived.Test.YtkfalbaklodnjaaPFnExactPutMarkx1
import Derived.Test.YtkfalbaklodnjaaPFnExactPutMarkx2
import Derived.Test.YtkfalbaklodnjaaPFnExactPutMarkx3
import Derived.Test.YtkfalbaklodnjaaPFnExactPutMarkx4
import Derived.Test.YtkfalbaklodnjaaPFnExactPutMarkx5
import Derived.Test.YtkfalbaklodnjaaPFnExactPutMarkx6
import Derived.Test.YtkfalbaklodnjaaPFnExactPutMarkx7
import Derived.Test.YtkfalbaklodnjaaLim
namespace Go.Proofs.Ytkfalbaklodnjaa.PFnExactPutMark.Pure
open Go.RowKit Go.Proofs.YtkfalbaklodnjaaW.PrintWords Go.Proofs.YtkfalbaklodnjaaW.PrintLast Go.Proofs.YtkfalbaklodnjaaW.PrintMore Go.Proofs.Ytkfalbaklodnjaa.PFnExactPutMark Go.Proofs.Ytkfalbaklodnjaa.Lim
set_option linter.unusedVariables false
set_option maxRecDepth 100000

noncomputable def spec_AreMarks.L0 (x0 : List (S30)) (x3 : Int) : Option (Bool) := lim (fun k => spec_AreMarks.l0 k x0 x3)
theorem spec_AreMarks.L0_co (x0 : List (S30)) (x3 : Int) : Co (fun k => spec_AreMarks.l0 k x0 x3) (spec_AreMarks.L0 x0 x3) := Co.base (fun k => (spec_AreMarks.mono_l k) _ _)
noncomputable def spec_AreMarks.F (l0 : List (S30)) : Option (Bool) := lim (fun k => spec_AreMarks.f k l0)
theorem spec_AreMarks.F_co (l0 : List (S30)) : Co (fun k => spec_AreMarks.f k l0) (spec_AreMarks.F l0) := Co.base (fun k => spec_AreMarks.mono _ k)
theorem spec_AreMarks.L0_eq (x0 : List (S30)) (x3 : Int) : spec_AreMarks.L0 x0 x3 = (if x3 < (x0.length : Int) then (if 0 ≤ x3 then ((spec_l1In.f ((rd_T30 x0 x3).f0) 1 20).bind fun t102 => (if t102 = true then ((spec_l1In.f ((rd_T30 x0 x3).f1) 0 99).bind fun t104 => (if t104 = true then (if x3 > 0 then (if 0 ≤ (wrap64 (x3 - 1)) then (if (wrap64 (x3 - 1)) < (x0.length : Int) then (if ((rd_T30 x0 (wrap64 (x3 - 1))).f0) ≥ ((rd_T30 x0 x3).f0) then (some false) else (spec_AreMarks.L0 x0 (wrap64 (x3 + 1)))) else (none)) else (none)) else (spec_AreMarks.L0 x0 (wrap64 (x3 + 1)))) else (some false))) else (some false))) else (none)) else (some (decide ((x0.length : Int) ≤ 8)))) := by
  refine Co.step (spec_AreMarks.L0_co x0 x3) (h := fun k => (if x3 < (x0.length : Int) then (if 0 ≤ x3 then ((spec_l1In.f ((rd_T30 x0 x3).f0) 1 20).bind fun t102 => (if t102 = true then ((spec_l1In.f ((rd_T30 x0 x3).f1) 0 99).bind fun t104 => (if t104 = true then (if x3 > 0 then (if 0 ≤ (wrap64 (x3 - 1)) then (if (wrap64 (x3 - 1)) < (x0.length : Int) then (if ((rd_T30 x0 (wrap64 (x3 - 1))).f0) ≥ ((rd_T30 x0 x3).f0) then (some false) else (spec_AreMarks.l0 k x0 (wrap64 (x3 + 1)))) else (none)) else (none)) else (spec_AreMarks.l0 k x0 (wrap64 (x3 + 1)))) else (some false))) else (some false))) else (none)) else (some (decide ((x0.length : Int) ≤ 8))))) (fun k => by first | rfl | (simp only [spec_AreMarks.l0])) ?_
  repeat' first
    | (with_reducible exact Co.const _)
    | (with_reducible exact spec_AreMarks.L0_co _ _)
    | (with_reducible refine Co.ite ?_ ?_)
    | (with_reducible refine Co.bind ?_ (fun _ => ?_))
theorem spec_AreMarks.F_eq (l0 : List (S30)) : spec_AreMarks.F l0 = (spec_AreMarks.L0 l0 0) := by
  refine Co.same (spec_AreMarks.F_co l0) (h := fun k => (spec_AreMarks.l0 k l0 0)) (fun k => by first | rfl | unfold spec_AreMarks.f; rfl) ?_
  repeat' first
    | (with_reducible exact Co.const _)
    | (with_reducible exact spec_AreMarks.L0_co _ _)
    | (with_reducible refine Co.ite ?_ ?_)
    | (with_reducible refine Co.bind ?_ (fun _ => ?_))

noncomputable def spec_PutMark.J1 (x0 : List (S30)) (x6 : Int) (x108000 : Int) (x108001 : Int) : Option ((List (S30)) × Bool) := lim (fun k => spec_PutMark.j1 k x0 x6 x108000 x108001)
theorem spec_PutMark.J1_co (x0 : List (S30)) (x6 : Int) (x108000 : Int) (x108001 : Int) : Co (fun k => spec_PutMark.j1 k x0 x6 x108000 x108001) (spec_PutMark.J1 x0 x6 x108000 x108001) := Co.base (fun k => (spec_PutMark.mono_l k).1 _ _ _ _)
noncomputable def spec_PutMark.J2 (x0 : List (S30)) (x6 : Int) (x7 : List (S30)) (x39 : Bool) (x108000 : Int) (x108001 : Int) : Option ((List (S30)) × Bool) := lim (fun k => spec_PutMark.j2 k x0 x6 x7 x39 x108000 x108001)
theorem spec_PutMark.J2_co (x0 : List (S30)) (x6 : Int) (x7 : List (S30)) (x39 : Bool) (x108000 : Int) (x108001 : Int) : Co (fun k => spec_PutMark.j2 k x0 x6 x7 x39 x108000 x108001) (spec_PutMark.J2 x0 x6 x7 x39 x108000 x108001) := Co.base (fun k => (spec_PutMark.mono_l k).2.1 _ _ _ _ _ _)
noncomputable def spec_PutMark.L0 (x0 : List (S30)) (x6 : Int) (x108000 : Int) (x108001 : Int) : Option ((List (S30)) × Bool) := lim (fun k => spec_PutMark.l0 k x0 x6 x108000 x108001)
theorem spec_PutMark.L0_co (x0 : List (S30)) (x6 : Int) (x108000 : Int) (x108001 : Int) : Co (fun k => spec_PutMark.l0 k x0 x6 x108000 x108001) (spec_PutMark.L0 x0 x6 x108000 x108001) := Co.base (fun k => (spec_PutMark.mono_l k).2.2 _ _ _ _)
noncomputable def spec_PutMark.F (l0 : List (S30)) (a1_0 : Int) (a1_1 : Int) : Option ((List (S30)) × Bool) := lim (fun k => spec_PutMark.f k l0 a1_0 a1_1)
theorem spec_PutMark.F_co (l0 : List (S30)) (a1_0 : Int) (a1_1 : Int) : Co (fun k => spec_PutMark.f k l0 a1_0 a1_1) (spec_PutMark.F l0 a1_0 a1_1) := Co.base (fun k => spec_PutMark.mono _ _ _ k)
theorem spec_PutMark.J1_eq (x0 : List (S30)) (x6 : Int) (x108000 : Int) (x108001 : Int) : spec_PutMark.J1 x0 x6 x108000 x108001 = (if 0 ≤ x6 then (if x6 ≤ (x0.length : Int) then ((some (x0.drop (x6 : Int).toNat : List (S30))).bind fun y109 => (if (y109.length : Int) > 0 then (if 0 < (y109.length : Int) then (spec_PutMark.J2 x0 x6 y109 (((rd_T30 y109 0).f0) == x108000) x108000 x108001) else (none)) else (spec_PutMark.J2 x0 x6 y109 false x108000 x108001))) else (none)) else (none)) := by
  refine Co.step (spec_PutMark.J1_co x0 x6 x108000 x108001) (h := fun k => (if 0 ≤ x6 then (if x6 ≤ (x0.length : Int) then ((some (x0.drop (x6 : Int).toNat : List (S30))).bind fun y109 => (if (y109.length : Int) > 0 then (if 0 < (y109.length : Int) then (spec_PutMark.j2 k x0 x6 y109 (((rd_T30 y109 0).f0) == x108000) x108000 x108001) else (none)) else (spec_PutMark.j2 k x0 x6 y109 false x108000 x108001))) else (none)) else (none))) (fun k => by first | rfl | (simp only [spec_PutMark.j1])) ?_
  repeat' first
    | (with_reducible exact Co.const _)
    | (with_reducible exact spec_PutMark.J2_co _ _ _ _ _ _)
    | (with_reducible refine Co.ite ?_ ?_)
    | (with_reducible refine Co.bind ?_ (fun _ => ?_))
theorem spec_PutMark.J2_eq (x0 : List (S30)) (x6 : Int) (x7 : List (S30)) (x39 : Bool) (x108000 : Int) (x108001 : Int) : spec_PutMark.J2 x0 x6 x7 x39 x108000 x108001 = (if x39 = true then (if 1 ≤ (x7.length : Int) then ((some (x7.drop 1 : List (S30))).bind fun y114 => ((some (([] : List (S30)) : List (S30))).bind fun y118 => (if 0 ≤ x6 then (if x6 ≤ (x0.length : Int) then ((some (x0.take (x6 : Int).toNat : List (S30))).bind fun y121 => (if y118.length + y121.length < 8796093022208 then ((some (y118 ++ y121 : List (S30))).bind fun y125 => ((some (([(⟨x108000, x108001⟩ : S30)] : List (S30)) : List (S30))).bind fun y128 => (if y125.length + y128.length < 8796093022208 then ((some (y125 ++ y128 : List (S30))).bind fun y131 => (if y131.length + y114.length < 8796093022208 then ((some (y131 ++ y114 : List (S30))).bind fun y134 => ((spec_AreMarks.F y134).bind fun t137 => (if t137 = true then (some (y134, true)) else ((some (([] : List (S30)) : List (S30))).bind fun y138 => (if y138.length + x0.length < 8796093022208 then (some ((y138 ++ x0), false)) else (none)))))) else (none))) else (none)))) else (none))) else (none)) else (none)))) else (none)) else ((some (([] : List (S30)) : List (S30))).bind fun y144 => (if 0 ≤ x6 then (if x6 ≤ (x0.length : Int) then ((some (x0.take (x6 : Int).toNat : List (S30))).bind fun y147 => (if y144.length + y147.length < 8796093022208 then ((some (y144 ++ y147 : List (S30))).bind fun y151 => ((some (([(⟨x108000, x108001⟩ : S30)] : List (S30)) : List (S30))).bind fun y154 => (if y151.length + y154.length < 8796093022208 then ((some (y151 ++ y154 : List (S30))).bind fun y157 => (if y157.length + x7.length < 8796093022208 then ((some (y157 ++ x7 : List (S30))).bind fun y160 => ((spec_AreMarks.F y160).bind fun t163 => (if t163 = true then (some (y160, true)) else ((some (([] : List (S30)) : List (S30))).bind fun y164 => (if y164.length + x0.length < 8796093022208 then (some ((y164 ++ x0), false)) else (none)))))) else (none))) else (none)))) else (none))) else (none)) else (none)))) := by
  refine Co.step (spec_PutMark.J2_co x0 x6 x7 x39 x108000 x108001) (h := fun k => (if x39 = true then (if 1 ≤ (x7.length : Int) then ((some (x7.drop 1 : List (S30))).bind fun y114 => ((some (([] : List (S30)) : List (S30))).bind fun y118 => (if 0 ≤ x6 then (if x6 ≤ (x0.length : Int) then ((some (x0.take (x6 : Int).toNat : List (S30))).bind fun y121 => (if y118.length + y121.length < 8796093022208 then ((some (y118 ++ y121 : List (S30))).bind fun y125 => ((some (([(⟨x108000, x108001⟩ : S30)] : List (S30)) : List (S30))).bind fun y128 => (if y125.length + y128.length < 8796093022208 then ((some (y125 ++ y128 : List (S30))).bind fun y131 => (if y131.length + y114.length < 8796093022208 then ((some (y131 ++ y114 : List (S30))).bind fun y134 => ((spec_AreMarks.f k y134).bind fun t137 => (if t137 = true then (some (y134, true)) else ((some (([] : List (S30)) : List (S30))).bind fun y138 => (if y138.length + x0.length < 8796093022208 then (some ((y138 ++ x0), false)) else (none)))))) else (none))) else (none)))) else (none))) else (none)) else (none)))) else (none)) else ((some (([] : List (S30)) : List (S30))).bind fun y144 => (if 0 ≤ x6 then (if x6 ≤ (x0.length : Int) then ((some (x0.take (x6 : Int).toNat : List (S30))).bind fun y147 => (if y144.length + y147.length < 8796093022208 then ((some (y144 ++ y147 : List (S30))).bind fun y151 => ((some (([(⟨x108000, x108001⟩ : S30)] : List (S30)) : List (S30))).bind fun y154 => (if y151.length + y154.length < 8796093022208 then ((some (y151 ++ y154 : List (S30))).bind fun y157 => (if y157.length + x7.length < 8796093022208 then ((some (y157 ++ x7 : List (S30))).bind fun y160 => ((spec_AreMarks.f k y160).bind fun t163 => (if t163 = true then (some (y160, true)) else ((some (([] : List (S30)) : List (S30))).bind fun y164 => (if y164.length + x0.length < 8796093022208 then (some ((y164 ++ x0), false)) else (none)))))) else (none))) else (none)))) else (none))) else (none)) else (none))))) (fun k => by first | rfl | (simp only [spec_PutMark.j2])) ?_
  repeat' first
    | (with_reducible exact Co.const _)
    | (with_reducible exact spec_AreMarks.F_co _)
    | (with_reducible refine Co.ite ?_ ?_)
    | (with_reducible refine Co.bind ?_ (fun _ => ?_))
theorem spec_PutMark.L0_eq (x0 : List (S30)) (x6 : Int) (x108000 : Int) (x108001 : Int) : spec_PutMark.L0 x0 x6 x108000 x108001 = (if x6 < (x0.length : Int) then (if 0 ≤ x6 then (if ((rd_T30 x0 x6).f0) < x108000 then (spec_PutMark.L0 x0 (wrap64 (x6 + 1)) x108000 x108001) else (spec_PutMark.J1 x0 x6 x108000 x108001)) else (none)) else (spec_PutMark.J1 x0 x6 x108000 x108001)) := by
  refine Co.step (spec_PutMark.L0_co x0 x6 x108000 x108001) (h := fun k => (if x6 < (x0.length : Int) then (if 0 ≤ x6 then (if ((rd_T30 x0 x6).f0) < x108000 then (spec_PutMark.l0 k x0 (wrap64 (x6 + 1)) x108000 x108001) else (spec_PutMark.j1 k x0 x6 x108000 x108001)) else (none)) else (spec_PutMark.j1 k x0 x6 x108000 x108001))) (fun k => by first | rfl | (simp only [spec_PutMark.l0])) ?_
  repeat' first
    | (with_reducible exact Co.const _)
    | (with_reducible exact spec_PutMark.J1_co _ _ _ _)
    | (with_reducible exact spec_PutMark.L0_co _ _ _ _)
    | (with_reducible refine Co.ite ?_ ?_)
    | (with_reducible refine Co.bind ?_ (fun _ => ?_))
theorem spec_PutMark.F_eq (l0 : List (S30)) (a1_0 : Int) (a1_1 : Int) : spec_PutMark.F l0 a1_0 a1_1 = (spec_PutMark.L0 l0 0 a1_0 a1_1) := by
  refine Co.same (spec_PutMark.F_co l0 a1_0 a1_1) (h := fun k => (spec_PutMark.l0 k l0 0 a1_0 a1_1)) (fun k => by first | rfl | unfold spec_PutMark.f; rfl) ?_
  repeat' first
    | (with_reducible exact Co.const _)
    | (with_reducible exact spec_PutMark.L0_co _ _ _ _)
    | (with_reducible refine Co.ite ?_ ?_)
    | (with_reducible refine Co.bind ?_ (fun _ => ?_))

noncomputable def laws_toMarkS.L0 (x0 : List (S24)) (x3 : List (S30)) (x4 : Int) : Option ((List (S30))) := lim (fun k => laws_toMarkS.l0 k x0 x3 x4)
theorem laws_toMarkS.L0_co (x0 : List (S24)) (x3 : List (S30)) (x4 : Int) : Co (fun k => laws_toMarkS.l0 k x0 x3 x4) (laws_toMarkS.L0 x0 x3 x4) := Co.base (fun k => (laws_toMarkS.mono_l k) _ _ _)
noncomputable def laws_toMarkS.F (l0 : List (S24)) : Option ((List (S30))) := lim (fun k => laws_toMarkS.f k l0)
theorem laws_toMarkS.F_co (l0 : List (S24)) : Co (fun k => laws_toMarkS.f k l0) (laws_toMarkS.F l0) := Co.base (fun k => laws_toMarkS.mono _ k)
theorem laws_toMarkS.L0_eq (x0 : List (S24)) (x3 : List (S30)) (x4 : Int) : laws_toMarkS.L0 x0 x3 x4 = (if x4 < (x0.length : Int) then (if 0 ≤ x4 then ((laws_toMark.f ((rd_T24 x0 x4).f0) ((rd_T24 x0 x4).f1)).bind fun bt177 => (if x4 < (x3.length : Int) then (laws_toMarkS.L0 x0 (x3.set (x4 : Int).toNat (⟨bt177.1, bt177.2⟩ : S30)) (wrap64 (x4 + 1))) else (none))) else (none)) else (some x3)) := by
  refine Co.step (laws_toMarkS.L0_co x0 x3 x4) (h := fun k => (if x4 < (x0.length : Int) then (if 0 ≤ x4 then ((laws_toMark.f ((rd_T24 x0 x4).f0) ((rd_T24 x0 x4).f1)).bind fun bt177 => (if x4 < (x3.length : Int) then (laws_toMarkS.l0 k x0 (x3.set (x4 : Int).toNat (⟨bt177.1, bt177.2⟩ : S30)) (wrap64 (x4 + 1))) else (none))) else (none)) else (some x3))) (fun k => by first | rfl | (simp only [laws_toMarkS.l0])) ?_
  repeat' first
    | (with_reducible exact Co.const _)
    | (with_reducible exact laws_toMarkS.L0_co _ _ _)
    | (with_reducible refine Co.ite ?_ ?_)
    | (with_reducible refine Co.bind ?_ (fun _ => ?_))
theorem laws_toMarkS.F_eq (l0 : List (S24)) : laws_toMarkS.F l0 = (if 0 ≤ (l0.length : Int) then (if ((l0.length : Int) : Int).toNat ≤ 17592186044416 then (laws_toMarkS.L0 l0 (List.replicate ((l0.length : Int) : Int).toNat z30) 0) else (none)) else (none)) := by
  refine Co.same (laws_toMarkS.F_co l0) (h := fun k => (if 0 ≤ (l0.length : Int) then (if ((l0.length : Int) : Int).toNat ≤ 17592186044416 then (laws_toMarkS.l0 k l0 (List.replicate ((l0.length : Int) : Int).toNat z30) 0) else (none)) else (none))) (fun k => by first | rfl | unfold laws_toMarkS.f; rfl) ?_
  repeat' first
    | (with_reducible exact Co.const _)
    | (with_reducible exact laws_toMarkS.L0_co _ _ _)
    | (with_reducible refine Co.ite ?_ ?_)
    | (with_reducible refine Co.bind ?_ (fun _ => ?_))

noncomputable def impl_AreMarks.L0 (x0 : List (S30)) (x8 : List (S30)) (x9 : Int) (x10 : Int) : Option (Bool) := lim (fun k => impl_AreMarks.l0 k x0 x8 x9 x10)
theorem impl_AreMarks.L0_co (x0 : List (S30)) (x8 : List (S30)) (x9 : Int) (x10 : Int) : Co (fun k => impl_AreMarks.l0 k x0 x8 x9 x10) (impl_AreMarks.L0 x0 x8 x9 x10) := Co.base (fun k => (impl_AreMarks.mono_l k) _ _ _ _)
noncomputable def impl_AreMarks.F (l0 : List (S30)) : Option (Bool) := lim (fun k => impl_AreMarks.f k l0)
theorem impl_AreMarks.F_co (l0 : List (S30)) : Co (fun k => impl_AreMarks.f k l0) (impl_AreMarks.F l0) := Co.base (fun k => impl_AreMarks.mono _ k)
theorem impl_AreMarks.L0_eq (x0 : List (S30)) (x8 : List (S30)) (x9 : Int) (x10 : Int) : impl_AreMarks.L0 x0 x8 x9 x10 = (if x10 < x9 then (if 0 ≤ x10 then (if x10 < (x8.length : Int) then ((impl_InRange.f ((rd_T30 x8 x10).f0) 1 20).bind fun t188 => (if t188 = true then ((impl_InRange.f ((rd_T30 x8 x10).f1) 0 99).bind fun t189 => (if t189 = true then (if x10 > 0 then (if 0 ≤ (wrap64 (x10 - 1)) then (if (wrap64 (x10 - 1)) < (x0.length : Int) then (if ((rd_T30 x8 x10).f0) ≤ ((rd_T30 x0 (wrap64 (x10 - 1))).f0) then (some false) else (impl_AreMarks.L0 x0 x8 x9 (wrap64 (x10 + 1)))) else (none)) else (none)) else (impl_AreMarks.L0 x0 x8 x9 (wrap64 (x10 + 1)))) else (some false))) else (some false))) else (none)) else (none)) else (some true)) := by
  refine Co.step (impl_AreMarks.L0_co x0 x8 x9 x10) (h := fun k => (if x10 < x9 then (if 0 ≤ x10 then (if x10 < (x8.length : Int) then ((impl_InRange.f ((rd_T30 x8 x10).f0) 1 20).bind fun t188 => (if t188 = true then ((impl_InRange.f ((rd_T30 x8 x10).f1) 0 99).bind fun t189 => (if t189 = true then (if x10 > 0 then (if 0 ≤ (wrap64 (x10 - 1)) then (if (wrap64 (x10 - 1)) < (x0.length : Int) then (if ((rd_T30 x8 x10).f0) ≤ ((rd_T30 x0 (wrap64 (x10 - 1))).f0) then (some false) else (impl_AreMarks.l0 k x0 x8 x9 (wrap64 (x10 + 1)))) else (none)) else (none)) else (impl_AreMarks.l0 k x0 x8 x9 (wrap64 (x10 + 1)))) else (some false))) else (some false))) else (none)) else (none)) else (some true))) (fun k => by first | rfl | (simp only [impl_AreMarks.l0])) ?_
  repeat' first
    | (with_reducible exact Co.const _)
    | (with_reducible exact impl_AreMarks.L0_co _ _ _ _)
    | (with_reducible refine Co.ite ?_ ?_)
    | (with_reducible refine Co.bind ?_ (fun _ => ?_))
theorem impl_AreMarks.F_eq (l0 : List (S30)) : impl_AreMarks.F l0 = (if (l0.length : Int) > 8 then (some false) else (impl_AreMarks.L0 l0 l0 (l0.length : Int) 0)) := by
  refine Co.same (impl_AreMarks.F_co l0) (h := fun k => (if (l0.length : Int) > 8 then (some false) else (impl_AreMarks.l0 k l0 l0 (l0.length : Int) 0))) (fun k => by first | rfl | unfold impl_AreMarks.f; rfl) ?_
  repeat' first
    | (with_reducible exact Co.const _)
    | (with_reducible exact impl_AreMarks.L0_co _ _ _ _)
    | (with_reducible refine Co.ite ?_ ?_)
    | (with_reducible refine Co.bind ?_ (fun _ => ?_))

noncomputable def impl_PutMark.J1 (x0 : List (S30)) (x6 : List (S30)) (x7 : Int) (x192000 : Int) (x192001 : Int) : Option ((List (S30)) × Bool) := lim (fun k => impl_PutMark.j1 k x0 x6 x7 x192000 x192001)
theorem impl_PutMark.J1_co (x0 : List (S30)) (x6 : List (S30)) (x7 : Int) (x192000 : Int) (x192001 : Int) : Co (fun k => impl_PutMark.j1 k x0 x6 x7 x192000 x192001) (impl_PutMark.J1 x0 x6 x7 x192000 x192001) := Co.base (fun k => (impl_PutMark.mono_l k).1 _ _ _ _ _)
noncomputable def impl_PutMark.J2 (x0 : List (S30)) (x6 : List (S30)) (x7 : Int) (x39 : Bool) (x192000 : Int) (x192001 : Int) : Option ((List (S30)) × Bool) := lim (fun k => impl_PutMark.j2 k x0 x6 x7 x39 x192000 x192001)
theorem impl_PutMark.J2_co (x0 : List (S30)) (x6 : List (S30)) (x7 : Int) (x39 : Bool) (x192000 : Int) (x192001 : Int) : Co (fun k => impl_PutMark.j2 k x0 x6 x7 x39 x192000 x192001) (impl_PutMark.J2 x0 x6 x7 x39 x192000 x192001) := Co.base (fun k => (impl_PutMark.mono_l k).2.1 _ _ _ _ _ _)
noncomputable def impl_PutMark.J3 (x0 : List (S30)) (x6 : List (S30)) : Option ((List (S30)) × Bool) := lim (fun k => impl_PutMark.j3 k x0 x6)
theorem impl_PutMark.J3_co (x0 : List (S30)) (x6 : List (S30)) : Co (fun k => impl_PutMark.j3 k x0 x6) (impl_PutMark.J3 x0 x6) := Co.base (fun k => (impl_PutMark.mono_l k).2.2.1 _ _)
noncomputable def impl_PutMark.L0 (x0 : List (S30)) (x6 : List (S30)) (x7 : Int) (x192000 : Int) (x192001 : Int) : Option ((List (S30)) × Bool) := lim (fun k => impl_PutMark.l0 k x0 x6 x7 x192000 x192001)
theorem impl_PutMark.L0_co (x0 : List (S30)) (x6 : List (S30)) (x7 : Int) (x192000 : Int) (x192001 : Int) : Co (fun k => impl_PutMark.l0 k x0 x6 x7 x192000 x192001) (impl_PutMark.L0 x0 x6 x7 x192000 x192001) := Co.base (fun k => (impl_PutMark.mono_l k).2.2.2 _ _ _ _ _)
noncomputable def impl_PutMark.F (l0 : List (S30)) (a1_0 : Int) (a1_1 : Int) : Option ((List (S30)) × Bool) := lim (fun k => impl_PutMark.f k l0 a1_0 a1_1)
theorem impl_PutMark.F_co (l0 : List (S30)) (a1_0 : Int) (a1_1 : Int) : Co (fun k => impl_PutMark.f k l0 a1_0 a1_1) (impl_PutMark.F l0 a1_0 a1_1) := Co.base (fun k => impl_PutMark.mono _ _ _ k)
theorem impl_PutMark.J1_eq (x0 : List (S30)) (x6 : List (S30)) (x7 : Int) (x192000 : Int) (x192001 : Int) : impl_PutMark.J1 x0 x6 x7 x192000 x192001 = (if x7 < (x0.length : Int) then (if 0 ≤ x7 then (impl_PutMark.J2 x0 x6 x7 (((rd_T30 x0 x7).f0) == x192000) x192000 x192001) else (none)) else (impl_PutMark.J2 x0 x6 x7 false x192000 x192001)) := by
  refine Co.step (impl_PutMark.J1_co x0 x6 x7 x192000 x192001) (h := fun k => (if x7 < (x0.length : Int) then (if 0 ≤ x7 then (impl_PutMark.j2 k x0 x6 x7 (((rd_T30 x0 x7).f0) == x192000) x192000 x192001) else (none)) else (impl_PutMark.j2 k x0 x6 x7 false x192000 x192001))) (fun k => by first | rfl | (simp only [impl_PutMark.j1])) ?_
  repeat' first
    | (with_reducible exact Co.const _)
    | (with_reducible exact impl_PutMark.J2_co _ _ _ _ _ _)
    | (with_reducible refine Co.ite ?_ ?_)
    | (with_reducible refine Co.bind ?_ (fun _ => ?_))
theorem impl_PutMark.J2_eq (x0 : List (S30)) (x6 : List (S30)) (x7 : Int) (x39 : Bool) (x192000 : Int) (x192001 : Int) : impl_PutMark.J2 x0 x6 x7 x39 x192000 x192001 = (if x39 = true then (if 0 ≤ x7 then (if x7 < (x6.length : Int) then (impl_PutMark.J3 x0 (x6.set (x7 : Int).toNat (⟨x192000, x192001⟩ : S30))) else (none)) else (none)) else ((impl_Mark_106.f x6 x7 (([(⟨x192000, x192001⟩ : S30)] : List (S30)))).bind fun t201 => (impl_PutMark.J3 x0 t201))) := by
  refine Co.step (impl_PutMark.J2_co x0 x6 x7 x39 x192000 x192001) (h := fun k => (if x39 = true then (if 0 ≤ x7 then (if x7 < (x6.length : Int) then (impl_PutMark.j3 k x0 (x6.set (x7 : Int).toNat (⟨x192000, x192001⟩ : S30))) else (none)) else (none)) else ((impl_Mark_106.f x6 x7 (([(⟨x192000, x192001⟩ : S30)] : List (S30)))).bind fun t201 => (impl_PutMark.j3 k x0 t201)))) (fun k => by first | rfl | (simp only [impl_PutMark.j2])) ?_
  repeat' first
    | (with_reducible exact Co.const _)
    | (with_reducible exact impl_PutMark.J3_co _ _)
    | (with_reducible refine Co.ite ?_ ?_)
    | (with_reducible refine Co.bind ?_ (fun _ => ?_))
theorem impl_PutMark.J3_eq (x0 : List (S30)) (x6 : List (S30)) : impl_PutMark.J3 x0 x6 = ((impl_AreMarks.F x6).bind fun t204 => (if t204 = true then (some (x6, true)) else ((impl_Mark_105.f x0).bind fun t205 => (some (t205, false))))) := by
  refine Co.step (impl_PutMark.J3_co x0 x6) (h := fun k => ((impl_AreMarks.f k x6).bind fun t204 => (if t204 = true then (some (x6, true)) else ((impl_Mark_105.f x0).bind fun t205 => (some (t205, false)))))) (fun k => by first | rfl | (simp only [impl_PutMark.j3])) ?_
  repeat' first
    | (with_reducible exact Co.const _)
    | (with_reducible exact impl_AreMarks.F_co _)
    | (with_reducible refine Co.ite ?_ ?_)
    | (with_reducible refine Co.bind ?_ (fun _ => ?_))
theorem impl_PutMark.L0_eq (x0 : List (S30)) (x6 : List (S30)) (x7 : Int) (x192000 : Int) (x192001 : Int) : impl_PutMark.L0 x0 x6 x7 x192000 x192001 = (if x7 < (x0.length : Int) then (if 0 ≤ x7 then (if ((rd_T30 x0 x7).f0) < x192000 then (impl_PutMark.L0 x0 x6 (wrap64 (x7 + 1)) x192000 x192001) else (impl_PutMark.J1 x0 x6 x7 x192000 x192001)) else (none)) else (impl_PutMark.J1 x0 x6 x7 x192000 x192001)) := by
  refine Co.step (impl_PutMark.L0_co x0 x6 x7 x192000 x192001) (h := fun k => (if x7 < (x0.length : Int) then (if 0 ≤ x7 then (if ((rd_T30 x0 x7).f0) < x192000 then (impl_PutMark.l0 k x0 x6 (wrap64 (x7 + 1)) x192000 x192001) else (impl_PutMark.j1 k x0 x6 x7 x192000 x192001)) else (none)) else (impl_PutMark.j1 k x0 x6 x7 x192000 x192001))) (fun k => by first | rfl | (simp only [impl_PutMark.l0])) ?_
  repeat' first
    | (with_reducible exact Co.const _)
    | (with_reducible exact impl_PutMark.J1_co _ _ _ _ _)
    | (with_reducible exact impl_PutMark.L0_co _ _ _ _ _)
    | (with_reducible refine Co.ite ?_ ?_)
    | (with_reducible refine Co.bind ?_ (fun _ => ?_))
theorem impl_PutMark.F_eq (l0 : List (S30)) (a1_0 : Int) (a1_1 : Int) : impl_PutMark.F l0 a1_0 a1_1 = ((impl_Mark_105.f l0).bind fun t192 => (impl_PutMark.L0 l0 t192 0 a1_0 a1_1)) := by
  refine Co.same (impl_PutMark.F_co l0 a1_0 a1_1) (h := fun k => ((impl_Mark_105.f l0).bind fun t192 => (impl_PutMark.l0 k l0 t192 0 a1_0 a1_1))) (fun k => by first | rfl | unfold impl_PutMark.f; rfl) ?_
  repeat' first
    | (with_reducible exact Co.const _)
    | (with_reducible exact impl_PutMark.L0_co _ _ _ _ _)
    | (with_reducible refine Co.ite ?_ ?_)
    | (with_reducible refine Co.bind ?_ (fun _ => ?_))

noncomputable def laws_eqMarkS.L0 (x0 : List (S30)) (x1 : List (S30)) (x5 : Int) : Option (Bool) := lim (fun k => laws_eqMarkS.l0 k x0 x1 x5)
theorem laws_eqMarkS.L0_co (x0 : List (S30)) (x1 : List (S30)) (x5 : Int) : Co (fun k => laws_eqMarkS.l0 k x0 x1 x5) (laws_eqMarkS.L0 x0 x1 x5) := Co.base (fun k => (laws_eqMarkS.mono_l k) _ _ _)
noncomputable def laws_eqMarkS.F (l0 : List (S30)) (l1 : List (S30)) : Option (Bool) := lim (fun k => laws_eqMarkS.f k l0 l1)
theorem laws_eqMarkS.F_co (l0 : List (S30)) (l1 : List (S30)) : Co (fun k => laws_eqMarkS.f k l0 l1) (laws_eqMarkS.F l0 l1) := Co.base (fun k => laws_eqMarkS.mono _ _ k)
theorem laws_eqMarkS.L0_eq (x0 : List (S30)) (x1 : List (S30)) (x5 : Int) : laws_eqMarkS.L0 x0 x1 x5 = (if x5 < (x0.length : Int) then (if 0 ≤ x5 then (if x5 < (x1.length : Int) then ((laws_eqMark.f ((rd_T30 x0 x5).f0) ((rd_T30 x0 x5).f1) ((rd_T30 x1 x5).f0) ((rd_T30 x1 x5).f1)).bind fun t212 => (if t212 = true then (laws_eqMarkS.L0 x0 x1 (wrap64 (x5 + 1))) else (some false))) else (none)) else (none)) else (some true)) := by
  refine Co.step (laws_eqMarkS.L0_co x0 x1 x5) (h := fun k => (if x5 < (x0.length : Int) then (if 0 ≤ x5 then (if x5 < (x1.length : Int) then ((laws_eqMark.f ((rd_T30 x0 x5).f0) ((rd_T30 x0 x5).f1) ((rd_T30 x1 x5).f0) ((rd_T30 x1 x5).f1)).bind fun t212 => (if t212 = true then (laws_eqMarkS.l0 k x0 x1 (wrap64 (x5 + 1))) else (some false))) else (none)) else (none)) else (some true))) (fun k => by first | rfl | (simp only [laws_eqMarkS.l0])) ?_
  repeat' first
    | (with_reducible exact Co.const _)
    | (with_reducible exact laws_eqMarkS.L0_co _ _ _)
    | (with_reducible refine Co.ite ?_ ?_)
    | (with_reducible refine Co.bind ?_ (fun _ => ?_))
theorem laws_eqMarkS.F_eq (l0 : List (S30)) (l1 : List (S30)) : laws_eqMarkS.F l0 l1 = (if (l0.length : Int) = (l1.length : Int) then (laws_eqMarkS.L0 l0 l1 0) else (some false)) := by
  refine Co.same (laws_eqMarkS.F_co l0 l1) (h := fun k => (if (l0.length : Int) = (l1.length : Int) then (laws_eqMarkS.l0 k l0 l1 0) else (some false))) (fun k => by first | rfl | unfold laws_eqMarkS.f; rfl) ?_
  repeat' first
    | (with_reducible exact Co.const _)
    | (with_reducible exact laws_eqMarkS.L0_co _ _ _)
    | (with_reducible refine Co.ite ?_ ?_)
    | (with_reducible refine Co.bind ?_ (fun _ => ?_))

noncomputable def laws_markMarkS.L0 (x0 : List (S30)) (x1 : Int) (x5 : Int) : Option (Int × (List (S30))) := lim (fun k => laws_markMarkS.l0 k x0 x1 x5)
theorem laws_markMarkS.L0_co (x0 : List (S30)) (x1 : Int) (x5 : Int) : Co (fun k => laws_markMarkS.l0 k x0 x1 x5) (laws_markMarkS.L0 x0 x1 x5) := Co.base (fun k => (laws_markMarkS.mono_l k) _ _ _)
noncomputable def laws_markMarkS.F (l0 : List (S30)) (a1 : Int) : Option (Int × (List (S30))) := lim (fun k => laws_markMarkS.f k l0 a1)
theorem laws_markMarkS.F_co (l0 : List (S30)) (a1 : Int) : Co (fun k => laws_markMarkS.f k l0 a1) (laws_markMarkS.F l0 a1) := Co.base (fun k => laws_markMarkS.mono _ _ k)
theorem laws_markMarkS.L0_eq (x0 : List (S30)) (x1 : Int) (x5 : Int) : laws_markMarkS.L0 x0 x1 x5 = (if x5 < (x0.length : Int) then (if 0 ≤ x5 then ((some (x0.set (x5 : Int).toNat (⟨x1, (rd_T30 x0 x5).f1⟩ : S30) : List (S30))).bind fun y213 => (laws_markMarkS.L0 (y213.set (x5 : Int).toNat (⟨(rd_T30 y213 x5).f0, wrap64 (x1 + 1)⟩ : S30)) (wrap64 ((wrap64 (x1 + 1)) + 1)) (wrap64 (x5 + 1)))) else (none)) else (some (x1, x0))) := by
  refine Co.step (laws_markMarkS.L0_co x0 x1 x5) (h := fun k => (if x5 < (x0.length : Int) then (if 0 ≤ x5 then ((some (x0.set (x5 : Int).toNat (⟨x1, (rd_T30 x0 x5).f1⟩ : S30) : List (S30))).bind fun y213 => (laws_markMarkS.l0 k (y213.set (x5 : Int).toNat (⟨(rd_T30 y213 x5).f0, wrap64 (x1 + 1)⟩ : S30)) (wrap64 ((wrap64 (x1 + 1)) + 1)) (wrap64 (x5 + 1)))) else (none)) else (some (x1, x0)))) (fun k => by first | rfl | (simp only [laws_markMarkS.l0])) ?_
  repeat' first
    | (with_reducible exact Co.const _)
    | (with_reducible exact laws_markMarkS.L0_co _ _ _)
    | (with_reducible refine Co.ite ?_ ?_)
    | (with_reducible refine Co.bind ?_ (fun _ => ?_))
theorem laws_markMarkS.F_eq (l0 : List (S30)) (a1 : Int) : laws_markMarkS.F l0 a1 = (laws_markMarkS.L0 l0 a1 0) := by
  refine Co.same (laws_markMarkS.F_co l0 a1) (h := fun k => (laws_markMarkS.l0 k l0 a1 0)) (fun k => by first | rfl | unfold laws_markMarkS.f; rfl) ?_
  repeat' first
    | (with_reducible exact Co.const _)
    | (with_reducible exact laws_markMarkS.L0_co _ _ _)
    | (with_reducible refine Co.ite ?_ ?_)
    | (with_reducible refine Co.bind ?_ (fun _ => ?_))

noncomputable def laws_heldMarkS.L0 (x0 : List (S30)) (x1 : Int) (x5 : Int) : Option (Int) := lim (fun k => laws_heldMarkS.l0 k x0 x1 x5)
theorem laws_heldMarkS.L0_co (x0 : List (S30)) (x1 : Int) (x5 : Int) : Co (fun k => laws_heldMarkS.l0 k x0 x1 x5) (laws_heldMarkS.L0 x0 x1 x5) := Co.base (fun k => (laws_heldMarkS.mono_l k) _ _ _)
noncomputable def laws_heldMarkS.F (l0 : List (S30)) (a1 : Int) : Option (Int) := lim (fun k => laws_heldMarkS.f k l0 a1)
theorem laws_heldMarkS.F_co (l0 : List (S30)) (a1 : Int) : Co (fun k => laws_heldMarkS.f k l0 a1) (laws_heldMarkS.F l0 a1) := Co.base (fun k => laws_heldMarkS.mono _ _ k)
theorem laws_heldMarkS.L0_eq (x0 : List (S30)) (x1 : Int) (x5 : Int) : laws_heldMarkS.L0 x0 x1 x5 = (if x5 < (x0.length : Int) then (if 0 ≤ x5 then (if ((rd_T30 x0 x5).f0) = x1 then (if ((rd_T30 x0 x5).f1) = (wrap64 (x1 + 1)) then (laws_heldMarkS.L0 x0 (wrap64 ((wrap64 (x1 + 1)) + 1)) (wrap64 (x5 + 1))) else (some (-1))) else (some (-1))) else (none)) else (some x1)) := by
  refine Co.step (laws_heldMarkS.L0_co x0 x1 x5) (h := fun k => (if x5 < (x0.length : Int) then (if 0 ≤ x5 then (if ((rd_T30 x0 x5).f0) = x1 then (if ((rd_T30 x0 x5).f1) = (wrap64 (x1 + 1)) then (laws_heldMarkS.l0 k x0 (wrap64 ((wrap64 (x1 + 1)) + 1)) (wrap64 (x5 + 1))) else (some (-1))) else (some (-1))) else (none)) else (some x1))) (fun k => by first | rfl | (simp only [laws_heldMarkS.l0])) ?_
  repeat' first
    | (with_reducible exact Co.const _)
    | (with_reducible exact laws_heldMarkS.L0_co _ _ _)
    | (with_reducible refine Co.ite ?_ ?_)
    | (with_reducible refine Co.bind ?_ (fun _ => ?_))
theorem laws_heldMarkS.F_eq (l0 : List (S30)) (a1 : Int) : laws_heldMarkS.F l0 a1 = (laws_heldMarkS.L0 l0 a1 0) := by
  refine Co.same (laws_heldMarkS.F_co l0 a1) (h := fun k => (laws_heldMarkS.l0 k l0 a1 0)) (fun k => by first | rfl | unfold laws_heldMarkS.f; rfl) ?_
  repeat' first
    | (with_reducible exact Co.const _)
    | (with_reducible exact laws_heldMarkS.L0_co _ _ _)
    | (with_reducible refine Co.ite ?_ ?_)
    | (with_reducible refine Co.bind ?_ (fun _ => ?_))

noncomputable def laws_FnExactPutMark.J0 (x0 : List (S24)) (x6 : List (S30)) (x7 : Bool) (x8 : List (S30)) (x9 : List (S30)) (x10 : Bool) (x46 : Bool) (x218000 : Int) (x218001 : Int) : Option (Bool) := lim (fun k => laws_FnExactPutMark.j0 k x0 x6 x7 x8 x9 x10 x46 x218000 x218001)
theorem laws_FnExactPutMark.J0_co (x0 : List (S24)) (x6 : List (S30)) (x7 : Bool) (x8 : List (S30)) (x9 : List (S30)) (x10 : Bool) (x46 : Bool) (x218000 : Int) (x218001 : Int) : Co (fun k => laws_FnExactPutMark.j0 k x0 x6 x7 x8 x9 x10 x46 x218000 x218001) (laws_FnExactPutMark.J0 x0 x6 x7 x8 x9 x10 x46 x218000 x218001) := Co.base (fun k => (laws_FnExactPutMark.mono_l k).1 _ _ _ _ _ _ _ _ _)
noncomputable def laws_FnExactPutMark.J1 (x0 : List (S24)) (x6 : List (S30)) (x7 : Bool) (x9 : List (S30)) (x67 : Bool) (x218000 : Int) (x218001 : Int) : Option (Bool) := lim (fun k => laws_FnExactPutMark.j1 k x0 x6 x7 x9 x67 x218000 x218001)
theorem laws_FnExactPutMark.J1_co (x0 : List (S24)) (x6 : List (S30)) (x7 : Bool) (x9 : List (S30)) (x67 : Bool) (x218000 : Int) (x218001 : Int) : Co (fun k => laws_FnExactPutMark.j1 k x0 x6 x7 x9 x67 x218000 x218001) (laws_FnExactPutMark.J1 x0 x6 x7 x9 x67 x218000 x218001) := Co.base (fun k => (laws_FnExactPutMark.mono_l k).2.1 _ _ _ _ _ _ _)
noncomputable def laws_FnExactPutMark.J2 (x9 : List (S30)) (x12 : Int) (x95 : Bool) : Option (Bool) := lim (fun k => laws_FnExactPutMark.j2 k x9 x12 x95)
theorem laws_FnExactPutMark.J2_co (x9 : List (S30)) (x12 : Int) (x95 : Bool) : Co (fun k => laws_FnExactPutMark.j2 k x9 x12 x95) (laws_FnExactPutMark.J2 x9 x12 x95) := Co.base (fun k => (laws_FnExactPutMark.mono_l k).2.2 _ _ _)
noncomputable def laws_FnExactPutMark.F (l0 : List (S24)) (a1_0 : Int) (a1_1 : Int) : Option (Bool) := lim (fun k => laws_FnExactPutMark.f k l0 a1_0 a1_1)
theorem laws_FnExactPutMark.F_co (l0 : List (S24)) (a1_0 : Int) (a1_1 : Int) : Co (fun k => laws_FnExactPutMark.f k l0 a1_0 a1_1) (laws_FnExactPutMark.F l0 a1_0 a1_1) := Co.base (fun k => laws_FnExactPutMark.mono _ _ _ k)
theorem laws_FnExactPutMark.J0_eq (x0 : List (S24)) (x6 : List (S30)) (x7 : Bool) (x8 : List (S30)) (x9 : List (S30)) (x10 : Bool) (x46 : Bool) (x218000 : Int) (x218001 : Int) : laws_FnExactPutMark.J0 x0 x6 x7 x8 x9 x10 x46 x218000 x218001 = (if x46 = true then (some false) else ((laws_toMarkS.F x0).bind fun t238 => ((laws_eqMarkS.F x8 t238).bind fun t241 => (if t241 = true then ((laws_markMarkS.F x8 1).bind fun bt242 => (if bt242.1 < 0 then (laws_FnExactPutMark.J1 x0 x6 x7 x9 true x218000 x218001) else ((laws_eqMarkS.F x9 x6).bind fun t244 => (if t244 = true then (laws_FnExactPutMark.J1 x0 x6 x7 x9 (x10 != x7) x218000 x218001) else (laws_FnExactPutMark.J1 x0 x6 x7 x9 true x218000 x218001))))) else (some false))))) := by
  refine Co.step (laws_FnExactPutMark.J0_co x0 x6 x7 x8 x9 x10 x46 x218000 x218001) (h := fun k => (if x46 = true then (some false) else ((laws_toMarkS.f k x0).bind fun t238 => ((laws_eqMarkS.f k x8 t238).bind fun t241 => (if t241 = true then ((laws_markMarkS.f k x8 1).bind fun bt242 => (if bt242.1 < 0 then (laws_FnExactPutMark.j1 k x0 x6 x7 x9 true x218000 x218001) else ((laws_eqMarkS.f k x9 x6).bind fun t244 => (if t244 = true then (laws_FnExactPutMark.j1 k x0 x6 x7 x9 (x10 != x7) x218000 x218001) else (laws_FnExactPutMark.j1 k x0 x6 x7 x9 true x218000 x218001))))) else (some false)))))) (fun k => by first | rfl | (simp only [laws_FnExactPutMark.j0])) ?_
  repeat' first
    | (with_reducible exact Co.const _)
    | (with_reducible exact laws_FnExactPutMark.J1_co _ _ _ _ _ _ _)
    | (with_reducible exact laws_eqMarkS.F_co _ _)
    | (with_reducible exact laws_markMarkS.F_co _ _)
    | (with_reducible exact laws_toMarkS.F_co _)
    | (with_reducible refine Co.ite ?_ ?_)
    | (with_reducible refine Co.bind ?_ (fun _ => ?_))
theorem laws_FnExactPutMark.J1_eq (x0 : List (S24)) (x6 : List (S30)) (x7 : Bool) (x9 : List (S30)) (x67 : Bool) (x218000 : Int) (x218001 : Int) : laws_FnExactPutMark.J1 x0 x6 x7 x9 x67 x218000 x218001 = (if x67 = true then (some false) else ((laws_markMarkS.F x9 1).bind fun bt245 => ((laws_heldMarkS.F bt245.2 1).bind fun t247 => (if t247 < 0 then (some false) else (if t247 = bt245.1 then ((laws_toMarkS.F x0).bind fun t248 => ((laws_toMark.f x218000 x218001).bind fun bt251 => ((impl_PutMark.F t248 bt251.1 bt251.2).bind fun bt253 => ((laws_eqMarkS.F bt253.1 x6).bind fun t257 => (if t257 = true then (laws_FnExactPutMark.J2 bt245.2 bt245.1 (bt253.2 != x7)) else (laws_FnExactPutMark.J2 bt245.2 bt245.1 true)))))) else (some false)))))) := by
  refine Co.step (laws_FnExactPutMark.J1_co x0 x6 x7 x9 x67 x218000 x218001) (h := fun k => (if x67 = true then (some false) else ((laws_markMarkS.f k x9 1).bind fun bt245 => ((laws_heldMarkS.f k bt245.2 1).bind fun t247 => (if t247 < 0 then (some false) else (if t247 = bt245.1 then ((laws_toMarkS.f k x0).bind fun t248 => ((laws_toMark.f x218000 x218001).bind fun bt251 => ((impl_PutMark.f k t248 bt251.1 bt251.2).bind fun bt253 => ((laws_eqMarkS.f k bt253.1 x6).bind fun t257 => (if t257 = true then (laws_FnExactPutMark.j2 k bt245.2 bt245.1 (bt253.2 != x7)) else (laws_FnExactPutMark.j2 k bt245.2 bt245.1 true)))))) else (some false))))))) (fun k => by first | rfl | (simp only [laws_FnExactPutMark.j1])) ?_
  repeat' first
    | (with_reducible exact Co.const _)
    | (with_reducible exact impl_PutMark.F_co _ _ _)
    | (with_reducible exact laws_FnExactPutMark.J2_co _ _ _)
    | (with_reducible exact laws_eqMarkS.F_co _ _)
    | (with_reducible exact laws_heldMarkS.F_co _ _)
    | (with_reducible exact laws_markMarkS.F_co _ _)
    | (with_reducible exact laws_toMarkS.F_co _)
    | (with_reducible refine Co.ite ?_ ?_)
    | (with_reducible refine Co.bind ?_ (fun _ => ?_))
theorem laws_FnExactPutMark.J2_eq (x9 : List (S30)) (x12 : Int) (x95 : Bool) : laws_FnExactPutMark.J2 x9 x12 x95 = (if x95 = true then (some false) else ((laws_heldMarkS.F x9 1).bind fun t258 => (if t258 < 0 then (some false) else (if t258 = x12 then (some true) else (some false))))) := by
  refine Co.step (laws_FnExactPutMark.J2_co x9 x12 x95) (h := fun k => (if x95 = true then (some false) else ((laws_heldMarkS.f k x9 1).bind fun t258 => (if t258 < 0 then (some false) else (if t258 = x12 then (some true) else (some false)))))) (fun k => by first | rfl | (simp only [laws_FnExactPutMark.j2])) ?_
  repeat' first
    | (with_reducible exact Co.const _)
    | (with_reducible exact laws_heldMarkS.F_co _ _)
    | (with_reducible refine Co.ite ?_ ?_)
    | (with_reducible refine Co.bind ?_ (fun _ => ?_))
theorem laws_FnExactPutMark.F_eq (l0 : List (S24)) (a1_0 : Int) (a1_1 : Int) : laws_FnExactPutMark.F l0 a1_0 a1_1 = ((laws_szMarkS.f l0 1048576).bind fun t218 => (if t218 < 0 then (some true) else ((laws_toMarkS.F l0).bind fun t219 => ((laws_toMark.f a1_0 a1_1).bind fun bt222 => ((spec_PutMark.F t219 bt222.1 bt222.2).bind fun bt224 => ((laws_toMarkS.F l0).bind fun t228 => ((laws_toMark.f a1_0 a1_1).bind fun bt231 => ((impl_PutMark.F t228 bt231.1 bt231.2).bind fun bt233 => ((laws_eqMarkS.F bt233.1 bt224.1).bind fun t237 => (if t237 = true then (laws_FnExactPutMark.J0 l0 bt224.1 bt224.2 t228 bt233.1 bt233.2 (bt233.2 != bt224.2) a1_0 a1_1) else (laws_FnExactPutMark.J0 l0 bt224.1 bt224.2 t228 bt233.1 bt233.2 true a1_0 a1_1))))))))))) := by
  refine Co.same (laws_FnExactPutMark.F_co l0 a1_0 a1_1) (h := fun k => ((laws_szMarkS.f l0 1048576).bind fun t218 => (if t218 < 0 then (some true) else ((laws_toMarkS.f k l0).bind fun t219 => ((laws_toMark.f a1_0 a1_1).bind fun bt222 => ((spec_PutMark.f k t219 bt222.1 bt222.2).bind fun bt224 => ((laws_toMarkS.f k l0).bind fun t228 => ((laws_toMark.f a1_0 a1_1).bind fun bt231 => ((impl_PutMark.f k t228 bt231.1 bt231.2).bind fun bt233 => ((laws_eqMarkS.f k bt233.1 bt224.1).bind fun t237 => (if t237 = true then (laws_FnExactPutMark.j0 k l0 bt224.1 bt224.2 t228 bt233.1 bt233.2 (bt233.2 != bt224.2) a1_0 a1_1) else (laws_FnExactPutMark.j0 k l0 bt224.1 bt224.2 t228 bt233.1 bt233.2 true a1_0 a1_1)))))))))))) (fun k => by first | rfl | unfold laws_FnExactPutMark.f; rfl) ?_
  repeat' first
    | (with_reducible exact Co.const _)
    | (with_reducible exact impl_PutMark.F_co _ _ _)
    | (with_reducible exact laws_FnExactPutMark.J0_co _ _ _ _ _ _ _ _ _)
    | (with_reducible exact laws_eqMarkS.F_co _ _)
    | (with_reducible exact laws_toMarkS.F_co _)
    | (with_reducible exact spec_PutMark.F_co _ _ _)
    | (with_reducible refine Co.ite ?_ ?_)
    | (with_reducible refine Co.bind ?_ (fun _ => ?_))

end Go.Proofs.Ytkfalbaklodnjaa.PFnExactPutMark.Pure
