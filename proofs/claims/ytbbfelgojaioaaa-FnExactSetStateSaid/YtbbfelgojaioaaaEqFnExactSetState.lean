/-
  The printed functions that this law reaches, their rounds used up, and the equations that they meet.
-/
import Derived.Test.YtbbfelgojaioaaaPFnExactSetStatex1
import Derived.Test.YtbbfelgojaioaaaPFnExactSetStatex2
import Derived.Test.YtbbfelgojaioaaaPFnExactSetStatex3
import Derived.Test.YtbbfelgojaioaaaPFnExactSetStatex4
import Derived.Test.YtbbfelgojaioaaaPFnExactSetStatex5
import Derived.Test.YtbbfelgojaioaaaPFnExactSetStatex6
import Derived.Test.YtbbfelgojaioaaaPFnExactSetStatex7
import Derived.Test.YtbbfelgojaioaaaPFnExactSetStatex8
import Derived.Test.YtbbfelgojaioaaaLim
namespace Go.Proofs.Ytbbfelgojaioaaa.PFnExactSetState.Pure
open Go.RowKit Go.Proofs.YtbbfelgojaioaaaW.PrintWords Go.Proofs.YtbbfelgojaioaaaW.PrintLast Go.Proofs.YtbbfelgojaioaaaW.PrintMore Go.Proofs.Ytbbfelgojaioaaa.PFnExactSetState Go.Proofs.Ytbbfelgojaioaaa.Lim
set_option linter.unusedVariables false
set_option maxRecDepth 100000

noncomputable def spec_FindClaim.L0 (x0 : List (S121)) (x1 : Int) (x5 : Int) : Option (Int) := lim (fun k => spec_FindClaim.l0 k x0 x1 x5)
theorem spec_FindClaim.L0_co (x0 : List (S121)) (x1 : Int) (x5 : Int) : Co (fun k => spec_FindClaim.l0 k x0 x1 x5) (spec_FindClaim.L0 x0 x1 x5) := Co.base (fun k => (spec_FindClaim.mono_l k) _ _ _)
noncomputable def spec_FindClaim.F (l0 : List (S121)) (a1 : Int) : Option (Int) := lim (fun k => spec_FindClaim.f k l0 a1)
theorem spec_FindClaim.F_co (l0 : List (S121)) (a1 : Int) : Co (fun k => spec_FindClaim.f k l0 a1) (spec_FindClaim.F l0 a1) := Co.base (fun k => spec_FindClaim.mono _ _ k)
theorem spec_FindClaim.L0_eq (x0 : List (S121)) (x1 : Int) (x5 : Int) : spec_FindClaim.L0 x0 x1 x5 = (if x5 < (x0.length : Int) then (if 0 ≤ x5 then (if ((rd_T121 x0 x5).f0) = x1 then (some x5) else (spec_FindClaim.L0 x0 x1 (wrap64 (x5 + 1)))) else (none)) else (some (-1))) := by
  refine Co.step (spec_FindClaim.L0_co x0 x1 x5) (h := fun k => (if x5 < (x0.length : Int) then (if 0 ≤ x5 then (if ((rd_T121 x0 x5).f0) = x1 then (some x5) else (spec_FindClaim.l0 k x0 x1 (wrap64 (x5 + 1)))) else (none)) else (some (-1)))) (fun k => by first | rfl | (simp only [spec_FindClaim.l0])) ?_
  repeat' first
    | (with_reducible exact Co.const _)
    | (with_reducible exact spec_FindClaim.L0_co _ _ _)
    | (with_reducible refine Co.ite ?_ ?_)
    | (with_reducible refine Co.bind ?_ (fun _ => ?_))
theorem spec_FindClaim.F_eq (l0 : List (S121)) (a1 : Int) : spec_FindClaim.F l0 a1 = (spec_FindClaim.L0 l0 a1 0) := by
  refine Co.same (spec_FindClaim.F_co l0 a1) (h := fun k => (spec_FindClaim.l0 k l0 a1 0)) (fun k => by first | rfl | unfold spec_FindClaim.f; rfl) ?_
  repeat' first
    | (with_reducible exact Co.const _)
    | (with_reducible exact spec_FindClaim.L0_co _ _ _)
    | (with_reducible refine Co.ite ?_ ?_)
    | (with_reducible refine Co.bind ?_ (fun _ => ?_))

noncomputable def spec_AreClaims.L0 (x0 : List (S121)) (x3 : Int) : Option (Bool) := lim (fun k => spec_AreClaims.l0 k x0 x3)
theorem spec_AreClaims.L0_co (x0 : List (S121)) (x3 : Int) : Co (fun k => spec_AreClaims.l0 k x0 x3) (spec_AreClaims.L0 x0 x3) := Co.base (fun k => (spec_AreClaims.mono_l k).1 _ _)
noncomputable def spec_AreClaims.J1 (x0 : List (S121)) (x3 : Int) (x58 : Bool) (x104000 : Int) (x104001 : Int) (x104002 : Int) (x104003 : Int) (x104004 : Int) : Option (Bool) := lim (fun k => spec_AreClaims.j1 k x0 x3 x58 x104000 x104001 x104002 x104003 x104004)
theorem spec_AreClaims.J1_co (x0 : List (S121)) (x3 : Int) (x58 : Bool) (x104000 : Int) (x104001 : Int) (x104002 : Int) (x104003 : Int) (x104004 : Int) : Co (fun k => spec_AreClaims.j1 k x0 x3 x58 x104000 x104001 x104002 x104003 x104004) (spec_AreClaims.J1 x0 x3 x58 x104000 x104001 x104002 x104003 x104004) := Co.base (fun k => (spec_AreClaims.mono_l k).2.1 _ _ _ _ _ _ _ _)
noncomputable def spec_AreClaims.L1 (x0 : List (S121)) (x3 : Int) (x5 : Int) (x104000 : Int) (x104001 : Int) (x104002 : Int) (x104003 : Int) (x104004 : Int) : Option (Bool) := lim (fun k => spec_AreClaims.l1 k x0 x3 x5 x104000 x104001 x104002 x104003 x104004)
theorem spec_AreClaims.L1_co (x0 : List (S121)) (x3 : Int) (x5 : Int) (x104000 : Int) (x104001 : Int) (x104002 : Int) (x104003 : Int) (x104004 : Int) : Co (fun k => spec_AreClaims.l1 k x0 x3 x5 x104000 x104001 x104002 x104003 x104004) (spec_AreClaims.L1 x0 x3 x5 x104000 x104001 x104002 x104003 x104004) := Co.base (fun k => (spec_AreClaims.mono_l k).2.2 _ _ _ _ _ _ _ _)
noncomputable def spec_AreClaims.F (l0 : List (S121)) : Option (Bool) := lim (fun k => spec_AreClaims.f k l0)
theorem spec_AreClaims.F_co (l0 : List (S121)) : Co (fun k => spec_AreClaims.f k l0) (spec_AreClaims.F l0) := Co.base (fun k => spec_AreClaims.mono _ k)
theorem spec_AreClaims.L0_eq (x0 : List (S121)) (x3 : Int) : spec_AreClaims.L0 x0 x3 = (if x3 < (x0.length : Int) then (if 0 ≤ x3 then ((spec_l1In.f ((rd_T121 x0 x3).f0) 1 999).bind fun t104 => (if t104 = true then ((spec_l1In.f ((rd_T121 x0 x3).f1) 1 999).bind fun t105 => (if t105 = true then ((spec_l1In.f ((rd_T121 x0 x3).f2) 1 999).bind fun t106 => (if t106 = true then ((spec_l1In.f ((rd_T121 x0 x3).f3) 0 100000).bind fun t107 => (if t107 = true then ((spec_l1In.f ((rd_T121 x0 x3).f4) 0 3).bind fun t108 => (if t108 = true then (if x3 > 0 then (if 0 ≤ (wrap64 (x3 - 1)) then (if (wrap64 (x3 - 1)) < (x0.length : Int) then (spec_AreClaims.J1 x0 x3 (decide (((rd_T121 x0 (wrap64 (x3 - 1))).f0) ≥ ((rd_T121 x0 x3).f0))) ((rd_T121 x0 x3).f0) ((rd_T121 x0 x3).f1) ((rd_T121 x0 x3).f2) ((rd_T121 x0 x3).f3) ((rd_T121 x0 x3).f4)) else (none)) else (none)) else (spec_AreClaims.J1 x0 x3 false ((rd_T121 x0 x3).f0) ((rd_T121 x0 x3).f1) ((rd_T121 x0 x3).f2) ((rd_T121 x0 x3).f3) ((rd_T121 x0 x3).f4))) else (spec_AreClaims.J1 x0 x3 true ((rd_T121 x0 x3).f0) ((rd_T121 x0 x3).f1) ((rd_T121 x0 x3).f2) ((rd_T121 x0 x3).f3) ((rd_T121 x0 x3).f4)))) else (spec_AreClaims.J1 x0 x3 true ((rd_T121 x0 x3).f0) ((rd_T121 x0 x3).f1) ((rd_T121 x0 x3).f2) ((rd_T121 x0 x3).f3) ((rd_T121 x0 x3).f4)))) else (spec_AreClaims.J1 x0 x3 true ((rd_T121 x0 x3).f0) ((rd_T121 x0 x3).f1) ((rd_T121 x0 x3).f2) ((rd_T121 x0 x3).f3) ((rd_T121 x0 x3).f4)))) else (spec_AreClaims.J1 x0 x3 true ((rd_T121 x0 x3).f0) ((rd_T121 x0 x3).f1) ((rd_T121 x0 x3).f2) ((rd_T121 x0 x3).f3) ((rd_T121 x0 x3).f4)))) else (spec_AreClaims.J1 x0 x3 true ((rd_T121 x0 x3).f0) ((rd_T121 x0 x3).f1) ((rd_T121 x0 x3).f2) ((rd_T121 x0 x3).f3) ((rd_T121 x0 x3).f4)))) else (none)) else (some (decide ((x0.length : Int) ≤ 20)))) := by
  refine Co.step (spec_AreClaims.L0_co x0 x3) (h := fun k => (if x3 < (x0.length : Int) then (if 0 ≤ x3 then ((spec_l1In.f ((rd_T121 x0 x3).f0) 1 999).bind fun t104 => (if t104 = true then ((spec_l1In.f ((rd_T121 x0 x3).f1) 1 999).bind fun t105 => (if t105 = true then ((spec_l1In.f ((rd_T121 x0 x3).f2) 1 999).bind fun t106 => (if t106 = true then ((spec_l1In.f ((rd_T121 x0 x3).f3) 0 100000).bind fun t107 => (if t107 = true then ((spec_l1In.f ((rd_T121 x0 x3).f4) 0 3).bind fun t108 => (if t108 = true then (if x3 > 0 then (if 0 ≤ (wrap64 (x3 - 1)) then (if (wrap64 (x3 - 1)) < (x0.length : Int) then (spec_AreClaims.j1 k x0 x3 (decide (((rd_T121 x0 (wrap64 (x3 - 1))).f0) ≥ ((rd_T121 x0 x3).f0))) ((rd_T121 x0 x3).f0) ((rd_T121 x0 x3).f1) ((rd_T121 x0 x3).f2) ((rd_T121 x0 x3).f3) ((rd_T121 x0 x3).f4)) else (none)) else (none)) else (spec_AreClaims.j1 k x0 x3 false ((rd_T121 x0 x3).f0) ((rd_T121 x0 x3).f1) ((rd_T121 x0 x3).f2) ((rd_T121 x0 x3).f3) ((rd_T121 x0 x3).f4))) else (spec_AreClaims.j1 k x0 x3 true ((rd_T121 x0 x3).f0) ((rd_T121 x0 x3).f1) ((rd_T121 x0 x3).f2) ((rd_T121 x0 x3).f3) ((rd_T121 x0 x3).f4)))) else (spec_AreClaims.j1 k x0 x3 true ((rd_T121 x0 x3).f0) ((rd_T121 x0 x3).f1) ((rd_T121 x0 x3).f2) ((rd_T121 x0 x3).f3) ((rd_T121 x0 x3).f4)))) else (spec_AreClaims.j1 k x0 x3 true ((rd_T121 x0 x3).f0) ((rd_T121 x0 x3).f1) ((rd_T121 x0 x3).f2) ((rd_T121 x0 x3).f3) ((rd_T121 x0 x3).f4)))) else (spec_AreClaims.j1 k x0 x3 true ((rd_T121 x0 x3).f0) ((rd_T121 x0 x3).f1) ((rd_T121 x0 x3).f2) ((rd_T121 x0 x3).f3) ((rd_T121 x0 x3).f4)))) else (spec_AreClaims.j1 k x0 x3 true ((rd_T121 x0 x3).f0) ((rd_T121 x0 x3).f1) ((rd_T121 x0 x3).f2) ((rd_T121 x0 x3).f3) ((rd_T121 x0 x3).f4)))) else (none)) else (some (decide ((x0.length : Int) ≤ 20))))) (fun k => by first | rfl | (simp only [spec_AreClaims.l0])) ?_
  repeat' first
    | (with_reducible exact Co.const _)
    | (with_reducible exact spec_AreClaims.J1_co _ _ _ _ _ _ _ _)
    | (with_reducible refine Co.ite ?_ ?_)
    | (with_reducible refine Co.bind ?_ (fun _ => ?_))
theorem spec_AreClaims.J1_eq (x0 : List (S121)) (x3 : Int) (x58 : Bool) (x104000 : Int) (x104001 : Int) (x104002 : Int) (x104003 : Int) (x104004 : Int) : spec_AreClaims.J1 x0 x3 x58 x104000 x104001 x104002 x104003 x104004 = (if x58 = true then (some false) else (spec_AreClaims.L1 x0 x3 0 x104000 x104001 x104002 x104003 x104004)) := by
  refine Co.step (spec_AreClaims.J1_co x0 x3 x58 x104000 x104001 x104002 x104003 x104004) (h := fun k => (if x58 = true then (some false) else (spec_AreClaims.l1 k x0 x3 0 x104000 x104001 x104002 x104003 x104004))) (fun k => by first | rfl | (simp only [spec_AreClaims.j1])) ?_
  repeat' first
    | (with_reducible exact Co.const _)
    | (with_reducible exact spec_AreClaims.L1_co _ _ _ _ _ _ _ _)
    | (with_reducible refine Co.ite ?_ ?_)
    | (with_reducible refine Co.bind ?_ (fun _ => ?_))
theorem spec_AreClaims.L1_eq (x0 : List (S121)) (x3 : Int) (x5 : Int) (x104000 : Int) (x104001 : Int) (x104002 : Int) (x104003 : Int) (x104004 : Int) : spec_AreClaims.L1 x0 x3 x5 x104000 x104001 x104002 x104003 x104004 = (if x5 < x3 then (if x104004 = 3 then (if 0 ≤ x5 then (if x5 < (x0.length : Int) then (if ((rd_T121 x0 x5).f4) = 3 then (if ((rd_T121 x0 x5).f2) = x104002 then (some false) else (spec_AreClaims.L1 x0 x3 (wrap64 (x5 + 1)) x104000 x104001 x104002 x104003 x104004)) else (spec_AreClaims.L1 x0 x3 (wrap64 (x5 + 1)) x104000 x104001 x104002 x104003 x104004)) else (none)) else (none)) else (spec_AreClaims.L1 x0 x3 (wrap64 (x5 + 1)) x104000 x104001 x104002 x104003 x104004)) else (spec_AreClaims.L0 x0 (wrap64 (x3 + 1)))) := by
  refine Co.step (spec_AreClaims.L1_co x0 x3 x5 x104000 x104001 x104002 x104003 x104004) (h := fun k => (if x5 < x3 then (if x104004 = 3 then (if 0 ≤ x5 then (if x5 < (x0.length : Int) then (if ((rd_T121 x0 x5).f4) = 3 then (if ((rd_T121 x0 x5).f2) = x104002 then (some false) else (spec_AreClaims.l1 k x0 x3 (wrap64 (x5 + 1)) x104000 x104001 x104002 x104003 x104004)) else (spec_AreClaims.l1 k x0 x3 (wrap64 (x5 + 1)) x104000 x104001 x104002 x104003 x104004)) else (none)) else (none)) else (spec_AreClaims.l1 k x0 x3 (wrap64 (x5 + 1)) x104000 x104001 x104002 x104003 x104004)) else (spec_AreClaims.l0 k x0 (wrap64 (x3 + 1))))) (fun k => by first | rfl | (simp only [spec_AreClaims.l1])) ?_
  repeat' first
    | (with_reducible exact Co.const _)
    | (with_reducible exact spec_AreClaims.L0_co _ _)
    | (with_reducible exact spec_AreClaims.L1_co _ _ _ _ _ _ _ _)
    | (with_reducible refine Co.ite ?_ ?_)
    | (with_reducible refine Co.bind ?_ (fun _ => ?_))
theorem spec_AreClaims.F_eq (l0 : List (S121)) : spec_AreClaims.F l0 = (spec_AreClaims.L0 l0 0) := by
  refine Co.same (spec_AreClaims.F_co l0) (h := fun k => (spec_AreClaims.l0 k l0 0)) (fun k => by first | rfl | unfold spec_AreClaims.f; rfl) ?_
  repeat' first
    | (with_reducible exact Co.const _)
    | (with_reducible exact spec_AreClaims.L0_co _ _)
    | (with_reducible refine Co.ite ?_ ?_)
    | (with_reducible refine Co.bind ?_ (fun _ => ?_))

noncomputable def spec_SetState.J0 (x0 : List (S121)) (x2 : Int) (x8 : List (S121)) (x9 : Int) (x24 : Bool) : Option ((List (S121)) × Bool) := lim (fun k => spec_SetState.j0 k x0 x2 x8 x9 x24)
theorem spec_SetState.J0_co (x0 : List (S121)) (x2 : Int) (x8 : List (S121)) (x9 : Int) (x24 : Bool) : Co (fun k => spec_SetState.j0 k x0 x2 x8 x9 x24) (spec_SetState.J0 x0 x2 x8 x9 x24) := Co.base (fun k => (spec_SetState.mono_l k) _ _ _ _ _)
noncomputable def spec_SetState.F (l0 : List (S121)) (a1 : Int) (a2 : Int) : Option ((List (S121)) × Bool) := lim (fun k => spec_SetState.f k l0 a1 a2)
theorem spec_SetState.F_co (l0 : List (S121)) (a1 : Int) (a2 : Int) : Co (fun k => spec_SetState.f k l0 a1 a2) (spec_SetState.F l0 a1 a2) := Co.base (fun k => spec_SetState.mono _ _ _ k)
theorem spec_SetState.J0_eq (x0 : List (S121)) (x2 : Int) (x8 : List (S121)) (x9 : Int) (x24 : Bool) : spec_SetState.J0 x0 x2 x8 x9 x24 = (if x24 = true then (some (x8, false)) else (if 0 ≤ x9 then (if x9 < (x0.length : Int) then (if ((rd_T121 x0 x9).f4) = 0 then (if x2 = 1 then (if x9 < (x8.length : Int) then ((some (x8.set (x9 : Int).toNat (⟨(rd_T121 x8 x9).f0, (rd_T121 x8 x9).f1, (rd_T121 x8 x9).f2, (rd_T121 x8 x9).f3, x2⟩ : S121) : List (S121))).bind fun y121 => ((spec_AreClaims.F y121).bind fun t122 => (if t122 = true then (some (y121, true)) else ((some (([] : List (S121)) : List (S121))).bind fun y123 => (if y123.length + x0.length < 3518437208883 then (some ((y123 ++ x0), false)) else (none)))))) else (none)) else (if x2 = 2 then (if x9 < (x8.length : Int) then ((some (x8.set (x9 : Int).toNat (⟨(rd_T121 x8 x9).f0, (rd_T121 x8 x9).f1, (rd_T121 x8 x9).f2, (rd_T121 x8 x9).f3, x2⟩ : S121) : List (S121))).bind fun y129 => ((spec_AreClaims.F y129).bind fun t130 => (if t130 = true then (some (y129, true)) else ((some (([] : List (S121)) : List (S121))).bind fun y131 => (if y131.length + x0.length < 3518437208883 then (some ((y131 ++ x0), false)) else (none)))))) else (none)) else (if ((rd_T121 x0 x9).f4) = 1 then (if x9 < (x8.length : Int) then ((some (x8.set (x9 : Int).toNat (⟨(rd_T121 x8 x9).f0, (rd_T121 x8 x9).f1, (rd_T121 x8 x9).f2, (rd_T121 x8 x9).f3, x2⟩ : S121) : List (S121))).bind fun y137 => (if x2 = 3 then ((spec_AreClaims.F y137).bind fun t138 => (if t138 = true then (some (y137, true)) else ((some (([] : List (S121)) : List (S121))).bind fun y139 => (if y139.length + x0.length < 3518437208883 then (some ((y139 ++ x0), false)) else (none))))) else ((some (([] : List (S121)) : List (S121))).bind fun y145 => (if y145.length + x0.length < 3518437208883 then (some ((y145 ++ x0), false)) else (none))))) else (none)) else (if x9 < (x8.length : Int) then ((some (([] : List (S121)) : List (S121))).bind fun y152 => (if y152.length + x0.length < 3518437208883 then (some ((y152 ++ x0), false)) else (none))) else (none))))) else (if ((rd_T121 x0 x9).f4) = 1 then (if x9 < (x8.length : Int) then ((some (x8.set (x9 : Int).toNat (⟨(rd_T121 x8 x9).f0, (rd_T121 x8 x9).f1, (rd_T121 x8 x9).f2, (rd_T121 x8 x9).f3, x2⟩ : S121) : List (S121))).bind fun y158 => (if x2 = 3 then ((spec_AreClaims.F y158).bind fun t159 => (if t159 = true then (some (y158, true)) else ((some (([] : List (S121)) : List (S121))).bind fun y160 => (if y160.length + x0.length < 3518437208883 then (some ((y160 ++ x0), false)) else (none))))) else ((some (([] : List (S121)) : List (S121))).bind fun y166 => (if y166.length + x0.length < 3518437208883 then (some ((y166 ++ x0), false)) else (none))))) else (none)) else (if x9 < (x8.length : Int) then ((some (([] : List (S121)) : List (S121))).bind fun y173 => (if y173.length + x0.length < 3518437208883 then (some ((y173 ++ x0), false)) else (none))) else (none)))) else (none)) else (none))) := by
  refine Co.step (spec_SetState.J0_co x0 x2 x8 x9 x24) (h := fun k => (if x24 = true then (some (x8, false)) else (if 0 ≤ x9 then (if x9 < (x0.length : Int) then (if ((rd_T121 x0 x9).f4) = 0 then (if x2 = 1 then (if x9 < (x8.length : Int) then ((some (x8.set (x9 : Int).toNat (⟨(rd_T121 x8 x9).f0, (rd_T121 x8 x9).f1, (rd_T121 x8 x9).f2, (rd_T121 x8 x9).f3, x2⟩ : S121) : List (S121))).bind fun y121 => ((spec_AreClaims.f k y121).bind fun t122 => (if t122 = true then (some (y121, true)) else ((some (([] : List (S121)) : List (S121))).bind fun y123 => (if y123.length + x0.length < 3518437208883 then (some ((y123 ++ x0), false)) else (none)))))) else (none)) else (if x2 = 2 then (if x9 < (x8.length : Int) then ((some (x8.set (x9 : Int).toNat (⟨(rd_T121 x8 x9).f0, (rd_T121 x8 x9).f1, (rd_T121 x8 x9).f2, (rd_T121 x8 x9).f3, x2⟩ : S121) : List (S121))).bind fun y129 => ((spec_AreClaims.f k y129).bind fun t130 => (if t130 = true then (some (y129, true)) else ((some (([] : List (S121)) : List (S121))).bind fun y131 => (if y131.length + x0.length < 3518437208883 then (some ((y131 ++ x0), false)) else (none)))))) else (none)) else (if ((rd_T121 x0 x9).f4) = 1 then (if x9 < (x8.length : Int) then ((some (x8.set (x9 : Int).toNat (⟨(rd_T121 x8 x9).f0, (rd_T121 x8 x9).f1, (rd_T121 x8 x9).f2, (rd_T121 x8 x9).f3, x2⟩ : S121) : List (S121))).bind fun y137 => (if x2 = 3 then ((spec_AreClaims.f k y137).bind fun t138 => (if t138 = true then (some (y137, true)) else ((some (([] : List (S121)) : List (S121))).bind fun y139 => (if y139.length + x0.length < 3518437208883 then (some ((y139 ++ x0), false)) else (none))))) else ((some (([] : List (S121)) : List (S121))).bind fun y145 => (if y145.length + x0.length < 3518437208883 then (some ((y145 ++ x0), false)) else (none))))) else (none)) else (if x9 < (x8.length : Int) then ((some (([] : List (S121)) : List (S121))).bind fun y152 => (if y152.length + x0.length < 3518437208883 then (some ((y152 ++ x0), false)) else (none))) else (none))))) else (if ((rd_T121 x0 x9).f4) = 1 then (if x9 < (x8.length : Int) then ((some (x8.set (x9 : Int).toNat (⟨(rd_T121 x8 x9).f0, (rd_T121 x8 x9).f1, (rd_T121 x8 x9).f2, (rd_T121 x8 x9).f3, x2⟩ : S121) : List (S121))).bind fun y158 => (if x2 = 3 then ((spec_AreClaims.f k y158).bind fun t159 => (if t159 = true then (some (y158, true)) else ((some (([] : List (S121)) : List (S121))).bind fun y160 => (if y160.length + x0.length < 3518437208883 then (some ((y160 ++ x0), false)) else (none))))) else ((some (([] : List (S121)) : List (S121))).bind fun y166 => (if y166.length + x0.length < 3518437208883 then (some ((y166 ++ x0), false)) else (none))))) else (none)) else (if x9 < (x8.length : Int) then ((some (([] : List (S121)) : List (S121))).bind fun y173 => (if y173.length + x0.length < 3518437208883 then (some ((y173 ++ x0), false)) else (none))) else (none)))) else (none)) else (none)))) (fun k => by first | rfl | (simp only [spec_SetState.j0])) ?_
  repeat' first
    | (with_reducible exact Co.const _)
    | (with_reducible exact spec_AreClaims.F_co _)
    | (with_reducible refine Co.ite ?_ ?_)
    | (with_reducible refine Co.bind ?_ (fun _ => ?_))
theorem spec_SetState.F_eq (l0 : List (S121)) (a1 : Int) (a2 : Int) : spec_SetState.F l0 a1 a2 = ((some (([] : List (S121)) : List (S121))).bind fun y112 => (if y112.length + l0.length < 3518437208883 then ((some (y112 ++ l0 : List (S121))).bind fun y115 => ((spec_FindClaim.F l0 a1).bind fun t118 => (if t118 < 0 then (spec_SetState.J0 l0 a2 y115 t118 true) else ((spec_AreClaims.F l0).bind fun t119 => (spec_SetState.J0 l0 a2 y115 t118 (!t119)))))) else (none))) := by
  refine Co.same (spec_SetState.F_co l0 a1 a2) (h := fun k => ((some (([] : List (S121)) : List (S121))).bind fun y112 => (if y112.length + l0.length < 3518437208883 then ((some (y112 ++ l0 : List (S121))).bind fun y115 => ((spec_FindClaim.f k l0 a1).bind fun t118 => (if t118 < 0 then (spec_SetState.j0 k l0 a2 y115 t118 true) else ((spec_AreClaims.f k l0).bind fun t119 => (spec_SetState.j0 k l0 a2 y115 t118 (!t119)))))) else (none)))) (fun k => by first | rfl | unfold spec_SetState.f; rfl) ?_
  repeat' first
    | (with_reducible exact Co.const _)
    | (with_reducible exact spec_AreClaims.F_co _)
    | (with_reducible exact spec_FindClaim.F_co _ _)
    | (with_reducible exact spec_SetState.J0_co _ _ _ _ _)
    | (with_reducible refine Co.ite ?_ ?_)
    | (with_reducible refine Co.bind ?_ (fun _ => ?_))

noncomputable def laws_toClaimS.L0 (x0 : List (S123)) (x3 : List (S121)) (x4 : Int) : Option ((List (S121))) := lim (fun k => laws_toClaimS.l0 k x0 x3 x4)
theorem laws_toClaimS.L0_co (x0 : List (S123)) (x3 : List (S121)) (x4 : Int) : Co (fun k => laws_toClaimS.l0 k x0 x3 x4) (laws_toClaimS.L0 x0 x3 x4) := Co.base (fun k => (laws_toClaimS.mono_l k) _ _ _)
noncomputable def laws_toClaimS.F (l0 : List (S123)) : Option ((List (S121))) := lim (fun k => laws_toClaimS.f k l0)
theorem laws_toClaimS.F_co (l0 : List (S123)) : Co (fun k => laws_toClaimS.f k l0) (laws_toClaimS.F l0) := Co.base (fun k => laws_toClaimS.mono _ k)
theorem laws_toClaimS.L0_eq (x0 : List (S123)) (x3 : List (S121)) (x4 : Int) : laws_toClaimS.L0 x0 x3 x4 = (if x4 < (x0.length : Int) then (if 0 ≤ x4 then ((laws_toClaim.f ((rd_T123 x0 x4).f0) ((rd_T123 x0 x4).f1) ((rd_T123 x0 x4).f2) ((rd_T123 x0 x4).f3) ((rd_T123 x0 x4).f4)).bind fun bt186 => (if x4 < (x3.length : Int) then (laws_toClaimS.L0 x0 (x3.set (x4 : Int).toNat (⟨bt186.1, bt186.2.1, bt186.2.2.1, bt186.2.2.2.1, bt186.2.2.2.2⟩ : S121)) (wrap64 (x4 + 1))) else (none))) else (none)) else (some x3)) := by
  refine Co.step (laws_toClaimS.L0_co x0 x3 x4) (h := fun k => (if x4 < (x0.length : Int) then (if 0 ≤ x4 then ((laws_toClaim.f ((rd_T123 x0 x4).f0) ((rd_T123 x0 x4).f1) ((rd_T123 x0 x4).f2) ((rd_T123 x0 x4).f3) ((rd_T123 x0 x4).f4)).bind fun bt186 => (if x4 < (x3.length : Int) then (laws_toClaimS.l0 k x0 (x3.set (x4 : Int).toNat (⟨bt186.1, bt186.2.1, bt186.2.2.1, bt186.2.2.2.1, bt186.2.2.2.2⟩ : S121)) (wrap64 (x4 + 1))) else (none))) else (none)) else (some x3))) (fun k => by first | rfl | (simp only [laws_toClaimS.l0])) ?_
  repeat' first
    | (with_reducible exact Co.const _)
    | (with_reducible exact laws_toClaimS.L0_co _ _ _)
    | (with_reducible refine Co.ite ?_ ?_)
    | (with_reducible refine Co.bind ?_ (fun _ => ?_))
theorem laws_toClaimS.F_eq (l0 : List (S123)) : laws_toClaimS.F l0 = (if 0 ≤ (l0.length : Int) then (if ((l0.length : Int) : Int).toNat ≤ 7036874417766 then (laws_toClaimS.L0 l0 (List.replicate ((l0.length : Int) : Int).toNat z121) 0) else (none)) else (none)) := by
  refine Co.same (laws_toClaimS.F_co l0) (h := fun k => (if 0 ≤ (l0.length : Int) then (if ((l0.length : Int) : Int).toNat ≤ 7036874417766 then (laws_toClaimS.l0 k l0 (List.replicate ((l0.length : Int) : Int).toNat z121) 0) else (none)) else (none))) (fun k => by first | rfl | unfold laws_toClaimS.f; rfl) ?_
  repeat' first
    | (with_reducible exact Co.const _)
    | (with_reducible exact laws_toClaimS.L0_co _ _ _)
    | (with_reducible refine Co.ite ?_ ?_)
    | (with_reducible refine Co.bind ?_ (fun _ => ?_))

noncomputable def impl_AreClaims.L0 (x0 : List (S121)) (x10 : List (S121)) (x11 : Int) (x12 : Int) : Option (Bool) := lim (fun k => impl_AreClaims.l0 k x0 x10 x11 x12)
theorem impl_AreClaims.L0_co (x0 : List (S121)) (x10 : List (S121)) (x11 : Int) (x12 : Int) : Co (fun k => impl_AreClaims.l0 k x0 x10 x11 x12) (impl_AreClaims.L0 x0 x10 x11 x12) := Co.base (fun k => (impl_AreClaims.mono_l k).1 _ _ _ _)
noncomputable def impl_AreClaims.J1 (x0 : List (S121)) (x3 : Int) (x10 : List (S121)) (x11 : Int) (x12 : Int) (x59 : Bool) (x200000 : Int) (x200001 : Int) (x200002 : Int) (x200003 : Int) (x200004 : Int) : Option (Bool) := lim (fun k => impl_AreClaims.j1 k x0 x3 x10 x11 x12 x59 x200000 x200001 x200002 x200003 x200004)
theorem impl_AreClaims.J1_co (x0 : List (S121)) (x3 : Int) (x10 : List (S121)) (x11 : Int) (x12 : Int) (x59 : Bool) (x200000 : Int) (x200001 : Int) (x200002 : Int) (x200003 : Int) (x200004 : Int) : Co (fun k => impl_AreClaims.j1 k x0 x3 x10 x11 x12 x59 x200000 x200001 x200002 x200003 x200004) (impl_AreClaims.J1 x0 x3 x10 x11 x12 x59 x200000 x200001 x200002 x200003 x200004) := Co.base (fun k => (impl_AreClaims.mono_l k).2.1 _ _ _ _ _ _ _ _ _ _ _)
noncomputable def impl_AreClaims.L1 (x0 : List (S121)) (x10 : List (S121)) (x11 : Int) (x12 : Int) (x62 : List (S121)) (x63 : Int) (x64 : Int) (x200000 : Int) (x200001 : Int) (x200002 : Int) (x200003 : Int) (x200004 : Int) : Option (Bool) := lim (fun k => impl_AreClaims.l1 k x0 x10 x11 x12 x62 x63 x64 x200000 x200001 x200002 x200003 x200004)
theorem impl_AreClaims.L1_co (x0 : List (S121)) (x10 : List (S121)) (x11 : Int) (x12 : Int) (x62 : List (S121)) (x63 : Int) (x64 : Int) (x200000 : Int) (x200001 : Int) (x200002 : Int) (x200003 : Int) (x200004 : Int) : Co (fun k => impl_AreClaims.l1 k x0 x10 x11 x12 x62 x63 x64 x200000 x200001 x200002 x200003 x200004) (impl_AreClaims.L1 x0 x10 x11 x12 x62 x63 x64 x200000 x200001 x200002 x200003 x200004) := Co.base (fun k => (impl_AreClaims.mono_l k).2.2 _ _ _ _ _ _ _ _ _ _ _ _)
noncomputable def impl_AreClaims.F (l0 : List (S121)) : Option (Bool) := lim (fun k => impl_AreClaims.f k l0)
theorem impl_AreClaims.F_co (l0 : List (S121)) : Co (fun k => impl_AreClaims.f k l0) (impl_AreClaims.F l0) := Co.base (fun k => impl_AreClaims.mono _ k)
theorem impl_AreClaims.L0_eq (x0 : List (S121)) (x10 : List (S121)) (x11 : Int) (x12 : Int) : impl_AreClaims.L0 x0 x10 x11 x12 = (if x12 < x11 then (if 0 ≤ x12 then (if x12 < (x10.length : Int) then ((impl_InRange.f ((rd_T121 x10 x12).f0) 1 999).bind fun t200 => (if t200 = true then (if x12 > 0 then (if 0 ≤ (wrap64 (x12 - 1)) then (if (wrap64 (x12 - 1)) < (x0.length : Int) then (if ((rd_T121 x10 x12).f0) ≤ ((rd_T121 x0 (wrap64 (x12 - 1))).f0) then (impl_AreClaims.J1 x0 x12 x10 x11 x12 true ((rd_T121 x10 x12).f0) ((rd_T121 x10 x12).f1) ((rd_T121 x10 x12).f2) ((rd_T121 x10 x12).f3) ((rd_T121 x10 x12).f4)) else ((impl_InRange.f ((rd_T121 x10 x12).f1) 1 999).bind fun t202 => (if t202 = true then ((impl_InRange.f ((rd_T121 x10 x12).f2) 1 999).bind fun t203 => (if t203 = true then ((impl_InRange.f ((rd_T121 x10 x12).f3) 0 100000).bind fun t204 => (if t204 = true then ((impl_InRange.f ((rd_T121 x10 x12).f4) 0 3).bind fun t205 => (impl_AreClaims.J1 x0 x12 x10 x11 x12 (!t205) ((rd_T121 x10 x12).f0) ((rd_T121 x10 x12).f1) ((rd_T121 x10 x12).f2) ((rd_T121 x10 x12).f3) ((rd_T121 x10 x12).f4))) else (impl_AreClaims.J1 x0 x12 x10 x11 x12 true ((rd_T121 x10 x12).f0) ((rd_T121 x10 x12).f1) ((rd_T121 x10 x12).f2) ((rd_T121 x10 x12).f3) ((rd_T121 x10 x12).f4)))) else (impl_AreClaims.J1 x0 x12 x10 x11 x12 true ((rd_T121 x10 x12).f0) ((rd_T121 x10 x12).f1) ((rd_T121 x10 x12).f2) ((rd_T121 x10 x12).f3) ((rd_T121 x10 x12).f4)))) else (impl_AreClaims.J1 x0 x12 x10 x11 x12 true ((rd_T121 x10 x12).f0) ((rd_T121 x10 x12).f1) ((rd_T121 x10 x12).f2) ((rd_T121 x10 x12).f3) ((rd_T121 x10 x12).f4))))) else (none)) else (none)) else ((impl_InRange.f ((rd_T121 x10 x12).f1) 1 999).bind fun t206 => (if t206 = true then ((impl_InRange.f ((rd_T121 x10 x12).f2) 1 999).bind fun t207 => (if t207 = true then ((impl_InRange.f ((rd_T121 x10 x12).f3) 0 100000).bind fun t208 => (if t208 = true then ((impl_InRange.f ((rd_T121 x10 x12).f4) 0 3).bind fun t209 => (impl_AreClaims.J1 x0 x12 x10 x11 x12 (!t209) ((rd_T121 x10 x12).f0) ((rd_T121 x10 x12).f1) ((rd_T121 x10 x12).f2) ((rd_T121 x10 x12).f3) ((rd_T121 x10 x12).f4))) else (impl_AreClaims.J1 x0 x12 x10 x11 x12 true ((rd_T121 x10 x12).f0) ((rd_T121 x10 x12).f1) ((rd_T121 x10 x12).f2) ((rd_T121 x10 x12).f3) ((rd_T121 x10 x12).f4)))) else (impl_AreClaims.J1 x0 x12 x10 x11 x12 true ((rd_T121 x10 x12).f0) ((rd_T121 x10 x12).f1) ((rd_T121 x10 x12).f2) ((rd_T121 x10 x12).f3) ((rd_T121 x10 x12).f4)))) else (impl_AreClaims.J1 x0 x12 x10 x11 x12 true ((rd_T121 x10 x12).f0) ((rd_T121 x10 x12).f1) ((rd_T121 x10 x12).f2) ((rd_T121 x10 x12).f3) ((rd_T121 x10 x12).f4))))) else (impl_AreClaims.J1 x0 x12 x10 x11 x12 true ((rd_T121 x10 x12).f0) ((rd_T121 x10 x12).f1) ((rd_T121 x10 x12).f2) ((rd_T121 x10 x12).f3) ((rd_T121 x10 x12).f4)))) else (none)) else (none)) else (some true)) := by
  refine Co.step (impl_AreClaims.L0_co x0 x10 x11 x12) (h := fun k => (if x12 < x11 then (if 0 ≤ x12 then (if x12 < (x10.length : Int) then ((impl_InRange.f ((rd_T121 x10 x12).f0) 1 999).bind fun t200 => (if t200 = true then (if x12 > 0 then (if 0 ≤ (wrap64 (x12 - 1)) then (if (wrap64 (x12 - 1)) < (x0.length : Int) then (if ((rd_T121 x10 x12).f0) ≤ ((rd_T121 x0 (wrap64 (x12 - 1))).f0) then (impl_AreClaims.j1 k x0 x12 x10 x11 x12 true ((rd_T121 x10 x12).f0) ((rd_T121 x10 x12).f1) ((rd_T121 x10 x12).f2) ((rd_T121 x10 x12).f3) ((rd_T121 x10 x12).f4)) else ((impl_InRange.f ((rd_T121 x10 x12).f1) 1 999).bind fun t202 => (if t202 = true then ((impl_InRange.f ((rd_T121 x10 x12).f2) 1 999).bind fun t203 => (if t203 = true then ((impl_InRange.f ((rd_T121 x10 x12).f3) 0 100000).bind fun t204 => (if t204 = true then ((impl_InRange.f ((rd_T121 x10 x12).f4) 0 3).bind fun t205 => (impl_AreClaims.j1 k x0 x12 x10 x11 x12 (!t205) ((rd_T121 x10 x12).f0) ((rd_T121 x10 x12).f1) ((rd_T121 x10 x12).f2) ((rd_T121 x10 x12).f3) ((rd_T121 x10 x12).f4))) else (impl_AreClaims.j1 k x0 x12 x10 x11 x12 true ((rd_T121 x10 x12).f0) ((rd_T121 x10 x12).f1) ((rd_T121 x10 x12).f2) ((rd_T121 x10 x12).f3) ((rd_T121 x10 x12).f4)))) else (impl_AreClaims.j1 k x0 x12 x10 x11 x12 true ((rd_T121 x10 x12).f0) ((rd_T121 x10 x12).f1) ((rd_T121 x10 x12).f2) ((rd_T121 x10 x12).f3) ((rd_T121 x10 x12).f4)))) else (impl_AreClaims.j1 k x0 x12 x10 x11 x12 true ((rd_T121 x10 x12).f0) ((rd_T121 x10 x12).f1) ((rd_T121 x10 x12).f2) ((rd_T121 x10 x12).f3) ((rd_T121 x10 x12).f4))))) else (none)) else (none)) else ((impl_InRange.f ((rd_T121 x10 x12).f1) 1 999).bind fun t206 => (if t206 = true then ((impl_InRange.f ((rd_T121 x10 x12).f2) 1 999).bind fun t207 => (if t207 = true then ((impl_InRange.f ((rd_T121 x10 x12).f3) 0 100000).bind fun t208 => (if t208 = true then ((impl_InRange.f ((rd_T121 x10 x12).f4) 0 3).bind fun t209 => (impl_AreClaims.j1 k x0 x12 x10 x11 x12 (!t209) ((rd_T121 x10 x12).f0) ((rd_T121 x10 x12).f1) ((rd_T121 x10 x12).f2) ((rd_T121 x10 x12).f3) ((rd_T121 x10 x12).f4))) else (impl_AreClaims.j1 k x0 x12 x10 x11 x12 true ((rd_T121 x10 x12).f0) ((rd_T121 x10 x12).f1) ((rd_T121 x10 x12).f2) ((rd_T121 x10 x12).f3) ((rd_T121 x10 x12).f4)))) else (impl_AreClaims.j1 k x0 x12 x10 x11 x12 true ((rd_T121 x10 x12).f0) ((rd_T121 x10 x12).f1) ((rd_T121 x10 x12).f2) ((rd_T121 x10 x12).f3) ((rd_T121 x10 x12).f4)))) else (impl_AreClaims.j1 k x0 x12 x10 x11 x12 true ((rd_T121 x10 x12).f0) ((rd_T121 x10 x12).f1) ((rd_T121 x10 x12).f2) ((rd_T121 x10 x12).f3) ((rd_T121 x10 x12).f4))))) else (impl_AreClaims.j1 k x0 x12 x10 x11 x12 true ((rd_T121 x10 x12).f0) ((rd_T121 x10 x12).f1) ((rd_T121 x10 x12).f2) ((rd_T121 x10 x12).f3) ((rd_T121 x10 x12).f4)))) else (none)) else (none)) else (some true))) (fun k => by first | rfl | (simp only [impl_AreClaims.l0])) ?_
  repeat' first
    | (with_reducible exact Co.const _)
    | (with_reducible exact impl_AreClaims.J1_co _ _ _ _ _ _ _ _ _ _ _)
    | (with_reducible refine Co.ite ?_ ?_)
    | (with_reducible refine Co.bind ?_ (fun _ => ?_))
theorem impl_AreClaims.J1_eq (x0 : List (S121)) (x3 : Int) (x10 : List (S121)) (x11 : Int) (x12 : Int) (x59 : Bool) (x200000 : Int) (x200001 : Int) (x200002 : Int) (x200003 : Int) (x200004 : Int) : impl_AreClaims.J1 x0 x3 x10 x11 x12 x59 x200000 x200001 x200002 x200003 x200004 = (if x59 = true then (some false) else (if 0 ≤ x3 then (if x3 ≤ (x0.length : Int) then ((some (x0.take (x3 : Int).toNat : List (S121))).bind fun y210 => (impl_AreClaims.L1 x0 x10 x11 x12 y210 (y210.length : Int) 0 x200000 x200001 x200002 x200003 x200004)) else (none)) else (none))) := by
  refine Co.step (impl_AreClaims.J1_co x0 x3 x10 x11 x12 x59 x200000 x200001 x200002 x200003 x200004) (h := fun k => (if x59 = true then (some false) else (if 0 ≤ x3 then (if x3 ≤ (x0.length : Int) then ((some (x0.take (x3 : Int).toNat : List (S121))).bind fun y210 => (impl_AreClaims.l1 k x0 x10 x11 x12 y210 (y210.length : Int) 0 x200000 x200001 x200002 x200003 x200004)) else (none)) else (none)))) (fun k => by first | rfl | (simp only [impl_AreClaims.j1])) ?_
  repeat' first
    | (with_reducible exact Co.const _)
    | (with_reducible exact impl_AreClaims.L1_co _ _ _ _ _ _ _ _ _ _ _ _)
    | (with_reducible refine Co.ite ?_ ?_)
    | (with_reducible refine Co.bind ?_ (fun _ => ?_))
theorem impl_AreClaims.L1_eq (x0 : List (S121)) (x10 : List (S121)) (x11 : Int) (x12 : Int) (x62 : List (S121)) (x63 : Int) (x64 : Int) (x200000 : Int) (x200001 : Int) (x200002 : Int) (x200003 : Int) (x200004 : Int) : impl_AreClaims.L1 x0 x10 x11 x12 x62 x63 x64 x200000 x200001 x200002 x200003 x200004 = (if x64 < x63 then (if 0 ≤ x64 then (if x64 < (x62.length : Int) then (if x200004 = 3 then (if ((rd_T121 x62 x64).f4) = 3 then (if x200002 = ((rd_T121 x62 x64).f2) then (some false) else (impl_AreClaims.L1 x0 x10 x11 x12 x62 x63 (wrap64 (x64 + 1)) x200000 x200001 x200002 x200003 x200004)) else (impl_AreClaims.L1 x0 x10 x11 x12 x62 x63 (wrap64 (x64 + 1)) x200000 x200001 x200002 x200003 x200004)) else (impl_AreClaims.L1 x0 x10 x11 x12 x62 x63 (wrap64 (x64 + 1)) x200000 x200001 x200002 x200003 x200004)) else (none)) else (none)) else (impl_AreClaims.L0 x0 x10 x11 (wrap64 (x12 + 1)))) := by
  refine Co.step (impl_AreClaims.L1_co x0 x10 x11 x12 x62 x63 x64 x200000 x200001 x200002 x200003 x200004) (h := fun k => (if x64 < x63 then (if 0 ≤ x64 then (if x64 < (x62.length : Int) then (if x200004 = 3 then (if ((rd_T121 x62 x64).f4) = 3 then (if x200002 = ((rd_T121 x62 x64).f2) then (some false) else (impl_AreClaims.l1 k x0 x10 x11 x12 x62 x63 (wrap64 (x64 + 1)) x200000 x200001 x200002 x200003 x200004)) else (impl_AreClaims.l1 k x0 x10 x11 x12 x62 x63 (wrap64 (x64 + 1)) x200000 x200001 x200002 x200003 x200004)) else (impl_AreClaims.l1 k x0 x10 x11 x12 x62 x63 (wrap64 (x64 + 1)) x200000 x200001 x200002 x200003 x200004)) else (none)) else (none)) else (impl_AreClaims.l0 k x0 x10 x11 (wrap64 (x12 + 1))))) (fun k => by first | rfl | (simp only [impl_AreClaims.l1])) ?_
  repeat' first
    | (with_reducible exact Co.const _)
    | (with_reducible exact impl_AreClaims.L0_co _ _ _ _)
    | (with_reducible exact impl_AreClaims.L1_co _ _ _ _ _ _ _ _ _ _ _ _)
    | (with_reducible refine Co.ite ?_ ?_)
    | (with_reducible refine Co.bind ?_ (fun _ => ?_))
theorem impl_AreClaims.F_eq (l0 : List (S121)) : impl_AreClaims.F l0 = (if (l0.length : Int) > 20 then (some false) else (impl_AreClaims.L0 l0 l0 (l0.length : Int) 0)) := by
  refine Co.same (impl_AreClaims.F_co l0) (h := fun k => (if (l0.length : Int) > 20 then (some false) else (impl_AreClaims.l0 k l0 l0 (l0.length : Int) 0))) (fun k => by first | rfl | unfold impl_AreClaims.f; rfl) ?_
  repeat' first
    | (with_reducible exact Co.const _)
    | (with_reducible exact impl_AreClaims.L0_co _ _ _ _)
    | (with_reducible refine Co.ite ?_ ?_)
    | (with_reducible refine Co.bind ?_ (fun _ => ?_))

noncomputable def impl_SetState.J0 (x0 : List (S121)) (x2 : Int) (x8 : List (S121)) (x9 : Int) (x22 : Bool) : Option ((List (S121)) × Bool) := lim (fun k => impl_SetState.j0 k x0 x2 x8 x9 x22)
theorem impl_SetState.J0_co (x0 : List (S121)) (x2 : Int) (x8 : List (S121)) (x9 : Int) (x22 : Bool) : Co (fun k => impl_SetState.j0 k x0 x2 x8 x9 x22) (impl_SetState.J0 x0 x2 x8 x9 x22) := Co.base (fun k => (impl_SetState.mono_l k).1 _ _ _ _ _)
noncomputable def impl_SetState.J1 (x0 : List (S121)) (x2 : Int) (x8 : List (S121)) (x9 : Int) (x47 : Bool) : Option ((List (S121)) × Bool) := lim (fun k => impl_SetState.j1 k x0 x2 x8 x9 x47)
theorem impl_SetState.J1_co (x0 : List (S121)) (x2 : Int) (x8 : List (S121)) (x9 : Int) (x47 : Bool) : Co (fun k => impl_SetState.j1 k x0 x2 x8 x9 x47) (impl_SetState.J1 x0 x2 x8 x9 x47) := Co.base (fun k => (impl_SetState.mono_l k).2 _ _ _ _ _)
noncomputable def impl_SetState.F (l0 : List (S121)) (a1 : Int) (a2 : Int) : Option ((List (S121)) × Bool) := lim (fun k => impl_SetState.f k l0 a1 a2)
theorem impl_SetState.F_co (l0 : List (S121)) (a1 : Int) (a2 : Int) : Co (fun k => impl_SetState.f k l0 a1 a2) (impl_SetState.F l0 a1 a2) := Co.base (fun k => impl_SetState.mono _ _ _ k)
theorem impl_SetState.J0_eq (x0 : List (S121)) (x2 : Int) (x8 : List (S121)) (x9 : Int) (x22 : Bool) : impl_SetState.J0 x0 x2 x8 x9 x22 = (if x22 = true then (some (x8, false)) else (if 0 ≤ x9 then (if x9 < (x0.length : Int) then (if ((rd_T121 x0 x9).f4) = 0 then (if x2 = 1 then (impl_SetState.J1 x0 x2 x8 x9 (!true)) else (if x2 = 2 then (impl_SetState.J1 x0 x2 x8 x9 (!true)) else (if ((rd_T121 x0 x9).f4) = 1 then (impl_SetState.J1 x0 x2 x8 x9 (!(x2 == 3))) else (impl_SetState.J1 x0 x2 x8 x9 (!false))))) else (if ((rd_T121 x0 x9).f4) = 1 then (impl_SetState.J1 x0 x2 x8 x9 (!(x2 == 3))) else (impl_SetState.J1 x0 x2 x8 x9 (!false)))) else (none)) else (none))) := by
  refine Co.step (impl_SetState.J0_co x0 x2 x8 x9 x22) (h := fun k => (if x22 = true then (some (x8, false)) else (if 0 ≤ x9 then (if x9 < (x0.length : Int) then (if ((rd_T121 x0 x9).f4) = 0 then (if x2 = 1 then (impl_SetState.j1 k x0 x2 x8 x9 (!true)) else (if x2 = 2 then (impl_SetState.j1 k x0 x2 x8 x9 (!true)) else (if ((rd_T121 x0 x9).f4) = 1 then (impl_SetState.j1 k x0 x2 x8 x9 (!(x2 == 3))) else (impl_SetState.j1 k x0 x2 x8 x9 (!false))))) else (if ((rd_T121 x0 x9).f4) = 1 then (impl_SetState.j1 k x0 x2 x8 x9 (!(x2 == 3))) else (impl_SetState.j1 k x0 x2 x8 x9 (!false)))) else (none)) else (none)))) (fun k => by first | rfl | (simp only [impl_SetState.j0])) ?_
  repeat' first
    | (with_reducible exact Co.const _)
    | (with_reducible exact impl_SetState.J1_co _ _ _ _ _)
    | (with_reducible refine Co.ite ?_ ?_)
    | (with_reducible refine Co.bind ?_ (fun _ => ?_))
theorem impl_SetState.J1_eq (x0 : List (S121)) (x2 : Int) (x8 : List (S121)) (x9 : Int) (x47 : Bool) : impl_SetState.J1 x0 x2 x8 x9 x47 = (if x47 = true then (some (x8, false)) else (if 0 ≤ x9 then (if x9 < (x8.length : Int) then ((some (x8.set (x9 : Int).toNat (⟨(rd_T121 x8 x9).f0, (rd_T121 x8 x9).f1, (rd_T121 x8 x9).f2, (rd_T121 x8 x9).f3, x2⟩ : S121) : List (S121))).bind fun y222 => ((impl_AreClaims.F y222).bind fun t223 => (if t223 = true then (some (y222, true)) else ((impl_Claim_93.f x0).bind fun t224 => (some (t224, false)))))) else (none)) else (none))) := by
  refine Co.step (impl_SetState.J1_co x0 x2 x8 x9 x47) (h := fun k => (if x47 = true then (some (x8, false)) else (if 0 ≤ x9 then (if x9 < (x8.length : Int) then ((some (x8.set (x9 : Int).toNat (⟨(rd_T121 x8 x9).f0, (rd_T121 x8 x9).f1, (rd_T121 x8 x9).f2, (rd_T121 x8 x9).f3, x2⟩ : S121) : List (S121))).bind fun y222 => ((impl_AreClaims.f k y222).bind fun t223 => (if t223 = true then (some (y222, true)) else ((impl_Claim_93.f x0).bind fun t224 => (some (t224, false)))))) else (none)) else (none)))) (fun k => by first | rfl | (simp only [impl_SetState.j1])) ?_
  repeat' first
    | (with_reducible exact Co.const _)
    | (with_reducible exact impl_AreClaims.F_co _)
    | (with_reducible refine Co.ite ?_ ?_)
    | (with_reducible refine Co.bind ?_ (fun _ => ?_))
theorem impl_SetState.F_eq (l0 : List (S121)) (a1 : Int) (a2 : Int) : impl_SetState.F l0 a1 a2 = ((impl_Claim_93.f l0).bind fun t216 => ((impl_FindClaim.f l0 a1).bind fun t219 => (if t219 < 0 then (impl_SetState.J0 l0 a2 t216 t219 true) else ((impl_AreClaims.F l0).bind fun t220 => (impl_SetState.J0 l0 a2 t216 t219 (!t220)))))) := by
  refine Co.same (impl_SetState.F_co l0 a1 a2) (h := fun k => ((impl_Claim_93.f l0).bind fun t216 => ((impl_FindClaim.f l0 a1).bind fun t219 => (if t219 < 0 then (impl_SetState.j0 k l0 a2 t216 t219 true) else ((impl_AreClaims.f k l0).bind fun t220 => (impl_SetState.j0 k l0 a2 t216 t219 (!t220))))))) (fun k => by first | rfl | unfold impl_SetState.f; rfl) ?_
  repeat' first
    | (with_reducible exact Co.const _)
    | (with_reducible exact impl_AreClaims.F_co _)
    | (with_reducible exact impl_SetState.J0_co _ _ _ _ _)
    | (with_reducible refine Co.ite ?_ ?_)
    | (with_reducible refine Co.bind ?_ (fun _ => ?_))

noncomputable def laws_eqClaimS.L0 (x0 : List (S121)) (x1 : List (S121)) (x5 : Int) : Option (Bool) := lim (fun k => laws_eqClaimS.l0 k x0 x1 x5)
theorem laws_eqClaimS.L0_co (x0 : List (S121)) (x1 : List (S121)) (x5 : Int) : Co (fun k => laws_eqClaimS.l0 k x0 x1 x5) (laws_eqClaimS.L0 x0 x1 x5) := Co.base (fun k => (laws_eqClaimS.mono_l k) _ _ _)
noncomputable def laws_eqClaimS.F (l0 : List (S121)) (l1 : List (S121)) : Option (Bool) := lim (fun k => laws_eqClaimS.f k l0 l1)
theorem laws_eqClaimS.F_co (l0 : List (S121)) (l1 : List (S121)) : Co (fun k => laws_eqClaimS.f k l0 l1) (laws_eqClaimS.F l0 l1) := Co.base (fun k => laws_eqClaimS.mono _ _ k)
theorem laws_eqClaimS.L0_eq (x0 : List (S121)) (x1 : List (S121)) (x5 : Int) : laws_eqClaimS.L0 x0 x1 x5 = (if x5 < (x0.length : Int) then (if 0 ≤ x5 then (if x5 < (x1.length : Int) then ((laws_eqClaim.f ((rd_T121 x0 x5).f0) ((rd_T121 x0 x5).f1) ((rd_T121 x0 x5).f2) ((rd_T121 x0 x5).f3) ((rd_T121 x0 x5).f4) ((rd_T121 x1 x5).f0) ((rd_T121 x1 x5).f1) ((rd_T121 x1 x5).f2) ((rd_T121 x1 x5).f3) ((rd_T121 x1 x5).f4)).bind fun t231 => (if t231 = true then (laws_eqClaimS.L0 x0 x1 (wrap64 (x5 + 1))) else (some false))) else (none)) else (none)) else (some true)) := by
  refine Co.step (laws_eqClaimS.L0_co x0 x1 x5) (h := fun k => (if x5 < (x0.length : Int) then (if 0 ≤ x5 then (if x5 < (x1.length : Int) then ((laws_eqClaim.f ((rd_T121 x0 x5).f0) ((rd_T121 x0 x5).f1) ((rd_T121 x0 x5).f2) ((rd_T121 x0 x5).f3) ((rd_T121 x0 x5).f4) ((rd_T121 x1 x5).f0) ((rd_T121 x1 x5).f1) ((rd_T121 x1 x5).f2) ((rd_T121 x1 x5).f3) ((rd_T121 x1 x5).f4)).bind fun t231 => (if t231 = true then (laws_eqClaimS.l0 k x0 x1 (wrap64 (x5 + 1))) else (some false))) else (none)) else (none)) else (some true))) (fun k => by first | rfl | (simp only [laws_eqClaimS.l0])) ?_
  repeat' first
    | (with_reducible exact Co.const _)
    | (with_reducible exact laws_eqClaimS.L0_co _ _ _)
    | (with_reducible refine Co.ite ?_ ?_)
    | (with_reducible refine Co.bind ?_ (fun _ => ?_))
theorem laws_eqClaimS.F_eq (l0 : List (S121)) (l1 : List (S121)) : laws_eqClaimS.F l0 l1 = (if (l0.length : Int) = (l1.length : Int) then (laws_eqClaimS.L0 l0 l1 0) else (some false)) := by
  refine Co.same (laws_eqClaimS.F_co l0 l1) (h := fun k => (if (l0.length : Int) = (l1.length : Int) then (laws_eqClaimS.l0 k l0 l1 0) else (some false))) (fun k => by first | rfl | unfold laws_eqClaimS.f; rfl) ?_
  repeat' first
    | (with_reducible exact Co.const _)
    | (with_reducible exact laws_eqClaimS.L0_co _ _ _)
    | (with_reducible refine Co.ite ?_ ?_)
    | (with_reducible refine Co.bind ?_ (fun _ => ?_))

noncomputable def laws_markClaimS.L0 (x0 : List (S121)) (x1 : Int) (x5 : Int) : Option (Int × (List (S121))) := lim (fun k => laws_markClaimS.l0 k x0 x1 x5)
theorem laws_markClaimS.L0_co (x0 : List (S121)) (x1 : Int) (x5 : Int) : Co (fun k => laws_markClaimS.l0 k x0 x1 x5) (laws_markClaimS.L0 x0 x1 x5) := Co.base (fun k => (laws_markClaimS.mono_l k) _ _ _)
noncomputable def laws_markClaimS.F (l0 : List (S121)) (a1 : Int) : Option (Int × (List (S121))) := lim (fun k => laws_markClaimS.f k l0 a1)
theorem laws_markClaimS.F_co (l0 : List (S121)) (a1 : Int) : Co (fun k => laws_markClaimS.f k l0 a1) (laws_markClaimS.F l0 a1) := Co.base (fun k => laws_markClaimS.mono _ _ k)
theorem laws_markClaimS.L0_eq (x0 : List (S121)) (x1 : Int) (x5 : Int) : laws_markClaimS.L0 x0 x1 x5 = (if x5 < (x0.length : Int) then (if 0 ≤ x5 then ((some (x0.set (x5 : Int).toNat (⟨x1, (rd_T121 x0 x5).f1, (rd_T121 x0 x5).f2, (rd_T121 x0 x5).f3, (rd_T121 x0 x5).f4⟩ : S121) : List (S121))).bind fun y232 => ((some (y232.set (x5 : Int).toNat (⟨(rd_T121 y232 x5).f0, wrap64 (x1 + 1), (rd_T121 y232 x5).f2, (rd_T121 y232 x5).f3, (rd_T121 y232 x5).f4⟩ : S121) : List (S121))).bind fun y233 => ((some (y233.set (x5 : Int).toNat (⟨(rd_T121 y233 x5).f0, (rd_T121 y233 x5).f1, wrap64 ((wrap64 (x1 + 1)) + 1), (rd_T121 y233 x5).f3, (rd_T121 y233 x5).f4⟩ : S121) : List (S121))).bind fun y234 => ((some (y234.set (x5 : Int).toNat (⟨(rd_T121 y234 x5).f0, (rd_T121 y234 x5).f1, (rd_T121 y234 x5).f2, wrap64 ((wrap64 ((wrap64 (x1 + 1)) + 1)) + 1), (rd_T121 y234 x5).f4⟩ : S121) : List (S121))).bind fun y235 => (laws_markClaimS.L0 (y235.set (x5 : Int).toNat (⟨(rd_T121 y235 x5).f0, (rd_T121 y235 x5).f1, (rd_T121 y235 x5).f2, (rd_T121 y235 x5).f3, wrap64 ((wrap64 ((wrap64 ((wrap64 (x1 + 1)) + 1)) + 1)) + 1)⟩ : S121)) (wrap64 ((wrap64 ((wrap64 ((wrap64 ((wrap64 (x1 + 1)) + 1)) + 1)) + 1)) + 1)) (wrap64 (x5 + 1))))))) else (none)) else (some (x1, x0))) := by
  refine Co.step (laws_markClaimS.L0_co x0 x1 x5) (h := fun k => (if x5 < (x0.length : Int) then (if 0 ≤ x5 then ((some (x0.set (x5 : Int).toNat (⟨x1, (rd_T121 x0 x5).f1, (rd_T121 x0 x5).f2, (rd_T121 x0 x5).f3, (rd_T121 x0 x5).f4⟩ : S121) : List (S121))).bind fun y232 => ((some (y232.set (x5 : Int).toNat (⟨(rd_T121 y232 x5).f0, wrap64 (x1 + 1), (rd_T121 y232 x5).f2, (rd_T121 y232 x5).f3, (rd_T121 y232 x5).f4⟩ : S121) : List (S121))).bind fun y233 => ((some (y233.set (x5 : Int).toNat (⟨(rd_T121 y233 x5).f0, (rd_T121 y233 x5).f1, wrap64 ((wrap64 (x1 + 1)) + 1), (rd_T121 y233 x5).f3, (rd_T121 y233 x5).f4⟩ : S121) : List (S121))).bind fun y234 => ((some (y234.set (x5 : Int).toNat (⟨(rd_T121 y234 x5).f0, (rd_T121 y234 x5).f1, (rd_T121 y234 x5).f2, wrap64 ((wrap64 ((wrap64 (x1 + 1)) + 1)) + 1), (rd_T121 y234 x5).f4⟩ : S121) : List (S121))).bind fun y235 => (laws_markClaimS.l0 k (y235.set (x5 : Int).toNat (⟨(rd_T121 y235 x5).f0, (rd_T121 y235 x5).f1, (rd_T121 y235 x5).f2, (rd_T121 y235 x5).f3, wrap64 ((wrap64 ((wrap64 ((wrap64 (x1 + 1)) + 1)) + 1)) + 1)⟩ : S121)) (wrap64 ((wrap64 ((wrap64 ((wrap64 ((wrap64 (x1 + 1)) + 1)) + 1)) + 1)) + 1)) (wrap64 (x5 + 1))))))) else (none)) else (some (x1, x0)))) (fun k => by first | rfl | (simp only [laws_markClaimS.l0])) ?_
  repeat' first
    | (with_reducible exact Co.const _)
    | (with_reducible exact laws_markClaimS.L0_co _ _ _)
    | (with_reducible refine Co.ite ?_ ?_)
    | (with_reducible refine Co.bind ?_ (fun _ => ?_))
theorem laws_markClaimS.F_eq (l0 : List (S121)) (a1 : Int) : laws_markClaimS.F l0 a1 = (laws_markClaimS.L0 l0 a1 0) := by
  refine Co.same (laws_markClaimS.F_co l0 a1) (h := fun k => (laws_markClaimS.l0 k l0 a1 0)) (fun k => by first | rfl | unfold laws_markClaimS.f; rfl) ?_
  repeat' first
    | (with_reducible exact Co.const _)
    | (with_reducible exact laws_markClaimS.L0_co _ _ _)
    | (with_reducible refine Co.ite ?_ ?_)
    | (with_reducible refine Co.bind ?_ (fun _ => ?_))

noncomputable def laws_heldClaimS.L0 (x0 : List (S121)) (x1 : Int) (x5 : Int) : Option (Int) := lim (fun k => laws_heldClaimS.l0 k x0 x1 x5)
theorem laws_heldClaimS.L0_co (x0 : List (S121)) (x1 : Int) (x5 : Int) : Co (fun k => laws_heldClaimS.l0 k x0 x1 x5) (laws_heldClaimS.L0 x0 x1 x5) := Co.base (fun k => (laws_heldClaimS.mono_l k) _ _ _)
noncomputable def laws_heldClaimS.F (l0 : List (S121)) (a1 : Int) : Option (Int) := lim (fun k => laws_heldClaimS.f k l0 a1)
theorem laws_heldClaimS.F_co (l0 : List (S121)) (a1 : Int) : Co (fun k => laws_heldClaimS.f k l0 a1) (laws_heldClaimS.F l0 a1) := Co.base (fun k => laws_heldClaimS.mono _ _ k)
theorem laws_heldClaimS.L0_eq (x0 : List (S121)) (x1 : Int) (x5 : Int) : laws_heldClaimS.L0 x0 x1 x5 = (if x5 < (x0.length : Int) then (if 0 ≤ x5 then (if ((rd_T121 x0 x5).f0) = x1 then (if ((rd_T121 x0 x5).f1) = (wrap64 (x1 + 1)) then (if ((rd_T121 x0 x5).f2) = (wrap64 ((wrap64 (x1 + 1)) + 1)) then (if ((rd_T121 x0 x5).f3) = (wrap64 ((wrap64 ((wrap64 (x1 + 1)) + 1)) + 1)) then (if ((rd_T121 x0 x5).f4) = (wrap64 ((wrap64 ((wrap64 ((wrap64 (x1 + 1)) + 1)) + 1)) + 1)) then (laws_heldClaimS.L0 x0 (wrap64 ((wrap64 ((wrap64 ((wrap64 ((wrap64 (x1 + 1)) + 1)) + 1)) + 1)) + 1)) (wrap64 (x5 + 1))) else (some (-1))) else (some (-1))) else (some (-1))) else (some (-1))) else (some (-1))) else (none)) else (some x1)) := by
  refine Co.step (laws_heldClaimS.L0_co x0 x1 x5) (h := fun k => (if x5 < (x0.length : Int) then (if 0 ≤ x5 then (if ((rd_T121 x0 x5).f0) = x1 then (if ((rd_T121 x0 x5).f1) = (wrap64 (x1 + 1)) then (if ((rd_T121 x0 x5).f2) = (wrap64 ((wrap64 (x1 + 1)) + 1)) then (if ((rd_T121 x0 x5).f3) = (wrap64 ((wrap64 ((wrap64 (x1 + 1)) + 1)) + 1)) then (if ((rd_T121 x0 x5).f4) = (wrap64 ((wrap64 ((wrap64 ((wrap64 (x1 + 1)) + 1)) + 1)) + 1)) then (laws_heldClaimS.l0 k x0 (wrap64 ((wrap64 ((wrap64 ((wrap64 ((wrap64 (x1 + 1)) + 1)) + 1)) + 1)) + 1)) (wrap64 (x5 + 1))) else (some (-1))) else (some (-1))) else (some (-1))) else (some (-1))) else (some (-1))) else (none)) else (some x1))) (fun k => by first | rfl | (simp only [laws_heldClaimS.l0])) ?_
  repeat' first
    | (with_reducible exact Co.const _)
    | (with_reducible exact laws_heldClaimS.L0_co _ _ _)
    | (with_reducible refine Co.ite ?_ ?_)
    | (with_reducible refine Co.bind ?_ (fun _ => ?_))
theorem laws_heldClaimS.F_eq (l0 : List (S121)) (a1 : Int) : laws_heldClaimS.F l0 a1 = (laws_heldClaimS.L0 l0 a1 0) := by
  refine Co.same (laws_heldClaimS.F_co l0 a1) (h := fun k => (laws_heldClaimS.l0 k l0 a1 0)) (fun k => by first | rfl | unfold laws_heldClaimS.f; rfl) ?_
  repeat' first
    | (with_reducible exact Co.const _)
    | (with_reducible exact laws_heldClaimS.L0_co _ _ _)
    | (with_reducible refine Co.ite ?_ ?_)
    | (with_reducible refine Co.bind ?_ (fun _ => ?_))

noncomputable def laws_FnExactSetState.J0 (x0 : List (S123)) (x1 : Int) (x2 : Int) (x8 : List (S121)) (x9 : Bool) (x10 : List (S121)) (x11 : List (S121)) (x12 : Bool) (x48 : Bool) : Option (Bool) := lim (fun k => laws_FnExactSetState.j0 k x0 x1 x2 x8 x9 x10 x11 x12 x48)
theorem laws_FnExactSetState.J0_co (x0 : List (S123)) (x1 : Int) (x2 : Int) (x8 : List (S121)) (x9 : Bool) (x10 : List (S121)) (x11 : List (S121)) (x12 : Bool) (x48 : Bool) : Co (fun k => laws_FnExactSetState.j0 k x0 x1 x2 x8 x9 x10 x11 x12 x48) (laws_FnExactSetState.J0 x0 x1 x2 x8 x9 x10 x11 x12 x48) := Co.base (fun k => (laws_FnExactSetState.mono_l k).1 _ _ _ _ _ _ _ _ _)
noncomputable def laws_FnExactSetState.J1 (x0 : List (S123)) (x1 : Int) (x2 : Int) (x8 : List (S121)) (x9 : Bool) (x11 : List (S121)) (x69 : Bool) : Option (Bool) := lim (fun k => laws_FnExactSetState.j1 k x0 x1 x2 x8 x9 x11 x69)
theorem laws_FnExactSetState.J1_co (x0 : List (S123)) (x1 : Int) (x2 : Int) (x8 : List (S121)) (x9 : Bool) (x11 : List (S121)) (x69 : Bool) : Co (fun k => laws_FnExactSetState.j1 k x0 x1 x2 x8 x9 x11 x69) (laws_FnExactSetState.J1 x0 x1 x2 x8 x9 x11 x69) := Co.base (fun k => (laws_FnExactSetState.mono_l k).2.1 _ _ _ _ _ _ _)
noncomputable def laws_FnExactSetState.J2 (x11 : List (S121)) (x14 : Int) (x97 : Bool) : Option (Bool) := lim (fun k => laws_FnExactSetState.j2 k x11 x14 x97)
theorem laws_FnExactSetState.J2_co (x11 : List (S121)) (x14 : Int) (x97 : Bool) : Co (fun k => laws_FnExactSetState.j2 k x11 x14 x97) (laws_FnExactSetState.J2 x11 x14 x97) := Co.base (fun k => (laws_FnExactSetState.mono_l k).2.2 _ _ _)
noncomputable def laws_FnExactSetState.F (l0 : List (S123)) (a1 : Int) (a2 : Int) : Option (Bool) := lim (fun k => laws_FnExactSetState.f k l0 a1 a2)
theorem laws_FnExactSetState.F_co (l0 : List (S123)) (a1 : Int) (a2 : Int) : Co (fun k => laws_FnExactSetState.f k l0 a1 a2) (laws_FnExactSetState.F l0 a1 a2) := Co.base (fun k => laws_FnExactSetState.mono _ _ _ k)
theorem laws_FnExactSetState.J0_eq (x0 : List (S123)) (x1 : Int) (x2 : Int) (x8 : List (S121)) (x9 : Bool) (x10 : List (S121)) (x11 : List (S121)) (x12 : Bool) (x48 : Bool) : laws_FnExactSetState.J0 x0 x1 x2 x8 x9 x10 x11 x12 x48 = (if x48 = true then (some false) else ((laws_toClaimS.F x0).bind fun t258 => ((laws_eqClaimS.F x10 t258).bind fun t261 => (if t261 = true then ((laws_markClaimS.F x10 1).bind fun bt262 => (if bt262.1 < 0 then (laws_FnExactSetState.J1 x0 x1 x2 x8 x9 x11 true) else ((laws_eqClaimS.F x11 x8).bind fun t264 => (if t264 = true then (laws_FnExactSetState.J1 x0 x1 x2 x8 x9 x11 (x12 != x9)) else (laws_FnExactSetState.J1 x0 x1 x2 x8 x9 x11 true))))) else (some false))))) := by
  refine Co.step (laws_FnExactSetState.J0_co x0 x1 x2 x8 x9 x10 x11 x12 x48) (h := fun k => (if x48 = true then (some false) else ((laws_toClaimS.f k x0).bind fun t258 => ((laws_eqClaimS.f k x10 t258).bind fun t261 => (if t261 = true then ((laws_markClaimS.f k x10 1).bind fun bt262 => (if bt262.1 < 0 then (laws_FnExactSetState.j1 k x0 x1 x2 x8 x9 x11 true) else ((laws_eqClaimS.f k x11 x8).bind fun t264 => (if t264 = true then (laws_FnExactSetState.j1 k x0 x1 x2 x8 x9 x11 (x12 != x9)) else (laws_FnExactSetState.j1 k x0 x1 x2 x8 x9 x11 true))))) else (some false)))))) (fun k => by first | rfl | (simp only [laws_FnExactSetState.j0])) ?_
  repeat' first
    | (with_reducible exact Co.const _)
    | (with_reducible exact laws_FnExactSetState.J1_co _ _ _ _ _ _ _)
    | (with_reducible exact laws_eqClaimS.F_co _ _)
    | (with_reducible exact laws_markClaimS.F_co _ _)
    | (with_reducible exact laws_toClaimS.F_co _)
    | (with_reducible refine Co.ite ?_ ?_)
    | (with_reducible refine Co.bind ?_ (fun _ => ?_))
theorem laws_FnExactSetState.J1_eq (x0 : List (S123)) (x1 : Int) (x2 : Int) (x8 : List (S121)) (x9 : Bool) (x11 : List (S121)) (x69 : Bool) : laws_FnExactSetState.J1 x0 x1 x2 x8 x9 x11 x69 = (if x69 = true then (some false) else ((laws_markClaimS.F x11 1).bind fun bt265 => ((laws_heldClaimS.F bt265.2 1).bind fun t267 => (if t267 < 0 then (some false) else (if t267 = bt265.1 then ((laws_toClaimS.F x0).bind fun t268 => ((impl_SetState.F t268 x1 x2).bind fun bt271 => ((laws_eqClaimS.F bt271.1 x8).bind fun t275 => (if t275 = true then (laws_FnExactSetState.J2 bt265.2 bt265.1 (bt271.2 != x9)) else (laws_FnExactSetState.J2 bt265.2 bt265.1 true))))) else (some false)))))) := by
  refine Co.step (laws_FnExactSetState.J1_co x0 x1 x2 x8 x9 x11 x69) (h := fun k => (if x69 = true then (some false) else ((laws_markClaimS.f k x11 1).bind fun bt265 => ((laws_heldClaimS.f k bt265.2 1).bind fun t267 => (if t267 < 0 then (some false) else (if t267 = bt265.1 then ((laws_toClaimS.f k x0).bind fun t268 => ((impl_SetState.f k t268 x1 x2).bind fun bt271 => ((laws_eqClaimS.f k bt271.1 x8).bind fun t275 => (if t275 = true then (laws_FnExactSetState.j2 k bt265.2 bt265.1 (bt271.2 != x9)) else (laws_FnExactSetState.j2 k bt265.2 bt265.1 true))))) else (some false))))))) (fun k => by first | rfl | (simp only [laws_FnExactSetState.j1])) ?_
  repeat' first
    | (with_reducible exact Co.const _)
    | (with_reducible exact impl_SetState.F_co _ _ _)
    | (with_reducible exact laws_FnExactSetState.J2_co _ _ _)
    | (with_reducible exact laws_eqClaimS.F_co _ _)
    | (with_reducible exact laws_heldClaimS.F_co _ _)
    | (with_reducible exact laws_markClaimS.F_co _ _)
    | (with_reducible exact laws_toClaimS.F_co _)
    | (with_reducible refine Co.ite ?_ ?_)
    | (with_reducible refine Co.bind ?_ (fun _ => ?_))
theorem laws_FnExactSetState.J2_eq (x11 : List (S121)) (x14 : Int) (x97 : Bool) : laws_FnExactSetState.J2 x11 x14 x97 = (if x97 = true then (some false) else ((laws_heldClaimS.F x11 1).bind fun t276 => (if t276 < 0 then (some false) else (if t276 = x14 then (some true) else (some false))))) := by
  refine Co.step (laws_FnExactSetState.J2_co x11 x14 x97) (h := fun k => (if x97 = true then (some false) else ((laws_heldClaimS.f k x11 1).bind fun t276 => (if t276 < 0 then (some false) else (if t276 = x14 then (some true) else (some false)))))) (fun k => by first | rfl | (simp only [laws_FnExactSetState.j2])) ?_
  repeat' first
    | (with_reducible exact Co.const _)
    | (with_reducible exact laws_heldClaimS.F_co _ _)
    | (with_reducible refine Co.ite ?_ ?_)
    | (with_reducible refine Co.bind ?_ (fun _ => ?_))
theorem laws_FnExactSetState.F_eq (l0 : List (S123)) (a1 : Int) (a2 : Int) : laws_FnExactSetState.F l0 a1 a2 = ((laws_szClaimS.f l0 1048576).bind fun t242 => (if t242 < 0 then (some true) else ((laws_toClaimS.F l0).bind fun t243 => ((spec_SetState.F t243 a1 a2).bind fun bt246 => ((laws_toClaimS.F l0).bind fun t250 => ((impl_SetState.F t250 a1 a2).bind fun bt253 => ((laws_eqClaimS.F bt253.1 bt246.1).bind fun t257 => (if t257 = true then (laws_FnExactSetState.J0 l0 a1 a2 bt246.1 bt246.2 t250 bt253.1 bt253.2 (bt253.2 != bt246.2)) else (laws_FnExactSetState.J0 l0 a1 a2 bt246.1 bt246.2 t250 bt253.1 bt253.2 true))))))))) := by
  refine Co.same (laws_FnExactSetState.F_co l0 a1 a2) (h := fun k => ((laws_szClaimS.f l0 1048576).bind fun t242 => (if t242 < 0 then (some true) else ((laws_toClaimS.f k l0).bind fun t243 => ((spec_SetState.f k t243 a1 a2).bind fun bt246 => ((laws_toClaimS.f k l0).bind fun t250 => ((impl_SetState.f k t250 a1 a2).bind fun bt253 => ((laws_eqClaimS.f k bt253.1 bt246.1).bind fun t257 => (if t257 = true then (laws_FnExactSetState.j0 k l0 a1 a2 bt246.1 bt246.2 t250 bt253.1 bt253.2 (bt253.2 != bt246.2)) else (laws_FnExactSetState.j0 k l0 a1 a2 bt246.1 bt246.2 t250 bt253.1 bt253.2 true)))))))))) (fun k => by first | rfl | unfold laws_FnExactSetState.f; rfl) ?_
  repeat' first
    | (with_reducible exact Co.const _)
    | (with_reducible exact impl_SetState.F_co _ _ _)
    | (with_reducible exact laws_FnExactSetState.J0_co _ _ _ _ _ _ _ _ _)
    | (with_reducible exact laws_eqClaimS.F_co _ _)
    | (with_reducible exact laws_toClaimS.F_co _)
    | (with_reducible exact spec_SetState.F_co _ _ _)
    | (with_reducible refine Co.ite ?_ ?_)
    | (with_reducible refine Co.bind ?_ (fun _ => ?_))

end Go.Proofs.Ytbbfelgojaioaaa.PFnExactSetState.Pure
