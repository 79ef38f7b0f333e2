/-
  The printed functions that this law reaches, their rounds used up, and the equations that they meet.
-/
import Derived.Test.YtppgealmedaihaaPFnMarksx1
import Derived.Test.YtppgealmedaihaaPFnMarksx2
import Derived.Test.YtppgealmedaihaaPFnMarksx3
import Derived.Test.YtppgealmedaihaaPFnMarksx4
import Derived.Test.YtppgealmedaihaaPFnMarksx5
import Derived.Test.YtppgealmedaihaaPFnMarksx6
import Derived.Test.YtppgealmedaihaaPFnMarksx7
import Derived.Test.YtppgealmedaihaaLim
namespace Go.Proofs.Ytppgealmedaihaa.PFnMarks.Pure
open Go.RowKit Go.Proofs.YtppgealmedaihaaW.PrintWords Go.Proofs.YtppgealmedaihaaW.PrintLast Go.Proofs.YtppgealmedaihaaW.PrintMore Go.Proofs.Ytppgealmedaihaa.PFnMarks Go.Proofs.Ytppgealmedaihaa.Lim
set_option linter.unusedVariables false
set_option maxRecDepth 100000

noncomputable def spec_l1New.L0 (x0 : List Int) (x3 : Int) (x4 : Int) : Option (List Int × Int × Int) := lim (fun k => spec_l1New.l0 k x0 x3 x4)
theorem spec_l1New.L0_co (x0 : List Int) (x3 : Int) (x4 : Int) : Co (fun k => spec_l1New.l0 k x0 x3 x4) (spec_l1New.L0 x0 x3 x4) := Co.base (fun k => (spec_l1New.mono_l k) _ _ _)
noncomputable def spec_l1New.F (l0 : List Int) : Option (List Int × Int × Int) := lim (fun k => spec_l1New.f k l0)
theorem spec_l1New.F_co (l0 : List Int) : Co (fun k => spec_l1New.f k l0) (spec_l1New.F l0) := Co.base (fun k => spec_l1New.mono _ k)
theorem spec_l1New.L0_eq (x0 : List Int) (x3 : Int) (x4 : Int) : spec_l1New.L0 x0 x3 x4 = (if x4 < (x0.length : Int) then (if x4 < 4000 then (if 0 ≤ x4 then (spec_l1New.L0 x0 (Go.bits .and .i64 (wrap64 ((wrap64 ((wrap64 (x3 * 137)) + (wrap64 (rd x0 x4)))) + 11)) 1073741823) (wrap64 (x4 + 1))) else (none)) else (some (x0, 0, x3))) else (some (x0, 0, x3))) := by
  refine Co.step (spec_l1New.L0_co x0 x3 x4) (h := fun k => (if x4 < (x0.length : Int) then (if x4 < 4000 then (if 0 ≤ x4 then (spec_l1New.l0 k x0 (Go.bits .and .i64 (wrap64 ((wrap64 ((wrap64 (x3 * 137)) + (wrap64 (rd x0 x4)))) + 11)) 1073741823) (wrap64 (x4 + 1))) else (none)) else (some (x0, 0, x3))) else (some (x0, 0, x3)))) (fun k => by first | rfl | (simp only [spec_l1New.l0])) ?_
  repeat' first
    | (with_reducible exact Co.const _)
    | (with_reducible exact spec_l1New.L0_co _ _ _)
    | (with_reducible refine Co.ite ?_ ?_)
    | (with_reducible refine Co.bind ?_ (fun _ => ?_))
theorem spec_l1New.F_eq (l0 : List Int) : spec_l1New.F l0 = (spec_l1New.L0 l0 (wrap64 (193017 + (l0.length : Int))) 0) := by
  refine Co.same (spec_l1New.F_co l0) (h := fun k => (spec_l1New.l0 k l0 (wrap64 (193017 + (l0.length : Int))) 0)) (fun k => by first | rfl | unfold spec_l1New.f; rfl) ?_
  repeat' first
    | (with_reducible exact Co.const _)
    | (with_reducible exact spec_l1New.L0_co _ _ _)
    | (with_reducible refine Co.ite ?_ ?_)
    | (with_reducible refine Co.bind ?_ (fun _ => ?_))

noncomputable def spec_AreMarks.L0 (x0 : List (S62)) (x3 : Int) : Option (Bool) := lim (fun k => spec_AreMarks.l0 k x0 x3)
theorem spec_AreMarks.L0_co (x0 : List (S62)) (x3 : Int) : Co (fun k => spec_AreMarks.l0 k x0 x3) (spec_AreMarks.L0 x0 x3) := Co.base (fun k => (spec_AreMarks.mono_l k) _ _)
noncomputable def spec_AreMarks.F (l0 : List (S62)) : Option (Bool) := lim (fun k => spec_AreMarks.f k l0)
theorem spec_AreMarks.F_co (l0 : List (S62)) : Co (fun k => spec_AreMarks.f k l0) (spec_AreMarks.F l0) := Co.base (fun k => spec_AreMarks.mono _ k)
theorem spec_AreMarks.L0_eq (x0 : List (S62)) (x3 : Int) : spec_AreMarks.L0 x0 x3 = (if x3 < (x0.length : Int) then (if 0 ≤ x3 then ((spec_l1In.f ((rd_T62 x0 x3).f0) 1 20).bind fun t122 => (if t122 = true then ((spec_l1In.f ((rd_T62 x0 x3).f1) 0 99).bind fun t124 => (if t124 = true then (if x3 > 0 then (if 0 ≤ (wrap64 (x3 - 1)) then (if (wrap64 (x3 - 1)) < (x0.length : Int) then (if ((rd_T62 x0 (wrap64 (x3 - 1))).f0) ≥ ((rd_T62 x0 x3).f0) then (some false) else (spec_AreMarks.L0 x0 (wrap64 (x3 + 1)))) else (none)) else (none)) else (spec_AreMarks.L0 x0 (wrap64 (x3 + 1)))) else (some false))) else (some false))) else (none)) else (some (decide ((x0.length : Int) ≤ 8)))) := by
  refine Co.step (spec_AreMarks.L0_co x0 x3) (h := fun k => (if x3 < (x0.length : Int) then (if 0 ≤ x3 then ((spec_l1In.f ((rd_T62 x0 x3).f0) 1 20).bind fun t122 => (if t122 = true then ((spec_l1In.f ((rd_T62 x0 x3).f1) 0 99).bind fun t124 => (if t124 = true then (if x3 > 0 then (if 0 ≤ (wrap64 (x3 - 1)) then (if (wrap64 (x3 - 1)) < (x0.length : Int) then (if ((rd_T62 x0 (wrap64 (x3 - 1))).f0) ≥ ((rd_T62 x0 x3).f0) then (some false) else (spec_AreMarks.l0 k x0 (wrap64 (x3 + 1)))) else (none)) else (none)) else (spec_AreMarks.l0 k x0 (wrap64 (x3 + 1)))) else (some false))) else (some false))) else (none)) else (some (decide ((x0.length : Int) ≤ 8))))) (fun k => by first | rfl | (simp only [spec_AreMarks.l0])) ?_
  repeat' first
    | (with_reducible exact Co.const _)
    | (with_reducible exact spec_AreMarks.L0_co _ _)
    | (with_reducible refine Co.ite ?_ ?_)
    | (with_reducible refine Co.bind ?_ (fun _ => ?_))
theorem spec_AreMarks.F_eq (l0 : List (S62)) : spec_AreMarks.F l0 = (spec_AreMarks.L0 l0 0) := by
  refine Co.same (spec_AreMarks.F_co l0) (h := fun k => (spec_AreMarks.l0 k l0 0)) (fun k => by first | rfl | unfold spec_AreMarks.f; rfl) ?_
  repeat' first
    | (with_reducible exact Co.const _)
    | (with_reducible exact spec_AreMarks.L0_co _ _)
    | (with_reducible refine Co.ite ?_ ?_)
    | (with_reducible refine Co.bind ?_ (fun _ => ?_))

noncomputable def spec_PutMark.J1 (x0 : List (S62)) (x6 : Int) (x128000 : Int) (x128001 : Int) : Option ((List (S62)) × Bool) := lim (fun k => spec_PutMark.j1 k x0 x6 x128000 x128001)
theorem spec_PutMark.J1_co (x0 : List (S62)) (x6 : Int) (x128000 : Int) (x128001 : Int) : Co (fun k => spec_PutMark.j1 k x0 x6 x128000 x128001) (spec_PutMark.J1 x0 x6 x128000 x128001) := Co.base (fun k => (spec_PutMark.mono_l k).1 _ _ _ _)
noncomputable def spec_PutMark.J2 (x0 : List (S62)) (x6 : Int) (x7 : List (S62)) (x39 : Bool) (x128000 : Int) (x128001 : Int) : Option ((List (S62)) × Bool) := lim (fun k => spec_PutMark.j2 k x0 x6 x7 x39 x128000 x128001)
theorem spec_PutMark.J2_co (x0 : List (S62)) (x6 : Int) (x7 : List (S62)) (x39 : Bool) (x128000 : Int) (x128001 : Int) : Co (fun k => spec_PutMark.j2 k x0 x6 x7 x39 x128000 x128001) (spec_PutMark.J2 x0 x6 x7 x39 x128000 x128001) := Co.base (fun k => (spec_PutMark.mono_l k).2.1 _ _ _ _ _ _)
noncomputable def spec_PutMark.L0 (x0 : List (S62)) (x6 : Int) (x128000 : Int) (x128001 : Int) : Option ((List (S62)) × Bool) := lim (fun k => spec_PutMark.l0 k x0 x6 x128000 x128001)
theorem spec_PutMark.L0_co (x0 : List (S62)) (x6 : Int) (x128000 : Int) (x128001 : Int) : Co (fun k => spec_PutMark.l0 k x0 x6 x128000 x128001) (spec_PutMark.L0 x0 x6 x128000 x128001) := Co.base (fun k => (spec_PutMark.mono_l k).2.2 _ _ _ _)
noncomputable def spec_PutMark.F (l0 : List (S62)) (a1_0 : Int) (a1_1 : Int) : Option ((List (S62)) × Bool) := lim (fun k => spec_PutMark.f k l0 a1_0 a1_1)
theorem spec_PutMark.F_co (l0 : List (S62)) (a1_0 : Int) (a1_1 : Int) : Co (fun k => spec_PutMark.f k l0 a1_0 a1_1) (spec_PutMark.F l0 a1_0 a1_1) := Co.base (fun k => spec_PutMark.mono _ _ _ k)
theorem spec_PutMark.J1_eq (x0 : List (S62)) (x6 : Int) (x128000 : Int) (x128001 : Int) : spec_PutMark.J1 x0 x6 x128000 x128001 = (if 0 ≤ x6 then (if x6 ≤ (x0.length : Int) then ((some (x0.drop (x6 : Int).toNat : List (S62))).bind fun y129 => (if (y129.length : Int) > 0 then (if 0 < (y129.length : Int) then (spec_PutMark.J2 x0 x6 y129 (((rd_T62 y129 0).f0) == x128000) x128000 x128001) else (none)) else (spec_PutMark.J2 x0 x6 y129 false x128000 x128001))) else (none)) else (none)) := by
  refine Co.step (spec_PutMark.J1_co x0 x6 x128000 x128001) (h := fun k => (if 0 ≤ x6 then (if x6 ≤ (x0.length : Int) then ((some (x0.drop (x6 : Int).toNat : List (S62))).bind fun y129 => (if (y129.length : Int) > 0 then (if 0 < (y129.length : Int) then (spec_PutMark.j2 k x0 x6 y129 (((rd_T62 y129 0).f0) == x128000) x128000 x128001) else (none)) else (spec_PutMark.j2 k x0 x6 y129 false x128000 x128001))) else (none)) else (none))) (fun k => by first | rfl | (simp only [spec_PutMark.j1])) ?_
  repeat' first
    | (with_reducible exact Co.const _)
    | (with_reducible exact spec_PutMark.J2_co _ _ _ _ _ _)
    | (with_reducible refine Co.ite ?_ ?_)
    | (with_reducible refine Co.bind ?_ (fun _ => ?_))
theorem spec_PutMark.J2_eq (x0 : List (S62)) (x6 : Int) (x7 : List (S62)) (x39 : Bool) (x128000 : Int) (x128001 : Int) : spec_PutMark.J2 x0 x6 x7 x39 x128000 x128001 = (if x39 = true then (if 1 ≤ (x7.length : Int) then ((some (x7.drop 1 : List (S62))).bind fun y134 => ((some (([] : List (S62)) : List (S62))).bind fun y138 => (if 0 ≤ x6 then (if x6 ≤ (x0.length : Int) then ((some (x0.take (x6 : Int).toNat : List (S62))).bind fun y141 => (if y138.length + y141.length < 8796093022208 then ((some (y138 ++ y141 : List (S62))).bind fun y145 => ((some (([(⟨x128000, x128001⟩ : S62)] : List (S62)) : List (S62))).bind fun y148 => (if y145.length + y148.length < 8796093022208 then ((some (y145 ++ y148 : List (S62))).bind fun y151 => (if y151.length + y134.length < 8796093022208 then ((some (y151 ++ y134 : List (S62))).bind fun y154 => ((spec_AreMarks.F y154).bind fun t157 => (if t157 = true then (some (y154, true)) else ((some (([] : List (S62)) : List (S62))).bind fun y158 => (if y158.length + x0.length < 8796093022208 then (some ((y158 ++ x0), false)) else (none)))))) else (none))) else (none)))) else (none))) else (none)) else (none)))) else (none)) else ((some (([] : List (S62)) : List (S62))).bind fun y164 => (if 0 ≤ x6 then (if x6 ≤ (x0.length : Int) then ((some (x0.take (x6 : Int).toNat : List (S62))).bind fun y167 => (if y164.length + y167.length < 8796093022208 then ((some (y164 ++ y167 : List (S62))).bind fun y171 => ((some (([(⟨x128000, x128001⟩ : S62)] : List (S62)) : List (S62))).bind fun y174 => (if y171.length + y174.length < 8796093022208 then ((some (y171 ++ y174 : List (S62))).bind fun y177 => (if y177.length + x7.length < 8796093022208 then ((some (y177 ++ x7 : List (S62))).bind fun y180 => ((spec_AreMarks.F y180).bind fun t183 => (if t183 = true then (some (y180, true)) else ((some (([] : List (S62)) : List (S62))).bind fun y184 => (if y184.length + x0.length < 8796093022208 then (some ((y184 ++ x0), false)) else (none)))))) else (none))) else (none)))) else (none))) else (none)) else (none)))) := by
  refine Co.step (spec_PutMark.J2_co x0 x6 x7 x39 x128000 x128001) (h := fun k => (if x39 = true then (if 1 ≤ (x7.length : Int) then ((some (x7.drop 1 : List (S62))).bind fun y134 => ((some (([] : List (S62)) : List (S62))).bind fun y138 => (if 0 ≤ x6 then (if x6 ≤ (x0.length : Int) then ((some (x0.take (x6 : Int).toNat : List (S62))).bind fun y141 => (if y138.length + y141.length < 8796093022208 then ((some (y138 ++ y141 : List (S62))).bind fun y145 => ((some (([(⟨x128000, x128001⟩ : S62)] : List (S62)) : List (S62))).bind fun y148 => (if y145.length + y148.length < 8796093022208 then ((some (y145 ++ y148 : List (S62))).bind fun y151 => (if y151.length + y134.length < 8796093022208 then ((some (y151 ++ y134 : List (S62))).bind fun y154 => ((spec_AreMarks.f k y154).bind fun t157 => (if t157 = true then (some (y154, true)) else ((some (([] : List (S62)) : List (S62))).bind fun y158 => (if y158.length + x0.length < 8796093022208 then (some ((y158 ++ x0), false)) else (none)))))) else (none))) else (none)))) else (none))) else (none)) else (none)))) else (none)) else ((some (([] : List (S62)) : List (S62))).bind fun y164 => (if 0 ≤ x6 then (if x6 ≤ (x0.length : Int) then ((some (x0.take (x6 : Int).toNat : List (S62))).bind fun y167 => (if y164.length + y167.length < 8796093022208 then ((some (y164 ++ y167 : List (S62))).bind fun y171 => ((some (([(⟨x128000, x128001⟩ : S62)] : List (S62)) : List (S62))).bind fun y174 => (if y171.length + y174.length < 8796093022208 then ((some (y171 ++ y174 : List (S62))).bind fun y177 => (if y177.length + x7.length < 8796093022208 then ((some (y177 ++ x7 : List (S62))).bind fun y180 => ((spec_AreMarks.f k y180).bind fun t183 => (if t183 = true then (some (y180, true)) else ((some (([] : List (S62)) : List (S62))).bind fun y184 => (if y184.length + x0.length < 8796093022208 then (some ((y184 ++ x0), false)) else (none)))))) else (none))) else (none)))) else (none))) else (none)) else (none))))) (fun k => by first | rfl | (simp only [spec_PutMark.j2])) ?_
  repeat' first
    | (with_reducible exact Co.const _)
    | (with_reducible exact spec_AreMarks.F_co _)
    | (with_reducible refine Co.ite ?_ ?_)
    | (with_reducible refine Co.bind ?_ (fun _ => ?_))
theorem spec_PutMark.L0_eq (x0 : List (S62)) (x6 : Int) (x128000 : Int) (x128001 : Int) : spec_PutMark.L0 x0 x6 x128000 x128001 = (if x6 < (x0.length : Int) then (if 0 ≤ x6 then (if ((rd_T62 x0 x6).f0) < x128000 then (spec_PutMark.L0 x0 (wrap64 (x6 + 1)) x128000 x128001) else (spec_PutMark.J1 x0 x6 x128000 x128001)) else (none)) else (spec_PutMark.J1 x0 x6 x128000 x128001)) := by
  refine Co.step (spec_PutMark.L0_co x0 x6 x128000 x128001) (h := fun k => (if x6 < (x0.length : Int) then (if 0 ≤ x6 then (if ((rd_T62 x0 x6).f0) < x128000 then (spec_PutMark.l0 k x0 (wrap64 (x6 + 1)) x128000 x128001) else (spec_PutMark.j1 k x0 x6 x128000 x128001)) else (none)) else (spec_PutMark.j1 k x0 x6 x128000 x128001))) (fun k => by first | rfl | (simp only [spec_PutMark.l0])) ?_
  repeat' first
    | (with_reducible exact Co.const _)
    | (with_reducible exact spec_PutMark.J1_co _ _ _ _)
    | (with_reducible exact spec_PutMark.L0_co _ _ _ _)
    | (with_reducible refine Co.ite ?_ ?_)
    | (with_reducible refine Co.bind ?_ (fun _ => ?_))
theorem spec_PutMark.F_eq (l0 : List (S62)) (a1_0 : Int) (a1_1 : Int) : spec_PutMark.F l0 a1_0 a1_1 = (spec_PutMark.L0 l0 0 a1_0 a1_1) := by
  refine Co.same (spec_PutMark.F_co l0 a1_0 a1_1) (h := fun k => (spec_PutMark.l0 k l0 0 a1_0 a1_1)) (fun k => by first | rfl | unfold spec_PutMark.f; rfl) ?_
  repeat' first
    | (with_reducible exact Co.const _)
    | (with_reducible exact spec_PutMark.L0_co _ _ _ _)
    | (with_reducible refine Co.ite ?_ ?_)
    | (with_reducible refine Co.bind ?_ (fun _ => ?_))

noncomputable def spec_l11Draw.L0 (x3 : List (S62)) (x4 : Int) (x1000 : List Int) (x1001 : Int) (x1002 : Int) : Option ((List (S62)) × Int × Int) := lim (fun k => spec_l11Draw.l0 k x3 x4 x1000 x1001 x1002)
theorem spec_l11Draw.L0_co (x3 : List (S62)) (x4 : Int) (x1000 : List Int) (x1001 : Int) (x1002 : Int) : Co (fun k => spec_l11Draw.l0 k x3 x4 x1000 x1001 x1002) (spec_l11Draw.L0 x3 x4 x1000 x1001 x1002) := Co.base (fun k => (spec_l11Draw.mono_l k) _ _ _ _ _)
noncomputable def spec_l11Draw.F (s0_0 : List Int) (s0_1 : Int) (s0_2 : Int) : Option ((List (S62)) × Int × Int) := lim (fun k => spec_l11Draw.f k s0_0 s0_1 s0_2)
theorem spec_l11Draw.F_co (s0_0 : List Int) (s0_1 : Int) (s0_2 : Int) : Co (fun k => spec_l11Draw.f k s0_0 s0_1 s0_2) (spec_l11Draw.F s0_0 s0_1 s0_2) := Co.base (fun k => spec_l11Draw.mono _ _ _ k)
theorem spec_l11Draw.L0_eq (x3 : List (S62)) (x4 : Int) (x1000 : List Int) (x1001 : Int) (x1002 : Int) : spec_l11Draw.L0 x3 x4 x1000 x1001 x1002 = (if x4 > 0 then ((spec_l1Below.f x1000 x1001 x1002 8).bind fun bt196 => ((spec_l1Below.f x1000 bt196.2.1 bt196.2.2 9).bind fun bt199 => ((spec_PutMark.F x3 (wrap64 (1 + bt196.1)) bt199.1).bind fun bt202 => (spec_l11Draw.L0 bt202.1 (wrap64 (x4 - 1)) x1000 bt199.2.1 bt199.2.2)))) else (some (x3, x1001, x1002))) := by
  refine Co.step (spec_l11Draw.L0_co x3 x4 x1000 x1001 x1002) (h := fun k => (if x4 > 0 then ((spec_l1Below.f x1000 x1001 x1002 8).bind fun bt196 => ((spec_l1Below.f x1000 bt196.2.1 bt196.2.2 9).bind fun bt199 => ((spec_PutMark.f k x3 (wrap64 (1 + bt196.1)) bt199.1).bind fun bt202 => (spec_l11Draw.l0 k bt202.1 (wrap64 (x4 - 1)) x1000 bt199.2.1 bt199.2.2)))) else (some (x3, x1001, x1002)))) (fun k => by first | rfl | (simp only [spec_l11Draw.l0])) ?_
  repeat' first
    | (with_reducible exact Co.const _)
    | (with_reducible exact spec_PutMark.F_co _ _ _)
    | (with_reducible exact spec_l11Draw.L0_co _ _ _ _ _)
    | (with_reducible refine Co.ite ?_ ?_)
    | (with_reducible refine Co.bind ?_ (fun _ => ?_))
theorem spec_l11Draw.F_eq (s0_0 : List Int) (s0_1 : Int) (s0_2 : Int) : spec_l11Draw.F s0_0 s0_1 s0_2 = ((spec_l1Below.f s0_0 s0_1 s0_2 6).bind fun bt193 => (spec_l11Draw.L0 (([] : List (S62))) bt193.1 s0_0 bt193.2.1 bt193.2.2)) := by
  refine Co.same (spec_l11Draw.F_co s0_0 s0_1 s0_2) (h := fun k => ((spec_l1Below.f s0_0 s0_1 s0_2 6).bind fun bt193 => (spec_l11Draw.l0 k (([] : List (S62))) bt193.1 s0_0 bt193.2.1 bt193.2.2))) (fun k => by first | rfl | unfold spec_l11Draw.f; rfl) ?_
  repeat' first
    | (with_reducible exact Co.const _)
    | (with_reducible exact spec_l11Draw.L0_co _ _ _ _ _)
    | (with_reducible refine Co.ite ?_ ?_)
    | (with_reducible refine Co.bind ?_ (fun _ => ?_))

noncomputable def spec_l11Any.F (s0_0 : List Int) (s0_1 : Int) (s0_2 : Int) : Option ((List (S62)) × Int × Int) := lim (fun k => spec_l11Any.f k s0_0 s0_1 s0_2)
theorem spec_l11Any.F_co (s0_0 : List Int) (s0_1 : Int) (s0_2 : Int) : Co (fun k => spec_l11Any.f k s0_0 s0_1 s0_2) (spec_l11Any.F s0_0 s0_1 s0_2) := Co.base (fun k => spec_l11Any.mono _ _ _ k)
theorem spec_l11Any.F_eq (s0_0 : List Int) (s0_1 : Int) (s0_2 : Int) : spec_l11Any.F s0_0 s0_1 s0_2 = ((spec_l11Draw.F s0_0 s0_1 s0_2).bind fun bt206 => (if (bt206.1.length : Int) = 0 then (some (bt206.1, bt206.2.1, bt206.2.2)) else ((spec_l1Below.f s0_0 bt206.2.1 bt206.2.2 (bt206.1.length : Int)).bind fun bt211 => ((spec_l1Below.f s0_0 bt211.2.1 bt211.2.2 9).bind fun bt214 => (if bt214.1 = 0 then ((spec_l1Int.f s0_0 bt214.2.1 bt214.2.2 (([0, 20, 21] : List Int))).bind fun bt220 => (if 0 ≤ bt211.1 then (if bt211.1 < (bt206.1.length : Int) then (some ((bt206.1.set (bt211.1 : Int).toNat (⟨bt220.1, (rd_T62 bt206.1 bt211.1).f1⟩ : S62)), bt220.2.1, bt220.2.2)) else (none)) else (none))) else (if bt214.1 = 1 then ((spec_l1Int.f s0_0 bt214.2.1 bt214.2.2 (([(-1), 99, 100] : List Int))).bind fun bt227 => (if 0 ≤ bt211.1 then (if bt211.1 < (bt206.1.length : Int) then (some ((bt206.1.set (bt211.1 : Int).toNat (⟨(rd_T62 bt206.1 bt211.1).f0, bt227.1⟩ : S62)), bt227.2.1, bt227.2.2)) else (none)) else (none))) else (some (bt206.1, bt214.2.1, bt214.2.2)))))))) := by
  refine Co.same (spec_l11Any.F_co s0_0 s0_1 s0_2) (h := fun k => ((spec_l11Draw.f k s0_0 s0_1 s0_2).bind fun bt206 => (if (bt206.1.length : Int) = 0 then (some (bt206.1, bt206.2.1, bt206.2.2)) else ((spec_l1Below.f s0_0 bt206.2.1 bt206.2.2 (bt206.1.length : Int)).bind fun bt211 => ((spec_l1Below.f s0_0 bt211.2.1 bt211.2.2 9).bind fun bt214 => (if bt214.1 = 0 then ((spec_l1Int.f s0_0 bt214.2.1 bt214.2.2 (([0, 20, 21] : List Int))).bind fun bt220 => (if 0 ≤ bt211.1 then (if bt211.1 < (bt206.1.length : Int) then (some ((bt206.1.set (bt211.1 : Int).toNat (⟨bt220.1, (rd_T62 bt206.1 bt211.1).f1⟩ : S62)), bt220.2.1, bt220.2.2)) else (none)) else (none))) else (if bt214.1 = 1 then ((spec_l1Int.f s0_0 bt214.2.1 bt214.2.2 (([(-1), 99, 100] : List Int))).bind fun bt227 => (if 0 ≤ bt211.1 then (if bt211.1 < (bt206.1.length : Int) then (some ((bt206.1.set (bt211.1 : Int).toNat (⟨(rd_T62 bt206.1 bt211.1).f0, bt227.1⟩ : S62)), bt227.2.1, bt227.2.2)) else (none)) else (none))) else (some (bt206.1, bt214.2.1, bt214.2.2))))))))) (fun k => by first | rfl | unfold spec_l11Any.f; rfl) ?_
  repeat' first
    | (with_reducible exact Co.const _)
    | (with_reducible exact spec_l11Draw.F_co _ _ _)
    | (with_reducible refine Co.ite ?_ ?_)
    | (with_reducible refine Co.bind ?_ (fun _ => ?_))

noncomputable def spec_DrawSealMarks.F (l0 : List Int) : Option ((List (S62)) × Int) := lim (fun k => spec_DrawSealMarks.f k l0)
theorem spec_DrawSealMarks.F_co (l0 : List Int) : Co (fun k => spec_DrawSealMarks.f k l0) (spec_DrawSealMarks.F l0) := Co.base (fun k => spec_DrawSealMarks.mono _ k)
theorem spec_DrawSealMarks.F_eq (l0 : List Int) : spec_DrawSealMarks.F l0 = ((spec_l1New.F l0).bind fun bt231 => ((spec_l11Any.F bt231.1 bt231.2.1 bt231.2.2).bind fun bt235 => ((spec_l1Below.f bt231.1 bt235.2.1 bt235.2.2 99).bind fun bt240 => (some (bt235.1, bt240.1))))) := by
  refine Co.same (spec_DrawSealMarks.F_co l0) (h := fun k => ((spec_l1New.f k l0).bind fun bt231 => ((spec_l11Any.f k bt231.1 bt231.2.1 bt231.2.2).bind fun bt235 => ((spec_l1Below.f bt231.1 bt235.2.1 bt235.2.2 99).bind fun bt240 => (some (bt235.1, bt240.1)))))) (fun k => by first | rfl | unfold spec_DrawSealMarks.f; rfl) ?_
  repeat' first
    | (with_reducible exact Co.const _)
    | (with_reducible exact spec_l11Any.F_co _ _ _)
    | (with_reducible exact spec_l1New.F_co _)
    | (with_reducible refine Co.ite ?_ ?_)
    | (with_reducible refine Co.bind ?_ (fun _ => ?_))

noncomputable def impl_Hash.L0 (x3 : Int) (x6 : List Int) (x7 : Int) (x8 : Int) : Option (Int) := lim (fun k => impl_Hash.l0 k x3 x6 x7 x8)
theorem impl_Hash.L0_co (x3 : Int) (x6 : List Int) (x7 : Int) (x8 : Int) : Co (fun k => impl_Hash.l0 k x3 x6 x7 x8) (impl_Hash.L0 x3 x6 x7 x8) := Co.base (fun k => (impl_Hash.mono_l k) _ _ _ _)
noncomputable def impl_Hash.F (l0 : List Int) : Option (Int) := lim (fun k => impl_Hash.f k l0)
theorem impl_Hash.F_co (l0 : List Int) : Co (fun k => impl_Hash.f k l0) (impl_Hash.F l0) := Co.base (fun k => impl_Hash.mono _ k)
theorem impl_Hash.L0_eq (x3 : Int) (x6 : List Int) (x7 : Int) (x8 : Int) : impl_Hash.L0 x3 x6 x7 x8 = (if x8 < x7 then (if 0 ≤ x8 then (if x8 < (x6.length : Int) then ((impl_fold.f x3 (rd x6 x8)).bind fun t246 => (impl_Hash.L0 t246 x6 x7 (wrap64 (x8 + 1)))) else (none)) else (none)) else (some x3)) := by
  refine Co.step (impl_Hash.L0_co x3 x6 x7 x8) (h := fun k => (if x8 < x7 then (if 0 ≤ x8 then (if x8 < (x6.length : Int) then ((impl_fold.f x3 (rd x6 x8)).bind fun t246 => (impl_Hash.l0 k t246 x6 x7 (wrap64 (x8 + 1)))) else (none)) else (none)) else (some x3))) (fun k => by first | rfl | (simp only [impl_Hash.l0])) ?_
  repeat' first
    | (with_reducible exact Co.const _)
    | (with_reducible exact impl_Hash.L0_co _ _ _ _)
    | (with_reducible refine Co.ite ?_ ?_)
    | (with_reducible refine Co.bind ?_ (fun _ => ?_))
theorem impl_Hash.F_eq (l0 : List Int) : impl_Hash.F l0 = (impl_Hash.L0 11 l0 (l0.length : Int) 0) := by
  refine Co.same (impl_Hash.F_co l0) (h := fun k => (impl_Hash.l0 k 11 l0 (l0.length : Int) 0)) (fun k => by first | rfl | unfold impl_Hash.f; rfl) ?_
  repeat' first
    | (with_reducible exact Co.const _)
    | (with_reducible exact impl_Hash.L0_co _ _ _ _)
    | (with_reducible refine Co.ite ?_ ?_)
    | (with_reducible refine Co.bind ?_ (fun _ => ?_))

noncomputable def impl_SealMarks.L0 (x5 : List Int) (x10 : List (S62)) (x11 : Int) (x12 : Int) : Option (Int) := lim (fun k => impl_SealMarks.l0 k x5 x10 x11 x12)
theorem impl_SealMarks.L0_co (x5 : List Int) (x10 : List (S62)) (x11 : Int) (x12 : Int) : Co (fun k => impl_SealMarks.l0 k x5 x10 x11 x12) (impl_SealMarks.L0 x5 x10 x11 x12) := Co.base (fun k => (impl_SealMarks.mono_l k) _ _ _ _)
noncomputable def impl_SealMarks.F (l0 : List (S62)) (a1 : Int) : Option (Int) := lim (fun k => impl_SealMarks.f k l0 a1)
theorem impl_SealMarks.F_co (l0 : List (S62)) (a1 : Int) : Co (fun k => impl_SealMarks.f k l0 a1) (impl_SealMarks.F l0 a1) := Co.base (fun k => impl_SealMarks.mono _ _ k)
theorem impl_SealMarks.L0_eq (x5 : List Int) (x10 : List (S62)) (x11 : Int) (x12 : Int) : impl_SealMarks.L0 x5 x10 x11 x12 = (if x12 < x11 then (if 0 ≤ x12 then (if x12 < (x10.length : Int) then ((some (([(rd_T62 x10 x12).f0, (rd_T62 x10 x12).f1] : List Int) : List Int)).bind fun y252 => (if x5.length + y252.length < 17592186044416 then (impl_SealMarks.L0 (x5 ++ y252) x10 x11 (wrap64 (x12 + 1))) else (none))) else (none)) else (none)) else ((impl_Hash.F x5).bind fun t258 => (some t258))) := by
  refine Co.step (impl_SealMarks.L0_co x5 x10 x11 x12) (h := fun k => (if x12 < x11 then (if 0 ≤ x12 then (if x12 < (x10.length : Int) then ((some (([(rd_T62 x10 x12).f0, (rd_T62 x10 x12).f1] : List Int) : List Int)).bind fun y252 => (if x5.length + y252.length < 17592186044416 then (impl_SealMarks.l0 k (x5 ++ y252) x10 x11 (wrap64 (x12 + 1))) else (none))) else (none)) else (none)) else ((impl_Hash.f k x5).bind fun t258 => (some t258)))) (fun k => by first | rfl | (simp only [impl_SealMarks.l0])) ?_
  repeat' first
    | (with_reducible exact Co.const _)
    | (with_reducible exact impl_Hash.F_co _)
    | (with_reducible exact impl_SealMarks.L0_co _ _ _ _)
    | (with_reducible refine Co.ite ?_ ?_)
    | (with_reducible refine Co.bind ?_ (fun _ => ?_))
theorem impl_SealMarks.F_eq (l0 : List (S62)) (a1 : Int) : impl_SealMarks.F l0 a1 = (impl_SealMarks.L0 (([a1] : List Int)) l0 (l0.length : Int) 0) := by
  refine Co.same (impl_SealMarks.F_co l0 a1) (h := fun k => (impl_SealMarks.l0 k (([a1] : List Int)) l0 (l0.length : Int) 0)) (fun k => by first | rfl | unfold impl_SealMarks.f; rfl) ?_
  repeat' first
    | (with_reducible exact Co.const _)
    | (with_reducible exact impl_SealMarks.L0_co _ _ _ _)
    | (with_reducible refine Co.ite ?_ ?_)
    | (with_reducible refine Co.bind ?_ (fun _ => ?_))

noncomputable def impl_AreMarks.L0 (x0 : List (S62)) (x8 : List (S62)) (x9 : Int) (x10 : Int) : Option (Bool) := lim (fun k => impl_AreMarks.l0 k x0 x8 x9 x10)
theorem impl_AreMarks.L0_co (x0 : List (S62)) (x8 : List (S62)) (x9 : Int) (x10 : Int) : Co (fun k => impl_AreMarks.l0 k x0 x8 x9 x10) (impl_AreMarks.L0 x0 x8 x9 x10) := Co.base (fun k => (impl_AreMarks.mono_l k) _ _ _ _)
noncomputable def impl_AreMarks.F (l0 : List (S62)) : Option (Bool) := lim (fun k => impl_AreMarks.f k l0)
theorem impl_AreMarks.F_co (l0 : List (S62)) : Co (fun k => impl_AreMarks.f k l0) (impl_AreMarks.F l0) := Co.base (fun k => impl_AreMarks.mono _ k)
theorem impl_AreMarks.L0_eq (x0 : List (S62)) (x8 : List (S62)) (x9 : Int) (x10 : Int) : impl_AreMarks.L0 x0 x8 x9 x10 = (if x10 < x9 then (if 0 ≤ x10 then (if x10 < (x8.length : Int) then ((impl_InRange.f ((rd_T62 x8 x10).f0) 1 20).bind fun t261 => (if t261 = true then ((impl_InRange.f ((rd_T62 x8 x10).f1) 0 99).bind fun t262 => (if t262 = true then (if x10 > 0 then (if 0 ≤ (wrap64 (x10 - 1)) then (if (wrap64 (x10 - 1)) < (x0.length : Int) then (if ((rd_T62 x8 x10).f0) ≤ ((rd_T62 x0 (wrap64 (x10 - 1))).f0) then (some false) else (impl_AreMarks.L0 x0 x8 x9 (wrap64 (x10 + 1)))) else (none)) else (none)) else (impl_AreMarks.L0 x0 x8 x9 (wrap64 (x10 + 1)))) else (some false))) else (some false))) else (none)) else (none)) else (some true)) := by
  refine Co.step (impl_AreMarks.L0_co x0 x8 x9 x10) (h := fun k => (if x10 < x9 then (if 0 ≤ x10 then (if x10 < (x8.length : Int) then ((impl_InRange.f ((rd_T62 x8 x10).f0) 1 20).bind fun t261 => (if t261 = true then ((impl_InRange.f ((rd_T62 x8 x10).f1) 0 99).bind fun t262 => (if t262 = true then (if x10 > 0 then (if 0 ≤ (wrap64 (x10 - 1)) then (if (wrap64 (x10 - 1)) < (x0.length : Int) then (if ((rd_T62 x8 x10).f0) ≤ ((rd_T62 x0 (wrap64 (x10 - 1))).f0) then (some false) else (impl_AreMarks.l0 k x0 x8 x9 (wrap64 (x10 + 1)))) else (none)) else (none)) else (impl_AreMarks.l0 k x0 x8 x9 (wrap64 (x10 + 1)))) else (some false))) else (some false))) else (none)) else (none)) else (some true))) (fun k => by first | rfl | (simp only [impl_AreMarks.l0])) ?_
  repeat' first
    | (with_reducible exact Co.const _)
    | (with_reducible exact impl_AreMarks.L0_co _ _ _ _)
    | (with_reducible refine Co.ite ?_ ?_)
    | (with_reducible refine Co.bind ?_ (fun _ => ?_))
theorem impl_AreMarks.F_eq (l0 : List (S62)) : impl_AreMarks.F l0 = (if (l0.length : Int) > 8 then (some false) else (impl_AreMarks.L0 l0 l0 (l0.length : Int) 0)) := by
  refine Co.same (impl_AreMarks.F_co l0) (h := fun k => (if (l0.length : Int) > 8 then (some false) else (impl_AreMarks.l0 k l0 l0 (l0.length : Int) 0))) (fun k => by first | rfl | unfold impl_AreMarks.f; rfl) ?_
  repeat' first
    | (with_reducible exact Co.const _)
    | (with_reducible exact impl_AreMarks.L0_co _ _ _ _)
    | (with_reducible refine Co.ite ?_ ?_)
    | (with_reducible refine Co.bind ?_ (fun _ => ?_))

noncomputable def impl_OpensSeal.F (l0 : List (S62)) (a1 : Int) (a2 : Int) : Option (Bool) := lim (fun k => impl_OpensSeal.f k l0 a1 a2)
theorem impl_OpensSeal.F_co (l0 : List (S62)) (a1 : Int) (a2 : Int) : Co (fun k => impl_OpensSeal.f k l0 a1 a2) (impl_OpensSeal.F l0 a1 a2) := Co.base (fun k => impl_OpensSeal.mono _ _ _ k)
theorem impl_OpensSeal.F_eq (l0 : List (S62)) (a1 : Int) (a2 : Int) : impl_OpensSeal.F l0 a1 a2 = ((impl_AreMarks.F l0).bind fun t264 => (if t264 = true then ((impl_SealMarks.F l0 a1).bind fun t265 => (some (t265 == a2))) else (some false))) := by
  refine Co.same (impl_OpensSeal.F_co l0 a1 a2) (h := fun k => ((impl_AreMarks.f k l0).bind fun t264 => (if t264 = true then ((impl_SealMarks.f k l0 a1).bind fun t265 => (some (t265 == a2))) else (some false)))) (fun k => by first | rfl | unfold impl_OpensSeal.f; rfl) ?_
  repeat' first
    | (with_reducible exact Co.const _)
    | (with_reducible exact impl_AreMarks.F_co _)
    | (with_reducible exact impl_SealMarks.F_co _ _)
    | (with_reducible refine Co.ite ?_ ?_)
    | (with_reducible refine Co.bind ?_ (fun _ => ?_))

noncomputable def spec_DrawQuestionFor.F (l0 : List Int) : Option ((List (S62)) × Int × Int) := lim (fun k => spec_DrawQuestionFor.f k l0)
theorem spec_DrawQuestionFor.F_co (l0 : List Int) : Co (fun k => spec_DrawQuestionFor.f k l0) (spec_DrawQuestionFor.F l0) := Co.base (fun k => spec_DrawQuestionFor.mono _ k)
theorem spec_DrawQuestionFor.F_eq (l0 : List Int) : spec_DrawQuestionFor.F l0 = ((spec_DrawSealMarks.F l0).bind fun bt266 => ((spec_l1New.F l0).bind fun bt270 => ((spec_l1Int.f bt270.1 bt270.2.1 bt270.2.2 (([0, 1, 2, 7, 1000, 1001, (-1)] : List Int))).bind fun bt277 => (some (bt266.1, bt266.2, bt277.1))))) := by
  refine Co.same (spec_DrawQuestionFor.F_co l0) (h := fun k => ((spec_DrawSealMarks.f k l0).bind fun bt266 => ((spec_l1New.f k l0).bind fun bt270 => ((spec_l1Int.f bt270.1 bt270.2.1 bt270.2.2 (([0, 1, 2, 7, 1000, 1001, (-1)] : List Int))).bind fun bt277 => (some (bt266.1, bt266.2, bt277.1)))))) (fun k => by first | rfl | unfold spec_DrawQuestionFor.f; rfl) ?_
  repeat' first
    | (with_reducible exact Co.const _)
    | (with_reducible exact spec_DrawSealMarks.F_co _)
    | (with_reducible exact spec_l1New.F_co _)
    | (with_reducible refine Co.ite ?_ ?_)
    | (with_reducible refine Co.bind ?_ (fun _ => ?_))

noncomputable def impl_QuestionFor.F (l0 : List (S62)) (a1 : Int) (a2 : Int) : Option (Int) := lim (fun k => impl_QuestionFor.f k l0 a1 a2)
theorem impl_QuestionFor.F_co (l0 : List (S62)) (a1 : Int) (a2 : Int) : Co (fun k => impl_QuestionFor.f k l0 a1 a2) (impl_QuestionFor.F l0 a1 a2) := Co.base (fun k => impl_QuestionFor.mono _ _ _ k)
theorem impl_QuestionFor.F_eq (l0 : List (S62)) (a1 : Int) (a2 : Int) : impl_QuestionFor.F l0 a1 a2 = (if (l0.length : Int) = 0 then (some 0) else ((impl_AreMarks.F l0).bind fun t280 => (if t280 = true then ((impl_InRange.f a2 0 1000).bind fun t281 => (if t281 = true then ((impl_Hash.F (([a1] : List Int))).bind fun t285 => (if 0 ≤ (Int.tmod (wrap64 ((Int.tmod t285 (l0.length : Int)) + a2)) (l0.length : Int)) then (if (Int.tmod (wrap64 ((Int.tmod t285 (l0.length : Int)) + a2)) (l0.length : Int)) < (l0.length : Int) then (some ((rd_T62 l0 (Int.tmod (wrap64 ((Int.tmod t285 (l0.length : Int)) + a2)) (l0.length : Int))).f0)) else (none)) else (none))) else (some 0))) else (some 0)))) := by
  refine Co.same (impl_QuestionFor.F_co l0 a1 a2) (h := fun k => (if (l0.length : Int) = 0 then (some 0) else ((impl_AreMarks.f k l0).bind fun t280 => (if t280 = true then ((impl_InRange.f a2 0 1000).bind fun t281 => (if t281 = true then ((impl_Hash.f k (([a1] : List Int))).bind fun t285 => (if 0 ≤ (Int.tmod (wrap64 ((Int.tmod t285 (l0.length : Int)) + a2)) (l0.length : Int)) then (if (Int.tmod (wrap64 ((Int.tmod t285 (l0.length : Int)) + a2)) (l0.length : Int)) < (l0.length : Int) then (some ((rd_T62 l0 (Int.tmod (wrap64 ((Int.tmod t285 (l0.length : Int)) + a2)) (l0.length : Int))).f0)) else (none)) else (none))) else (some 0))) else (some 0))))) (fun k => by first | rfl | unfold impl_QuestionFor.f; rfl) ?_
  repeat' first
    | (with_reducible exact Co.const _)
    | (with_reducible exact impl_AreMarks.F_co _)
    | (with_reducible exact impl_Hash.F_co _)
    | (with_reducible refine Co.ite ?_ ?_)
    | (with_reducible refine Co.bind ?_ (fun _ => ?_))

noncomputable def impl_AnswerOf.L0 (x1 : Int) (x7 : List (S62)) (x8 : Int) (x9 : Int) : Option (Int) := lim (fun k => impl_AnswerOf.l0 k x1 x7 x8 x9)
theorem impl_AnswerOf.L0_co (x1 : Int) (x7 : List (S62)) (x8 : Int) (x9 : Int) : Co (fun k => impl_AnswerOf.l0 k x1 x7 x8 x9) (impl_AnswerOf.L0 x1 x7 x8 x9) := Co.base (fun k => (impl_AnswerOf.mono_l k) _ _ _ _)
noncomputable def impl_AnswerOf.F (l0 : List (S62)) (a1 : Int) : Option (Int) := lim (fun k => impl_AnswerOf.f k l0 a1)
theorem impl_AnswerOf.F_co (l0 : List (S62)) (a1 : Int) : Co (fun k => impl_AnswerOf.f k l0 a1) (impl_AnswerOf.F l0 a1) := Co.base (fun k => impl_AnswerOf.mono _ _ k)
theorem impl_AnswerOf.L0_eq (x1 : Int) (x7 : List (S62)) (x8 : Int) (x9 : Int) : impl_AnswerOf.L0 x1 x7 x8 x9 = (if x9 < x8 then (if 0 ≤ x9 then (if x9 < (x7.length : Int) then (if ((rd_T62 x7 x9).f0) = x1 then (some ((rd_T62 x7 x9).f1)) else (impl_AnswerOf.L0 x1 x7 x8 (wrap64 (x9 + 1)))) else (none)) else (none)) else (some (-1))) := by
  refine Co.step (impl_AnswerOf.L0_co x1 x7 x8 x9) (h := fun k => (if x9 < x8 then (if 0 ≤ x9 then (if x9 < (x7.length : Int) then (if ((rd_T62 x7 x9).f0) = x1 then (some ((rd_T62 x7 x9).f1)) else (impl_AnswerOf.l0 k x1 x7 x8 (wrap64 (x9 + 1)))) else (none)) else (none)) else (some (-1)))) (fun k => by first | rfl | (simp only [impl_AnswerOf.l0])) ?_
  repeat' first
    | (with_reducible exact Co.const _)
    | (with_reducible exact impl_AnswerOf.L0_co _ _ _ _)
    | (with_reducible refine Co.ite ?_ ?_)
    | (with_reducible refine Co.bind ?_ (fun _ => ?_))
theorem impl_AnswerOf.F_eq (l0 : List (S62)) (a1 : Int) : impl_AnswerOf.F l0 a1 = (impl_AnswerOf.L0 a1 l0 (l0.length : Int) 0) := by
  refine Co.same (impl_AnswerOf.F_co l0 a1) (h := fun k => (impl_AnswerOf.l0 k a1 l0 (l0.length : Int) 0)) (fun k => by first | rfl | unfold impl_AnswerOf.f; rfl) ?_
  repeat' first
    | (with_reducible exact Co.const _)
    | (with_reducible exact impl_AnswerOf.L0_co _ _ _ _)
    | (with_reducible refine Co.ite ?_ ?_)
    | (with_reducible refine Co.bind ?_ (fun _ => ?_))

noncomputable def spec_DrawPutMark.F (l0 : List Int) : Option ((List (S62)) × Int × Int) := lim (fun k => spec_DrawPutMark.f k l0)
theorem spec_DrawPutMark.F_co (l0 : List Int) : Co (fun k => spec_DrawPutMark.f k l0) (spec_DrawPutMark.F l0) := Co.base (fun k => spec_DrawPutMark.mono _ k)
theorem spec_DrawPutMark.F_eq (l0 : List Int) : spec_DrawPutMark.F l0 = ((spec_l1New.F l0).bind fun bt290 => ((spec_l11Any.F bt290.1 bt290.2.1 bt290.2.2).bind fun bt294 => ((spec_l1Below.f bt290.1 bt294.2.1 bt294.2.2 12).bind fun bt299 => ((spec_l1Int.f bt290.1 bt299.2.1 bt299.2.2 (([0, 5, 99, 100] : List Int))).bind fun bt305 => (some (bt294.1, bt299.1, bt305.1)))))) := by
  refine Co.same (spec_DrawPutMark.F_co l0) (h := fun k => ((spec_l1New.f k l0).bind fun bt290 => ((spec_l11Any.f k bt290.1 bt290.2.1 bt290.2.2).bind fun bt294 => ((spec_l1Below.f bt290.1 bt294.2.1 bt294.2.2 12).bind fun bt299 => ((spec_l1Int.f bt290.1 bt299.2.1 bt299.2.2 (([0, 5, 99, 100] : List Int))).bind fun bt305 => (some (bt294.1, bt299.1, bt305.1))))))) (fun k => by first | rfl | unfold spec_DrawPutMark.f; rfl) ?_
  repeat' first
    | (with_reducible exact Co.const _)
    | (with_reducible exact spec_l11Any.F_co _ _ _)
    | (with_reducible exact spec_l1New.F_co _)
    | (with_reducible refine Co.ite ?_ ?_)
    | (with_reducible refine Co.bind ?_ (fun _ => ?_))

noncomputable def impl_PutMark.J1 (x0 : List (S62)) (x6 : List (S62)) (x7 : Int) (x315000 : Int) (x315001 : Int) : Option ((List (S62)) × Bool) := lim (fun k => impl_PutMark.j1 k x0 x6 x7 x315000 x315001)
theorem impl_PutMark.J1_co (x0 : List (S62)) (x6 : List (S62)) (x7 : Int) (x315000 : Int) (x315001 : Int) : Co (fun k => impl_PutMark.j1 k x0 x6 x7 x315000 x315001) (impl_PutMark.J1 x0 x6 x7 x315000 x315001) := Co.base (fun k => (impl_PutMark.mono_l k).1 _ _ _ _ _)
noncomputable def impl_PutMark.J2 (x0 : List (S62)) (x6 : List (S62)) (x7 : Int) (x39 : Bool) (x315000 : Int) (x315001 : Int) : Option ((List (S62)) × Bool) := lim (fun k => impl_PutMark.j2 k x0 x6 x7 x39 x315000 x315001)
theorem impl_PutMark.J2_co (x0 : List (S62)) (x6 : List (S62)) (x7 : Int) (x39 : Bool) (x315000 : Int) (x315001 : Int) : Co (fun k => impl_PutMark.j2 k x0 x6 x7 x39 x315000 x315001) (impl_PutMark.J2 x0 x6 x7 x39 x315000 x315001) := Co.base (fun k => (impl_PutMark.mono_l k).2.1 _ _ _ _ _ _)
noncomputable def impl_PutMark.J3 (x0 : List (S62)) (x6 : List (S62)) : Option ((List (S62)) × Bool) := lim (fun k => impl_PutMark.j3 k x0 x6)
theorem impl_PutMark.J3_co (x0 : List (S62)) (x6 : List (S62)) : Co (fun k => impl_PutMark.j3 k x0 x6) (impl_PutMark.J3 x0 x6) := Co.base (fun k => (impl_PutMark.mono_l k).2.2.1 _ _)
noncomputable def impl_PutMark.L0 (x0 : List (S62)) (x6 : List (S62)) (x7 : Int) (x315000 : Int) (x315001 : Int) : Option ((List (S62)) × Bool) := lim (fun k => impl_PutMark.l0 k x0 x6 x7 x315000 x315001)
theorem impl_PutMark.L0_co (x0 : List (S62)) (x6 : List (S62)) (x7 : Int) (x315000 : Int) (x315001 : Int) : Co (fun k => impl_PutMark.l0 k x0 x6 x7 x315000 x315001) (impl_PutMark.L0 x0 x6 x7 x315000 x315001) := Co.base (fun k => (impl_PutMark.mono_l k).2.2.2 _ _ _ _ _)
noncomputable def impl_PutMark.F (l0 : List (S62)) (a1_0 : Int) (a1_1 : Int) : Option ((List (S62)) × Bool) := lim (fun k => impl_PutMark.f k l0 a1_0 a1_1)
theorem impl_PutMark.F_co (l0 : List (S62)) (a1_0 : Int) (a1_1 : Int) : Co (fun k => impl_PutMark.f k l0 a1_0 a1_1) (impl_PutMark.F l0 a1_0 a1_1) := Co.base (fun k => impl_PutMark.mono _ _ _ k)
theorem impl_PutMark.J1_eq (x0 : List (S62)) (x6 : List (S62)) (x7 : Int) (x315000 : Int) (x315001 : Int) : impl_PutMark.J1 x0 x6 x7 x315000 x315001 = (if x7 < (x0.length : Int) then (if 0 ≤ x7 then (impl_PutMark.J2 x0 x6 x7 (((rd_T62 x0 x7).f0) == x315000) x315000 x315001) else (none)) else (impl_PutMark.J2 x0 x6 x7 false x315000 x315001)) := by
  refine Co.step (impl_PutMark.J1_co x0 x6 x7 x315000 x315001) (h := fun k => (if x7 < (x0.length : Int) then (if 0 ≤ x7 then (impl_PutMark.j2 k x0 x6 x7 (((rd_T62 x0 x7).f0) == x315000) x315000 x315001) else (none)) else (impl_PutMark.j2 k x0 x6 x7 false x315000 x315001))) (fun k => by first | rfl | (simp only [impl_PutMark.j1])) ?_
  repeat' first
    | (with_reducible exact Co.const _)
    | (with_reducible exact impl_PutMark.J2_co _ _ _ _ _ _)
    | (with_reducible refine Co.ite ?_ ?_)
    | (with_reducible refine Co.bind ?_ (fun _ => ?_))
theorem impl_PutMark.J2_eq (x0 : List (S62)) (x6 : List (S62)) (x7 : Int) (x39 : Bool) (x315000 : Int) (x315001 : Int) : impl_PutMark.J2 x0 x6 x7 x39 x315000 x315001 = (if x39 = true then (if 0 ≤ x7 then (if x7 < (x6.length : Int) then (impl_PutMark.J3 x0 (x6.set (x7 : Int).toNat (⟨x315000, x315001⟩ : S62))) else (none)) else (none)) else ((impl_Mark_117.f x6 x7 (([(⟨x315000, x315001⟩ : S62)] : List (S62)))).bind fun t324 => (impl_PutMark.J3 x0 t324))) := by
  refine Co.step (impl_PutMark.J2_co x0 x6 x7 x39 x315000 x315001) (h := fun k => (if x39 = true then (if 0 ≤ x7 then (if x7 < (x6.length : Int) then (impl_PutMark.j3 k x0 (x6.set (x7 : Int).toNat (⟨x315000, x315001⟩ : S62))) else (none)) else (none)) else ((impl_Mark_117.f x6 x7 (([(⟨x315000, x315001⟩ : S62)] : List (S62)))).bind fun t324 => (impl_PutMark.j3 k x0 t324)))) (fun k => by first | rfl | (simp only [impl_PutMark.j2])) ?_
  repeat' first
    | (with_reducible exact Co.const _)
    | (with_reducible exact impl_PutMark.J3_co _ _)
    | (with_reducible refine Co.ite ?_ ?_)
    | (with_reducible refine Co.bind ?_ (fun _ => ?_))
theorem impl_PutMark.J3_eq (x0 : List (S62)) (x6 : List (S62)) : impl_PutMark.J3 x0 x6 = ((impl_AreMarks.F x6).bind fun t327 => (if t327 = true then (some (x6, true)) else ((impl_Mark_116.f x0).bind fun t328 => (some (t328, false))))) := by
  refine Co.step (impl_PutMark.J3_co x0 x6) (h := fun k => ((impl_AreMarks.f k x6).bind fun t327 => (if t327 = true then (some (x6, true)) else ((impl_Mark_116.f x0).bind fun t328 => (some (t328, false)))))) (fun k => by first | rfl | (simp only [impl_PutMark.j3])) ?_
  repeat' first
    | (with_reducible exact Co.const _)
    | (with_reducible exact impl_AreMarks.F_co _)
    | (with_reducible refine Co.ite ?_ ?_)
    | (with_reducible refine Co.bind ?_ (fun _ => ?_))
theorem impl_PutMark.L0_eq (x0 : List (S62)) (x6 : List (S62)) (x7 : Int) (x315000 : Int) (x315001 : Int) : impl_PutMark.L0 x0 x6 x7 x315000 x315001 = (if x7 < (x0.length : Int) then (if 0 ≤ x7 then (if ((rd_T62 x0 x7).f0) < x315000 then (impl_PutMark.L0 x0 x6 (wrap64 (x7 + 1)) x315000 x315001) else (impl_PutMark.J1 x0 x6 x7 x315000 x315001)) else (none)) else (impl_PutMark.J1 x0 x6 x7 x315000 x315001)) := by
  refine Co.step (impl_PutMark.L0_co x0 x6 x7 x315000 x315001) (h := fun k => (if x7 < (x0.length : Int) then (if 0 ≤ x7 then (if ((rd_T62 x0 x7).f0) < x315000 then (impl_PutMark.l0 k x0 x6 (wrap64 (x7 + 1)) x315000 x315001) else (impl_PutMark.j1 k x0 x6 x7 x315000 x315001)) else (none)) else (impl_PutMark.j1 k x0 x6 x7 x315000 x315001))) (fun k => by first | rfl | (simp only [impl_PutMark.l0])) ?_
  repeat' first
    | (with_reducible exact Co.const _)
    | (with_reducible exact impl_PutMark.J1_co _ _ _ _ _)
    | (with_reducible exact impl_PutMark.L0_co _ _ _ _ _)
    | (with_reducible refine Co.ite ?_ ?_)
    | (with_reducible refine Co.bind ?_ (fun _ => ?_))
theorem impl_PutMark.F_eq (l0 : List (S62)) (a1_0 : Int) (a1_1 : Int) : impl_PutMark.F l0 a1_0 a1_1 = ((impl_Mark_116.f l0).bind fun t315 => (impl_PutMark.L0 l0 t315 0 a1_0 a1_1)) := by
  refine Co.same (impl_PutMark.F_co l0 a1_0 a1_1) (h := fun k => ((impl_Mark_116.f l0).bind fun t315 => (impl_PutMark.l0 k l0 t315 0 a1_0 a1_1))) (fun k => by first | rfl | unfold impl_PutMark.f; rfl) ?_
  repeat' first
    | (with_reducible exact Co.const _)
    | (with_reducible exact impl_PutMark.L0_co _ _ _ _ _)
    | (with_reducible refine Co.ite ?_ ?_)
    | (with_reducible refine Co.bind ?_ (fun _ => ?_))

noncomputable def laws_FnMarks.J0 (x0 : List Int) (x5 : List (S62)) (x6 : Int) (x69 : Bool) : Option (Bool) := lim (fun k => laws_FnMarks.j0 k x0 x5 x6 x69)
theorem laws_FnMarks.J0_co (x0 : List Int) (x5 : List (S62)) (x6 : Int) (x69 : Bool) : Co (fun k => laws_FnMarks.j0 k x0 x5 x6 x69) (laws_FnMarks.J0 x0 x5 x6 x69) := Co.base (fun k => (laws_FnMarks.mono_l k).1 _ _ _ _)
noncomputable def laws_FnMarks.L0 (x0 : List Int) (x5 : List (S62)) (x6 : Int) (x9 : Int) (x10 : Int) : Option (Bool) := lim (fun k => laws_FnMarks.l0 k x0 x5 x6 x9 x10)
theorem laws_FnMarks.L0_co (x0 : List Int) (x5 : List (S62)) (x6 : Int) (x9 : Int) (x10 : Int) : Co (fun k => laws_FnMarks.l0 k x0 x5 x6 x9 x10) (laws_FnMarks.L0 x0 x5 x6 x9 x10) := Co.base (fun k => (laws_FnMarks.mono_l k).2.1 _ _ _ _ _)
noncomputable def laws_FnMarks.J2 (x0 : List Int) (x5 : List (S62)) (x6 : Int) (x9 : Int) (x10 : Int) (x77 : Bool) : Option (Bool) := lim (fun k => laws_FnMarks.j2 k x0 x5 x6 x9 x10 x77)
theorem laws_FnMarks.J2_co (x0 : List Int) (x5 : List (S62)) (x6 : Int) (x9 : Int) (x10 : Int) (x77 : Bool) : Co (fun k => laws_FnMarks.j2 k x0 x5 x6 x9 x10 x77) (laws_FnMarks.J2 x0 x5 x6 x9 x10 x77) := Co.base (fun k => (laws_FnMarks.mono_l k).2.2.1 _ _ _ _ _ _)
noncomputable def laws_FnMarks.L1 (x0 : List Int) (x5 : List (S62)) (x6 : Int) (x9 : Int) (x10 : Int) (x11 : Int) : Option (Bool) := lim (fun k => laws_FnMarks.l1 k x0 x5 x6 x9 x10 x11)
theorem laws_FnMarks.L1_co (x0 : List Int) (x5 : List (S62)) (x6 : Int) (x9 : Int) (x10 : Int) (x11 : Int) : Co (fun k => laws_FnMarks.l1 k x0 x5 x6 x9 x10 x11) (laws_FnMarks.L1 x0 x5 x6 x9 x10 x11) := Co.base (fun k => (laws_FnMarks.mono_l k).2.2.2.1 _ _ _ _ _ _)
noncomputable def laws_FnMarks.J4 (x0 : List Int) (x105 : Bool) : Option (Bool) := lim (fun k => laws_FnMarks.j4 k x0 x105)
theorem laws_FnMarks.J4_co (x0 : List Int) (x105 : Bool) : Co (fun k => laws_FnMarks.j4 k x0 x105) (laws_FnMarks.J4 x0 x105) := Co.base (fun k => (laws_FnMarks.mono_l k).2.2.2.2 _ _)
noncomputable def laws_FnMarks.F (l0 : List Int) : Option (Bool) := lim (fun k => laws_FnMarks.f k l0)
theorem laws_FnMarks.F_co (l0 : List Int) : Co (fun k => laws_FnMarks.f k l0) (laws_FnMarks.F l0) := Co.base (fun k => laws_FnMarks.mono _ k)
theorem laws_FnMarks.J0_eq (x0 : List Int) (x5 : List (S62)) (x6 : Int) (x69 : Bool) : laws_FnMarks.J0 x0 x5 x6 x69 = (if x69 = true then (some false) else (laws_FnMarks.L0 x0 x5 x6 0 0)) := by
  refine Co.step (laws_FnMarks.J0_co x0 x5 x6 x69) (h := fun k => (if x69 = true then (some false) else (laws_FnMarks.l0 k x0 x5 x6 0 0))) (fun k => by first | rfl | (simp only [laws_FnMarks.j0])) ?_
  repeat' first
    | (with_reducible exact Co.const _)
    | (with_reducible exact laws_FnMarks.L0_co _ _ _ _ _)
    | (with_reducible refine Co.ite ?_ ?_)
    | (with_reducible refine Co.bind ?_ (fun _ => ?_))
theorem laws_FnMarks.L0_eq (x0 : List Int) (x5 : List (S62)) (x6 : Int) (x9 : Int) (x10 : Int) : laws_FnMarks.L0 x0 x5 x6 x9 x10 = (if x10 < (x5.length : Int) then ((impl_AreMarks.F x5).bind fun t350 => (laws_FnMarks.J2 x0 x5 x6 x9 x10 t350)) else (laws_FnMarks.J2 x0 x5 x6 x9 x10 false)) := by
  refine Co.step (laws_FnMarks.L0_co x0 x5 x6 x9 x10) (h := fun k => (if x10 < (x5.length : Int) then ((impl_AreMarks.f k x5).bind fun t350 => (laws_FnMarks.j2 k x0 x5 x6 x9 x10 t350)) else (laws_FnMarks.j2 k x0 x5 x6 x9 x10 false))) (fun k => by first | rfl | (simp only [laws_FnMarks.l0])) ?_
  repeat' first
    | (with_reducible exact Co.const _)
    | (with_reducible exact impl_AreMarks.F_co _)
    | (with_reducible exact laws_FnMarks.J2_co _ _ _ _ _ _)
    | (with_reducible refine Co.ite ?_ ?_)
    | (with_reducible refine Co.bind ?_ (fun _ => ?_))
theorem laws_FnMarks.J2_eq (x0 : List Int) (x5 : List (S62)) (x6 : Int) (x9 : Int) (x10 : Int) (x77 : Bool) : laws_FnMarks.J2 x0 x5 x6 x9 x10 x77 = (if x77 = true then (laws_FnMarks.L1 x0 x5 x6 x9 x10 0) else ((impl_AreMarks.F x5).bind fun t353 => (if t353 = true then (laws_FnMarks.J4 x0 (x9 != (x5.length : Int))) else (laws_FnMarks.J4 x0 false)))) := by
  refine Co.step (laws_FnMarks.J2_co x0 x5 x6 x9 x10 x77) (h := fun k => (if x77 = true then (laws_FnMarks.l1 k x0 x5 x6 x9 x10 0) else ((impl_AreMarks.f k x5).bind fun t353 => (if t353 = true then (laws_FnMarks.j4 k x0 (x9 != (x5.length : Int))) else (laws_FnMarks.j4 k x0 false))))) (fun k => by first | rfl | (simp only [laws_FnMarks.j2])) ?_
  repeat' first
    | (with_reducible exact Co.const _)
    | (with_reducible exact impl_AreMarks.F_co _)
    | (with_reducible exact laws_FnMarks.J4_co _ _)
    | (with_reducible exact laws_FnMarks.L1_co _ _ _ _ _ _)
    | (with_reducible refine Co.ite ?_ ?_)
    | (with_reducible refine Co.bind ?_ (fun _ => ?_))
theorem laws_FnMarks.L1_eq (x0 : List Int) (x5 : List (S62)) (x6 : Int) (x9 : Int) (x10 : Int) (x11 : Int) : laws_FnMarks.L1 x0 x5 x6 x9 x10 x11 = (if x11 < (x5.length : Int) then ((impl_QuestionFor.F x5 x6 x11).bind fun t351 => (if 0 ≤ x10 then (if x10 < (x5.length : Int) then (if t351 = ((rd_T62 x5 x10).f0) then (laws_FnMarks.L1 x0 x5 x6 (wrap64 (x9 + 1)) x10 (wrap64 (x11 + 1))) else (laws_FnMarks.L1 x0 x5 x6 x9 x10 (wrap64 (x11 + 1)))) else (none)) else (none))) else (laws_FnMarks.L0 x0 x5 x6 x9 (wrap64 (x10 + 1)))) := by
  refine Co.step (laws_FnMarks.L1_co x0 x5 x6 x9 x10 x11) (h := fun k => (if x11 < (x5.length : Int) then ((impl_QuestionFor.f k x5 x6 x11).bind fun t351 => (if 0 ≤ x10 then (if x10 < (x5.length : Int) then (if t351 = ((rd_T62 x5 x10).f0) then (laws_FnMarks.l1 k x0 x5 x6 (wrap64 (x9 + 1)) x10 (wrap64 (x11 + 1))) else (laws_FnMarks.l1 k x0 x5 x6 x9 x10 (wrap64 (x11 + 1)))) else (none)) else (none))) else (laws_FnMarks.l0 k x0 x5 x6 x9 (wrap64 (x10 + 1))))) (fun k => by first | rfl | (simp only [laws_FnMarks.l1])) ?_
  repeat' first
    | (with_reducible exact Co.const _)
    | (with_reducible exact impl_QuestionFor.F_co _ _ _)
    | (with_reducible exact laws_FnMarks.L0_co _ _ _ _ _)
    | (with_reducible exact laws_FnMarks.L1_co _ _ _ _ _ _)
    | (with_reducible refine Co.ite ?_ ?_)
    | (with_reducible refine Co.bind ?_ (fun _ => ?_))
theorem laws_FnMarks.J4_eq (x0 : List Int) (x105 : Bool) : laws_FnMarks.J4 x0 x105 = (if x105 = true then (some false) else ((spec_DrawPutMark.F x0).bind fun bt354 => ((impl_PutMark.F bt354.1 bt354.2.1 bt354.2.2).bind fun bt360 => (if bt360.2 = true then ((impl_AreMarks.F bt360.1).bind fun t364 => (if t364 = true then ((impl_AnswerOf.F bt360.1 bt354.2.1).bind fun t365 => (if t365 = bt354.2.2 then (some true) else (some false))) else (some false))) else (some ((bt360.1.length : Int) == (bt354.1.length : Int))))))) := by
  refine Co.step (laws_FnMarks.J4_co x0 x105) (h := fun k => (if x105 = true then (some false) else ((spec_DrawPutMark.f k x0).bind fun bt354 => ((impl_PutMark.f k bt354.1 bt354.2.1 bt354.2.2).bind fun bt360 => (if bt360.2 = true then ((impl_AreMarks.f k bt360.1).bind fun t364 => (if t364 = true then ((impl_AnswerOf.f k bt360.1 bt354.2.1).bind fun t365 => (if t365 = bt354.2.2 then (some true) else (some false))) else (some false))) else (some ((bt360.1.length : Int) == (bt354.1.length : Int)))))))) (fun k => by first | rfl | (simp only [laws_FnMarks.j4])) ?_
  repeat' first
    | (with_reducible exact Co.const _)
    | (with_reducible exact impl_AnswerOf.F_co _ _)
    | (with_reducible exact impl_AreMarks.F_co _)
    | (with_reducible exact impl_PutMark.F_co _ _ _)
    | (with_reducible exact spec_DrawPutMark.F_co _)
    | (with_reducible refine Co.ite ?_ ?_)
    | (with_reducible refine Co.bind ?_ (fun _ => ?_))
theorem laws_FnMarks.F_eq (l0 : List Int) : laws_FnMarks.F l0 = ((laws_big.f l0).bind fun t331 => (if t331 = true then (some true) else ((spec_DrawSealMarks.F l0).bind fun bt332 => ((impl_SealMarks.F bt332.1 bt332.2).bind fun t336 => ((impl_OpensSeal.F bt332.1 bt332.2 t336).bind fun t337 => ((impl_AreMarks.F bt332.1).bind fun t338 => (if (t337 != t338) = true then (some false) else ((spec_DrawQuestionFor.F l0).bind fun bt339 => ((impl_QuestionFor.F bt339.1 bt339.2.1 bt339.2.2).bind fun t344 => (if (bt339.1.length : Int) > 0 then ((impl_AreMarks.F bt339.1).bind fun t345 => (if t345 = true then (if bt339.2.2 ≥ 0 then (if ((t344 != 0) != (decide (bt339.2.2 ≤ 1000))) = true then (laws_FnMarks.J0 l0 bt339.1 bt339.2.1 true) else (if t344 = 0 then (laws_FnMarks.J0 l0 bt339.1 bt339.2.1 false) else ((impl_AnswerOf.F bt339.1 t344).bind fun t346 => (laws_FnMarks.J0 l0 bt339.1 bt339.2.1 (decide (t346 < 0)))))) else (if ((t344 != 0) != false) = true then (laws_FnMarks.J0 l0 bt339.1 bt339.2.1 true) else (if t344 = 0 then (laws_FnMarks.J0 l0 bt339.1 bt339.2.1 false) else ((impl_AnswerOf.F bt339.1 t344).bind fun t347 => (laws_FnMarks.J0 l0 bt339.1 bt339.2.1 (decide (t347 < 0))))))) else (if ((t344 != 0) != false) = true then (laws_FnMarks.J0 l0 bt339.1 bt339.2.1 true) else (if t344 = 0 then (laws_FnMarks.J0 l0 bt339.1 bt339.2.1 false) else ((impl_AnswerOf.F bt339.1 t344).bind fun t348 => (laws_FnMarks.J0 l0 bt339.1 bt339.2.1 (decide (t348 < 0)))))))) else (if ((t344 != 0) != false) = true then (laws_FnMarks.J0 l0 bt339.1 bt339.2.1 true) else (if t344 = 0 then (laws_FnMarks.J0 l0 bt339.1 bt339.2.1 false) else ((impl_AnswerOf.F bt339.1 t344).bind fun t349 => (laws_FnMarks.J0 l0 bt339.1 bt339.2.1 (decide (t349 < 0)))))))))))))))) := by
  refine Co.same (laws_FnMarks.F_co l0) (h := fun k => ((laws_big.f l0).bind fun t331 => (if t331 = true then (some true) else ((spec_DrawSealMarks.f k l0).bind fun bt332 => ((impl_SealMarks.f k bt332.1 bt332.2).bind fun t336 => ((impl_OpensSeal.f k bt332.1 bt332.2 t336).bind fun t337 => ((impl_AreMarks.f k bt332.1).bind fun t338 => (if (t337 != t338) = true then (some false) else ((spec_DrawQuestionFor.f k l0).bind fun bt339 => ((impl_QuestionFor.f k bt339.1 bt339.2.1 bt339.2.2).bind fun t344 => (if (bt339.1.length : Int) > 0 then ((impl_AreMarks.f k bt339.1).bind fun t345 => (if t345 = true then (if bt339.2.2 ≥ 0 then (if ((t344 != 0) != (decide (bt339.2.2 ≤ 1000))) = true then (laws_FnMarks.j0 k l0 bt339.1 bt339.2.1 true) else (if t344 = 0 then (laws_FnMarks.j0 k l0 bt339.1 bt339.2.1 false) else ((impl_AnswerOf.f k bt339.1 t344).bind fun t346 => (laws_FnMarks.j0 k l0 bt339.1 bt339.2.1 (decide (t346 < 0)))))) else (if ((t344 != 0) != false) = true then (laws_FnMarks.j0 k l0 bt339.1 bt339.2.1 true) else (if t344 = 0 then (laws_FnMarks.j0 k l0 bt339.1 bt339.2.1 false) else ((impl_AnswerOf.f k bt339.1 t344).bind fun t347 => (laws_FnMarks.j0 k l0 bt339.1 bt339.2.1 (decide (t347 < 0))))))) else (if ((t344 != 0) != false) = true then (laws_FnMarks.j0 k l0 bt339.1 bt339.2.1 true) else (if t344 = 0 then (laws_FnMarks.j0 k l0 bt339.1 bt339.2.1 false) else ((impl_AnswerOf.f k bt339.1 t344).bind fun t348 => (laws_FnMarks.j0 k l0 bt339.1 bt339.2.1 (decide (t348 < 0)))))))) else (if ((t344 != 0) != false) = true then (laws_FnMarks.j0 k l0 bt339.1 bt339.2.1 true) else (if t344 = 0 then (laws_FnMarks.j0 k l0 bt339.1 bt339.2.1 false) else ((impl_AnswerOf.f k bt339.1 t344).bind fun t349 => (laws_FnMarks.j0 k l0 bt339.1 bt339.2.1 (decide (t349 < 0))))))))))))))))) (fun k => by first | rfl | unfold laws_FnMarks.f; rfl) ?_
  repeat' first
    | (with_reducible exact Co.const _)
    | (with_reducible exact impl_AnswerOf.F_co _ _)
    | (with_reducible exact impl_AreMarks.F_co _)
    | (with_reducible exact impl_OpensSeal.F_co _ _ _)
    | (with_reducible exact impl_QuestionFor.F_co _ _ _)
    | (with_reducible exact impl_SealMarks.F_co _ _)
    | (with_reducible exact laws_FnMarks.J0_co _ _ _ _)
    | (with_reducible exact spec_DrawQuestionFor.F_co _)
    | (with_reducible exact spec_DrawSealMarks.F_co _)
    | (with_reducible refine Co.ite ?_ ?_)
    | (with_reducible refine Co.bind ?_ (fun _ => ?_))

end Go.Proofs.Ytppgealmedaihaa.PFnMarks.Pure
