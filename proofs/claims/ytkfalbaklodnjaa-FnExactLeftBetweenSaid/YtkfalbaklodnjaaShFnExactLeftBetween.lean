/-
  The words of the pure statement of loop.example/g03007/laws.FnExactLeftBetween: the argument's kinds that the contract does not name, and that its numbers fit.
-/
import Derived.Test.YtkfalbaklodnjaaPFnExactLeftBetweenx11
namespace Go.Proofs.Ytkfalbaklodnjaa.PFnExactLeftBetween.Pure
open Go.RowKit Go.Proofs.YtkfalbaklodnjaaW.PrintWords Go.Proofs.Ytkfalbaklodnjaa.PFnExactLeftBetween
structure S37 where
  f0 : Int
  f1 : Int
def k37 : Kd S37 := Kd.iso (Kd.pair (Kd.int .i64) (Kd.int .i64)) (fun x : S37 => (x.f0, x.f1))
theorem k37_open {w : World} {x : S37} {cs : List Value} (h : k37.K w x cs) : cs = [.int .i64 x.f0, .int .i64 x.f1] := by
  obtain ⟨_, _, rfl, rfl, rfl⟩ := h
  exact rfl
def ok154 (y : S154) : Prop := (fun n : Int => (Lit.int .i64 n).wf = true) y.f0 ∧ (fun n : Int => (Lit.int .i64 n).wf = true) y.f1 ∧ (fun n : Int => (Lit.int .i64 n).wf = true) y.f2
def ok37 (y : S37) : Prop := (fun n : Int => (Lit.int .i64 n).wf = true) y.f0 ∧ (fun n : Int => (Lit.int .i64 n).wf = true) y.f1
end Go.Proofs.Ytkfalbaklodnjaa.PFnExactLeftBetween.Pure
