/-
  The words of the pure statement of loop.example/g03007/laws.FnExactPutAway: the argument's kinds that the contract does not name, and that its numbers fit.
-/
import Derived.Test.YtbbfelgojaioaaaPFnExactPutAwayx8
namespace Go.Proofs.Ytbbfelgojaioaaa.PFnExactPutAway.Pure
open Go.RowKit Go.Proofs.YtbbfelgojaioaaaW.PrintWords Go.Proofs.Ytbbfelgojaioaaa.PFnExactPutAway
structure S71 where
  f0 : Int
  f1 : Int
  f2 : Int
  f3 : Int
  f4 : Int
def k71 : Kd S71 := Kd.iso (Kd.pair (Kd.int .i64) (Kd.pair (Kd.int .i64) (Kd.pair (Kd.int .i64) (Kd.pair (Kd.int .i64) (Kd.int .i64))))) (fun x : S71 => (x.f0, x.f1, x.f2, x.f3, x.f4))
theorem k71_open {w : World} {x : S71} {cs : List Value} (h : k71.K w x cs) : cs = [.int .i64 x.f0, .int .i64 x.f1, .int .i64 x.f2, .int .i64 x.f3, .int .i64 x.f4] := by
  obtain ⟨_, _, rfl, rfl, ⟨_, _, rfl, rfl, ⟨_, _, rfl, rfl, ⟨_, _, rfl, rfl, rfl⟩⟩⟩⟩ := h
  exact rfl
def ok110 (y : S110) : Prop := (fun n : Int => (Lit.int .i64 n).wf = true) y.f0 ∧ (fun n : Int => (Lit.int .i64 n).wf = true) y.f1 ∧ (fun n : Int => (Lit.int .i64 n).wf = true) y.f2
def ok71 (y : S71) : Prop := (fun n : Int => (Lit.int .i64 n).wf = true) y.f0 ∧ (fun n : Int => (Lit.int .i64 n).wf = true) y.f1 ∧ (fun n : Int => (Lit.int .i64 n).wf = true) y.f2 ∧ (fun n : Int => (Lit.int .i64 n).wf = true) y.f3 ∧ (fun n : Int => (Lit.int .i64 n).wf = true) y.f4
end Go.Proofs.Ytbbfelgojaioaaa.PFnExactPutAway.Pure
