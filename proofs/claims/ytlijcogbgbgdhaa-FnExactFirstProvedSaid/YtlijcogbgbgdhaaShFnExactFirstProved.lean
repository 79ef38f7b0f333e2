/-
  The words of the pure statement of loop.example/g03007/laws.FnExactFirstProved: the argument's kinds that the contract does not name, and that its numbers fit.
-/
import Derived.Test.YtlijcogbgbgdhaaPFnExactFirstProvedx2
namespace Go.Proofs.Ytlijcogbgbgdhaa.PFnExactFirstProved.Pure
open Go.RowKit Go.Proofs.YtlijcogbgbgdhaaW.PrintWords Go.Proofs.Ytlijcogbgbgdhaa.PFnExactFirstProved
def ok98 (y : S98) : Prop := (fun n : Int => (Lit.int .i64 n).wf = true) y.f0 ∧ (fun n : Int => (Lit.int .i64 n).wf = true) y.f1 ∧ (fun n : Int => (Lit.int .i64 n).wf = true) y.f2 ∧ (fun n : Int => (Lit.int .i64 n).wf = true) y.f3 ∧ (fun n : Int => (Lit.int .i64 n).wf = true) y.f4
end Go.Proofs.Ytlijcogbgbgdhaa.PFnExactFirstProved.Pure
