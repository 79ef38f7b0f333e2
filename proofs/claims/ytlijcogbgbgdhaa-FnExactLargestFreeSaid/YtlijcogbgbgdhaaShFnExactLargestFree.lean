/-
  The words of the pure statement of loop.example/g03007/laws.FnExactLargestFree: the argument's kinds that the contract does not name, and that its numbers fit.
-/
import Derived.Test.YtlijcogbgbgdhaaPFnExactLargestFreex2
namespace Go.Proofs.Ytlijcogbgbgdhaa.PFnExactLargestFree.Pure
open Go.RowKit Go.Proofs.YtlijcogbgbgdhaaW.PrintWords Go.Proofs.Ytlijcogbgbgdhaa.PFnExactLargestFree
def ok78 (y : S78) : Prop := (fun n : Int => (Lit.int .i64 n).wf = true) y.f0 ∧ (fun n : Int => (Lit.int .i64 n).wf = true) y.f1 ∧ (fun n : Int => (Lit.int .i64 n).wf = true) y.f2
end Go.Proofs.Ytlijcogbgbgdhaa.PFnExactLargestFree.Pure
