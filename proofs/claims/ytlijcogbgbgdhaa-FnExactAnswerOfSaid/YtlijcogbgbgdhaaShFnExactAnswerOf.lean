/-
  The words of the pure statement of loop.example/g03007/laws.FnExactAnswerOf: the argument's kinds that the contract does not name, and that its numbers fit.
-/
import Derived.Test.YtlijcogbgbgdhaaPFnExactAnswerOfx2
namespace Go.Proofs.Ytlijcogbgbgdhaa.PFnExactAnswerOf.Pure
open Go.RowKit Go.Proofs.YtlijcogbgbgdhaaW.PrintWords Go.Proofs.Ytlijcogbgbgdhaa.PFnExactAnswerOf
def ok73 (y : S73) : Prop := (fun n : Int => (Lit.int .i64 n).wf = true) y.f0 ∧ (fun n : Int => (Lit.int .i64 n).wf = true) y.f1
end Go.Proofs.Ytlijcogbgbgdhaa.PFnExactAnswerOf.Pure
