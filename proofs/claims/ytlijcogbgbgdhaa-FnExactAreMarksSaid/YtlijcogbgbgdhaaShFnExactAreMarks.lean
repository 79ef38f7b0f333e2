/-
  The words of the pure statement of loop.example/g03007/laws.FnExactAreMarks: the argument's kinds that the contract does not name, and that its numbers fit.
-/
import Derived.Test.YtlijcogbgbgdhaaPFnExactAreMarksx3
namespace Go.Proofs.Ytlijcogbgbgdhaa.PFnExactAreMarks.Pure
open Go.RowKit Go.Proofs.YtlijcogbgbgdhaaW.PrintWords Go.Proofs.Ytlijcogbgbgdhaa.PFnExactAreMarks
def ok73 (y : S73) : Prop := (fun n : Int => (Lit.int .i64 n).wf = true) y.f0 ∧ (fun n : Int => (Lit.int .i64 n).wf = true) y.f1
end Go.Proofs.Ytlijcogbgbgdhaa.PFnExactAreMarks.Pure
