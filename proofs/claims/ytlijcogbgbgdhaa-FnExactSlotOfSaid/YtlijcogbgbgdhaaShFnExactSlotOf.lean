/-
  The words of the pure statement of loop.example/g03007/laws.FnExactSlotOf: the argument's kinds that the contract does not name, and that its numbers fit.
-/
import Derived.Test.YtlijcogbgbgdhaaPFnExactSlotOfx2
namespace Go.Proofs.Ytlijcogbgbgdhaa.PFnExactSlotOf.Pure
open Go.RowKit Go.Proofs.YtlijcogbgbgdhaaW.PrintWords Go.Proofs.Ytlijcogbgbgdhaa.PFnExactSlotOf
def ok78 (y : S78) : Prop := (fun n : Int => (Lit.int .i64 n).wf = true) y.f0 ∧ (fun n : Int => (Lit.int .i64 n).wf = true) y.f1 ∧ (fun n : Int => (Lit.int .i64 n).wf = true) y.f2
end Go.Proofs.Ytlijcogbgbgdhaa.PFnExactSlotOf.Pure
