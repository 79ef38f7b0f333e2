/-
  The words of the pure statement of loop.example/g03007/laws.FnExactIsRoute: the argument's kinds that the contract does not name, and that its numbers fit.
-/
import Derived.Test.YtlijcogbgbgdhaaPFnExactIsRoutex5
namespace Go.Proofs.Ytlijcogbgbgdhaa.PFnExactIsRoute.Pure
open Go.RowKit Go.Proofs.YtlijcogbgbgdhaaW.PrintWords Go.Proofs.Ytlijcogbgbgdhaa.PFnExactIsRoute
def ok83 (y : S83) : Prop := (fun n : Int => (Lit.int .i64 n).wf = true) y.f0 ∧ (fun n : Int => (Lit.int .i64 n).wf = true) y.f1 ∧ (fun n : Int => (Lit.int .i64 n).wf = true) y.f2
end Go.Proofs.Ytlijcogbgbgdhaa.PFnExactIsRoute.Pure
