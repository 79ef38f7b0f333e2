/-
  The words of the pure statement of loop.example/g03007/laws.FnExactAddClaim: the argument's kinds that the contract does not name, and that its numbers fit.
-/
import Derived.Test.YtppgealmedaihaaPFnExactAddClaimx9
namespace Go.Proofs.Ytppgealmedaihaa.PFnExactAddClaim.Pure
open Go.RowKit Go.Proofs.YtppgealmedaihaaW.PrintWords Go.Proofs.Ytppgealmedaihaa.PFnExactAddClaim
def ok78 (y : S78) : Prop := (fun n : Int => (Lit.int .i64 n).wf = true) y.f0 ∧ (fun n : Int => (Lit.int .i64 n).wf = true) y.f1 ∧ (fun n : Int => (Lit.int .i64 n).wf = true) y.f2 ∧ (fun n : Int => (Lit.int .i64 n).wf = true) y.f3 ∧ (fun n : Int => (Lit.int .i64 n).wf = true) y.f4
end Go.Proofs.Ytppgealmedaihaa.PFnExactAddClaim.Pure
