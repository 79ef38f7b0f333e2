/-
  The words of the pure statement of loop.example/g03007/laws.FnExactSetState: the argument's kinds that the contract does not name, and that its numbers fit.
-/
import Derived.Test.YtbbfelgojaioaaaPFnExactSetStatex8
namespace Go.Proofs.Ytbbfelgojaioaaa.PFnExactSetState.Pure
open Go.RowKit Go.Proofs.YtbbfelgojaioaaaW.PrintWords Go.Proofs.Ytbbfelgojaioaaa.PFnExactSetState
def ok123 (y : S123) : Prop := (fun n : Int => (Lit.int .i64 n).wf = true) y.f0 ∧ (fun n : Int => (Lit.int .i64 n).wf = true) y.f1 ∧ (fun n : Int => (Lit.int .i64 n).wf = true) y.f2 ∧ (fun n : Int => (Lit.int .i64 n).wf = true) y.f3 ∧ (fun n : Int => (Lit.int .i64 n).wf = true) y.f4
end Go.Proofs.Ytbbfelgojaioaaa.PFnExactSetState.Pure
