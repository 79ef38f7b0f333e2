/-
  The words of the pure statement of loop.example/g03007/laws.FnExactTakeOut: the argument's kinds that the contract does not name, and that its numbers fit.
-/
import Derived.Test.YtbbfelgojaioaaaPFnExactTakeOutx6
namespace Go.Proofs.Ytbbfelgojaioaaa.PFnExactTakeOut.Pure
open Go.RowKit Go.Proofs.YtbbfelgojaioaaaW.PrintWords Go.Proofs.Ytbbfelgojaioaaa.PFnExactTakeOut
def ok110 (y : S110) : Prop := (fun n : Int => (Lit.int .i64 n).wf = true) y.f0 ∧ (fun n : Int => (Lit.int .i64 n).wf = true) y.f1 ∧ (fun n : Int => (Lit.int .i64 n).wf = true) y.f2
end Go.Proofs.Ytbbfelgojaioaaa.PFnExactTakeOut.Pure
