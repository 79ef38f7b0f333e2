/-
  The words of the pure statement of loop.example/g03007/laws.FnExactCanHold: the argument's kinds that the contract does not name, and that its numbers fit.
-/
import Derived.Test.YtbacepkkamfeoaaPFnExactCanHoldx15
namespace Go.Proofs.Ytbacepkkamfeoaa.PFnExactCanHold.Pure
open Go.RowKit Go.Proofs.YtbacepkkamfeoaaW.PrintWords Go.Proofs.Ytbacepkkamfeoaa.PFnExactCanHold
def ok91 (y : S91) : Prop := (fun n : Int => (Lit.int .i64 n).wf = true) y.f0 ∧ (fun n : Int => (Lit.int .i64 n).wf = true) y.f1 ∧ (fun n : Int => (Lit.int .i64 n).wf = true) y.f2
def ok55 (y : S55) : Prop := (fun n : Int => (Lit.int .i64 n).wf = true) y.f0 ∧ (fun n : Int => (Lit.int .i64 n).wf = true) y.f1 ∧ (fun n : Int => (Lit.int .i64 n).wf = true) y.f2 ∧ (fun n : Int => (Lit.int .i64 n).wf = true) y.f3 ∧ (fun n : Int => (Lit.int .i64 n).wf = true) y.f4
end Go.Proofs.Ytbacepkkamfeoaa.PFnExactCanHold.Pure
