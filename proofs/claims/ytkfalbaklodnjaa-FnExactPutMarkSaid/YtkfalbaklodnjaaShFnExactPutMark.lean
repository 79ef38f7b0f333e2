/-
  The words of the pure statement of loop.example/g03007/laws.FnExactPutMark: the argument's kinds that the contract does not name, and that its numbers fit.
-/
import Derived.Test.YtkfalbaklodnjaaPFnExactPutMarkx7
namespace Go.Proofs.Ytkfalbaklodnjaa.PFnExactPutMark.Pure
open Go.RowKit Go.Proofs.YtkfalbaklodnjaaW.PrintWords Go.Proofs.Ytkfalbaklodnjaa.PFnExactPutMark
def ok24 (y : S24) : Prop := (fun n : Int => (Lit.int .i64 n).wf = true) y.f0 ∧ (fun n : Int => (Lit.int .i64 n).wf = true) y.f1
end Go.Proofs.Ytkfalbaklodnjaa.PFnExactPutMark.Pure
