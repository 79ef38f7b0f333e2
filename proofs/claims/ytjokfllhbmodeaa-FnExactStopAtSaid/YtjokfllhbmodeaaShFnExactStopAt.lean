/-
  The words of the pure statement of loop.example/g03007/laws.FnExactStopAt: the argument's kinds that the contract does not name, and that its numbers fit.
-/
import Derived.Test.YtjokfllhbmodeaaPFnExactStopAtx5
namespace Go.Proofs.Ytjokfllhbmodeaa.PFnExactStopAt.Pure
open Go.RowKit Go.Proofs.YtjokfllhbmodeaaW.PrintWords Go.Proofs.Ytjokfllhbmodeaa.PFnExactStopAt
def ok103 (y : S103) : Prop := (fun n : Int => (Lit.int .i64 n).wf = true) y.f0 ∧ (fun n : Int => (Lit.int .i64 n).wf = true) y.f1 ∧ (fun n : Int => (Lit.int .i64 n).wf = true) y.f2
end Go.Proofs.Ytjokfllhbmodeaa.PFnExactStopAt.Pure
