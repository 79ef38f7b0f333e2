/-
  The words of the pure statement of loop.example/g03007/laws.FnExactOpensSeal: the argument's kinds that the contract does not name, and that its numbers fit.
-/
import Derived.Test.YtjokfllhbmodeaaPFnExactOpensSealx4
namespace Go.Proofs.Ytjokfllhbmodeaa.PFnExactOpensSeal.Pure
open Go.RowKit Go.Proofs.YtjokfllhbmodeaaW.PrintWords Go.Proofs.Ytjokfllhbmodeaa.PFnExactOpensSeal
def ok130 (y : S130) : Prop := (fun n : Int => (Lit.int .i64 n).wf = true) y.f0 ∧ (fun n : Int => (Lit.int .i64 n).wf = true) y.f1
end Go.Proofs.Ytjokfllhbmodeaa.PFnExactOpensSeal.Pure
