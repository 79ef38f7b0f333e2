/-
  The words of the pure statement of loop.example/g03007/laws.FnExactQuestionFor: the argument's kinds that the contract does not name, and that its numbers fit.
-/
import Derived.Test.YtjokfllhbmodeaaPFnExactQuestionForx3
namespace Go.Proofs.Ytjokfllhbmodeaa.PFnExactQuestionFor.Pure
open Go.RowKit Go.Proofs.YtjokfllhbmodeaaW.PrintWords Go.Proofs.Ytjokfllhbmodeaa.PFnExactQuestionFor
def ok130 (y : S130) : Prop := (fun n : Int => (Lit.int .i64 n).wf = true) y.f0 ∧ (fun n : Int => (Lit.int .i64 n).wf = true) y.f1
end Go.Proofs.Ytjokfllhbmodeaa.PFnExactQuestionFor.Pure
