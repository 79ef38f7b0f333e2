/-
  The words of the pure statement of loop.example/g03007/laws.FnExactAreClaims: the argument's kinds that the contract does not name, and that its numbers fit.
-/
import Derived.Test.YtjokfllhbmodeaaPFnExactAreClaimsx5
namespace Go.Proofs.Ytjokfllhbmodeaa.PFnExactAreClaims.Pure
open Go.RowKit Go.Proofs.YtjokfllhbmodeaaW.PrintWords Go.Proofs.Ytjokfllhbmodeaa.PFnExactAreClaims
def ok124 (y : S124) : Prop := (fun n : Int => (Lit.int .i64 n).wf = true) y.f0 ∧ (fun n : Int => (Lit.int .i64 n).wf = true) y.f1 ∧ (fun n : Int => (Lit.int .i64 n).wf = true) y.f2 ∧ (fun n : Int => (Lit.int .i64 n).wf = true) y.f3 ∧ (fun n : Int => (Lit.int .i64 n).wf = true) y.f4
end Go.Proofs.Ytjokfllhbmodeaa.PFnExactAreClaims.Pure
