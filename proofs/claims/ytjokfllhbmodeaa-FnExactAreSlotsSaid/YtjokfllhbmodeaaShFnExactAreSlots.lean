/-
  The words of the pure statement of loop.example/g03007/laws.FnExactAreSlots: the argument's kinds that the contract does not name, and that its numbers fit.
-/
import Derived.Test.YtjokfllhbmodeaaPFnExactAreSlotsx5
namespace Go.Proofs.Ytjokfllhbmodeaa.PFnExactAreSlots.Pure
open Go.RowKit Go.Proofs.YtjokfllhbmodeaaW.PrintWords Go.Proofs.Ytjokfllhbmodeaa.PFnExactAreSlots
def ok133 (y : S133) : Prop := (fun n : Int => (Lit.int .i64 n).wf = true) y.f0 ∧ (fun n : Int => (Lit.int .i64 n).wf = true) y.f1 ∧ (fun n : Int => (Lit.int .i64 n).wf = true) y.f2
end Go.Proofs.Ytjokfllhbmodeaa.PFnExactAreSlots.Pure
