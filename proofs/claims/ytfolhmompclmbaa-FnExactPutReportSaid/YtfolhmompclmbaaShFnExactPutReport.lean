/-
  The words of the pure statement of loop.example/g03007/laws.FnExactPutReport: the argument's kinds that the contract does not name, and that its numbers fit.
-/
import Derived.Test.YtfolhmompclmbaaPFnExactPutReportx11
namespace Go.Proofs.Ytfolhmompclmbaa.PFnExactPutReport.Pure
open Go.RowKit Go.Proofs.YtfolhmompclmbaaW.PrintWords Go.Proofs.Ytfolhmompclmbaa.PFnExactPutReport
def ok42 (y : S42) : Prop := (fun n : Int => (Lit.int .i64 n).wf = true) y.f0 ∧ (fun n : Int => (Lit.int .i64 n).wf = true) y.f1
def ok44 (y : S44) : Prop := (fun n : Int => (Lit.int .i64 n).wf = true) y.f0 ∧ (fun n : Int => (Lit.int .i64 n).wf = true) y.f1 ∧ (fun xs : List Int => xs.length ≤ maxLen ∧ ∀ y ∈ xs, (fun n : Int => (Lit.int .i64 n).wf = true) y) y.f2 ∧ (fun n : Int => (Lit.int .i64 n).wf = true) y.f3 ∧ (fun n : Int => (Lit.int .i64 n).wf = true) y.f4 ∧ (fun xs : List Int => xs.length ≤ maxLen ∧ ∀ y ∈ xs, (fun n : Int => (Lit.int .i64 n).wf = true) y) y.f5 ∧ ok42 y.f6
end Go.Proofs.Ytfolhmompclmbaa.PFnExactPutReport.Pure
