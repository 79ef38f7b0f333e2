/-
  The words of the pure statement of loop.example/g03007/laws.FnReports: the argument's kinds that the contract does not name, and that its numbers fit.
-/
import Derived.Test.YtfolhmompclmbaaPFnReportsx9
namespace Go.Proofs.Ytfolhmompclmbaa.PFnReports.Pure
open Go.RowKit Go.Proofs.YtfolhmompclmbaaW.PrintWords Go.Proofs.Ytfolhmompclmbaa.PFnReports
end Go.Proofs.Ytfolhmompclmbaa.PFnReports.Pure
