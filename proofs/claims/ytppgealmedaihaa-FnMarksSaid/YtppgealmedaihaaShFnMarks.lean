/-
  The words of the pure statement of loop.example/g03007/laws.FnMarks: the argument's kinds that the contract does not name, and that its numbers fit.
-/
import Derived.Test.YtppgealmedaihaaPFnMarksx7
namespace Go.Proofs.Ytppgealmedaihaa.PFnMarks.Pure
open Go.RowKit Go.Proofs.YtppgealmedaihaaW.PrintWords Go.Proofs.Ytppgealmedaihaa.PFnMarks
end Go.Proofs.Ytppgealmedaihaa.PFnMarks.Pure
