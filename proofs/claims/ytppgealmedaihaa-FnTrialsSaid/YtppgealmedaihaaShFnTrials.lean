/-
  The words of the pure statement of loop.example/g03007/laws.FnTrials: the argument's kinds that the contract does not name, and that its numbers fit.
-/
import Derived.Test.YtppgealmedaihaaPFnTrialsx11
namespace Go.Proofs.Ytppgealmedaihaa.PFnTrials.Pure
open Go.RowKit Go.Proofs.YtppgealmedaihaaW.PrintWords Go.Proofs.Ytppgealmedaihaa.PFnTrials
end Go.Proofs.Ytppgealmedaihaa.PFnTrials.Pure
