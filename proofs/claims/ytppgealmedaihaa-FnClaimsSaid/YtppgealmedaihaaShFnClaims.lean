/-
  The words of the pure statement of loop.example/g03007/laws.FnClaims: the argument's kinds that the contract does not name, and that its numbers fit.
-/
import Derived.Test.YtppgealmedaihaaPFnClaimsx12
namespace Go.Proofs.Ytppgealmedaihaa.PFnClaims.Pure
open Go.RowKit Go.Proofs.YtppgealmedaihaaW.PrintWords Go.Proofs.Ytppgealmedaihaa.PFnClaims
end Go.Proofs.Ytppgealmedaihaa.PFnClaims.Pure
