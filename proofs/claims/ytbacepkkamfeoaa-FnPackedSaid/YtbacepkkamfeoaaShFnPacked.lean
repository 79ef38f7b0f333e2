/-
  The words of the pure statement of loop.example/g03007/laws.FnPacked: the argument's kinds that the contract does not name, and that its numbers fit.
-/
import Derived.Test.YtbacepkkamfeoaaPFnPackedx15
namespace Go.Proofs.Ytbacepkkamfeoaa.PFnPacked.Pure
open Go.RowKit Go.Proofs.YtbacepkkamfeoaaW.PrintWords Go.Proofs.Ytbacepkkamfeoaa.PFnPacked
end Go.Proofs.Ytbacepkkamfeoaa.PFnPacked.Pure
