/-
  The words of the pure statement of loop.example/g03007/laws.FnRoutes: the argument's kinds that the contract does not name, and that its numbers fit.
-/
import Derived.Test.YtkfalbaklodnjaaPFnRoutesx11
namespace Go.Proofs.Ytkfalbaklodnjaa.PFnRoutes.Pure
open Go.RowKit Go.Proofs.YtkfalbaklodnjaaW.PrintWords Go.Proofs.Ytkfalbaklodnjaa.PFnRoutes
end Go.Proofs.Ytkfalbaklodnjaa.PFnRoutes.Pure
