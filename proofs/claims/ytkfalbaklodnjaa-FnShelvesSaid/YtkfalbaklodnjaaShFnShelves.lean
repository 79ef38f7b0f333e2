/-
  The words of the pure statement of loop.example/g03007/laws.FnShelves: the argument's kinds that the contract does not name, and that its numbers fit.
-/
import Derived.Test.YtkfalbaklodnjaaPFnShelvesx10
namespace Go.Proofs.Ytkfalbaklodnjaa.PFnShelves.Pure
open Go.RowKit Go.Proofs.YtkfalbaklodnjaaW.PrintWords Go.Proofs.Ytkfalbaklodnjaa.PFnShelves
end Go.Proofs.Ytkfalbaklodnjaa.PFnShelves.Pure
