/-
  The words of the pure statement of loop.example/g03007/laws.FnMatches: the argument's kinds that the contract does not name, and that its numbers fit.
-/
import Derived.Test.YtmammjfomgfjhaaPFnMatchesx14
namespace Go.Proofs.Ytmammjfomgfjhaa.PFnMatches.Pure
open Go.RowKit Go.Proofs.YtmammjfomgfjhaaW.PrintWords Go.Proofs.Ytmammjfomgfjhaa.PFnMatches
end Go.Proofs.Ytmammjfomgfjhaa.PFnMatches.Pure
