/-
  The words of the pure statement of loop.example/g03007/laws.FnRemembered: the argument's kinds that the contract does not name, and that its numbers fit.
-/
import Derived.Test.YtlodmdmcgalkmaaPFnRememberedx18
namespace Go.Proofs.Ytlodmdmcgalkmaa.PFnRemembered.Pure
open Go.RowKit Go.Proofs.YtlodmdmcgalkmaaW.PrintWords Go.Proofs.Ytlodmdmcgalkmaa.PFnRemembered
end Go.Proofs.Ytlodmdmcgalkmaa.PFnRemembered.Pure
