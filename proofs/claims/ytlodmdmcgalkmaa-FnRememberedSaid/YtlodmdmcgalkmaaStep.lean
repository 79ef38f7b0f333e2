/-
  One step of a printed walk in one word: an operation that yields in every world, and one that nobody waits for.
-/
import Derived.Test.YtlodmdmcgalkmaaWTab
import Derived.Test.YtlodmdmcgalkmaaShort
namespace Go.Proofs.Ytlodmdmcgalkmaa.Short
open Go Go.RowKit Go.Proofs.YtlodmdmcgalkmaaW.PrintWords Go.Proofs.YtlodmdmcgalkmaaW.PrintLast
section
variable {P : Program} {ops : Array Oper} {Q : Exit → Act → World → Prop} {md : Region.Mode} {S : World → Prop} {ds : List Nat}
end
end Go.Proofs.Ytlodmdmcgalkmaa.Short
