/-
  The parts of a code: for a law's walk that is told in several theorems.
-/
import Derived.Test.YtlodmdmcgalkmaaWWords
namespace Go.Proofs.Ytlodmdmcgalkmaa.Short
open Go
def bodyC (f : Func) : Code := match f.body with
  | some c => c
  | none => .skip
def fstC : Code → Code
  | .seq a _ => a
  | c => c
def sndC : Code → Code
  | .seq _ b => b
  | c => c
end Go.Proofs.Ytlodmdmcgalkmaa.Short
