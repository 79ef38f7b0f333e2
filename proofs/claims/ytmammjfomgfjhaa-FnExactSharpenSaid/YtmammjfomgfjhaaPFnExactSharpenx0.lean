-- The printed functions of one law and their contracts, over contracts of this session's own (hand.py).
import Derived.Test.YtmammjfomgfjhaaProg
import Derived.Below
import Derived.Deep.Draws
import Derived.Deep.AppendLies
import Derived.Maps.AppendAt
import Derived.OwnWalk
import Derived.Laws.BytesArg
import Derived.Laws.MakeOwn
import Derived.Laws.OwnMore
import Derived.Deep.OwnRows
import Derived.Tactics
import Derived.Lib.ConvBytes
import Derived.Laws.Slices
import Derived.WalkKit
import Derived.KernelRfl
import Derived.RowKit3
import Derived.Deep.LoopGhost
import Derived.Deep.QuietTactic
import Derived.BigQuiet
import Derived.WideLaws
import Derived.Deep.DeepCutAuto
import Derived.Deep.CutBlock
import Derived.Deep.RegionHeld3
import Derived.Laws.Rows
import Derived.Lib.AppendStr
import Derived.ArgAppend
import Derived.Laws.IdiomCopy
import Derived.OrdersHeld
import Derived.Laws.BitsLemmas
import Derived.RowKit
import Derived.Shelf.Abstract
import Derived.Lib.SliceRun
import Derived.Test.YtmammjfomgfjhaaStep
import Derived.Test.YtmammjfomgfjhaaFar
import Derived.Test.YtmammjfomgfjhaaTac
import Derived.Test.YtmammjfomgfjhaaWWords
import Derived.Test.YtmammjfomgfjhaaWLast
import Derived.Test.YtmammjfomgfjhaaWTab
import Derived.Test.YtmammjfomgfjhaaWQPut
import Derived.Test.YtmammjfomgfjhaaWApart
import Derived.Test.YtmammjfomgfjhaaWArr
import Derived.Test.YtmammjfomgfjhaaWZeros
import Derived.Test.YtmammjfomgfjhaaWFoot
import Derived.Test.YtmammjfomgfjhaaWKept
import Derived.Test.YtmammjfomgfjhaaWShare
import Derived.Test.YtmammjfomgfjhaaWN
import Derived.Test.YtmammjfomgfjhaaWRepsOne
import Derived.Test.YtmammjfomgfjhaaWGuard
import Derived.Test.YtmammjfomgfjhaaWNEv
import Derived.Test.YtmammjfomgfjhaaWMore
namespace Go.Proofs.Ytmammjfomgfjhaa.PFnExactSharpen
open Go.RowKit Go.Proofs.YtmammjfomgfjhaaW.PrintWords Go.Proofs.YtmammjfomgfjhaaW.PrintLast Go.Proofs.YtmammjfomgfjhaaW.PrintMore Go.Proofs.Ytmammjfomgfjhaa.Short
attribute [local go_sem] max2_int min2_int max_two min_two max_three min_three max_four min_four   -- for this text's walks alone
set_option linter.unusedVariables false
set_option linter.unusedSimpArgs false



def errW : Option Int → Value
  | none => .nilIface
  | some c => .iface 0 (.int .i64 c)
theorem errW_none : errW none = .nilIface := rfl
theorem errW_some (c : Int) : errW (some c) = .iface 0 (.int .i64 c) := rfl

theorem info3 : (Try.prog.info? 3).map (fun i => (i.zero, i.size, i.bytes)) = some (some (.int .i64 0), 1, 8) := by kernel_rfl
-- the values' own types

end Go.Proofs.Ytmammjfomgfjhaa.PFnExactSharpen
