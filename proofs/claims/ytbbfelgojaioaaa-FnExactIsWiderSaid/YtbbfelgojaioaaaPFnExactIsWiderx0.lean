-- The printed functions of one law and their contracts, over contracts of this session's own (hand.py).
import Derived.Test.YtbbfelgojaioaaaProg
import Derived.Below
import Derived.Deep.Draws
import Derived.Deep.AppendLies
import Derived.Maps.AppendAt
import Derived.OwnWalk
import Derived.Laws.BytesArg
import Derived.Laws.MakeOwn
import Derived.Laws.OwnMore
import Derived.Deep.OwnRows
import Derived.Tactics
import Derived.Lib.ConvBytes
import Derived.Laws.Slices
import Derived.WalkKit
import Derived.KernelRfl
import Derived.RowKit3
import Derived.Deep.LoopGhost
import Derived.Deep.QuietTactic
import Derived.BigQuiet
import Derived.WideLaws
import Derived.Deep.DeepCutAuto
import Derived.Deep.CutBlock
import Derived.Deep.RegionHeld3
import Derived.Laws.Rows
import Derived.Lib.AppendStr
import Derived.ArgAppend
import Derived.Laws.IdiomCopy
import Derived.OrdersHeld
import Derived.Laws.BitsLemmas
import Derived.RowKit
import Derived.Shelf.Abstract
import Derived.Test.YtbbfelgojaioaaaShort
import Derived.Test.YtbbfelgojaioaaaWWords
import Derived.Test.YtbbfelgojaioaaaWLast
import Derived.Test.YtbbfelgojaioaaaWQPut
import Derived.Test.YtbbfelgojaioaaaWApart
import Derived.Test.YtbbfelgojaioaaaWArr
import Derived.Test.YtbbfelgojaioaaaWZeros
import Derived.Test.YtbbfelgojaioaaaWFoot
import Derived.Test.YtbbfelgojaioaaaWKept
import Derived.Test.YtbbfelgojaioaaaWShare
import Derived.Test.YtbbfelgojaioaaaWN
import Derived.Test.YtbbfelgojaioaaaWRepsOne
import Derived.Test.YtbbfelgojaioaaaWGuard
import Derived.Test.YtbbfelgojaioaaaWNEv
import Derived.Test.YtbbfelgojaioaaaWMore
namespace Go.Proofs.Ytbbfelgojaioaaa.PFnExactIsWider
open Go.RowKit Go.Proofs.YtbbfelgojaioaaaW.PrintWords Go.Proofs.YtbbfelgojaioaaaW.PrintLast Go.Proofs.YtbbfelgojaioaaaW.PrintMore Go.Proofs.Ytbbfelgojaioaaa.Short
attribute [local go_sem] max2_int min2_int max_two min_two max_three min_three max_four min_four   -- for this text's walks alone
set_option linter.unusedVariables false
set_option linter.unusedSimpArgs false



def errW : Option Int → Value
  | none => .nilIface
  | some c => .iface 0 (.int .i64 c)
theorem errW_none : errW none = .nilIface := rfl
theorem errW_some (c : Int) : errW (some c) = .iface 0 (.int .i64 c) := rfl

theorem info3 : (Try.prog.info? 3).map (fun i => (i.zero, i.size, i.bytes)) = some (some (.int .i64 0), 1, 8) := by kernel_rfl
-- the values' own types

end Go.Proofs.Ytbbfelgojaioaaa.PFnExactIsWider
