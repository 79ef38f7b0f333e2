/-
  No cell of these rows narrows 'for every input' (looked for: loops, veiled, ifaces, maps, wideKeys, modest, calm, conditions, laid).
  DERIVED. THE GIVEN ROWS OF THIS SEAT. 12 by the template 'for every input the law returns true; each argument reads behind the call as it read before'; 0 by the template 'total and deterministic' (their statements: YtkfalbaklodnjaaTotals.lean).
  GIVEN WITH THE SEED: the statements are not yours to turn. If you find one false, say at which input.
  Laid BY PROGRAM, IN A SANDBOX (cutbox-rows.mjs): the forced cells as the released guide's own fill.sh prints them over the translation c5a7fa044fa797cf… (all of the seat's roots in one cut). By AI agents, Wed Nov 11 2026. No macro, syntax, notation, axiom, sorry.
-/
import Derived.Test.YtkfalbaklodnjaaChecked
import GoSem.Claim
import GoSem.ClaimJoined
import GoSem.ClaimMapViews
import Derived.JoinedTies
import Derived.KernelRfl
namespace Go.Proofs.Ytkfalbaklodnjaa
/- THE CELL 'sum', in the pinned program and in every row, IS THE sha256 OF THE DUMP (.gsa) THAT YtkfalbaklodnjaaProg.lean LOADS. Nothing in Lean hashes anything: it is a label: what it is worth is what the hold of that sum in a sandbox is worth. -/
noncomputable def Try.pinned : Pinned := { name := "ytkfalbaklodnjaa", sum := "c5a7fa044fa797cf059bb67328ecd8a040ca640cfe14fb218bbae92c01b9e9de", checked := Try.checked }
namespace Rows
def none {H : Type} : Left H := { results := [], args := [] }

/-- 'laws.FnExactPutMark': WHATEVER THE INPUT: true; the input reads as it did. -/
def fnExactPutMarkSpec : ChangeSpec := { name := "fnExactPutMark", fn := fun _ => fun
  | [d1, d2] => { results := [.lit (.bool true)], args := [d1, d2] }
  | _ => none }
def fnExactPutMarkRow : OpenClaim := { program := "ytkfalbaklodnjaa", sum := "c5a7fa044fa797cf059bb67328ecd8a040ca640cfe14fb218bbae92c01b9e9de", func := "loop.example/g03007/laws.FnExactPutMark", spec := "fnExactPutMark", inPlace := ["slices.overlaps[loop.example/g03007/impl.Mark]"], apart := false }
def FnExactPutMarkSaid : Prop := fnExactPutMarkRow.holds Try.pinned (OpenSpec.ofChange fnExactPutMarkSpec)

/-- ITS FALSE NEIGHBOUR: 'it returns false'. Refute it at one input. -/
def fnExactPutMarkWrong : ChangeSpec := { name := "fnExactPutMark", fn := fun _ => fun
  | [d1, d2] => { results := [.lit (.bool false)], args := [d1, d2] }
  | _ => none }
def FnExactPutMarkWrongFalsely : Prop := fnExactPutMarkRow.holds Try.pinned (OpenSpec.ofChange fnExactPutMarkWrong)

/-- 'laws.FnExactLeftBetween': WHATEVER THE INPUT: true; the input reads as it did. -/
def fnExactLeftBetweenSpec : ChangeSpec := { name := "fnExactLeftBetween", fn := fun _ => fun
  | [d1, d2] => { results := [.lit (.bool true)], args := [d1, d2] }
  | _ => none }
def fnExactLeftBetweenRow : OpenClaim := { program := "ytkfalbaklodnjaa", sum := "c5a7fa044fa797cf059bb67328ecd8a040ca640cfe14fb218bbae92c01b9e9de", func := "loop.example/g03007/laws.FnExactLeftBetween", spec := "fnExactLeftBetween", recurses := true, apart := false }
def FnExactLeftBetweenSaid : Prop := fnExactLeftBetweenRow.holds Try.pinned (OpenSpec.ofChange fnExactLeftBetweenSpec)

/-- ITS FALSE NEIGHBOUR: 'it returns false'. Refute it at one input. -/
def fnExactLeftBetweenWrong : ChangeSpec := { name := "fnExactLeftBetween", fn := fun _ => fun
  | [d1, d2] => { results := [.lit (.bool false)], args := [d1, d2] }
  | _ => none }
def FnExactLeftBetweenWrongFalsely : Prop := fnExactLeftBetweenRow.holds Try.pinned (OpenSpec.ofChange fnExactLeftBetweenWrong)

/-- 'laws.FnExactPutAll': WHATEVER THE INPUT: true; the input reads as it did. -/
def fnExactPutAllSpec : ChangeSpec := { name := "fnExactPutAll", fn := fun _ => fun
  | [d1, d2] => { results := [.lit (.bool true)], args := [d1, d2] }
  | _ => none }
def fnExactPutAllRow : OpenClaim := { program := "ytkfalbaklodnjaa", sum := "c5a7fa044fa797cf059bb67328ecd8a040ca640cfe14fb218bbae92c01b9e9de", func := "loop.example/g03007/laws.FnExactPutAll", spec := "fnExactPutAll", unfollowed := true, recurses := true, apart := false }
def FnExactPutAllSaid : Prop := fnExactPutAllRow.holds Try.pinned (OpenSpec.ofChange fnExactPutAllSpec)

/-- ITS FALSE NEIGHBOUR: 'it returns false'. Refute it at one input. -/
def fnExactPutAllWrong : ChangeSpec := { name := "fnExactPutAll", fn := fun _ => fun
  | [d1, d2] => { results := [.lit (.bool false)], args := [d1, d2] }
  | _ => none }
def FnExactPutAllWrongFalsely : Prop := fnExactPutAllRow.holds Try.pinned (OpenSpec.ofChange fnExactPutAllWrong)

/-- 'laws.FnExactCanHold': WHATEVER THE INPUT: true; the input reads as it did. -/
def fnExactCanHoldSpec : ChangeSpec := { name := "fnExactCanHold", fn := fun _ => fun
  | [d1, d2] => { results := [.lit (.bool true)], args := [d1, d2] }
  | _ => none }
def fnExactCanHoldRow : OpenClaim := { program := "ytkfalbaklodnjaa", sum := "c5a7fa044fa797cf059bb67328ecd8a040ca640cfe14fb218bbae92c01b9e9de", func := "loop.example/g03007/laws.FnExactCanHold", spec := "fnExactCanHold", unfollowed := true, recurses := true, apart := false }
def FnExactCanHoldSaid : Prop := fnExactCanHoldRow.holds Try.pinned (OpenSpec.ofChange fnExactCanHoldSpec)

/-- ITS FALSE NEIGHBOUR: 'it returns false'. Refute it at one input. -/
def fnExactCanHoldWrong : ChangeSpec := { name := "fnExactCanHold", fn := fun _ => fun
  | [d1, d2] => { results := [.lit (.bool false)], args := [d1, d2] }
  | _ => none }
def FnExactCanHoldWrongFalsely : Prop := fnExactCanHoldRow.holds Try.pinned (OpenSpec.ofChange fnExactCanHoldWrong)

/-- 'laws.FnShelves': WHATEVER THE INPUT: true; the input reads as it did. -/
def fnShelvesSpec : ChangeSpec := { name := "fnShelves", fn := fun _ => fun
  | [d] => { results := [.lit (.bool true)], args := [d] }
  | _ => none }
def fnShelvesRow : OpenClaim := { program := "ytkfalbaklodnjaa", sum := "c5a7fa044fa797cf059bb67328ecd8a040ca640cfe14fb218bbae92c01b9e9de", func := "loop.example/g03007/laws.FnShelves", spec := "fnShelves", unfollowed := true, recurses := true, apart := false }
def FnShelvesSaid : Prop := fnShelvesRow.holds Try.pinned (OpenSpec.ofChange fnShelvesSpec)

/-- ITS FALSE NEIGHBOUR: 'it returns false'. Refute it at one input. -/
def fnShelvesWrong : ChangeSpec := { name := "fnShelves", fn := fun _ => fun
  | [d] => { results := [.lit (.bool false)], args := [d] }
  | _ => none }
def FnShelvesWrongFalsely : Prop := fnShelvesRow.holds Try.pinned (OpenSpec.ofChange fnShelvesWrong)

/-- 'laws.FnExactJoinDoubts': WHATEVER THE INPUT: true; the input reads as it did. -/
def fnExactJoinDoubtsSpec : ChangeSpec := { name := "fnExactJoinDoubts", fn := fun _ => fun
  | [d1, d2] => { results := [.lit (.bool true)], args := [d1, d2] }
  | _ => none }
def fnExactJoinDoubtsRow : OpenClaim := { program := "ytkfalbaklodnjaa", sum := "c5a7fa044fa797cf059bb67328ecd8a040ca640cfe14fb218bbae92c01b9e9de", func := "loop.example/g03007/laws.FnExactJoinDoubts", spec := "fnExactJoinDoubts", recurses := true, apart := false }
def FnExactJoinDoubtsSaid : Prop := fnExactJoinDoubtsRow.holds Try.pinned (OpenSpec.ofChange fnExactJoinDoubtsSpec)

/-- ITS FALSE NEIGHBOUR: 'it returns false'. Refute it at one input. -/
def fnExactJoinDoubtsWrong : ChangeSpec := { name := "fnExactJoinDoubts", fn := fun _ => fun
  | [d1, d2] => { results := [.lit (.bool false)], args := [d1, d2] }
  | _ => none }
def FnExactJoinDoubtsWrongFalsely : Prop := fnExactJoinDoubtsRow.holds Try.pinned (OpenSpec.ofChange fnExactJoinDoubtsWrong)

/-- 'laws.FnExactRemember': WHATEVER THE INPUT: true; the input reads as it did. -/
def fnExactRememberSpec : ChangeSpec := { name := "fnExactRemember", fn := fun _ => fun
  | [d1, d2, d3] => { results := [.lit (.bool true)], args := [d1, d2, d3] }
  | _ => none }
def fnExactRememberRow : OpenClaim := { program := "ytkfalbaklodnjaa", sum := "c5a7fa044fa797cf059bb67328ecd8a040ca640cfe14fb218bbae92c01b9e9de", func := "loop.example/g03007/laws.FnExactRemember", spec := "fnExactRemember", recurses := true, apart := false }
def FnExactRememberSaid : Prop := fnExactRememberRow.holds Try.pinned (OpenSpec.ofChange fnExactRememberSpec)

/-- ITS FALSE NEIGHBOUR: 'it returns false'. Refute it at one input. -/
def fnExactRememberWrong : ChangeSpec := { name := "fnExactRemember", fn := fun _ => fun
  | [d1, d2, d3] => { results := [.lit (.bool false)], args := [d1, d2, d3] }
  | _ => none }
def FnExactRememberWrongFalsely : Prop := fnExactRememberRow.holds Try.pinned (OpenSpec.ofChange fnExactRememberWrong)

/-- 'laws.FnExactPutReport': WHATEVER THE INPUT: true; the input reads as it did. -/
def fnExactPutReportSpec : ChangeSpec := { name := "fnExactPutReport", fn := fun _ => fun
  | [d1, d2] => { results := [.lit (.bool true)], args := [d1, d2] }
  | _ => none }
def fnExactPutReportRow : OpenClaim := { program := "ytkfalbaklodnjaa", sum := "c5a7fa044fa797cf059bb67328ecd8a040ca640cfe14fb218bbae92c01b9e9de", func := "loop.example/g03007/laws.FnExactPutReport", spec := "fnExactPutReport", inPlace := ["slices.overlaps[loop.example/g03007/impl.Report]"], unfollowed := true, recurses := true, apart := false }
def FnExactPutReportSaid : Prop := fnExactPutReportRow.holds Try.pinned (OpenSpec.ofChange fnExactPutReportSpec)

/-- ITS FALSE NEIGHBOUR: 'it returns false'. Refute it at one input. -/
def fnExactPutReportWrong : ChangeSpec := { name := "fnExactPutReport", fn := fun _ => fun
  | [d1, d2] => { results := [.lit (.bool false)], args := [d1, d2] }
  | _ => none }
def FnExactPutReportWrongFalsely : Prop := fnExactPutReportRow.holds Try.pinned (OpenSpec.ofChange fnExactPutReportWrong)

/-- 'laws.FnExactAlongRoute': WHATEVER THE INPUT: true; the input reads as it did. -/
def fnExactAlongRouteSpec : ChangeSpec := { name := "fnExactAlongRoute", fn := fun _ => fun
  | [d1, d2] => { results := [.lit (.bool true)], args := [d1, d2] }
  | _ => none }
def fnExactAlongRouteRow : OpenClaim := { program := "ytkfalbaklodnjaa", sum := "c5a7fa044fa797cf059bb67328ecd8a040ca640cfe14fb218bbae92c01b9e9de", func := "loop.example/g03007/laws.FnExactAlongRoute", spec := "fnExactAlongRoute", recurses := true, apart := false }
def FnExactAlongRouteSaid : Prop := fnExactAlongRouteRow.holds Try.pinned (OpenSpec.ofChange fnExactAlongRouteSpec)

/-- ITS FALSE NEIGHBOUR: 'it returns false'. Refute it at one input. -/
def fnExactAlongRouteWrong : ChangeSpec := { name := "fnExactAlongRoute", fn := fun _ => fun
  | [d1, d2] => { results := [.lit (.bool false)], args := [d1, d2] }
  | _ => none }
def FnExactAlongRouteWrongFalsely : Prop := fnExactAlongRouteRow.holds Try.pinned (OpenSpec.ofChange fnExactAlongRouteWrong)

/-- 'laws.FnPacked': WHATEVER THE INPUT: true; the input reads as it did. -/
def fnPackedSpec : ChangeSpec := { name := "fnPacked", fn := fun _ => fun
  | [d] => { results := [.lit (.bool true)], args := [d] }
  | _ => none }
def fnPackedRow : OpenClaim := { program := "ytkfalbaklodnjaa", sum := "c5a7fa044fa797cf059bb67328ecd8a040ca640cfe14fb218bbae92c01b9e9de", func := "loop.example/g03007/laws.FnPacked", spec := "fnPacked", unfollowed := true, recurses := true, apart := false }
def FnPackedSaid : Prop := fnPackedRow.holds Try.pinned (OpenSpec.ofChange fnPackedSpec)

/-- ITS FALSE NEIGHBOUR: 'it returns false'. Refute it at one input. -/
def fnPackedWrong : ChangeSpec := { name := "fnPacked", fn := fun _ => fun
  | [d] => { results := [.lit (.bool false)], args := [d] }
  | _ => none }
def FnPackedWrongFalsely : Prop := fnPackedRow.holds Try.pinned (OpenSpec.ofChange fnPackedWrong)

/-- 'laws.FnRoutes': WHATEVER THE INPUT: true; the input reads as it did. -/
def fnRoutesSpec : ChangeSpec := { name := "fnRoutes", fn := fun _ => fun
  | [d] => { results := [.lit (.bool true)], args := [d] }
  | _ => none }
def fnRoutesRow : OpenClaim := { program := "ytkfalbaklodnjaa", sum := "c5a7fa044fa797cf059bb67328ecd8a040ca640cfe14fb218bbae92c01b9e9de", func := "loop.example/g03007/laws.FnRoutes", spec := "fnRoutes", recurses := true, apart := false }
def FnRoutesSaid : Prop := fnRoutesRow.holds Try.pinned (OpenSpec.ofChange fnRoutesSpec)

/-- ITS FALSE NEIGHBOUR: 'it returns false'. Refute it at one input. -/
def fnRoutesWrong : ChangeSpec := { name := "fnRoutes", fn := fun _ => fun
  | [d] => { results := [.lit (.bool false)], args := [d] }
  | _ => none }
def FnRoutesWrongFalsely : Prop := fnRoutesRow.holds Try.pinned (OpenSpec.ofChange fnRoutesWrong)

/-- 'laws.FnRemembered': WHATEVER THE INPUT: true; the input reads as it did. -/
def fnRememberedSpec : ChangeSpec := { name := "fnRemembered", fn := fun _ => fun
  | [d] => { results := [.lit (.bool true)], args := [d] }
  | _ => none }
def fnRememberedRow : OpenClaim := { program := "ytkfalbaklodnjaa", sum := "c5a7fa044fa797cf059bb67328ecd8a040ca640cfe14fb218bbae92c01b9e9de", func := "loop.example/g03007/laws.FnRemembered", spec := "fnRemembered", recurses := true, apart := false }
def FnRememberedSaid : Prop := fnRememberedRow.holds Try.pinned (OpenSpec.ofChange fnRememberedSpec)

/-- ITS FALSE NEIGHBOUR: 'it returns false'. Refute it at one input. -/
def fnRememberedWrong : ChangeSpec := { name := "fnRemembered", fn := fun _ => fun
  | [d] => { results := [.lit (.bool false)], args := [d] }
  | _ => none }
def FnRememberedWrongFalsely : Prop := fnRememberedRow.holds Try.pinned (OpenSpec.ofChange fnRememberedWrong)

/- THE SECOND FORM. 'bulk': how many values and letters a reading holds, each counted each time it is reached (what is shared counts as often as it is met; a slice's spare places count too). A statement '..UptoSaid' is the law's where the arguments, and the package variables that the reading takes, are together of bulk at most 1048576: NARROWER than '..Said'. Prove '..Said' where nothing that the law and all that it calls make is longer than what came in: it says more and counts as full. Else prove '..UptoSaid'. A law counts once. -/
mutual
def uptoBulk {H : Type} : DataW H → Nat
  | .lit (.string bytes) => bytes.length + 1
  | .lit _ => 1
  | .nil => 1
  | .ptr d => uptoBulk d + 1
  | .slice elems spare => uptoBulkAll elems + uptoBulkAll spare + 1
  | .agg parts => uptoBulkAll parts + 1
  | .iface _ d => uptoBulk d + 1
  | .map entries => uptoBulkEntries entries + 1
  | .held _ => 1
def uptoBulkAll {H : Type} : List (DataW H) → Nat
  | [] => 0
  | d :: r => uptoBulk d + uptoBulkAll r
def uptoBulkEntries {H : Type} : List (Lit × DataW H) → Nat
  | [] => 0
  | x :: r => uptoBulkEntry x + uptoBulkEntries r
def uptoBulkEntry {H : Type} : Lit × DataW H → Nat
  | (.string bytes, d) => bytes.length + uptoBulk d + 1
  | (_, d) => uptoBulk d + 1
 end
def uptoSmall : (H : Type) → List (DataW H) → Bool := fun _ ds => decide (uptoBulkAll ds ≤ 1048576)
def OpenSpec.upto (s : _root_.Go.ChangeSpec) : _root_.Go.OpenSpec := { _root_.Go.OpenSpec.ofChange s with cond := some uptoSmall }

/-- 'laws.FnExactPutMark', WHERE WHAT IT READS IS OF BULK AT MOST 1048576: true; the input reads as it did. -/
def fnExactPutMarkUptoRow : OpenClaim := { program := "ytkfalbaklodnjaa", sum := "c5a7fa044fa797cf059bb67328ecd8a040ca640cfe14fb218bbae92c01b9e9de", func := "loop.example/g03007/laws.FnExactPutMark", spec := "fnExactPutMark", inPlace := ["slices.overlaps[loop.example/g03007/impl.Mark]"], apart := false, narrowed := true }
def FnExactPutMarkUptoSaid : Prop := fnExactPutMarkUptoRow.holds Try.pinned (OpenSpec.upto fnExactPutMarkSpec)

/-- 'laws.FnExactLeftBetween', WHERE WHAT IT READS IS OF BULK AT MOST 1048576: true; the input reads as it did. -/
def fnExactLeftBetweenUptoRow : OpenClaim := { program := "ytkfalbaklodnjaa", sum := "c5a7fa044fa797cf059bb67328ecd8a040ca640cfe14fb218bbae92c01b9e9de", func := "loop.example/g03007/laws.FnExactLeftBetween", spec := "fnExactLeftBetween", recurses := true, apart := false, narrowed := true }
def FnExactLeftBetweenUptoSaid : Prop := fnExactLeftBetweenUptoRow.holds Try.pinned (OpenSpec.upto fnExactLeftBetweenSpec)

/-- 'laws.FnExactPutAll', WHERE WHAT IT READS IS OF BULK AT MOST 1048576: true; the input reads as it did. -/
def fnExactPutAllUptoRow : OpenClaim := { program := "ytkfalbaklodnjaa", sum := "c5a7fa044fa797cf059bb67328ecd8a040ca640cfe14fb218bbae92c01b9e9de", func := "loop.example/g03007/laws.FnExactPutAll", spec := "fnExactPutAll", unfollowed := true, recurses := true, apart := false, narrowed := true }
def FnExactPutAllUptoSaid : Prop := fnExactPutAllUptoRow.holds Try.pinned (OpenSpec.upto fnExactPutAllSpec)

/-- 'laws.FnExactCanHold', WHERE WHAT IT READS IS OF BULK AT MOST 1048576: true; the input reads as it did. -/
def fnExactCanHoldUptoRow : OpenClaim := { program := "ytkfalbaklodnjaa", sum := "c5a7fa044fa797cf059bb67328ecd8a040ca640cfe14fb218bbae92c01b9e9de", func := "loop.example/g03007/laws.FnExactCanHold", spec := "fnExactCanHold", unfollowed := true, recurses := true, apart := false, narrowed := true }
def FnExactCanHoldUptoSaid : Prop := fnExactCanHoldUptoRow.holds Try.pinned (OpenSpec.upto fnExactCanHoldSpec)

/-- 'laws.FnShelves', WHERE WHAT IT READS IS OF BULK AT MOST 1048576: true; the input reads as it did. -/
def fnShelvesUptoRow : OpenClaim := { program := "ytkfalbaklodnjaa", sum := "c5a7fa044fa797cf059bb67328ecd8a040ca640cfe14fb218bbae92c01b9e9de", func := "loop.example/g03007/laws.FnShelves", spec := "fnShelves", unfollowed := true, recurses := true, apart := false, narrowed := true }
def FnShelvesUptoSaid : Prop := fnShelvesUptoRow.holds Try.pinned (OpenSpec.upto fnShelvesSpec)

/-- 'laws.FnExactJoinDoubts', WHERE WHAT IT READS IS OF BULK AT MOST 1048576: true; the input reads as it did. -/
def fnExactJoinDoubtsUptoRow : OpenClaim := { program := "ytkfalbaklodnjaa", sum := "c5a7fa044fa797cf059bb67328ecd8a040ca640cfe14fb218bbae92c01b9e9de", func := "loop.example/g03007/laws.FnExactJoinDoubts", spec := "fnExactJoinDoubts", recurses := true, apart := false, narrowed := true }
def FnExactJoinDoubtsUptoSaid : Prop := fnExactJoinDoubtsUptoRow.holds Try.pinned (OpenSpec.upto fnExactJoinDoubtsSpec)

/-- 'laws.FnExactRemember', WHERE WHAT IT READS IS OF BULK AT MOST 1048576: true; the input reads as it did. -/
def fnExactRememberUptoRow : OpenClaim := { program := "ytkfalbaklodnjaa", sum := "c5a7fa044fa797cf059bb67328ecd8a040ca640cfe14fb218bbae92c01b9e9de", func := "loop.example/g03007/laws.FnExactRemember", spec := "fnExactRemember", recurses := true, apart := false, narrowed := true }
def FnExactRememberUptoSaid : Prop := fnExactRememberUptoRow.holds Try.pinned (OpenSpec.upto fnExactRememberSpec)

/-- 'laws.FnExactPutReport', WHERE WHAT IT READS IS OF BULK AT MOST 1048576: true; the input reads as it did. -/
def fnExactPutReportUptoRow : OpenClaim := { program := "ytkfalbaklodnjaa", sum := "c5a7fa044fa797cf059bb67328ecd8a040ca640cfe14fb218bbae92c01b9e9de", func := "loop.example/g03007/laws.FnExactPutReport", spec := "fnExactPutReport", inPlace := ["slices.overlaps[loop.example/g03007/impl.Report]"], unfollowed := true, recurses := true, apart := false, narrowed := true }
def FnExactPutReportUptoSaid : Prop := fnExactPutReportUptoRow.holds Try.pinned (OpenSpec.upto fnExactPutReportSpec)

/-- 'laws.FnExactAlongRoute', WHERE WHAT IT READS IS OF BULK AT MOST 1048576: true; the input reads as it did. -/
def fnExactAlongRouteUptoRow : OpenClaim := { program := "ytkfalbaklodnjaa", sum := "c5a7fa044fa797cf059bb67328ecd8a040ca640cfe14fb218bbae92c01b9e9de", func := "loop.example/g03007/laws.FnExactAlongRoute", spec := "fnExactAlongRoute", recurses := true, apart := false, narrowed := true }
def FnExactAlongRouteUptoSaid : Prop := fnExactAlongRouteUptoRow.holds Try.pinned (OpenSpec.upto fnExactAlongRouteSpec)

/-- 'laws.FnPacked', WHERE WHAT IT READS IS OF BULK AT MOST 1048576: true; the input reads as it did. -/
def fnPackedUptoRow : OpenClaim := { program := "ytkfalbaklodnjaa", sum := "c5a7fa044fa797cf059bb67328ecd8a040ca640cfe14fb218bbae92c01b9e9de", func := "loop.example/g03007/laws.FnPacked", spec := "fnPacked", unfollowed := true, recurses := true, apart := false, narrowed := true }
def FnPackedUptoSaid : Prop := fnPackedUptoRow.holds Try.pinned (OpenSpec.upto fnPackedSpec)

/-- 'laws.FnRoutes', WHERE WHAT IT READS IS OF BULK AT MOST 1048576: true; the input reads as it did. -/
def fnRoutesUptoRow : OpenClaim := { program := "ytkfalbaklodnjaa", sum := "c5a7fa044fa797cf059bb67328ecd8a040ca640cfe14fb218bbae92c01b9e9de", func := "loop.example/g03007/laws.FnRoutes", spec := "fnRoutes", recurses := true, apart := false, narrowed := true }
def FnRoutesUptoSaid : Prop := fnRoutesUptoRow.holds Try.pinned (OpenSpec.upto fnRoutesSpec)

/-- 'laws.FnRemembered', WHERE WHAT IT READS IS OF BULK AT MOST 1048576: true; the input reads as it did. -/
def fnRememberedUptoRow : OpenClaim := { program := "ytkfalbaklodnjaa", sum := "c5a7fa044fa797cf059bb67328ecd8a040ca640cfe14fb218bbae92c01b9e9de", func := "loop.example/g03007/laws.FnRemembered", spec := "fnRemembered", recurses := true, apart := false, narrowed := true }
def FnRememberedUptoSaid : Prop := fnRememberedUptoRow.holds Try.pinned (OpenSpec.upto fnRememberedSpec)

end Rows
end Go.Proofs.Ytkfalbaklodnjaa
