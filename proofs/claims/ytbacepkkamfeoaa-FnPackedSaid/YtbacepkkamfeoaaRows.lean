/-
  No cell of these rows narrows 'for every input' (looked for: loops, veiled, ifaces, maps, wideKeys, modest, calm, conditions, laid).
  DERIVED. THE GIVEN ROWS OF THIS SEAT. 6 by the template 'for every input the law returns true; each argument reads behind the call as it read before'; 0 by the template 'total and deterministic' (their statements: YtbacepkkamfeoaaTotals.lean).
  GIVEN WITH THE SEED: the statements are not yours to turn. If you find one false, say at which input.
  Laid BY PROGRAM, IN A SANDBOX (cutbox-rows.mjs): the forced cells as the released guide's own fill.sh prints them over the translation e0ed420d0fd798ad… (all of the seat's roots in one cut). By AI agents, Wed Nov 11 2026. No macro, syntax, notation, axiom, sorry.
-/
import Derived.Test.YtbacepkkamfeoaaChecked
import GoSem.Claim
import GoSem.ClaimJoined
import GoSem.ClaimMapViews
import Derived.JoinedTies
import Derived.KernelRfl
namespace Go.Proofs.Ytbacepkkamfeoaa
/- THE CELL 'sum', in the pinned program and in every row, IS THE sha256 OF THE DUMP (.gsa) THAT YtbacepkkamfeoaaProg.lean LOADS. Nothing in Lean hashes anything: it is a label: what it is worth is what the hold of that sum in a sandbox is worth. -/
noncomputable def Try.pinned : Pinned := { name := "ytbacepkkamfeoaa", sum := "e0ed420d0fd798ad29819cae978bbc4e0e02b38df8b0fa30319a2c05d61da19c", checked := Try.checked }
namespace Rows
def none {H : Type} : Left H := { results := [], args := [] }

/-- 'laws.FnExactCanHold': WHATEVER THE INPUT: true; the input reads as it did. -/
def fnExactCanHoldSpec : ChangeSpec := { name := "fnExactCanHold", fn := fun _ => fun
  | [d1, d2] => { results := [.lit (.bool true)], args := [d1, d2] }
  | _ => none }
def fnExactCanHoldRow : OpenClaim := { program := "ytbacepkkamfeoaa", sum := "e0ed420d0fd798ad29819cae978bbc4e0e02b38df8b0fa30319a2c05d61da19c", func := "loop.example/g03007/laws.FnExactCanHold", spec := "fnExactCanHold", unfollowed := true, recurses := true, apart := false }
def FnExactCanHoldSaid : Prop := fnExactCanHoldRow.holds Try.pinned (OpenSpec.ofChange fnExactCanHoldSpec)

/-- ITS FALSE NEIGHBOUR: 'it returns false'. Refute it at one input. -/
def fnExactCanHoldWrong : ChangeSpec := { name := "fnExactCanHold", fn := fun _ => fun
  | [d1, d2] => { results := [.lit (.bool false)], args := [d1, d2] }
  | _ => none }
def FnExactCanHoldWrongFalsely : Prop := fnExactCanHoldRow.holds Try.pinned (OpenSpec.ofChange fnExactCanHoldWrong)

/-- 'laws.FnPacked': WHATEVER THE INPUT: true; the input reads as it did. -/
def fnPackedSpec : ChangeSpec := { name := "fnPacked", fn := fun _ => fun
  | [d] => { results := [.lit (.bool true)], args := [d] }
  | _ => none }
def fnPackedRow : OpenClaim := { program := "ytbacepkkamfeoaa", sum := "e0ed420d0fd798ad29819cae978bbc4e0e02b38df8b0fa30319a2c05d61da19c", func := "loop.example/g03007/laws.FnPacked", spec := "fnPacked", unfollowed := true, recurses := true, apart := false }
def FnPackedSaid : Prop := fnPackedRow.holds Try.pinned (OpenSpec.ofChange fnPackedSpec)

/-- ITS FALSE NEIGHBOUR: 'it returns false'. Refute it at one input. -/
def fnPackedWrong : ChangeSpec := { name := "fnPacked", fn := fun _ => fun
  | [d] => { results := [.lit (.bool false)], args := [d] }
  | _ => none }
def FnPackedWrongFalsely : Prop := fnPackedRow.holds Try.pinned (OpenSpec.ofChange fnPackedWrong)

/-- 'laws.FnExactPutAll': WHATEVER THE INPUT: true; the input reads as it did. -/
def fnExactPutAllSpec : ChangeSpec := { name := "fnExactPutAll", fn := fun _ => fun
  | [d1, d2] => { results := [.lit (.bool true)], args := [d1, d2] }
  | _ => none }
def fnExactPutAllRow : OpenClaim := { program := "ytbacepkkamfeoaa", sum := "e0ed420d0fd798ad29819cae978bbc4e0e02b38df8b0fa30319a2c05d61da19c", func := "loop.example/g03007/laws.FnExactPutAll", spec := "fnExactPutAll", unfollowed := true, recurses := true, apart := false }
def FnExactPutAllSaid : Prop := fnExactPutAllRow.holds Try.pinned (OpenSpec.ofChange fnExactPutAllSpec)

/-- ITS FALSE NEIGHBOUR: 'it returns false'. Refute it at one input. -/
def fnExactPutAllWrong : ChangeSpec := { name := "fnExactPutAll", fn := fun _ => fun
  | [d1, d2] => { results := [.lit (.bool false)], args := [d1, d2] }
  | _ => none }
def FnExactPutAllWrongFalsely : Prop := fnExactPutAllRow.holds Try.pinned (OpenSpec.ofChange fnExactPutAllWrong)

/-- 'laws.FnExactSeekers': WHATEVER THE INPUT: true; the input reads as it did. -/
def fnExactSeekersSpec : ChangeSpec := { name := "fnExactSeekers", fn := fun _ => fun
  | [d1, d2] => { results := [.lit (.bool true)], args := [d1, d2] }
  | _ => none }
def fnExactSeekersRow : OpenClaim := { program := "ytbacepkkamfeoaa", sum := "e0ed420d0fd798ad29819cae978bbc4e0e02b38df8b0fa30319a2c05d61da19c", func := "loop.example/g03007/laws.FnExactSeekers", spec := "fnExactSeekers", apart := false }
def FnExactSeekersSaid : Prop := fnExactSeekersRow.holds Try.pinned (OpenSpec.ofChange fnExactSeekersSpec)

/-- ITS FALSE NEIGHBOUR: 'it returns false'. Refute it at one input. -/
def fnExactSeekersWrong : ChangeSpec := { name := "fnExactSeekers", fn := fun _ => fun
  | [d1, d2] => { results := [.lit (.bool false)], args := [d1, d2] }
  | _ => none }
def FnExactSeekersWrongFalsely : Prop := fnExactSeekersRow.holds Try.pinned (OpenSpec.ofChange fnExactSeekersWrong)

/-- 'laws.FnReports': WHATEVER THE INPUT: true; the input reads as it did. -/
def fnReportsSpec : ChangeSpec := { name := "fnReports", fn := fun _ => fun
  | [d] => { results := [.lit (.bool true)], args := [d] }
  | _ => none }
def fnReportsRow : OpenClaim := { program := "ytbacepkkamfeoaa", sum := "e0ed420d0fd798ad29819cae978bbc4e0e02b38df8b0fa30319a2c05d61da19c", func := "loop.example/g03007/laws.FnReports", spec := "fnReports", inPlace := ["slices.overlaps[loop.example/g03007/impl.Report]"], unfollowed := true, recurses := true, apart := false }
def FnReportsSaid : Prop := fnReportsRow.holds Try.pinned (OpenSpec.ofChange fnReportsSpec)

/-- ITS FALSE NEIGHBOUR: 'it returns false'. Refute it at one input. -/
def fnReportsWrong : ChangeSpec := { name := "fnReports", fn := fun _ => fun
  | [d] => { results := [.lit (.bool false)], args := [d] }
  | _ => none }
def FnReportsWrongFalsely : Prop := fnReportsRow.holds Try.pinned (OpenSpec.ofChange fnReportsWrong)

/-- 'laws.FnExactPutReport': WHATEVER THE INPUT: true; the input reads as it did. -/
def fnExactPutReportSpec : ChangeSpec := { name := "fnExactPutReport", fn := fun _ => fun
  | [d1, d2] => { results := [.lit (.bool true)], args := [d1, d2] }
  | _ => none }
def fnExactPutReportRow : OpenClaim := { program := "ytbacepkkamfeoaa", sum := "e0ed420d0fd798ad29819cae978bbc4e0e02b38df8b0fa30319a2c05d61da19c", func := "loop.example/g03007/laws.FnExactPutReport", spec := "fnExactPutReport", inPlace := ["slices.overlaps[loop.example/g03007/impl.Report]"], unfollowed := true, recurses := true, apart := false }
def FnExactPutReportSaid : Prop := fnExactPutReportRow.holds Try.pinned (OpenSpec.ofChange fnExactPutReportSpec)

/-- ITS FALSE NEIGHBOUR: 'it returns false'. Refute it at one input. -/
def fnExactPutReportWrong : ChangeSpec := { name := "fnExactPutReport", fn := fun _ => fun
  | [d1, d2] => { results := [.lit (.bool false)], args := [d1, d2] }
  | _ => none }
def FnExactPutReportWrongFalsely : Prop := fnExactPutReportRow.holds Try.pinned (OpenSpec.ofChange fnExactPutReportWrong)

/- THE SECOND FORM. 'bulk': how many values and letters a reading holds, each counted each time it is reached (what is shared counts as often as it is met; a slice's spare places count too). A statement '..UptoSaid' is the law's where the arguments, and the package variables that the reading takes, are together of bulk at most 1048576: NARROWER than '..Said'. Prove '..Said' where nothing that the law and all that it calls make is longer than what came in: it says more and counts as full. Else prove '..UptoSaid'. A law counts once. -/
mutual
def uptoBulk {H : Type} : DataW H → Nat
  | .lit (.string bytes) => bytes.length + 1
  | .lit _ => 1
  | .nil => 1
  | .ptr d => uptoBulk d + 1
  | .slice elems spare => uptoBulkAll elems + uptoBulkAll spare + 1
  | .agg parts => uptoBulkAll parts + 1
  | .iface _ d => uptoBulk d + 1
  | .map entries => uptoBulkEntries entries + 1
  | .held _ => 1
def uptoBulkAll {H : Type} : List (DataW H) → Nat
  | [] => 0
  | d :: r => uptoBulk d + uptoBulkAll r
def uptoBulkEntries {H : Type} : List (Lit × DataW H) → Nat
  | [] => 0
  | x :: r => uptoBulkEntry x + uptoBulkEntries r
def uptoBulkEntry {H : Type} : Lit × DataW H → Nat
  | (.string bytes, d) => bytes.length + uptoBulk d + 1
  | (_, d) => uptoBulk d + 1
 end
def uptoSmall : (H : Type) → List (DataW H) → Bool := fun _ ds => decide (uptoBulkAll ds ≤ 1048576)
def OpenSpec.upto (s : _root_.Go.ChangeSpec) : _root_.Go.OpenSpec := { _root_.Go.OpenSpec.ofChange s with cond := some uptoSmall }

/-- 'laws.FnExactCanHold', WHERE WHAT IT READS IS OF BULK AT MOST 1048576: true; the input reads as it did. -/
def fnExactCanHoldUptoRow : OpenClaim := { program := "ytbacepkkamfeoaa", sum := "e0ed420d0fd798ad29819cae978bbc4e0e02b38df8b0fa30319a2c05d61da19c", func := "loop.example/g03007/laws.FnExactCanHold", spec := "fnExactCanHold", unfollowed := true, recurses := true, apart := false, narrowed := true }
def FnExactCanHoldUptoSaid : Prop := fnExactCanHoldUptoRow.holds Try.pinned (OpenSpec.upto fnExactCanHoldSpec)

/-- 'laws.FnPacked', WHERE WHAT IT READS IS OF BULK AT MOST 1048576: true; the input reads as it did. -/
def fnPackedUptoRow : OpenClaim := { program := "ytbacepkkamfeoaa", sum := "e0ed420d0fd798ad29819cae978bbc4e0e02b38df8b0fa30319a2c05d61da19c", func := "loop.example/g03007/laws.FnPacked", spec := "fnPacked", unfollowed := true, recurses := true, apart := false, narrowed := true }
def FnPackedUptoSaid : Prop := fnPackedUptoRow.holds Try.pinned (OpenSpec.upto fnPackedSpec)

/-- 'laws.FnExactPutAll', WHERE WHAT IT READS IS OF BULK AT MOST 1048576: true; the input reads as it did. -/
def fnExactPutAllUptoRow : OpenClaim := { program := "ytbacepkkamfeoaa", sum := "e0ed420d0fd798ad29819cae978bbc4e0e02b38df8b0fa30319a2c05d61da19c", func := "loop.example/g03007/laws.FnExactPutAll", spec := "fnExactPutAll", unfollowed := true, recurses := true, apart := false, narrowed := true }
def FnExactPutAllUptoSaid : Prop := fnExactPutAllUptoRow.holds Try.pinned (OpenSpec.upto fnExactPutAllSpec)

/-- 'laws.FnExactSeekers', WHERE WHAT IT READS IS OF BULK AT MOST 1048576: true; the input reads as it did. -/
def fnExactSeekersUptoRow : OpenClaim := { program := "ytbacepkkamfeoaa", sum := "e0ed420d0fd798ad29819cae978bbc4e0e02b38df8b0fa30319a2c05d61da19c", func := "loop.example/g03007/laws.FnExactSeekers", spec := "fnExactSeekers", apart := false, narrowed := true }
def FnExactSeekersUptoSaid : Prop := fnExactSeekersUptoRow.holds Try.pinned (OpenSpec.upto fnExactSeekersSpec)

/-- 'laws.FnReports', WHERE WHAT IT READS IS OF BULK AT MOST 1048576: true; the input reads as it did. -/
def fnReportsUptoRow : OpenClaim := { program := "ytbacepkkamfeoaa", sum := "e0ed420d0fd798ad29819cae978bbc4e0e02b38df8b0fa30319a2c05d61da19c", func := "loop.example/g03007/laws.FnReports", spec := "fnReports", inPlace := ["slices.overlaps[loop.example/g03007/impl.Report]"], unfollowed := true, recurses := true, apart := false, narrowed := true }
def FnReportsUptoSaid : Prop := fnReportsUptoRow.holds Try.pinned (OpenSpec.upto fnReportsSpec)

/-- 'laws.FnExactPutReport', WHERE WHAT IT READS IS OF BULK AT MOST 1048576: true; the input reads as it did. -/
def fnExactPutReportUptoRow : OpenClaim := { program := "ytbacepkkamfeoaa", sum := "e0ed420d0fd798ad29819cae978bbc4e0e02b38df8b0fa30319a2c05d61da19c", func := "loop.example/g03007/laws.FnExactPutReport", spec := "fnExactPutReport", inPlace := ["slices.overlaps[loop.example/g03007/impl.Report]"], unfollowed := true, recurses := true, apart := false, narrowed := true }
def FnExactPutReportUptoSaid : Prop := fnExactPutReportUptoRow.holds Try.pinned (OpenSpec.upto fnExactPutReportSpec)

end Rows
end Go.Proofs.Ytbacepkkamfeoaa
