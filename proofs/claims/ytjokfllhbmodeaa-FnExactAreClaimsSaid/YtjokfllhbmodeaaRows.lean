/-
  No cell of these rows narrows 'for every input' (looked for: loops, veiled, ifaces, maps, wideKeys, modest, calm, conditions, laid).
  DERIVED. THE GIVEN ROWS OF THIS SEAT. 12 by the template 'for every input the law returns true; each argument reads behind the call as it read before'; 0 by the template 'total and deterministic' (their statements: YtjokfllhbmodeaaTotals.lean).
  GIVEN WITH THE SEED: the statements are not yours to turn. If you find one false, say at which input.
  Laid BY PROGRAM, IN A SANDBOX (cutbox-rows.mjs): the forced cells as the released guide's own fill.sh prints them over the translation 032864cf60148cec… (all of the seat's roots in one cut). By AI agents, Wed Nov 11 2026. No macro, syntax, notation, axiom, sorry.
-/
import Derived.Test.YtjokfllhbmodeaaChecked
import GoSem.Claim
import GoSem.ClaimJoined
import GoSem.ClaimMapViews
import Derived.JoinedTies
import Derived.KernelRfl
namespace Go.Proofs.Ytjokfllhbmodeaa
/- THE CELL 'sum', in the pinned program and in every row, IS THE sha256 OF THE DUMP (.gsa) THAT YtjokfllhbmodeaaProg.lean LOADS. Nothing in Lean hashes anything: it is a label: what it is worth is what the hold of that sum in a sandbox is worth. -/
noncomputable def Try.pinned : Pinned := { name := "ytjokfllhbmodeaa", sum := "032864cf60148cec5c1e483bf026e7c0ad924a9a4e12fd97925476d595314585", checked := Try.checked }
namespace Rows
def none {H : Type} : Left H := { results := [], args := [] }

/-- 'laws.FnExactRouteHours': WHATEVER THE INPUT: true; the input reads as it did. -/
def fnExactRouteHoursSpec : ChangeSpec := { name := "fnExactRouteHours", fn := fun _ => fun
  | [d] => { results := [.lit (.bool true)], args := [d] }
  | _ => none }
def fnExactRouteHoursRow : OpenClaim := { program := "ytjokfllhbmodeaa", sum := "032864cf60148cec5c1e483bf026e7c0ad924a9a4e12fd97925476d595314585", func := "loop.example/g03007/laws.FnExactRouteHours", spec := "fnExactRouteHours", apart := false }
def FnExactRouteHoursSaid : Prop := fnExactRouteHoursRow.holds Try.pinned (OpenSpec.ofChange fnExactRouteHoursSpec)

/-- ITS FALSE NEIGHBOUR: 'it returns false'. Refute it at one input. -/
def fnExactRouteHoursWrong : ChangeSpec := { name := "fnExactRouteHours", fn := fun _ => fun
  | [d] => { results := [.lit (.bool false)], args := [d] }
  | _ => none }
def FnExactRouteHoursWrongFalsely : Prop := fnExactRouteHoursRow.holds Try.pinned (OpenSpec.ofChange fnExactRouteHoursWrong)

/-- 'laws.FnPacked': WHATEVER THE INPUT: true; the input reads as it did. -/
def fnPackedSpec : ChangeSpec := { name := "fnPacked", fn := fun _ => fun
  | [d] => { results := [.lit (.bool true)], args := [d] }
  | _ => none }
def fnPackedRow : OpenClaim := { program := "ytjokfllhbmodeaa", sum := "032864cf60148cec5c1e483bf026e7c0ad924a9a4e12fd97925476d595314585", func := "loop.example/g03007/laws.FnPacked", spec := "fnPacked", unfollowed := true, recurses := true, apart := false }
def FnPackedSaid : Prop := fnPackedRow.holds Try.pinned (OpenSpec.ofChange fnPackedSpec)

/-- ITS FALSE NEIGHBOUR: 'it returns false'. Refute it at one input. -/
def fnPackedWrong : ChangeSpec := { name := "fnPacked", fn := fun _ => fun
  | [d] => { results := [.lit (.bool false)], args := [d] }
  | _ => none }
def FnPackedWrongFalsely : Prop := fnPackedRow.holds Try.pinned (OpenSpec.ofChange fnPackedWrong)

/-- 'laws.FnExactIsDoubt': WHATEVER THE INPUT: true; the input reads as it did. -/
def fnExactIsDoubtSpec : ChangeSpec := { name := "fnExactIsDoubt", fn := fun _ => fun
  | [d] => { results := [.lit (.bool true)], args := [d] }
  | _ => none }
def fnExactIsDoubtRow : OpenClaim := { program := "ytjokfllhbmodeaa", sum := "032864cf60148cec5c1e483bf026e7c0ad924a9a4e12fd97925476d595314585", func := "loop.example/g03007/laws.FnExactIsDoubt", spec := "fnExactIsDoubt", apart := false }
def FnExactIsDoubtSaid : Prop := fnExactIsDoubtRow.holds Try.pinned (OpenSpec.ofChange fnExactIsDoubtSpec)

/-- ITS FALSE NEIGHBOUR: 'it returns false'. Refute it at one input. -/
def fnExactIsDoubtWrong : ChangeSpec := { name := "fnExactIsDoubt", fn := fun _ => fun
  | [d] => { results := [.lit (.bool false)], args := [d] }
  | _ => none }
def FnExactIsDoubtWrongFalsely : Prop := fnExactIsDoubtRow.holds Try.pinned (OpenSpec.ofChange fnExactIsDoubtWrong)

/-- 'laws.FnExactAreClaims': WHATEVER THE INPUT: true; the input reads as it did. -/
def fnExactAreClaimsSpec : ChangeSpec := { name := "fnExactAreClaims", fn := fun _ => fun
  | [d] => { results := [.lit (.bool true)], args := [d] }
  | _ => none }
def fnExactAreClaimsRow : OpenClaim := { program := "ytjokfllhbmodeaa", sum := "032864cf60148cec5c1e483bf026e7c0ad924a9a4e12fd97925476d595314585", func := "loop.example/g03007/laws.FnExactAreClaims", spec := "fnExactAreClaims", apart := false }
def FnExactAreClaimsSaid : Prop := fnExactAreClaimsRow.holds Try.pinned (OpenSpec.ofChange fnExactAreClaimsSpec)

/-- ITS FALSE NEIGHBOUR: 'it returns false'. Refute it at one input. -/
def fnExactAreClaimsWrong : ChangeSpec := { name := "fnExactAreClaims", fn := fun _ => fun
  | [d] => { results := [.lit (.bool false)], args := [d] }
  | _ => none }
def FnExactAreClaimsWrongFalsely : Prop := fnExactAreClaimsRow.holds Try.pinned (OpenSpec.ofChange fnExactAreClaimsWrong)

/-- 'laws.FnExactStopAt': WHATEVER THE INPUT: true; the input reads as it did. -/
def fnExactStopAtSpec : ChangeSpec := { name := "fnExactStopAt", fn := fun _ => fun
  | [d1, d2] => { results := [.lit (.bool true)], args := [d1, d2] }
  | _ => none }
def fnExactStopAtRow : OpenClaim := { program := "ytjokfllhbmodeaa", sum := "032864cf60148cec5c1e483bf026e7c0ad924a9a4e12fd97925476d595314585", func := "loop.example/g03007/laws.FnExactStopAt", spec := "fnExactStopAt", apart := false }
def FnExactStopAtSaid : Prop := fnExactStopAtRow.holds Try.pinned (OpenSpec.ofChange fnExactStopAtSpec)

/-- ITS FALSE NEIGHBOUR: 'it returns false'. Refute it at one input. -/
def fnExactStopAtWrong : ChangeSpec := { name := "fnExactStopAt", fn := fun _ => fun
  | [d1, d2] => { results := [.lit (.bool false)], args := [d1, d2] }
  | _ => none }
def FnExactStopAtWrongFalsely : Prop := fnExactStopAtRow.holds Try.pinned (OpenSpec.ofChange fnExactStopAtWrong)

/-- 'laws.FnExactSealMarks': WHATEVER THE INPUT: true; the input reads as it did. -/
def fnExactSealMarksSpec : ChangeSpec := { name := "fnExactSealMarks", fn := fun _ => fun
  | [d1, d2] => { results := [.lit (.bool true)], args := [d1, d2] }
  | _ => none }
def fnExactSealMarksRow : OpenClaim := { program := "ytjokfllhbmodeaa", sum := "032864cf60148cec5c1e483bf026e7c0ad924a9a4e12fd97925476d595314585", func := "loop.example/g03007/laws.FnExactSealMarks", spec := "fnExactSealMarks", apart := false }
def FnExactSealMarksSaid : Prop := fnExactSealMarksRow.holds Try.pinned (OpenSpec.ofChange fnExactSealMarksSpec)

/-- ITS FALSE NEIGHBOUR: 'it returns false'. Refute it at one input. -/
def fnExactSealMarksWrong : ChangeSpec := { name := "fnExactSealMarks", fn := fun _ => fun
  | [d1, d2] => { results := [.lit (.bool false)], args := [d1, d2] }
  | _ => none }
def FnExactSealMarksWrongFalsely : Prop := fnExactSealMarksRow.holds Try.pinned (OpenSpec.ofChange fnExactSealMarksWrong)

/-- 'laws.FnExactAreSlots': WHATEVER THE INPUT: true; the input reads as it did. -/
def fnExactAreSlotsSpec : ChangeSpec := { name := "fnExactAreSlots", fn := fun _ => fun
  | [d] => { results := [.lit (.bool true)], args := [d] }
  | _ => none }
def fnExactAreSlotsRow : OpenClaim := { program := "ytjokfllhbmodeaa", sum := "032864cf60148cec5c1e483bf026e7c0ad924a9a4e12fd97925476d595314585", func := "loop.example/g03007/laws.FnExactAreSlots", spec := "fnExactAreSlots", unfollowed := true, recurses := true, apart := false }
def FnExactAreSlotsSaid : Prop := fnExactAreSlotsRow.holds Try.pinned (OpenSpec.ofChange fnExactAreSlotsSpec)

/-- ITS FALSE NEIGHBOUR: 'it returns false'. Refute it at one input. -/
def fnExactAreSlotsWrong : ChangeSpec := { name := "fnExactAreSlots", fn := fun _ => fun
  | [d] => { results := [.lit (.bool false)], args := [d] }
  | _ => none }
def FnExactAreSlotsWrongFalsely : Prop := fnExactAreSlotsRow.holds Try.pinned (OpenSpec.ofChange fnExactAreSlotsWrong)

/-- 'laws.FnExactPutAll': WHATEVER THE INPUT: true; the input reads as it did. -/
def fnExactPutAllSpec : ChangeSpec := { name := "fnExactPutAll", fn := fun _ => fun
  | [d1, d2] => { results := [.lit (.bool true)], args := [d1, d2] }
  | _ => none }
def fnExactPutAllRow : OpenClaim := { program := "ytjokfllhbmodeaa", sum := "032864cf60148cec5c1e483bf026e7c0ad924a9a4e12fd97925476d595314585", func := "loop.example/g03007/laws.FnExactPutAll", spec := "fnExactPutAll", unfollowed := true, recurses := true, apart := false }
def FnExactPutAllSaid : Prop := fnExactPutAllRow.holds Try.pinned (OpenSpec.ofChange fnExactPutAllSpec)

/-- ITS FALSE NEIGHBOUR: 'it returns false'. Refute it at one input. -/
def fnExactPutAllWrong : ChangeSpec := { name := "fnExactPutAll", fn := fun _ => fun
  | [d1, d2] => { results := [.lit (.bool false)], args := [d1, d2] }
  | _ => none }
def FnExactPutAllWrongFalsely : Prop := fnExactPutAllRow.holds Try.pinned (OpenSpec.ofChange fnExactPutAllWrong)

/-- 'laws.FnExactTrialState': WHATEVER THE INPUT: true; the input reads as it did. -/
def fnExactTrialStateSpec : ChangeSpec := { name := "fnExactTrialState", fn := fun _ => fun
  | [d1, d2] => { results := [.lit (.bool true)], args := [d1, d2] }
  | _ => none }
def fnExactTrialStateRow : OpenClaim := { program := "ytjokfllhbmodeaa", sum := "032864cf60148cec5c1e483bf026e7c0ad924a9a4e12fd97925476d595314585", func := "loop.example/g03007/laws.FnExactTrialState", spec := "fnExactTrialState", apart := false }
def FnExactTrialStateSaid : Prop := fnExactTrialStateRow.holds Try.pinned (OpenSpec.ofChange fnExactTrialStateSpec)

/-- ITS FALSE NEIGHBOUR: 'it returns false'. Refute it at one input. -/
def fnExactTrialStateWrong : ChangeSpec := { name := "fnExactTrialState", fn := fun _ => fun
  | [d1, d2] => { results := [.lit (.bool false)], args := [d1, d2] }
  | _ => none }
def FnExactTrialStateWrongFalsely : Prop := fnExactTrialStateRow.holds Try.pinned (OpenSpec.ofChange fnExactTrialStateWrong)

/-- 'laws.FnExactQuestionFor': WHATEVER THE INPUT: true; the input reads as it did. -/
def fnExactQuestionForSpec : ChangeSpec := { name := "fnExactQuestionFor", fn := fun _ => fun
  | [d1, d2, d3] => { results := [.lit (.bool true)], args := [d1, d2, d3] }
  | _ => none }
def fnExactQuestionForRow : OpenClaim := { program := "ytjokfllhbmodeaa", sum := "032864cf60148cec5c1e483bf026e7c0ad924a9a4e12fd97925476d595314585", func := "loop.example/g03007/laws.FnExactQuestionFor", spec := "fnExactQuestionFor", apart := false }
def FnExactQuestionForSaid : Prop := fnExactQuestionForRow.holds Try.pinned (OpenSpec.ofChange fnExactQuestionForSpec)

/-- ITS FALSE NEIGHBOUR: 'it returns false'. Refute it at one input. -/
def fnExactQuestionForWrong : ChangeSpec := { name := "fnExactQuestionFor", fn := fun _ => fun
  | [d1, d2, d3] => { results := [.lit (.bool false)], args := [d1, d2, d3] }
  | _ => none }
def FnExactQuestionForWrongFalsely : Prop := fnExactQuestionForRow.holds Try.pinned (OpenSpec.ofChange fnExactQuestionForWrong)

/-- 'laws.FnExactOpensSeal': WHATEVER THE INPUT: true; the input reads as it did. -/
def fnExactOpensSealSpec : ChangeSpec := { name := "fnExactOpensSeal", fn := fun _ => fun
  | [d1, d2, d3] => { results := [.lit (.bool true)], args := [d1, d2, d3] }
  | _ => none }
def fnExactOpensSealRow : OpenClaim := { program := "ytjokfllhbmodeaa", sum := "032864cf60148cec5c1e483bf026e7c0ad924a9a4e12fd97925476d595314585", func := "loop.example/g03007/laws.FnExactOpensSeal", spec := "fnExactOpensSeal", apart := false }
def FnExactOpensSealSaid : Prop := fnExactOpensSealRow.holds Try.pinned (OpenSpec.ofChange fnExactOpensSealSpec)

/-- ITS FALSE NEIGHBOUR: 'it returns false'. Refute it at one input. -/
def fnExactOpensSealWrong : ChangeSpec := { name := "fnExactOpensSeal", fn := fun _ => fun
  | [d1, d2, d3] => { results := [.lit (.bool false)], args := [d1, d2, d3] }
  | _ => none }
def FnExactOpensSealWrongFalsely : Prop := fnExactOpensSealRow.holds Try.pinned (OpenSpec.ofChange fnExactOpensSealWrong)

/-- 'laws.FnExactClaimsFor': WHATEVER THE INPUT: true; the input reads as it did. -/
def fnExactClaimsForSpec : ChangeSpec := { name := "fnExactClaimsFor", fn := fun _ => fun
  | [d1, d2] => { results := [.lit (.bool true)], args := [d1, d2] }
  | _ => none }
def fnExactClaimsForRow : OpenClaim := { program := "ytjokfllhbmodeaa", sum := "032864cf60148cec5c1e483bf026e7c0ad924a9a4e12fd97925476d595314585", func := "loop.example/g03007/laws.FnExactClaimsFor", spec := "fnExactClaimsFor", apart := false }
def FnExactClaimsForSaid : Prop := fnExactClaimsForRow.holds Try.pinned (OpenSpec.ofChange fnExactClaimsForSpec)

/-- ITS FALSE NEIGHBOUR: 'it returns false'. Refute it at one input. -/
def fnExactClaimsForWrong : ChangeSpec := { name := "fnExactClaimsFor", fn := fun _ => fun
  | [d1, d2] => { results := [.lit (.bool false)], args := [d1, d2] }
  | _ => none }
def FnExactClaimsForWrongFalsely : Prop := fnExactClaimsForRow.holds Try.pinned (OpenSpec.ofChange fnExactClaimsForWrong)

/- THE SECOND FORM. 'bulk': how many values and letters a reading holds, each counted each time it is reached (what is shared counts as often as it is met; a slice's spare places count too). A statement '..UptoSaid' is the law's where the arguments, and the package variables that the reading takes, are together of bulk at most 1048576: NARROWER than '..Said'. Prove '..Said' where nothing that the law and all that it calls make is longer than what came in: it says more and counts as full. Else prove '..UptoSaid'. A law counts once. -/
mutual
def uptoBulk {H : Type} : DataW H → Nat
  | .lit (.string bytes) => bytes.length + 1
  | .lit _ => 1
  | .nil => 1
  | .ptr d => uptoBulk d + 1
  | .slice elems spare => uptoBulkAll elems + uptoBulkAll spare + 1
  | .agg parts => uptoBulkAll parts + 1
  | .iface _ d => uptoBulk d + 1
  | .map entries => uptoBulkEntries entries + 1
  | .held _ => 1
def uptoBulkAll {H : Type} : List (DataW H) → Nat
  | [] => 0
  | d :: r => uptoBulk d + uptoBulkAll r
def uptoBulkEntries {H : Type} : List (Lit × DataW H) → Nat
  | [] => 0
  | x :: r => uptoBulkEntry x + uptoBulkEntries r
def uptoBulkEntry {H : Type} : Lit × DataW H → Nat
  | (.string bytes, d) => bytes.length + uptoBulk d + 1
  | (_, d) => uptoBulk d + 1
 end
def uptoSmall : (H : Type) → List (DataW H) → Bool := fun _ ds => decide (uptoBulkAll ds ≤ 1048576)
def OpenSpec.upto (s : _root_.Go.ChangeSpec) : _root_.Go.OpenSpec := { _root_.Go.OpenSpec.ofChange s with cond := some uptoSmall }

/-- 'laws.FnExactRouteHours', WHERE WHAT IT READS IS OF BULK AT MOST 1048576: true; the input reads as it did. -/
def fnExactRouteHoursUptoRow : OpenClaim := { program := "ytjokfllhbmodeaa", sum := "032864cf60148cec5c1e483bf026e7c0ad924a9a4e12fd97925476d595314585", func := "loop.example/g03007/laws.FnExactRouteHours", spec := "fnExactRouteHours", apart := false, narrowed := true }
def FnExactRouteHoursUptoSaid : Prop := fnExactRouteHoursUptoRow.holds Try.pinned (OpenSpec.upto fnExactRouteHoursSpec)

/-- 'laws.FnPacked', WHERE WHAT IT READS IS OF BULK AT MOST 1048576: true; the input reads as it did. -/
def fnPackedUptoRow : OpenClaim := { program := "ytjokfllhbmodeaa", sum := "032864cf60148cec5c1e483bf026e7c0ad924a9a4e12fd97925476d595314585", func := "loop.example/g03007/laws.FnPacked", spec := "fnPacked", unfollowed := true, recurses := true, apart := false, narrowed := true }
def FnPackedUptoSaid : Prop := fnPackedUptoRow.holds Try.pinned (OpenSpec.upto fnPackedSpec)

/-- 'laws.FnExactIsDoubt', WHERE WHAT IT READS IS OF BULK AT MOST 1048576: true; the input reads as it did. -/
def fnExactIsDoubtUptoRow : OpenClaim := { program := "ytjokfllhbmodeaa", sum := "032864cf60148cec5c1e483bf026e7c0ad924a9a4e12fd97925476d595314585", func := "loop.example/g03007/laws.FnExactIsDoubt", spec := "fnExactIsDoubt", apart := false, narrowed := true }
def FnExactIsDoubtUptoSaid : Prop := fnExactIsDoubtUptoRow.holds Try.pinned (OpenSpec.upto fnExactIsDoubtSpec)

/-- 'laws.FnExactAreClaims', WHERE WHAT IT READS IS OF BULK AT MOST 1048576: true; the input reads as it did. -/
def fnExactAreClaimsUptoRow : OpenClaim := { program := "ytjokfllhbmodeaa", sum := "032864cf60148cec5c1e483bf026e7c0ad924a9a4e12fd97925476d595314585", func := "loop.example/g03007/laws.FnExactAreClaims", spec := "fnExactAreClaims", apart := false, narrowed := true }
def FnExactAreClaimsUptoSaid : Prop := fnExactAreClaimsUptoRow.holds Try.pinned (OpenSpec.upto fnExactAreClaimsSpec)

/-- 'laws.FnExactStopAt', WHERE WHAT IT READS IS OF BULK AT MOST 1048576: true; the input reads as it did. -/
def fnExactStopAtUptoRow : OpenClaim := { program := "ytjokfllhbmodeaa", sum := "032864cf60148cec5c1e483bf026e7c0ad924a9a4e12fd97925476d595314585", func := "loop.example/g03007/laws.FnExactStopAt", spec := "fnExactStopAt", apart := false, narrowed := true }
def FnExactStopAtUptoSaid : Prop := fnExactStopAtUptoRow.holds Try.pinned (OpenSpec.upto fnExactStopAtSpec)

/-- 'laws.FnExactSealMarks', WHERE WHAT IT READS IS OF BULK AT MOST 1048576: true; the input reads as it did. -/
def fnExactSealMarksUptoRow : OpenClaim := { program := "ytjokfllhbmodeaa", sum := "032864cf60148cec5c1e483bf026e7c0ad924a9a4e12fd97925476d595314585", func := "loop.example/g03007/laws.FnExactSealMarks", spec := "fnExactSealMarks", apart := false, narrowed := true }
def FnExactSealMarksUptoSaid : Prop := fnExactSealMarksUptoRow.holds Try.pinned (OpenSpec.upto fnExactSealMarksSpec)

/-- 'laws.FnExactAreSlots', WHERE WHAT IT READS IS OF BULK AT MOST 1048576: true; the input reads as it did. -/
def fnExactAreSlotsUptoRow : OpenClaim := { program := "ytjokfllhbmodeaa", sum := "032864cf60148cec5c1e483bf026e7c0ad924a9a4e12fd97925476d595314585", func := "loop.example/g03007/laws.FnExactAreSlots", spec := "fnExactAreSlots", unfollowed := true, recurses := true, apart := false, narrowed := true }
def FnExactAreSlotsUptoSaid : Prop := fnExactAreSlotsUptoRow.holds Try.pinned (OpenSpec.upto fnExactAreSlotsSpec)

/-- 'laws.FnExactPutAll', WHERE WHAT IT READS IS OF BULK AT MOST 1048576: true; the input reads as it did. -/
def fnExactPutAllUptoRow : OpenClaim := { program := "ytjokfllhbmodeaa", sum := "032864cf60148cec5c1e483bf026e7c0ad924a9a4e12fd97925476d595314585", func := "loop.example/g03007/laws.FnExactPutAll", spec := "fnExactPutAll", unfollowed := true, recurses := true, apart := false, narrowed := true }
def FnExactPutAllUptoSaid : Prop := fnExactPutAllUptoRow.holds Try.pinned (OpenSpec.upto fnExactPutAllSpec)

/-- 'laws.FnExactTrialState', WHERE WHAT IT READS IS OF BULK AT MOST 1048576: true; the input reads as it did. -/
def fnExactTrialStateUptoRow : OpenClaim := { program := "ytjokfllhbmodeaa", sum := "032864cf60148cec5c1e483bf026e7c0ad924a9a4e12fd97925476d595314585", func := "loop.example/g03007/laws.FnExactTrialState", spec := "fnExactTrialState", apart := false, narrowed := true }
def FnExactTrialStateUptoSaid : Prop := fnExactTrialStateUptoRow.holds Try.pinned (OpenSpec.upto fnExactTrialStateSpec)

/-- 'laws.FnExactQuestionFor', WHERE WHAT IT READS IS OF BULK AT MOST 1048576: true; the input reads as it did. -/
def fnExactQuestionForUptoRow : OpenClaim := { program := "ytjokfllhbmodeaa", sum := "032864cf60148cec5c1e483bf026e7c0ad924a9a4e12fd97925476d595314585", func := "loop.example/g03007/laws.FnExactQuestionFor", spec := "fnExactQuestionFor", apart := false, narrowed := true }
def FnExactQuestionForUptoSaid : Prop := fnExactQuestionForUptoRow.holds Try.pinned (OpenSpec.upto fnExactQuestionForSpec)

/-- 'laws.FnExactOpensSeal', WHERE WHAT IT READS IS OF BULK AT MOST 1048576: true; the input reads as it did. -/
def fnExactOpensSealUptoRow : OpenClaim := { program := "ytjokfllhbmodeaa", sum := "032864cf60148cec5c1e483bf026e7c0ad924a9a4e12fd97925476d595314585", func := "loop.example/g03007/laws.FnExactOpensSeal", spec := "fnExactOpensSeal", apart := false, narrowed := true }
def FnExactOpensSealUptoSaid : Prop := fnExactOpensSealUptoRow.holds Try.pinned (OpenSpec.upto fnExactOpensSealSpec)

/-- 'laws.FnExactClaimsFor', WHERE WHAT IT READS IS OF BULK AT MOST 1048576: true; the input reads as it did. -/
def fnExactClaimsForUptoRow : OpenClaim := { program := "ytjokfllhbmodeaa", sum := "032864cf60148cec5c1e483bf026e7c0ad924a9a4e12fd97925476d595314585", func := "loop.example/g03007/laws.FnExactClaimsFor", spec := "fnExactClaimsFor", apart := false, narrowed := true }
def FnExactClaimsForUptoSaid : Prop := fnExactClaimsForUptoRow.holds Try.pinned (OpenSpec.upto fnExactClaimsForSpec)

end Rows
end Go.Proofs.Ytjokfllhbmodeaa
