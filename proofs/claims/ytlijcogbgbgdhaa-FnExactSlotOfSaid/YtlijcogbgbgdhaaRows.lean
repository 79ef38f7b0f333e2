/-
  No cell of these rows narrows 'for every input' (looked for: loops, veiled, ifaces, maps, wideKeys, modest, calm, conditions, laid).
  DERIVED. THE GIVEN ROWS OF THIS SEAT. 12 by the template 'for every input the law returns true; each argument reads behind the call as it read before'; 0 by the template 'total and deterministic' (their statements: YtlijcogbgbgdhaaTotals.lean).
  GIVEN WITH THE SEED: the statements are not yours to turn. If you find one false, say at which input.
  Laid BY PROGRAM, IN A SANDBOX (cutbox-rows.mjs): the forced cells as the released guide's own fill.sh prints them over the translation 0a7290ec8fcdb619… (all of the seat's roots in one cut). By AI agents, Wed Nov 11 2026. No macro, syntax, notation, axiom, sorry.
-/
import Derived.Test.YtlijcogbgbgdhaaChecked
import GoSem.Claim
import GoSem.ClaimJoined
import GoSem.ClaimMapViews
import Derived.JoinedTies
import Derived.KernelRfl
namespace Go.Proofs.Ytlijcogbgbgdhaa
/- THE CELL 'sum', in the pinned program and in every row, IS THE sha256 OF THE DUMP (.gsa) THAT YtlijcogbgbgdhaaProg.lean LOADS. Nothing in Lean hashes anything: it is a label: what it is worth is what the hold of that sum in a sandbox is worth. -/
noncomputable def Try.pinned : Pinned := { name := "ytlijcogbgbgdhaa", sum := "0a7290ec8fcdb619935b16a0f8606bf0321290a032236fc5a1144426c89ce5fc", checked := Try.checked }
namespace Rows
def none {H : Type} : Left H := { results := [], args := [] }

/-- 'laws.FnExactIsTrial': WHATEVER THE INPUT: true; the input reads as it did. -/
def fnExactIsTrialSpec : ChangeSpec := { name := "fnExactIsTrial", fn := fun _ => fun
  | [d] => { results := [.lit (.bool true)], args := [d] }
  | _ => none }
def fnExactIsTrialRow : OpenClaim := { program := "ytlijcogbgbgdhaa", sum := "0a7290ec8fcdb619935b16a0f8606bf0321290a032236fc5a1144426c89ce5fc", func := "loop.example/g03007/laws.FnExactIsTrial", spec := "fnExactIsTrial", apart := false }
def FnExactIsTrialSaid : Prop := fnExactIsTrialRow.holds Try.pinned (OpenSpec.ofChange fnExactIsTrialSpec)

/-- ITS FALSE NEIGHBOUR: 'it returns false'. Refute it at one input. -/
def fnExactIsTrialWrong : ChangeSpec := { name := "fnExactIsTrial", fn := fun _ => fun
  | [d] => { results := [.lit (.bool false)], args := [d] }
  | _ => none }
def FnExactIsTrialWrongFalsely : Prop := fnExactIsTrialRow.holds Try.pinned (OpenSpec.ofChange fnExactIsTrialWrong)

/-- 'laws.FnExactNeedFor': WHATEVER THE INPUT: true; the input reads as it did. -/
def fnExactNeedForSpec : ChangeSpec := { name := "fnExactNeedFor", fn := fun _ => fun
  | [d] => { results := [.lit (.bool true)], args := [d] }
  | _ => none }
def fnExactNeedForRow : OpenClaim := { program := "ytlijcogbgbgdhaa", sum := "0a7290ec8fcdb619935b16a0f8606bf0321290a032236fc5a1144426c89ce5fc", func := "loop.example/g03007/laws.FnExactNeedFor", spec := "fnExactNeedFor", apart := false }
def FnExactNeedForSaid : Prop := fnExactNeedForRow.holds Try.pinned (OpenSpec.ofChange fnExactNeedForSpec)

/-- ITS FALSE NEIGHBOUR: 'it returns false'. Refute it at one input. -/
def fnExactNeedForWrong : ChangeSpec := { name := "fnExactNeedFor", fn := fun _ => fun
  | [d] => { results := [.lit (.bool false)], args := [d] }
  | _ => none }
def FnExactNeedForWrongFalsely : Prop := fnExactNeedForRow.holds Try.pinned (OpenSpec.ofChange fnExactNeedForWrong)

/-- 'laws.FnExactAnswerOf': WHATEVER THE INPUT: true; the input reads as it did. -/
def fnExactAnswerOfSpec : ChangeSpec := { name := "fnExactAnswerOf", fn := fun _ => fun
  | [d1, d2] => { results := [.lit (.bool true)], args := [d1, d2] }
  | _ => none }
def fnExactAnswerOfRow : OpenClaim := { program := "ytlijcogbgbgdhaa", sum := "0a7290ec8fcdb619935b16a0f8606bf0321290a032236fc5a1144426c89ce5fc", func := "loop.example/g03007/laws.FnExactAnswerOf", spec := "fnExactAnswerOf", apart := false }
def FnExactAnswerOfSaid : Prop := fnExactAnswerOfRow.holds Try.pinned (OpenSpec.ofChange fnExactAnswerOfSpec)

/-- ITS FALSE NEIGHBOUR: 'it returns false'. Refute it at one input. -/
def fnExactAnswerOfWrong : ChangeSpec := { name := "fnExactAnswerOf", fn := fun _ => fun
  | [d1, d2] => { results := [.lit (.bool false)], args := [d1, d2] }
  | _ => none }
def FnExactAnswerOfWrongFalsely : Prop := fnExactAnswerOfRow.holds Try.pinned (OpenSpec.ofChange fnExactAnswerOfWrong)

/-- 'laws.FnExactAreMarks': WHATEVER THE INPUT: true; the input reads as it did. -/
def fnExactAreMarksSpec : ChangeSpec := { name := "fnExactAreMarks", fn := fun _ => fun
  | [d] => { results := [.lit (.bool true)], args := [d] }
  | _ => none }
def fnExactAreMarksRow : OpenClaim := { program := "ytlijcogbgbgdhaa", sum := "0a7290ec8fcdb619935b16a0f8606bf0321290a032236fc5a1144426c89ce5fc", func := "loop.example/g03007/laws.FnExactAreMarks", spec := "fnExactAreMarks", apart := false }
def FnExactAreMarksSaid : Prop := fnExactAreMarksRow.holds Try.pinned (OpenSpec.ofChange fnExactAreMarksSpec)

/-- ITS FALSE NEIGHBOUR: 'it returns false'. Refute it at one input. -/
def fnExactAreMarksWrong : ChangeSpec := { name := "fnExactAreMarks", fn := fun _ => fun
  | [d] => { results := [.lit (.bool false)], args := [d] }
  | _ => none }
def FnExactAreMarksWrongFalsely : Prop := fnExactAreMarksRow.holds Try.pinned (OpenSpec.ofChange fnExactAreMarksWrong)

/-- 'laws.FnExactFreeSlots': WHATEVER THE INPUT: true; the input reads as it did. -/
def fnExactFreeSlotsSpec : ChangeSpec := { name := "fnExactFreeSlots", fn := fun _ => fun
  | [d] => { results := [.lit (.bool true)], args := [d] }
  | _ => none }
def fnExactFreeSlotsRow : OpenClaim := { program := "ytlijcogbgbgdhaa", sum := "0a7290ec8fcdb619935b16a0f8606bf0321290a032236fc5a1144426c89ce5fc", func := "loop.example/g03007/laws.FnExactFreeSlots", spec := "fnExactFreeSlots", apart := false }
def FnExactFreeSlotsSaid : Prop := fnExactFreeSlotsRow.holds Try.pinned (OpenSpec.ofChange fnExactFreeSlotsSpec)

/-- ITS FALSE NEIGHBOUR: 'it returns false'. Refute it at one input. -/
def fnExactFreeSlotsWrong : ChangeSpec := { name := "fnExactFreeSlots", fn := fun _ => fun
  | [d] => { results := [.lit (.bool false)], args := [d] }
  | _ => none }
def FnExactFreeSlotsWrongFalsely : Prop := fnExactFreeSlotsRow.holds Try.pinned (OpenSpec.ofChange fnExactFreeSlotsWrong)

/-- 'laws.FnExactIsRoute': WHATEVER THE INPUT: true; the input reads as it did. -/
def fnExactIsRouteSpec : ChangeSpec := { name := "fnExactIsRoute", fn := fun _ => fun
  | [d] => { results := [.lit (.bool true)], args := [d] }
  | _ => none }
def fnExactIsRouteRow : OpenClaim := { program := "ytlijcogbgbgdhaa", sum := "0a7290ec8fcdb619935b16a0f8606bf0321290a032236fc5a1144426c89ce5fc", func := "loop.example/g03007/laws.FnExactIsRoute", spec := "fnExactIsRoute", apart := false }
def FnExactIsRouteSaid : Prop := fnExactIsRouteRow.holds Try.pinned (OpenSpec.ofChange fnExactIsRouteSpec)

/-- ITS FALSE NEIGHBOUR: 'it returns false'. Refute it at one input. -/
def fnExactIsRouteWrong : ChangeSpec := { name := "fnExactIsRoute", fn := fun _ => fun
  | [d] => { results := [.lit (.bool false)], args := [d] }
  | _ => none }
def FnExactIsRouteWrongFalsely : Prop := fnExactIsRouteRow.holds Try.pinned (OpenSpec.ofChange fnExactIsRouteWrong)

/-- 'laws.FnExactCanHold': WHATEVER THE INPUT: true; the input reads as it did. -/
def fnExactCanHoldSpec : ChangeSpec := { name := "fnExactCanHold", fn := fun _ => fun
  | [d1, d2] => { results := [.lit (.bool true)], args := [d1, d2] }
  | _ => none }
def fnExactCanHoldRow : OpenClaim := { program := "ytlijcogbgbgdhaa", sum := "0a7290ec8fcdb619935b16a0f8606bf0321290a032236fc5a1144426c89ce5fc", func := "loop.example/g03007/laws.FnExactCanHold", spec := "fnExactCanHold", unfollowed := true, recurses := true, apart := false }
def FnExactCanHoldSaid : Prop := fnExactCanHoldRow.holds Try.pinned (OpenSpec.ofChange fnExactCanHoldSpec)

/-- ITS FALSE NEIGHBOUR: 'it returns false'. Refute it at one input. -/
def fnExactCanHoldWrong : ChangeSpec := { name := "fnExactCanHold", fn := fun _ => fun
  | [d1, d2] => { results := [.lit (.bool false)], args := [d1, d2] }
  | _ => none }
def FnExactCanHoldWrongFalsely : Prop := fnExactCanHoldRow.holds Try.pinned (OpenSpec.ofChange fnExactCanHoldWrong)

/-- 'laws.FnExactLargestFree': WHATEVER THE INPUT: true; the input reads as it did. -/
def fnExactLargestFreeSpec : ChangeSpec := { name := "fnExactLargestFree", fn := fun _ => fun
  | [d] => { results := [.lit (.bool true)], args := [d] }
  | _ => none }
def fnExactLargestFreeRow : OpenClaim := { program := "ytlijcogbgbgdhaa", sum := "0a7290ec8fcdb619935b16a0f8606bf0321290a032236fc5a1144426c89ce5fc", func := "loop.example/g03007/laws.FnExactLargestFree", spec := "fnExactLargestFree", apart := false }
def FnExactLargestFreeSaid : Prop := fnExactLargestFreeRow.holds Try.pinned (OpenSpec.ofChange fnExactLargestFreeSpec)

/-- ITS FALSE NEIGHBOUR: 'it returns false'. Refute it at one input. -/
def fnExactLargestFreeWrong : ChangeSpec := { name := "fnExactLargestFree", fn := fun _ => fun
  | [d] => { results := [.lit (.bool false)], args := [d] }
  | _ => none }
def FnExactLargestFreeWrongFalsely : Prop := fnExactLargestFreeRow.holds Try.pinned (OpenSpec.ofChange fnExactLargestFreeWrong)

/-- 'laws.FnExactFindClaim': WHATEVER THE INPUT: true; the input reads as it did. -/
def fnExactFindClaimSpec : ChangeSpec := { name := "fnExactFindClaim", fn := fun _ => fun
  | [d1, d2] => { results := [.lit (.bool true)], args := [d1, d2] }
  | _ => none }
def fnExactFindClaimRow : OpenClaim := { program := "ytlijcogbgbgdhaa", sum := "0a7290ec8fcdb619935b16a0f8606bf0321290a032236fc5a1144426c89ce5fc", func := "loop.example/g03007/laws.FnExactFindClaim", spec := "fnExactFindClaim", unfollowed := true, recurses := true, apart := false }
def FnExactFindClaimSaid : Prop := fnExactFindClaimRow.holds Try.pinned (OpenSpec.ofChange fnExactFindClaimSpec)

/-- ITS FALSE NEIGHBOUR: 'it returns false'. Refute it at one input. -/
def fnExactFindClaimWrong : ChangeSpec := { name := "fnExactFindClaim", fn := fun _ => fun
  | [d1, d2] => { results := [.lit (.bool false)], args := [d1, d2] }
  | _ => none }
def FnExactFindClaimWrongFalsely : Prop := fnExactFindClaimRow.holds Try.pinned (OpenSpec.ofChange fnExactFindClaimWrong)

/-- 'laws.FnExactSmallestFree': WHATEVER THE INPUT: true; the input reads as it did. -/
def fnExactSmallestFreeSpec : ChangeSpec := { name := "fnExactSmallestFree", fn := fun _ => fun
  | [d1, d2] => { results := [.lit (.bool true)], args := [d1, d2] }
  | _ => none }
def fnExactSmallestFreeRow : OpenClaim := { program := "ytlijcogbgbgdhaa", sum := "0a7290ec8fcdb619935b16a0f8606bf0321290a032236fc5a1144426c89ce5fc", func := "loop.example/g03007/laws.FnExactSmallestFree", spec := "fnExactSmallestFree", apart := false }
def FnExactSmallestFreeSaid : Prop := fnExactSmallestFreeRow.holds Try.pinned (OpenSpec.ofChange fnExactSmallestFreeSpec)

/-- ITS FALSE NEIGHBOUR: 'it returns false'. Refute it at one input. -/
def fnExactSmallestFreeWrong : ChangeSpec := { name := "fnExactSmallestFree", fn := fun _ => fun
  | [d1, d2] => { results := [.lit (.bool false)], args := [d1, d2] }
  | _ => none }
def FnExactSmallestFreeWrongFalsely : Prop := fnExactSmallestFreeRow.holds Try.pinned (OpenSpec.ofChange fnExactSmallestFreeWrong)

/-- 'laws.FnExactSlotOf': WHATEVER THE INPUT: true; the input reads as it did. -/
def fnExactSlotOfSpec : ChangeSpec := { name := "fnExactSlotOf", fn := fun _ => fun
  | [d1, d2] => { results := [.lit (.bool true)], args := [d1, d2] }
  | _ => none }
def fnExactSlotOfRow : OpenClaim := { program := "ytlijcogbgbgdhaa", sum := "0a7290ec8fcdb619935b16a0f8606bf0321290a032236fc5a1144426c89ce5fc", func := "loop.example/g03007/laws.FnExactSlotOf", spec := "fnExactSlotOf", unfollowed := true, recurses := true, apart := false }
def FnExactSlotOfSaid : Prop := fnExactSlotOfRow.holds Try.pinned (OpenSpec.ofChange fnExactSlotOfSpec)

/-- ITS FALSE NEIGHBOUR: 'it returns false'. Refute it at one input. -/
def fnExactSlotOfWrong : ChangeSpec := { name := "fnExactSlotOf", fn := fun _ => fun
  | [d1, d2] => { results := [.lit (.bool false)], args := [d1, d2] }
  | _ => none }
def FnExactSlotOfWrongFalsely : Prop := fnExactSlotOfRow.holds Try.pinned (OpenSpec.ofChange fnExactSlotOfWrong)

/-- 'laws.FnExactFirstProved': WHATEVER THE INPUT: true; the input reads as it did. -/
def fnExactFirstProvedSpec : ChangeSpec := { name := "fnExactFirstProved", fn := fun _ => fun
  | [d1, d2] => { results := [.lit (.bool true)], args := [d1, d2] }
  | _ => none }
def fnExactFirstProvedRow : OpenClaim := { program := "ytlijcogbgbgdhaa", sum := "0a7290ec8fcdb619935b16a0f8606bf0321290a032236fc5a1144426c89ce5fc", func := "loop.example/g03007/laws.FnExactFirstProved", spec := "fnExactFirstProved", apart := false }
def FnExactFirstProvedSaid : Prop := fnExactFirstProvedRow.holds Try.pinned (OpenSpec.ofChange fnExactFirstProvedSpec)

/-- ITS FALSE NEIGHBOUR: 'it returns false'. Refute it at one input. -/
def fnExactFirstProvedWrong : ChangeSpec := { name := "fnExactFirstProved", fn := fun _ => fun
  | [d1, d2] => { results := [.lit (.bool false)], args := [d1, d2] }
  | _ => none }
def FnExactFirstProvedWrongFalsely : Prop := fnExactFirstProvedRow.holds Try.pinned (OpenSpec.ofChange fnExactFirstProvedWrong)

/- THE SECOND FORM. 'bulk': how many values and letters a reading holds, each counted each time it is reached (what is shared counts as often as it is met; a slice's spare places count too). A statement '..UptoSaid' is the law's where the arguments, and the package variables that the reading takes, are together of bulk at most 1048576: NARROWER than '..Said'. Prove '..Said' where nothing that the law and all that it calls make is longer than what came in: it says more and counts as full. Else prove '..UptoSaid'. A law counts once. -/
mutual
def uptoBulk {H : Type} : DataW H → Nat
  | .lit (.string bytes) => bytes.length + 1
  | .lit _ => 1
  | .nil => 1
  | .ptr d => uptoBulk d + 1
  | .slice elems spare => uptoBulkAll elems + uptoBulkAll spare + 1
  | .agg parts => uptoBulkAll parts + 1
  | .iface _ d => uptoBulk d + 1
  | .map entries => uptoBulkEntries entries + 1
  | .held _ => 1
def uptoBulkAll {H : Type} : List (DataW H) → Nat
  | [] => 0
  | d :: r => uptoBulk d + uptoBulkAll r
def uptoBulkEntries {H : Type} : List (Lit × DataW H) → Nat
  | [] => 0
  | x :: r => uptoBulkEntry x + uptoBulkEntries r
def uptoBulkEntry {H : Type} : Lit × DataW H → Nat
  | (.string bytes, d) => bytes.length + uptoBulk d + 1
  | (_, d) => uptoBulk d + 1
 end
def uptoSmall : (H : Type) → List (DataW H) → Bool := fun _ ds => decide (uptoBulkAll ds ≤ 1048576)
def OpenSpec.upto (s : _root_.Go.ChangeSpec) : _root_.Go.OpenSpec := { _root_.Go.OpenSpec.ofChange s with cond := some uptoSmall }

/-- 'laws.FnExactIsTrial', WHERE WHAT IT READS IS OF BULK AT MOST 1048576: true; the input reads as it did. -/
def fnExactIsTrialUptoRow : OpenClaim := { program := "ytlijcogbgbgdhaa", sum := "0a7290ec8fcdb619935b16a0f8606bf0321290a032236fc5a1144426c89ce5fc", func := "loop.example/g03007/laws.FnExactIsTrial", spec := "fnExactIsTrial", apart := false, narrowed := true }
def FnExactIsTrialUptoSaid : Prop := fnExactIsTrialUptoRow.holds Try.pinned (OpenSpec.upto fnExactIsTrialSpec)

/-- 'laws.FnExactNeedFor', WHERE WHAT IT READS IS OF BULK AT MOST 1048576: true; the input reads as it did. -/
def fnExactNeedForUptoRow : OpenClaim := { program := "ytlijcogbgbgdhaa", sum := "0a7290ec8fcdb619935b16a0f8606bf0321290a032236fc5a1144426c89ce5fc", func := "loop.example/g03007/laws.FnExactNeedFor", spec := "fnExactNeedFor", apart := false, narrowed := true }
def FnExactNeedForUptoSaid : Prop := fnExactNeedForUptoRow.holds Try.pinned (OpenSpec.upto fnExactNeedForSpec)

/-- 'laws.FnExactAnswerOf', WHERE WHAT IT READS IS OF BULK AT MOST 1048576: true; the input reads as it did. -/
def fnExactAnswerOfUptoRow : OpenClaim := { program := "ytlijcogbgbgdhaa", sum := "0a7290ec8fcdb619935b16a0f8606bf0321290a032236fc5a1144426c89ce5fc", func := "loop.example/g03007/laws.FnExactAnswerOf", spec := "fnExactAnswerOf", apart := false, narrowed := true }
def FnExactAnswerOfUptoSaid : Prop := fnExactAnswerOfUptoRow.holds Try.pinned (OpenSpec.upto fnExactAnswerOfSpec)

/-- 'laws.FnExactAreMarks', WHERE WHAT IT READS IS OF BULK AT MOST 1048576: true; the input reads as it did. -/
def fnExactAreMarksUptoRow : OpenClaim := { program := "ytlijcogbgbgdhaa", sum := "0a7290ec8fcdb619935b16a0f8606bf0321290a032236fc5a1144426c89ce5fc", func := "loop.example/g03007/laws.FnExactAreMarks", spec := "fnExactAreMarks", apart := false, narrowed := true }
def FnExactAreMarksUptoSaid : Prop := fnExactAreMarksUptoRow.holds Try.pinned (OpenSpec.upto fnExactAreMarksSpec)

/-- 'laws.FnExactFreeSlots', WHERE WHAT IT READS IS OF BULK AT MOST 1048576: true; the input reads as it did. -/
def fnExactFreeSlotsUptoRow : OpenClaim := { program := "ytlijcogbgbgdhaa", sum := "0a7290ec8fcdb619935b16a0f8606bf0321290a032236fc5a1144426c89ce5fc", func := "loop.example/g03007/laws.FnExactFreeSlots", spec := "fnExactFreeSlots", apart := false, narrowed := true }
def FnExactFreeSlotsUptoSaid : Prop := fnExactFreeSlotsUptoRow.holds Try.pinned (OpenSpec.upto fnExactFreeSlotsSpec)

/-- 'laws.FnExactIsRoute', WHERE WHAT IT READS IS OF BULK AT MOST 1048576: true; the input reads as it did. -/
def fnExactIsRouteUptoRow : OpenClaim := { program := "ytlijcogbgbgdhaa", sum := "0a7290ec8fcdb619935b16a0f8606bf0321290a032236fc5a1144426c89ce5fc", func := "loop.example/g03007/laws.FnExactIsRoute", spec := "fnExactIsRoute", apart := false, narrowed := true }
def FnExactIsRouteUptoSaid : Prop := fnExactIsRouteUptoRow.holds Try.pinned (OpenSpec.upto fnExactIsRouteSpec)

/-- 'laws.FnExactCanHold', WHERE WHAT IT READS IS OF BULK AT MOST 1048576: true; the input reads as it did. -/
def fnExactCanHoldUptoRow : OpenClaim := { program := "ytlijcogbgbgdhaa", sum := "0a7290ec8fcdb619935b16a0f8606bf0321290a032236fc5a1144426c89ce5fc", func := "loop.example/g03007/laws.FnExactCanHold", spec := "fnExactCanHold", unfollowed := true, recurses := true, apart := false, narrowed := true }
def FnExactCanHoldUptoSaid : Prop := fnExactCanHoldUptoRow.holds Try.pinned (OpenSpec.upto fnExactCanHoldSpec)

/-- 'laws.FnExactLargestFree', WHERE WHAT IT READS IS OF BULK AT MOST 1048576: true; the input reads as it did. -/
def fnExactLargestFreeUptoRow : OpenClaim := { program := "ytlijcogbgbgdhaa", sum := "0a7290ec8fcdb619935b16a0f8606bf0321290a032236fc5a1144426c89ce5fc", func := "loop.example/g03007/laws.FnExactLargestFree", spec := "fnExactLargestFree", apart := false, narrowed := true }
def FnExactLargestFreeUptoSaid : Prop := fnExactLargestFreeUptoRow.holds Try.pinned (OpenSpec.upto fnExactLargestFreeSpec)

/-- 'laws.FnExactFindClaim', WHERE WHAT IT READS IS OF BULK AT MOST 1048576: true; the input reads as it did. -/
def fnExactFindClaimUptoRow : OpenClaim := { program := "ytlijcogbgbgdhaa", sum := "0a7290ec8fcdb619935b16a0f8606bf0321290a032236fc5a1144426c89ce5fc", func := "loop.example/g03007/laws.FnExactFindClaim", spec := "fnExactFindClaim", unfollowed := true, recurses := true, apart := false, narrowed := true }
def FnExactFindClaimUptoSaid : Prop := fnExactFindClaimUptoRow.holds Try.pinned (OpenSpec.upto fnExactFindClaimSpec)

/-- 'laws.FnExactSmallestFree', WHERE WHAT IT READS IS OF BULK AT MOST 1048576: true; the input reads as it did. -/
def fnExactSmallestFreeUptoRow : OpenClaim := { program := "ytlijcogbgbgdhaa", sum := "0a7290ec8fcdb619935b16a0f8606bf0321290a032236fc5a1144426c89ce5fc", func := "loop.example/g03007/laws.FnExactSmallestFree", spec := "fnExactSmallestFree", apart := false, narrowed := true }
def FnExactSmallestFreeUptoSaid : Prop := fnExactSmallestFreeUptoRow.holds Try.pinned (OpenSpec.upto fnExactSmallestFreeSpec)

/-- 'laws.FnExactSlotOf', WHERE WHAT IT READS IS OF BULK AT MOST 1048576: true; the input reads as it did. -/
def fnExactSlotOfUptoRow : OpenClaim := { program := "ytlijcogbgbgdhaa", sum := "0a7290ec8fcdb619935b16a0f8606bf0321290a032236fc5a1144426c89ce5fc", func := "loop.example/g03007/laws.FnExactSlotOf", spec := "fnExactSlotOf", unfollowed := true, recurses := true, apart := false, narrowed := true }
def FnExactSlotOfUptoSaid : Prop := fnExactSlotOfUptoRow.holds Try.pinned (OpenSpec.upto fnExactSlotOfSpec)

/-- 'laws.FnExactFirstProved', WHERE WHAT IT READS IS OF BULK AT MOST 1048576: true; the input reads as it did. -/
def fnExactFirstProvedUptoRow : OpenClaim := { program := "ytlijcogbgbgdhaa", sum := "0a7290ec8fcdb619935b16a0f8606bf0321290a032236fc5a1144426c89ce5fc", func := "loop.example/g03007/laws.FnExactFirstProved", spec := "fnExactFirstProved", apart := false, narrowed := true }
def FnExactFirstProvedUptoSaid : Prop := fnExactFirstProvedUptoRow.holds Try.pinned (OpenSpec.upto fnExactFirstProvedSpec)

end Rows
end Go.Proofs.Ytlijcogbgbgdhaa
