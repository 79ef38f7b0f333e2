/-
  No cell of these rows narrows 'for every input' (looked for: loops, veiled, ifaces, maps, wideKeys, modest, calm, conditions, laid).
  DERIVED. THE GIVEN ROWS OF THIS SEAT. 12 by the template 'for every input the law returns true; each argument reads behind the call as it read before'; 0 by the template 'total and deterministic' (their statements: YtbbfelgojaioaaaTotals.lean).
  GIVEN WITH THE SEED: the statements are not yours to turn. If you find one false, say at which input.
  Laid BY PROGRAM, IN A SANDBOX (cutbox-rows.mjs): the forced cells as the released guide's own fill.sh prints them over the translation 8543bd2018bb2641… (all of the seat's roots in one cut). By AI agents, Wed Nov 11 2026. No macro, syntax, notation, axiom, sorry.
-/
import Derived.Test.YtbbfelgojaioaaaChecked
import GoSem.Claim
import GoSem.ClaimJoined
import GoSem.ClaimMapViews
import Derived.JoinedTies
import Derived.KernelRfl
namespace Go.Proofs.Ytbbfelgojaioaaa
/- THE CELL 'sum', in the pinned program and in every row, IS THE sha256 OF THE DUMP (.gsa) THAT YtbbfelgojaioaaaProg.lean LOADS. Nothing in Lean hashes anything: it is a label: what it is worth is what the hold of that sum in a sandbox is worth. -/
noncomputable def Try.pinned : Pinned := { name := "ytbbfelgojaioaaa", sum := "8543bd2018bb2641b9a8c58547152550a6984225c4d25bef86e6a49eaf104d40", checked := Try.checked }
namespace Rows
def none {H : Type} : Left H := { results := [], args := [] }

/-- 'laws.FnExactNextQuestion': WHATEVER THE INPUT: true; the input reads as it did. -/
def fnExactNextQuestionSpec : ChangeSpec := { name := "fnExactNextQuestion", fn := fun _ => fun
  | [d1, d2] => { results := [.lit (.bool true)], args := [d1, d2] }
  | _ => none }
def fnExactNextQuestionRow : OpenClaim := { program := "ytbbfelgojaioaaa", sum := "8543bd2018bb2641b9a8c58547152550a6984225c4d25bef86e6a49eaf104d40", func := "loop.example/g03007/laws.FnExactNextQuestion", spec := "fnExactNextQuestion", apart := false }
def FnExactNextQuestionSaid : Prop := fnExactNextQuestionRow.holds Try.pinned (OpenSpec.ofChange fnExactNextQuestionSpec)

/-- ITS FALSE NEIGHBOUR: 'it returns false'. Refute it at one input. -/
def fnExactNextQuestionWrong : ChangeSpec := { name := "fnExactNextQuestion", fn := fun _ => fun
  | [d1, d2] => { results := [.lit (.bool false)], args := [d1, d2] }
  | _ => none }
def FnExactNextQuestionWrongFalsely : Prop := fnExactNextQuestionRow.holds Try.pinned (OpenSpec.ofChange fnExactNextQuestionWrong)

/-- 'laws.FnExactTakeOut': WHATEVER THE INPUT: true; the input reads as it did. -/
def fnExactTakeOutSpec : ChangeSpec := { name := "fnExactTakeOut", fn := fun _ => fun
  | [d1, d2] => { results := [.lit (.bool true)], args := [d1, d2] }
  | _ => none }
def fnExactTakeOutRow : OpenClaim := { program := "ytbbfelgojaioaaa", sum := "8543bd2018bb2641b9a8c58547152550a6984225c4d25bef86e6a49eaf104d40", func := "loop.example/g03007/laws.FnExactTakeOut", spec := "fnExactTakeOut", unfollowed := true, recurses := true, apart := false }
def FnExactTakeOutSaid : Prop := fnExactTakeOutRow.holds Try.pinned (OpenSpec.ofChange fnExactTakeOutSpec)

/-- ITS FALSE NEIGHBOUR: 'it returns false'. Refute it at one input. -/
def fnExactTakeOutWrong : ChangeSpec := { name := "fnExactTakeOut", fn := fun _ => fun
  | [d1, d2] => { results := [.lit (.bool false)], args := [d1, d2] }
  | _ => none }
def FnExactTakeOutWrongFalsely : Prop := fnExactTakeOutRow.holds Try.pinned (OpenSpec.ofChange fnExactTakeOutWrong)

/-- 'laws.FnExactIsWider': WHATEVER THE INPUT: true; the input reads as it did. -/
def fnExactIsWiderSpec : ChangeSpec := { name := "fnExactIsWider", fn := fun _ => fun
  | [d1, d2] => { results := [.lit (.bool true)], args := [d1, d2] }
  | _ => none }
def fnExactIsWiderRow : OpenClaim := { program := "ytbbfelgojaioaaa", sum := "8543bd2018bb2641b9a8c58547152550a6984225c4d25bef86e6a49eaf104d40", func := "loop.example/g03007/laws.FnExactIsWider", spec := "fnExactIsWider", apart := false }
def FnExactIsWiderSaid : Prop := fnExactIsWiderRow.holds Try.pinned (OpenSpec.ofChange fnExactIsWiderSpec)

/-- ITS FALSE NEIGHBOUR: 'it returns false'. Refute it at one input. -/
def fnExactIsWiderWrong : ChangeSpec := { name := "fnExactIsWider", fn := fun _ => fun
  | [d1, d2] => { results := [.lit (.bool false)], args := [d1, d2] }
  | _ => none }
def FnExactIsWiderWrongFalsely : Prop := fnExactIsWiderRow.holds Try.pinned (OpenSpec.ofChange fnExactIsWiderWrong)

/-- 'laws.FnExactSetState': WHATEVER THE INPUT: true; the input reads as it did. -/
def fnExactSetStateSpec : ChangeSpec := { name := "fnExactSetState", fn := fun _ => fun
  | [d1, d2, d3] => { results := [.lit (.bool true)], args := [d1, d2, d3] }
  | _ => none }
def fnExactSetStateRow : OpenClaim := { program := "ytbbfelgojaioaaa", sum := "8543bd2018bb2641b9a8c58547152550a6984225c4d25bef86e6a49eaf104d40", func := "loop.example/g03007/laws.FnExactSetState", spec := "fnExactSetState", unfollowed := true, recurses := true, apart := false }
def FnExactSetStateSaid : Prop := fnExactSetStateRow.holds Try.pinned (OpenSpec.ofChange fnExactSetStateSpec)

/-- ITS FALSE NEIGHBOUR: 'it returns false'. Refute it at one input. -/
def fnExactSetStateWrong : ChangeSpec := { name := "fnExactSetState", fn := fun _ => fun
  | [d1, d2, d3] => { results := [.lit (.bool false)], args := [d1, d2, d3] }
  | _ => none }
def FnExactSetStateWrongFalsely : Prop := fnExactSetStateRow.holds Try.pinned (OpenSpec.ofChange fnExactSetStateWrong)

/-- 'laws.FnExactWasted': WHATEVER THE INPUT: true; the input reads as it did. -/
def fnExactWastedSpec : ChangeSpec := { name := "fnExactWasted", fn := fun _ => fun
  | [d1, d2] => { results := [.lit (.bool true)], args := [d1, d2] }
  | _ => none }
def fnExactWastedRow : OpenClaim := { program := "ytbbfelgojaioaaa", sum := "8543bd2018bb2641b9a8c58547152550a6984225c4d25bef86e6a49eaf104d40", func := "loop.example/g03007/laws.FnExactWasted", spec := "fnExactWasted", unfollowed := true, recurses := true, apart := false }
def FnExactWastedSaid : Prop := fnExactWastedRow.holds Try.pinned (OpenSpec.ofChange fnExactWastedSpec)

/-- ITS FALSE NEIGHBOUR: 'it returns false'. Refute it at one input. -/
def fnExactWastedWrong : ChangeSpec := { name := "fnExactWasted", fn := fun _ => fun
  | [d1, d2] => { results := [.lit (.bool false)], args := [d1, d2] }
  | _ => none }
def FnExactWastedWrongFalsely : Prop := fnExactWastedRow.holds Try.pinned (OpenSpec.ofChange fnExactWastedWrong)

/-- 'laws.FnExactPutAway': WHATEVER THE INPUT: true; the input reads as it did. -/
def fnExactPutAwaySpec : ChangeSpec := { name := "fnExactPutAway", fn := fun _ => fun
  | [d1, d2] => { results := [.lit (.bool true)], args := [d1, d2] }
  | _ => none }
def fnExactPutAwayRow : OpenClaim := { program := "ytbbfelgojaioaaa", sum := "8543bd2018bb2641b9a8c58547152550a6984225c4d25bef86e6a49eaf104d40", func := "loop.example/g03007/laws.FnExactPutAway", spec := "fnExactPutAway", unfollowed := true, recurses := true, apart := false }
def FnExactPutAwaySaid : Prop := fnExactPutAwayRow.holds Try.pinned (OpenSpec.ofChange fnExactPutAwaySpec)

/-- ITS FALSE NEIGHBOUR: 'it returns false'. Refute it at one input. -/
def fnExactPutAwayWrong : ChangeSpec := { name := "fnExactPutAway", fn := fun _ => fun
  | [d1, d2] => { results := [.lit (.bool false)], args := [d1, d2] }
  | _ => none }
def FnExactPutAwayWrongFalsely : Prop := fnExactPutAwayRow.holds Try.pinned (OpenSpec.ofChange fnExactPutAwayWrong)

/-- 'laws.FnExactWhyNot': WHATEVER THE INPUT: true; the input reads as it did. -/
def fnExactWhyNotSpec : ChangeSpec := { name := "fnExactWhyNot", fn := fun _ => fun
  | [d1, d2] => { results := [.lit (.bool true)], args := [d1, d2] }
  | _ => none }
def fnExactWhyNotRow : OpenClaim := { program := "ytbbfelgojaioaaa", sum := "8543bd2018bb2641b9a8c58547152550a6984225c4d25bef86e6a49eaf104d40", func := "loop.example/g03007/laws.FnExactWhyNot", spec := "fnExactWhyNot", apart := false }
def FnExactWhyNotSaid : Prop := fnExactWhyNotRow.holds Try.pinned (OpenSpec.ofChange fnExactWhyNotSpec)

/-- ITS FALSE NEIGHBOUR: 'it returns false'. Refute it at one input. -/
def fnExactWhyNotWrong : ChangeSpec := { name := "fnExactWhyNot", fn := fun _ => fun
  | [d1, d2] => { results := [.lit (.bool false)], args := [d1, d2] }
  | _ => none }
def FnExactWhyNotWrongFalsely : Prop := fnExactWhyNotRow.holds Try.pinned (OpenSpec.ofChange fnExactWhyNotWrong)

/-- 'laws.FnExactCanBe': WHATEVER THE INPUT: true; the input reads as it did. -/
def fnExactCanBeSpec : ChangeSpec := { name := "fnExactCanBe", fn := fun _ => fun
  | [d1, d2] => { results := [.lit (.bool true)], args := [d1, d2] }
  | _ => none }
def fnExactCanBeRow : OpenClaim := { program := "ytbbfelgojaioaaa", sum := "8543bd2018bb2641b9a8c58547152550a6984225c4d25bef86e6a49eaf104d40", func := "loop.example/g03007/laws.FnExactCanBe", spec := "fnExactCanBe", apart := false }
def FnExactCanBeSaid : Prop := fnExactCanBeRow.holds Try.pinned (OpenSpec.ofChange fnExactCanBeSpec)

/-- ITS FALSE NEIGHBOUR: 'it returns false'. Refute it at one input. -/
def fnExactCanBeWrong : ChangeSpec := { name := "fnExactCanBe", fn := fun _ => fun
  | [d1, d2] => { results := [.lit (.bool false)], args := [d1, d2] }
  | _ => none }
def FnExactCanBeWrongFalsely : Prop := fnExactCanBeRow.holds Try.pinned (OpenSpec.ofChange fnExactCanBeWrong)

/-- 'laws.FnExactGiveAnswer': WHATEVER THE INPUT: true; the input reads as it did. -/
def fnExactGiveAnswerSpec : ChangeSpec := { name := "fnExactGiveAnswer", fn := fun _ => fun
  | [d1, d2, d3] => { results := [.lit (.bool true)], args := [d1, d2, d3] }
  | _ => none }
def fnExactGiveAnswerRow : OpenClaim := { program := "ytbbfelgojaioaaa", sum := "8543bd2018bb2641b9a8c58547152550a6984225c4d25bef86e6a49eaf104d40", func := "loop.example/g03007/laws.FnExactGiveAnswer", spec := "fnExactGiveAnswer", apart := false }
def FnExactGiveAnswerSaid : Prop := fnExactGiveAnswerRow.holds Try.pinned (OpenSpec.ofChange fnExactGiveAnswerSpec)

/-- ITS FALSE NEIGHBOUR: 'it returns false'. Refute it at one input. -/
def fnExactGiveAnswerWrong : ChangeSpec := { name := "fnExactGiveAnswer", fn := fun _ => fun
  | [d1, d2, d3] => { results := [.lit (.bool false)], args := [d1, d2, d3] }
  | _ => none }
def FnExactGiveAnswerWrongFalsely : Prop := fnExactGiveAnswerRow.holds Try.pinned (OpenSpec.ofChange fnExactGiveAnswerWrong)

/-- 'laws.FnShelves': WHATEVER THE INPUT: true; the input reads as it did. -/
def fnShelvesSpec : ChangeSpec := { name := "fnShelves", fn := fun _ => fun
  | [d] => { results := [.lit (.bool true)], args := [d] }
  | _ => none }
def fnShelvesRow : OpenClaim := { program := "ytbbfelgojaioaaa", sum := "8543bd2018bb2641b9a8c58547152550a6984225c4d25bef86e6a49eaf104d40", func := "loop.example/g03007/laws.FnShelves", spec := "fnShelves", unfollowed := true, recurses := true, apart := false }
def FnShelvesSaid : Prop := fnShelvesRow.holds Try.pinned (OpenSpec.ofChange fnShelvesSpec)

/-- ITS FALSE NEIGHBOUR: 'it returns false'. Refute it at one input. -/
def fnShelvesWrong : ChangeSpec := { name := "fnShelves", fn := fun _ => fun
  | [d] => { results := [.lit (.bool false)], args := [d] }
  | _ => none }
def FnShelvesWrongFalsely : Prop := fnShelvesRow.holds Try.pinned (OpenSpec.ofChange fnShelvesWrong)

/-- 'laws.FnExactPutMark': WHATEVER THE INPUT: true; the input reads as it did. -/
def fnExactPutMarkSpec : ChangeSpec := { name := "fnExactPutMark", fn := fun _ => fun
  | [d1, d2] => { results := [.lit (.bool true)], args := [d1, d2] }
  | _ => none }
def fnExactPutMarkRow : OpenClaim := { program := "ytbbfelgojaioaaa", sum := "8543bd2018bb2641b9a8c58547152550a6984225c4d25bef86e6a49eaf104d40", func := "loop.example/g03007/laws.FnExactPutMark", spec := "fnExactPutMark", inPlace := ["slices.overlaps[loop.example/g03007/impl.Mark]"], apart := false }
def FnExactPutMarkSaid : Prop := fnExactPutMarkRow.holds Try.pinned (OpenSpec.ofChange fnExactPutMarkSpec)

/-- ITS FALSE NEIGHBOUR: 'it returns false'. Refute it at one input. -/
def fnExactPutMarkWrong : ChangeSpec := { name := "fnExactPutMark", fn := fun _ => fun
  | [d1, d2] => { results := [.lit (.bool false)], args := [d1, d2] }
  | _ => none }
def FnExactPutMarkWrongFalsely : Prop := fnExactPutMarkRow.holds Try.pinned (OpenSpec.ofChange fnExactPutMarkWrong)

/-- 'laws.FnExactScore': WHATEVER THE INPUT: true; the input reads as it did. -/
def fnExactScoreSpec : ChangeSpec := { name := "fnExactScore", fn := fun _ => fun
  | [d1, d2] => { results := [.lit (.bool true)], args := [d1, d2] }
  | _ => none }
def fnExactScoreRow : OpenClaim := { program := "ytbbfelgojaioaaa", sum := "8543bd2018bb2641b9a8c58547152550a6984225c4d25bef86e6a49eaf104d40", func := "loop.example/g03007/laws.FnExactScore", spec := "fnExactScore", apart := false }
def FnExactScoreSaid : Prop := fnExactScoreRow.holds Try.pinned (OpenSpec.ofChange fnExactScoreSpec)

/-- ITS FALSE NEIGHBOUR: 'it returns false'. Refute it at one input. -/
def fnExactScoreWrong : ChangeSpec := { name := "fnExactScore", fn := fun _ => fun
  | [d1, d2] => { results := [.lit (.bool false)], args := [d1, d2] }
  | _ => none }
def FnExactScoreWrongFalsely : Prop := fnExactScoreRow.holds Try.pinned (OpenSpec.ofChange fnExactScoreWrong)

/- THE SECOND FORM. 'bulk': how many values and letters a reading holds, each counted each time it is reached (what is shared counts as often as it is met; a slice's spare places count too). A statement '..UptoSaid' is the law's where the arguments, and the package variables that the reading takes, are together of bulk at most 1048576: NARROWER than '..Said'. Prove '..Said' where nothing that the law and all that it calls make is longer than what came in: it says more and counts as full. Else prove '..UptoSaid'. A law counts once. -/
mutual
def uptoBulk {H : Type} : DataW H → Nat
  | .lit (.string bytes) => bytes.length + 1
  | .lit _ => 1
  | .nil => 1
  | .ptr d => uptoBulk d + 1
  | .slice elems spare => uptoBulkAll elems + uptoBulkAll spare + 1
  | .agg parts => uptoBulkAll parts + 1
  | .iface _ d => uptoBulk d + 1
  | .map entries => uptoBulkEntries entries + 1
  | .held _ => 1
def uptoBulkAll {H : Type} : List (DataW H) → Nat
  | [] => 0
  | d :: r => uptoBulk d + uptoBulkAll r
def uptoBulkEntries {H : Type} : List (Lit × DataW H) → Nat
  | [] => 0
  | x :: r => uptoBulkEntry x + uptoBulkEntries r
def uptoBulkEntry {H : Type} : Lit × DataW H → Nat
  | (.string bytes, d) => bytes.length + uptoBulk d + 1
  | (_, d) => uptoBulk d + 1
 end
def uptoSmall : (H : Type) → List (DataW H) → Bool := fun _ ds => decide (uptoBulkAll ds ≤ 1048576)
def OpenSpec.upto (s : _root_.Go.ChangeSpec) : _root_.Go.OpenSpec := { _root_.Go.OpenSpec.ofChange s with cond := some uptoSmall }

/-- 'laws.FnExactNextQuestion', WHERE WHAT IT READS IS OF BULK AT MOST 1048576: true; the input reads as it did. -/
def fnExactNextQuestionUptoRow : OpenClaim := { program := "ytbbfelgojaioaaa", sum := "8543bd2018bb2641b9a8c58547152550a6984225c4d25bef86e6a49eaf104d40", func := "loop.example/g03007/laws.FnExactNextQuestion", spec := "fnExactNextQuestion", apart := false, narrowed := true }
def FnExactNextQuestionUptoSaid : Prop := fnExactNextQuestionUptoRow.holds Try.pinned (OpenSpec.upto fnExactNextQuestionSpec)

/-- 'laws.FnExactTakeOut', WHERE WHAT IT READS IS OF BULK AT MOST 1048576: true; the input reads as it did. -/
def fnExactTakeOutUptoRow : OpenClaim := { program := "ytbbfelgojaioaaa", sum := "8543bd2018bb2641b9a8c58547152550a6984225c4d25bef86e6a49eaf104d40", func := "loop.example/g03007/laws.FnExactTakeOut", spec := "fnExactTakeOut", unfollowed := true, recurses := true, apart := false, narrowed := true }
def FnExactTakeOutUptoSaid : Prop := fnExactTakeOutUptoRow.holds Try.pinned (OpenSpec.upto fnExactTakeOutSpec)

/-- 'laws.FnExactIsWider', WHERE WHAT IT READS IS OF BULK AT MOST 1048576: true; the input reads as it did. -/
def fnExactIsWiderUptoRow : OpenClaim := { program := "ytbbfelgojaioaaa", sum := "8543bd2018bb2641b9a8c58547152550a6984225c4d25bef86e6a49eaf104d40", func := "loop.example/g03007/laws.FnExactIsWider", spec := "fnExactIsWider", apart := false, narrowed := true }
def FnExactIsWiderUptoSaid : Prop := fnExactIsWiderUptoRow.holds Try.pinned (OpenSpec.upto fnExactIsWiderSpec)

/-- 'laws.FnExactSetState', WHERE WHAT IT READS IS OF BULK AT MOST 1048576: true; the input reads as it did. -/
def fnExactSetStateUptoRow : OpenClaim := { program := "ytbbfelgojaioaaa", sum := "8543bd2018bb2641b9a8c58547152550a6984225c4d25bef86e6a49eaf104d40", func := "loop.example/g03007/laws.FnExactSetState", spec := "fnExactSetState", unfollowed := true, recurses := true, apart := false, narrowed := true }
def FnExactSetStateUptoSaid : Prop := fnExactSetStateUptoRow.holds Try.pinned (OpenSpec.upto fnExactSetStateSpec)

/-- 'laws.FnExactWasted', WHERE WHAT IT READS IS OF BULK AT MOST 1048576: true; the input reads as it did. -/
def fnExactWastedUptoRow : OpenClaim := { program := "ytbbfelgojaioaaa", sum := "8543bd2018bb2641b9a8c58547152550a6984225c4d25bef86e6a49eaf104d40", func := "loop.example/g03007/laws.FnExactWasted", spec := "fnExactWasted", unfollowed := true, recurses := true, apart := false, narrowed := true }
def FnExactWastedUptoSaid : Prop := fnExactWastedUptoRow.holds Try.pinned (OpenSpec.upto fnExactWastedSpec)

/-- 'laws.FnExactPutAway', WHERE WHAT IT READS IS OF BULK AT MOST 1048576: true; the input reads as it did. -/
def fnExactPutAwayUptoRow : OpenClaim := { program := "ytbbfelgojaioaaa", sum := "8543bd2018bb2641b9a8c58547152550a6984225c4d25bef86e6a49eaf104d40", func := "loop.example/g03007/laws.FnExactPutAway", spec := "fnExactPutAway", unfollowed := true, recurses := true, apart := false, narrowed := true }
def FnExactPutAwayUptoSaid : Prop := fnExactPutAwayUptoRow.holds Try.pinned (OpenSpec.upto fnExactPutAwaySpec)

/-- 'laws.FnExactWhyNot', WHERE WHAT IT READS IS OF BULK AT MOST 1048576: true; the input reads as it did. -/
def fnExactWhyNotUptoRow : OpenClaim := { program := "ytbbfelgojaioaaa", sum := "8543bd2018bb2641b9a8c58547152550a6984225c4d25bef86e6a49eaf104d40", func := "loop.example/g03007/laws.FnExactWhyNot", spec := "fnExactWhyNot", apart := false, narrowed := true }
def FnExactWhyNotUptoSaid : Prop := fnExactWhyNotUptoRow.holds Try.pinned (OpenSpec.upto fnExactWhyNotSpec)

/-- 'laws.FnExactCanBe', WHERE WHAT IT READS IS OF BULK AT MOST 1048576: true; the input reads as it did. -/
def fnExactCanBeUptoRow : OpenClaim := { program := "ytbbfelgojaioaaa", sum := "8543bd2018bb2641b9a8c58547152550a6984225c4d25bef86e6a49eaf104d40", func := "loop.example/g03007/laws.FnExactCanBe", spec := "fnExactCanBe", apart := false, narrowed := true }
def FnExactCanBeUptoSaid : Prop := fnExactCanBeUptoRow.holds Try.pinned (OpenSpec.upto fnExactCanBeSpec)

/-- 'laws.FnExactGiveAnswer', WHERE WHAT IT READS IS OF BULK AT MOST 1048576: true; the input reads as it did. -/
def fnExactGiveAnswerUptoRow : OpenClaim := { program := "ytbbfelgojaioaaa", sum := "8543bd2018bb2641b9a8c58547152550a6984225c4d25bef86e6a49eaf104d40", func := "loop.example/g03007/laws.FnExactGiveAnswer", spec := "fnExactGiveAnswer", apart := false, narrowed := true }
def FnExactGiveAnswerUptoSaid : Prop := fnExactGiveAnswerUptoRow.holds Try.pinned (OpenSpec.upto fnExactGiveAnswerSpec)

/-- 'laws.FnShelves', WHERE WHAT IT READS IS OF BULK AT MOST 1048576: true; the input reads as it did. -/
def fnShelvesUptoRow : OpenClaim := { program := "ytbbfelgojaioaaa", sum := "8543bd2018bb2641b9a8c58547152550a6984225c4d25bef86e6a49eaf104d40", func := "loop.example/g03007/laws.FnShelves", spec := "fnShelves", unfollowed := true, recurses := true, apart := false, narrowed := true }
def FnShelvesUptoSaid : Prop := fnShelvesUptoRow.holds Try.pinned (OpenSpec.upto fnShelvesSpec)

/-- 'laws.FnExactPutMark', WHERE WHAT IT READS IS OF BULK AT MOST 1048576: true; the input reads as it did. -/
def fnExactPutMarkUptoRow : OpenClaim := { program := "ytbbfelgojaioaaa", sum := "8543bd2018bb2641b9a8c58547152550a6984225c4d25bef86e6a49eaf104d40", func := "loop.example/g03007/laws.FnExactPutMark", spec := "fnExactPutMark", inPlace := ["slices.overlaps[loop.example/g03007/impl.Mark]"], apart := false, narrowed := true }
def FnExactPutMarkUptoSaid : Prop := fnExactPutMarkUptoRow.holds Try.pinned (OpenSpec.upto fnExactPutMarkSpec)

/-- 'laws.FnExactScore', WHERE WHAT IT READS IS OF BULK AT MOST 1048576: true; the input reads as it did. -/
def fnExactScoreUptoRow : OpenClaim := { program := "ytbbfelgojaioaaa", sum := "8543bd2018bb2641b9a8c58547152550a6984225c4d25bef86e6a49eaf104d40", func := "loop.example/g03007/laws.FnExactScore", spec := "fnExactScore", apart := false, narrowed := true }
def FnExactScoreUptoSaid : Prop := fnExactScoreUptoRow.holds Try.pinned (OpenSpec.upto fnExactScoreSpec)

end Rows
end Go.Proofs.Ytbbfelgojaioaaa
