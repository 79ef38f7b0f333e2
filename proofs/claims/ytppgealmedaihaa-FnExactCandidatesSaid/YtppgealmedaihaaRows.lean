/-
  No cell of these rows narrows 'for every input' (looked for: loops, veiled, ifaces, maps, wideKeys, modest, calm, conditions, laid).
  DERIVED. THE GIVEN ROWS OF THIS SEAT. 11 by the template 'for every input the law returns true; each argument reads behind the call as it read before'; 0 by the template 'total and deterministic' (their statements: YtppgealmedaihaaTotals.lean).
  GIVEN WITH THE SEED: the statements are not yours to turn. If you find one false, say at which input.
  Laid BY PROGRAM, IN A SANDBOX (cutbox-rows.mjs): the forced cells as the released guide's own fill.sh prints them over the translation 622e54c8a572dd00… (all of the seat's roots in one cut). By AI agents, Wed Nov 11 2026. No macro, syntax, notation, axiom, sorry.
-/
import Derived.Test.YtppgealmedaihaaChecked
import GoSem.Claim
import GoSem.ClaimJoined
import GoSem.ClaimMapViews
import Derived.JoinedTies
import Derived.KernelRfl
namespace Go.Proofs.Ytppgealmedaihaa
/- THE CELL 'sum', in the pinned program and in every row, IS THE sha256 OF THE DUMP (.gsa) THAT YtppgealmedaihaaProg.lean LOADS. Nothing in Lean hashes anything: it is a label: what it is worth is what the hold of that sum in a sandbox is worth. -/
noncomputable def Try.pinned : Pinned := { name := "ytppgealmedaihaa", sum := "622e54c8a572dd00dbcfb85f798485f904f854b850ea3ebcd66390fb90a065bc", checked := Try.checked }
namespace Rows
def none {H : Type} : Left H := { results := [], args := [] }

/-- 'laws.FnExactAnswerAll': WHATEVER THE INPUT: true; the input reads as it did. -/
def fnExactAnswerAllSpec : ChangeSpec := { name := "fnExactAnswerAll", fn := fun _ => fun
  | [d1, d2, d3] => { results := [.lit (.bool true)], args := [d1, d2, d3] }
  | _ => none }
def fnExactAnswerAllRow : OpenClaim := { program := "ytppgealmedaihaa", sum := "622e54c8a572dd00dbcfb85f798485f904f854b850ea3ebcd66390fb90a065bc", func := "loop.example/g03007/laws.FnExactAnswerAll", spec := "fnExactAnswerAll", apart := false }
def FnExactAnswerAllSaid : Prop := fnExactAnswerAllRow.holds Try.pinned (OpenSpec.ofChange fnExactAnswerAllSpec)

/-- ITS FALSE NEIGHBOUR: 'it returns false'. Refute it at one input. -/
def fnExactAnswerAllWrong : ChangeSpec := { name := "fnExactAnswerAll", fn := fun _ => fun
  | [d1, d2, d3] => { results := [.lit (.bool false)], args := [d1, d2, d3] }
  | _ => none }
def FnExactAnswerAllWrongFalsely : Prop := fnExactAnswerAllRow.holds Try.pinned (OpenSpec.ofChange fnExactAnswerAllWrong)

/-- 'laws.FnExactSharpen': WHATEVER THE INPUT: true; the input reads as it did. -/
def fnExactSharpenSpec : ChangeSpec := { name := "fnExactSharpen", fn := fun _ => fun
  | [d1, d2] => { results := [.lit (.bool true)], args := [d1, d2] }
  | _ => none }
def fnExactSharpenRow : OpenClaim := { program := "ytppgealmedaihaa", sum := "622e54c8a572dd00dbcfb85f798485f904f854b850ea3ebcd66390fb90a065bc", func := "loop.example/g03007/laws.FnExactSharpen", spec := "fnExactSharpen", apart := false }
def FnExactSharpenSaid : Prop := fnExactSharpenRow.holds Try.pinned (OpenSpec.ofChange fnExactSharpenSpec)

/-- ITS FALSE NEIGHBOUR: 'it returns false'. Refute it at one input. -/
def fnExactSharpenWrong : ChangeSpec := { name := "fnExactSharpen", fn := fun _ => fun
  | [d1, d2] => { results := [.lit (.bool false)], args := [d1, d2] }
  | _ => none }
def FnExactSharpenWrongFalsely : Prop := fnExactSharpenRow.holds Try.pinned (OpenSpec.ofChange fnExactSharpenWrong)

/-- 'laws.FnMarks': WHATEVER THE INPUT: true; the input reads as it did. -/
def fnMarksSpec : ChangeSpec := { name := "fnMarks", fn := fun _ => fun
  | [d] => { results := [.lit (.bool true)], args := [d] }
  | _ => none }
def fnMarksRow : OpenClaim := { program := "ytppgealmedaihaa", sum := "622e54c8a572dd00dbcfb85f798485f904f854b850ea3ebcd66390fb90a065bc", func := "loop.example/g03007/laws.FnMarks", spec := "fnMarks", inPlace := ["slices.overlaps[loop.example/g03007/impl.Mark]"], apart := false }
def FnMarksSaid : Prop := fnMarksRow.holds Try.pinned (OpenSpec.ofChange fnMarksSpec)

/-- ITS FALSE NEIGHBOUR: 'it returns false'. Refute it at one input. -/
def fnMarksWrong : ChangeSpec := { name := "fnMarks", fn := fun _ => fun
  | [d] => { results := [.lit (.bool false)], args := [d] }
  | _ => none }
def FnMarksWrongFalsely : Prop := fnMarksRow.holds Try.pinned (OpenSpec.ofChange fnMarksWrong)

/-- 'laws.FnTrials': WHATEVER THE INPUT: true; the input reads as it did. -/
def fnTrialsSpec : ChangeSpec := { name := "fnTrials", fn := fun _ => fun
  | [d] => { results := [.lit (.bool true)], args := [d] }
  | _ => none }
def fnTrialsRow : OpenClaim := { program := "ytppgealmedaihaa", sum := "622e54c8a572dd00dbcfb85f798485f904f854b850ea3ebcd66390fb90a065bc", func := "loop.example/g03007/laws.FnTrials", spec := "fnTrials", apart := false }
def FnTrialsSaid : Prop := fnTrialsRow.holds Try.pinned (OpenSpec.ofChange fnTrialsSpec)

/-- ITS FALSE NEIGHBOUR: 'it returns false'. Refute it at one input. -/
def fnTrialsWrong : ChangeSpec := { name := "fnTrials", fn := fun _ => fun
  | [d] => { results := [.lit (.bool false)], args := [d] }
  | _ => none }
def FnTrialsWrongFalsely : Prop := fnTrialsRow.holds Try.pinned (OpenSpec.ofChange fnTrialsWrong)

/-- 'laws.FnExactAddClaim': WHATEVER THE INPUT: true; the input reads as it did. -/
def fnExactAddClaimSpec : ChangeSpec := { name := "fnExactAddClaim", fn := fun _ => fun
  | [d1, d2] => { results := [.lit (.bool true)], args := [d1, d2] }
  | _ => none }
def fnExactAddClaimRow : OpenClaim := { program := "ytppgealmedaihaa", sum := "622e54c8a572dd00dbcfb85f798485f904f854b850ea3ebcd66390fb90a065bc", func := "loop.example/g03007/laws.FnExactAddClaim", spec := "fnExactAddClaim", inPlace := ["slices.overlaps[loop.example/g03007/impl.Claim]"], unfollowed := true, recurses := true, apart := false }
def FnExactAddClaimSaid : Prop := fnExactAddClaimRow.holds Try.pinned (OpenSpec.ofChange fnExactAddClaimSpec)

/-- ITS FALSE NEIGHBOUR: 'it returns false'. Refute it at one input. -/
def fnExactAddClaimWrong : ChangeSpec := { name := "fnExactAddClaim", fn := fun _ => fun
  | [d1, d2] => { results := [.lit (.bool false)], args := [d1, d2] }
  | _ => none }
def FnExactAddClaimWrongFalsely : Prop := fnExactAddClaimRow.holds Try.pinned (OpenSpec.ofChange fnExactAddClaimWrong)

/-- 'laws.FnExactSeekers': WHATEVER THE INPUT: true; the input reads as it did. -/
def fnExactSeekersSpec : ChangeSpec := { name := "fnExactSeekers", fn := fun _ => fun
  | [d1, d2] => { results := [.lit (.bool true)], args := [d1, d2] }
  | _ => none }
def fnExactSeekersRow : OpenClaim := { program := "ytppgealmedaihaa", sum := "622e54c8a572dd00dbcfb85f798485f904f854b850ea3ebcd66390fb90a065bc", func := "loop.example/g03007/laws.FnExactSeekers", spec := "fnExactSeekers", apart := false }
def FnExactSeekersSaid : Prop := fnExactSeekersRow.holds Try.pinned (OpenSpec.ofChange fnExactSeekersSpec)

/-- ITS FALSE NEIGHBOUR: 'it returns false'. Refute it at one input. -/
def fnExactSeekersWrong : ChangeSpec := { name := "fnExactSeekers", fn := fun _ => fun
  | [d1, d2] => { results := [.lit (.bool false)], args := [d1, d2] }
  | _ => none }
def FnExactSeekersWrongFalsely : Prop := fnExactSeekersRow.holds Try.pinned (OpenSpec.ofChange fnExactSeekersWrong)

/-- 'laws.FnReports': WHATEVER THE INPUT: true; the input reads as it did. -/
def fnReportsSpec : ChangeSpec := { name := "fnReports", fn := fun _ => fun
  | [d] => { results := [.lit (.bool true)], args := [d] }
  | _ => none }
def fnReportsRow : OpenClaim := { program := "ytppgealmedaihaa", sum := "622e54c8a572dd00dbcfb85f798485f904f854b850ea3ebcd66390fb90a065bc", func := "loop.example/g03007/laws.FnReports", spec := "fnReports", inPlace := ["slices.overlaps[loop.example/g03007/impl.Report]"], unfollowed := true, recurses := true, apart := false }
def FnReportsSaid : Prop := fnReportsRow.holds Try.pinned (OpenSpec.ofChange fnReportsSpec)

/-- ITS FALSE NEIGHBOUR: 'it returns false'. Refute it at one input. -/
def fnReportsWrong : ChangeSpec := { name := "fnReports", fn := fun _ => fun
  | [d] => { results := [.lit (.bool false)], args := [d] }
  | _ => none }
def FnReportsWrongFalsely : Prop := fnReportsRow.holds Try.pinned (OpenSpec.ofChange fnReportsWrong)

/-- 'laws.FnExactBestOf': WHATEVER THE INPUT: true; the input reads as it did. -/
def fnExactBestOfSpec : ChangeSpec := { name := "fnExactBestOf", fn := fun _ => fun
  | [d1, d2] => { results := [.lit (.bool true)], args := [d1, d2] }
  | _ => none }
def fnExactBestOfRow : OpenClaim := { program := "ytppgealmedaihaa", sum := "622e54c8a572dd00dbcfb85f798485f904f854b850ea3ebcd66390fb90a065bc", func := "loop.example/g03007/laws.FnExactBestOf", spec := "fnExactBestOf", apart := false }
def FnExactBestOfSaid : Prop := fnExactBestOfRow.holds Try.pinned (OpenSpec.ofChange fnExactBestOfSpec)

/-- ITS FALSE NEIGHBOUR: 'it returns false'. Refute it at one input. -/
def fnExactBestOfWrong : ChangeSpec := { name := "fnExactBestOf", fn := fun _ => fun
  | [d1, d2] => { results := [.lit (.bool false)], args := [d1, d2] }
  | _ => none }
def FnExactBestOfWrongFalsely : Prop := fnExactBestOfRow.holds Try.pinned (OpenSpec.ofChange fnExactBestOfWrong)

/-- 'laws.FnClaims': WHATEVER THE INPUT: true; the input reads as it did. -/
def fnClaimsSpec : ChangeSpec := { name := "fnClaims", fn := fun _ => fun
  | [d] => { results := [.lit (.bool true)], args := [d] }
  | _ => none }
def fnClaimsRow : OpenClaim := { program := "ytppgealmedaihaa", sum := "622e54c8a572dd00dbcfb85f798485f904f854b850ea3ebcd66390fb90a065bc", func := "loop.example/g03007/laws.FnClaims", spec := "fnClaims", inPlace := ["slices.overlaps[loop.example/g03007/impl.Claim]"], unfollowed := true, recurses := true, apart := false }
def FnClaimsSaid : Prop := fnClaimsRow.holds Try.pinned (OpenSpec.ofChange fnClaimsSpec)

/-- ITS FALSE NEIGHBOUR: 'it returns false'. Refute it at one input. -/
def fnClaimsWrong : ChangeSpec := { name := "fnClaims", fn := fun _ => fun
  | [d] => { results := [.lit (.bool false)], args := [d] }
  | _ => none }
def FnClaimsWrongFalsely : Prop := fnClaimsRow.holds Try.pinned (OpenSpec.ofChange fnClaimsWrong)

/-- 'laws.FnExactCandidates': WHATEVER THE INPUT: true; the input reads as it did. -/
def fnExactCandidatesSpec : ChangeSpec := { name := "fnExactCandidates", fn := fun _ => fun
  | [d1, d2] => { results := [.lit (.bool true)], args := [d1, d2] }
  | _ => none }
def fnExactCandidatesRow : OpenClaim := { program := "ytppgealmedaihaa", sum := "622e54c8a572dd00dbcfb85f798485f904f854b850ea3ebcd66390fb90a065bc", func := "loop.example/g03007/laws.FnExactCandidates", spec := "fnExactCandidates", apart := false }
def FnExactCandidatesSaid : Prop := fnExactCandidatesRow.holds Try.pinned (OpenSpec.ofChange fnExactCandidatesSpec)

/-- ITS FALSE NEIGHBOUR: 'it returns false'. Refute it at one input. -/
def fnExactCandidatesWrong : ChangeSpec := { name := "fnExactCandidates", fn := fun _ => fun
  | [d1, d2] => { results := [.lit (.bool false)], args := [d1, d2] }
  | _ => none }
def FnExactCandidatesWrongFalsely : Prop := fnExactCandidatesRow.holds Try.pinned (OpenSpec.ofChange fnExactCandidatesWrong)

/-- 'laws.FnMatches': WHATEVER THE INPUT: true; the input reads as it did. -/
def fnMatchesSpec : ChangeSpec := { name := "fnMatches", fn := fun _ => fun
  | [d] => { results := [.lit (.bool true)], args := [d] }
  | _ => none }
def fnMatchesRow : OpenClaim := { program := "ytppgealmedaihaa", sum := "622e54c8a572dd00dbcfb85f798485f904f854b850ea3ebcd66390fb90a065bc", func := "loop.example/g03007/laws.FnMatches", spec := "fnMatches", unfollowed := true, recurses := true, apart := false }
def FnMatchesSaid : Prop := fnMatchesRow.holds Try.pinned (OpenSpec.ofChange fnMatchesSpec)

/-- ITS FALSE NEIGHBOUR: 'it returns false'. Refute it at one input. -/
def fnMatchesWrong : ChangeSpec := { name := "fnMatches", fn := fun _ => fun
  | [d] => { results := [.lit (.bool false)], args := [d] }
  | _ => none }
def FnMatchesWrongFalsely : Prop := fnMatchesRow.holds Try.pinned (OpenSpec.ofChange fnMatchesWrong)

/- THE SECOND FORM. 'bulk': how many values and letters a reading holds, each counted each time it is reached (what is shared counts as often as it is met; a slice's spare places count too). A statement '..UptoSaid' is the law's where the arguments, and the package variables that the reading takes, are together of bulk at most 1048576: NARROWER than '..Said'. Prove '..Said' where nothing that the law and all that it calls make is longer than what came in: it says more and counts as full. Else prove '..UptoSaid'. A law counts once. -/
mutual
def uptoBulk {H : Type} : DataW H → Nat
  | .lit (.string bytes) => bytes.length + 1
  | .lit _ => 1
  | .nil => 1
  | .ptr d => uptoBulk d + 1
  | .slice elems spare => uptoBulkAll elems + uptoBulkAll spare + 1
  | .agg parts => uptoBulkAll parts + 1
  | .iface _ d => uptoBulk d + 1
  | .map entries => uptoBulkEntries entries + 1
  | .held _ => 1
def uptoBulkAll {H : Type} : List (DataW H) → Nat
  | [] => 0
  | d :: r => uptoBulk d + uptoBulkAll r
def uptoBulkEntries {H : Type} : List (Lit × DataW H) → Nat
  | [] => 0
  | x :: r => uptoBulkEntry x + uptoBulkEntries r
def uptoBulkEntry {H : Type} : Lit × DataW H → Nat
  | (.string bytes, d) => bytes.length + uptoBulk d + 1
  | (_, d) => uptoBulk d + 1
 end
def uptoSmall : (H : Type) → List (DataW H) → Bool := fun _ ds => decide (uptoBulkAll ds ≤ 1048576)
def OpenSpec.upto (s : _root_.Go.ChangeSpec) : _root_.Go.OpenSpec := { _root_.Go.OpenSpec.ofChange s with cond := some uptoSmall }

/-- 'laws.FnExactAnswerAll', WHERE WHAT IT READS IS OF BULK AT MOST 1048576: true; the input reads as it did. -/
def fnExactAnswerAllUptoRow : OpenClaim := { program := "ytppgealmedaihaa", sum := "622e54c8a572dd00dbcfb85f798485f904f854b850ea3ebcd66390fb90a065bc", func := "loop.example/g03007/laws.FnExactAnswerAll", spec := "fnExactAnswerAll", apart := false, narrowed := true }
def FnExactAnswerAllUptoSaid : Prop := fnExactAnswerAllUptoRow.holds Try.pinned (OpenSpec.upto fnExactAnswerAllSpec)

/-- 'laws.FnExactSharpen', WHERE WHAT IT READS IS OF BULK AT MOST 1048576: true; the input reads as it did. -/
def fnExactSharpenUptoRow : OpenClaim := { program := "ytppgealmedaihaa", sum := "622e54c8a572dd00dbcfb85f798485f904f854b850ea3ebcd66390fb90a065bc", func := "loop.example/g03007/laws.FnExactSharpen", spec := "fnExactSharpen", apart := false, narrowed := true }
def FnExactSharpenUptoSaid : Prop := fnExactSharpenUptoRow.holds Try.pinned (OpenSpec.upto fnExactSharpenSpec)

/-- 'laws.FnMarks', WHERE WHAT IT READS IS OF BULK AT MOST 1048576: true; the input reads as it did. -/
def fnMarksUptoRow : OpenClaim := { program := "ytppgealmedaihaa", sum := "622e54c8a572dd00dbcfb85f798485f904f854b850ea3ebcd66390fb90a065bc", func := "loop.example/g03007/laws.FnMarks", spec := "fnMarks", inPlace := ["slices.overlaps[loop.example/g03007/impl.Mark]"], apart := false, narrowed := true }
def FnMarksUptoSaid : Prop := fnMarksUptoRow.holds Try.pinned (OpenSpec.upto fnMarksSpec)

/-- 'laws.FnTrials', WHERE WHAT IT READS IS OF BULK AT MOST 1048576: true; the input reads as it did. -/
def fnTrialsUptoRow : OpenClaim := { program := "ytppgealmedaihaa", sum := "622e54c8a572dd00dbcfb85f798485f904f854b850ea3ebcd66390fb90a065bc", func := "loop.example/g03007/laws.FnTrials", spec := "fnTrials", apart := false, narrowed := true }
def FnTrialsUptoSaid : Prop := fnTrialsUptoRow.holds Try.pinned (OpenSpec.upto fnTrialsSpec)

/-- 'laws.FnExactAddClaim', WHERE WHAT IT READS IS OF BULK AT MOST 1048576: true; the input reads as it did. -/
def fnExactAddClaimUptoRow : OpenClaim := { program := "ytppgealmedaihaa", sum := "622e54c8a572dd00dbcfb85f798485f904f854b850ea3ebcd66390fb90a065bc", func := "loop.example/g03007/laws.FnExactAddClaim", spec := "fnExactAddClaim", inPlace := ["slices.overlaps[loop.example/g03007/impl.Claim]"], unfollowed := true, recurses := true, apart := false, narrowed := true }
def FnExactAddClaimUptoSaid : Prop := fnExactAddClaimUptoRow.holds Try.pinned (OpenSpec.upto fnExactAddClaimSpec)

/-- 'laws.FnExactSeekers', WHERE WHAT IT READS IS OF BULK AT MOST 1048576: true; the input reads as it did. -/
def fnExactSeekersUptoRow : OpenClaim := { program := "ytppgealmedaihaa", sum := "622e54c8a572dd00dbcfb85f798485f904f854b850ea3ebcd66390fb90a065bc", func := "loop.example/g03007/laws.FnExactSeekers", spec := "fnExactSeekers", apart := false, narrowed := true }
def FnExactSeekersUptoSaid : Prop := fnExactSeekersUptoRow.holds Try.pinned (OpenSpec.upto fnExactSeekersSpec)

/-- 'laws.FnReports', WHERE WHAT IT READS IS OF BULK AT MOST 1048576: true; the input reads as it did. -/
def fnReportsUptoRow : OpenClaim := { program := "ytppgealmedaihaa", sum := "622e54c8a572dd00dbcfb85f798485f904f854b850ea3ebcd66390fb90a065bc", func := "loop.example/g03007/laws.FnReports", spec := "fnReports", inPlace := ["slices.overlaps[loop.example/g03007/impl.Report]"], unfollowed := true, recurses := true, apart := false, narrowed := true }
def FnReportsUptoSaid : Prop := fnReportsUptoRow.holds Try.pinned (OpenSpec.upto fnReportsSpec)

/-- 'laws.FnExactBestOf', WHERE WHAT IT READS IS OF BULK AT MOST 1048576: true; the input reads as it did. -/
def fnExactBestOfUptoRow : OpenClaim := { program := "ytppgealmedaihaa", sum := "622e54c8a572dd00dbcfb85f798485f904f854b850ea3ebcd66390fb90a065bc", func := "loop.example/g03007/laws.FnExactBestOf", spec := "fnExactBestOf", apart := false, narrowed := true }
def FnExactBestOfUptoSaid : Prop := fnExactBestOfUptoRow.holds Try.pinned (OpenSpec.upto fnExactBestOfSpec)

/-- 'laws.FnClaims', WHERE WHAT IT READS IS OF BULK AT MOST 1048576: true; the input reads as it did. -/
def fnClaimsUptoRow : OpenClaim := { program := "ytppgealmedaihaa", sum := "622e54c8a572dd00dbcfb85f798485f904f854b850ea3ebcd66390fb90a065bc", func := "loop.example/g03007/laws.FnClaims", spec := "fnClaims", inPlace := ["slices.overlaps[loop.example/g03007/impl.Claim]"], unfollowed := true, recurses := true, apart := false, narrowed := true }
def FnClaimsUptoSaid : Prop := fnClaimsUptoRow.holds Try.pinned (OpenSpec.upto fnClaimsSpec)

/-- 'laws.FnExactCandidates', WHERE WHAT IT READS IS OF BULK AT MOST 1048576: true; the input reads as it did. -/
def fnExactCandidatesUptoRow : OpenClaim := { program := "ytppgealmedaihaa", sum := "622e54c8a572dd00dbcfb85f798485f904f854b850ea3ebcd66390fb90a065bc", func := "loop.example/g03007/laws.FnExactCandidates", spec := "fnExactCandidates", apart := false, narrowed := true }
def FnExactCandidatesUptoSaid : Prop := fnExactCandidatesUptoRow.holds Try.pinned (OpenSpec.upto fnExactCandidatesSpec)

/-- 'laws.FnMatches', WHERE WHAT IT READS IS OF BULK AT MOST 1048576: true; the input reads as it did. -/
def fnMatchesUptoRow : OpenClaim := { program := "ytppgealmedaihaa", sum := "622e54c8a572dd00dbcfb85f798485f904f854b850ea3ebcd66390fb90a065bc", func := "loop.example/g03007/laws.FnMatches", spec := "fnMatches", unfollowed := true, recurses := true, apart := false, narrowed := true }
def FnMatchesUptoSaid : Prop := fnMatchesUptoRow.holds Try.pinned (OpenSpec.upto fnMatchesSpec)

end Rows
end Go.Proofs.Ytppgealmedaihaa
