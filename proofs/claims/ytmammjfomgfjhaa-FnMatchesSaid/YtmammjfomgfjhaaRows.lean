/-
  No cell of these rows narrows 'for every input' (looked for: loops, veiled, ifaces, maps, wideKeys, modest, calm, conditions, laid).
  DERIVED. THE GIVEN ROWS OF THIS SEAT. 5 by the template 'for every input the law returns true; each argument reads behind the call as it read before'; 0 by the template 'total and deterministic' (their statements: YtmammjfomgfjhaaTotals.lean).
  GIVEN WITH THE SEED: the statements are not yours to turn. If you find one false, say at which input.
  Laid BY PROGRAM, IN A SANDBOX (cutbox-rows.mjs): the forced cells as the released guide's own fill.sh prints them over the translation 4386275616f65a8f… (all of the seat's roots in one cut). By AI agents, Wed Nov 11 2026. No macro, syntax, notation, axiom, sorry.
-/
import Derived.Test.YtmammjfomgfjhaaChecked
import GoSem.Claim
import GoSem.ClaimJoined
import GoSem.ClaimMapViews
import Derived.JoinedTies
import Derived.KernelRfl
namespace Go.Proofs.Ytmammjfomgfjhaa
/- THE CELL 'sum', in the pinned program and in every row, IS THE sha256 OF THE DUMP (.gsa) THAT YtmammjfomgfjhaaProg.lean LOADS. Nothing in Lean hashes anything: it is a label: what it is worth is what the hold of that sum in a sandbox is worth. -/
noncomputable def Try.pinned : Pinned := { name := "ytmammjfomgfjhaa", sum := "4386275616f65a8faf66f4d0364319b73351ee6b97613212a5c26e128129f3bb", checked := Try.checked }
namespace Rows
def none {H : Type} : Left H := { results := [], args := [] }

/-- 'laws.FnExactSharpen': WHATEVER THE INPUT: true; the input reads as it did. -/
def fnExactSharpenSpec : ChangeSpec := { name := "fnExactSharpen", fn := fun _ => fun
  | [d1, d2] => { results := [.lit (.bool true)], args := [d1, d2] }
  | _ => none }
def fnExactSharpenRow : OpenClaim := { program := "ytmammjfomgfjhaa", sum := "4386275616f65a8faf66f4d0364319b73351ee6b97613212a5c26e128129f3bb", func := "loop.example/g03007/laws.FnExactSharpen", spec := "fnExactSharpen", apart := false }
def FnExactSharpenSaid : Prop := fnExactSharpenRow.holds Try.pinned (OpenSpec.ofChange fnExactSharpenSpec)

/-- ITS FALSE NEIGHBOUR: 'it returns false'. Refute it at one input. -/
def fnExactSharpenWrong : ChangeSpec := { name := "fnExactSharpen", fn := fun _ => fun
  | [d1, d2] => { results := [.lit (.bool false)], args := [d1, d2] }
  | _ => none }
def FnExactSharpenWrongFalsely : Prop := fnExactSharpenRow.holds Try.pinned (OpenSpec.ofChange fnExactSharpenWrong)

/-- 'laws.FnMatches': WHATEVER THE INPUT: true; the input reads as it did. -/
def fnMatchesSpec : ChangeSpec := { name := "fnMatches", fn := fun _ => fun
  | [d] => { results := [.lit (.bool true)], args := [d] }
  | _ => none }
def fnMatchesRow : OpenClaim := { program := "ytmammjfomgfjhaa", sum := "4386275616f65a8faf66f4d0364319b73351ee6b97613212a5c26e128129f3bb", func := "loop.example/g03007/laws.FnMatches", spec := "fnMatches", unfollowed := true, recurses := true, apart := false }
def FnMatchesSaid : Prop := fnMatchesRow.holds Try.pinned (OpenSpec.ofChange fnMatchesSpec)

/-- ITS FALSE NEIGHBOUR: 'it returns false'. Refute it at one input. -/
def fnMatchesWrong : ChangeSpec := { name := "fnMatches", fn := fun _ => fun
  | [d] => { results := [.lit (.bool false)], args := [d] }
  | _ => none }
def FnMatchesWrongFalsely : Prop := fnMatchesRow.holds Try.pinned (OpenSpec.ofChange fnMatchesWrong)

/-- 'laws.FnExactJoinDoubts': WHATEVER THE INPUT: true; the input reads as it did. -/
def fnExactJoinDoubtsSpec : ChangeSpec := { name := "fnExactJoinDoubts", fn := fun _ => fun
  | [d1, d2] => { results := [.lit (.bool true)], args := [d1, d2] }
  | _ => none }
def fnExactJoinDoubtsRow : OpenClaim := { program := "ytmammjfomgfjhaa", sum := "4386275616f65a8faf66f4d0364319b73351ee6b97613212a5c26e128129f3bb", func := "loop.example/g03007/laws.FnExactJoinDoubts", spec := "fnExactJoinDoubts", recurses := true, apart := false }
def FnExactJoinDoubtsSaid : Prop := fnExactJoinDoubtsRow.holds Try.pinned (OpenSpec.ofChange fnExactJoinDoubtsSpec)

/-- ITS FALSE NEIGHBOUR: 'it returns false'. Refute it at one input. -/
def fnExactJoinDoubtsWrong : ChangeSpec := { name := "fnExactJoinDoubts", fn := fun _ => fun
  | [d1, d2] => { results := [.lit (.bool false)], args := [d1, d2] }
  | _ => none }
def FnExactJoinDoubtsWrongFalsely : Prop := fnExactJoinDoubtsRow.holds Try.pinned (OpenSpec.ofChange fnExactJoinDoubtsWrong)

/-- 'laws.FnExactRemember': WHATEVER THE INPUT: true; the input reads as it did. -/
def fnExactRememberSpec : ChangeSpec := { name := "fnExactRemember", fn := fun _ => fun
  | [d1, d2, d3] => { results := [.lit (.bool true)], args := [d1, d2, d3] }
  | _ => none }
def fnExactRememberRow : OpenClaim := { program := "ytmammjfomgfjhaa", sum := "4386275616f65a8faf66f4d0364319b73351ee6b97613212a5c26e128129f3bb", func := "loop.example/g03007/laws.FnExactRemember", spec := "fnExactRemember", recurses := true, apart := false }
def FnExactRememberSaid : Prop := fnExactRememberRow.holds Try.pinned (OpenSpec.ofChange fnExactRememberSpec)

/-- ITS FALSE NEIGHBOUR: 'it returns false'. Refute it at one input. -/
def fnExactRememberWrong : ChangeSpec := { name := "fnExactRemember", fn := fun _ => fun
  | [d1, d2, d3] => { results := [.lit (.bool false)], args := [d1, d2, d3] }
  | _ => none }
def FnExactRememberWrongFalsely : Prop := fnExactRememberRow.holds Try.pinned (OpenSpec.ofChange fnExactRememberWrong)

/-- 'laws.FnRemembered': WHATEVER THE INPUT: true; the input reads as it did. -/
def fnRememberedSpec : ChangeSpec := { name := "fnRemembered", fn := fun _ => fun
  | [d] => { results := [.lit (.bool true)], args := [d] }
  | _ => none }
def fnRememberedRow : OpenClaim := { program := "ytmammjfomgfjhaa", sum := "4386275616f65a8faf66f4d0364319b73351ee6b97613212a5c26e128129f3bb", func := "loop.example/g03007/laws.FnRemembered", spec := "fnRemembered", recurses := true, apart := false }
def FnRememberedSaid : Prop := fnRememberedRow.holds Try.pinned (OpenSpec.ofChange fnRememberedSpec)

/-- ITS FALSE NEIGHBOUR: 'it returns false'. Refute it at one input. -/
def fnRememberedWrong : ChangeSpec := { name := "fnRemembered", fn := fun _ => fun
  | [d] => { results := [.lit (.bool false)], args := [d] }
  | _ => none }
def FnRememberedWrongFalsely : Prop := fnRememberedRow.holds Try.pinned (OpenSpec.ofChange fnRememberedWrong)

/- THE SECOND FORM. 'bulk': how many values and letters a reading holds, each counted each time it is reached (what is shared counts as often as it is met; a slice's spare places count too). A statement '..UptoSaid' is the law's where the arguments, and the package variables that the reading takes, are together of bulk at most 1048576: NARROWER than '..Said'. Prove '..Said' where nothing that the law and all that it calls make is longer than what came in: it says more and counts as full. Else prove '..UptoSaid'. A law counts once. -/
mutual
def uptoBulk {H : Type} : DataW H → Nat
  | .lit (.string bytes) => bytes.length + 1
  | .lit _ => 1
  | .nil => 1
  | .ptr d => uptoBulk d + 1
  | .slice elems spare => uptoBulkAll elems + uptoBulkAll spare + 1
  | .agg parts => uptoBulkAll parts + 1
  | .iface _ d => uptoBulk d + 1
  | .map entries => uptoBulkEntries entries + 1
  | .held _ => 1
def uptoBulkAll {H : Type} : List (DataW H) → Nat
  | [] => 0
  | d :: r => uptoBulk d + uptoBulkAll r
def uptoBulkEntries {H : Type} : List (Lit × DataW H) → Nat
  | [] => 0
  | x :: r => uptoBulkEntry x + uptoBulkEntries r
def uptoBulkEntry {H : Type} : Lit × DataW H → Nat
  | (.string bytes, d) => bytes.length + uptoBulk d + 1
  | (_, d) => uptoBulk d + 1
 end
def uptoSmall : (H : Type) → List (DataW H) → Bool := fun _ ds => decide (uptoBulkAll ds ≤ 1048576)
def OpenSpec.upto (s : _root_.Go.ChangeSpec) : _root_.Go.OpenSpec := { _root_.Go.OpenSpec.ofChange s with cond := some uptoSmall }

/-- 'laws.FnExactSharpen', WHERE WHAT IT READS IS OF BULK AT MOST 1048576: true; the input reads as it did. -/
def fnExactSharpenUptoRow : OpenClaim := { program := "ytmammjfomgfjhaa", sum := "4386275616f65a8faf66f4d0364319b73351ee6b97613212a5c26e128129f3bb", func := "loop.example/g03007/laws.FnExactSharpen", spec := "fnExactSharpen", apart := false, narrowed := true }
def FnExactSharpenUptoSaid : Prop := fnExactSharpenUptoRow.holds Try.pinned (OpenSpec.upto fnExactSharpenSpec)

/-- 'laws.FnMatches', WHERE WHAT IT READS IS OF BULK AT MOST 1048576: true; the input reads as it did. -/
def fnMatchesUptoRow : OpenClaim := { program := "ytmammjfomgfjhaa", sum := "4386275616f65a8faf66f4d0364319b73351ee6b97613212a5c26e128129f3bb", func := "loop.example/g03007/laws.FnMatches", spec := "fnMatches", unfollowed := true, recurses := true, apart := false, narrowed := true }
def FnMatchesUptoSaid : Prop := fnMatchesUptoRow.holds Try.pinned (OpenSpec.upto fnMatchesSpec)

/-- 'laws.FnExactJoinDoubts', WHERE WHAT IT READS IS OF BULK AT MOST 1048576: true; the input reads as it did. -/
def fnExactJoinDoubtsUptoRow : OpenClaim := { program := "ytmammjfomgfjhaa", sum := "4386275616f65a8faf66f4d0364319b73351ee6b97613212a5c26e128129f3bb", func := "loop.example/g03007/laws.FnExactJoinDoubts", spec := "fnExactJoinDoubts", recurses := true, apart := false, narrowed := true }
def FnExactJoinDoubtsUptoSaid : Prop := fnExactJoinDoubtsUptoRow.holds Try.pinned (OpenSpec.upto fnExactJoinDoubtsSpec)

/-- 'laws.FnExactRemember', WHERE WHAT IT READS IS OF BULK AT MOST 1048576: true; the input reads as it did. -/
def fnExactRememberUptoRow : OpenClaim := { program := "ytmammjfomgfjhaa", sum := "4386275616f65a8faf66f4d0364319b73351ee6b97613212a5c26e128129f3bb", func := "loop.example/g03007/laws.FnExactRemember", spec := "fnExactRemember", recurses := true, apart := false, narrowed := true }
def FnExactRememberUptoSaid : Prop := fnExactRememberUptoRow.holds Try.pinned (OpenSpec.upto fnExactRememberSpec)

/-- 'laws.FnRemembered', WHERE WHAT IT READS IS OF BULK AT MOST 1048576: true; the input reads as it did. -/
def fnRememberedUptoRow : OpenClaim := { program := "ytmammjfomgfjhaa", sum := "4386275616f65a8faf66f4d0364319b73351ee6b97613212a5c26e128129f3bb", func := "loop.example/g03007/laws.FnRemembered", spec := "fnRemembered", recurses := true, apart := false, narrowed := true }
def FnRememberedUptoSaid : Prop := fnRememberedUptoRow.holds Try.pinned (OpenSpec.upto fnRememberedSpec)

end Rows
end Go.Proofs.Ytmammjfomgfjhaa
