/-
  The row of loop.example/g03007/laws.FnExactSeekers: whatever the input, the law returns true and leaves its arguments as they were. It has no conditions.
-/
import Derived.Test.YtmgildchccmhgaaRows
import Derived.Test.YtmgildchccmhgaaOpen
import Derived.Test.YtmgildchccmhgaaPureFnExactSeekers
import Derived.Test.YtmgildchccmhgaaPFnExactSeekersx11
import Derived.WalkKit
import Derived.ProofKit
import Derived.OpenShut
import Derived.ShutString
import Derived.ChangeOld
import Derived.Below
import Derived.SizedLaws
import Derived.Carry
namespace Go.Proofs.Ytmgildchccmhgaa.fnExactSeekers
open Go.ChangeShapes Go.WideShapes Go.ChangeAt Go.RowKit Go.Proofs.YtmgildchccmhgaaW.PrintWords Go.Proofs.Ytmgildchccmhgaa.Opened Go.Proofs.Ytmgildchccmhgaa.PFnExactSeekers Go.Proofs.Ytmgildchccmhgaa.PFnExactSeekers.Pure
set_option linter.unusedVariables false
set_option linter.unusedSimpArgs false
theorem own : ownKnob Try.prog.godebug = none := by kernel_rfl
theorem laidOut : laidOutB Try.prog = true := by kernel_rfl
theorem reads23 (w : World) : Reading Try.prog w 23 k23 Pure.ok23 :=
  Reading.struct Try.underlying23 (by kernel_rfl) (Fields.more (Reading.int Try.underlying3 (by kernel_rfl)) rfl (Fields.more (Reading.int Try.underlying3 (by kernel_rfl)) rfl (Fields.more (Reading.int Try.underlying3 (by kernel_rfl)) rfl (Fields.more (Reading.int Try.underlying3 (by kernel_rfl)) rfl (Fields.last (Reading.int Try.underlying3 (by kernel_rfl)) rfl))))) (inv := fun p : Int × Int × Int × Int × Int => (⟨p.1, p.2.1, p.2.2.1, p.2.2.2.1, p.2.2.2.2⟩ : S23)) (fun _ => rfl) (fun _ h => h)
theorem reads25 (w : World) : Reading Try.prog w 25 k25 Pure.ok25 :=
  Reading.struct Try.underlying25 (by kernel_rfl) (Fields.more (reads23 w) rfl (Fields.more (Reading.int Try.underlying3 (by kernel_rfl)) rfl (Fields.more (Reading.int Try.underlying3 (by kernel_rfl)) rfl (Fields.last (Reading.int Try.underlying3 (by kernel_rfl)) rfl)))) (inv := fun p : S23 × Int × Int × Int => (⟨p.1, p.2.1, p.2.2.1, p.2.2.2⟩ : S25)) (fun _ => rfl) (fun _ h => h)
theorem reads43 (w : World) : Reading Try.prog w 43 k43 Pure.ok43 :=
  Reading.struct Try.underlying43 (by kernel_rfl) (Fields.more (Reading.int Try.underlying3 (by kernel_rfl)) rfl (Fields.last (Reading.int Try.underlying3 (by kernel_rfl)) rfl)) (inv := fun p : Int × Int => (⟨p.1, p.2⟩ : S43)) (fun _ => rfl) (fun _ h => h)
theorem reads45 (w : World) : Reading Try.prog w 45 k45 Pure.ok45 :=
  Reading.struct Try.underlying45 (by kernel_rfl) (Fields.more (Reading.int Try.underlying3 (by kernel_rfl)) rfl (Fields.more (Reading.int Try.underlying3 (by kernel_rfl)) rfl (Fields.more (Reading.slice (Reading.int Try.underlying3 (by kernel_rfl)) Try.underlying28 (by kernel_rfl)) rfl (Fields.more (Reading.int Try.underlying3 (by kernel_rfl)) rfl (Fields.more (Reading.int Try.underlying3 (by kernel_rfl)) rfl (Fields.more (Reading.slice (Reading.int Try.underlying3 (by kernel_rfl)) Try.underlying28 (by kernel_rfl)) rfl (Fields.last (reads43 w) rfl))))))) (inv := fun p : Int × Int × (List Int) × Int × Int × (List Int) × S43 => (⟨p.1, p.2.1, p.2.2.1, p.2.2.2.1, p.2.2.2.2.1, p.2.2.2.2.2.1, p.2.2.2.2.2.2⟩ : S45)) (fun _ => rfl) (fun _ h => h)
set_option maxRecDepth 100000 in
set_option maxHeartbeats 1000000 in
theorem lifted (os : Os) (started : os.Started) (H : Type) (enc : TypeId × Value → H) :
    ReturnsInHanded {} Try.checked os 3 .any (Rows.fnExactSeekersSpec.pre6 enc Try.prog Try.f3 Rows.fnExactSeekersRow.domain false) (Rows.fnExactSeekersSpec.post enc Try.prog Try.f3 false true false false) := by
  refine returnsInHanded_of_change_sized (C := Try.checked) own started (by kernel_rfl) Try.func3
    (ChangeSpec.witness6 (enc := enc) (C := Try.checked) false ⟨#[], #[.agg #[.int .i64 0, .int .i64 0, .int .i64 0, .int .i64 0, .int .i64 0, .int .i64 0, .int .i64 0, .int .i64 0], .slice none 0 0], []⟩ 8 (by kernel_rfl) (by kernel_rfl) (by kernel_rfl) (by kernel_rfl)) ?_
  intro W base args ds gs before hval0 hW hcnd hsz0 _
  have hval : ∀ (j : Nat) t v, Try.f3.params[j]? = some t → args[j]? = some v → Value.okWide Try.prog W .any base t v := hval0
  have hW' := hW
  obtain ⟨p, q, hA0, hV, rfl, hfz, hnd⟩ := hW
  have hA : DataW.TrodAll enc Try.prog W 0 (fun _ => true) true Try.f3.params.toList args.toList ds p := hA0
  rw [Try.params3] at hA hval
  obtain ⟨v0, vs0, d0, ds0, p0, q0, hargs, rfl, rfl, h0, r0⟩ := trodAll_cons hA
  obtain ⟨v1, vs1, d1, ds1, p1, q1, rfl, rfl, rfl, h1, r1⟩ := trodAll_cons r0
  obtain ⟨rfl, rfl, rfl⟩ := trodAll_nil r1
  obtain rfl : args = #[v0, v1] := by cases args; simp_all
  obtain ⟨rfl, rfl⟩ := trodVars_none hV
  have lt0 : ∀ x ∈ p0, x.block < W.heap.size := by
    obtain ⟨m, hm⟩ := h0
    exact DataW.trod_lt m _ _ _ hm
  obtain ⟨cs0, x0, e0, hK0, hw0⟩ := Reading.arg (reads25 W) Try.underlying25 (hval 0 25 v0 rfl rfl) h0
  obtain rfl := k25_open hK0
  subst e0
  have lt1 : ∀ x ∈ p1, x.block < W.heap.size := by
    obtain ⟨m, hm⟩ := h1
    exact DataW.trod_lt m _ _ _ hm
  obtain ⟨A1, c1, l1, e1, hc1, hr1, hm1, hw1⟩ := Reading.argRow (reads45 W) Try.underlying26 (hval 1 26 v1 rfl rfl) h1
  subst e1
  clear hA0 hval0 hsz0
  obtain ⟨k, hk⟩ := Pure.FnExactSeekers x0 hw0 l1 hm1 hw1
  refine (laws_FnExactSeekers.calls k x0.f0.f0 x0.f0.f1 x0.f0.f2 x0.f0.f3 x0.f0.f4 x0.f1 x0.f2 x0.f3 A1 c1 l1 true W hr1 hc1 hk).mono ?_
  rintro e W' ⟨rfl, hd⟩
  have bel : Below W.heap.size W W' := hd
  exact ⟨_, rfl, _, _, _, [], _, [], hW', trodAll_mk1 (shut_bool Try.underlying4 _), (trodAll_cons_mk (Below.trod laidOut (by kernel_rfl) (of_decide_eq_true (by kernel_rfl)) h0 bel lt0) (trodAll_cons_mk (Below.trod laidOut (by kernel_rfl) (of_decide_eq_true (by kernel_rfl)) h1 bel lt1) trodAll_mk0)), rfl, bel.frame _, fun h => by cases h⟩
theorem over : Rows.fnExactSeekersRow.holds Try.pinned (OpenSpec.ofChange Rows.fnExactSeekersSpec) :=
  OpenClaim.holds_of_wide 3 Try.f3 rfl rfl rfl rfl rfl rfl rfl ⟨rfl, rfl, rfl, rfl, rfl⟩ rfl rfl rfl rfl rfl (by kernel_rfl) Try.func3 (by kernel_rfl)
    (of_decide_eq_true (by kernel_rfl)) (by unfold Func.isWrapper; first | (rw [if_pos (by decide +kernel)]; kernel_rfl) | (rw [if_neg (by decide +kernel)]; exact ⟨rfl, rfl⟩))
    (fun os started H enc _ => lifted os started H enc)
theorem proved : Rows.FnExactSeekersSaid := over
#print axioms proved
end Go.Proofs.Ytmgildchccmhgaa.fnExactSeekers
namespace Go.Proofs.Ytmgildchccmhgaa
/-- The row, under a short name, for the claim. -/
theorem fnExactSeekers_holds : Rows.FnExactSeekersSaid := fnExactSeekers.proved
end Go.Proofs.Ytmgildchccmhgaa
