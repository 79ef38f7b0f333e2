/-
  The row of loop.example/g03007/laws.FnExactCandidates: whatever the input, the law returns true and leaves its arguments as they were. It has no conditions.
-/
import Derived.Test.YtppgealmedaihaaRows
import Derived.Test.YtppgealmedaihaaOpen
import Derived.Test.YtppgealmedaihaaPureFnExactCandidates
import Derived.Test.YtppgealmedaihaaPFnExactCandidatesx12
import Derived.WalkKit
import Derived.ProofKit
import Derived.OpenShut
import Derived.ShutString
import Derived.ChangeOld
import Derived.Below
import Derived.SizedLaws
import Derived.Carry
namespace Go.Proofs.Ytppgealmedaihaa.fnExactCandidates
open Go.ChangeShapes Go.WideShapes Go.ChangeAt Go.RowKit Go.Proofs.YtppgealmedaihaaW.PrintWords Go.Proofs.Ytppgealmedaihaa.Opened Go.Proofs.Ytppgealmedaihaa.PFnExactCandidates Go.Proofs.Ytppgealmedaihaa.PFnExactCandidates.Pure
set_option linter.unusedVariables false
set_option linter.unusedSimpArgs false
theorem own : ownKnob Try.prog.godebug = none := by kernel_rfl
theorem laidOut : laidOutB Try.prog = true := by kernel_rfl
theorem reads38 (w : World) : Reading Try.prog w 38 k38 Pure.ok38 :=
  Reading.struct Try.underlying38 (by kernel_rfl) (Fields.more (Reading.int Try.underlying3 (by kernel_rfl)) rfl (Fields.last (Reading.int Try.underlying3 (by kernel_rfl)) rfl)) (inv := fun p : Int × Int => (⟨p.1, p.2⟩ : S38)) (fun _ => rfl) (fun _ h => h)
theorem reads40 (w : World) : Reading Try.prog w 40 k40 Pure.ok40 :=
  Reading.struct Try.underlying40 (by kernel_rfl) (Fields.more (Reading.int Try.underlying3 (by kernel_rfl)) rfl (Fields.more (Reading.int Try.underlying3 (by kernel_rfl)) rfl (Fields.more (Reading.slice (Reading.int Try.underlying3 (by kernel_rfl)) Try.underlying25 (by kernel_rfl)) rfl (Fields.more (Reading.int Try.underlying3 (by kernel_rfl)) rfl (Fields.more (Reading.int Try.underlying3 (by kernel_rfl)) rfl (Fields.more (Reading.slice (Reading.int Try.underlying3 (by kernel_rfl)) Try.underlying25 (by kernel_rfl)) rfl (Fields.last (reads38 w) rfl))))))) (inv := fun p : Int × Int × (List Int) × Int × Int × (List Int) × S38 => (⟨p.1, p.2.1, p.2.2.1, p.2.2.2.1, p.2.2.2.2.1, p.2.2.2.2.2.1, p.2.2.2.2.2.2⟩ : S40)) (fun _ => rfl) (fun _ h => h)
theorem reads90 (w : World) : Reading Try.prog w 90 k90 Pure.ok90 :=
  Reading.struct Try.underlying90 (by kernel_rfl) (Fields.more (Reading.int Try.underlying3 (by kernel_rfl)) rfl (Fields.more (Reading.int Try.underlying3 (by kernel_rfl)) rfl (Fields.more (Reading.int Try.underlying3 (by kernel_rfl)) rfl (Fields.more (Reading.int Try.underlying3 (by kernel_rfl)) rfl (Fields.last (Reading.int Try.underlying3 (by kernel_rfl)) rfl))))) (inv := fun p : Int × Int × Int × Int × Int => (⟨p.1, p.2.1, p.2.2.1, p.2.2.2.1, p.2.2.2.2⟩ : S90)) (fun _ => rfl) (fun _ h => h)
theorem reads92 (w : World) : Reading Try.prog w 92 k92 Pure.ok92 :=
  Reading.struct Try.underlying92 (by kernel_rfl) (Fields.more (reads90 w) rfl (Fields.more (Reading.int Try.underlying3 (by kernel_rfl)) rfl (Fields.more (Reading.int Try.underlying3 (by kernel_rfl)) rfl (Fields.last (Reading.int Try.underlying3 (by kernel_rfl)) rfl)))) (inv := fun p : S90 × Int × Int × Int => (⟨p.1, p.2.1, p.2.2.1, p.2.2.2⟩ : S92)) (fun _ => rfl) (fun _ h => h)
set_option maxRecDepth 100000 in
set_option maxHeartbeats 1000000 in
theorem lifted (os : Os) (started : os.Started) (H : Type) (enc : TypeId × Value → H) :
    ReturnsInHanded {} Try.checked os 12 .any (Rows.fnExactCandidatesSpec.pre6 enc Try.prog Try.f12 Rows.fnExactCandidatesRow.domain false) (Rows.fnExactCandidatesSpec.post enc Try.prog Try.f12 false true false false) := by
  refine returnsInHanded_of_change_sized (C := Try.checked) own started (by kernel_rfl) Try.func12
    (ChangeSpec.witness6 (enc := enc) (C := Try.checked) false ⟨#[], #[.agg #[.int .i64 0, .int .i64 0, .slice none 0 0, .int .i64 0, .int .i64 0, .slice none 0 0, .int .i64 0, .int .i64 0], .slice none 0 0], []⟩ 8 (by kernel_rfl) (by kernel_rfl) (by kernel_rfl) (by kernel_rfl)) ?_
  intro W base args ds gs before hval0 hW hcnd hsz0 _
  have hval : ∀ (j : Nat) t v, Try.f12.params[j]? = some t → args[j]? = some v → Value.okWide Try.prog W .any base t v := hval0
  have hW' := hW
  obtain ⟨p, q, hA0, hV, rfl, hfz, hnd⟩ := hW
  have hA : DataW.TrodAll enc Try.prog W 0 (fun _ => true) true Try.f12.params.toList args.toList ds p := hA0
  rw [Try.params12] at hA hval
  obtain ⟨v0, vs0, d0, ds0, p0, q0, hargs, rfl, rfl, h0, r0⟩ := trodAll_cons hA
  obtain ⟨v1, vs1, d1, ds1, p1, q1, rfl, rfl, rfl, h1, r1⟩ := trodAll_cons r0
  obtain ⟨rfl, rfl, rfl⟩ := trodAll_nil r1
  obtain rfl : args = #[v0, v1] := by cases args; simp_all
  obtain ⟨rfl, rfl⟩ := trodVars_none hV
  have lt0 : ∀ x ∈ p0, x.block < W.heap.size := by
    obtain ⟨m, hm⟩ := h0
    exact DataW.trod_lt m _ _ _ hm
  obtain ⟨cs0, x0, e0, hK0, hw0⟩ := Reading.arg (reads40 W) Try.underlying40 (hval 0 40 v0 rfl rfl) h0
  obtain ⟨A0_2, c0_2, A0_5, c0_5, rfl, hc0_2, hr0_2, hc0_5, hr0_5⟩ := k40_open hK0
  subst e0
  have lt1 : ∀ x ∈ p1, x.block < W.heap.size := by
    obtain ⟨m, hm⟩ := h1
    exact DataW.trod_lt m _ _ _ hm
  obtain ⟨A1, c1, l1, e1, hc1, hr1, hm1, hw1⟩ := Reading.argRow (reads92 W) Try.underlying115 (hval 1 115 v1 rfl rfl) h1
  subst e1
  clear hA0 hval0 hsz0
  obtain ⟨k, hk⟩ := Pure.FnExactCandidates x0 hw0 l1 hm1 hw1
  refine (laws_FnExactCandidates.calls k x0.f0 x0.f1 A0_2 c0_2 x0.f2 x0.f3 x0.f4 A0_5 c0_5 x0.f5 x0.f6.f0 x0.f6.f1 A1 c1 l1 true W hr0_2 hc0_2 hr0_5 hc0_5 hr1 hc1 hk).mono ?_
  rintro e W' ⟨rfl, hd⟩
  have bel : Below W.heap.size W W' := hd
  exact ⟨_, rfl, _, _, _, [], _, [], hW', trodAll_mk1 (shut_bool Try.underlying4 _), (trodAll_cons_mk (Below.trod laidOut (by kernel_rfl) (of_decide_eq_true (by kernel_rfl)) h0 bel lt0) (trodAll_cons_mk (Below.trod laidOut (by kernel_rfl) (of_decide_eq_true (by kernel_rfl)) h1 bel lt1) trodAll_mk0)), rfl, bel.frame _, fun h => by cases h⟩
theorem over : Rows.fnExactCandidatesRow.holds Try.pinned (OpenSpec.ofChange Rows.fnExactCandidatesSpec) :=
  OpenClaim.holds_of_wide 12 Try.f12 rfl rfl rfl rfl rfl rfl rfl ⟨rfl, rfl, rfl, rfl, rfl⟩ rfl rfl rfl rfl rfl (by kernel_rfl) Try.func12 (by kernel_rfl)
    (of_decide_eq_true (by kernel_rfl)) (by unfold Func.isWrapper; first | (rw [if_pos (by decide +kernel)]; kernel_rfl) | (rw [if_neg (by decide +kernel)]; exact ⟨rfl, rfl⟩))
    (fun os started H enc _ => lifted os started H enc)
theorem proved : Rows.FnExactCandidatesSaid := over
#print axioms proved
end Go.Proofs.Ytppgealmedaihaa.fnExactCandidates
namespace Go.Proofs.Ytppgealmedaihaa
/-- The row, under a short name, for the claim. -/
theorem fnExactCandidates_holds : Rows.FnExactCandidatesSaid := fnExactCandidates.proved
end Go.Proofs.Ytppgealmedaihaa
