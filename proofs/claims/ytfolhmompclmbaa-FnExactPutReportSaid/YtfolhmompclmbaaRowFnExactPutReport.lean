/-
  The row of loop.example/g03007/laws.FnExactPutReport: whatever the input, the law returns true and leaves its arguments as they were. It has no conditions.
-/
import Derived.Test.YtfolhmompclmbaaRows
import Derived.Test.YtfolhmompclmbaaOpen
import Derived.Test.YtfolhmompclmbaaPureFnExactPutReport
import Derived.Test.YtfolhmompclmbaaPFnExactPutReportx11
import Derived.WalkKit
import Derived.ProofKit
import Derived.OpenShut
import Derived.ShutString
import Derived.ChangeOld
import Derived.Below
import Derived.SizedLaws
import Derived.Carry
namespace Go.Proofs.Ytfolhmompclmbaa.fnExactPutReport
open Go.ChangeShapes Go.WideShapes Go.ChangeAt Go.RowKit Go.Proofs.YtfolhmompclmbaaW.PrintWords Go.Proofs.Ytfolhmompclmbaa.Opened Go.Proofs.Ytfolhmompclmbaa.PFnExactPutReport Go.Proofs.Ytfolhmompclmbaa.PFnExactPutReport.Pure
set_option linter.unusedVariables false
set_option linter.unusedSimpArgs false
theorem own : ownKnob Try.prog.godebug = none := by kernel_rfl
theorem laidOut : laidOutB Try.prog = true := by kernel_rfl
theorem reads42 (w : World) : Reading Try.prog w 42 k42 Pure.ok42 :=
  Reading.struct Try.underlying42 (by kernel_rfl) (Fields.more (Reading.int Try.underlying3 (by kernel_rfl)) rfl (Fields.last (Reading.int Try.underlying3 (by kernel_rfl)) rfl)) (inv := fun p : Int × Int => (⟨p.1, p.2⟩ : S42)) (fun _ => rfl) (fun _ h => h)
theorem reads44 (w : World) : Reading Try.prog w 44 k44 Pure.ok44 :=
  Reading.struct Try.underlying44 (by kernel_rfl) (Fields.more (Reading.int Try.underlying3 (by kernel_rfl)) rfl (Fields.more (Reading.int Try.underlying3 (by kernel_rfl)) rfl (Fields.more (Reading.slice (Reading.int Try.underlying3 (by kernel_rfl)) Try.underlying25 (by kernel_rfl)) rfl (Fields.more (Reading.int Try.underlying3 (by kernel_rfl)) rfl (Fields.more (Reading.int Try.underlying3 (by kernel_rfl)) rfl (Fields.more (Reading.slice (Reading.int Try.underlying3 (by kernel_rfl)) Try.underlying25 (by kernel_rfl)) rfl (Fields.last (reads42 w) rfl))))))) (inv := fun p : Int × Int × (List Int) × Int × Int × (List Int) × S42 => (⟨p.1, p.2.1, p.2.2.1, p.2.2.2.1, p.2.2.2.2.1, p.2.2.2.2.2.1, p.2.2.2.2.2.2⟩ : S44)) (fun _ => rfl) (fun _ h => h)
set_option maxRecDepth 100000 in
set_option maxHeartbeats 1000000 in
theorem lifted (os : Os) (started : os.Started) (H : Type) (enc : TypeId × Value → H) :
    ReturnsInHanded {} Try.checked os 4 .any (Rows.fnExactPutReportSpec.pre6 enc Try.prog Try.f4 Rows.fnExactPutReportRow.domain false) (Rows.fnExactPutReportSpec.post enc Try.prog Try.f4 false true false false) := by
  refine returnsInHanded_of_change_sized (C := Try.checked) own started (by kernel_rfl) Try.func4
    (ChangeSpec.witness6 (enc := enc) (C := Try.checked) false ⟨#[], #[.slice none 0 0, .agg #[.int .i64 0, .int .i64 0, .slice none 0 0, .int .i64 0, .int .i64 0, .slice none 0 0, .int .i64 0, .int .i64 0]], []⟩ 8 (by kernel_rfl) (by kernel_rfl) (by kernel_rfl) (by kernel_rfl)) ?_
  intro W base args ds gs before hval0 hW hcnd hsz0 _
  have hval : ∀ (j : Nat) t v, Try.f4.params[j]? = some t → args[j]? = some v → Value.okWide Try.prog W .any base t v := hval0
  have hW' := hW
  obtain ⟨p, q, hA0, hV, rfl, hfz, hnd⟩ := hW
  have hA : DataW.TrodAll enc Try.prog W 0 (fun _ => true) true Try.f4.params.toList args.toList ds p := hA0
  rw [Try.params4] at hA hval
  obtain ⟨v0, vs0, d0, ds0, p0, q0, hargs, rfl, rfl, h0, r0⟩ := trodAll_cons hA
  obtain ⟨v1, vs1, d1, ds1, p1, q1, rfl, rfl, rfl, h1, r1⟩ := trodAll_cons r0
  obtain ⟨rfl, rfl, rfl⟩ := trodAll_nil r1
  obtain rfl : args = #[v0, v1] := by cases args; simp_all
  obtain ⟨rfl, rfl⟩ := trodVars_none hV
  have lt0 : ∀ x ∈ p0, x.block < W.heap.size := by
    obtain ⟨m, hm⟩ := h0
    exact DataW.trod_lt m _ _ _ hm
  obtain ⟨A0, c0, l0, e0, hc0, hr0, hm0, hw0⟩ := Reading.argRow (reads44 W) Try.underlying41 (hval 0 41 v0 rfl rfl) h0
  subst e0
  have lt1 : ∀ x ∈ p1, x.block < W.heap.size := by
    obtain ⟨m, hm⟩ := h1
    exact DataW.trod_lt m _ _ _ hm
  obtain ⟨cs1, x1, e1, hK1, hw1⟩ := Reading.arg (reads44 W) Try.underlying44 (hval 1 44 v1 rfl rfl) h1
  obtain ⟨A1_2, c1_2, A1_5, c1_5, rfl, hc1_2, hr1_2, hc1_5, hr1_5⟩ := k44_open hK1
  subst e1
  clear hA0 hval0 hsz0
  obtain ⟨k, hk⟩ := Pure.FnExactPutReport l0 hm0 hw0 x1 hw1
  refine (laws_FnExactPutReport.calls k A0 c0 l0 x1.f0 x1.f1 A1_2 c1_2 x1.f2 x1.f3 x1.f4 A1_5 c1_5 x1.f5 x1.f6.f0 x1.f6.f1 true W hr0 hc0 hr1_2 hc1_2 hr1_5 hc1_5 hk).mono ?_
  rintro e W' ⟨rfl, hd⟩
  have bel : Below W.heap.size W W' := hd
  exact ⟨_, rfl, _, _, _, [], _, [], hW', trodAll_mk1 (shut_bool Try.underlying4 _), (trodAll_cons_mk (Below.trod laidOut (by kernel_rfl) (of_decide_eq_true (by kernel_rfl)) h0 bel lt0) (trodAll_cons_mk (Below.trod laidOut (by kernel_rfl) (of_decide_eq_true (by kernel_rfl)) h1 bel lt1) trodAll_mk0)), rfl, bel.frame _, fun h => by cases h⟩
theorem over : Rows.fnExactPutReportRow.holds Try.pinned (OpenSpec.ofChange Rows.fnExactPutReportSpec) :=
  OpenClaim.holds_of_wide 4 Try.f4 rfl rfl rfl rfl rfl rfl rfl ⟨rfl, rfl, rfl, rfl, rfl⟩ rfl rfl rfl rfl rfl (by kernel_rfl) Try.func4 (by kernel_rfl)
    (of_decide_eq_true (by kernel_rfl)) (by unfold Func.isWrapper; first | (rw [if_pos (by decide +kernel)]; kernel_rfl) | (rw [if_neg (by decide +kernel)]; exact ⟨rfl, rfl⟩))
    (fun os started H enc _ => lifted os started H enc)
theorem proved : Rows.FnExactPutReportSaid := over
#print axioms proved
end Go.Proofs.Ytfolhmompclmbaa.fnExactPutReport
namespace Go.Proofs.Ytfolhmompclmbaa
/-- The row, under a short name, for the claim. -/
theorem fnExactPutReport_holds : Rows.FnExactPutReportSaid := fnExactPutReport.proved
end Go.Proofs.Ytfolhmompclmbaa
