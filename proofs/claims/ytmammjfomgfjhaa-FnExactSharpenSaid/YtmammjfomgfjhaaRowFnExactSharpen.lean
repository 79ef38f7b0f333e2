/-
  The row of loop.example/g03007/laws.FnExactSharpen: whatever the input, the law returns true and leaves its arguments as they were. It has no conditions.
-/
import Derived.Test.YtmammjfomgfjhaaRows
import Derived.Test.YtmammjfomgfjhaaOpen
import Derived.Test.YtmammjfomgfjhaaPureFnExactSharpen
import Derived.Test.YtmammjfomgfjhaaPFnExactSharpenx8
import Derived.WalkKit
import Derived.ProofKit
import Derived.OpenShut
import Derived.ShutString
import Derived.ChangeOld
import Derived.Below
import Derived.SizedLaws
import Derived.Carry
namespace Go.Proofs.Ytmammjfomgfjhaa.fnExactSharpen
open Go.ChangeShapes Go.WideShapes Go.ChangeAt Go.RowKit Go.Proofs.YtmammjfomgfjhaaW.PrintWords Go.Proofs.Ytmammjfomgfjhaa.Opened Go.Proofs.Ytmammjfomgfjhaa.PFnExactSharpen Go.Proofs.Ytmammjfomgfjhaa.PFnExactSharpen.Pure
set_option linter.unusedVariables false
set_option linter.unusedSimpArgs false
theorem own : ownKnob Try.prog.godebug = none := by kernel_rfl
theorem laidOut : laidOutB Try.prog = true := by kernel_rfl
theorem reads24 (w : World) : Reading Try.prog w 24 k24 Pure.ok24 :=
  Reading.struct Try.underlying24 (by kernel_rfl) (Fields.more (Reading.int Try.underlying3 (by kernel_rfl)) rfl (Fields.last (Reading.int Try.underlying3 (by kernel_rfl)) rfl)) (inv := fun p : Int × Int => (⟨p.1, p.2⟩ : S24)) (fun _ => rfl) (fun _ h => h)
theorem reads26 (w : World) : Reading Try.prog w 26 k26 Pure.ok26 :=
  Reading.struct Try.underlying26 (by kernel_rfl) (Fields.more (Reading.int Try.underlying3 (by kernel_rfl)) rfl (Fields.more (Reading.int Try.underlying3 (by kernel_rfl)) rfl (Fields.more (Reading.slice (Reading.int Try.underlying3 (by kernel_rfl)) Try.underlying22 (by kernel_rfl)) rfl (Fields.more (Reading.int Try.underlying3 (by kernel_rfl)) rfl (Fields.more (Reading.int Try.underlying3 (by kernel_rfl)) rfl (Fields.more (Reading.slice (Reading.int Try.underlying3 (by kernel_rfl)) Try.underlying22 (by kernel_rfl)) rfl (Fields.last (reads24 w) rfl))))))) (inv := fun p : Int × Int × (List Int) × Int × Int × (List Int) × S24 => (⟨p.1, p.2.1, p.2.2.1, p.2.2.2.1, p.2.2.2.2.1, p.2.2.2.2.2.1, p.2.2.2.2.2.2⟩ : S26)) (fun _ => rfl) (fun _ h => h)
set_option maxRecDepth 100000 in
set_option maxHeartbeats 1000000 in
theorem lifted (os : Os) (started : os.Started) (H : Type) (enc : TypeId × Value → H) :
    ReturnsInHanded {} Try.checked os 3 .any (Rows.fnExactSharpenSpec.pre6 enc Try.prog Try.f3 Rows.fnExactSharpenRow.domain false) (Rows.fnExactSharpenSpec.post enc Try.prog Try.f3 false true false false) := by
  refine returnsInHanded_of_change_sized (C := Try.checked) own started (by kernel_rfl) Try.func3
    (ChangeSpec.witness6 (enc := enc) (C := Try.checked) false ⟨#[], #[.agg #[.int .i64 0, .int .i64 0, .slice none 0 0, .int .i64 0, .int .i64 0, .slice none 0 0, .int .i64 0, .int .i64 0], .agg #[.int .i64 0, .int .i64 0, .slice none 0 0, .int .i64 0, .int .i64 0, .slice none 0 0, .int .i64 0, .int .i64 0]], []⟩ 8 (by kernel_rfl) (by kernel_rfl) (by kernel_rfl) (by kernel_rfl)) ?_
  intro W base args ds gs before hval0 hW hcnd hsz0 _
  have hval : ∀ (j : Nat) t v, Try.f3.params[j]? = some t → args[j]? = some v → Value.okWide Try.prog W .any base t v := hval0
  have hW' := hW
  obtain ⟨p, q, hA0, hV, rfl, hfz, hnd⟩ := hW
  have hA : DataW.TrodAll enc Try.prog W 0 (fun _ => true) true Try.f3.params.toList args.toList ds p := hA0
  rw [Try.params3] at hA hval
  obtain ⟨v0, vs0, d0, ds0, p0, q0, hargs, rfl, rfl, h0, r0⟩ := trodAll_cons hA
  obtain ⟨v1, vs1, d1, ds1, p1, q1, rfl, rfl, rfl, h1, r1⟩ := trodAll_cons r0
  obtain ⟨rfl, rfl, rfl⟩ := trodAll_nil r1
  obtain rfl : args = #[v0, v1] := by cases args; simp_all
  obtain ⟨rfl, rfl⟩ := trodVars_none hV
  have lt0 : ∀ x ∈ p0, x.block < W.heap.size := by
    obtain ⟨m, hm⟩ := h0
    exact DataW.trod_lt m _ _ _ hm
  obtain ⟨cs0, x0, e0, hK0, hw0⟩ := Reading.arg (reads26 W) Try.underlying26 (hval 0 26 v0 rfl rfl) h0
  obtain ⟨A0_2, c0_2, A0_5, c0_5, rfl, hc0_2, hr0_2, hc0_5, hr0_5⟩ := k26_open hK0
  subst e0
  have lt1 : ∀ x ∈ p1, x.block < W.heap.size := by
    obtain ⟨m, hm⟩ := h1
    exact DataW.trod_lt m _ _ _ hm
  obtain ⟨cs1, x1, e1, hK1, hw1⟩ := Reading.arg (reads26 W) Try.underlying26 (hval 1 26 v1 rfl rfl) h1
  obtain ⟨A1_2, c1_2, A1_5, c1_5, rfl, hc1_2, hr1_2, hc1_5, hr1_5⟩ := k26_open hK1
  subst e1
  clear hA0 hval0 hsz0
  obtain ⟨k, hk⟩ := Pure.FnExactSharpen x0 hw0 x1 hw1
  refine (laws_FnExactSharpen.calls k x0.f0 x0.f1 A0_2 c0_2 x0.f2 x0.f3 x0.f4 A0_5 c0_5 x0.f5 x0.f6.f0 x0.f6.f1 x1.f0 x1.f1 A1_2 c1_2 x1.f2 x1.f3 x1.f4 A1_5 c1_5 x1.f5 x1.f6.f0 x1.f6.f1 true W hr0_2 hc0_2 hr0_5 hc0_5 hr1_2 hc1_2 hr1_5 hc1_5 hk).mono ?_
  rintro e W' ⟨rfl, hd⟩
  have bel : Below W.heap.size W W' := hd
  exact ⟨_, rfl, _, _, _, [], _, [], hW', trodAll_mk1 (shut_bool Try.underlying4 _), (trodAll_cons_mk (Below.trod laidOut (by kernel_rfl) (of_decide_eq_true (by kernel_rfl)) h0 bel lt0) (trodAll_cons_mk (Below.trod laidOut (by kernel_rfl) (of_decide_eq_true (by kernel_rfl)) h1 bel lt1) trodAll_mk0)), rfl, bel.frame _, fun h => by cases h⟩
theorem over : Rows.fnExactSharpenRow.holds Try.pinned (OpenSpec.ofChange Rows.fnExactSharpenSpec) :=
  OpenClaim.holds_of_wide 3 Try.f3 rfl rfl rfl rfl rfl rfl rfl ⟨rfl, rfl, rfl, rfl, rfl⟩ rfl rfl rfl rfl rfl (by kernel_rfl) Try.func3 (by kernel_rfl)
    (of_decide_eq_true (by kernel_rfl)) (by unfold Func.isWrapper; first | (rw [if_pos (by decide +kernel)]; kernel_rfl) | (rw [if_neg (by decide +kernel)]; exact ⟨rfl, rfl⟩))
    (fun os started H enc _ => lifted os started H enc)
theorem proved : Rows.FnExactSharpenSaid := over
#print axioms proved
end Go.Proofs.Ytmammjfomgfjhaa.fnExactSharpen
namespace Go.Proofs.Ytmammjfomgfjhaa
/-- The row, under a short name, for the claim. -/
theorem fnExactSharpen_holds : Rows.FnExactSharpenSaid := fnExactSharpen.proved
end Go.Proofs.Ytmammjfomgfjhaa
