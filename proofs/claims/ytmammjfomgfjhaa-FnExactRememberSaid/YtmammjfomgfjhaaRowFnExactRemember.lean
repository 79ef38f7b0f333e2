/-
  The row of loop.example/g03007/laws.FnExactRemember: whatever the input, the law returns true and leaves its arguments as they were. It has no conditions.
-/
import Derived.Test.YtmammjfomgfjhaaRows
import Derived.Test.YtmammjfomgfjhaaOpen
import Derived.Test.YtmammjfomgfjhaaPureFnExactRemember
import Derived.Test.YtmammjfomgfjhaaPFnExactRememberx10
import Derived.WalkKit
import Derived.ProofKit
import Derived.OpenShut
import Derived.ShutString
import Derived.ChangeOld
import Derived.Below
import Derived.SizedLaws
import Derived.Carry
namespace Go.Proofs.Ytmammjfomgfjhaa.fnExactRemember
open Go.ChangeShapes Go.WideShapes Go.ChangeAt Go.RowKit Go.Proofs.YtmammjfomgfjhaaW.PrintWords Go.Proofs.Ytmammjfomgfjhaa.Opened Go.Proofs.Ytmammjfomgfjhaa.PFnExactRemember Go.Proofs.Ytmammjfomgfjhaa.PFnExactRemember.Pure
set_option linter.unusedVariables false
set_option linter.unusedSimpArgs false
theorem own : ownKnob Try.prog.godebug = none := by kernel_rfl
theorem laidOut : laidOutB Try.prog = true := by kernel_rfl
theorem reads71 (w : World) : Reading Try.prog w 71 k71 Pure.ok71 :=
  Reading.struct Try.underlying71 (by kernel_rfl) (Fields.more (Reading.int Try.underlying3 (by kernel_rfl)) rfl (Fields.more (Reading.int Try.underlying3 (by kernel_rfl)) rfl (Fields.more (Reading.int Try.underlying3 (by kernel_rfl)) rfl (Fields.more (Reading.int Try.underlying3 (by kernel_rfl)) rfl (Fields.last (Reading.int Try.underlying3 (by kernel_rfl)) rfl))))) (inv := fun p : Int × Int × Int × Int × Int => (⟨p.1, p.2.1, p.2.2.1, p.2.2.2.1, p.2.2.2.2⟩ : S71)) (fun _ => rfl) (fun _ h => h)
theorem reads73 (w : World) : Reading Try.prog w 73 k73 Pure.ok73 :=
  Reading.struct Try.underlying73 (by kernel_rfl) (Fields.more (reads71 w) rfl (Fields.more (Reading.int Try.underlying3 (by kernel_rfl)) rfl (Fields.more (Reading.int Try.underlying3 (by kernel_rfl)) rfl (Fields.last (Reading.int Try.underlying3 (by kernel_rfl)) rfl)))) (inv := fun p : S71 × Int × Int × Int => (⟨p.1, p.2.1, p.2.2.1, p.2.2.2⟩ : S73)) (fun _ => rfl) (fun _ h => h)
theorem reads62 (w : World) : Reading Try.prog w 62 k62 Pure.ok62 :=
  Reading.struct Try.underlying62 (by kernel_rfl) (Fields.more (Reading.slice (Reading.int Try.underlying3 (by kernel_rfl)) Try.underlying22 (by kernel_rfl)) rfl (Fields.more (Reading.int Try.underlying3 (by kernel_rfl)) rfl (Fields.more (Reading.slice (Reading.int Try.underlying3 (by kernel_rfl)) Try.underlying22 (by kernel_rfl)) rfl (Fields.last (Reading.int Try.underlying3 (by kernel_rfl)) rfl)))) (inv := fun p : (List Int) × Int × (List Int) × Int => (⟨p.1, p.2.1, p.2.2.1, p.2.2.2⟩ : S62)) (fun _ => rfl) (fun _ h => h)
set_option maxRecDepth 100000 in
set_option maxHeartbeats 1000000 in
theorem lifted (os : Os) (started : os.Started) (H : Type) (enc : TypeId × Value → H) :
    ReturnsInHanded {} Try.checked os 6 .any (Rows.fnExactRememberSpec.pre6 enc Try.prog Try.f6 Rows.fnExactRememberRow.domain false) (Rows.fnExactRememberSpec.post enc Try.prog Try.f6 false true false false) := by
  refine returnsInHanded_of_change_sized (C := Try.checked) own started (by kernel_rfl) Try.func6
    (ChangeSpec.witness6 (enc := enc) (C := Try.checked) false ⟨#[], #[.agg #[.int .i64 0, .int .i64 0, .int .i64 0, .int .i64 0, .int .i64 0, .int .i64 0, .int .i64 0, .int .i64 0], .agg #[.slice none 0 0, .int .i64 0, .slice none 0 0, .int .i64 0], .int .i64 0], []⟩ 8 (by kernel_rfl) (by kernel_rfl) (by kernel_rfl) (by kernel_rfl)) ?_
  intro W base args ds gs before hval0 hW hcnd hsz0 _
  have hval : ∀ (j : Nat) t v, Try.f6.params[j]? = some t → args[j]? = some v → Value.okWide Try.prog W .any base t v := hval0
  have hW' := hW
  obtain ⟨p, q, hA0, hV, rfl, hfz, hnd⟩ := hW
  have hA : DataW.TrodAll enc Try.prog W 0 (fun _ => true) true Try.f6.params.toList args.toList ds p := hA0
  rw [Try.params6] at hA hval
  obtain ⟨v0, vs0, d0, ds0, p0, q0, hargs, rfl, rfl, h0, r0⟩ := trodAll_cons hA
  obtain ⟨v1, vs1, d1, ds1, p1, q1, rfl, rfl, rfl, h1, r1⟩ := trodAll_cons r0
  obtain ⟨v2, vs2, d2, ds2, p2, q2, rfl, rfl, rfl, h2, r2⟩ := trodAll_cons r1
  obtain ⟨rfl, rfl, rfl⟩ := trodAll_nil r2
  obtain rfl : args = #[v0, v1, v2] := by cases args; simp_all
  obtain ⟨rfl, rfl⟩ := trodVars_none hV
  have lt0 : ∀ x ∈ p0, x.block < W.heap.size := by
    obtain ⟨m, hm⟩ := h0
    exact DataW.trod_lt m _ _ _ hm
  obtain ⟨cs0, x0, e0, hK0, hw0⟩ := Reading.arg (reads73 W) Try.underlying73 (hval 0 73 v0 rfl rfl) h0
  obtain rfl := k73_open hK0
  subst e0
  have lt1 : ∀ x ∈ p1, x.block < W.heap.size := by
    obtain ⟨m, hm⟩ := h1
    exact DataW.trod_lt m _ _ _ hm
  obtain ⟨cs1, x1, e1, hK1, hw1⟩ := Reading.arg (reads62 W) Try.underlying62 (hval 1 62 v1 rfl rfl) h1
  obtain ⟨A1_0, c1_0, A1_2, c1_2, rfl, hc1_0, hr1_0, hc1_2, hr1_2⟩ := k62_open hK1
  subst e1
  obtain ⟨a2, rfl, rfl, rfl, w2⟩ := open_int Try.underlying3 (hval 2 3 v2 rfl rfl) h2
  clear hA0 hval0 hsz0
  obtain ⟨k, hk⟩ := Pure.FnExactRemember x0 hw0 x1 hw1 a2 w2
  refine (laws_FnExactRemember.calls k x0.f0.f0 x0.f0.f1 x0.f0.f2 x0.f0.f3 x0.f0.f4 x0.f1 x0.f2 x0.f3 A1_0 c1_0 x1.f0 x1.f1 A1_2 c1_2 x1.f2 x1.f3 a2 true W hr1_0 hc1_0 hr1_2 hc1_2 hk).mono ?_
  rintro e W' ⟨rfl, hd⟩
  have bel : Below W.heap.size W W' := hd
  exact ⟨_, rfl, _, _, _, [], _, [], hW', trodAll_mk1 (shut_bool Try.underlying4 _), (trodAll_cons_mk (Below.trod laidOut (by kernel_rfl) (of_decide_eq_true (by kernel_rfl)) h0 bel lt0) (trodAll_cons_mk (Below.trod laidOut (by kernel_rfl) (of_decide_eq_true (by kernel_rfl)) h1 bel lt1) (trodAll_cons_mk (shut_int Try.underlying3 w2) trodAll_mk0))), rfl, bel.frame _, fun h => by cases h⟩
theorem over : Rows.fnExactRememberRow.holds Try.pinned (OpenSpec.ofChange Rows.fnExactRememberSpec) :=
  OpenClaim.holds_of_wide 6 Try.f6 rfl rfl rfl rfl rfl rfl rfl ⟨rfl, rfl, rfl, rfl, rfl⟩ rfl rfl rfl rfl rfl (by kernel_rfl) Try.func6 (by kernel_rfl)
    (of_decide_eq_true (by kernel_rfl)) (by unfold Func.isWrapper; first | (rw [if_pos (by decide +kernel)]; kernel_rfl) | (rw [if_neg (by decide +kernel)]; exact ⟨rfl, rfl⟩))
    (fun os started H enc _ => lifted os started H enc)
theorem proved : Rows.FnExactRememberSaid := over
#print axioms proved
end Go.Proofs.Ytmammjfomgfjhaa.fnExactRemember
namespace Go.Proofs.Ytmammjfomgfjhaa
/-- The row, under a short name, for the claim. -/
theorem fnExactRemember_holds : Rows.FnExactRememberSaid := fnExactRemember.proved
end Go.Proofs.Ytmammjfomgfjhaa
