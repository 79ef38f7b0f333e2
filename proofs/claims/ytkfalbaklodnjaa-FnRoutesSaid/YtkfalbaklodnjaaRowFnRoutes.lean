/-
  The row of loop.example/g03007/laws.FnRoutes: whatever the input, the law returns true and leaves its arguments as they were. It has no conditions.
-/
import Derived.Test.YtkfalbaklodnjaaRows
import Derived.Test.YtkfalbaklodnjaaOpen
import Derived.Test.YtkfalbaklodnjaaPureFnRoutes
import Derived.Test.YtkfalbaklodnjaaPFnRoutesx11
import Derived.WalkKit
import Derived.ProofKit
import Derived.OpenShut
import Derived.ShutString
import Derived.ChangeOld
import Derived.Below
import Derived.SizedLaws
import Derived.Carry
namespace Go.Proofs.Ytkfalbaklodnjaa.fnRoutes
open Go.ChangeShapes Go.WideShapes Go.ChangeAt Go.RowKit Go.Proofs.YtkfalbaklodnjaaW.PrintWords Go.Proofs.Ytkfalbaklodnjaa.Opened Go.Proofs.Ytkfalbaklodnjaa.PFnRoutes Go.Proofs.Ytkfalbaklodnjaa.PFnRoutes.Pure
set_option linter.unusedVariables false
set_option linter.unusedSimpArgs false
theorem own : ownKnob Try.prog.godebug = none := by kernel_rfl
theorem laidOut : laidOutB Try.prog = true := by kernel_rfl
set_option maxRecDepth 100000 in
set_option maxHeartbeats 1000000 in
theorem lifted (os : Os) (started : os.Started) (H : Type) (enc : TypeId × Value → H) :
    ReturnsInHanded {} Try.checked os 13 .any (Rows.fnRoutesSpec.pre6 enc Try.prog Try.f13 Rows.fnRoutesRow.domain false) (Rows.fnRoutesSpec.post enc Try.prog Try.f13 false true false false) := by
  refine returnsInHanded_of_change_sized (C := Try.checked) own started (by kernel_rfl) Try.func13
    (ChangeSpec.witness6 (enc := enc) (C := Try.checked) false ⟨#[], #[.slice none 0 0], []⟩ 8 (by kernel_rfl) (by kernel_rfl) (by kernel_rfl) (by kernel_rfl)) ?_
  intro W base args ds gs before hval0 hW hcnd hsz0 _
  have hval : ∀ (j : Nat) t v, Try.f13.params[j]? = some t → args[j]? = some v → Value.okWide Try.prog W .any base t v := hval0
  have hW' := hW
  obtain ⟨p, q, hA0, hV, rfl, hfz, hnd⟩ := hW
  have hA : DataW.TrodAll enc Try.prog W 0 (fun _ => true) true Try.f13.params.toList args.toList ds p := hA0
  rw [Try.params13] at hA hval
  obtain ⟨v0, vs0, d0, ds0, p0, q0, hargs, rfl, rfl, h0, r0⟩ := trodAll_cons hA
  obtain ⟨rfl, rfl, rfl⟩ := trodAll_nil r0
  obtain rfl : args = #[v0] := by cases args; simp_all
  obtain ⟨rfl, rfl⟩ := trodVars_none hV
  have lt0 : ∀ x ∈ p0, x.block < W.heap.size := by
    obtain ⟨m, hm⟩ := h0
    exact DataW.trod_lt m _ _ _ hm
  obtain ⟨A0, c0, l0, e0, hc0, hr0, hm0, hw0⟩ := Reading.argRow (Reading.int Try.underlying5 (by kernel_rfl)) Try.underlying66 (hval 0 66 v0 rfl rfl) h0
  subst e0
  clear hA0 hval0 hsz0
  obtain ⟨k, hk⟩ := Pure.FnRoutes l0 hm0 hw0
  refine (laws_FnRoutes.calls k A0 c0 l0 true W hr0 hc0 hk).mono ?_
  rintro e W' ⟨rfl, hd⟩
  have bel : Below W.heap.size W W' := hd
  exact ⟨_, rfl, _, _, _, [], _, [], hW', trodAll_mk1 (shut_bool Try.underlying4 _), (trodAll_cons_mk (Below.trod laidOut (by kernel_rfl) (of_decide_eq_true (by kernel_rfl)) h0 bel lt0) trodAll_mk0), rfl, bel.frame _, fun h => by cases h⟩
theorem over : Rows.fnRoutesRow.holds Try.pinned (OpenSpec.ofChange Rows.fnRoutesSpec) :=
  OpenClaim.holds_of_wide 13 Try.f13 rfl rfl rfl rfl rfl rfl rfl ⟨rfl, rfl, rfl, rfl, rfl⟩ rfl rfl rfl rfl rfl (by kernel_rfl) Try.func13 (by kernel_rfl)
    (of_decide_eq_true (by kernel_rfl)) (by unfold Func.isWrapper; first | (rw [if_pos (by decide +kernel)]; kernel_rfl) | (rw [if_neg (by decide +kernel)]; exact ⟨rfl, rfl⟩))
    (fun os started H enc _ => lifted os started H enc)
theorem proved : Rows.FnRoutesSaid := over
#print axioms proved
end Go.Proofs.Ytkfalbaklodnjaa.fnRoutes
namespace Go.Proofs.Ytkfalbaklodnjaa
/-- The row, under a short name, for the claim. -/
theorem fnRoutes_holds : Rows.FnRoutesSaid := fnRoutes.proved
end Go.Proofs.Ytkfalbaklodnjaa
