-- The printed functions of one law and their contracts, over contracts of this session's own (hand.py).
import Derived.Test.YtlodmdmcgalkmaaPFnRememberedx0
import Derived.Test.YtlodmdmcgalkmaaPFnRememberedx1
import Derived.Test.YtlodmdmcgalkmaaPFnRememberedx2
namespace Go.Proofs.Ytlodmdmcgalkmaa.PFnRemembered
open Go.RowKit Go.Proofs.YtlodmdmcgalkmaaW.PrintWords Go.Proofs.YtlodmdmcgalkmaaW.PrintLast Go.Proofs.YtlodmdmcgalkmaaW.PrintMore Go.Proofs.Ytlodmdmcgalkmaa.Short
attribute [local go_sem] max2_int min2_int max_two min_two max_three min_three max_four min_four   -- for this text's walks alone
set_option linter.unusedVariables false
set_option linter.unusedSimpArgs false

def spec_DrawAreFinds.f (k : Nat) (l0 : List Int) : Option ((List (S27))) := (spec_l1New.f k l0).bind fun bt818 => ((spec_l6Any.f k bt818.1 bt818.2.1 bt818.2.2).bind fun bt822 => (some bt822.1))
theorem spec_DrawAreFinds.mono : ∀ a0 k, LeO (spec_DrawAreFinds.f k a0) (spec_DrawAreFinds.f (k + 1) a0) := by
  intro a0 k; unfold spec_DrawAreFinds.f
  repeat' first
      | (with_reducible exact spec_l1New.mono _ _)
      | (with_reducible exact spec_l6Any.mono _ _ _ _)
      | (with_reducible exact LeO.refl _)
      | (with_reducible exact LeO.none _)
      | (with_reducible refine LeO.ite ?_ ?_)
      | (with_reducible refine LeO.bind ?_ (fun _ => ?_))
set_option maxHeartbeats 8000000 in
set_option maxRecDepth 100000 in
theorem spec_DrawAreFinds.calls (k : Nat) (A0 : Option Addr) (c0 : Nat) (l0 : List Int) (r : List (S27)) (w : World) (hr0 : Kd.C (Kd.int .u8) w A0 l0.length l0) (hc0 : l0.length ≤ c0) (h : spec_DrawAreFinds.f k l0 = some r) :
    Calls Try.prog 17 #[.slice A0 l0.length c0] w fun e w' => ∃ v0_ : Value, e = .returned (v0_) ∧ Kd.R k27 27 w' w.heap.size (fun _ => True) v0_ r ∧ Below w.heap.size w w' := by
  have ae := Aside0.mk hr0; have af := Aside0.mk hc0; clear hr0 hc0; have HB := aM (Below.refl w.heap.size w); have H := h; clear h; unfold spec_DrawAreFinds.f at H; replace H := Option.bind_eq_some_iff.mp H; obtain ⟨⟨J, Y, aa⟩, ab, H⟩ := H; have A2 := Aside0.mk ab; clear ab; replace H := Option.bind_eq_some_iff.mp H; obtain ⟨⟨ai, aj, ak⟩, ac, H⟩ := H; have A3 := Aside0.mk ac; clear ac; obtain rfl := Option.some.inj H; go_enter Try.func17, Try.ntmps17; go_wp2_with (first | ((with_reducible refine gate_callee (f := 18) rfl ?_); refine goesL_ (some 5) rfl rfl Try.func18 (by kernel_rfl) rfl #[.slice A0 l0.length c0] rfl (by (try simp only [List.map_toArray, List.map_cons, List.map_nil]); first | done | rfl | (simp only [List.length_drop, List.length_take]; rfl)) ?_; (with_reducible refine (spec_l1New.calls k _ _ l0 J Y aa w _ ?side1 ?side2 ?side3 A2.out).mono ?_); (case side1 => repeat (first | (with_reducible first | exact HB.out | apply below_alloc | apply pw_below_drewN | apply below_drew1) | exact HB.out)); (case side2 => exact ae.out); (case side3 => exact af.out); rintro e w4 ⟨g821, rfl, hi, hb, hb2⟩; refine ⟨_, rfl, ?_⟩; replace HB := aM hb; have HI821 := aM hi; (try clear hb); (try clear hb2); (try clear hk); (try clear hi)) | ((with_reducible refine gate_callee (f := 40) rfl ?_); refine goesL_ (some 7) rfl rfl Try.func40 (by kernel_rfl) rfl #[.pointer (some ⟨g821, 0, none⟩)] rfl (by (try simp only [List.map_toArray, List.map_cons, List.map_nil]); first | done | rfl | (simp only [List.length_drop, List.length_take]; rfl)) ?_; (with_reducible refine (spec_l6Any.calls k g821 J Y aa ai aj ak w _ ?side1 ?side2 A3.out).mono ?_); (case side1 => exact tI0 HI821); (case side2 => repeat (first | (with_reducible first | exact HB.out | apply below_alloc | apply pw_below_drewN | apply below_drew1 | refine below_set ?_ (IsS74.ge HI821.out)) | exact HB.out)); rintro e w5 ⟨ar, rfl, ad, hi, hb, hk⟩; refine ⟨_, rfl, ?_⟩; have am := aM (Kd.R_lower ad (below_size (by repeat (first | (with_reducible first | exact HB.out | apply below_alloc | apply pw_below_drewN | apply below_drew1 | refine below_set ?_ (IsS74.ge HI821.out)) | exact HB.out)))); replace HB := aM hb; replace HI821 := aM hi; (try clear hb); (try clear hb2); (try clear hk); (try clear hi); (try clear ad))); go_ret; exact ⟨_, tE, by (with_reducible repeat (first | apply Kd.R_alloc | apply Kd.R_drewN | apply Kd.R_drew)); exact am.out, by repeat (first | (with_reducible first | exact HB.out | apply below_alloc | apply pw_below_drewN | apply below_drew1 | refine below_set ?_ (IsS74.ge HI821.out)) | exact HB.out)⟩

-- NOT PRINTED: function 3 (laws_FnRemembered)

end Go.Proofs.Ytlodmdmcgalkmaa.PFnRemembered
