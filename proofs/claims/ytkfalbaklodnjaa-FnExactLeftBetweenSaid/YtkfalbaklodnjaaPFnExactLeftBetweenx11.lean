-- The printed functions of one law and their contracts, over contracts of this session's own (hand.py).
import Derived.Test.YtkfalbaklodnjaaPFnExactLeftBetweenx0
import Derived.Test.YtkfalbaklodnjaaPFnExactLeftBetweenx1
import Derived.Test.YtkfalbaklodnjaaPFnExactLeftBetweenx6
import Derived.Test.YtkfalbaklodnjaaPFnExactLeftBetweenx7
import Derived.Test.YtkfalbaklodnjaaPFnExactLeftBetweenx9
import Derived.Test.YtkfalbaklodnjaaPFnExactLeftBetweenx10
namespace Go.Proofs.Ytkfalbaklodnjaa.PFnExactLeftBetween
open Go.RowKit Go.Proofs.YtkfalbaklodnjaaW.PrintWords Go.Proofs.YtkfalbaklodnjaaW.PrintLast Go.Proofs.YtkfalbaklodnjaaW.PrintMore Go.Proofs.Ytkfalbaklodnjaa.Short
attribute [local go_sem] max2_int min2_int max_two min_two max_three min_three max_four min_four   -- for this text's walks alone
set_option linter.unusedVariables false
set_option linter.unusedSimpArgs false

/-! ### laws_FnExactLeftBetween: function 4 -/
def laws_FnExactLeftBetween.j0 : Nat → List (S154) → List Int → List Int → Bool → Int → Int → Option (Bool)
 | 0, _, _, _, _, _, _ => none
 | k + 1, x0, x6, x8, x48, x245000, x245001 => if x48 = true then (some false) else ((laws_markIntS.f k x8 1).bind fun bt270 => ((laws_heldIntS.f k bt270.2 1).bind fun t272 => (if t272 < 0 then (some false) else (if t272 = bt270.1 then ((laws_toStopS.f k x0).bind fun t273 => ((laws_toSpan.f x245000 x245001).bind fun bt276 => ((impl_LeftBetween.f k t273 bt276.1 bt276.2).bind fun t278 => ((laws_eqIntS.f k t278 x6).bind fun t281 => (if t281 = true then ((laws_heldIntS.f k bt270.2 1).bind fun t282 => (if t282 < 0 then (some false) else (if t282 = bt270.1 then (some true) else (some false)))) else (some false)))))) else (some false)))))
def laws_FnExactLeftBetween.f (k : Nat) (l0 : List (S154)) (a1_0 : Int) (a1_1 : Int) : Option (Bool) := (laws_szStopS.f l0 1048576).bind fun t245 => (if t245 < 0 then (some true) else ((laws_toStopS.f k l0).bind fun t246 => ((laws_toSpan.f a1_0 a1_1).bind fun bt249 => ((spec_LeftBetween.f k t246 bt249.1 bt249.2).bind fun t251 => ((laws_toStopS.f k l0).bind fun t254 => ((laws_toSpan.f a1_0 a1_1).bind fun bt257 => ((impl_LeftBetween.f k t254 bt257.1 bt257.2).bind fun t259 => ((laws_eqIntS.f k t259 t251).bind fun t262 => (if t262 = true then ((laws_toStopS.f k l0).bind fun t263 => ((laws_eqStopS.f k t254 t263).bind fun t266 => (if t266 = true then ((laws_markStopS.f k t254 1).bind fun bt267 => (if bt267.1 < 0 then (laws_FnExactLeftBetween.j0 k l0 t251 t259 true a1_0 a1_1) else ((laws_eqIntS.f k t259 t251).bind fun t269 => (laws_FnExactLeftBetween.j0 k l0 t251 t259 (!t269) a1_0 a1_1)))) else (some false)))) else (some false))))))))))
theorem laws_FnExactLeftBetween.mono_l : ∀ k, (∀ y0 y1 y2 y3 y4 y5, LeO (laws_FnExactLeftBetween.j0 k y0 y1 y2 y3 y4 y5) (laws_FnExactLeftBetween.j0 (k + 1) y0 y1 y2 y3 y4 y5))
 | 0 => fun _ _ _ _ _ _ r h => by simp [laws_FnExactLeftBetween.j0] at h
 | k + 1 => by
  have ih0 := laws_FnExactLeftBetween.mono_l k
  ·intro y0 y1 y2 y3 y4 y5
   unfold laws_FnExactLeftBetween.j0
   repeat' first
   | (with_reducible exact ih0 _ _ _ _ _ _)
   | (with_reducible exact impl_LeftBetween.mono _ _ _ _)
   | (with_reducible exact laws_eqIntS.mono _ _ _)
   | (with_reducible exact laws_eqStopS.mono _ _ _)
   | (with_reducible exact laws_heldIntS.mono _ _ _)
   | (with_reducible exact laws_markIntS.mono _ _ _)
   | (with_reducible exact laws_markStopS.mono _ _ _)
   | (with_reducible exact laws_toStopS.mono _ _)
   | (with_reducible exact spec_LeftBetween.mono _ _ _ _)
   | (with_reducible exact LeO.refl _)
   | (with_reducible exact LeO.none _)
   | (with_reducible refine LeO.ite ?_ ?_)
   | (with_reducible refine LeO.bind ?_ (fun _ => ?_))
   | exact ih0 _ _ _ _ _ _
   | exact impl_LeftBetween.mono _ _ _ _
   | exact laws_eqIntS.mono _ _ _
   | exact laws_eqStopS.mono _ _ _
   | exact laws_heldIntS.mono _ _ _
   | exact laws_markIntS.mono _ _ _
   | exact laws_markStopS.mono _ _ _
   | exact laws_toStopS.mono _ _
   | exact spec_LeftBetween.mono _ _ _ _
   | exact LeO.none _
   | refine LeO.ite ?_ ?_
   | refine LeO.bind ?_ (fun _ => ?_)
theorem laws_FnExactLeftBetween.mono : ∀ a0 a1 a2 k, LeO (laws_FnExactLeftBetween.f k a0 a1 a2) (laws_FnExactLeftBetween.f (k + 1) a0 a1 a2) := by
 intro a0 a1 a2 k
 have ih0 := laws_FnExactLeftBetween.mono_l k
 unfold laws_FnExactLeftBetween.f
 repeat' first
   | (with_reducible exact ih0 _ _ _ _ _ _)
   | (with_reducible exact impl_LeftBetween.mono _ _ _ _)
   | (with_reducible exact laws_eqIntS.mono _ _ _)
   | (with_reducible exact laws_eqStopS.mono _ _ _)
   | (with_reducible exact laws_heldIntS.mono _ _ _)
   | (with_reducible exact laws_markIntS.mono _ _ _)
   | (with_reducible exact laws_markStopS.mono _ _ _)
   | (with_reducible exact laws_toStopS.mono _ _)
   | (with_reducible exact spec_LeftBetween.mono _ _ _ _)
   | (with_reducible exact LeO.refl _)
   | (with_reducible exact LeO.none _)
   | (with_reducible refine LeO.ite ?_ ?_)
   | (with_reducible refine LeO.bind ?_ (fun _ => ?_))
   | exact ih0 _ _ _ _ _ _
   | exact impl_LeftBetween.mono _ _ _ _
   | exact laws_eqIntS.mono _ _ _
   | exact laws_eqStopS.mono _ _ _
   | exact laws_heldIntS.mono _ _ _
   | exact laws_markIntS.mono _ _ _
   | exact laws_markStopS.mono _ _ _
   | exact laws_toStopS.mono _ _
   | exact spec_LeftBetween.mono _ _ _ _
   | exact LeO.none _
   | refine LeO.ite ?_ ?_
   | refine LeO.bind ?_ (fun _ => ?_)
set_option maxHeartbeats 8000000 in
set_option maxRecDepth 100000 in
theorem laws_FnExactLeftBetween.calls (k : Nat) (A0 : Option Addr) (c0 : Nat) (l0 : List (S154)) (a1_0 : Int) (a1_1 : Int) (r : Bool) (w : World) (hr0 : Kd.C k154 w A0 l0.length l0) (hc0 : l0.length ≤ c0) (h : laws_FnExactLeftBetween.f k l0 a1_0 a1_1 = some r) :
  Calls Try.prog 4 #[.slice A0 l0.length c0, .agg #[.int .i64 a1_0, .int .i64 a1_1]] w fun e w' => e = .returned (.bool r) ∧ Below w.heap.size w w' := by
 have hu37 := Try.underlying37
 have HR0 := Aside0.mk hr0
 have HC0 := Aside0.mk hc0
 clear hr0 hc0
 have HB := Aside0.mk (Below.refl w.heap.size w)
 have H : ((laws_szStopS.f l0 1048576).bind fun t245 => (if t245 < 0 then (some true) else ((laws_toStopS.f k l0).bind fun t246 => ((laws_toSpan.f a1_0 a1_1).bind fun bt249 => ((spec_LeftBetween.f k t246 bt249.1 bt249.2).bind fun t251 => ((laws_toStopS.f k l0).bind fun t254 => ((laws_toSpan.f a1_0 a1_1).bind fun bt257 => ((impl_LeftBetween.f k t254 bt257.1 bt257.2).bind fun t259 => ((laws_eqIntS.f k t259 t251).bind fun t262 => (if t262 = true then ((laws_toStopS.f k l0).bind fun t263 => ((laws_eqStopS.f k t254 t263).bind fun t266 => (if t266 = true then ((laws_markStopS.f k t254 1).bind fun bt267 => (if bt267.1 < 0 then (laws_FnExactLeftBetween.j0 k l0 t251 t259 true a1_0 a1_1) else ((laws_eqIntS.f k t259 t251).bind fun t269 => (laws_FnExactLeftBetween.j0 k l0 t251 t259 (!t269) a1_0 a1_1)))) else (some false)))) else (some false))))))))))) = some r := h
 clear h
 replace H := Option.bind_eq_some_iff.mp H
 obtain ⟨t245, A30, H⟩ := H
 replace H : (if t245 < 0 then (some true) else ((laws_toStopS.f k l0).bind fun t246 => ((laws_toSpan.f a1_0 a1_1).bind fun bt249 => ((spec_LeftBetween.f k t246 bt249.1 bt249.2).bind fun t251 => ((laws_toStopS.f k l0).bind fun t254 => ((laws_toSpan.f a1_0 a1_1).bind fun bt257 => ((impl_LeftBetween.f k t254 bt257.1 bt257.2).bind fun t259 => ((laws_eqIntS.f k t259 t251).bind fun t262 => (if t262 = true then ((laws_toStopS.f k l0).bind fun t263 => ((laws_eqStopS.f k t254 t263).bind fun t266 => (if t266 = true then ((laws_markStopS.f k t254 1).bind fun bt267 => (if bt267.1 < 0 then (laws_FnExactLeftBetween.j0 k l0 t251 t259 true a1_0 a1_1) else ((laws_eqIntS.f k t259 t251).bind fun t269 => (laws_FnExactLeftBetween.j0 k l0 t251 t259 (!t269) a1_0 a1_1)))) else (some false)))) else (some false)))))))))) = some r := H
 have A3 := Aside0.mk A30
 clear A30
 by_cases c4 : t245 < 0
 ·rw [if_pos c4] at H
  have c4b0 : decide (t245 < 0) = true := decide_eq_true c4
  clear c4
  obtain rfl := Option.some.inj H
  go_enter Try.func4, Try.ntmps4
  go_wp2_with (first | ((with_reducible refine gate_dst (N := 3) rfl ?_); refine box_event ?hg (N := 3) ?hd (cs := #[.int .i64 a1_0, .int .i64 a1_1]) (t := 37) ?hr ?_; (case hd => rfl); (case hg => rfl); (case hr => first | (go_simp; done) | (go_simp; rfl)); intro gb244 hg w5 hbox hb; have n0_ := Aside0.mk (below_step (qB HB) hb); have n1_ := Aside0.mk (hbox); have n2_ := Aside0.mk ((by rw [hg]; exact (below_size (qB HB)) : w.heap.size ≤ gb244)); have n3_ := Aside0.mk ((by rw [hg]; exact (below_size (qB HB)) : w.heap.size ≤ gb244)); clear HB; have HB := n0_; have BK244 := n1_; have GW244 := n2_; have GE244 := n3_; clear n0_ n1_ n2_ n3_; clear hb hbox hg) | ((with_reducible refine gate_callee (f := 23) rfl ?_); refine goesL_ (some 15) rfl rfl Try.func23 (by kernel_rfl) rfl #[.slice A0 l0.length c0, .int .i64 1048576] rfl (by (try simp only [mA, mC, mN]); first | done | rfl | (simp only [lD, lT]; rfl)) ?_; (with_reducible refine (laws_szStopS.calls _ _ l0 1048576 t245 _ ?side1 ?side2 A3.out).mono ?_); (case side1 => exact qC (Kd.C_below HR0.out HB.out)); (case side2 => exact HC0.out); rintro e w' ⟨rfl, ⟨nd, rfl⟩⟩; refine ⟨_, rfl, ?_⟩))
  go_ret
  exact ⟨by first | rfl | (simp [errW_none, errW_some] <;> rfl) | (simp [*, errW_none, errW_some] <;> rfl), by repeat (first | (with_reducible first | exact HB.out | apply bA | apply bN | apply bD | refine bS ?_ GE244.out) | exact HB.out)⟩
 ·rw [if_neg c4] at H
  have c4b0 : decide (t245 < 0) = false := decide_eq_false c4
  clear c4
  replace H := Option.bind_eq_some_iff.mp H
  obtain ⟨t246, A60, H⟩ := H
  replace H : ((laws_toSpan.f a1_0 a1_1).bind fun bt249 => ((spec_LeftBetween.f k t246 bt249.1 bt249.2).bind fun t251 => ((laws_toStopS.f k l0).bind fun t254 => ((laws_toSpan.f a1_0 a1_1).bind fun bt257 => ((impl_LeftBetween.f k t254 bt257.1 bt257.2).bind fun t259 => ((laws_eqIntS.f k t259 t251).bind fun t262 => (if t262 = true then ((laws_toStopS.f k l0).bind fun t263 => ((laws_eqStopS.f k t254 t263).bind fun t266 => (if t266 = true then ((laws_markStopS.f k t254 1).bind fun bt267 => (if bt267.1 < 0 then (laws_FnExactLeftBetween.j0 k l0 t251 t259 true a1_0 a1_1) else ((laws_eqIntS.f k t259 t251).bind fun t269 => (laws_FnExactLeftBetween.j0 k l0 t251 t259 (!t269) a1_0 a1_1)))) else (some false)))) else (some false)))))))) = some r := H
  have A6 := Aside0.mk A60
  clear A60
  replace H := Option.bind_eq_some_iff.mp H
  obtain ⟨⟨t249, t250⟩, A70, H⟩ := H
  replace H : ((spec_LeftBetween.f k t246 t249 t250).bind fun t251 => ((laws_toStopS.f k l0).bind fun t254 => ((laws_toSpan.f a1_0 a1_1).bind fun bt257 => ((impl_LeftBetween.f k t254 bt257.1 bt257.2).bind fun t259 => ((laws_eqIntS.f k t259 t251).bind fun t262 => (if t262 = true then ((laws_toStopS.f k l0).bind fun t263 => ((laws_eqStopS.f k t254 t263).bind fun t266 => (if t266 = true then ((laws_markStopS.f k t254 1).bind fun bt267 => (if bt267.1 < 0 then (laws_FnExactLeftBetween.j0 k l0 t251 t259 true a1_0 a1_1) else ((laws_eqIntS.f k t259 t251).bind fun t269 => (laws_FnExactLeftBetween.j0 k l0 t251 t259 (!t269) a1_0 a1_1)))) else (some false)))) else (some false))))))) = some r := H
  have A7 := Aside0.mk A70
  clear A70
  replace H := Option.bind_eq_some_iff.mp H
  obtain ⟨t251, A80, H⟩ := H
  replace H : ((laws_toStopS.f k l0).bind fun t254 => ((laws_toSpan.f a1_0 a1_1).bind fun bt257 => ((impl_LeftBetween.f k t254 bt257.1 bt257.2).bind fun t259 => ((laws_eqIntS.f k t259 t251).bind fun t262 => (if t262 = true then ((laws_toStopS.f k l0).bind fun t263 => ((laws_eqStopS.f k t254 t263).bind fun t266 => (if t266 = true then ((laws_markStopS.f k t254 1).bind fun bt267 => (if bt267.1 < 0 then (laws_FnExactLeftBetween.j0 k l0 t251 t259 true a1_0 a1_1) else ((laws_eqIntS.f k t259 t251).bind fun t269 => (laws_FnExactLeftBetween.j0 k l0 t251 t259 (!t269) a1_0 a1_1)))) else (some false)))) else (some false)))))) = some r := H
  have A8 := Aside0.mk A80
  clear A80
  replace H := Option.bind_eq_some_iff.mp H
  obtain ⟨t254, A90, H⟩ := H
  replace H : ((laws_toSpan.f a1_0 a1_1).bind fun bt257 => ((impl_LeftBetween.f k t254 bt257.1 bt257.2).bind fun t259 => ((laws_eqIntS.f k t259 t251).bind fun t262 => (if t262 = true then ((laws_toStopS.f k l0).bind fun t263 => ((laws_eqStopS.f k t254 t263).bind fun t266 => (if t266 = true then ((laws_markStopS.f k t254 1).bind fun bt267 => (if bt267.1 < 0 then (laws_FnExactLeftBetween.j0 k l0 t251 t259 true a1_0 a1_1) else ((laws_eqIntS.f k t259 t251).bind fun t269 => (laws_FnExactLeftBetween.j0 k l0 t251 t259 (!t269) a1_0 a1_1)))) else (some false)))) else (some false))))) = some r := H
  have A9 := Aside0.mk A90
  clear A90
  replace H := Option.bind_eq_some_iff.mp H
  obtain ⟨⟨t257, t258⟩, A100, H⟩ := H
  replace H : ((impl_LeftBetween.f k t254 t257 t258).bind fun t259 => ((laws_eqIntS.f k t259 t251).bind fun t262 => (if t262 = true then ((laws_toStopS.f k l0).bind fun t263 => ((laws_eqStopS.f k t254 t263).bind fun t266 => (if t266 = true then ((laws_markStopS.f k t254 1).bind fun bt267 => (if bt267.1 < 0 then (laws_FnExactLeftBetween.j0 k l0 t251 t259 true a1_0 a1_1) else ((laws_eqIntS.f k t259 t251).bind fun t269 => (laws_FnExactLeftBetween.j0 k l0 t251 t259 (!t269) a1_0 a1_1)))) else (some false)))) else (some false)))) = some r := H
  have A10 := Aside0.mk A100
  clear A100
  replace H := Option.bind_eq_some_iff.mp H
  obtain ⟨t259, A110, H⟩ := H
  replace H : ((laws_eqIntS.f k t259 t251).bind fun t262 => (if t262 = true then ((laws_toStopS.f k l0).bind fun t263 => ((laws_eqStopS.f k t254 t263).bind fun t266 => (if t266 = true then ((laws_markStopS.f k t254 1).bind fun bt267 => (if bt267.1 < 0 then (laws_FnExactLeftBetween.j0 k l0 t251 t259 true a1_0 a1_1) else ((laws_eqIntS.f k t259 t251).bind fun t269 => (laws_FnExactLeftBetween.j0 k l0 t251 t259 (!t269) a1_0 a1_1)))) else (some false)))) else (some false))) = some r := H
  have A11 := Aside0.mk A110
  clear A110
  replace H := Option.bind_eq_some_iff.mp H
  obtain ⟨t262, A120, H⟩ := H
  replace H : (if t262 = true then ((laws_toStopS.f k l0).bind fun t263 => ((laws_eqStopS.f k t254 t263).bind fun t266 => (if t266 = true then ((laws_markStopS.f k t254 1).bind fun bt267 => (if bt267.1 < 0 then (laws_FnExactLeftBetween.j0 k l0 t251 t259 true a1_0 a1_1) else ((laws_eqIntS.f k t259 t251).bind fun t269 => (laws_FnExactLeftBetween.j0 k l0 t251 t259 (!t269) a1_0 a1_1)))) else (some false)))) else (some false)) = some r := H
  have A12 := Aside0.mk A120
  clear A120
  by_cases c13 : t262 = true
  ·subst c13
   have H1 : ((laws_toStopS.f k l0).bind fun t263 => ((laws_eqStopS.f k t254 t263).bind fun t266 => (if t266 = true then ((laws_markStopS.f k t254 1).bind fun bt267 => (if bt267.1 < 0 then (laws_FnExactLeftBetween.j0 k l0 t251 t259 true a1_0 a1_1) else ((laws_eqIntS.f k t259 t251).bind fun t269 => (laws_FnExactLeftBetween.j0 k l0 t251 t259 (!t269) a1_0 a1_1)))) else (some false)))) = some r := by rw [if_pos rfl] at H; exact H
   clear H
   have H := H1
   clear H1
   replace H := Option.bind_eq_some_iff.mp H
   obtain ⟨t263, A140, H⟩ := H
   replace H : ((laws_eqStopS.f k t254 t263).bind fun t266 => (if t266 = true then ((laws_markStopS.f k t254 1).bind fun bt267 => (if bt267.1 < 0 then (laws_FnExactLeftBetween.j0 k l0 t251 t259 true a1_0 a1_1) else ((laws_eqIntS.f k t259 t251).bind fun t269 => (laws_FnExactLeftBetween.j0 k l0 t251 t259 (!t269) a1_0 a1_1)))) else (some false))) = some r := H
   have A14 := Aside0.mk A140
   clear A140
   replace H := Option.bind_eq_some_iff.mp H
   obtain ⟨t266, A150, H⟩ := H
   replace H : (if t266 = true then ((laws_markStopS.f k t254 1).bind fun bt267 => (if bt267.1 < 0 then (laws_FnExactLeftBetween.j0 k l0 t251 t259 true a1_0 a1_1) else ((laws_eqIntS.f k t259 t251).bind fun t269 => (laws_FnExactLeftBetween.j0 k l0 t251 t259 (!t269) a1_0 a1_1)))) else (some false)) = some r := H
   have A15 := Aside0.mk A150
   clear A150
   by_cases c16 : t266 = true
   ·subst c16
    have H1 : ((laws_markStopS.f k t254 1).bind fun bt267 => (if bt267.1 < 0 then (laws_FnExactLeftBetween.j0 k l0 t251 t259 true a1_0 a1_1) else ((laws_eqIntS.f k t259 t251).bind fun t269 => (laws_FnExactLeftBetween.j0 k l0 t251 t259 (!t269) a1_0 a1_1)))) = some r := by rw [if_pos rfl] at H; exact H
    clear H
    have H := H1
    clear H1
    replace H := Option.bind_eq_some_iff.mp H
    obtain ⟨⟨t267, t268⟩, A170, H⟩ := H
    replace H : (if t267 < 0 then (laws_FnExactLeftBetween.j0 k l0 t251 t259 true a1_0 a1_1) else ((laws_eqIntS.f k t259 t251).bind fun t269 => (laws_FnExactLeftBetween.j0 k l0 t251 t259 (!t269) a1_0 a1_1))) = some r := H
    have A17 := Aside0.mk A170
    clear A170
    have HC18 := Aside0.mk H
    clear H
    go_enter Try.func4, Try.ntmps4
    try go_wp2_with (first | ((with_reducible refine gate_dst (N := 3) rfl ?_); refine box_event ?hg (N := 3) ?hd (cs := #[.int .i64 a1_0, .int .i64 a1_1]) (t := 37) ?hr ?_; (case hd => rfl); (case hg => rfl); (case hr => first | (go_simp; done) | (go_simp; rfl)); intro gb244 hg w19 hbox hb; have n0_ := Aside0.mk (below_step (qB HB) hb); have n1_ := Aside0.mk (hbox); have n2_ := Aside0.mk ((by rw [hg]; exact (below_size (qB HB)) : w.heap.size ≤ gb244)); have n3_ := Aside0.mk ((by rw [hg]; exact (below_size (qB HB)) : w.heap.size ≤ gb244)); clear HB; have HB := n0_; have BK244 := n1_; have GW244 := n2_; have GE244 := n3_; clear n0_ n1_ n2_ n3_; clear hb hbox hg) | ((with_reducible refine gate_callee (f := 23) rfl ?_); refine goesL_ (some 15) rfl rfl Try.func23 (by kernel_rfl) rfl #[.slice A0 l0.length c0, .int .i64 1048576] rfl (by (try simp only [mA, mC, mN]); first | done | rfl | (simp only [lD, lT]; rfl)) ?_; (with_reducible refine (laws_szStopS.calls _ _ l0 1048576 t245 _ ?side1 ?side2 A3.out).mono ?_); (case side1 => exact qC (Kd.C_below HR0.out HB.out)); (case side2 => exact HC0.out); rintro e w' ⟨rfl, ⟨nd, rfl⟩⟩; refine ⟨_, rfl, ?_⟩))
    (try (rw [drewN_self w19]; generalize hq_ : World.drewN w19 _ = w19; have n0_ : Aside0 (w19.heap[gb244]? = some (.cells #[.int .i64 a1_0, .int .i64 a1_1] 37 (0, 0))) := ⟨by rw [← hq_]; exact (qK BK244)⟩; have n1_ : Aside0 (Below w.heap.size w w19) := ⟨by rw [← hq_]; exact (by repeat first | (with_reducible first | exact HB.out | apply bA | apply bN | apply bD | refine bS ?_ GE244.out) | exact HB.out)⟩; clear BK244 HB hq_; have BK244 := n0_; have HB := n1_; clear n0_ n1_))
    have n0_ := Aside0.mk (blk_drew BK244.out)
    have n1_ := Aside0.mk (below_drew1 HB.out)
    clear BK244
    clear HB
    have BK244 := n0_
    have HB := n1_
    clear n0_ n1_
    refine start_ (n := 6) (S := fun w' => w'.cell? ⟨gb244, 0, none⟩ = some (.int .i64 a1_0) ∧ w'.cell? ⟨gb244, 1, none⟩ = some (.int .i64 a1_1)) (ds := []) (bR [0, 6]) (by kernel_rfl) rfl rfl ⟨cC BK244 0, cC BK244 1⟩ (fun hHeld => ?_)
    generalize w19.drew = w20 at BK244 HB hHeld ⊢
    refine pure_ (i := 0) (N := some 18) (v := ?_) (a' := ?_) (bR [1, 5]) rfl rfl (by kernel_rfl) (fun _ _ _ h => h) (Or.inl ⟨by rfl, ?_⟩) ?_ ?_
    rotate_left; (intro w'; go_simp; with_reducible rfl); rotate_left; (simp only [Act.put, sA, sZ, sS, i64_w]; rfl)
    refine take_ (i := 2) (N := some 20) (v := ?_) (a' := ?_) (bR [1, 1, 1, 3]) rfl rfl (by kernel_rfl) (fun _ _ _ h => h) (Or.inl ⟨by rfl, ?_⟩) hHeld ?_ ?_
    rotate_left; (rintro w' ⟨s0, s1⟩; go_simp; with_reducible rfl); rotate_left; (simp only [Act.put, sA, sZ, sS, i64_w]; rfl)
    refine one_ (i := 1) (N := some 19) (bR [3, 3]) rfl rfl (by kernel_rfl) (by decide) (fun K hK => ?_)
    refine goes_ Try.func25 (by kernel_rfl) rfl #[.slice A0 l0.length c0] (by rfl) rfl rfl (by (try simp only [mA, mC, mN]); first | done | rfl | (simp only [lD, lT]; rfl)) ?_
    with_reducible refine (laws_toStopS.calls k _ _ l0 t246 _ ?side1 ?side2 A6.out).mono ?_
    (case side1 => exact qC (Kd.C_below HR0.out HB.out))
    (case side2 => exact HC0.out)
    rintro e w21 ⟨v247, rfl, ho0, hb⟩
    refine ⟨_, rfl, ?_⟩
    have n0_ := Aside0.mk (Kd.R_lower ho0 (below_size (by repeat first | (with_reducible first | exact HB.out | apply bA | apply bN | apply bD | refine bS ?_ GE244.out) | exact HB.out)))
    have n1_ := Aside0.mk (blk_below (qK BK244) hb)
    have n2_ := Aside0.mk (below_step (by repeat first | (with_reducible first | exact HB.out | apply bA | apply bN | apply bD | refine bS ?_ GE244.out) | exact HB.out) hb)
    clear BK244
    clear HB
    have HO248 := n0_
    have BK244 := n1_
    have HB := n2_
    clear n0_ n1_ n2_
    (try clear hb)
    (try clear hb2)
    (try clear hk)
    (try clear hi)
    (try clear ho0)
    refine hK.out _ _ ⟨cC BK244 0, cC BK244 1⟩ (fun hHeld => ?_)
    clear hK K
    refine norm_ (a' := ?_) ?_ ?_
    rotate_left
    ·show Act.put _ (some 19) _ = _
     simp only [Act.put, sA, sZ, sS, i64_w]
     rfl
    refine one_ (i := 3) (N := some 21) (bR [4, 2]) rfl rfl (by kernel_rfl) (by decide) (fun K hK => ?_)
    refine goes_ Try.func26 (by kernel_rfl) rfl #[.agg #[.int .i64 a1_0, .int .i64 a1_1]] (by rfl) rfl rfl (by (try simp only [mA, mC, mN]); first | done | rfl | (simp only [lD, lT]; rfl)) ?_
    with_reducible refine (laws_toSpan.calls a1_0 a1_1 t249 t250 _ A7.out).mono ?_
    rintro e w22 ⟨rfl, hb⟩
    refine ⟨_, rfl, ?_⟩
    have n0_ := Aside0.mk (Kd.R_below (qR HO248) hb)
    have n1_ := Aside0.mk (blk_below (qK BK244) hb)
    have n2_ := Aside0.mk (below_step (by repeat first | (with_reducible first | exact HB.out | apply bA | apply bN | apply bD | refine bS ?_ GE244.out) | exact HB.out) hb)
    clear HO248
    clear BK244
    clear HB
    have HO248 := n0_
    have BK244 := n1_
    have HB := n2_
    clear n0_ n1_ n2_
    (try clear hb)
    (try clear hb2)
    (try clear hk)
    (try clear hi)
    obtain ⟨Ao23, co23, eo23⟩ := Kd.R_slice HO248.out
    (first | subst eo23 | (injection eo23 with f1_ f2_ f3_; have f4_ := f1_.symm; have f5_ := f3_.symm; clear f1_ f2_ f3_; subst f4_; subst f5_))
    refine hK.out _ _ ⟨cC BK244 0, cC BK244 1⟩ (fun hHeld => ?_)
    clear hK K
    refine norm_ (a' := ?_) ?_ ?_
    rotate_left
    ·show Act.put _ (some 21) _ = _
     simp only [Act.put, sA, sZ, sS, i64_w]
     rfl
    refine one_ (i := 4) (N := some 22) (bR [5, 1]) rfl rfl (by kernel_rfl) (by decide) (fun K hK => ?_)
    refine goes_ Try.func24 (by kernel_rfl) rfl #[.slice Ao23 t246.length co23, .agg #[.int .i64 t249, .int .i64 t250]] (by rfl) rfl rfl (by (try simp only [mA, mC, mN]); first | done | rfl | (simp only [lD, lT]; rfl)) ?_
    with_reducible refine (spec_LeftBetween.calls k _ _ t246 t249 t250 t251 _ ?side1 ?side2 A8.out).mono ?_
    (case side1 => repeat (first | exact (Kd.R_reads' HO248.out).2.2 | (with_reducible refine Kd.C_alloc ?_ _) | (with_reducible refine Kd.C_drewN ?_ _) | (with_reducible refine Kd.C_drew ?_)))
    (case side2 => exact (Kd.R_reads' HO248.out).2.1)
    rintro e w24 ⟨v252, rfl, ho0, hb⟩
    refine ⟨_, rfl, ?_⟩
    have n0_ := Aside0.mk (Kd.R_below (qR HO248) hb)
    have n1_ := Aside0.mk (Kd.R_lower ho0 (below_size (by repeat first | (with_reducible first | exact HB.out | apply bA | apply bN | apply bD | refine bS ?_ GE244.out) | exact HB.out)))
    have n2_ := Aside0.mk (blk_below (qK BK244) hb)
    have n3_ := Aside0.mk (below_step (by repeat first | (with_reducible first | exact HB.out | apply bA | apply bN | apply bD | refine bS ?_ GE244.out) | exact HB.out) hb)
    clear HO248
    clear BK244
    clear HB
    have HO248 := n0_
    have HO253 := n1_
    have BK244 := n2_
    have HB := n3_
    clear n0_ n1_ n2_ n3_
    (try clear hb)
    (try clear hb2)
    (try clear hk)
    (try clear hi)
    (try clear ho0)
    refine hK.out _ _ ⟨cC BK244 0, cC BK244 1⟩ (fun hHeld => ?_)
    clear hK K
    refine norm_ (a' := ?_) ?_ ?_
    rotate_left
    ·show Act.put _ (some 22) _ = _
     simp only [Act.put, sA, sZ, sS, i64_w]
     rfl
    refine pure_ (i := 5) (N := some 6) (v := ?_) (a' := ?_) (bR [6]) rfl rfl (by kernel_rfl) (fun _ _ _ h => h) (Or.inl ⟨by rfl, ?_⟩) ?_ ?_
    rotate_left; (intro w'; go_simp; with_reducible rfl); rotate_left; (simp only [Act.put, sA, sZ, sS, i64_w]; rfl)
    refine done_ (by kernel_rfl) ?_
    go_upto_region 14 with (first | ((with_reducible refine gate_callee (f := 25) rfl ?_); refine goesL_ (some 24) rfl rfl Try.func25 (by kernel_rfl) rfl #[.slice A0 l0.length c0] rfl (by (try simp only [mA, mC, mN]); first | done | rfl | (simp only [lD, lT]; rfl)) ?_; (with_reducible refine (laws_toStopS.calls k _ _ l0 t254 _ ?side1 ?side2 A9.out).mono ?_); (case side1 => exact qC (Kd.C_below HR0.out HB.out)); (case side2 => exact HC0.out); rintro e w25 ⟨v255, rfl, ho0, hb⟩; refine ⟨_, rfl, ?_⟩; have n0_ := Aside0.mk (Kd.R_elder' (qR HO248) (Kd.R_base ho0) hb); have n1_ := Aside0.mk (Kd.R_below (qR HO253) hb); have n2_ := Aside0.mk (Kd.R_lower (Kd.R_new' ho0 (Kd.R_lt (qR HO248))) (below_size (by repeat first | (with_reducible first | exact HB.out | apply bA | apply bN | apply bD | refine bS ?_ GE244.out) | exact HB.out))); have n3_ := Aside0.mk (blk_below (qK BK244) hb); have n4_ := Aside0.mk (below_step (by repeat first | (with_reducible first | exact HB.out | apply bA | apply bN | apply bD | refine bS ?_ GE244.out) | exact HB.out) hb); clear HO248; clear HO253; clear BK244; clear HB; have HO248 := n0_; have HO253 := n1_; have HO256 := n2_; have BK244 := n3_; have HB := n4_; clear n0_ n1_ n2_ n3_ n4_; (try clear hb); (try clear hb2); (try clear hk); (try clear hi); (try clear ho0); have hcz26_0 : w25.cell? ⟨gb244, 0, none⟩ = some (.int .i64 a1_0) := cC BK244 0; have hcz26_1 : w25.cell? ⟨gb244, 1, none⟩ = some (.int .i64 a1_1) := cC BK244 1; have hfz26_0 := blk_frozen BK244.out 0; have hfz26_1 := blk_frozen BK244.out 1) | ((with_reducible refine gate_callee (f := 26) rfl ?_); refine goesL_ (some 27) rfl rfl Try.func26 (by kernel_rfl) rfl #[.agg #[.int .i64 a1_0, .int .i64 a1_1]] rfl (by (try simp only [mA, mC, mN]); first | done | rfl | (simp only [lD, lT]; rfl)) ?_; (with_reducible refine (laws_toSpan.calls a1_0 a1_1 t257 t258 _ A10.out).mono ?_); rintro e w27 ⟨rfl, hb⟩; refine ⟨_, rfl, ?_⟩; have n0_ := Aside0.mk (Kd.R_below (qR HO248) hb); have n1_ := Aside0.mk (Kd.R_below (qR HO253) hb); have n2_ := Aside0.mk (Kd.R_below (qR HO256) hb); have n3_ := Aside0.mk (blk_below (qK BK244) hb); have n4_ := Aside0.mk (below_step (by repeat first | (with_reducible first | exact HB.out | apply bA | apply bN | apply bD | refine bS ?_ GE244.out) | exact HB.out) hb); clear HO248; clear HO253; clear HO256; clear BK244; clear HB; have HO248 := n0_; have HO253 := n1_; have HO256 := n2_; have BK244 := n3_; have HB := n4_; clear n0_ n1_ n2_ n3_ n4_; (try clear hb); (try clear hb2); (try clear hk); (try clear hi); obtain ⟨Ao28, co28, eo28⟩ := Kd.R_slice HO256.out; subst eo28) | ((with_reducible refine gate_callee (f := 27) rfl ?_); refine goesL_ (some 28) rfl rfl Try.func27 (by kernel_rfl) rfl #[.slice Ao28 t254.length co28, .agg #[.int .i64 t257, .int .i64 t258]] rfl (by (try simp only [mA, mC, mN]); first | done | rfl | (simp only [lD, lT]; rfl)) ?_; (with_reducible refine (impl_LeftBetween.calls k _ _ t254 t257 t258 t259 _ ?side1 ?side2 A11.out).mono ?_); (case side1 => repeat (first | exact (Kd.R_reads' HO256.out).2.2 | (with_reducible refine Kd.C_alloc ?_ _) | (with_reducible refine Kd.C_drewN ?_ _) | (with_reducible refine Kd.C_drew ?_))); (case side2 => exact (Kd.R_reads' HO256.out).2.1); rintro e w29 ⟨v260, rfl, ho0, hb⟩; refine ⟨_, rfl, ?_⟩; have n0_ := Aside0.mk (Kd.R_below (qR HO248) hb); have n1_ := Aside0.mk (Kd.R_elder' (qR HO253) (Kd.R_base ho0) hb); have n2_ := Aside0.mk (Kd.R_below (qR HO256) hb); have n3_ := Aside0.mk (Kd.R_lower (Kd.R_new' ho0 (Kd.R_lt (qR HO253))) (below_size (by repeat first | (with_reducible first | exact HB.out | apply bA | apply bN | apply bD | refine bS ?_ GE244.out) | exact HB.out))); have n4_ := Aside0.mk (blk_below (qK BK244) hb); have n5_ := Aside0.mk (below_step (by repeat first | (with_reducible first | exact HB.out | apply bA | apply bN | apply bD | refine bS ?_ GE244.out) | exact HB.out) hb); clear HO248; clear HO253; clear HO256; clear BK244; clear HB; have HO248 := n0_; have HO253 := n1_; have HO256 := n2_; have HO261 := n3_; have BK244 := n4_; have HB := n5_; clear n0_ n1_ n2_ n3_ n4_ n5_; (try clear hb); (try clear hb2); (try clear hk); (try clear hi); (try clear ho0); obtain ⟨Ao30, co30, eo30⟩ := Kd.R_slice HO261.out; subst eo30; obtain ⟨Ao31, co31, eo31⟩ := Kd.R_slice HO253.out; subst eo31) | ((with_reducible refine gate_callee (f := 28) rfl ?_); refine goesL_ (some 31) rfl rfl Try.func28 (by kernel_rfl) rfl #[.slice Ao30 t259.length co30, .slice Ao31 t251.length co31] rfl (by (try simp only [mA, mC, mN]); first | done | rfl | (simp only [lD, lT]; rfl)) ?_; (with_reducible refine (laws_eqIntS.calls k _ _ t259 _ _ t251 true _ ?side1 ?side2 ?side3 ?side4 A12.out).mono ?_); (case side1 => repeat (first | exact (Kd.R_reads' HO261.out).2.2 | (with_reducible refine Kd.C_alloc ?_ _) | (with_reducible refine Kd.C_drewN ?_ _) | (with_reducible refine Kd.C_drew ?_))); (case side2 => exact (Kd.R_reads' HO261.out).2.1); (case side3 => repeat (first | exact (Kd.R_reads' HO253.out).2.2 | (with_reducible refine Kd.C_alloc ?_ _) | (with_reducible refine Kd.C_drewN ?_ _) | (with_reducible refine Kd.C_drew ?_))); (case side4 => exact (Kd.R_reads' HO253.out).2.1); rintro e w' ⟨rfl, ⟨nd, rfl⟩⟩; refine ⟨_, rfl, ?_⟩) | ((with_reducible refine gate_callee (f := 25) rfl ?_); refine goesL_ (some 35) rfl rfl Try.func25 (by kernel_rfl) rfl #[.slice A0 l0.length c0] rfl (by (try simp only [mA, mC, mN]); first | done | rfl | (simp only [lD, lT]; rfl)) ?_; (with_reducible refine (laws_toStopS.calls k _ _ l0 t263 _ ?side1 ?side2 A14.out).mono ?_); (case side1 => repeat (first | exact (Kd.C_below HR0.out (by repeat first | (with_reducible first | exact HB.out | apply bA | apply bN | apply bD | refine bS ?_ GE244.out) | exact HB.out)) | (with_reducible refine Kd.C_alloc ?_ _) | (with_reducible refine Kd.C_drewN ?_ _) | (with_reducible refine Kd.C_drew ?_))); (case side2 => exact HC0.out); rintro e w32 ⟨v264, rfl, ho0, hb⟩; refine ⟨_, rfl, ?_⟩; have n0_ := Aside0.mk (Kd.R_elder' (qR HO248) (Kd.R_base ho0) hb); have n1_ := Aside0.mk (Kd.R_below (qR HO253) hb); have n2_ := Aside0.mk (Kd.R_elder' (qR HO256) (Kd.R_base ho0) hb); have n3_ := Aside0.mk (Kd.R_below (qR HO261) hb); have n4_ := Aside0.mk (Kd.R_lower (Kd.R_new' (Kd.R_new' ho0 (Kd.R_lt (qR HO248))) (Kd.R_lt (qR HO256))) (below_size (by repeat first | (with_reducible first | exact HB.out | apply bA | apply bN | apply bD | refine bS ?_ GE244.out) | exact HB.out))); have n5_ := Aside0.mk (blk_below (qK BK244) hb); have n6_ := Aside0.mk (below_step (by repeat first | (with_reducible first | exact HB.out | apply bA | apply bN | apply bD | refine bS ?_ GE244.out) | exact HB.out) hb); clear HO248; clear HO253; clear HO256; clear HO261; clear BK244; clear HB; have HO248 := n0_; have HO253 := n1_; have HO256 := n2_; have HO261 := n3_; have HO265 := n4_; have BK244 := n5_; have HB := n6_; clear n0_ n1_ n2_ n3_ n4_ n5_ n6_; (try clear hb); (try clear hb2); (try clear hk); (try clear hi); (try clear ho0); obtain ⟨Ao33, co33, eo33⟩ := Kd.R_slice HO265.out; subst eo33) | ((with_reducible refine gate_callee (f := 29) rfl ?_); refine goesL_ (some 36) rfl rfl Try.func29 (by kernel_rfl) rfl #[.slice Ao28 t254.length co28, .slice Ao33 t263.length co33] rfl (by (try simp only [mA, mC, mN]); first | done | rfl | (simp only [lD, lT]; rfl)) ?_; (with_reducible refine (laws_eqStopS.calls k _ _ t254 _ _ t263 true _ ?side1 ?side2 ?side3 ?side4 A15.out).mono ?_); (case side1 => repeat (first | exact (Kd.R_reads' HO256.out).2.2 | (with_reducible refine Kd.C_alloc ?_ _) | (with_reducible refine Kd.C_drewN ?_ _) | (with_reducible refine Kd.C_drew ?_))); (case side2 => exact (Kd.R_reads' HO256.out).2.1); (case side3 => repeat (first | exact (Kd.R_reads' HO265.out).2.2 | (with_reducible refine Kd.C_alloc ?_ _) | (with_reducible refine Kd.C_drewN ?_ _) | (with_reducible refine Kd.C_drew ?_))); (case side4 => exact (Kd.R_reads' HO265.out).2.1); rintro e w34 ⟨rfl, hb⟩; refine ⟨_, rfl, ?_⟩; have n0_ := Aside0.mk (Kd.R_below (qR HO248) hb); have n1_ := Aside0.mk (Kd.R_below (qR HO253) hb); have n2_ := Aside0.mk (Kd.R_below (qR HO256) hb); have n3_ := Aside0.mk (Kd.R_below (qR HO261) hb); have n4_ := Aside0.mk (Kd.R_below (qR HO265) hb); have n5_ := Aside0.mk (blk_below (qK BK244) hb); have n6_ := Aside0.mk (below_step (by repeat first | (with_reducible first | exact HB.out | apply bA | apply bN | apply bD | refine bS ?_ GE244.out) | exact HB.out) hb); clear HO248; clear HO253; clear HO256; clear HO261; clear HO265; clear BK244; clear HB; have HO248 := n0_; have HO253 := n1_; have HO256 := n2_; have HO261 := n3_; have HO265 := n4_; have BK244 := n5_; have HB := n6_; clear n0_ n1_ n2_ n3_ n4_ n5_ n6_; (try clear hb); (try clear hb2); (try clear hk); (try clear hi)) | ((with_reducible refine gate_callee (f := 30) rfl ?_); refine goesL_ (some 40) rfl rfl Try.func30 (by kernel_rfl) rfl #[.slice Ao28 t254.length co28, .int .i64 1] rfl (by (try simp only [mA, mC, mN]); first | done | rfl | (simp only [lD, lT]; rfl)) ?_; (with_reducible refine (laws_markStopS.calls k (fun k_ => some k_ = (.slice Ao28 t254.length co28 : Value).ownBlock) (.slice Ao28 t254.length co28) t254 1 t267 t268 w _ ?side1 ?side2 A17.out).mono ?_); (case side1 => repeat (first | (with_reducible first | exact HB.out | apply bA | apply bN | apply bD | refine bS ?_ GE244.out) | exact HB.out)); (case side2 => exact Kd.R_tight rfl HO256.out); rintro e w35 ⟨rfl, hy0, hb, hkp⟩; refine ⟨_, rfl, ?_⟩; have n0_ := Aside0.mk (blk_kept (qK BK244) hkp (fun hs_ => (fun e_ => (Kd.R_ne HO256.out BK244.out (by decide)) e_) hs_)); have n1_ := Aside0.mk (Kd.R_mono (ok' := fun k_ => some k_ ≠ (.slice Ao28 t254.length co28 : Value).ownBlock ∧ some k_ ≠ (.slice Ao33 t263.length co33 : Value).ownBlock) (Kd.R_keptB (HO248.out) hkp (fun k_ hk_ hs_ => (hk_.1.2) hs_)) (fun k_ hk_ => ⟨hk_.1.1.2, hk_.1.2⟩)); have n2_ := Aside0.mk (Kd.R_mono (ok' := fun k_ => some k_ ≠ (.slice Ao30 t259.length co30 : Value).ownBlock) (Kd.R_keptB ((Kd.R_apart' HO253.out (Kd.R_typed HO256.out) (by decide))) hkp (fun k_ hk_ hs_ => (hk_.2) hs_)) (fun k_ hk_ => hk_.1.1.2)); have n3_ := Aside0.mk (Kd.R_reok rfl hy0 (fun k_ e_ => HO256.out.1 k_ e_)); have n4_ := Aside0.mk (Kd.R_mono (ok' := fun k_ => some k_ ≠ (.slice Ao31 t251.length co31 : Value).ownBlock) (Kd.R_keptB ((Kd.R_apart' HO261.out (Kd.R_typed HO256.out) (by decide))) hkp (fun k_ hk_ hs_ => (hk_.2) hs_)) (fun k_ hk_ => hk_.1.1.2)); have n5_ := Aside0.mk (Kd.R_mono (ok' := fun k_ => some k_ ≠ (.slice Ao23 t246.length co23 : Value).ownBlock ∧ some k_ ≠ (.slice Ao28 t254.length co28 : Value).ownBlock) (Kd.R_keptB (HO265.out) hkp (fun k_ hk_ hs_ => (hk_.2) hs_)) (fun k_ hk_ => ⟨hk_.1.1.2, hk_.1.2⟩)); have n6_ := Aside0.mk (hb); clear BK244; clear HO248; clear HO253; clear HO256; clear HO261; clear HO265; clear HB; have BK244 := n0_; have HO248 := n1_; have HO253 := n2_; have HO256 := n3_; have HO261 := n4_; have HO265 := n5_; have HB := n6_; clear n0_ n1_ n2_ n3_ n4_ n5_ n6_; (try clear hb); (try clear hkp); (try clear hy0)))
    (try simp only [Act.put, sA, sZ, sS])
    go_cut [48] (fun v48 wc => ∃ (kq : Nat) (x48_17 : Bool), v48 = .bool x48_17 ∧ Aside0 (laws_FnExactLeftBetween.j0 kq l0 t251 t259 x48_17 a1_0 a1_1 = some r) ∧ Aside0 (kq ≤ k) ∧ Aside0 (Kd.R (Kd.int .i64) 3 wc w.heap.size (fun k_ => some k_ ≠ ((.slice Ao30 t259.length co30) : Value).ownBlock) (.slice Ao31 t251.length co31) t251) ∧ Aside0 (Kd.R (Kd.int .i64) 3 wc w.heap.size (fun k_ => some k_ ≠ ((.slice Ao31 t251.length co31) : Value).ownBlock) (.slice Ao30 t259.length co30) t259) ∧ Aside0 (wc.heap[gb244]? = some (.cells #[.int .i64 a1_0, .int .i64 a1_1] 37 (0, 0))) ∧ Aside0 (Below w.heap.size w wc))
    case first =>
     have H := HC18.out
     clear HC18
     by_cases c36 : t267 < 0
     ·rw [if_pos c36] at H
      have c36b0 : decide (t267 < 0) = true := decide_eq_true c36
      clear c36
      (first | rw [c36b0] | (simp only [i64_w, i32_w]; rw [c36b0]) | skip)
      have H' := Aside0.mk H
      clear H
      go_wp2
      go_meet
      case rel => exact ⟨_, (true), (by first | rfl | (simp; done) | (simp [*]; done)), H', ⟨by first | omega | exact Nat.le_refl _⟩, ⟨by (with_reducible repeat first | apply rA | apply rN | apply rD); exact HO253.out⟩, ⟨by (with_reducible repeat first | apply rA | apply rN | apply rD); exact HO261.out⟩, ⟨by (with_reducible repeat first | refine kN ?_ _ | refine kD ?_ | refine kA ?_ _); exact BK244.out⟩, ⟨by repeat (first | (with_reducible first | exact HB.out | apply bA | apply bN | apply bD | refine bS ?_ GE244.out) | exact HB.out)⟩⟩
     ·rw [if_neg c36] at H
      have c36b0 : decide (t267 < 0) = false := decide_eq_false c36
      clear c36
      (first | rw [c36b0] | (simp only [i64_w, i32_w]; rw [c36b0]) | skip)
      replace H := Option.bind_eq_some_iff.mp H
      obtain ⟨t269, A370, H⟩ := H
      replace H : (laws_FnExactLeftBetween.j0 k l0 t251 t259 (!t269) a1_0 a1_1) = some r := H
      have A37 := Aside0.mk A370
      clear A370
      have H' := Aside0.mk H
      clear H
      go_wp2_with (first | (go_at_call 28; (with_reducible refine (laws_eqIntS.calls k _ _ t259 _ _ t251 t269 _ ?side1 ?side2 ?side3 ?side4 A37.out).mono ?_); (case side1 => repeat (first | exact (Kd.R_reads' HO261.out).2.2 | (with_reducible refine Kd.C_alloc ?_ _) | (with_reducible refine Kd.C_drewN ?_ _) | (with_reducible refine Kd.C_drew ?_))); (case side2 => exact (Kd.R_reads' HO261.out).2.1); (case side3 => repeat (first | exact (Kd.R_reads' HO253.out).2.2 | (with_reducible refine Kd.C_alloc ?_ _) | (with_reducible refine Kd.C_drewN ?_ _) | (with_reducible refine Kd.C_drew ?_))); (case side4 => exact (Kd.R_reads' HO253.out).2.1); rintro e w' ⟨rfl, ⟨nd, rfl⟩⟩))
      go_meet
      case rel => exact ⟨_, (!t269), (by first | rfl | (simp; done) | (simp [*]; done)), H', ⟨by first | omega | exact Nat.le_refl _⟩, ⟨by (with_reducible repeat first | apply rA | apply rN | apply rD); exact HO253.out⟩, ⟨by (with_reducible repeat first | apply rA | apply rN | apply rD); exact HO261.out⟩, ⟨by (with_reducible repeat first | refine kN ?_ _ | refine kD ?_ | refine kA ?_ _); exact BK244.out⟩, ⟨by repeat (first | (with_reducible first | exact HB.out | apply bA | apply bN | apply bD | refine bS ?_ GE244.out) | exact HB.out)⟩⟩
    case rest =>
     clear HC18
     try clear c1
     try clear c2
     try clear p2
     try clear c3
     try clear c4
     try clear c4b0
     try clear c13
     try clear c16
     try clear c23
     try clear c24
     try clear c25
     try clear c26
     try clear c27
     try clear c28
     try clear c29
     try clear c30
     try clear c36
     try clear c36b0
     try clear hcz26_0
     try clear hcz26_1
     try clear hfz26_0
     try clear hfz26_1
     obtain ⟨kq, x48_17, rfl, HA, HJ17, HO_6, HO_8, BK244, HB⟩ := hcut
     cases kq with
     | zero => exact absurd HA.out (by simp [laws_FnExactLeftBetween.j0])
     | succ kj17 =>
      have H := HA.out
      clear HA
      simp only [laws_FnExactLeftBetween.j0] at H
      by_cases c38 : x48_17 = true
      ·subst c38
       have H1 : (some false) = some r := by rw [if_pos rfl] at H; exact H
       clear H
       have H := H1
       clear H1
       obtain rfl := Option.some.inj H
       go_wp2
       go_ret
       exact ⟨by first | rfl | (simp [errW_none, errW_some] <;> rfl) | (simp [*, errW_none, errW_some] <;> rfl), by repeat (first | (with_reducible first | exact HB.out | apply bA | apply bN | apply bD | refine bS ?_ GE244.out) | exact HB.out)⟩
      ·replace c38 := Bool.eq_false_iff.mpr c38
       subst c38
       have H1 : ((laws_markIntS.f kj17 t259 1).bind fun bt270 => ((laws_heldIntS.f kj17 bt270.2 1).bind fun t272 => (if t272 < 0 then (some false) else (if t272 = bt270.1 then ((laws_toStopS.f kj17 l0).bind fun t273 => ((laws_toSpan.f a1_0 a1_1).bind fun bt276 => ((impl_LeftBetween.f kj17 t273 bt276.1 bt276.2).bind fun t278 => ((laws_eqIntS.f kj17 t278 t251).bind fun t281 => (if t281 = true then ((laws_heldIntS.f kj17 bt270.2 1).bind fun t282 => (if t282 < 0 then (some false) else (if t282 = bt270.1 then (some true) else (some false)))) else (some false)))))) else (some false))))) = some r := by rw [if_neg (show ¬ (false = true) by decide)] at H; exact H
       clear H
       have H := H1
       clear H1
       replace H := Option.bind_eq_some_iff.mp H
       obtain ⟨⟨t270, t271⟩, A390, H⟩ := H
       replace H : ((laws_heldIntS.f kj17 t271 1).bind fun t272 => (if t272 < 0 then (some false) else (if t272 = t270 then ((laws_toStopS.f kj17 l0).bind fun t273 => ((laws_toSpan.f a1_0 a1_1).bind fun bt276 => ((impl_LeftBetween.f kj17 t273 bt276.1 bt276.2).bind fun t278 => ((laws_eqIntS.f kj17 t278 t251).bind fun t281 => (if t281 = true then ((laws_heldIntS.f kj17 t271 1).bind fun t282 => (if t282 < 0 then (some false) else (if t282 = t270 then (some true) else (some false)))) else (some false)))))) else (some false)))) = some r := H
       have A39 := Aside0.mk A390
       clear A390
       replace H := Option.bind_eq_some_iff.mp H
       obtain ⟨t272, A400, H⟩ := H
       replace H : (if t272 < 0 then (some false) else (if t272 = t270 then ((laws_toStopS.f kj17 l0).bind fun t273 => ((laws_toSpan.f a1_0 a1_1).bind fun bt276 => ((impl_LeftBetween.f kj17 t273 bt276.1 bt276.2).bind fun t278 => ((laws_eqIntS.f kj17 t278 t251).bind fun t281 => (if t281 = true then ((laws_heldIntS.f kj17 t271 1).bind fun t282 => (if t282 < 0 then (some false) else (if t282 = t270 then (some true) else (some false)))) else (some false)))))) else (some false))) = some r := H
       have A40 := Aside0.mk A400
       clear A400
       by_cases c41 : t272 < 0
       ·rw [if_pos c41] at H
        have c41b0 : decide (t272 < 0) = true := decide_eq_true c41
        clear c41
        obtain rfl := Option.some.inj H
        go_wp2_with (first | ((with_reducible refine gate_callee (f := 31) rfl ?_); refine goesL_ (some 51) rfl rfl Try.func31 (by kernel_rfl) rfl #[.slice Ao30 t259.length co30, .int .i64 1] rfl (by (try simp only [mA, mC, mN]); first | done | rfl | (simp only [lD, lT]; rfl)) ?_; (with_reducible refine (laws_markIntS.calls kj17 (fun k_ => some k_ = (.slice Ao30 t259.length co30 : Value).ownBlock) (.slice Ao30 t259.length co30) t259 1 t270 t271 w _ ?side1 ?side2 A39.out).mono ?_); (case side1 => repeat (first | (with_reducible first | exact HB.out | apply bA | apply bN | apply bD | refine bS ?_ GE244.out) | exact HB.out)); (case side2 => exact Kd.R_tight rfl HO_8.out); rintro e w42 ⟨rfl, hy0, hb, hkp⟩; refine ⟨_, rfl, ?_⟩; have n0_ := Aside0.mk (Kd.R_mono (ok' := fun k_ => some k_ ≠ (.slice Ao30 t259.length co30 : Value).ownBlock) (Kd.R_keptB (HO_6.out) hkp (fun k_ hk_ hs_ => (hk_) hs_)) (fun k_ hk_ => hk_.1)); have n1_ := Aside0.mk (Kd.R_reok rfl hy0 (fun k_ e_ => HO_8.out.1 k_ e_)); have n2_ := Aside0.mk (blk_kept (qK BK244) hkp (fun hs_ => (fun e_ => (Kd.R_ne HO_8.out BK244.out (by decide)) e_) hs_)); have n3_ := Aside0.mk (hb); clear HO_6; clear HO_8; clear BK244; clear HB; have HO_6 := n0_; have HO_8 := n1_; have BK244 := n2_; have HB := n3_; clear n0_ n1_ n2_ n3_; (try clear hb); (try clear hkp); (try clear hy0)) | ((with_reducible refine gate_callee (f := 32) rfl ?_); refine goesL_ (some 54) rfl rfl Try.func32 (by kernel_rfl) rfl #[.slice Ao30 t271.length co30, .int .i64 1] rfl (by (try simp only [List.map_toArray, List.map_cons, List.map_nil]); first | done | (rw [show t271.length = t259.length from (Kd.R_reads' HO_8.out).1.symm] <;> rfl) | rfl | (simp only [List.length_drop, List.length_take]; rfl)) ?_; (with_reducible refine (laws_heldIntS.calls kj17 _ _ t271 1 t272 _ ?side1 ?side2 A40.out).mono ?_); (case side1 => repeat (first | exact (Kd.R_reads' HO_8.out).2.2 | (with_reducible refine Kd.C_alloc ?_ _) | (with_reducible refine Kd.C_drewN ?_ _) | (with_reducible refine Kd.C_drew ?_))); (case side2 => rw [show t271.length = t259.length from (Kd.R_reads' HO_8.out).1.symm]; exact (Kd.R_reads' HO_8.out).2.1); rintro e w' ⟨rfl, ⟨nd, rfl⟩⟩; refine ⟨_, rfl, ?_⟩))
        go_ret
        exact ⟨by first | rfl | (simp [errW_none, errW_some] <;> rfl) | (simp [*, errW_none, errW_some] <;> rfl), by repeat (first | (with_reducible first | exact HB.out | apply bA | apply bN | apply bD | refine bS ?_ GE244.out) | exact HB.out)⟩
       ·rw [if_neg c41] at H
        have c41b0 : decide (t272 < 0) = false := decide_eq_false c41
        clear c41
        by_cases c43 : t272 = t270
        ·rw [if_pos c43] at H
         have c43b0 : (t272 == t270) = true := beq_iff_eq.mpr c43
         have c43b1 : (t272 != t270) = false := bne_eq_false_iff_eq.mpr c43
         clear c43
         replace H := Option.bind_eq_some_iff.mp H
         obtain ⟨t273, A440, H⟩ := H
         replace H : ((laws_toSpan.f a1_0 a1_1).bind fun bt276 => ((impl_LeftBetween.f kj17 t273 bt276.1 bt276.2).bind fun t278 => ((laws_eqIntS.f kj17 t278 t251).bind fun t281 => (if t281 = true then ((laws_heldIntS.f kj17 t271 1).bind fun t282 => (if t282 < 0 then (some false) else (if t282 = t270 then (some true) else (some false)))) else (some false))))) = some r := H
         have A44 := Aside0.mk A440
         clear A440
         replace H := Option.bind_eq_some_iff.mp H
         obtain ⟨⟨t276, t277⟩, A450, H⟩ := H
         replace H : ((impl_LeftBetween.f kj17 t273 t276 t277).bind fun t278 => ((laws_eqIntS.f kj17 t278 t251).bind fun t281 => (if t281 = true then ((laws_heldIntS.f kj17 t271 1).bind fun t282 => (if t282 < 0 then (some false) else (if t282 = t270 then (some true) else (some false)))) else (some false)))) = some r := H
         have A45 := Aside0.mk A450
         clear A450
         replace H := Option.bind_eq_some_iff.mp H
         obtain ⟨t278, A460, H⟩ := H
         replace H : ((laws_eqIntS.f kj17 t278 t251).bind fun t281 => (if t281 = true then ((laws_heldIntS.f kj17 t271 1).bind fun t282 => (if t282 < 0 then (some false) else (if t282 = t270 then (some true) else (some false)))) else (some false))) = some r := H
         have A46 := Aside0.mk A460
         clear A460
         replace H := Option.bind_eq_some_iff.mp H
         obtain ⟨t281, A470, H⟩ := H
         replace H : (if t281 = true then ((laws_heldIntS.f kj17 t271 1).bind fun t282 => (if t282 < 0 then (some false) else (if t282 = t270 then (some true) else (some false)))) else (some false)) = some r := H
         have A47 := Aside0.mk A470
         clear A470
         by_cases c48 : t281 = true
         ·subst c48
          have H1 : ((laws_heldIntS.f kj17 t271 1).bind fun t282 => (if t282 < 0 then (some false) else (if t282 = t270 then (some true) else (some false)))) = some r := by rw [if_pos rfl] at H; exact H
          clear H
          have H := H1
          clear H1
          replace H := Option.bind_eq_some_iff.mp H
          obtain ⟨t282, A490, H⟩ := H
          replace H : (if t282 < 0 then (some false) else (if t282 = t270 then (some true) else (some false))) = some r := H
          have A49 := Aside0.mk A490
          clear A490
          by_cases c50 : t282 < 0
          ·rw [if_pos c50] at H
           have c50b0 : decide (t282 < 0) = true := decide_eq_true c50
           clear c50
           obtain rfl := Option.some.inj H
           try go_wp2_with (first | ((with_reducible refine gate_callee (f := 31) rfl ?_); refine goesL_ (some 51) rfl rfl Try.func31 (by kernel_rfl) rfl #[.slice Ao30 t259.length co30, .int .i64 1] rfl (by (try simp only [mA, mC, mN]); first | done | rfl | (simp only [lD, lT]; rfl)) ?_; (with_reducible refine (laws_markIntS.calls kj17 (fun k_ => some k_ = (.slice Ao30 t259.length co30 : Value).ownBlock) (.slice Ao30 t259.length co30) t259 1 t270 t271 w _ ?side1 ?side2 A39.out).mono ?_); (case side1 => repeat (first | (with_reducible first | exact HB.out | apply bA | apply bN | apply bD | refine bS ?_ GE244.out) | exact HB.out)); (case side2 => exact Kd.R_tight rfl HO_8.out); rintro e w51 ⟨rfl, hy0, hb, hkp⟩; refine ⟨_, rfl, ?_⟩; have n0_ := Aside0.mk (Kd.R_mono (ok' := fun k_ => some k_ ≠ (.slice Ao30 t259.length co30 : Value).ownBlock) (Kd.R_keptB (HO_6.out) hkp (fun k_ hk_ hs_ => (hk_) hs_)) (fun k_ hk_ => hk_.1)); have n1_ := Aside0.mk (Kd.R_reok rfl hy0 (fun k_ e_ => HO_8.out.1 k_ e_)); have n2_ := Aside0.mk (blk_kept (qK BK244) hkp (fun hs_ => (fun e_ => (Kd.R_ne HO_8.out BK244.out (by decide)) e_) hs_)); have n3_ := Aside0.mk (hb); clear HO_6; clear HO_8; clear BK244; clear HB; have HO_6 := n0_; have HO_8 := n1_; have BK244 := n2_; have HB := n3_; clear n0_ n1_ n2_ n3_; (try clear hb); (try clear hkp); (try clear hy0)) | ((with_reducible refine gate_callee (f := 32) rfl ?_); refine goesL_ (some 54) rfl rfl Try.func32 (by kernel_rfl) rfl #[.slice Ao30 t271.length co30, .int .i64 1] rfl (by (try simp only [List.map_toArray, List.map_cons, List.map_nil]); first | done | (rw [show t271.length = t259.length from (Kd.R_reads' HO_8.out).1.symm] <;> rfl) | rfl | (simp only [List.length_drop, List.length_take]; rfl)) ?_; (with_reducible refine (laws_heldIntS.calls kj17 _ _ t271 1 t272 _ ?side1 ?side2 A40.out).mono ?_); (case side1 => repeat (first | exact (Kd.R_reads' HO_8.out).2.2 | (with_reducible refine Kd.C_alloc ?_ _) | (with_reducible refine Kd.C_drewN ?_ _) | (with_reducible refine Kd.C_drew ?_))); (case side2 => rw [show t271.length = t259.length from (Kd.R_reads' HO_8.out).1.symm]; exact (Kd.R_reads' HO_8.out).2.1); rintro e w' ⟨rfl, ⟨nd, rfl⟩⟩; refine ⟨_, rfl, ?_⟩))
           (try (rw [drewN_self w51]; generalize hq_ : World.drewN w51 _ = w51; have n0_ : Aside0 (Kd.R (Kd.int .i64) 3 w51 w.heap.size (fun k_ => some k_ ≠ (.slice Ao30 t259.length co30 : Value).ownBlock) (.slice Ao31 t251.length co31) t251) := ⟨by rw [← hq_]; exact (qR HO_6)⟩; have n1_ : Aside0 (Kd.R (Kd.int .i64) 3 w51 w.heap.size (fun k_ => some k_ ≠ (.slice Ao31 t251.length co31 : Value).ownBlock) (.slice Ao30 t259.length co30) t271) := ⟨by rw [← hq_]; exact (qR HO_8)⟩; have n2_ : Aside0 (w51.heap[gb244]? = some (.cells #[.int .i64 a1_0, .int .i64 a1_1] 37 (0, 0))) := ⟨by rw [← hq_]; exact (qK BK244)⟩; have n3_ : Aside0 (Below w.heap.size w w51) := ⟨by rw [← hq_]; exact (by repeat first | (with_reducible first | exact HB.out | apply bA | apply bN | apply bD | refine bS ?_ GE244.out) | exact HB.out)⟩; clear HO_6 HO_8 BK244 HB hq_; have HO_6 := n0_; have HO_8 := n1_; have BK244 := n2_; have HB := n3_; clear n0_ n1_ n2_ n3_))
           have n0_ := Aside0.mk (Kd.R_drew HO_6.out)
           have n1_ := Aside0.mk (Kd.R_drew HO_8.out)
           have n2_ := Aside0.mk (blk_drew BK244.out)
           have n3_ := Aside0.mk (below_drew1 HB.out)
           clear HO_6
           clear HO_8
           clear BK244
           clear HB
           have HO_6 := n0_
           have HO_8 := n1_
           have BK244 := n2_
           have HB := n3_
           clear n0_ n1_ n2_ n3_
           refine start_ (n := 6) (S := fun w' => w'.cell? ⟨gb244, 0, none⟩ = some (.int .i64 a1_0) ∧ w'.cell? ⟨gb244, 1, none⟩ = some (.int .i64 a1_1)) (ds := []) (bR [0, 6]) (by kernel_rfl) rfl rfl ⟨cC BK244 0, cC BK244 1⟩ (fun hHeld => ?_)
           generalize w51.drew = w52 at HO_6 HO_8 BK244 HB hHeld ⊢
           refine pure_ (i := 0) (N := some 60) (v := ?_) (a' := ?_) (bR [1, 5]) rfl rfl (by kernel_rfl) (fun _ _ _ h => h) (Or.inl ⟨by rfl, ?_⟩) ?_ ?_
           rotate_left; (intro w'; go_simp; with_reducible rfl); rotate_left; (simp only [Act.put, sA, sZ, sS, i64_w]; rfl)
           refine take_ (i := 2) (N := some 62) (v := ?_) (a' := ?_) (bR [1, 1, 1, 3]) rfl rfl (by kernel_rfl) (fun _ _ _ h => h) (Or.inl ⟨by rfl, ?_⟩) hHeld ?_ ?_
           rotate_left; (rintro w' ⟨s0, s1⟩; go_simp; with_reducible rfl); rotate_left; (simp only [Act.put, sA, sZ, sS, i64_w]; rfl)
           refine one_ (i := 1) (N := some 61) (bR [3, 3]) rfl rfl (by kernel_rfl) (by decide) (fun K hK => ?_)
           refine goes_ Try.func25 (by kernel_rfl) rfl #[.slice A0 l0.length c0] (by rfl) rfl rfl (by (try simp only [mA, mC, mN]); first | done | rfl | (simp only [lD, lT]; rfl)) ?_
           with_reducible refine (laws_toStopS.calls kj17 _ _ l0 t273 _ ?side1 ?side2 A44.out).mono ?_
           (case side1 => exact qC (Kd.C_below HR0.out HB.out))
           (case side2 => exact HC0.out)
           rintro e w53 ⟨v274, rfl, ho0, hb⟩
           refine ⟨_, rfl, ?_⟩
           have n0_ := Aside0.mk (Kd.R_below (qR HO_6) hb)
           have n1_ := Aside0.mk (Kd.R_below (qR HO_8) hb)
           have n2_ := Aside0.mk (Kd.R_lower ho0 (below_size (by repeat first | (with_reducible first | exact HB.out | apply bA | apply bN | apply bD | refine bS ?_ GE244.out) | exact HB.out)))
           have n3_ := Aside0.mk (blk_below (qK BK244) hb)
           have n4_ := Aside0.mk (below_step (by repeat first | (with_reducible first | exact HB.out | apply bA | apply bN | apply bD | refine bS ?_ GE244.out) | exact HB.out) hb)
           clear HO_6
           clear HO_8
           clear BK244
           clear HB
           have HO_6 := n0_
           have HO_8 := n1_
           have HO275 := n2_
           have BK244 := n3_
           have HB := n4_
           clear n0_ n1_ n2_ n3_ n4_
           (try clear hb)
           (try clear hb2)
           (try clear hk)
           (try clear hi)
           (try clear ho0)
           refine hK.out _ _ ⟨cC BK244 0, cC BK244 1⟩ (fun hHeld => ?_)
           clear hK K
           refine norm_ (a' := ?_) ?_ ?_
           rotate_left
           ·show Act.put _ (some 61) _ = _
            simp only [Act.put, sA, sZ, sS, i64_w]
            rfl
           refine one_ (i := 3) (N := some 63) (bR [4, 2]) rfl rfl (by kernel_rfl) (by decide) (fun K hK => ?_)
           refine goes_ Try.func26 (by kernel_rfl) rfl #[.agg #[.int .i64 a1_0, .int .i64 a1_1]] (by rfl) rfl rfl (by (try simp only [mA, mC, mN]); first | done | rfl | (simp only [lD, lT]; rfl)) ?_
           with_reducible refine (laws_toSpan.calls a1_0 a1_1 t276 t277 _ A45.out).mono ?_
           rintro e w54 ⟨rfl, hb⟩
           refine ⟨_, rfl, ?_⟩
           have n0_ := Aside0.mk (Kd.R_below (qR HO_6) hb)
           have n1_ := Aside0.mk (Kd.R_below (qR HO_8) hb)
           have n2_ := Aside0.mk (Kd.R_below (qR HO275) hb)
           have n3_ := Aside0.mk (blk_below (qK BK244) hb)
           have n4_ := Aside0.mk (below_step (by repeat first | (with_reducible first | exact HB.out | apply bA | apply bN | apply bD | refine bS ?_ GE244.out) | exact HB.out) hb)
           clear HO_6
           clear HO_8
           clear HO275
           clear BK244
           clear HB
           have HO_6 := n0_
           have HO_8 := n1_
           have HO275 := n2_
           have BK244 := n3_
           have HB := n4_
           clear n0_ n1_ n2_ n3_ n4_
           (try clear hb)
           (try clear hb2)
           (try clear hk)
           (try clear hi)
           obtain ⟨Ao55, co55, eo55⟩ := Kd.R_slice HO275.out
           (first | subst eo55 | (injection eo55 with f1_ f2_ f3_; have f4_ := f1_.symm; have f5_ := f3_.symm; clear f1_ f2_ f3_; subst f4_; subst f5_))
           refine hK.out _ _ ⟨cC BK244 0, cC BK244 1⟩ (fun hHeld => ?_)
           clear hK K
           refine norm_ (a' := ?_) ?_ ?_
           rotate_left
           ·show Act.put _ (some 63) _ = _
            simp only [Act.put, sA, sZ, sS, i64_w]
            rfl
           refine one_ (i := 4) (N := some 64) (bR [5, 1]) rfl rfl (by kernel_rfl) (by decide) (fun K hK => ?_)
           refine goes_ Try.func27 (by kernel_rfl) rfl #[.slice Ao55 t273.length co55, .agg #[.int .i64 t276, .int .i64 t277]] (by rfl) rfl rfl (by (try simp only [mA, mC, mN]); first | done | rfl | (simp only [lD, lT]; rfl)) ?_
           with_reducible refine (impl_LeftBetween.calls kj17 _ _ t273 t276 t277 t278 _ ?side1 ?side2 A46.out).mono ?_
           (case side1 => repeat (first | exact (Kd.R_reads' HO275.out).2.2 | (with_reducible refine Kd.C_alloc ?_ _) | (with_reducible refine Kd.C_drewN ?_ _) | (with_reducible refine Kd.C_drew ?_)))
           (case side2 => exact (Kd.R_reads' HO275.out).2.1)
           rintro e w56 ⟨v279, rfl, ho0, hb⟩
           refine ⟨_, rfl, ?_⟩
           have n0_ := Aside0.mk (Kd.R_elder' (qR HO_6) (Kd.R_base ho0) hb)
           have n1_ := Aside0.mk (Kd.R_elder' (qR HO_8) (Kd.R_base ho0) hb)
           have n2_ := Aside0.mk (Kd.R_below (qR HO275) hb)
           have n3_ := Aside0.mk (Kd.R_lower (Kd.R_new' (Kd.R_new' ho0 (Kd.R_lt (qR HO_6))) (Kd.R_lt (qR HO_8))) (below_size (by repeat first | (with_reducible first | exact HB.out | apply bA | apply bN | apply bD | refine bS ?_ GE244.out) | exact HB.out)))
           have n4_ := Aside0.mk (blk_below (qK BK244) hb)
           have n5_ := Aside0.mk (below_step (by repeat first | (with_reducible first | exact HB.out | apply bA | apply bN | apply bD | refine bS ?_ GE244.out) | exact HB.out) hb)
           clear HO_6
           clear HO_8
           clear HO275
           clear BK244
           clear HB
           have HO_6 := n0_
           have HO_8 := n1_
           have HO275 := n2_
           have HO280 := n3_
           have BK244 := n4_
           have HB := n5_
           clear n0_ n1_ n2_ n3_ n4_ n5_
           (try clear hb)
           (try clear hb2)
           (try clear hk)
           (try clear hi)
           (try clear ho0)
           refine hK.out _ _ ⟨cC BK244 0, cC BK244 1⟩ (fun hHeld => ?_)
           clear hK K
           refine norm_ (a' := ?_) ?_ ?_
           rotate_left
           ·show Act.put _ (some 64) _ = _
            simp only [Act.put, sA, sZ, sS, i64_w]
            rfl
           refine pure_ (i := 5) (N := some 12) (v := ?_) (a' := ?_) (bR [6]) rfl rfl (by kernel_rfl) (fun _ _ _ h => h) (Or.inl ⟨by rfl, ?_⟩) ?_ ?_
           rotate_left; (intro w'; go_simp; with_reducible rfl); rotate_left; (simp only [Act.put, sA, sZ, sS, i64_w]; rfl)
           refine done_ (by kernel_rfl) ?_
           obtain ⟨Ao57, co57, eo57⟩ := Kd.R_slice HO280.out
           subst eo57
           try go_wp2_with (first | ((with_reducible refine gate_callee (f := 28) rfl ?_); refine goesL_ (some 67) rfl rfl Try.func28 (by kernel_rfl) rfl #[.slice Ao57 t278.length co57, .slice Ao31 t251.length co31] rfl (by (try simp only [mA, mC, mN]); first | done | rfl | (simp only [lD, lT]; rfl)) ?_; (with_reducible refine (laws_eqIntS.calls kj17 _ _ t278 _ _ t251 true _ ?side1 ?side2 ?side3 ?side4 A47.out).mono ?_); (case side1 => repeat (first | exact (Kd.R_reads' HO280.out).2.2 | (with_reducible refine Kd.C_alloc ?_ _) | (with_reducible refine Kd.C_drewN ?_ _) | (with_reducible refine Kd.C_drew ?_))); (case side2 => exact (Kd.R_reads' HO280.out).2.1); (case side3 => repeat (first | exact (Kd.R_reads' HO_6.out).2.2 | (with_reducible refine Kd.C_alloc ?_ _) | (with_reducible refine Kd.C_drewN ?_ _) | (with_reducible refine Kd.C_drew ?_))); (case side4 => exact (Kd.R_reads' HO_6.out).2.1); rintro e w' ⟨rfl, ⟨nd, rfl⟩⟩; refine ⟨_, rfl, ?_⟩) | ((with_reducible refine gate_callee (f := 32) rfl ?_); refine goesL_ (some 71) rfl rfl Try.func32 (by kernel_rfl) rfl #[.slice Ao30 t271.length co30, .int .i64 1] rfl (by (try simp only [List.map_toArray, List.map_cons, List.map_nil]); first | done | (rw [show t271.length = t259.length from (Kd.R_reads' HO_8.out).1.symm] <;> rfl) | rfl | (simp only [List.length_drop, List.length_take]; rfl)) ?_; (with_reducible refine (laws_heldIntS.calls kj17 _ _ t271 1 t282 _ ?side1 ?side2 A49.out).mono ?_); (case side1 => repeat (first | exact (Kd.R_reads' HO_8.out).2.2 | (with_reducible refine Kd.C_alloc ?_ _) | (with_reducible refine Kd.C_drewN ?_ _) | (with_reducible refine Kd.C_drew ?_))); (case side2 => rw [show t271.length = t259.length from (Kd.R_reads' HO_8.out).1.symm]; exact (Kd.R_reads' HO_8.out).2.1); rintro e w' ⟨rfl, ⟨nd, rfl⟩⟩; refine ⟨_, rfl, ?_⟩))
           go_ret
           exact ⟨by first | rfl | (simp [errW_none, errW_some] <;> rfl) | (simp [*, errW_none, errW_some] <;> rfl), by repeat (first | (with_reducible first | exact HB.out | apply bA | apply bN | apply bD | refine bS ?_ GE244.out) | exact HB.out)⟩
          ·rw [if_neg c50] at H
           have c50b0 : decide (t282 < 0) = false := decide_eq_false c50
           clear c50
           by_cases c58 : t282 = t270
           ·rw [if_pos c58] at H
            have c58b0 : (t282 == t270) = true := beq_iff_eq.mpr c58
            have c58b1 : (t282 != t270) = false := bne_eq_false_iff_eq.mpr c58
            clear c58
            obtain rfl := Option.some.inj H
            try go_wp2_with (first | ((with_reducible refine gate_callee (f := 31) rfl ?_); refine goesL_ (some 51) rfl rfl Try.func31 (by kernel_rfl) rfl #[.slice Ao30 t259.length co30, .int .i64 1] rfl (by (try simp only [mA, mC, mN]); first | done | rfl | (simp only [lD, lT]; rfl)) ?_; (with_reducible refine (laws_markIntS.calls kj17 (fun k_ => some k_ = (.slice Ao30 t259.length co30 : Value).ownBlock) (.slice Ao30 t259.length co30) t259 1 t270 t271 w _ ?side1 ?side2 A39.out).mono ?_); (case side1 => repeat (first | (with_reducible first | exact HB.out | apply bA | apply bN | apply bD | refine bS ?_ GE244.out) | exact HB.out)); (case side2 => exact Kd.R_tight rfl HO_8.out); rintro e w59 ⟨rfl, hy0, hb, hkp⟩; refine ⟨_, rfl, ?_⟩; have n0_ := Aside0.mk (Kd.R_mono (ok' := fun k_ => some k_ ≠ (.slice Ao30 t259.length co30 : Value).ownBlock) (Kd.R_keptB (HO_6.out) hkp (fun k_ hk_ hs_ => (hk_) hs_)) (fun k_ hk_ => hk_.1)); have n1_ := Aside0.mk (Kd.R_reok rfl hy0 (fun k_ e_ => HO_8.out.1 k_ e_)); have n2_ := Aside0.mk (blk_kept (qK BK244) hkp (fun hs_ => (fun e_ => (Kd.R_ne HO_8.out BK244.out (by decide)) e_) hs_)); have n3_ := Aside0.mk (hb); clear HO_6; clear HO_8; clear BK244; clear HB; have HO_6 := n0_; have HO_8 := n1_; have BK244 := n2_; have HB := n3_; clear n0_ n1_ n2_ n3_; (try clear hb); (try clear hkp); (try clear hy0)) | ((with_reducible refine gate_callee (f := 32) rfl ?_); refine goesL_ (some 54) rfl rfl Try.func32 (by kernel_rfl) rfl #[.slice Ao30 t271.length co30, .int .i64 1] rfl (by (try simp only [List.map_toArray, List.map_cons, List.map_nil]); first | done | (rw [show t271.length = t259.length from (Kd.R_reads' HO_8.out).1.symm] <;> rfl) | rfl | (simp only [List.length_drop, List.length_take]; rfl)) ?_; (with_reducible refine (laws_heldIntS.calls kj17 _ _ t271 1 t272 _ ?side1 ?side2 A40.out).mono ?_); (case side1 => repeat (first | exact (Kd.R_reads' HO_8.out).2.2 | (with_reducible refine Kd.C_alloc ?_ _) | (with_reducible refine Kd.C_drewN ?_ _) | (with_reducible refine Kd.C_drew ?_))); (case side2 => rw [show t271.length = t259.length from (Kd.R_reads' HO_8.out).1.symm]; exact (Kd.R_reads' HO_8.out).2.1); rintro e w' ⟨rfl, ⟨nd, rfl⟩⟩; refine ⟨_, rfl, ?_⟩))
            (try (rw [drewN_self w59]; generalize hq_ : World.drewN w59 _ = w59; have n0_ : Aside0 (Kd.R (Kd.int .i64) 3 w59 w.heap.size (fun k_ => some k_ ≠ (.slice Ao30 t259.length co30 : Value).ownBlock) (.slice Ao31 t251.length co31) t251) := ⟨by rw [← hq_]; exact (qR HO_6)⟩; have n1_ : Aside0 (Kd.R (Kd.int .i64) 3 w59 w.heap.size (fun k_ => some k_ ≠ (.slice Ao31 t251.length co31 : Value).ownBlock) (.slice Ao30 t259.length co30) t271) := ⟨by rw [← hq_]; exact (qR HO_8)⟩; have n2_ : Aside0 (w59.heap[gb244]? = some (.cells #[.int .i64 a1_0, .int .i64 a1_1] 37 (0, 0))) := ⟨by rw [← hq_]; exact (qK BK244)⟩; have n3_ : Aside0 (Below w.heap.size w w59) := ⟨by rw [← hq_]; exact (by repeat first | (with_reducible first | exact HB.out | apply bA | apply bN | apply bD | refine bS ?_ GE244.out) | exact HB.out)⟩; clear HO_6 HO_8 BK244 HB hq_; have HO_6 := n0_; have HO_8 := n1_; have BK244 := n2_; have HB := n3_; clear n0_ n1_ n2_ n3_))
            have n0_ := Aside0.mk (Kd.R_drew HO_6.out)
            have n1_ := Aside0.mk (Kd.R_drew HO_8.out)
            have n2_ := Aside0.mk (blk_drew BK244.out)
            have n3_ := Aside0.mk (below_drew1 HB.out)
            clear HO_6
            clear HO_8
            clear BK244
            clear HB
            have HO_6 := n0_
            have HO_8 := n1_
            have BK244 := n2_
            have HB := n3_
            clear n0_ n1_ n2_ n3_
            refine start_ (n := 6) (S := fun w' => w'.cell? ⟨gb244, 0, none⟩ = some (.int .i64 a1_0) ∧ w'.cell? ⟨gb244, 1, none⟩ = some (.int .i64 a1_1)) (ds := []) (bR [0, 6]) (by kernel_rfl) rfl rfl ⟨cC BK244 0, cC BK244 1⟩ (fun hHeld => ?_)
            generalize w59.drew = w60 at HO_6 HO_8 BK244 HB hHeld ⊢
            refine pure_ (i := 0) (N := some 60) (v := ?_) (a' := ?_) (bR [1, 5]) rfl rfl (by kernel_rfl) (fun _ _ _ h => h) (Or.inl ⟨by rfl, ?_⟩) ?_ ?_
            rotate_left; (intro w'; go_simp; with_reducible rfl); rotate_left; (simp only [Act.put, sA, sZ, sS, i64_w]; rfl)
            refine take_ (i := 2) (N := some 62) (v := ?_) (a' := ?_) (bR [1, 1, 1, 3]) rfl rfl (by kernel_rfl) (fun _ _ _ h => h) (Or.inl ⟨by rfl, ?_⟩) hHeld ?_ ?_
            rotate_left; (rintro w' ⟨s0, s1⟩; go_simp; with_reducible rfl); rotate_left; (simp only [Act.put, sA, sZ, sS, i64_w]; rfl)
            refine one_ (i := 1) (N := some 61) (bR [3, 3]) rfl rfl (by kernel_rfl) (by decide) (fun K hK => ?_)
            refine goes_ Try.func25 (by kernel_rfl) rfl #[.slice A0 l0.length c0] (by rfl) rfl rfl (by (try simp only [mA, mC, mN]); first | done | rfl | (simp only [lD, lT]; rfl)) ?_
            with_reducible refine (laws_toStopS.calls kj17 _ _ l0 t273 _ ?side1 ?side2 A44.out).mono ?_
            (case side1 => exact qC (Kd.C_below HR0.out HB.out))
            (case side2 => exact HC0.out)
            rintro e w61 ⟨v274, rfl, ho0, hb⟩
            refine ⟨_, rfl, ?_⟩
            have n0_ := Aside0.mk (Kd.R_below (qR HO_6) hb)
            have n1_ := Aside0.mk (Kd.R_below (qR HO_8) hb)
            have n2_ := Aside0.mk (Kd.R_lower ho0 (below_size (by repeat first | (with_reducible first | exact HB.out | apply bA | apply bN | apply bD | refine bS ?_ GE244.out) | exact HB.out)))
            have n3_ := Aside0.mk (blk_below (qK BK244) hb)
            have n4_ := Aside0.mk (below_step (by repeat first | (with_reducible first | exact HB.out | apply bA | apply bN | apply bD | refine bS ?_ GE244.out) | exact HB.out) hb)
            clear HO_6
            clear HO_8
            clear BK244
            clear HB
            have HO_6 := n0_
            have HO_8 := n1_
            have HO275 := n2_
            have BK244 := n3_
            have HB := n4_
            clear n0_ n1_ n2_ n3_ n4_
            (try clear hb)
            (try clear hb2)
            (try clear hk)
            (try clear hi)
            (try clear ho0)
            refine hK.out _ _ ⟨cC BK244 0, cC BK244 1⟩ (fun hHeld => ?_)
            clear hK K
            refine norm_ (a' := ?_) ?_ ?_
            rotate_left
            ·show Act.put _ (some 61) _ = _
             simp only [Act.put, sA, sZ, sS, i64_w]
             rfl
            refine one_ (i := 3) (N := some 63) (bR [4, 2]) rfl rfl (by kernel_rfl) (by decide) (fun K hK => ?_)
            refine goes_ Try.func26 (by kernel_rfl) rfl #[.agg #[.int .i64 a1_0, .int .i64 a1_1]] (by rfl) rfl rfl (by (try simp only [mA, mC, mN]); first | done | rfl | (simp only [lD, lT]; rfl)) ?_
            with_reducible refine (laws_toSpan.calls a1_0 a1_1 t276 t277 _ A45.out).mono ?_
            rintro e w62 ⟨rfl, hb⟩
            refine ⟨_, rfl, ?_⟩
            have n0_ := Aside0.mk (Kd.R_below (qR HO_6) hb)
            have n1_ := Aside0.mk (Kd.R_below (qR HO_8) hb)
            have n2_ := Aside0.mk (Kd.R_below (qR HO275) hb)
            have n3_ := Aside0.mk (blk_below (qK BK244) hb)
            have n4_ := Aside0.mk (below_step (by repeat first | (with_reducible first | exact HB.out | apply bA | apply bN | apply bD | refine bS ?_ GE244.out) | exact HB.out) hb)
            clear HO_6
            clear HO_8
            clear HO275
            clear BK244
            clear HB
            have HO_6 := n0_
            have HO_8 := n1_
            have HO275 := n2_
            have BK244 := n3_
            have HB := n4_
            clear n0_ n1_ n2_ n3_ n4_
            (try clear hb)
            (try clear hb2)
            (try clear hk)
            (try clear hi)
            obtain ⟨Ao63, co63, eo63⟩ := Kd.R_slice HO275.out
            (first | subst eo63 | (injection eo63 with f1_ f2_ f3_; have f4_ := f1_.symm; have f5_ := f3_.symm; clear f1_ f2_ f3_; subst f4_; subst f5_))
            refine hK.out _ _ ⟨cC BK244 0, cC BK244 1⟩ (fun hHeld => ?_)
            clear hK K
            refine norm_ (a' := ?_) ?_ ?_
            rotate_left
            ·show Act.put _ (some 63) _ = _
             simp only [Act.put, sA, sZ, sS, i64_w]
             rfl
            refine one_ (i := 4) (N := some 64) (bR [5, 1]) rfl rfl (by kernel_rfl) (by decide) (fun K hK => ?_)
            refine goes_ Try.func27 (by kernel_rfl) rfl #[.slice Ao63 t273.length co63, .agg #[.int .i64 t276, .int .i64 t277]] (by rfl) rfl rfl (by (try simp only [mA, mC, mN]); first | done | rfl | (simp only [lD, lT]; rfl)) ?_
            with_reducible refine (impl_LeftBetween.calls kj17 _ _ t273 t276 t277 t278 _ ?side1 ?side2 A46.out).mono ?_
            (case side1 => repeat (first | exact (Kd.R_reads' HO275.out).2.2 | (with_reducible refine Kd.C_alloc ?_ _) | (with_reducible refine Kd.C_drewN ?_ _) | (with_reducible refine Kd.C_drew ?_)))
            (case side2 => exact (Kd.R_reads' HO275.out).2.1)
            rintro e w64 ⟨v279, rfl, ho0, hb⟩
            refine ⟨_, rfl, ?_⟩
            have n0_ := Aside0.mk (Kd.R_elder' (qR HO_6) (Kd.R_base ho0) hb)
            have n1_ := Aside0.mk (Kd.R_elder' (qR HO_8) (Kd.R_base ho0) hb)
            have n2_ := Aside0.mk (Kd.R_below (qR HO275) hb)
            have n3_ := Aside0.mk (Kd.R_lower (Kd.R_new' (Kd.R_new' ho0 (Kd.R_lt (qR HO_6))) (Kd.R_lt (qR HO_8))) (below_size (by repeat first | (with_reducible first | exact HB.out | apply bA | apply bN | apply bD | refine bS ?_ GE244.out) | exact HB.out)))
            have n4_ := Aside0.mk (blk_below (qK BK244) hb)
            have n5_ := Aside0.mk (below_step (by repeat first | (with_reducible first | exact HB.out | apply bA | apply bN | apply bD | refine bS ?_ GE244.out) | exact HB.out) hb)
            clear HO_6
            clear HO_8
            clear HO275
            clear BK244
            clear HB
            have HO_6 := n0_
            have HO_8 := n1_
            have HO275 := n2_
            have HO280 := n3_
            have BK244 := n4_
            have HB := n5_
            clear n0_ n1_ n2_ n3_ n4_ n5_
            (try clear hb)
            (try clear hb2)
            (try clear hk)
            (try clear hi)
            (try clear ho0)
            refine hK.out _ _ ⟨cC BK244 0, cC BK244 1⟩ (fun hHeld => ?_)
            clear hK K
            refine norm_ (a' := ?_) ?_ ?_
            rotate_left
            ·show Act.put _ (some 64) _ = _
             simp only [Act.put, sA, sZ, sS, i64_w]
             rfl
            refine pure_ (i := 5) (N := some 12) (v := ?_) (a' := ?_) (bR [6]) rfl rfl (by kernel_rfl) (fun _ _ _ h => h) (Or.inl ⟨by rfl, ?_⟩) ?_ ?_
            rotate_left; (intro w'; go_simp; with_reducible rfl); rotate_left; (simp only [Act.put, sA, sZ, sS, i64_w]; rfl)
            refine done_ (by kernel_rfl) ?_
            obtain ⟨Ao65, co65, eo65⟩ := Kd.R_slice HO280.out
            subst eo65
            try go_wp2_with (first | ((with_reducible refine gate_callee (f := 28) rfl ?_); refine goesL_ (some 67) rfl rfl Try.func28 (by kernel_rfl) rfl #[.slice Ao65 t278.length co65, .slice Ao31 t251.length co31] rfl (by (try simp only [mA, mC, mN]); first | done | rfl | (simp only [lD, lT]; rfl)) ?_; (with_reducible refine (laws_eqIntS.calls kj17 _ _ t278 _ _ t251 true _ ?side1 ?side2 ?side3 ?side4 A47.out).mono ?_); (case side1 => repeat (first | exact (Kd.R_reads' HO280.out).2.2 | (with_reducible refine Kd.C_alloc ?_ _) | (with_reducible refine Kd.C_drewN ?_ _) | (with_reducible refine Kd.C_drew ?_))); (case side2 => exact (Kd.R_reads' HO280.out).2.1); (case side3 => repeat (first | exact (Kd.R_reads' HO_6.out).2.2 | (with_reducible refine Kd.C_alloc ?_ _) | (with_reducible refine Kd.C_drewN ?_ _) | (with_reducible refine Kd.C_drew ?_))); (case side4 => exact (Kd.R_reads' HO_6.out).2.1); rintro e w' ⟨rfl, ⟨nd, rfl⟩⟩; refine ⟨_, rfl, ?_⟩) | ((with_reducible refine gate_callee (f := 32) rfl ?_); refine goesL_ (some 71) rfl rfl Try.func32 (by kernel_rfl) rfl #[.slice Ao30 t271.length co30, .int .i64 1] rfl (by (try simp only [List.map_toArray, List.map_cons, List.map_nil]); first | done | (rw [show t271.length = t259.length from (Kd.R_reads' HO_8.out).1.symm] <;> rfl) | rfl | (simp only [List.length_drop, List.length_take]; rfl)) ?_; (with_reducible refine (laws_heldIntS.calls kj17 _ _ t271 1 t282 _ ?side1 ?side2 A49.out).mono ?_); (case side1 => repeat (first | exact (Kd.R_reads' HO_8.out).2.2 | (with_reducible refine Kd.C_alloc ?_ _) | (with_reducible refine Kd.C_drewN ?_ _) | (with_reducible refine Kd.C_drew ?_))); (case side2 => rw [show t271.length = t259.length from (Kd.R_reads' HO_8.out).1.symm]; exact (Kd.R_reads' HO_8.out).2.1); rintro e w' ⟨rfl, ⟨nd, rfl⟩⟩; refine ⟨_, rfl, ?_⟩))
            go_ret
            exact ⟨by first | rfl | (simp [errW_none, errW_some] <;> rfl) | (simp [*, errW_none, errW_some] <;> rfl), by repeat (first | (with_reducible first | exact HB.out | apply bA | apply bN | apply bD | refine bS ?_ GE244.out) | exact HB.out)⟩
           ·rw [if_neg c58] at H
            have c58b0 : (t282 == t270) = false := beq_eq_false_iff_ne.mpr c58
            have c58b1 : (t282 != t270) = true := bne_iff_ne.mpr c58
            obtain rfl := Option.some.inj H
            try go_wp2_with (first | ((with_reducible refine gate_callee (f := 31) rfl ?_); refine goesL_ (some 51) rfl rfl Try.func31 (by kernel_rfl) rfl #[.slice Ao30 t259.length co30, .int .i64 1] rfl (by (try simp only [mA, mC, mN]); first | done | rfl | (simp only [lD, lT]; rfl)) ?_; (with_reducible refine (laws_markIntS.calls kj17 (fun k_ => some k_ = (.slice Ao30 t259.length co30 : Value).ownBlock) (.slice Ao30 t259.length co30) t259 1 t270 t271 w _ ?side1 ?side2 A39.out).mono ?_); (case side1 => repeat (first | (with_reducible first | exact HB.out | apply bA | apply bN | apply bD | refine bS ?_ GE244.out) | exact HB.out)); (case side2 => exact Kd.R_tight rfl HO_8.out); rintro e w66 ⟨rfl, hy0, hb, hkp⟩; refine ⟨_, rfl, ?_⟩; have n0_ := Aside0.mk (Kd.R_mono (ok' := fun k_ => some k_ ≠ (.slice Ao30 t259.length co30 : Value).ownBlock) (Kd.R_keptB (HO_6.out) hkp (fun k_ hk_ hs_ => (hk_) hs_)) (fun k_ hk_ => hk_.1)); have n1_ := Aside0.mk (Kd.R_reok rfl hy0 (fun k_ e_ => HO_8.out.1 k_ e_)); have n2_ := Aside0.mk (blk_kept (qK BK244) hkp (fun hs_ => (fun e_ => (Kd.R_ne HO_8.out BK244.out (by decide)) e_) hs_)); have n3_ := Aside0.mk (hb); clear HO_6; clear HO_8; clear BK244; clear HB; have HO_6 := n0_; have HO_8 := n1_; have BK244 := n2_; have HB := n3_; clear n0_ n1_ n2_ n3_; (try clear hb); (try clear hkp); (try clear hy0)) | ((with_reducible refine gate_callee (f := 32) rfl ?_); refine goesL_ (some 54) rfl rfl Try.func32 (by kernel_rfl) rfl #[.slice Ao30 t271.length co30, .int .i64 1] rfl (by (try simp only [List.map_toArray, List.map_cons, List.map_nil]); first | done | (rw [show t271.length = t259.length from (Kd.R_reads' HO_8.out).1.symm] <;> rfl) | rfl | (simp only [List.length_drop, List.length_take]; rfl)) ?_; (with_reducible refine (laws_heldIntS.calls kj17 _ _ t271 1 t272 _ ?side1 ?side2 A40.out).mono ?_); (case side1 => repeat (first | exact (Kd.R_reads' HO_8.out).2.2 | (with_reducible refine Kd.C_alloc ?_ _) | (with_reducible refine Kd.C_drewN ?_ _) | (with_reducible refine Kd.C_drew ?_))); (case side2 => rw [show t271.length = t259.length from (Kd.R_reads' HO_8.out).1.symm]; exact (Kd.R_reads' HO_8.out).2.1); rintro e w' ⟨rfl, ⟨nd, rfl⟩⟩; refine ⟨_, rfl, ?_⟩))
            (try (rw [drewN_self w66]; generalize hq_ : World.drewN w66 _ = w66; have n0_ : Aside0 (Kd.R (Kd.int .i64) 3 w66 w.heap.size (fun k_ => some k_ ≠ (.slice Ao30 t259.length co30 : Value).ownBlock) (.slice Ao31 t251.length co31) t251) := ⟨by rw [← hq_]; exact (qR HO_6)⟩; have n1_ : Aside0 (Kd.R (Kd.int .i64) 3 w66 w.heap.size (fun k_ => some k_ ≠ (.slice Ao31 t251.length co31 : Value).ownBlock) (.slice Ao30 t259.length co30) t271) := ⟨by rw [← hq_]; exact (qR HO_8)⟩; have n2_ : Aside0 (w66.heap[gb244]? = some (.cells #[.int .i64 a1_0, .int .i64 a1_1] 37 (0, 0))) := ⟨by rw [← hq_]; exact (qK BK244)⟩; have n3_ : Aside0 (Below w.heap.size w w66) := ⟨by rw [← hq_]; exact (by repeat first | (with_reducible first | exact HB.out | apply bA | apply bN | apply bD | refine bS ?_ GE244.out) | exact HB.out)⟩; clear HO_6 HO_8 BK244 HB hq_; have HO_6 := n0_; have HO_8 := n1_; have BK244 := n2_; have HB := n3_; clear n0_ n1_ n2_ n3_))
            have n0_ := Aside0.mk (Kd.R_drew HO_6.out)
            have n1_ := Aside0.mk (Kd.R_drew HO_8.out)
            have n2_ := Aside0.mk (blk_drew BK244.out)
            have n3_ := Aside0.mk (below_drew1 HB.out)
            clear HO_6
            clear HO_8
            clear BK244
            clear HB
            have HO_6 := n0_
            have HO_8 := n1_
            have BK244 := n2_
            have HB := n3_
            clear n0_ n1_ n2_ n3_
            refine start_ (n := 6) (S := fun w' => w'.cell? ⟨gb244, 0, none⟩ = some (.int .i64 a1_0) ∧ w'.cell? ⟨gb244, 1, none⟩ = some (.int .i64 a1_1)) (ds := []) (bR [0, 6]) (by kernel_rfl) rfl rfl ⟨cC BK244 0, cC BK244 1⟩ (fun hHeld => ?_)
            generalize w66.drew = w67 at HO_6 HO_8 BK244 HB hHeld ⊢
            refine pure_ (i := 0) (N := some 60) (v := ?_) (a' := ?_) (bR [1, 5]) rfl rfl (by kernel_rfl) (fun _ _ _ h => h) (Or.inl ⟨by rfl, ?_⟩) ?_ ?_
            rotate_left; (intro w'; go_simp; with_reducible rfl); rotate_left; (simp only [Act.put, sA, sZ, sS, i64_w]; rfl)
            refine take_ (i := 2) (N := some 62) (v := ?_) (a' := ?_) (bR [1, 1, 1, 3]) rfl rfl (by kernel_rfl) (fun _ _ _ h => h) (Or.inl ⟨by rfl, ?_⟩) hHeld ?_ ?_
            rotate_left; (rintro w' ⟨s0, s1⟩; go_simp; with_reducible rfl); rotate_left; (simp only [Act.put, sA, sZ, sS, i64_w]; rfl)
            refine one_ (i := 1) (N := some 61) (bR [3, 3]) rfl rfl (by kernel_rfl) (by decide) (fun K hK => ?_)
            refine goes_ Try.func25 (by kernel_rfl) rfl #[.slice A0 l0.length c0] (by rfl) rfl rfl (by (try simp only [mA, mC, mN]); first | done | rfl | (simp only [lD, lT]; rfl)) ?_
            with_reducible refine (laws_toStopS.calls kj17 _ _ l0 t273 _ ?side1 ?side2 A44.out).mono ?_
            (case side1 => exact qC (Kd.C_below HR0.out HB.out))
            (case side2 => exact HC0.out)
            rintro e w68 ⟨v274, rfl, ho0, hb⟩
            refine ⟨_, rfl, ?_⟩
            have n0_ := Aside0.mk (Kd.R_below (qR HO_6) hb)
            have n1_ := Aside0.mk (Kd.R_below (qR HO_8) hb)
            have n2_ := Aside0.mk (Kd.R_lower ho0 (below_size (by repeat first | (with_reducible first | exact HB.out | apply bA | apply bN | apply bD | refine bS ?_ GE244.out) | exact HB.out)))
            have n3_ := Aside0.mk (blk_below (qK BK244) hb)
            have n4_ := Aside0.mk (below_step (by repeat first | (with_reducible first | exact HB.out | apply bA | apply bN | apply bD | refine bS ?_ GE244.out) | exact HB.out) hb)
            clear HO_6
            clear HO_8
            clear BK244
            clear HB
            have HO_6 := n0_
            have HO_8 := n1_
            have HO275 := n2_
            have BK244 := n3_
            have HB := n4_
            clear n0_ n1_ n2_ n3_ n4_
            (try clear hb)
            (try clear hb2)
            (try clear hk)
            (try clear hi)
            (try clear ho0)
            refine hK.out _ _ ⟨cC BK244 0, cC BK244 1⟩ (fun hHeld => ?_)
            clear hK K
            refine norm_ (a' := ?_) ?_ ?_
            rotate_left
            ·show Act.put _ (some 61) _ = _
             simp only [Act.put, sA, sZ, sS, i64_w]
             rfl
            refine one_ (i := 3) (N := some 63) (bR [4, 2]) rfl rfl (by kernel_rfl) (by decide) (fun K hK => ?_)
            refine goes_ Try.func26 (by kernel_rfl) rfl #[.agg #[.int .i64 a1_0, .int .i64 a1_1]] (by rfl) rfl rfl (by (try simp only [mA, mC, mN]); first | done | rfl | (simp only [lD, lT]; rfl)) ?_
            with_reducible refine (laws_toSpan.calls a1_0 a1_1 t276 t277 _ A45.out).mono ?_
            rintro e w69 ⟨rfl, hb⟩
            refine ⟨_, rfl, ?_⟩
            have n0_ := Aside0.mk (Kd.R_below (qR HO_6) hb)
            have n1_ := Aside0.mk (Kd.R_below (qR HO_8) hb)
            have n2_ := Aside0.mk (Kd.R_below (qR HO275) hb)
            have n3_ := Aside0.mk (blk_below (qK BK244) hb)
            have n4_ := Aside0.mk (below_step (by repeat first | (with_reducible first | exact HB.out | apply bA | apply bN | apply bD | refine bS ?_ GE244.out) | exact HB.out) hb)
            clear HO_6
            clear HO_8
            clear HO275
            clear BK244
            clear HB
            have HO_6 := n0_
            have HO_8 := n1_
            have HO275 := n2_
            have BK244 := n3_
            have HB := n4_
            clear n0_ n1_ n2_ n3_ n4_
            (try clear hb)
            (try clear hb2)
            (try clear hk)
            (try clear hi)
            obtain ⟨Ao70, co70, eo70⟩ := Kd.R_slice HO275.out
            (first | subst eo70 | (injection eo70 with f1_ f2_ f3_; have f4_ := f1_.symm; have f5_ := f3_.symm; clear f1_ f2_ f3_; subst f4_; subst f5_))
            refine hK.out _ _ ⟨cC BK244 0, cC BK244 1⟩ (fun hHeld => ?_)
            clear hK K
            refine norm_ (a' := ?_) ?_ ?_
            rotate_left
            ·show Act.put _ (some 63) _ = _
             simp only [Act.put, sA, sZ, sS, i64_w]
             rfl
            refine one_ (i := 4) (N := some 64) (bR [5, 1]) rfl rfl (by kernel_rfl) (by decide) (fun K hK => ?_)
            refine goes_ Try.func27 (by kernel_rfl) rfl #[.slice Ao70 t273.length co70, .agg #[.int .i64 t276, .int .i64 t277]] (by rfl) rfl rfl (by (try simp only [mA, mC, mN]); first | done | rfl | (simp only [lD, lT]; rfl)) ?_
            with_reducible refine (impl_LeftBetween.calls kj17 _ _ t273 t276 t277 t278 _ ?side1 ?side2 A46.out).mono ?_
            (case side1 => repeat (first | exact (Kd.R_reads' HO275.out).2.2 | (with_reducible refine Kd.C_alloc ?_ _) | (with_reducible refine Kd.C_drewN ?_ _) | (with_reducible refine Kd.C_drew ?_)))
            (case side2 => exact (Kd.R_reads' HO275.out).2.1)
            rintro e w71 ⟨v279, rfl, ho0, hb⟩
            refine ⟨_, rfl, ?_⟩
            have n0_ := Aside0.mk (Kd.R_elder' (qR HO_6) (Kd.R_base ho0) hb)
            have n1_ := Aside0.mk (Kd.R_elder' (qR HO_8) (Kd.R_base ho0) hb)
            have n2_ := Aside0.mk (Kd.R_below (qR HO275) hb)
            have n3_ := Aside0.mk (Kd.R_lower (Kd.R_new' (Kd.R_new' ho0 (Kd.R_lt (qR HO_6))) (Kd.R_lt (qR HO_8))) (below_size (by repeat first | (with_reducible first | exact HB.out | apply bA | apply bN | apply bD | refine bS ?_ GE244.out) | exact HB.out)))
            have n4_ := Aside0.mk (blk_below (qK BK244) hb)
            have n5_ := Aside0.mk (below_step (by repeat first | (with_reducible first | exact HB.out | apply bA | apply bN | apply bD | refine bS ?_ GE244.out) | exact HB.out) hb)
            clear HO_6
            clear HO_8
            clear HO275
            clear BK244
            clear HB
            have HO_6 := n0_
            have HO_8 := n1_
            have HO275 := n2_
            have HO280 := n3_
            have BK244 := n4_
            have HB := n5_
            clear n0_ n1_ n2_ n3_ n4_ n5_
            (try clear hb)
            (try clear hb2)
            (try clear hk)
            (try clear hi)
            (try clear ho0)
            refine hK.out _ _ ⟨cC BK244 0, cC BK244 1⟩ (fun hHeld => ?_)
            clear hK K
            refine norm_ (a' := ?_) ?_ ?_
            rotate_left
            ·show Act.put _ (some 64) _ = _
             simp only [Act.put, sA, sZ, sS, i64_w]
             rfl
            refine pure_ (i := 5) (N := some 12) (v := ?_) (a' := ?_) (bR [6]) rfl rfl (by kernel_rfl) (fun _ _ _ h => h) (Or.inl ⟨by rfl, ?_⟩) ?_ ?_
            rotate_left; (intro w'; go_simp; with_reducible rfl); rotate_left; (simp only [Act.put, sA, sZ, sS, i64_w]; rfl)
            refine done_ (by kernel_rfl) ?_
            obtain ⟨Ao72, co72, eo72⟩ := Kd.R_slice HO280.out
            subst eo72
            try go_wp2_with (first | ((with_reducible refine gate_callee (f := 28) rfl ?_); refine goesL_ (some 67) rfl rfl Try.func28 (by kernel_rfl) rfl #[.slice Ao72 t278.length co72, .slice Ao31 t251.length co31] rfl (by (try simp only [mA, mC, mN]); first | done | rfl | (simp only [lD, lT]; rfl)) ?_; (with_reducible refine (laws_eqIntS.calls kj17 _ _ t278 _ _ t251 true _ ?side1 ?side2 ?side3 ?side4 A47.out).mono ?_); (case side1 => repeat (first | exact (Kd.R_reads' HO280.out).2.2 | (with_reducible refine Kd.C_alloc ?_ _) | (with_reducible refine Kd.C_drewN ?_ _) | (with_reducible refine Kd.C_drew ?_))); (case side2 => exact (Kd.R_reads' HO280.out).2.1); (case side3 => repeat (first | exact (Kd.R_reads' HO_6.out).2.2 | (with_reducible refine Kd.C_alloc ?_ _) | (with_reducible refine Kd.C_drewN ?_ _) | (with_reducible refine Kd.C_drew ?_))); (case side4 => exact (Kd.R_reads' HO_6.out).2.1); rintro e w' ⟨rfl, ⟨nd, rfl⟩⟩; refine ⟨_, rfl, ?_⟩) | ((with_reducible refine gate_callee (f := 32) rfl ?_); refine goesL_ (some 71) rfl rfl Try.func32 (by kernel_rfl) rfl #[.slice Ao30 t271.length co30, .int .i64 1] rfl (by (try simp only [List.map_toArray, List.map_cons, List.map_nil]); first | done | (rw [show t271.length = t259.length from (Kd.R_reads' HO_8.out).1.symm] <;> rfl) | rfl | (simp only [List.length_drop, List.length_take]; rfl)) ?_; (with_reducible refine (laws_heldIntS.calls kj17 _ _ t271 1 t282 _ ?side1 ?side2 A49.out).mono ?_); (case side1 => repeat (first | exact (Kd.R_reads' HO_8.out).2.2 | (with_reducible refine Kd.C_alloc ?_ _) | (with_reducible refine Kd.C_drewN ?_ _) | (with_reducible refine Kd.C_drew ?_))); (case side2 => rw [show t271.length = t259.length from (Kd.R_reads' HO_8.out).1.symm]; exact (Kd.R_reads' HO_8.out).2.1); rintro e w' ⟨rfl, ⟨nd, rfl⟩⟩; refine ⟨_, rfl, ?_⟩))
            go_ret
            exact ⟨by first | rfl | (simp [errW_none, errW_some] <;> rfl) | (simp [*, errW_none, errW_some] <;> rfl), by repeat (first | (with_reducible first | exact HB.out | apply bA | apply bN | apply bD | refine bS ?_ GE244.out) | exact HB.out)⟩
         ·replace c48 := Bool.eq_false_iff.mpr c48
          subst c48
          have H1 : (some false) = some r := by rw [if_neg (show ¬ (false = true) by decide)] at H; exact H
          clear H
          have H := H1
          clear H1
          obtain rfl := Option.some.inj H
          try go_wp2_with (first | ((with_reducible refine gate_callee (f := 31) rfl ?_); refine goesL_ (some 51) rfl rfl Try.func31 (by kernel_rfl) rfl #[.slice Ao30 t259.length co30, .int .i64 1] rfl (by (try simp only [mA, mC, mN]); first | done | rfl | (simp only [lD, lT]; rfl)) ?_; (with_reducible refine (laws_markIntS.calls kj17 (fun k_ => some k_ = (.slice Ao30 t259.length co30 : Value).ownBlock) (.slice Ao30 t259.length co30) t259 1 t270 t271 w _ ?side1 ?side2 A39.out).mono ?_); (case side1 => repeat (first | (with_reducible first | exact HB.out | apply bA | apply bN | apply bD | refine bS ?_ GE244.out) | exact HB.out)); (case side2 => exact Kd.R_tight rfl HO_8.out); rintro e w73 ⟨rfl, hy0, hb, hkp⟩; refine ⟨_, rfl, ?_⟩; have n0_ := Aside0.mk (Kd.R_mono (ok' := fun k_ => some k_ ≠ (.slice Ao30 t259.length co30 : Value).ownBlock) (Kd.R_keptB (HO_6.out) hkp (fun k_ hk_ hs_ => (hk_) hs_)) (fun k_ hk_ => hk_.1)); have n1_ := Aside0.mk (Kd.R_reok rfl hy0 (fun k_ e_ => HO_8.out.1 k_ e_)); have n2_ := Aside0.mk (blk_kept (qK BK244) hkp (fun hs_ => (fun e_ => (Kd.R_ne HO_8.out BK244.out (by decide)) e_) hs_)); have n3_ := Aside0.mk (hb); clear HO_6; clear HO_8; clear BK244; clear HB; have HO_6 := n0_; have HO_8 := n1_; have BK244 := n2_; have HB := n3_; clear n0_ n1_ n2_ n3_; (try clear hb); (try clear hkp); (try clear hy0)) | ((with_reducible refine gate_callee (f := 32) rfl ?_); refine goesL_ (some 54) rfl rfl Try.func32 (by kernel_rfl) rfl #[.slice Ao30 t271.length co30, .int .i64 1] rfl (by (try simp only [List.map_toArray, List.map_cons, List.map_nil]); first | done | (rw [show t271.length = t259.length from (Kd.R_reads' HO_8.out).1.symm] <;> rfl) | rfl | (simp only [List.length_drop, List.length_take]; rfl)) ?_; (with_reducible refine (laws_heldIntS.calls kj17 _ _ t271 1 t272 _ ?side1 ?side2 A40.out).mono ?_); (case side1 => repeat (first | exact (Kd.R_reads' HO_8.out).2.2 | (with_reducible refine Kd.C_alloc ?_ _) | (with_reducible refine Kd.C_drewN ?_ _) | (with_reducible refine Kd.C_drew ?_))); (case side2 => rw [show t271.length = t259.length from (Kd.R_reads' HO_8.out).1.symm]; exact (Kd.R_reads' HO_8.out).2.1); rintro e w' ⟨rfl, ⟨nd, rfl⟩⟩; refine ⟨_, rfl, ?_⟩))
          (try (rw [drewN_self w73]; generalize hq_ : World.drewN w73 _ = w73; have n0_ : Aside0 (Kd.R (Kd.int .i64) 3 w73 w.heap.size (fun k_ => some k_ ≠ (.slice Ao30 t259.length co30 : Value).ownBlock) (.slice Ao31 t251.length co31) t251) := ⟨by rw [← hq_]; exact (qR HO_6)⟩; have n1_ : Aside0 (Kd.R (Kd.int .i64) 3 w73 w.heap.size (fun k_ => some k_ ≠ (.slice Ao31 t251.length co31 : Value).ownBlock) (.slice Ao30 t259.length co30) t271) := ⟨by rw [← hq_]; exact (qR HO_8)⟩; have n2_ : Aside0 (w73.heap[gb244]? = some (.cells #[.int .i64 a1_0, .int .i64 a1_1] 37 (0, 0))) := ⟨by rw [← hq_]; exact (qK BK244)⟩; have n3_ : Aside0 (Below w.heap.size w w73) := ⟨by rw [← hq_]; exact (by repeat first | (with_reducible first | exact HB.out | apply bA | apply bN | apply bD | refine bS ?_ GE244.out) | exact HB.out)⟩; clear HO_6 HO_8 BK244 HB hq_; have HO_6 := n0_; have HO_8 := n1_; have BK244 := n2_; have HB := n3_; clear n0_ n1_ n2_ n3_))
          have n0_ := Aside0.mk (Kd.R_drew HO_6.out)
          have n1_ := Aside0.mk (Kd.R_drew HO_8.out)
          have n2_ := Aside0.mk (blk_drew BK244.out)
          have n3_ := Aside0.mk (below_drew1 HB.out)
          clear HO_6
          clear HO_8
          clear BK244
          clear HB
          have HO_6 := n0_
          have HO_8 := n1_
          have BK244 := n2_
          have HB := n3_
          clear n0_ n1_ n2_ n3_
          refine start_ (n := 6) (S := fun w' => w'.cell? ⟨gb244, 0, none⟩ = some (.int .i64 a1_0) ∧ w'.cell? ⟨gb244, 1, none⟩ = some (.int .i64 a1_1)) (ds := []) (bR [0, 6]) (by kernel_rfl) rfl rfl ⟨cC BK244 0, cC BK244 1⟩ (fun hHeld => ?_)
          generalize w73.drew = w74 at HO_6 HO_8 BK244 HB hHeld ⊢
          refine pure_ (i := 0) (N := some 60) (v := ?_) (a' := ?_) (bR [1, 5]) rfl rfl (by kernel_rfl) (fun _ _ _ h => h) (Or.inl ⟨by rfl, ?_⟩) ?_ ?_
          rotate_left; (intro w'; go_simp; with_reducible rfl); rotate_left; (simp only [Act.put, sA, sZ, sS, i64_w]; rfl)
          refine take_ (i := 2) (N := some 62) (v := ?_) (a' := ?_) (bR [1, 1, 1, 3]) rfl rfl (by kernel_rfl) (fun _ _ _ h => h) (Or.inl ⟨by rfl, ?_⟩) hHeld ?_ ?_
          rotate_left; (rintro w' ⟨s0, s1⟩; go_simp; with_reducible rfl); rotate_left; (simp only [Act.put, sA, sZ, sS, i64_w]; rfl)
          refine one_ (i := 1) (N := some 61) (bR [3, 3]) rfl rfl (by kernel_rfl) (by decide) (fun K hK => ?_)
          refine goes_ Try.func25 (by kernel_rfl) rfl #[.slice A0 l0.length c0] (by rfl) rfl rfl (by (try simp only [mA, mC, mN]); first | done | rfl | (simp only [lD, lT]; rfl)) ?_
          with_reducible refine (laws_toStopS.calls kj17 _ _ l0 t273 _ ?side1 ?side2 A44.out).mono ?_
          (case side1 => exact qC (Kd.C_below HR0.out HB.out))
          (case side2 => exact HC0.out)
          rintro e w75 ⟨v274, rfl, ho0, hb⟩
          refine ⟨_, rfl, ?_⟩
          have n0_ := Aside0.mk (Kd.R_below (qR HO_6) hb)
          have n1_ := Aside0.mk (Kd.R_below (qR HO_8) hb)
          have n2_ := Aside0.mk (Kd.R_lower ho0 (below_size (by repeat first | (with_reducible first | exact HB.out | apply bA | apply bN | apply bD | refine bS ?_ GE244.out) | exact HB.out)))
          have n3_ := Aside0.mk (blk_below (qK BK244) hb)
          have n4_ := Aside0.mk (below_step (by repeat first | (with_reducible first | exact HB.out | apply bA | apply bN | apply bD | refine bS ?_ GE244.out) | exact HB.out) hb)
          clear HO_6
          clear HO_8
          clear BK244
          clear HB
          have HO_6 := n0_
          have HO_8 := n1_
          have HO275 := n2_
          have BK244 := n3_
          have HB := n4_
          clear n0_ n1_ n2_ n3_ n4_
          (try clear hb)
          (try clear hb2)
          (try clear hk)
          (try clear hi)
          (try clear ho0)
          refine hK.out _ _ ⟨cC BK244 0, cC BK244 1⟩ (fun hHeld => ?_)
          clear hK K
          refine norm_ (a' := ?_) ?_ ?_
          rotate_left
          ·show Act.put _ (some 61) _ = _
           simp only [Act.put, sA, sZ, sS, i64_w]
           rfl
          refine one_ (i := 3) (N := some 63) (bR [4, 2]) rfl rfl (by kernel_rfl) (by decide) (fun K hK => ?_)
          refine goes_ Try.func26 (by kernel_rfl) rfl #[.agg #[.int .i64 a1_0, .int .i64 a1_1]] (by rfl) rfl rfl (by (try simp only [mA, mC, mN]); first | done | rfl | (simp only [lD, lT]; rfl)) ?_
          with_reducible refine (laws_toSpan.calls a1_0 a1_1 t276 t277 _ A45.out).mono ?_
          rintro e w76 ⟨rfl, hb⟩
          refine ⟨_, rfl, ?_⟩
          have n0_ := Aside0.mk (Kd.R_below (qR HO_6) hb)
          have n1_ := Aside0.mk (Kd.R_below (qR HO_8) hb)
          have n2_ := Aside0.mk (Kd.R_below (qR HO275) hb)
          have n3_ := Aside0.mk (blk_below (qK BK244) hb)
          have n4_ := Aside0.mk (below_step (by repeat first | (with_reducible first | exact HB.out | apply bA | apply bN | apply bD | refine bS ?_ GE244.out) | exact HB.out) hb)
          clear HO_6
          clear HO_8
          clear HO275
          clear BK244
          clear HB
          have HO_6 := n0_
          have HO_8 := n1_
          have HO275 := n2_
          have BK244 := n3_
          have HB := n4_
          clear n0_ n1_ n2_ n3_ n4_
          (try clear hb)
          (try clear hb2)
          (try clear hk)
          (try clear hi)
          obtain ⟨Ao77, co77, eo77⟩ := Kd.R_slice HO275.out
          (first | subst eo77 | (injection eo77 with f1_ f2_ f3_; have f4_ := f1_.symm; have f5_ := f3_.symm; clear f1_ f2_ f3_; subst f4_; subst f5_))
          refine hK.out _ _ ⟨cC BK244 0, cC BK244 1⟩ (fun hHeld => ?_)
          clear hK K
          refine norm_ (a' := ?_) ?_ ?_
          rotate_left
          ·show Act.put _ (some 63) _ = _
           simp only [Act.put, sA, sZ, sS, i64_w]
           rfl
          refine one_ (i := 4) (N := some 64) (bR [5, 1]) rfl rfl (by kernel_rfl) (by decide) (fun K hK => ?_)
          refine goes_ Try.func27 (by kernel_rfl) rfl #[.slice Ao77 t273.length co77, .agg #[.int .i64 t276, .int .i64 t277]] (by rfl) rfl rfl (by (try simp only [mA, mC, mN]); first | done | rfl | (simp only [lD, lT]; rfl)) ?_
          with_reducible refine (impl_LeftBetween.calls kj17 _ _ t273 t276 t277 t278 _ ?side1 ?side2 A46.out).mono ?_
          (case side1 => repeat (first | exact (Kd.R_reads' HO275.out).2.2 | (with_reducible refine Kd.C_alloc ?_ _) | (with_reducible refine Kd.C_drewN ?_ _) | (with_reducible refine Kd.C_drew ?_)))
          (case side2 => exact (Kd.R_reads' HO275.out).2.1)
          rintro e w78 ⟨v279, rfl, ho0, hb⟩
          refine ⟨_, rfl, ?_⟩
          have n0_ := Aside0.mk (Kd.R_elder' (qR HO_6) (Kd.R_base ho0) hb)
          have n1_ := Aside0.mk (Kd.R_elder' (qR HO_8) (Kd.R_base ho0) hb)
          have n2_ := Aside0.mk (Kd.R_below (qR HO275) hb)
          have n3_ := Aside0.mk (Kd.R_lower (Kd.R_new' (Kd.R_new' ho0 (Kd.R_lt (qR HO_6))) (Kd.R_lt (qR HO_8))) (below_size (by repeat first | (with_reducible first | exact HB.out | apply bA | apply bN | apply bD | refine bS ?_ GE244.out) | exact HB.out)))
          have n4_ := Aside0.mk (blk_below (qK BK244) hb)
          have n5_ := Aside0.mk (below_step (by repeat first | (with_reducible first | exact HB.out | apply bA | apply bN | apply bD | refine bS ?_ GE244.out) | exact HB.out) hb)
          clear HO_6
          clear HO_8
          clear HO275
          clear BK244
          clear HB
          have HO_6 := n0_
          have HO_8 := n1_
          have HO275 := n2_
          have HO280 := n3_
          have BK244 := n4_
          have HB := n5_
          clear n0_ n1_ n2_ n3_ n4_ n5_
          (try clear hb)
          (try clear hb2)
          (try clear hk)
          (try clear hi)
          (try clear ho0)
          refine hK.out _ _ ⟨cC BK244 0, cC BK244 1⟩ (fun hHeld => ?_)
          clear hK K
          refine norm_ (a' := ?_) ?_ ?_
          rotate_left
          ·show Act.put _ (some 64) _ = _
           simp only [Act.put, sA, sZ, sS, i64_w]
           rfl
          refine pure_ (i := 5) (N := some 12) (v := ?_) (a' := ?_) (bR [6]) rfl rfl (by kernel_rfl) (fun _ _ _ h => h) (Or.inl ⟨by rfl, ?_⟩) ?_ ?_
          rotate_left; (intro w'; go_simp; with_reducible rfl); rotate_left; (simp only [Act.put, sA, sZ, sS, i64_w]; rfl)
          refine done_ (by kernel_rfl) ?_
          obtain ⟨Ao79, co79, eo79⟩ := Kd.R_slice HO280.out
          subst eo79
          try go_wp2_with (first | ((with_reducible refine gate_callee (f := 28) rfl ?_); refine goesL_ (some 67) rfl rfl Try.func28 (by kernel_rfl) rfl #[.slice Ao79 t278.length co79, .slice Ao31 t251.length co31] rfl (by (try simp only [mA, mC, mN]); first | done | rfl | (simp only [lD, lT]; rfl)) ?_; (with_reducible refine (laws_eqIntS.calls kj17 _ _ t278 _ _ t251 false _ ?side1 ?side2 ?side3 ?side4 A47.out).mono ?_); (case side1 => repeat (first | exact (Kd.R_reads' HO280.out).2.2 | (with_reducible refine Kd.C_alloc ?_ _) | (with_reducible refine Kd.C_drewN ?_ _) | (with_reducible refine Kd.C_drew ?_))); (case side2 => exact (Kd.R_reads' HO280.out).2.1); (case side3 => repeat (first | exact (Kd.R_reads' HO_6.out).2.2 | (with_reducible refine Kd.C_alloc ?_ _) | (with_reducible refine Kd.C_drewN ?_ _) | (with_reducible refine Kd.C_drew ?_))); (case side4 => exact (Kd.R_reads' HO_6.out).2.1); rintro e w' ⟨rfl, ⟨nd, rfl⟩⟩; refine ⟨_, rfl, ?_⟩))
          go_ret
          exact ⟨by first | rfl | (simp [errW_none, errW_some] <;> rfl) | (simp [*, errW_none, errW_some] <;> rfl), by repeat (first | (with_reducible first | exact HB.out | apply bA | apply bN | apply bD | refine bS ?_ GE244.out) | exact HB.out)⟩
        ·rw [if_neg c43] at H
         have c43b0 : (t272 == t270) = false := beq_eq_false_iff_ne.mpr c43
         have c43b1 : (t272 != t270) = true := bne_iff_ne.mpr c43
         obtain rfl := Option.some.inj H
         go_wp2_with (first | ((with_reducible refine gate_callee (f := 31) rfl ?_); refine goesL_ (some 51) rfl rfl Try.func31 (by kernel_rfl) rfl #[.slice Ao30 t259.length co30, .int .i64 1] rfl (by (try simp only [mA, mC, mN]); first | done | rfl | (simp only [lD, lT]; rfl)) ?_; (with_reducible refine (laws_markIntS.calls kj17 (fun k_ => some k_ = (.slice Ao30 t259.length co30 : Value).ownBlock) (.slice Ao30 t259.length co30) t259 1 t270 t271 w _ ?side1 ?side2 A39.out).mono ?_); (case side1 => repeat (first | (with_reducible first | exact HB.out | apply bA | apply bN | apply bD | refine bS ?_ GE244.out) | exact HB.out)); (case side2 => exact Kd.R_tight rfl HO_8.out); rintro e w80 ⟨rfl, hy0, hb, hkp⟩; refine ⟨_, rfl, ?_⟩; have n0_ := Aside0.mk (Kd.R_mono (ok' := fun k_ => some k_ ≠ (.slice Ao30 t259.length co30 : Value).ownBlock) (Kd.R_keptB (HO_6.out) hkp (fun k_ hk_ hs_ => (hk_) hs_)) (fun k_ hk_ => hk_.1)); have n1_ := Aside0.mk (Kd.R_reok rfl hy0 (fun k_ e_ => HO_8.out.1 k_ e_)); have n2_ := Aside0.mk (blk_kept (qK BK244) hkp (fun hs_ => (fun e_ => (Kd.R_ne HO_8.out BK244.out (by decide)) e_) hs_)); have n3_ := Aside0.mk (hb); clear HO_6; clear HO_8; clear BK244; clear HB; have HO_6 := n0_; have HO_8 := n1_; have BK244 := n2_; have HB := n3_; clear n0_ n1_ n2_ n3_; (try clear hb); (try clear hkp); (try clear hy0)) | ((with_reducible refine gate_callee (f := 32) rfl ?_); refine goesL_ (some 54) rfl rfl Try.func32 (by kernel_rfl) rfl #[.slice Ao30 t271.length co30, .int .i64 1] rfl (by (try simp only [List.map_toArray, List.map_cons, List.map_nil]); first | done | (rw [show t271.length = t259.length from (Kd.R_reads' HO_8.out).1.symm] <;> rfl) | rfl | (simp only [List.length_drop, List.length_take]; rfl)) ?_; (with_reducible refine (laws_heldIntS.calls kj17 _ _ t271 1 t272 _ ?side1 ?side2 A40.out).mono ?_); (case side1 => repeat (first | exact (Kd.R_reads' HO_8.out).2.2 | (with_reducible refine Kd.C_alloc ?_ _) | (with_reducible refine Kd.C_drewN ?_ _) | (with_reducible refine Kd.C_drew ?_))); (case side2 => rw [show t271.length = t259.length from (Kd.R_reads' HO_8.out).1.symm]; exact (Kd.R_reads' HO_8.out).2.1); rintro e w' ⟨rfl, ⟨nd, rfl⟩⟩; refine ⟨_, rfl, ?_⟩))
         go_ret
         exact ⟨by first | rfl | (simp [errW_none, errW_some] <;> rfl) | (simp [*, errW_none, errW_some] <;> rfl), by repeat (first | (with_reducible first | exact HB.out | apply bA | apply bN | apply bD | refine bS ?_ GE244.out) | exact HB.out)⟩
   ·replace c16 := Bool.eq_false_iff.mpr c16
    subst c16
    have H1 : (some false) = some r := by rw [if_neg (show ¬ (false = true) by decide)] at H; exact H
    clear H
    have H := H1
    clear H1
    obtain rfl := Option.some.inj H
    go_enter Try.func4, Try.ntmps4
    try go_wp2_with (first | ((with_reducible refine gate_dst (N := 3) rfl ?_); refine box_event ?hg (N := 3) ?hd (cs := #[.int .i64 a1_0, .int .i64 a1_1]) (t := 37) ?hr ?_; (case hd => rfl); (case hg => rfl); (case hr => first | (go_simp; done) | (go_simp; rfl)); intro gb244 hg w81 hbox hb; have n0_ := Aside0.mk (below_step (qB HB) hb); have n1_ := Aside0.mk (hbox); have n2_ := Aside0.mk ((by rw [hg]; exact (below_size (qB HB)) : w.heap.size ≤ gb244)); have n3_ := Aside0.mk ((by rw [hg]; exact (below_size (qB HB)) : w.heap.size ≤ gb244)); clear HB; have HB := n0_; have BK244 := n1_; have GW244 := n2_; have GE244 := n3_; clear n0_ n1_ n2_ n3_; clear hb hbox hg) | ((with_reducible refine gate_callee (f := 23) rfl ?_); refine goesL_ (some 15) rfl rfl Try.func23 (by kernel_rfl) rfl #[.slice A0 l0.length c0, .int .i64 1048576] rfl (by (try simp only [mA, mC, mN]); first | done | rfl | (simp only [lD, lT]; rfl)) ?_; (with_reducible refine (laws_szStopS.calls _ _ l0 1048576 t245 _ ?side1 ?side2 A3.out).mono ?_); (case side1 => exact qC (Kd.C_below HR0.out HB.out)); (case side2 => exact HC0.out); rintro e w' ⟨rfl, ⟨nd, rfl⟩⟩; refine ⟨_, rfl, ?_⟩))
    (try (rw [drewN_self w81]; generalize hq_ : World.drewN w81 _ = w81; have n0_ : Aside0 (w81.heap[gb244]? = some (.cells #[.int .i64 a1_0, .int .i64 a1_1] 37 (0, 0))) := ⟨by rw [← hq_]; exact (qK BK244)⟩; have n1_ : Aside0 (Below w.heap.size w w81) := ⟨by rw [← hq_]; exact (by repeat first | (with_reducible first | exact HB.out | apply bA | apply bN | apply bD | refine bS ?_ GE244.out) | exact HB.out)⟩; clear BK244 HB hq_; have BK244 := n0_; have HB := n1_; clear n0_ n1_))
    have n0_ := Aside0.mk (blk_drew BK244.out)
    have n1_ := Aside0.mk (below_drew1 HB.out)
    clear BK244
    clear HB
    have BK244 := n0_
    have HB := n1_
    clear n0_ n1_
    refine start_ (n := 6) (S := fun w' => w'.cell? ⟨gb244, 0, none⟩ = some (.int .i64 a1_0) ∧ w'.cell? ⟨gb244, 1, none⟩ = some (.int .i64 a1_1)) (ds := []) (bR [0, 6]) (by kernel_rfl) rfl rfl ⟨cC BK244 0, cC BK244 1⟩ (fun hHeld => ?_)
    generalize w81.drew = w82 at BK244 HB hHeld ⊢
    refine pure_ (i := 0) (N := some 18) (v := ?_) (a' := ?_) (bR [1, 5]) rfl rfl (by kernel_rfl) (fun _ _ _ h => h) (Or.inl ⟨by rfl, ?_⟩) ?_ ?_
    rotate_left; (intro w'; go_simp; with_reducible rfl); rotate_left; (simp only [Act.put, sA, sZ, sS, i64_w]; rfl)
    refine take_ (i := 2) (N := some 20) (v := ?_) (a' := ?_) (bR [1, 1, 1, 3]) rfl rfl (by kernel_rfl) (fun _ _ _ h => h) (Or.inl ⟨by rfl, ?_⟩) hHeld ?_ ?_
    rotate_left; (rintro w' ⟨s0, s1⟩; go_simp; with_reducible rfl); rotate_left; (simp only [Act.put, sA, sZ, sS, i64_w]; rfl)
    refine one_ (i := 1) (N := some 19) (bR [3, 3]) rfl rfl (by kernel_rfl) (by decide) (fun K hK => ?_)
    refine goes_ Try.func25 (by kernel_rfl) rfl #[.slice A0 l0.length c0] (by rfl) rfl rfl (by (try simp only [mA, mC, mN]); first | done | rfl | (simp only [lD, lT]; rfl)) ?_
    with_reducible refine (laws_toStopS.calls k _ _ l0 t246 _ ?side1 ?side2 A6.out).mono ?_
    (case side1 => exact qC (Kd.C_below HR0.out HB.out))
    (case side2 => exact HC0.out)
    rintro e w83 ⟨v247, rfl, ho0, hb⟩
    refine ⟨_, rfl, ?_⟩
    have n0_ := Aside0.mk (Kd.R_lower ho0 (below_size (by repeat first | (with_reducible first | exact HB.out | apply bA | apply bN | apply bD | refine bS ?_ GE244.out) | exact HB.out)))
    have n1_ := Aside0.mk (blk_below (qK BK244) hb)
    have n2_ := Aside0.mk (below_step (by repeat first | (with_reducible first | exact HB.out | apply bA | apply bN | apply bD | refine bS ?_ GE244.out) | exact HB.out) hb)
    clear BK244
    clear HB
    have HO248 := n0_
    have BK244 := n1_
    have HB := n2_
    clear n0_ n1_ n2_
    (try clear hb)
    (try clear hb2)
    (try clear hk)
    (try clear hi)
    (try clear ho0)
    refine hK.out _ _ ⟨cC BK244 0, cC BK244 1⟩ (fun hHeld => ?_)
    clear hK K
    refine norm_ (a' := ?_) ?_ ?_
    rotate_left
    ·show Act.put _ (some 19) _ = _
     simp only [Act.put, sA, sZ, sS, i64_w]
     rfl
    refine one_ (i := 3) (N := some 21) (bR [4, 2]) rfl rfl (by kernel_rfl) (by decide) (fun K hK => ?_)
    refine goes_ Try.func26 (by kernel_rfl) rfl #[.agg #[.int .i64 a1_0, .int .i64 a1_1]] (by rfl) rfl rfl (by (try simp only [mA, mC, mN]); first | done | rfl | (simp only [lD, lT]; rfl)) ?_
    with_reducible refine (laws_toSpan.calls a1_0 a1_1 t249 t250 _ A7.out).mono ?_
    rintro e w84 ⟨rfl, hb⟩
    refine ⟨_, rfl, ?_⟩
    have n0_ := Aside0.mk (Kd.R_below (qR HO248) hb)
    have n1_ := Aside0.mk (blk_below (qK BK244) hb)
    have n2_ := Aside0.mk (below_step (by repeat first | (with_reducible first | exact HB.out | apply bA | apply bN | apply bD | refine bS ?_ GE244.out) | exact HB.out) hb)
    clear HO248
    clear BK244
    clear HB
    have HO248 := n0_
    have BK244 := n1_
    have HB := n2_
    clear n0_ n1_ n2_
    (try clear hb)
    (try clear hb2)
    (try clear hk)
    (try clear hi)
    obtain ⟨Ao85, co85, eo85⟩ := Kd.R_slice HO248.out
    (first | subst eo85 | (injection eo85 with f1_ f2_ f3_; have f4_ := f1_.symm; have f5_ := f3_.symm; clear f1_ f2_ f3_; subst f4_; subst f5_))
    refine hK.out _ _ ⟨cC BK244 0, cC BK244 1⟩ (fun hHeld => ?_)
    clear hK K
    refine norm_ (a' := ?_) ?_ ?_
    rotate_left
    ·show Act.put _ (some 21) _ = _
     simp only [Act.put, sA, sZ, sS, i64_w]
     rfl
    refine one_ (i := 4) (N := some 22) (bR [5, 1]) rfl rfl (by kernel_rfl) (by decide) (fun K hK => ?_)
    refine goes_ Try.func24 (by kernel_rfl) rfl #[.slice Ao85 t246.length co85, .agg #[.int .i64 t249, .int .i64 t250]] (by rfl) rfl rfl (by (try simp only [mA, mC, mN]); first | done | rfl | (simp only [lD, lT]; rfl)) ?_
    with_reducible refine (spec_LeftBetween.calls k _ _ t246 t249 t250 t251 _ ?side1 ?side2 A8.out).mono ?_
    (case side1 => repeat (first | exact (Kd.R_reads' HO248.out).2.2 | (with_reducible refine Kd.C_alloc ?_ _) | (with_reducible refine Kd.C_drewN ?_ _) | (with_reducible refine Kd.C_drew ?_)))
    (case side2 => exact (Kd.R_reads' HO248.out).2.1)
    rintro e w86 ⟨v252, rfl, ho0, hb⟩
    refine ⟨_, rfl, ?_⟩
    have n0_ := Aside0.mk (Kd.R_below (qR HO248) hb)
    have n1_ := Aside0.mk (Kd.R_lower ho0 (below_size (by repeat first | (with_reducible first | exact HB.out | apply bA | apply bN | apply bD | refine bS ?_ GE244.out) | exact HB.out)))
    have n2_ := Aside0.mk (blk_below (qK BK244) hb)
    have n3_ := Aside0.mk (below_step (by repeat first | (with_reducible first | exact HB.out | apply bA | apply bN | apply bD | refine bS ?_ GE244.out) | exact HB.out) hb)
    clear HO248
    clear BK244
    clear HB
    have HO248 := n0_
    have HO253 := n1_
    have BK244 := n2_
    have HB := n3_
    clear n0_ n1_ n2_ n3_
    (try clear hb)
    (try clear hb2)
    (try clear hk)
    (try clear hi)
    (try clear ho0)
    refine hK.out _ _ ⟨cC BK244 0, cC BK244 1⟩ (fun hHeld => ?_)
    clear hK K
    refine norm_ (a' := ?_) ?_ ?_
    rotate_left
    ·show Act.put _ (some 22) _ = _
     simp only [Act.put, sA, sZ, sS, i64_w]
     rfl
    refine pure_ (i := 5) (N := some 6) (v := ?_) (a' := ?_) (bR [6]) rfl rfl (by kernel_rfl) (fun _ _ _ h => h) (Or.inl ⟨by rfl, ?_⟩) ?_ ?_
    rotate_left; (intro w'; go_simp; with_reducible rfl); rotate_left; (simp only [Act.put, sA, sZ, sS, i64_w]; rfl)
    refine done_ (by kernel_rfl) ?_
    try go_wp2_with (first | ((with_reducible refine gate_callee (f := 25) rfl ?_); refine goesL_ (some 24) rfl rfl Try.func25 (by kernel_rfl) rfl #[.slice A0 l0.length c0] rfl (by (try simp only [mA, mC, mN]); first | done | rfl | (simp only [lD, lT]; rfl)) ?_; (with_reducible refine (laws_toStopS.calls k _ _ l0 t254 _ ?side1 ?side2 A9.out).mono ?_); (case side1 => exact qC (Kd.C_below HR0.out HB.out)); (case side2 => exact HC0.out); rintro e w87 ⟨v255, rfl, ho0, hb⟩; refine ⟨_, rfl, ?_⟩; have n0_ := Aside0.mk (Kd.R_elder' (qR HO248) (Kd.R_base ho0) hb); have n1_ := Aside0.mk (Kd.R_below (qR HO253) hb); have n2_ := Aside0.mk (Kd.R_lower (Kd.R_new' ho0 (Kd.R_lt (qR HO248))) (below_size (by repeat first | (with_reducible first | exact HB.out | apply bA | apply bN | apply bD | refine bS ?_ GE244.out) | exact HB.out))); have n3_ := Aside0.mk (blk_below (qK BK244) hb); have n4_ := Aside0.mk (below_step (by repeat first | (with_reducible first | exact HB.out | apply bA | apply bN | apply bD | refine bS ?_ GE244.out) | exact HB.out) hb); clear HO248; clear HO253; clear BK244; clear HB; have HO248 := n0_; have HO253 := n1_; have HO256 := n2_; have BK244 := n3_; have HB := n4_; clear n0_ n1_ n2_ n3_ n4_; (try clear hb); (try clear hb2); (try clear hk); (try clear hi); (try clear ho0); have hcz88_0 : w87.cell? ⟨gb244, 0, none⟩ = some (.int .i64 a1_0) := cC BK244 0; have hcz88_1 : w87.cell? ⟨gb244, 1, none⟩ = some (.int .i64 a1_1) := cC BK244 1; have hfz88_0 := blk_frozen BK244.out 0; have hfz88_1 := blk_frozen BK244.out 1) | ((with_reducible refine gate_callee (f := 26) rfl ?_); refine goesL_ (some 27) rfl rfl Try.func26 (by kernel_rfl) rfl #[.agg #[.int .i64 a1_0, .int .i64 a1_1]] rfl (by (try simp only [mA, mC, mN]); first | done | rfl | (simp only [lD, lT]; rfl)) ?_; (with_reducible refine (laws_toSpan.calls a1_0 a1_1 t257 t258 _ A10.out).mono ?_); rintro e w89 ⟨rfl, hb⟩; refine ⟨_, rfl, ?_⟩; have n0_ := Aside0.mk (Kd.R_below (qR HO248) hb); have n1_ := Aside0.mk (Kd.R_below (qR HO253) hb); have n2_ := Aside0.mk (Kd.R_below (qR HO256) hb); have n3_ := Aside0.mk (blk_below (qK BK244) hb); have n4_ := Aside0.mk (below_step (by repeat first | (with_reducible first | exact HB.out | apply bA | apply bN | apply bD | refine bS ?_ GE244.out) | exact HB.out) hb); clear HO248; clear HO253; clear HO256; clear BK244; clear HB; have HO248 := n0_; have HO253 := n1_; have HO256 := n2_; have BK244 := n3_; have HB := n4_; clear n0_ n1_ n2_ n3_ n4_; (try clear hb); (try clear hb2); (try clear hk); (try clear hi); obtain ⟨Ao90, co90, eo90⟩ := Kd.R_slice HO256.out; subst eo90) | ((with_reducible refine gate_callee (f := 27) rfl ?_); refine goesL_ (some 28) rfl rfl Try.func27 (by kernel_rfl) rfl #[.slice Ao90 t254.length co90, .agg #[.int .i64 t257, .int .i64 t258]] rfl (by (try simp only [mA, mC, mN]); first | done | rfl | (simp only [lD, lT]; rfl)) ?_; (with_reducible refine (impl_LeftBetween.calls k _ _ t254 t257 t258 t259 _ ?side1 ?side2 A11.out).mono ?_); (case side1 => repeat (first | exact (Kd.R_reads' HO256.out).2.2 | (with_reducible refine Kd.C_alloc ?_ _) | (with_reducible refine Kd.C_drewN ?_ _) | (with_reducible refine Kd.C_drew ?_))); (case side2 => exact (Kd.R_reads' HO256.out).2.1); rintro e w91 ⟨v260, rfl, ho0, hb⟩; refine ⟨_, rfl, ?_⟩; have n0_ := Aside0.mk (Kd.R_below (qR HO248) hb); have n1_ := Aside0.mk (Kd.R_elder' (qR HO253) (Kd.R_base ho0) hb); have n2_ := Aside0.mk (Kd.R_below (qR HO256) hb); have n3_ := Aside0.mk (Kd.R_lower (Kd.R_new' ho0 (Kd.R_lt (qR HO253))) (below_size (by repeat first | (with_reducible first | exact HB.out | apply bA | apply bN | apply bD | refine bS ?_ GE244.out) | exact HB.out))); have n4_ := Aside0.mk (blk_below (qK BK244) hb); have n5_ := Aside0.mk (below_step (by repeat first | (with_reducible first | exact HB.out | apply bA | apply bN | apply bD | refine bS ?_ GE244.out) | exact HB.out) hb); clear HO248; clear HO253; clear HO256; clear BK244; clear HB; have HO248 := n0_; have HO253 := n1_; have HO256 := n2_; have HO261 := n3_; have BK244 := n4_; have HB := n5_; clear n0_ n1_ n2_ n3_ n4_ n5_; (try clear hb); (try clear hb2); (try clear hk); (try clear hi); (try clear ho0); obtain ⟨Ao92, co92, eo92⟩ := Kd.R_slice HO261.out; subst eo92; obtain ⟨Ao93, co93, eo93⟩ := Kd.R_slice HO253.out; subst eo93) | ((with_reducible refine gate_callee (f := 28) rfl ?_); refine goesL_ (some 31) rfl rfl Try.func28 (by kernel_rfl) rfl #[.slice Ao92 t259.length co92, .slice Ao93 t251.length co93] rfl (by (try simp only [mA, mC, mN]); first | done | rfl | (simp only [lD, lT]; rfl)) ?_; (with_reducible refine (laws_eqIntS.calls k _ _ t259 _ _ t251 true _ ?side1 ?side2 ?side3 ?side4 A12.out).mono ?_); (case side1 => repeat (first | exact (Kd.R_reads' HO261.out).2.2 | (with_reducible refine Kd.C_alloc ?_ _) | (with_reducible refine Kd.C_drewN ?_ _) | (with_reducible refine Kd.C_drew ?_))); (case side2 => exact (Kd.R_reads' HO261.out).2.1); (case side3 => repeat (first | exact (Kd.R_reads' HO253.out).2.2 | (with_reducible refine Kd.C_alloc ?_ _) | (with_reducible refine Kd.C_drewN ?_ _) | (with_reducible refine Kd.C_drew ?_))); (case side4 => exact (Kd.R_reads' HO253.out).2.1); rintro e w' ⟨rfl, ⟨nd, rfl⟩⟩; refine ⟨_, rfl, ?_⟩) | ((with_reducible refine gate_callee (f := 25) rfl ?_); refine goesL_ (some 35) rfl rfl Try.func25 (by kernel_rfl) rfl #[.slice A0 l0.length c0] rfl (by (try simp only [mA, mC, mN]); first | done | rfl | (simp only [lD, lT]; rfl)) ?_; (with_reducible refine (laws_toStopS.calls k _ _ l0 t263 _ ?side1 ?side2 A14.out).mono ?_); (case side1 => repeat (first | exact (Kd.C_below HR0.out (by repeat first | (with_reducible first | exact HB.out | apply bA | apply bN | apply bD | refine bS ?_ GE244.out) | exact HB.out)) | (with_reducible refine Kd.C_alloc ?_ _) | (with_reducible refine Kd.C_drewN ?_ _) | (with_reducible refine Kd.C_drew ?_))); (case side2 => exact HC0.out); rintro e w94 ⟨v264, rfl, ho0, hb⟩; refine ⟨_, rfl, ?_⟩; have n0_ := Aside0.mk (Kd.R_elder' (qR HO248) (Kd.R_base ho0) hb); have n1_ := Aside0.mk (Kd.R_below (qR HO253) hb); have n2_ := Aside0.mk (Kd.R_elder' (qR HO256) (Kd.R_base ho0) hb); have n3_ := Aside0.mk (Kd.R_below (qR HO261) hb); have n4_ := Aside0.mk (Kd.R_lower (Kd.R_new' (Kd.R_new' ho0 (Kd.R_lt (qR HO248))) (Kd.R_lt (qR HO256))) (below_size (by repeat first | (with_reducible first | exact HB.out | apply bA | apply bN | apply bD | refine bS ?_ GE244.out) | exact HB.out))); have n5_ := Aside0.mk (blk_below (qK BK244) hb); have n6_ := Aside0.mk (below_step (by repeat first | (with_reducible first | exact HB.out | apply bA | apply bN | apply bD | refine bS ?_ GE244.out) | exact HB.out) hb); clear HO248; clear HO253; clear HO256; clear HO261; clear BK244; clear HB; have HO248 := n0_; have HO253 := n1_; have HO256 := n2_; have HO261 := n3_; have HO265 := n4_; have BK244 := n5_; have HB := n6_; clear n0_ n1_ n2_ n3_ n4_ n5_ n6_; (try clear hb); (try clear hb2); (try clear hk); (try clear hi); (try clear ho0); obtain ⟨Ao95, co95, eo95⟩ := Kd.R_slice HO265.out; subst eo95) | ((with_reducible refine gate_callee (f := 29) rfl ?_); refine goesL_ (some 36) rfl rfl Try.func29 (by kernel_rfl) rfl #[.slice Ao90 t254.length co90, .slice Ao95 t263.length co95] rfl (by (try simp only [mA, mC, mN]); first | done | rfl | (simp only [lD, lT]; rfl)) ?_; (with_reducible refine (laws_eqStopS.calls k _ _ t254 _ _ t263 false _ ?side1 ?side2 ?side3 ?side4 A15.out).mono ?_); (case side1 => repeat (first | exact (Kd.R_reads' HO256.out).2.2 | (with_reducible refine Kd.C_alloc ?_ _) | (with_reducible refine Kd.C_drewN ?_ _) | (with_reducible refine Kd.C_drew ?_))); (case side2 => exact (Kd.R_reads' HO256.out).2.1); (case side3 => repeat (first | exact (Kd.R_reads' HO265.out).2.2 | (with_reducible refine Kd.C_alloc ?_ _) | (with_reducible refine Kd.C_drewN ?_ _) | (with_reducible refine Kd.C_drew ?_))); (case side4 => exact (Kd.R_reads' HO265.out).2.1); rintro e w96 ⟨rfl, hb⟩; refine ⟨_, rfl, ?_⟩; have n0_ := Aside0.mk (Kd.R_below (qR HO248) hb); have n1_ := Aside0.mk (Kd.R_below (qR HO253) hb); have n2_ := Aside0.mk (Kd.R_below (qR HO256) hb); have n3_ := Aside0.mk (Kd.R_below (qR HO261) hb); have n4_ := Aside0.mk (Kd.R_below (qR HO265) hb); have n5_ := Aside0.mk (blk_below (qK BK244) hb); have n6_ := Aside0.mk (below_step (by repeat first | (with_reducible first | exact HB.out | apply bA | apply bN | apply bD | refine bS ?_ GE244.out) | exact HB.out) hb); clear HO248; clear HO253; clear HO256; clear HO261; clear HO265; clear BK244; clear HB; have HO248 := n0_; have HO253 := n1_; have HO256 := n2_; have HO261 := n3_; have HO265 := n4_; have BK244 := n5_; have HB := n6_; clear n0_ n1_ n2_ n3_ n4_ n5_ n6_; (try clear hb); (try clear hb2); (try clear hk); (try clear hi)))
    go_ret
    exact ⟨by first | rfl | (simp [errW_none, errW_some] <;> rfl) | (simp [*, errW_none, errW_some] <;> rfl), by repeat (first | (with_reducible first | exact HB.out | apply bA | apply bN | apply bD | refine bS ?_ GE244.out) | exact HB.out)⟩
  ·replace c13 := Bool.eq_false_iff.mpr c13
   subst c13
   have H1 : (some false) = some r := by rw [if_neg (show ¬ (false = true) by decide)] at H; exact H
   clear H
   have H := H1
   clear H1
   obtain rfl := Option.some.inj H
   go_enter Try.func4, Try.ntmps4
   try go_wp2_with (first | ((with_reducible refine gate_dst (N := 3) rfl ?_); refine box_event ?hg (N := 3) ?hd (cs := #[.int .i64 a1_0, .int .i64 a1_1]) (t := 37) ?hr ?_; (case hd => rfl); (case hg => rfl); (case hr => first | (go_simp; done) | (go_simp; rfl)); intro gb244 hg w97 hbox hb; have n0_ := Aside0.mk (below_step (qB HB) hb); have n1_ := Aside0.mk (hbox); have n2_ := Aside0.mk ((by rw [hg]; exact (below_size (qB HB)) : w.heap.size ≤ gb244)); have n3_ := Aside0.mk ((by rw [hg]; exact (below_size (qB HB)) : w.heap.size ≤ gb244)); clear HB; have HB := n0_; have BK244 := n1_; have GW244 := n2_; have GE244 := n3_; clear n0_ n1_ n2_ n3_; clear hb hbox hg) | ((with_reducible refine gate_callee (f := 23) rfl ?_); refine goesL_ (some 15) rfl rfl Try.func23 (by kernel_rfl) rfl #[.slice A0 l0.length c0, .int .i64 1048576] rfl (by (try simp only [mA, mC, mN]); first | done | rfl | (simp only [lD, lT]; rfl)) ?_; (with_reducible refine (laws_szStopS.calls _ _ l0 1048576 t245 _ ?side1 ?side2 A3.out).mono ?_); (case side1 => exact qC (Kd.C_below HR0.out HB.out)); (case side2 => exact HC0.out); rintro e w' ⟨rfl, ⟨nd, rfl⟩⟩; refine ⟨_, rfl, ?_⟩))
   (try (rw [drewN_self w97]; generalize hq_ : World.drewN w97 _ = w97; have n0_ : Aside0 (w97.heap[gb244]? = some (.cells #[.int .i64 a1_0, .int .i64 a1_1] 37 (0, 0))) := ⟨by rw [← hq_]; exact (qK BK244)⟩; have n1_ : Aside0 (Below w.heap.size w w97) := ⟨by rw [← hq_]; exact (by repeat first | (with_reducible first | exact HB.out | apply bA | apply bN | apply bD | refine bS ?_ GE244.out) | exact HB.out)⟩; clear BK244 HB hq_; have BK244 := n0_; have HB := n1_; clear n0_ n1_))
   have n0_ := Aside0.mk (blk_drew BK244.out)
   have n1_ := Aside0.mk (below_drew1 HB.out)
   clear BK244
   clear HB
   have BK244 := n0_
   have HB := n1_
   clear n0_ n1_
   refine start_ (n := 6) (S := fun w' => w'.cell? ⟨gb244, 0, none⟩ = some (.int .i64 a1_0) ∧ w'.cell? ⟨gb244, 1, none⟩ = some (.int .i64 a1_1)) (ds := []) (bR [0, 6]) (by kernel_rfl) rfl rfl ⟨cC BK244 0, cC BK244 1⟩ (fun hHeld => ?_)
   generalize w97.drew = w98 at BK244 HB hHeld ⊢
   refine pure_ (i := 0) (N := some 18) (v := ?_) (a' := ?_) (bR [1, 5]) rfl rfl (by kernel_rfl) (fun _ _ _ h => h) (Or.inl ⟨by rfl, ?_⟩) ?_ ?_
   rotate_left; (intro w'; go_simp; with_reducible rfl); rotate_left; (simp only [Act.put, sA, sZ, sS, i64_w]; rfl)
   refine take_ (i := 2) (N := some 20) (v := ?_) (a' := ?_) (bR [1, 1, 1, 3]) rfl rfl (by kernel_rfl) (fun _ _ _ h => h) (Or.inl ⟨by rfl, ?_⟩) hHeld ?_ ?_
   rotate_left; (rintro w' ⟨s0, s1⟩; go_simp; with_reducible rfl); rotate_left; (simp only [Act.put, sA, sZ, sS, i64_w]; rfl)
   refine one_ (i := 1) (N := some 19) (bR [3, 3]) rfl rfl (by kernel_rfl) (by decide) (fun K hK => ?_)
   refine goes_ Try.func25 (by kernel_rfl) rfl #[.slice A0 l0.length c0] (by rfl) rfl rfl (by (try simp only [mA, mC, mN]); first | done | rfl | (simp only [lD, lT]; rfl)) ?_
   with_reducible refine (laws_toStopS.calls k _ _ l0 t246 _ ?side1 ?side2 A6.out).mono ?_
   (case side1 => exact qC (Kd.C_below HR0.out HB.out))
   (case side2 => exact HC0.out)
   rintro e w99 ⟨v247, rfl, ho0, hb⟩
   refine ⟨_, rfl, ?_⟩
   have n0_ := Aside0.mk (Kd.R_lower ho0 (below_size (by repeat first | (with_reducible first | exact HB.out | apply bA | apply bN | apply bD | refine bS ?_ GE244.out) | exact HB.out)))
   have n1_ := Aside0.mk (blk_below (qK BK244) hb)
   have n2_ := Aside0.mk (below_step (by repeat first | (with_reducible first | exact HB.out | apply bA | apply bN | apply bD | refine bS ?_ GE244.out) | exact HB.out) hb)
   clear BK244
   clear HB
   have HO248 := n0_
   have BK244 := n1_
   have HB := n2_
   clear n0_ n1_ n2_
   (try clear hb)
   (try clear hb2)
   (try clear hk)
   (try clear hi)
   (try clear ho0)
   refine hK.out _ _ ⟨cC BK244 0, cC BK244 1⟩ (fun hHeld => ?_)
   clear hK K
   refine norm_ (a' := ?_) ?_ ?_
   rotate_left
   ·show Act.put _ (some 19) _ = _
    simp only [Act.put, sA, sZ, sS, i64_w]
    rfl
   refine one_ (i := 3) (N := some 21) (bR [4, 2]) rfl rfl (by kernel_rfl) (by decide) (fun K hK => ?_)
   refine goes_ Try.func26 (by kernel_rfl) rfl #[.agg #[.int .i64 a1_0, .int .i64 a1_1]] (by rfl) rfl rfl (by (try simp only [mA, mC, mN]); first | done | rfl | (simp only [lD, lT]; rfl)) ?_
   with_reducible refine (laws_toSpan.calls a1_0 a1_1 t249 t250 _ A7.out).mono ?_
   rintro e w100 ⟨rfl, hb⟩
   refine ⟨_, rfl, ?_⟩
   have n0_ := Aside0.mk (Kd.R_below (qR HO248) hb)
   have n1_ := Aside0.mk (blk_below (qK BK244) hb)
   have n2_ := Aside0.mk (below_step (by repeat first | (with_reducible first | exact HB.out | apply bA | apply bN | apply bD | refine bS ?_ GE244.out) | exact HB.out) hb)
   clear HO248
   clear BK244
   clear HB
   have HO248 := n0_
   have BK244 := n1_
   have HB := n2_
   clear n0_ n1_ n2_
   (try clear hb)
   (try clear hb2)
   (try clear hk)
   (try clear hi)
   obtain ⟨Ao101, co101, eo101⟩ := Kd.R_slice HO248.out
   (first | subst eo101 | (injection eo101 with f1_ f2_ f3_; have f4_ := f1_.symm; have f5_ := f3_.symm; clear f1_ f2_ f3_; subst f4_; subst f5_))
   refine hK.out _ _ ⟨cC BK244 0, cC BK244 1⟩ (fun hHeld => ?_)
   clear hK K
   refine norm_ (a' := ?_) ?_ ?_
   rotate_left
   ·show Act.put _ (some 21) _ = _
    simp only [Act.put, sA, sZ, sS, i64_w]
    rfl
   refine one_ (i := 4) (N := some 22) (bR [5, 1]) rfl rfl (by kernel_rfl) (by decide) (fun K hK => ?_)
   refine goes_ Try.func24 (by kernel_rfl) rfl #[.slice Ao101 t246.length co101, .agg #[.int .i64 t249, .int .i64 t250]] (by rfl) rfl rfl (by (try simp only [mA, mC, mN]); first | done | rfl | (simp only [lD, lT]; rfl)) ?_
   with_reducible refine (spec_LeftBetween.calls k _ _ t246 t249 t250 t251 _ ?side1 ?side2 A8.out).mono ?_
   (case side1 => repeat (first | exact (Kd.R_reads' HO248.out).2.2 | (with_reducible refine Kd.C_alloc ?_ _) | (with_reducible refine Kd.C_drewN ?_ _) | (with_reducible refine Kd.C_drew ?_)))
   (case side2 => exact (Kd.R_reads' HO248.out).2.1)
   rintro e w102 ⟨v252, rfl, ho0, hb⟩
   refine ⟨_, rfl, ?_⟩
   have n0_ := Aside0.mk (Kd.R_below (qR HO248) hb)
   have n1_ := Aside0.mk (Kd.R_lower ho0 (below_size (by repeat first | (with_reducible first | exact HB.out | apply bA | apply bN | apply bD | refine bS ?_ GE244.out) | exact HB.out)))
   have n2_ := Aside0.mk (blk_below (qK BK244) hb)
   have n3_ := Aside0.mk (below_step (by repeat first | (with_reducible first | exact HB.out | apply bA | apply bN | apply bD | refine bS ?_ GE244.out) | exact HB.out) hb)
   clear HO248
   clear BK244
   clear HB
   have HO248 := n0_
   have HO253 := n1_
   have BK244 := n2_
   have HB := n3_
   clear n0_ n1_ n2_ n3_
   (try clear hb)
   (try clear hb2)
   (try clear hk)
   (try clear hi)
   (try clear ho0)
   refine hK.out _ _ ⟨cC BK244 0, cC BK244 1⟩ (fun hHeld => ?_)
   clear hK K
   refine norm_ (a' := ?_) ?_ ?_
   rotate_left
   ·show Act.put _ (some 22) _ = _
    simp only [Act.put, sA, sZ, sS, i64_w]
    rfl
   refine pure_ (i := 5) (N := some 6) (v := ?_) (a' := ?_) (bR [6]) rfl rfl (by kernel_rfl) (fun _ _ _ h => h) (Or.inl ⟨by rfl, ?_⟩) ?_ ?_
   rotate_left; (intro w'; go_simp; with_reducible rfl); rotate_left; (simp only [Act.put, sA, sZ, sS, i64_w]; rfl)
   refine done_ (by kernel_rfl) ?_
   try go_wp2_with (first | ((with_reducible refine gate_callee (f := 25) rfl ?_); refine goesL_ (some 24) rfl rfl Try.func25 (by kernel_rfl) rfl #[.slice A0 l0.length c0] rfl (by (try simp only [mA, mC, mN]); first | done | rfl | (simp only [lD, lT]; rfl)) ?_; (with_reducible refine (laws_toStopS.calls k _ _ l0 t254 _ ?side1 ?side2 A9.out).mono ?_); (case side1 => exact qC (Kd.C_below HR0.out HB.out)); (case side2 => exact HC0.out); rintro e w103 ⟨v255, rfl, ho0, hb⟩; refine ⟨_, rfl, ?_⟩; have n0_ := Aside0.mk (Kd.R_elder' (qR HO248) (Kd.R_base ho0) hb); have n1_ := Aside0.mk (Kd.R_below (qR HO253) hb); have n2_ := Aside0.mk (Kd.R_lower (Kd.R_new' ho0 (Kd.R_lt (qR HO248))) (below_size (by repeat first | (with_reducible first | exact HB.out | apply bA | apply bN | apply bD | refine bS ?_ GE244.out) | exact HB.out))); have n3_ := Aside0.mk (blk_below (qK BK244) hb); have n4_ := Aside0.mk (below_step (by repeat first | (with_reducible first | exact HB.out | apply bA | apply bN | apply bD | refine bS ?_ GE244.out) | exact HB.out) hb); clear HO248; clear HO253; clear BK244; clear HB; have HO248 := n0_; have HO253 := n1_; have HO256 := n2_; have BK244 := n3_; have HB := n4_; clear n0_ n1_ n2_ n3_ n4_; (try clear hb); (try clear hb2); (try clear hk); (try clear hi); (try clear ho0); have hcz104_0 : w103.cell? ⟨gb244, 0, none⟩ = some (.int .i64 a1_0) := cC BK244 0; have hcz104_1 : w103.cell? ⟨gb244, 1, none⟩ = some (.int .i64 a1_1) := cC BK244 1; have hfz104_0 := blk_frozen BK244.out 0; have hfz104_1 := blk_frozen BK244.out 1) | ((with_reducible refine gate_callee (f := 26) rfl ?_); refine goesL_ (some 27) rfl rfl Try.func26 (by kernel_rfl) rfl #[.agg #[.int .i64 a1_0, .int .i64 a1_1]] rfl (by (try simp only [mA, mC, mN]); first | done | rfl | (simp only [lD, lT]; rfl)) ?_; (with_reducible refine (laws_toSpan.calls a1_0 a1_1 t257 t258 _ A10.out).mono ?_); rintro e w105 ⟨rfl, hb⟩; refine ⟨_, rfl, ?_⟩; have n0_ := Aside0.mk (Kd.R_below (qR HO248) hb); have n1_ := Aside0.mk (Kd.R_below (qR HO253) hb); have n2_ := Aside0.mk (Kd.R_below (qR HO256) hb); have n3_ := Aside0.mk (blk_below (qK BK244) hb); have n4_ := Aside0.mk (below_step (by repeat first | (with_reducible first | exact HB.out | apply bA | apply bN | apply bD | refine bS ?_ GE244.out) | exact HB.out) hb); clear HO248; clear HO253; clear HO256; clear BK244; clear HB; have HO248 := n0_; have HO253 := n1_; have HO256 := n2_; have BK244 := n3_; have HB := n4_; clear n0_ n1_ n2_ n3_ n4_; (try clear hb); (try clear hb2); (try clear hk); (try clear hi); obtain ⟨Ao106, co106, eo106⟩ := Kd.R_slice HO256.out; subst eo106) | ((with_reducible refine gate_callee (f := 27) rfl ?_); refine goesL_ (some 28) rfl rfl Try.func27 (by kernel_rfl) rfl #[.slice Ao106 t254.length co106, .agg #[.int .i64 t257, .int .i64 t258]] rfl (by (try simp only [mA, mC, mN]); first | done | rfl | (simp only [lD, lT]; rfl)) ?_; (with_reducible refine (impl_LeftBetween.calls k _ _ t254 t257 t258 t259 _ ?side1 ?side2 A11.out).mono ?_); (case side1 => repeat (first | exact (Kd.R_reads' HO256.out).2.2 | (with_reducible refine Kd.C_alloc ?_ _) | (with_reducible refine Kd.C_drewN ?_ _) | (with_reducible refine Kd.C_drew ?_))); (case side2 => exact (Kd.R_reads' HO256.out).2.1); rintro e w107 ⟨v260, rfl, ho0, hb⟩; refine ⟨_, rfl, ?_⟩; have n0_ := Aside0.mk (Kd.R_below (qR HO248) hb); have n1_ := Aside0.mk (Kd.R_elder' (qR HO253) (Kd.R_base ho0) hb); have n2_ := Aside0.mk (Kd.R_below (qR HO256) hb); have n3_ := Aside0.mk (Kd.R_lower (Kd.R_new' ho0 (Kd.R_lt (qR HO253))) (below_size (by repeat first | (with_reducible first | exact HB.out | apply bA | apply bN | apply bD | refine bS ?_ GE244.out) | exact HB.out))); have n4_ := Aside0.mk (blk_below (qK BK244) hb); have n5_ := Aside0.mk (below_step (by repeat first | (with_reducible first | exact HB.out | apply bA | apply bN | apply bD | refine bS ?_ GE244.out) | exact HB.out) hb); clear HO248; clear HO253; clear HO256; clear BK244; clear HB; have HO248 := n0_; have HO253 := n1_; have HO256 := n2_; have HO261 := n3_; have BK244 := n4_; have HB := n5_; clear n0_ n1_ n2_ n3_ n4_ n5_; (try clear hb); (try clear hb2); (try clear hk); (try clear hi); (try clear ho0); obtain ⟨Ao108, co108, eo108⟩ := Kd.R_slice HO261.out; subst eo108; obtain ⟨Ao109, co109, eo109⟩ := Kd.R_slice HO253.out; subst eo109) | ((with_reducible refine gate_callee (f := 28) rfl ?_); refine goesL_ (some 31) rfl rfl Try.func28 (by kernel_rfl) rfl #[.slice Ao108 t259.length co108, .slice Ao109 t251.length co109] rfl (by (try simp only [mA, mC, mN]); first | done | rfl | (simp only [lD, lT]; rfl)) ?_; (with_reducible refine (laws_eqIntS.calls k _ _ t259 _ _ t251 false _ ?side1 ?side2 ?side3 ?side4 A12.out).mono ?_); (case side1 => repeat (first | exact (Kd.R_reads' HO261.out).2.2 | (with_reducible refine Kd.C_alloc ?_ _) | (with_reducible refine Kd.C_drewN ?_ _) | (with_reducible refine Kd.C_drew ?_))); (case side2 => exact (Kd.R_reads' HO261.out).2.1); (case side3 => repeat (first | exact (Kd.R_reads' HO253.out).2.2 | (with_reducible refine Kd.C_alloc ?_ _) | (with_reducible refine Kd.C_drewN ?_ _) | (with_reducible refine Kd.C_drew ?_))); (case side4 => exact (Kd.R_reads' HO253.out).2.1); rintro e w' ⟨rfl, ⟨nd, rfl⟩⟩; refine ⟨_, rfl, ?_⟩))
   go_ret
   exact ⟨by first | rfl | (simp [errW_none, errW_some] <;> rfl) | (simp [*, errW_none, errW_some] <;> rfl), by repeat (first | (with_reducible first | exact HB.out | apply bA | apply bN | apply bD | refine bS ?_ GE244.out) | exact HB.out)⟩

end Go.Proofs.Ytkfalbaklodnjaa.PFnExactLeftBetween
