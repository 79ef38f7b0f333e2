-- The printed functions of one law and their contracts, over contracts of this session's own (hand.py).
import Derived.Test.YtbacepkkamfeoaaPFnPackedx0
import Derived.Test.YtbacepkkamfeoaaPFnPackedx6
import Derived.Test.YtbacepkkamfeoaaPFnPackedx7
namespace Go.Proofs.Ytbacepkkamfeoaa.PFnPacked
open Go.RowKit Go.Proofs.YtbacepkkamfeoaaW.PrintWords Go.Proofs.YtbacepkkamfeoaaW.PrintLast Go.Proofs.YtbacepkkamfeoaaW.PrintMore Go.Proofs.Ytbacepkkamfeoaa.Short
attribute [local go_sem] max2_int min2_int max_two min_two max_three min_three max_four min_four   -- for this text's walks alone
set_option linter.unusedVariables false
set_option linter.unusedSimpArgs false

/-! ### spec_IsThing: function 104 -/
def spec_IsThing.f (a0_0 : Int) (a0_1 : Int) (a0_2 : Int) (a0_3 : Int) (a0_4 : Int) : Option (Bool) := (spec_l1In.f a0_0 1 999).bind fun t202 => (if t202 = true then ((spec_l1In.f a0_1 1 8).bind fun t203 => (if t203 = true then ((spec_l1In.f a0_2 0 7).bind fun t204 => (if t204 = true then ((spec_l1In.f a0_3 1 50).bind fun t205 => (if t205 = true then ((spec_l1In.f a0_4 0 10000000).bind fun t206 => (some t206)) else (some false))) else (some false))) else (some false))) else (some false))
set_option maxHeartbeats 8000000 in
set_option maxRecDepth 100000 in
theorem spec_IsThing.calls (a0_0 : Int) (a0_1 : Int) (a0_2 : Int) (a0_3 : Int) (a0_4 : Int) (r : Bool) (w : World) (h : spec_IsThing.f a0_0 a0_1 a0_2 a0_3 a0_4 = some r) :
  Calls Try.prog 104 #[.agg #[.int .i64 a0_0, .int .i64 a0_1, .int .i64 a0_2, .int .i64 a0_3, .int .i64 a0_4]] w fun e w' => e = .returned (.bool r) ∧ Below w.heap.size w w' := by
 have hu47 := Try.underlying47; have HB := aM (Below.refl w.heap.size w); have H : ((spec_l1In.f a0_0 1 999).bind fun ag => (if ag = true then ((spec_l1In.f a0_1 1 8).bind fun ah => (if ah = true then ((spec_l1In.f a0_2 0 7).bind fun ai => (if ai = true then ((spec_l1In.f a0_3 1 50).bind fun aj => (if aj = true then ((spec_l1In.f a0_4 0 10000000).bind fun ak => (some ak)) else (some false))) else (some false))) else (some false))) else (some false))) = some r := h; clear h; replace H := Option.bind_eq_some_iff.mp H; obtain ⟨ag, am, H⟩ := H; have Y := Aside0.mk am; clear am; by_cases c3 : ag = true
 ·subst c3; rw [if_pos rfl] at H; replace H := Option.bind_eq_some_iff.mp H; obtain ⟨ah, ao, H⟩ := H; have A4 := Aside0.mk ao; clear ao; by_cases c5 : ah = true
  ·subst c5; rw [if_pos rfl] at H; replace H := Option.bind_eq_some_iff.mp H; obtain ⟨ai, ap, H⟩ := H; have A6 := Aside0.mk ap; clear ap; by_cases c7 : ai = true
   ·subst c7; rw [if_pos rfl] at H; replace H := Option.bind_eq_some_iff.mp H; obtain ⟨aj, aq, H⟩ := H; have A8 := Aside0.mk aq; clear aq; by_cases c9 : aj = true
    ·subst c9; rw [if_pos rfl] at H; replace H := Option.bind_eq_some_iff.mp H; obtain ⟨ak, au, H⟩ := H; have av := Aside0.mk au; clear au; obtain rfl := Option.some.inj H; go_enter Try.func104, Try.ntmps104; go_wp2_with (first | ((with_reducible refine gate_dst (N := 1) rfl ?_); refine bx 1 #[.int .i64 a0_0, .int .i64 a0_1, .int .i64 a0_2, .int .i64 a0_3, .int .i64 a0_4] 47 ?_; intro D hg aw hbox hb; have J := aM hbox; have af := aM ((by rw [hg]; exact (below_size (qB HB)) : w.heap.size ≤ D)); have L := aM ((by rw [hg]; exact (below_size (qB HB)) : w.heap.size ≤ D)); replace HB := aM (below_step (qB HB) hb); clear hb hbox hg; obtain ⟨ax, ay, az, aA, aC⟩ := cz5 J; obtain ⟨aD, aE, aG, aH, aI⟩ := fz5 J) | ((with_reducible refine gate_callee (f := 103) rfl ?_); refine gl 5 Try.func103 #[.int .i64 a0_0, .int .i64 1, .int .i64 999] ?_; (with_reducible refine (spec_l1In.calls a0_0 1 999 true _ Y.out).mono ?_); rintro e w' ⟨rfl, ⟨nd, rfl⟩⟩; refine ⟨_, rfl, ?_⟩) | (go_at_call 103; (with_reducible refine (spec_l1In.calls a0_1 1 8 true _ A4.out).mono ?_); rintro e w' ⟨rfl, ⟨nd, rfl⟩⟩) | (go_at_call 103; (with_reducible refine (spec_l1In.calls a0_2 0 7 true _ A6.out).mono ?_); rintro e w' ⟨rfl, ⟨nd, rfl⟩⟩) | (go_at_call 103; (with_reducible refine (spec_l1In.calls a0_3 1 50 true _ A8.out).mono ?_); rintro e w' ⟨rfl, ⟨nd, rfl⟩⟩) | (go_at_call 103; (with_reducible refine (spec_l1In.calls a0_4 0 10000000 ak _ av.out).mono ?_); rintro e w' ⟨rfl, ⟨nd, rfl⟩⟩)); go_ret; exact ⟨tE, tB1 L⟩
    ·replace c9 := Bool.eq_false_iff.mpr c9; subst c9; rw [if_neg ff_] at H; obtain rfl := Option.some.inj H; go_enter Try.func104, Try.ntmps104; go_wp2_with (first | ((with_reducible refine gate_dst (N := 1) rfl ?_); refine bx 1 #[.int .i64 a0_0, .int .i64 a0_1, .int .i64 a0_2, .int .i64 a0_3, .int .i64 a0_4] 47 ?_; intro D hg aJ hbox hb; have J := aM hbox; have af := aM ((by rw [hg]; exact (below_size (qB HB)) : w.heap.size ≤ D)); have L := aM ((by rw [hg]; exact (below_size (qB HB)) : w.heap.size ≤ D)); replace HB := aM (below_step (qB HB) hb); clear hb hbox hg; obtain ⟨aK, aN, aP, aQ, aT⟩ := cz5 J; obtain ⟨aU, aV, aW, aX, aY⟩ := fz5 J) | ((with_reducible refine gate_callee (f := 103) rfl ?_); refine gl 5 Try.func103 #[.int .i64 a0_0, .int .i64 1, .int .i64 999] ?_; (with_reducible refine (spec_l1In.calls a0_0 1 999 true _ Y.out).mono ?_); rintro e w' ⟨rfl, ⟨nd, rfl⟩⟩; refine ⟨_, rfl, ?_⟩) | (go_at_call 103; (with_reducible refine (spec_l1In.calls a0_1 1 8 true _ A4.out).mono ?_); rintro e w' ⟨rfl, ⟨nd, rfl⟩⟩) | (go_at_call 103; (with_reducible refine (spec_l1In.calls a0_2 0 7 true _ A6.out).mono ?_); rintro e w' ⟨rfl, ⟨nd, rfl⟩⟩) | (go_at_call 103; (with_reducible refine (spec_l1In.calls a0_3 1 50 false _ A8.out).mono ?_); rintro e w' ⟨rfl, ⟨nd, rfl⟩⟩)); go_ret; exact ⟨tE, tB1 L⟩
   ·replace c7 := Bool.eq_false_iff.mpr c7; subst c7; rw [if_neg ff_] at H; obtain rfl := Option.some.inj H; go_enter Try.func104, Try.ntmps104; go_wp2_with (first | ((with_reducible refine gate_dst (N := 1) rfl ?_); refine bx 1 #[.int .i64 a0_0, .int .i64 a0_1, .int .i64 a0_2, .int .i64 a0_3, .int .i64 a0_4] 47 ?_; intro D hg aZ hbox hb; have J := aM hbox; have af := aM ((by rw [hg]; exact (below_size (qB HB)) : w.heap.size ≤ D)); have L := aM ((by rw [hg]; exact (below_size (qB HB)) : w.heap.size ≤ D)); replace HB := aM (below_step (qB HB) hb); clear hb hbox hg; obtain ⟨a6, a7, a8, a9, a_⟩ := cz5 J; obtain ⟨ba, bb, bc, bd, be⟩ := fz5 J) | ((with_reducible refine gate_callee (f := 103) rfl ?_); refine gl 5 Try.func103 #[.int .i64 a0_0, .int .i64 1, .int .i64 999] ?_; (with_reducible refine (spec_l1In.calls a0_0 1 999 true _ Y.out).mono ?_); rintro e w' ⟨rfl, ⟨nd, rfl⟩⟩; refine ⟨_, rfl, ?_⟩) | (go_at_call 103; (with_reducible refine (spec_l1In.calls a0_1 1 8 true _ A4.out).mono ?_); rintro e w' ⟨rfl, ⟨nd, rfl⟩⟩) | (go_at_call 103; (with_reducible refine (spec_l1In.calls a0_2 0 7 false _ A6.out).mono ?_); rintro e w' ⟨rfl, ⟨nd, rfl⟩⟩)); go_ret; exact ⟨tE, tB1 L⟩
  ·replace c5 := Bool.eq_false_iff.mpr c5; subst c5; rw [if_neg ff_] at H; obtain rfl := Option.some.inj H; go_enter Try.func104, Try.ntmps104; go_wp2_with (first | ((with_reducible refine gate_dst (N := 1) rfl ?_); refine bx 1 #[.int .i64 a0_0, .int .i64 a0_1, .int .i64 a0_2, .int .i64 a0_3, .int .i64 a0_4] 47 ?_; intro D hg bf hbox hb; have J := aM hbox; have af := aM ((by rw [hg]; exact (below_size (qB HB)) : w.heap.size ≤ D)); have L := aM ((by rw [hg]; exact (below_size (qB HB)) : w.heap.size ≤ D)); replace HB := aM (below_step (qB HB) hb); clear hb hbox hg; obtain ⟨bg, bh, bi, bj, bk⟩ := cz5 J; obtain ⟨bl, bm, bn, bo, bp⟩ := fz5 J) | ((with_reducible refine gate_callee (f := 103) rfl ?_); refine gl 5 Try.func103 #[.int .i64 a0_0, .int .i64 1, .int .i64 999] ?_; (with_reducible refine (spec_l1In.calls a0_0 1 999 true _ Y.out).mono ?_); rintro e w' ⟨rfl, ⟨nd, rfl⟩⟩; refine ⟨_, rfl, ?_⟩) | (go_at_call 103; (with_reducible refine (spec_l1In.calls a0_1 1 8 false _ A4.out).mono ?_); rintro e w' ⟨rfl, ⟨nd, rfl⟩⟩)); go_ret; exact ⟨tE, tB1 L⟩
 ·replace c3 := Bool.eq_false_iff.mpr c3; subst c3; rw [if_neg ff_] at H; obtain rfl := Option.some.inj H; go_enter Try.func104, Try.ntmps104; go_wp2_with (first | ((with_reducible refine gate_dst (N := 1) rfl ?_); refine bx 1 #[.int .i64 a0_0, .int .i64 a0_1, .int .i64 a0_2, .int .i64 a0_3, .int .i64 a0_4] 47 ?_; intro D hg bq hbox hb; have J := aM hbox; have af := aM ((by rw [hg]; exact (below_size (qB HB)) : w.heap.size ≤ D)); have L := aM ((by rw [hg]; exact (below_size (qB HB)) : w.heap.size ≤ D)); replace HB := aM (below_step (qB HB) hb); clear hb hbox hg; obtain ⟨br, bs, bt, bu, bv⟩ := cz5 J; obtain ⟨bw, bz, bB, bC, bE⟩ := fz5 J) | ((with_reducible refine gate_callee (f := 103) rfl ?_); refine gl 5 Try.func103 #[.int .i64 a0_0, .int .i64 1, .int .i64 999] ?_; (with_reducible refine (spec_l1In.calls a0_0 1 999 false _ Y.out).mono ?_); rintro e w' ⟨rfl, ⟨nd, rfl⟩⟩; refine ⟨_, rfl, ?_⟩)); go_ret; exact ⟨tE, tB1 L⟩

/-! ### spec_SmallestFree: function 118 -/
def spec_SmallestFree.l0 : Nat → List (S51) → Int → Int → Int → Option (Int)
 | 0, _, _, _, _ => none
 | k + 1, x0, x1, x5, x6 => if x6 < (x0.length : Int) then (if 0 ≤ x6 then (if ((rd_T51 x0 x6).f2) = 0 then (if ((rd_T51 x0 x6).f1) ≥ x1 then (if x5 < 0 then (spec_SmallestFree.l0 k x0 x1 x6 (wrap64 (x6 + 1))) else (if 0 ≤ x5 then (if x5 < (x0.length : Int) then (if ((rd_T51 x0 x6).f1) < ((rd_T51 x0 x5).f1) then (spec_SmallestFree.l0 k x0 x1 x6 (wrap64 (x6 + 1))) else (spec_SmallestFree.l0 k x0 x1 x5 (wrap64 (x6 + 1)))) else (none)) else (none))) else (spec_SmallestFree.l0 k x0 x1 x5 (wrap64 (x6 + 1)))) else (spec_SmallestFree.l0 k x0 x1 x5 (wrap64 (x6 + 1)))) else (none)) else (if x5 < 0 then (some 0) else (if 0 ≤ x5 then (if x5 < (x0.length : Int) then (some ((rd_T51 x0 x5).f0)) else (none)) else (none)))
def spec_SmallestFree.f (k : Nat) (l0 : List (S51)) (a1 : Int) : Option (Int) := spec_SmallestFree.l0 k l0 a1 (-1) 0
theorem spec_SmallestFree.mono_l : ∀ k, (∀ y0 y1 y2 y3, LeO (spec_SmallestFree.l0 k y0 y1 y2 y3) (spec_SmallestFree.l0 (k + 1) y0 y1 y2 y3))
 | 0 => fun _ _ _ _ r h => by simp [spec_SmallestFree.l0] at h
 | k + 1 => by
  have ih0 := spec_SmallestFree.mono_l k
  ·intro y0 y1 y2 y3; unfold spec_SmallestFree.l0
   repeat' first
   | (with_reducible exact ih0 _ _ _ _)
   | (with_reducible exact LeO.refl _)
   | (with_reducible exact LeO.none _)
   | (with_reducible refine LeO.ite ?_ ?_)
   | (with_reducible refine LeO.bind ?_ (fun _ => ?_))
   | exact ih0 _ _ _ _
   | exact LeO.none _
   | refine LeO.ite ?_ ?_
   | refine LeO.bind ?_ (fun _ => ?_)
theorem spec_SmallestFree.mono : ∀ a0 a1 k, LeO (spec_SmallestFree.f k a0 a1) (spec_SmallestFree.f (k + 1) a0 a1) := by
 intro a0 a1 k; have ih0 := spec_SmallestFree.mono_l k; unfold spec_SmallestFree.f
 repeat' first
   | (with_reducible exact ih0 _ _ _ _)
   | (with_reducible exact LeO.refl _)
   | (with_reducible exact LeO.none _)
   | (with_reducible refine LeO.ite ?_ ?_)
   | (with_reducible refine LeO.bind ?_ (fun _ => ?_))
   | exact ih0 _ _ _ _
   | exact LeO.none _
   | refine LeO.ite ?_ ?_
   | refine LeO.bind ?_ (fun _ => ?_)
set_option maxHeartbeats 8000000 in
set_option maxRecDepth 100000 in
theorem spec_SmallestFree.calls (k : Nat) (A0 : Option Addr) (c0 : Nat) (l0 : List (S51)) (a1 : Int) (r : Int) (w : World) (hr0 : Kd.C k51 w A0 l0.length l0) (hc0 : l0.length ≤ c0) (h : spec_SmallestFree.f k l0 a1 = some r) :
  Calls Try.prog 118 #[.slice A0 l0.length c0, .int .i64 a1] w fun e w' => e = .returned (.int .i64 r) ∧ Drawn0 w w' := by
 have ac := Aside0.mk hr0; have be := Aside0.mk hc0; clear hr0 hc0; have H : (spec_SmallestFree.l0 k l0 a1 (-1) 0) = some r := h; clear h; have H' := Aside0.mk H; clear H; go_enter Try.func118, Try.ntmps118; go_wp2; repeat (go_quiet (fail); try go_wp2)
 go_loopg [5, 6] k (fun kq v5 v6 w' => ∃ (J : Int) (D : Int), v5 = .int .i64 J ∧ v6 = .int .i64 D ∧ Aside0 (spec_SmallestFree.l0 kq l0 a1 J D = some r) ∧ Aside0 (kq ≤ k) ∧ Drawn0 w w')
 case atStart => exact ⟨((-1)), (0), tS, tS, H', ⟨Nat.le_refl _⟩, by repeat (first | exact Drawn0.refl _ | apply Drawn0.step)⟩
 case round =>
  clear H'; try clear c1
  try clear p2
  obtain ⟨J, D, rfl, rfl, HA, ae, ⟨m1, rfl⟩⟩ := hrel; cases gk with
  | zero => exact absurd HA.out (by simp [spec_SmallestFree.l0])
  | succ k1 =>
   have H := HA.out; clear HA; simp only [spec_SmallestFree.l0] at H; by_cases c3 : D < (l0.length : Int)
   ·rw [if_pos c3] at H; have aV : decide (D < (l0.length : Int)) = true := decide_eq_true c3; clear c3; by_cases c4 : 0 ≤ D
    ·rw [if_pos c4] at H; have bg : decide (0 ≤ D) = true := decide_eq_true c4; clear c4; by_cases c5 : ((rd_T51 l0 D).f2) = 0
     ·rw [if_pos c5] at H; have aW : (((rd_T51 l0 D).f2) == 0) = true := beq_iff_eq.mpr c5; have aX : (((rd_T51 l0 D).f2) != 0) = false := bne_eq_false_iff_eq.mpr c5; clear c5; by_cases c6 : ((rd_T51 l0 D).f1) ≥ a1
      ·rw [if_pos c6] at H; have aY : decide (a1 ≤ ((rd_T51 l0 D).f1)) = true := decide_eq_true c6; clear c6; by_cases c7 : J < 0
       ·rw [if_pos c7] at H; have aZ : decide (J < 0) = true := decide_eq_true c7; clear c7; have H' := Aside0.mk H; clear H; have L : 0 ≤ (D : Int) := of_decide_eq_true ‹_›; have Y : D < (l0.length : Int) := of_decide_eq_true ‹_›; obtain ⟨ad, af, aw, ax, ay⟩ := at_T51 ac.out D L Y; cases af
        replace L := eq_true L; replace Y := eq_true Y; have aa : 0 ≤ (D : Int) := of_decide_eq_true ‹_›; have ab : D < (l0.length : Int) := of_decide_eq_true ‹_›; obtain ⟨ah, ai, aE, aG, aH⟩ := at_T51 ac.out D aa ab; obtain rfl : ad = ah := (by injection ai)
        replace aa := eq_true aa; replace ab := eq_true ab; go_wp2; repeat (go_quiet (fail); try go_wp2)
        go_roundg k1
        case measure => have := ae.out; omega
        case rel => exact ⟨(D), (wrap64 (D + 1)), tS, tS, H', ⟨by have := ae.out; omega⟩, by repeat (first | exact Drawn0.refl _ | apply Drawn0.step)⟩
       ·rw [if_neg c7] at H; have aZ : decide (J < 0) = false := decide_eq_false c7; clear c7; by_cases c8 : 0 ≤ J
        ·rw [if_pos c8] at H; have bh : decide (0 ≤ J) = true := decide_eq_true c8; clear c8; by_cases c9 : J < (l0.length : Int)
         ·rw [if_pos c9] at H; have bi : decide (J < (l0.length : Int)) = true := decide_eq_true c9; clear c9; by_cases ar : ((rd_T51 l0 D).f1) < ((rd_T51 l0 J).f1)
          ·rw [if_pos ar] at H; have a6 : decide (((rd_T51 l0 D).f1) < ((rd_T51 l0 J).f1)) = true := decide_eq_true ar; clear ar; have H' := Aside0.mk H; clear H; have L : 0 ≤ (D : Int) := of_decide_eq_true ‹_›; have Y : D < (l0.length : Int) := of_decide_eq_true ‹_›; obtain ⟨ad, af, aw, ax, ay⟩ := at_T51 ac.out D L Y; cases af
           replace L := eq_true L; replace Y := eq_true Y; have aa : 0 ≤ (D : Int) := of_decide_eq_true ‹_›; have ab : D < (l0.length : Int) := of_decide_eq_true ‹_›; obtain ⟨ah, ai, aE, aG, aH⟩ := at_T51 ac.out D aa ab; obtain rfl : ad = ah := (by injection ai)
           replace aa := eq_true aa; replace ab := eq_true ab; have aj : 0 ≤ (D : Int) := of_decide_eq_true ‹_›; have ak : D < (l0.length : Int) := of_decide_eq_true ‹_›; obtain ⟨aI, aJ, a7, a8, a9⟩ := at_T51 ac.out D aj ak; obtain rfl : ad = aI := (by injection aJ)
           replace aj := eq_true aj; replace ak := eq_true ak; have al : 0 ≤ (J : Int) := of_decide_eq_true ‹_›; have am : J < (l0.length : Int) := of_decide_eq_true ‹_›; obtain ⟨aK, aN, a_, ba, bb⟩ := at_T51 ac.out J al am; obtain rfl : ad = aK := (by injection aN)
           replace al := eq_true al; replace am := eq_true am; go_wp2; repeat (go_quiet (fail); try go_wp2)
           go_roundg k1
           case measure => have := ae.out; omega
           case rel => exact ⟨(D), (wrap64 (D + 1)), tS, tS, H', ⟨by have := ae.out; omega⟩, by repeat (first | exact Drawn0.refl _ | apply Drawn0.step)⟩
          ·rw [if_neg ar] at H; have a6 : decide (((rd_T51 l0 D).f1) < ((rd_T51 l0 J).f1)) = false := decide_eq_false ar; clear ar; have H' := Aside0.mk H; clear H; have L : 0 ≤ (D : Int) := of_decide_eq_true ‹_›; have Y : D < (l0.length : Int) := of_decide_eq_true ‹_›; obtain ⟨ad, af, aw, ax, ay⟩ := at_T51 ac.out D L Y; cases af
           replace L := eq_true L; replace Y := eq_true Y; have aa : 0 ≤ (D : Int) := of_decide_eq_true ‹_›; have ab : D < (l0.length : Int) := of_decide_eq_true ‹_›; obtain ⟨ah, ai, aE, aG, aH⟩ := at_T51 ac.out D aa ab; obtain rfl : ad = ah := (by injection ai)
           replace aa := eq_true aa; replace ab := eq_true ab; have aj : 0 ≤ (D : Int) := of_decide_eq_true ‹_›; have ak : D < (l0.length : Int) := of_decide_eq_true ‹_›; obtain ⟨aI, aJ, a7, a8, a9⟩ := at_T51 ac.out D aj ak; obtain rfl : ad = aI := (by injection aJ)
           replace aj := eq_true aj; replace ak := eq_true ak; have al : 0 ≤ (J : Int) := of_decide_eq_true ‹_›; have am : J < (l0.length : Int) := of_decide_eq_true ‹_›; obtain ⟨aK, aN, a_, ba, bb⟩ := at_T51 ac.out J al am; obtain rfl : ad = aK := (by injection aN)
           replace al := eq_true al; replace am := eq_true am; go_wp2; repeat (go_quiet (fail); try go_wp2)
           go_roundg k1
           case measure => have := ae.out; omega
           case rel => exact ⟨(J), (wrap64 (D + 1)), tS, tS, H', ⟨by have := ae.out; omega⟩, by repeat (first | exact Drawn0.refl _ | apply Drawn0.step)⟩
         ·rw [if_neg c9] at H; exact absurd H (by simp)
        ·rw [if_neg c8] at H; exact absurd H (by simp)
      ·rw [if_neg c6] at H; have aY : decide (a1 ≤ ((rd_T51 l0 D).f1)) = false := decide_eq_false c6; clear c6; have H' := Aside0.mk H; clear H; have L : 0 ≤ (D : Int) := of_decide_eq_true ‹_›; have Y : D < (l0.length : Int) := of_decide_eq_true ‹_›; obtain ⟨ad, af, aw, ax, ay⟩ := at_T51 ac.out D L Y; cases af
       replace L := eq_true L; replace Y := eq_true Y; have aa : 0 ≤ (D : Int) := of_decide_eq_true ‹_›; have ab : D < (l0.length : Int) := of_decide_eq_true ‹_›; obtain ⟨ah, ai, aE, aG, aH⟩ := at_T51 ac.out D aa ab; obtain rfl : ad = ah := (by injection ai)
       replace aa := eq_true aa; replace ab := eq_true ab; go_wp2; repeat (go_quiet (fail); try go_wp2)
       go_roundg k1
       case measure => have := ae.out; omega
       case rel => exact ⟨(J), (wrap64 (D + 1)), tS, tS, H', ⟨by have := ae.out; omega⟩, by repeat (first | exact Drawn0.refl _ | apply Drawn0.step)⟩
     ·rw [if_neg c5] at H; have aW : (((rd_T51 l0 D).f2) == 0) = false := beq_eq_false_iff_ne.mpr c5; have aX : (((rd_T51 l0 D).f2) != 0) = true := bne_iff_ne.mpr c5; have H' := Aside0.mk H; clear H; have L : 0 ≤ (D : Int) := of_decide_eq_true ‹_›; have Y : D < (l0.length : Int) := of_decide_eq_true ‹_›; obtain ⟨ad, af, aw, ax, ay⟩ := at_T51 ac.out D L Y; cases af
      replace L := eq_true L; replace Y := eq_true Y; go_wp2; repeat (go_quiet (fail); try go_wp2)
      go_roundg k1
      case measure => have := ae.out; omega
      case rel => exact ⟨(J), (wrap64 (D + 1)), tS, tS, H', ⟨by have := ae.out; omega⟩, by repeat (first | exact Drawn0.refl _ | apply Drawn0.step)⟩
    ·rw [if_neg c4] at H; exact absurd H (by simp)
   ·rw [if_neg c3] at H; have aV : decide (D < (l0.length : Int)) = false := decide_eq_false c3; clear c3; by_cases au : J < 0
    ·rw [if_pos au] at H; have bc : decide (J < 0) = true := decide_eq_true au; clear au; obtain rfl := Option.some.inj H; go_wp2; repeat (go_quiet (fail); try go_wp2)
     go_ret; exact ⟨by first | rfl | (simp; done) | (simp [*]; done), by repeat (first | exact Drawn0.refl _ | apply Drawn0.step)⟩
    ·rw [if_neg au] at H; have bc : decide (J < 0) = false := decide_eq_false au; clear au; by_cases aC : 0 ≤ J
     ·rw [if_pos aC] at H; have bj : decide (0 ≤ J) = true := decide_eq_true aC; clear aC; by_cases aD : J < (l0.length : Int)
      ·rw [if_pos aD] at H; have bk : decide (J < (l0.length : Int)) = true := decide_eq_true aD; clear aD; obtain rfl := Option.some.inj H; have aP : 0 ≤ (J : Int) := of_decide_eq_true ‹_›; have aQ : J < (l0.length : Int) := of_decide_eq_true ‹_›; obtain ⟨bl, bd, bm, bn, bo⟩ := at_T51 ac.out J aP aQ; cases bd
       replace aP := eq_true aP; replace aQ := eq_true aQ; go_wp2; repeat (go_quiet (fail); try go_wp2)
       go_ret; exact ⟨by first | rfl | (simp; done) | (simp [*]; done), by repeat (first | exact Drawn0.refl _ | apply Drawn0.step)⟩
      ·rw [if_neg aD] at H; exact absurd H (by simp)
     ·rw [if_neg aC] at H; exact absurd H (by simp)

/-! ### spec_PutAway: function 80 -/
mutual
def spec_PutAway.j0 : Nat → List (S51) → Int → Bool → Int → Int → Int → Int → Int → Option ((List (S51)) × Bool)
 | 0, _, _, _, _, _, _, _, _ => none
 | k + 1, x6, x7, x34, x213000, x213001, x213002, x213003, x213004 => if x34 = true then (some (x6, false)) else (spec_PutAway.l0 k x6 x7 0 x213000 x213001 x213002 x213003 x213004)
def spec_PutAway.l0 : Nat → List (S51) → Int → Int → Int → Int → Int → Int → Int → Option ((List (S51)) × Bool)
 | 0, _, _, _, _, _, _, _, _ => none
 | k + 1, x6, x7, x8, D, J, L, Y, aa => if x8 < (x6.length : Int) then (if 0 ≤ x8 then (if ((rd_T51 x6 x8).f0) = x7 then (spec_PutAway.l0 k (x6.set (x8 : Int).toNat (⟨(rd_T51 x6 x8).f0, (rd_T51 x6 x8).f1, D⟩ : S51)) x7 (wrap64 (x8 + 1)) D J L Y aa) else (spec_PutAway.l0 k x6 x7 (wrap64 (x8 + 1)) D J L Y aa)) else (none)) else (some (x6, true))
end
def spec_PutAway.f (k : Nat) (l0 : List (S51)) (a1_0 : Int) (a1_1 : Int) (a1_2 : Int) (a1_3 : Int) (a1_4 : Int) : Option ((List (S51)) × Bool) := (some (([] : List (S51)) : List (S51))).bind fun L => (if L.length + l0.length < 5864062014805 then ((some (L ++ l0 : List (S51))).bind fun J => ((spec_SmallestFree.f k l0 a1_3).bind fun D => ((spec_AreSlots.f k l0).bind fun Y => (if Y = true then ((spec_IsThing.f a1_0 a1_1 a1_2 a1_3 a1_4).bind fun aa => (if aa = true then (if D = 0 then (spec_PutAway.j0 k J D true a1_0 a1_1 a1_2 a1_3 a1_4) else ((spec_SlotOf.f k l0 a1_0).bind fun ab => (spec_PutAway.j0 k J D (ab != 0) a1_0 a1_1 a1_2 a1_3 a1_4))) else (spec_PutAway.j0 k J D true a1_0 a1_1 a1_2 a1_3 a1_4))) else (spec_PutAway.j0 k J D true a1_0 a1_1 a1_2 a1_3 a1_4))))) else (none))
theorem spec_PutAway.mono_l : ∀ k, (∀ y0 y1 y2 y3 y4 y5 y6 y7, LeO (spec_PutAway.j0 k y0 y1 y2 y3 y4 y5 y6 y7) (spec_PutAway.j0 (k + 1) y0 y1 y2 y3 y4 y5 y6 y7)) ∧ (∀ y0 y1 y2 y3 y4 y5 y6 y7, LeO (spec_PutAway.l0 k y0 y1 y2 y3 y4 y5 y6 y7) (spec_PutAway.l0 (k + 1) y0 y1 y2 y3 y4 y5 y6 y7))
 | 0 => ⟨fun _ _ _ _ _ _ _ _ r h => by simp [spec_PutAway.j0] at h, fun _ _ _ _ _ _ _ _ r h => by simp [spec_PutAway.l0] at h⟩
 | k + 1 => by
  obtain ⟨ih0, ih1⟩ := spec_PutAway.mono_l k; refine ⟨?_, ?_⟩; all_goals (intros; (first | unfold spec_PutAway.j0 | unfold spec_PutAway.l0); repeat' first | (with_reducible exact ih0 _ _ _ _ _ _ _ _) | (with_reducible exact ih1 _ _ _ _ _ _ _ _) | (with_reducible exact spec_AreSlots.mono _ _) | (with_reducible exact spec_SlotOf.mono _ _ _) | (with_reducible exact spec_SmallestFree.mono _ _ _) | (with_reducible exact LeO.refl _) | (with_reducible exact LeO.none _) | (with_reducible refine LeO.ite ?_ ?_) | (with_reducible refine LeO.bind ?_ (fun _ => ?_)) | exact ih0 _ _ _ _ _ _ _ _ | exact ih1 _ _ _ _ _ _ _ _ | exact spec_AreSlots.mono _ _ | exact spec_SlotOf.mono _ _ _ | exact spec_SmallestFree.mono _ _ _ | exact LeO.none _ | refine LeO.ite ?_ ?_ | refine LeO.bind ?_ (fun _ => ?_))
theorem spec_PutAway.mono : ∀ a0 a1 a2 a3 a4 a5 k, LeO (spec_PutAway.f k a0 a1 a2 a3 a4 a5) (spec_PutAway.f (k + 1) a0 a1 a2 a3 a4 a5) := by
 intro a0 a1 a2 a3 a4 a5 k; obtain ⟨ih0, ih1⟩ := spec_PutAway.mono_l k; unfold spec_PutAway.f
 repeat' first
   | (with_reducible exact ih0 _ _ _ _ _ _ _ _)
   | (with_reducible exact ih1 _ _ _ _ _ _ _ _)
   | (with_reducible exact spec_AreSlots.mono _ _)
   | (with_reducible exact spec_SlotOf.mono _ _ _)
   | (with_reducible exact spec_SmallestFree.mono _ _ _)
   | (with_reducible exact LeO.refl _)
   | (with_reducible exact LeO.none _)
   | (with_reducible refine LeO.ite ?_ ?_)
   | (with_reducible refine LeO.bind ?_ (fun _ => ?_))
   | exact ih0 _ _ _ _ _ _ _ _
   | exact ih1 _ _ _ _ _ _ _ _
   | exact spec_AreSlots.mono _ _
   | exact spec_SlotOf.mono _ _ _
   | exact spec_SmallestFree.mono _ _ _
   | exact LeO.none _
   | refine LeO.ite ?_ ?_
   | refine LeO.bind ?_ (fun _ => ?_)
set_option maxHeartbeats 8000000 in
set_option maxRecDepth 100000 in
theorem spec_PutAway.calls (k : Nat) (A0 : Option Addr) (c0 : Nat) (l0 : List (S51)) (a1_0 : Int) (a1_1 : Int) (a1_2 : Int) (a1_3 : Int) (a1_4 : Int) (r1 : List (S51)) (r2 : Bool) (w : World) (hr0 : Kd.C k51 w A0 l0.length l0) (hc0 : l0.length ≤ c0) (h : spec_PutAway.f k l0 a1_0 a1_1 a1_2 a1_3 a1_4 = some (r1, r2)) :
  Calls Try.prog 80 #[.slice A0 l0.length c0, .agg #[.int .i64 a1_0, .int .i64 a1_1, .int .i64 a1_2, .int .i64 a1_3, .int .i64 a1_4]] w fun e w' => ∃ v0_ : Value, e = .returned (.tuple #[v0_, .bool r2]) ∧ Kd.R k51 51 w' w.heap.size (fun _ => True) v0_ r1 ∧ Below w.heap.size w w' := by
 have hu47 := Try.underlying47; have ag := Aside0.mk hr0; have al := Aside0.mk hc0; clear hr0 hc0; have HB := aM (Below.refl w.heap.size w); have H : ((some (([] : List (S51)) : List (S51))).bind fun am => (if am.length + l0.length < 5864062014805 then ((some (am ++ l0 : List (S51))).bind fun af => ((spec_SmallestFree.f k l0 a1_3).bind fun aa => ((spec_AreSlots.f k l0).bind fun aH => (if aH = true then ((spec_IsThing.f a1_0 a1_1 a1_2 a1_3 a1_4).bind fun aI => (if aI = true then (if aa = 0 then (spec_PutAway.j0 k af aa true a1_0 a1_1 a1_2 a1_3 a1_4) else ((spec_SlotOf.f k l0 a1_0).bind fun aw => (spec_PutAway.j0 k af aa (aw != 0) a1_0 a1_1 a1_2 a1_3 a1_4))) else (spec_PutAway.j0 k af aa true a1_0 a1_1 a1_2 a1_3 a1_4))) else (spec_PutAway.j0 k af aa true a1_0 a1_1 a1_2 a1_3 a1_4))))) else (none))) = some (r1, r2) := h; clear h; obtain ⟨am, ax⟩ : ∃ y_ : List (S51), y_ = (([] : List (S51))) := ⟨_, rfl⟩
 (first | replace H := bY H ax | rw [← ax] at H | skip); have aW := Aside0.mk ax; clear ax; by_cases c3 : am.length + l0.length < 5864062014805
 ·rw [if_pos c3] at H; have ca := Aside0.mk c3; clear c3; obtain ⟨af, ay⟩ : ∃ y_ : List (S51), y_ = (am ++ l0) := ⟨_, rfl⟩
  (first | replace H := bY H ay | rw [← ay] at H | skip); have cc := Aside0.mk ay; clear ay; replace H := Option.bind_eq_some_iff.mp H; obtain ⟨aa, aX, H⟩ := H; have A4 := Aside0.mk aX; clear aX; have aJ := Aside0.mk H; clear H; go_enter Try.func80, Try.ntmps80; go_upto_region 3 with (first | ((with_reducible refine gate_dst (N := 3) rfl ?_); refine bx 3 #[.int .i64 a1_0, .int .i64 a1_1, .int .i64 a1_2, .int .i64 a1_3, .int .i64 a1_4] 47 ?_; intro ad hg w6 hbox hb; have D := aM hbox; have cy := aM ((by rw [hg]; exact (below_size (qB HB)) : w.heap.size ≤ ad)); have Y := aM ((by rw [hg]; exact (below_size (qB HB)) : w.heap.size ≤ ad)); replace HB := aM (below_step (qB HB) hb); clear hb hbox hg) | ((with_reducible refine gate_dst (N := 9) rfl ?_); refine Kd.R_lit k51 _ 51 ?hg (N := 9) ?hd (xs := ([] : List (S51))) (inner := []) (ok := fun _ => True) (okp := fun _ => True) ?hr ?hp (fun _ hk => hk) trivial (Below.refl _ _) (Nat.le_refl _) (by simp) ?_; (case hd => rfl); (case hg => rfl); (case hr => first | (go_simp; done) | (go_simp; rfl)); (case hp => exact (Reps.none _ _)); intro ce w7 au hb hg_ hnew_; clear hg_ hnew_; (first | rw [← aW.out] at au | (simp only [Int.reduceToNat] at au; rw [← aW.out] at au)); have aK := aM (Kd.R_lower au (below_size (tB1 Y))); replace D := aM (blk_below (qK D) hb); replace HB := aM (below_step (tB1 Y) hb); clear hb au) | ((with_reducible refine gate_builtin (b := .append) (xs := #[.tmp 9, .tmp 10]) rfl ?_); at_builtin; refine Kd.R_append_rows k51 (w0 := w) w.heap.size rfl (.tmp 9) (.tmp 10) 27 51 (.agg #[(.int .i64 0), (.int .i64 0), (.int .i64 0)]) 24 rfl Try.underlying27 info51 rfl (by decide) (by omega) ce am l0 _ _ _ (fun _ => True) (fun _ => False) rfl rfl ?aO ?aR (fun _ _ h => h) (fun _ h => h.elim) ?aF ?aB ?aS ?aL ?_; (case aR => exact qC (Kd.C_below ag.out HB.out)); (case aB => exact (tB1 Y)); (case aF => exact (fun _ _ => trivial)); (case aO => exact (qR aK)); (case aS => exact (below_size (tB1 Y))); (case aL => have := ca.out; omega); intro aY w9 ho hb hg hat; rw [← cc.out] at ho; replace D := aM (blk_grown (qK D) hg (Kd.R_ne aK.out D.out (by decide))); replace HB := aM hb; have ab := aM ho; clear aK; clear ho hb hg hat; obtain ⟨aZ, a6, a7, a8, a9⟩ := cz5 D; obtain ⟨a_, ba, bb, bc, bd⟩ := fz5 D) | ((with_reducible refine gate_callee (f := 118) rfl ?_); refine gl 15 Try.func118 #[.slice A0 l0.length c0, .int .i64 a1_3] ?_; (with_reducible refine (spec_SmallestFree.calls k _ _ l0 a1_3 aa _ ?side1 ?side2 A4.out).mono ?_); (case side1 => exact qC (Kd.C_below ag.out HB.out)); (case side2 => exact al.out); rintro e w' ⟨rfl, ⟨nd, rfl⟩⟩; refine ⟨_, rfl, ?_⟩))
  (try simp only [Act.put, sA, sZ, sS]); go_cut [34] (fun cf wc => ∃ (kq : Nat) (az : Bool), cf = .bool az ∧ Aside0 (spec_PutAway.j0 kq af aa az a1_0 a1_1 a1_2 a1_3 a1_4 = some (r1, r2)) ∧ Aside0 (kq ≤ k) ∧ Aside0 (Kd.R k51 51 wc w.heap.size (fun _ => True) aY af) ∧ Aside0 (wc.heap[ad]? = some (.cells #[.int .i64 a1_0, .int .i64 a1_1, .int .i64 a1_2, .int .i64 a1_3, .int .i64 a1_4] 47 (0, 0))) ∧ Aside0 (Below w.heap.size w wc))
  case first =>
   have H := aJ.out; clear aJ; replace H := Option.bind_eq_some_iff.mp H; obtain ⟨aH, be, H⟩ := H; have aA := Aside0.mk be; clear be; by_cases ap : aH = true
   ·subst ap; rw [if_pos rfl] at H; replace H := Option.bind_eq_some_iff.mp H; obtain ⟨aI, bf, H⟩ := H; have aN := Aside0.mk bf; clear bf; by_cases aq : aI = true
    ·subst aq; rw [if_pos rfl] at H; by_cases ae : aa = 0
     ·rw [if_pos ae] at H; have ah : (aa == 0) = true := beq_iff_eq.mpr ae; have aP : (aa != 0) = false := bne_eq_false_iff_eq.mpr ae; clear ae; (first | rw [ah] | (simp only [i64_w, i32_w]; rw [ah]) | skip); have H' := Aside0.mk H; clear H; go_wp2_with (first | ((with_reducible refine gate_callee (f := 59) rfl ?_); refine gl 17 Try.func59 #[.slice A0 l0.length c0] ?_; (with_reducible refine (spec_AreSlots.calls k _ _ l0 true _ ?side1 ?side2 aA.out).mono ?_); (case side1 => exact qC (Kd.C_below ag.out HB.out)); (case side2 => exact al.out); rintro e cE ⟨rfl, hb⟩; refine ⟨_, rfl, ?_⟩; replace ab := aM (Kd.R_below (qR ab) hb); replace D := aM (blk_below (qK D) hb); replace HB := aM (below_step (tB1 Y) hb); (try clear hb); (try clear hb2); (try clear hk); (try clear hi); obtain ⟨bg, bh, bi, bj, bk⟩ := cz5 D; obtain ⟨bl, bm, bn, bo, bp⟩ := fz5 D) | (go_at_call 104; (with_reducible refine (spec_IsThing.calls a1_0 a1_1 a1_2 a1_3 a1_4 true _ aN.out).mono ?_); rintro e cF ⟨rfl, hb⟩; replace ab := aM (Kd.R_below (qR ab) hb); replace D := aM (blk_below (qK D) hb); replace HB := aM (below_step (tB1 Y) hb); (try clear hb); (try clear hb2); (try clear hk); (try clear hi))); go_meet
      case rel => exact ⟨_, (true), tS, H', ⟨by first | omega | exact Nat.le_refl _⟩, ⟨tR ab⟩, ⟨tK D⟩, ⟨tB1 Y⟩⟩
     ·rw [if_neg ae] at H; have ah : (aa == 0) = false := beq_eq_false_iff_ne.mpr ae; have aP : (aa != 0) = true := bne_iff_ne.mpr ae; (first | rw [ah] | (simp only [i64_w, i32_w]; rw [ah]) | skip); replace H := Option.bind_eq_some_iff.mp H; obtain ⟨aw, bq, H⟩ := H; have cg := Aside0.mk bq; clear bq; have H' := Aside0.mk H; clear H; go_wp2_with (first | ((with_reducible refine gate_callee (f := 59) rfl ?_); refine gl 17 Try.func59 #[.slice A0 l0.length c0] ?_; (with_reducible refine (spec_AreSlots.calls k _ _ l0 true _ ?side1 ?side2 aA.out).mono ?_); (case side1 => exact qC (Kd.C_below ag.out HB.out)); (case side2 => exact al.out); rintro e cG ⟨rfl, hb⟩; refine ⟨_, rfl, ?_⟩; replace ab := aM (Kd.R_below (qR ab) hb); replace D := aM (blk_below (qK D) hb); replace HB := aM (below_step (tB1 Y) hb); (try clear hb); (try clear hb2); (try clear hk); (try clear hi); obtain ⟨br, bs, bt, bu, bv⟩ := cz5 D; obtain ⟨bw, bz, bB, bC, bE⟩ := fz5 D) | (go_at_call 104; (with_reducible refine (spec_IsThing.calls a1_0 a1_1 a1_2 a1_3 a1_4 true _ aN.out).mono ?_); rintro e cH ⟨rfl, hb⟩; replace ab := aM (Kd.R_below (qR ab) hb); replace D := aM (blk_below (qK D) hb); replace HB := aM (below_step (tB1 Y) hb); (try clear hb); (try clear hb2); (try clear hk); (try clear hi); obtain ⟨bF, bG, bH, bI, bJ⟩ := cz5 D; obtain ⟨bK, bL, bM, bO, bP⟩ := fz5 D) | (go_at_call 58; (with_reducible refine (spec_SlotOf.calls k _ _ l0 a1_0 aw _ ?side1 ?side2 cg.out).mono ?_); (case side1 => exact qC (Kd.C_below ag.out HB.out)); (case side2 => exact al.out); rintro e w' ⟨rfl, ⟨nd, rfl⟩⟩)); go_meet
      case rel => exact ⟨_, ((aw != 0)), tS, H', ⟨by first | omega | exact Nat.le_refl _⟩, ⟨tR ab⟩, ⟨tK D⟩, ⟨tB1 Y⟩⟩
    ·replace aq := Bool.eq_false_iff.mpr aq; subst aq; rw [if_neg ff_] at H; have H' := Aside0.mk H; clear H; go_wp2_with (first | ((with_reducible refine gate_callee (f := 59) rfl ?_); refine gl 17 Try.func59 #[.slice A0 l0.length c0] ?_; (with_reducible refine (spec_AreSlots.calls k _ _ l0 true _ ?side1 ?side2 aA.out).mono ?_); (case side1 => exact qC (Kd.C_below ag.out HB.out)); (case side2 => exact al.out); rintro e cI ⟨rfl, hb⟩; refine ⟨_, rfl, ?_⟩; replace ab := aM (Kd.R_below (qR ab) hb); replace D := aM (blk_below (qK D) hb); replace HB := aM (below_step (tB1 Y) hb); (try clear hb); (try clear hb2); (try clear hk); (try clear hi); obtain ⟨bQ, bT, bU, bV, bW⟩ := cz5 D; obtain ⟨bX, bZ, b0, b1, b2⟩ := fz5 D) | (go_at_call 104; (with_reducible refine (spec_IsThing.calls a1_0 a1_1 a1_2 a1_3 a1_4 false _ aN.out).mono ?_); rintro e cJ ⟨rfl, hb⟩; replace ab := aM (Kd.R_below (qR ab) hb); replace D := aM (blk_below (qK D) hb); replace HB := aM (below_step (tB1 Y) hb); (try clear hb); (try clear hb2); (try clear hk); (try clear hi))); go_meet
     case rel => exact ⟨_, (true), tS, H', ⟨by first | omega | exact Nat.le_refl _⟩, ⟨tR ab⟩, ⟨tK D⟩, ⟨tB1 Y⟩⟩
   ·replace ap := Bool.eq_false_iff.mpr ap; subst ap; rw [if_neg ff_] at H; have H' := Aside0.mk H; clear H; go_wp2_with (first | ((with_reducible refine gate_callee (f := 59) rfl ?_); refine gl 17 Try.func59 #[.slice A0 l0.length c0] ?_; (with_reducible refine (spec_AreSlots.calls k _ _ l0 false _ ?side1 ?side2 aA.out).mono ?_); (case side1 => exact qC (Kd.C_below ag.out HB.out)); (case side2 => exact al.out); rintro e cK ⟨rfl, hb⟩; refine ⟨_, rfl, ?_⟩; replace ab := aM (Kd.R_below (qR ab) hb); replace D := aM (blk_below (qK D) hb); replace HB := aM (below_step (tB1 Y) hb); (try clear hb); (try clear hb2); (try clear hk); (try clear hi))); go_meet
    case rel => exact ⟨_, (true), tS, H', ⟨by first | omega | exact Nat.le_refl _⟩, ⟨tR ab⟩, ⟨tK D⟩, ⟨tB1 Y⟩⟩
  case rest =>
   clear aJ; try clear c1
   try clear p2
   try clear c3
   try clear c5
   try clear c8
   try clear ck
   try clear ap
   try clear aq
   try clear ae
   try clear ah
   try clear aP
   try clear aZ
   try clear a6
   try clear a7
   try clear a8
   try clear a9
   try clear bg
   try clear bh
   try clear bi
   try clear bj
   try clear bk
   try clear br
   try clear bs
   try clear bt
   try clear bu
   try clear bv
   try clear bF
   try clear bG
   try clear bH
   try clear bI
   try clear bJ
   try clear bQ
   try clear bT
   try clear bU
   try clear bV
   try clear bW
   try clear a_
   try clear ba
   try clear bb
   try clear bc
   try clear bd
   try clear bl
   try clear bm
   try clear bn
   try clear bo
   try clear bp
   try clear bw
   try clear bz
   try clear bB
   try clear bC
   try clear bE
   try clear bK
   try clear bL
   try clear bM
   try clear bO
   try clear bP
   try clear bX
   try clear bZ
   try clear b0
   try clear b1
   try clear b2
   obtain ⟨kq, az, rfl, HA, aC, ac, D, HB⟩ := hcut; cases kq with
   | zero => exact absurd HA.out (by simp [spec_PutAway.j0])
   | succ b3 =>
    have H := HA.out; clear HA; simp only [spec_PutAway.j0] at H; by_cases av : az = true
    ·subst av; rw [if_pos rfl] at H; simp only [Option.some.injEq, Prod.mk.injEq] at H; obtain ⟨rfl, rfl⟩ := H; go_wp2; go_ret2; exact ⟨_, tE, tR ac, tB1 Y⟩
    ·replace av := Bool.eq_false_iff.mpr av; subst av; rw [if_neg ff_] at H; have H' := Aside0.mk H; clear H; go_wp2; go_loopg [8] b3 (fun kq v8 w' => ∃ (L : List (S51)) (J : Int), v8 = .int .i64 J ∧ Aside0 (spec_PutAway.l0 kq L aa J a1_0 a1_1 a1_2 a1_3 a1_4 = some (r1, r2)) ∧ Aside0 (kq ≤ b3) ∧ Aside0 (Kd.R k51 51 w' w.heap.size (fun _ => True) aY L) ∧ Aside0 (w'.heap[ad]? = some (.cells #[.int .i64 a1_0, .int .i64 a1_1, .int .i64 a1_2, .int .i64 a1_3, .int .i64 a1_4] 47 (0, 0))) ∧ Aside0 (Below w.heap.size w w'))
     case atStart => exact ⟨(af), (0), tS, H', ⟨Nat.le_refl _⟩, ⟨tR ac⟩, ⟨tK D⟩, ⟨tB1 Y⟩⟩
     case round =>
      clear H'; try clear c1
      try clear c2
      try clear p2
      try clear c3
      try clear c5
      try clear c8
      try clear ck
      try clear ap
      try clear aq
      try clear ae
      try clear ah
      try clear aP
      try clear av
      try clear aZ
      try clear a6
      try clear a7
      try clear a8
      try clear a9
      try clear bg
      try clear bh
      try clear bi
      try clear bj
      try clear bk
      try clear br
      try clear bs
      try clear bt
      try clear bu
      try clear bv
      try clear bF
      try clear bG
      try clear bH
      try clear bI
      try clear bJ
      try clear bQ
      try clear bT
      try clear bU
      try clear bV
      try clear bW
      try clear a_
      try clear ba
      try clear bb
      try clear bc
      try clear bd
      try clear bl
      try clear bm
      try clear bn
      try clear bo
      try clear bp
      try clear bw
      try clear bz
      try clear bB
      try clear bC
      try clear bE
      try clear bK
      try clear bL
      try clear bM
      try clear bO
      try clear bP
      try clear bX
      try clear bZ
      try clear b0
      try clear b1
      try clear b2
      try clear p2
      obtain ⟨L, J, rfl, HA, aD, ac, D, HB⟩ := hrel; cases gk with
      | zero => exact absurd HA.out (by simp [spec_PutAway.l0])
      | succ k2 =>
       have H := HA.out; clear HA; simp only [spec_PutAway.l0] at H; by_cases ar : J < (L.length : Int)
       ·rw [if_pos ar] at H; have cm : decide (J < (L.length : Int)) = true := decide_eq_true ar; clear ar; by_cases aE : 0 ≤ J
        ·rw [if_pos aE] at H; have cM : decide (0 ≤ J) = true := decide_eq_true aE; clear aE; by_cases ai : ((rd_T51 L J).f0) = aa
         ·rw [if_pos ai] at H; have cn : (((rd_T51 L J).f0) == aa) = true := beq_iff_eq.mpr ai; have co : (((rd_T51 L J).f0) != aa) = false := bne_eq_false_iff_eq.mpr ai; clear ai; obtain ⟨b4, aG⟩ : ∃ y_ : List (S51), y_ = (L.set (J : Int).toNat (⟨(rd_T51 L J).f0, (rd_T51 L J).f1, a1_0⟩ : S51)) := ⟨_, rfl⟩
          (first | replace H := bY H aG | rw [← aG] at H | skip); have cp := Aside0.mk aG; clear aG; have H' := Aside0.mk H; clear H; obtain ⟨cN, b5, cq⟩ := Kd.R_slice ac.out; subst cq; have aj : 0 ≤ (J : Int) := of_decide_eq_true ‹_›; have ak : J < (L.length : Int) := of_decide_eq_true ‹_›; obtain ⟨cr, aQ, b6, b7, b8⟩ := at_T51 (Kd.R_reads' ac.out).2.2 J aj ak; cases aQ
          replace aj := eq_true aj; replace ak := eq_true ak; have cO : wr.cell? ⟨ad, 0, none⟩ = some (.int .i64 a1_0) := cC D 0; have cP : wr.cell? ⟨ad, 1, none⟩ = some (.int .i64 a1_1) := cC D 1; have cQ : wr.cell? ⟨ad, 2, none⟩ = some (.int .i64 a1_2) := cC D 2; have cR : wr.cell? ⟨ad, 3, none⟩ = some (.int .i64 a1_3) := cC D 3; have cS : wr.cell? ⟨ad, 4, none⟩ = some (.int .i64 a1_4) := cC D 4; have cT := blk_frozen D.out 0; have cU := blk_frozen D.out 1; have cV := blk_frozen D.out 2; have cW := blk_frozen D.out 3; have cX := blk_frozen D.out 4; have aT : 0 ≤ (J : Int) := of_decide_eq_true ‹_›; have aU : (J : Int) < ((L.length : Int) : Int) := of_decide_eq_true ‹_›; obtain ⟨go32, cY, b9, b_, gl32, cl32, HG32⟩ := Kd.R_form ac.out (by omega); (first | cases b9 | (injection b9 with ea_ en_ ec_; (first | subst ea_ | (injection ea_ with ea_; subst ea_)); subst ec_; clear en_)); have GB32 := Aside0.mk b_; have GG32 := Aside0.mk HG32; clear b_ gl32 HG32; (first | simp only [add_plain] at b6 | skip); (first | simp only [add_plain] at b7 | skip); (first | simp only [add_plain] at b8 | skip); obtain ⟨ce32, hcl32, hM32, hcc32, hfr32⟩ := Kd.R_elem ac.out z51 (J : Int) aT aU; obtain rfl := k51_openM hM32; have cZ : wr.cell? ⟨go32, (J : Int).toNat * 3, none⟩ = some (.int .i64 ((rd_T51 L J).f0)) := hcc32 0 _ rfl; have c_ : wr.cell? ⟨go32, (J : Int).toNat * 3 + 1, none⟩ = some (.int .i64 ((rd_T51 L J).f1)) := hcc32 1 _ rfl; have da : wr.cell? ⟨go32, (J : Int).toNat * 3 + 2, none⟩ = some (.int .i64 ((rd_T51 L J).f2)) := hcc32 2 _ rfl; have hf32_0 : wr.frozen? ⟨go32, (J : Int).toNat * 3, none⟩ = false := hfr32 0; have hf32_1 : wr.frozen? ⟨go32, (J : Int).toNat * 3 + 1, none⟩ = false := hfr32 1; have hf32_2 : wr.frozen? ⟨go32, (J : Int).toNat * 3 + 2, none⟩ = false := hfr32 2; clear hcl32 hcc32 hfr32 hM32; replace aT := eq_true aT; replace aU := eq_true aU; have HX35 := aM (show Kd.R k51 51 wr w.heap.size (fun _ => True) (.slice (some ⟨go32, 0, none⟩) L.length b5) L from (qR ac)); obtain ⟨ce35, hcl35, hM35, hcc35, hfr35⟩ := Kd.R_elem HX35.out z51 (J : Int) (of_decide_eq_true ‹_›) (tL J L.length ac); obtain rfl := k51_openM hM35; have HP35 := Kd.R_seg HX35.out (J : Int) (of_decide_eq_true ‹_›) (tL J L.length ac) (seg := [.int .i64 a1_0]) (j := 2) hcl35 hcc35 (show 3 ≤ 3 from by decide) (x' := (⟨(rd_T51 L J).f0, (rd_T51 L J).f1, a1_0⟩ : S51)) (k51_mkM _ _ _ (⟨(rd_T51 L J).f0, (rd_T51 L J).f1, a1_0⟩ : S51) ) (fun _ hk => hk); have ct := hcc35 2 _ rfl; (try simp only [show (k51).sz = 3 from rfl, Nat.mul_one, Nat.add_zero] at ct); have hf35_2 := hfr35 2; (try simp only [show (k51).sz = 3 from rfl, Nat.mul_one, Nat.add_zero] at hf35_2); clear hcl35 hcc35 hfr35 hM35; go_wp2_with (first | ((with_reducible refine gate_store (t := 3) (p := 54) rfl ?_); refine store_event (t := 3) (p := 54) (v := ?vo_w36) (w1 := (wr.setCell ⟨go32, (J : Int).toNat * 3 + 2, none⟩ (.int .i64 a1_0))) ?hg ?ho ?hn ?hr ?_; (case ho => rfl); (case hg => rfl); (case hn => rfl); (case hr => first | (go_simp; done) | (go_simp; rfl)); intro aV hw; have hg : wr.grownBy aV (some go32) := (by rw [hw]; exact HP35.2); have hp_ : Kd.R k51 51 aV w.heap.size (fun _ => True) (.slice (some ⟨go32, 0, none⟩) L.length b5) b4 := (by rw [hw, cp.out]; exact HP35.1); clear HP35; replace D := aM (blk_grown (qK D) hg (Kd.R_ne ac.out D.out (by decide))); replace ac := aM hp_; replace HB := aM ((by rw [hw]; exact below_set (HB.out) GB32.out : Below w.heap.size w aV)); clear hg hw hp_)); go_roundg k2
          case measure => have := aC.out; have := aD.out; omega
          case rel => exact ⟨(b4), (wrap64 (J + 1)), tS, H', ⟨by have := aC.out; have := aD.out; omega⟩, ⟨tR ac⟩, ⟨tK D⟩, ⟨tB1 Y⟩⟩
         ·rw [if_neg ai] at H; have cn : (((rd_T51 L J).f0) == aa) = false := beq_eq_false_iff_ne.mpr ai; have co : (((rd_T51 L J).f0) != aa) = true := bne_iff_ne.mpr ai; have H' := Aside0.mk H; clear H; obtain ⟨dd, de, cu⟩ := Kd.R_slice ac.out; subst cu; have aj : 0 ≤ (J : Int) := of_decide_eq_true ‹_›; have ak : J < (L.length : Int) := of_decide_eq_true ‹_›; obtain ⟨cr, aQ, b6, b7, b8⟩ := at_T51 (Kd.R_reads' ac.out).2.2 J aj ak; cases aQ
          replace aj := eq_true aj; replace ak := eq_true ak; go_wp2; go_roundg k2
          case measure => have := aC.out; have := aD.out; omega
          case rel => exact ⟨(L), (wrap64 (J + 1)), tS, H', ⟨by have := aC.out; have := aD.out; omega⟩, ⟨tR ac⟩, ⟨tK D⟩, ⟨tB1 Y⟩⟩
        ·rw [if_neg aE] at H; exact absurd H (by simp)
       ·rw [if_neg ar] at H; have cm : decide (J < (L.length : Int)) = false := decide_eq_false ar; clear ar; simp only [Option.some.injEq, Prod.mk.injEq] at H; obtain ⟨rfl, rfl⟩ := H; obtain ⟨df, dg, cw⟩ := Kd.R_slice ac.out; subst cw; go_wp2; go_ret2; exact ⟨_, tE, tR ac, tB1 Y⟩
 ·rw [if_neg c3] at H; exact absurd H (by simp)

/-! ### spec_l1Byte: function 127 -/
def spec_l1Byte.f (s0_0 : List Int) (s0_1 : Int) (s0_2 : Int) : Option (Int × Int × Int) := if s0_1 < (s0_0.length : Int) then (if 0 ≤ s0_1 then (some (Go.bits .and .i64 (wrap64 ((Go.bits .and .i64 (Go.bits .xor .i64 ((wrap64 ((wrap64 (s0_2 * 6364136223846793005)) + 1442695040888963407)) / 8589934592) ((wrap64 ((wrap64 (s0_2 * 6364136223846793005)) + 1442695040888963407)) / 140737488355328)) 255) + (wrap64 (rd s0_0 s0_1)))) 255, wrap64 (s0_1 + 1), wrap64 ((wrap64 (s0_2 * 6364136223846793005)) + 1442695040888963407))) else (none)) else (some (Go.bits .and .i64 (Go.bits .xor .i64 ((wrap64 ((wrap64 (s0_2 * 6364136223846793005)) + 1442695040888963407)) / 8589934592) ((wrap64 ((wrap64 (s0_2 * 6364136223846793005)) + 1442695040888963407)) / 140737488355328)) 255, s0_1, wrap64 ((wrap64 (s0_2 * 6364136223846793005)) + 1442695040888963407)))
set_option maxHeartbeats 8000000 in
set_option maxRecDepth 100000 in
theorem spec_l1Byte.calls (g : Nat) (s0_0 : List Int) (s0_1 : Int) (s0_2 : Int) (r1 : Int) (r2 : Int) (r3 : Int) (w0 w : World) (hI : IsS124 w0 w g s0_0 s0_1 s0_2) (hB : Below w0.heap.size w0 w) (h : spec_l1Byte.f s0_0 s0_1 s0_2 = some (r1, r2, r3)) :
  Calls Try.prog 127 #[.pointer (some ⟨g, 0, none⟩)] w fun e w' => e = .returned (.int .i64 r1) ∧ IsS124 w0 w' g s0_0 r2 r3 ∧ Below w0.heap.size w0 w' ∧ KeepBut w w' g none := by
 have HI0 := Aside0.mk hI; have HK := aM (KeepBut.refl w g none); have HL := Aside0.mk hB.size; clear hI; have ae := Aside0.mk hB.size; have HB := Aside0.mk hB; clear hB; have H : (if s0_1 < (s0_0.length : Int) then (if 0 ≤ s0_1 then (some (Go.bits .and .i64 (wrap64 ((Go.bits .and .i64 (Go.bits .xor .i64 ((wrap64 ((wrap64 (s0_2 * 6364136223846793005)) + 1442695040888963407)) / 8589934592) ((wrap64 ((wrap64 (s0_2 * 6364136223846793005)) + 1442695040888963407)) / 140737488355328)) 255) + (wrap64 (rd s0_0 s0_1)))) 255, wrap64 (s0_1 + 1), wrap64 ((wrap64 (s0_2 * 6364136223846793005)) + 1442695040888963407))) else (none)) else (some (Go.bits .and .i64 (Go.bits .xor .i64 ((wrap64 ((wrap64 (s0_2 * 6364136223846793005)) + 1442695040888963407)) / 8589934592) ((wrap64 ((wrap64 (s0_2 * 6364136223846793005)) + 1442695040888963407)) / 140737488355328)) 255, s0_1, wrap64 ((wrap64 (s0_2 * 6364136223846793005)) + 1442695040888963407)))) = some (r1, r2, r3) := h; clear h; by_cases D : s0_1 < (s0_0.length : Int)
 ·rw [if_pos D] at H; have ab : decide (s0_1 < (s0_0.length : Int)) = true := decide_eq_true D; clear D; by_cases L : 0 ≤ s0_1
  ·rw [if_pos L] at H; have af : decide (0 ≤ s0_1) = true := decide_eq_true L; clear L; simp only [Option.some.injEq, Prod.mk.injEq] at H; obtain ⟨rfl, rfl, rfl⟩ := H; obtain ⟨ASz4_0, cSz4_0, HGz4, hgz4, HSz4_0⟩ := HI0.out; have ag := cellS124_0 HGz4; have ah := cellS124_1 HGz4; have ai := cellS124_2 HGz4; have aj := blk_frozen HGz4 1; have ak := blk_frozen HGz4 2; clear HGz4 hgz4; have Y : 0 ≤ (s0_1 : Int) := of_decide_eq_true ‹_›; have aa : s0_1 < (s0_0.length : Int) := of_decide_eq_true ‹_›; obtain ⟨ac, ad, J⟩ := Kd.at_int HSz4_0 s0_1 Y aa; cases ad
   have hn225_0 : ac.block ≠ g := Nat.ne_of_lt (Nat.lt_of_lt_of_le (by have := World.block_lt_of_cell? _ _ J; first | rwa [add_block] at this | exact this) (IsS124.ge HI0.out)); replace J := pw_cell_below HB.out J; replace J := (cell_far (p := ⟨g, 2, none⟩) (by first | (rw [add_block]; exact hn225_0) | (show (Addr.add _ _).block ≠ _; rw [add_block]; exact hn225_0) | exact hn225_0) (.int .i64 (wrap64 ((wrap64 (s0_2 * 6364136223846793005)) + 1442695040888963407)))).trans J; (try have hy225_0 := fun (n_ : Nat) => (show (((w.drewN n_).setCell ⟨g, 2, none⟩ (.int .i64 (wrap64 ((wrap64 (s0_2 * 6364136223846793005)) + 1442695040888963407))))).cell? _ = some _ from J)); clear hn225_0; replace Y := eq_true Y; replace aa := eq_true aa; go_enter Try.func127, Try.ntmps127; go_wp2; repeat (go_quiet (fail); try go_wp2)
   go_ret; exact ⟨tE, by repeat (first | (with_reducible first | exact HI0.out | apply IsS124.alloc | apply IsS124.drewN | apply IsS124.drew | apply IsS124.set_1 | apply IsS124.set_2) | exact HI0.out), tB1 (aM (IsS124.ge HI0.out)), tH⟩
  ·rw [if_neg L] at H; exact absurd H (by simp)
 ·rw [if_neg D] at H; have ab : decide (s0_1 < (s0_0.length : Int)) = false := decide_eq_false D; clear D; simp only [Option.some.injEq, Prod.mk.injEq] at H; obtain ⟨rfl, rfl, rfl⟩ := H; obtain ⟨ASz5_0, cSz5_0, HGz5, hgz5, HSz5_0⟩ := HI0.out; have al := cellS124_0 HGz5; have am := cellS124_1 HGz5; have ao := cellS124_2 HGz5; have ap := blk_frozen HGz5 1; have aq := blk_frozen HGz5 2; clear HGz5 hgz5; go_enter Try.func127, Try.ntmps127; go_wp2; repeat (go_quiet (fail); try go_wp2)
  go_ret; exact ⟨tE, by repeat (first | (with_reducible first | exact HI0.out | apply IsS124.alloc | apply IsS124.drewN | apply IsS124.drew | apply IsS124.set_1 | apply IsS124.set_2) | exact HI0.out), tB1 (aM (IsS124.ge HI0.out)), tH⟩

end Go.Proofs.Ytbacepkkamfeoaa.PFnPacked
