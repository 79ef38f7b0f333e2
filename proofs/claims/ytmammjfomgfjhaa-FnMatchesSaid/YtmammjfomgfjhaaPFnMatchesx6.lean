-- The printed functions of one law and their contracts, over contracts of this session's own (hand.py).
import Derived.Test.YtmammjfomgfjhaaPFnMatchesx0
import Derived.Test.YtmammjfomgfjhaaPFnMatchesx5
namespace Go.Proofs.Ytmammjfomgfjhaa.PFnMatches
open Go.RowKit Go.Proofs.YtmammjfomgfjhaaW.PrintWords Go.Proofs.YtmammjfomgfjhaaW.PrintLast Go.Proofs.YtmammjfomgfjhaaW.PrintMore Go.Proofs.Ytmammjfomgfjhaa.Short
attribute [local go_sem] max2_int min2_int max_two min_two max_three min_three max_four min_four   -- for this text's walks alone
set_option linter.unusedVariables false
set_option linter.unusedSimpArgs false

/-! ### impl_isAscending: function 83 -/
def impl_isAscending.l0 : Nat → List Int → Int → Int → List Int → Int → Int → Option (Bool)
 | 0, _, _, _, _, _, _ => none
 | k + 1, x0, x1, x2, x9, J, D => if D < J then (if 0 ≤ D then (if D < (x9.length : Int) then ((impl_InRange.f (rd x9 D) x1 x2).bind fun L => (if L = true then (if D > 0 then (if 0 ≤ (wrap64 (D - 1)) then (if (wrap64 (D - 1)) < (x0.length : Int) then (if (rd x9 D) ≤ (rd x0 (wrap64 (D - 1))) then (some false) else (impl_isAscending.l0 k x0 x1 x2 x9 J (wrap64 (D + 1)))) else (none)) else (none)) else (impl_isAscending.l0 k x0 x1 x2 x9 J (wrap64 (D + 1)))) else (some false))) else (none)) else (none)) else (some true)
def impl_isAscending.f (k : Nat) (l0 : List Int) (a1 a2 : Int) : Option (Bool) := impl_isAscending.l0 k l0 a1 a2 l0 (l0.length : Int) 0
theorem impl_isAscending.mono_l : ∀ k, (∀ y0 y1 y2 y3 y4 y5, LeO (impl_isAscending.l0 k y0 y1 y2 y3 y4 y5) (impl_isAscending.l0 (k + 1) y0 y1 y2 y3 y4 y5))
 | 0 => fun _ _ _ _ _ _ r h => by simp [impl_isAscending.l0] at h
 | k + 1 => by
  have ih0 := impl_isAscending.mono_l k
  ·intro y0 y1 y2 y3 y4 y5; unfold impl_isAscending.l0
   repeat' first
   | (with_reducible exact ih0 _ _ _ _ _ _)
   | (with_reducible exact LeO.refl _)
   | (with_reducible exact LeO.none _)
   | (with_reducible refine LeO.ite ?_ ?_)
   | (with_reducible refine LeO.bind ?_ (fun _ => ?_))
   | exact ih0 _ _ _ _ _ _
   | exact LeO.none _
   | refine LeO.ite ?_ ?_
   | refine LeO.bind ?_ (fun _ => ?_)
theorem impl_isAscending.mono : ∀ a0 a1 a2 k, LeO (impl_isAscending.f k a0 a1 a2) (impl_isAscending.f (k + 1) a0 a1 a2) := by
 intro a0 a1 a2 k; have ih0 := impl_isAscending.mono_l k; unfold impl_isAscending.f
 repeat' first
   | (with_reducible exact ih0 _ _ _ _ _ _)
   | (with_reducible exact LeO.refl _)
   | (with_reducible exact LeO.none _)
   | (with_reducible refine LeO.ite ?_ ?_)
   | (with_reducible refine LeO.bind ?_ (fun _ => ?_))
   | exact ih0 _ _ _ _ _ _
   | exact LeO.none _
   | refine LeO.ite ?_ ?_
   | refine LeO.bind ?_ (fun _ => ?_)
set_option maxHeartbeats 8000000 in
set_option maxRecDepth 100000 in
theorem impl_isAscending.calls (k : Nat) (A0 : Option Addr) (c0 : Nat) (l0 : List Int) (a1 a2 : Int) (r : Bool) (w : World) (hr0 : Kd.C (Kd.int .i64) w A0 l0.length l0) (hc0 : l0.length ≤ c0) (h : impl_isAscending.f k l0 a1 a2 = some r) :
  Calls Try.prog 83 #[.slice A0 l0.length c0, .int .i64 a1, .int .i64 a2] w fun e w' => e = .returned (.bool r) ∧ Drawn0 w w' := by
 have ac := Aside0.mk hr0; have aD := Aside0.mk hc0; clear hr0 hc0; have H : (impl_isAscending.l0 k l0 a1 a2 l0 (l0.length : Int) 0) = some r := h; clear h; have H' := Aside0.mk H; clear H; go_enter Try.func83, Try.ntmps83; go_wp2; go_loopg [11] k (fun kq aw w' => ∃ (D : Int), aw = .int .i64 D ∧ Aside0 (impl_isAscending.l0 kq l0 a1 a2 l0 (l0.length : Int) D = some r) ∧ Aside0 (kq ≤ k) ∧ Drawn0 w w')
 case atStart => exact ⟨(0), tS, H', ⟨Nat.le_refl _⟩, by repeat (first | exact Drawn0.refl _ | apply Drawn0.step)⟩
 case round =>
  clear H'; try clear p2
  obtain ⟨D, rfl, HA, aj, ⟨m1, rfl⟩⟩ := hrel; cases gk with
  | zero => exact absurd HA.out (by simp [impl_isAscending.l0])
  | succ k1 =>
   have H := HA.out; clear HA; simp only [impl_isAscending.l0] at H; by_cases c4 : D < (l0.length : Int)
   ·rw [if_pos c4] at H; have ax : decide (D < (l0.length : Int)) = true := decide_eq_true c4; clear c4; by_cases c5 : 0 ≤ D
    ·rw [if_pos c5] at H; have aE : decide (0 ≤ D) = true := decide_eq_true c5; clear c5; by_cases c6 : D < (l0.length : Int)
     ·rw [if_pos c6] at H; have aG : decide (D < (l0.length : Int)) = true := decide_eq_true c6; clear c6; replace H := Option.bind_eq_some_iff.mp H; obtain ⟨ay, av, H⟩ := H; have A7 := Aside0.mk av; clear av; by_cases c8 : ay = true
      ·subst c8; rw [if_pos rfl] at H; by_cases c9 : D > 0
       ·rw [if_pos c9] at H; have az : decide (0 < D) = true := decide_eq_true c9; clear c9; obtain ⟨ji10, ah⟩ : ∃ j_ : Int, (wrap64 (D - 1)) = j_ := ⟨_, rfl⟩
        replace H : (if 0 ≤ (ji10) then (if (ji10) < (l0.length : Int) then (if (rd l0 D) ≤ (rd l0 (ji10)) then (some false) else (impl_isAscending.l0 k1 l0 a1 a2 l0 (l0.length : Int) (wrap64 (D + 1)))) else (none)) else (none)) = some r := by first | (rw [ah] at H; exact H) | (simp only [ah] at H ⊢; exact H)
        (try rw [ah] at A7); have hji10w : (IntKind.i64.wrap (D - 1)) = ji10 := (i64_w _).trans ah; by_cases ao : 0 ≤ (ji10)
        ·rw [if_pos ao] at H; have aH : decide (0 ≤ (ji10)) = true := decide_eq_true ao; clear ao; by_cases ap : (ji10) < (l0.length : Int)
         ·rw [if_pos ap] at H; have aI : decide ((ji10) < (l0.length : Int)) = true := decide_eq_true ap; clear ap; by_cases af : (rd l0 D) ≤ (rd l0 (ji10))
          ·rw [if_pos af] at H; have aA : decide ((rd l0 D) ≤ (rd l0 (ji10))) = true := decide_eq_true af; clear af; obtain rfl := Option.some.inj H; have J : 0 ≤ (D : Int) := of_decide_eq_true ‹_›; have L : D < (l0.length : Int) := of_decide_eq_true ‹_›; obtain ⟨ai, Y, aq⟩ := Kd.at_int ac.out D J L; cases Y
           replace J := eq_true J; replace L := eq_true L; go_wp2_with (first | ((with_reducible refine gate_callee (f := 63) rfl ?_); refine gl 19 Try.func63 #[.int .i64 (rd l0 D), .int .i64 a1, .int .i64 a2] ?_; (with_reducible refine (impl_InRange.calls (rd l0 D) a1 a2 true _ A7.out).mono ?_); rintro e w' ⟨rfl, ⟨nd, rfl⟩⟩; refine ⟨_, rfl, ?_⟩; have aa : 0 ≤ ((ji10) : Int) := of_decide_eq_true ‹_›; have ab : (ji10) < (l0.length : Int) := of_decide_eq_true ‹_›; obtain ⟨ar, au, aC⟩ := Kd.at_int ac.out (ji10) aa ab; obtain rfl : ai = ar := (by injection au); replace aa := eq_true aa; replace ab := eq_true ab)); go_ret; exact ⟨by first | rfl | (simp; done) | (simp only [← ah] <;> (first | rfl | simp)) | (simp [*]; done), by repeat (first | exact Drawn0.refl _ | apply Drawn0.step)⟩
          ·rw [if_neg af] at H; have aA : decide ((rd l0 D) ≤ (rd l0 (ji10))) = false := decide_eq_false af; clear af; have H' := Aside0.mk H; clear H; have J : 0 ≤ (D : Int) := of_decide_eq_true ‹_›; have L : D < (l0.length : Int) := of_decide_eq_true ‹_›; obtain ⟨ai, Y, aq⟩ := Kd.at_int ac.out D J L; cases Y
           replace J := eq_true J; replace L := eq_true L; go_wp2_with (first | ((with_reducible refine gate_callee (f := 63) rfl ?_); refine gl 19 Try.func63 #[.int .i64 (rd l0 D), .int .i64 a1, .int .i64 a2] ?_; (with_reducible refine (impl_InRange.calls (rd l0 D) a1 a2 true _ A7.out).mono ?_); rintro e w' ⟨rfl, ⟨nd, rfl⟩⟩; refine ⟨_, rfl, ?_⟩; have aa : 0 ≤ ((ji10) : Int) := of_decide_eq_true ‹_›; have ab : (ji10) < (l0.length : Int) := of_decide_eq_true ‹_›; obtain ⟨ar, au, aC⟩ := Kd.at_int ac.out (ji10) aa ab; obtain rfl : ai = ar := (by injection au); replace aa := eq_true aa; replace ab := eq_true ab)); go_roundg k1
           case measure => have := aj.out; omega
           case rel => exact ⟨(wrap64 (D + 1)), tS, H', ⟨by have := aj.out; omega⟩, by repeat (first | exact Drawn0.refl _ | apply Drawn0.step)⟩
         ·rw [if_neg ap] at H; exact absurd H (by simp)
        ·rw [if_neg ao] at H; exact absurd H (by simp)
       ·rw [if_neg c9] at H; have az : decide (0 < D) = false := decide_eq_false c9; clear c9; have H' := Aside0.mk H; clear H; have J : 0 ≤ (D : Int) := of_decide_eq_true ‹_›; have L : D < (l0.length : Int) := of_decide_eq_true ‹_›; obtain ⟨ai, Y, aq⟩ := Kd.at_int ac.out D J L; cases Y
        replace J := eq_true J; replace L := eq_true L; go_wp2_with (first | ((with_reducible refine gate_callee (f := 63) rfl ?_); refine gl 19 Try.func63 #[.int .i64 (rd l0 D), .int .i64 a1, .int .i64 a2] ?_; (with_reducible refine (impl_InRange.calls (rd l0 D) a1 a2 true _ A7.out).mono ?_); rintro e w' ⟨rfl, ⟨nd, rfl⟩⟩; refine ⟨_, rfl, ?_⟩)); go_roundg k1
        case measure => have := aj.out; omega
        case rel => exact ⟨(wrap64 (D + 1)), tS, H', ⟨by have := aj.out; omega⟩, by repeat (first | exact Drawn0.refl _ | apply Drawn0.step)⟩
      ·replace c8 := Bool.eq_false_iff.mpr c8; subst c8; rw [if_neg ff_] at H; obtain rfl := Option.some.inj H; have J : 0 ≤ (D : Int) := of_decide_eq_true ‹_›; have L : D < (l0.length : Int) := of_decide_eq_true ‹_›; obtain ⟨ai, Y, aq⟩ := Kd.at_int ac.out D J L; cases Y
       replace J := eq_true J; replace L := eq_true L; go_wp2_with (first | ((with_reducible refine gate_callee (f := 63) rfl ?_); refine gl 19 Try.func63 #[.int .i64 (rd l0 D), .int .i64 a1, .int .i64 a2] ?_; (with_reducible refine (impl_InRange.calls (rd l0 D) a1 a2 false _ A7.out).mono ?_); rintro e w' ⟨rfl, ⟨nd, rfl⟩⟩; refine ⟨_, rfl, ?_⟩)); go_ret; exact ⟨by first | rfl | (simp; done) | (simp [*]; done), by repeat (first | exact Drawn0.refl _ | apply Drawn0.step)⟩
     ·rw [if_neg c6] at H; exact absurd H (by simp)
    ·rw [if_neg c5] at H; exact absurd H (by simp)
   ·rw [if_neg c4] at H; have ax : decide (D < (l0.length : Int)) = false := decide_eq_false c4; clear c4; obtain rfl := Option.some.inj H; go_wp2; go_ret; exact ⟨by first | rfl | (simp; done) | (simp [*]; done), by repeat (first | exact Drawn0.refl _ | apply Drawn0.step)⟩

/-! ### impl_IsSpan: function 90 -/
def impl_IsSpan.f (a0_0 a0_1 : Int) : Option (Bool) := (impl_InRange.f a0_0 0 100000).bind fun t523 => (if t523 = true then ((impl_InRange.f a0_1 0 100000).bind fun t524 => (if t524 = true then (some (decide (a0_0 ≤ a0_1))) else (some false))) else (some false))
set_option maxHeartbeats 8000000 in
set_option maxRecDepth 100000 in
theorem impl_IsSpan.calls (a0_0 a0_1 : Int) (r : Bool) (w : World) (h : impl_IsSpan.f a0_0 a0_1 = some r) :
  Calls Try.prog 90 #[.agg #[.int .i64 a0_0, .int .i64 a0_1]] w fun e w' => e = .returned (.bool r) ∧ Below w.heap.size w w' := by
 have hu28 := Try.underlying28; have HB := aM (Below.refl w.heap.size w); have H : ((impl_InRange.f a0_0 0 100000).bind fun ab => (if ab = true then ((impl_InRange.f a0_1 0 100000).bind fun ac => (if ac = true then (some (decide (a0_0 ≤ a0_1))) else (some false))) else (some false))) = some r := h; clear h; replace H := Option.bind_eq_some_iff.mp H; obtain ⟨ab, ae, H⟩ := H; have A2 := Aside0.mk ae; clear ae; by_cases Y : ab = true
 ·subst Y; rw [if_pos rfl] at H; replace H := Option.bind_eq_some_iff.mp H; obtain ⟨ac, af, H⟩ := H; have A4 := Aside0.mk af; clear af; by_cases c5 : ac = true
  ·subst c5; rw [if_pos rfl] at H; obtain rfl := Option.some.inj H; go_enter Try.func90, Try.ntmps90; go_wp2_with (first | ((with_reducible refine gate_dst (N := 1) rfl ?_); refine bx 1 #[.int .i64 a0_0, .int .i64 a0_1] 28 ?_; intro D hg w6 hbox hb; have J := aM hbox; have ah := aM ((by rw [hg]; exact (below_size (qB HB)) : w.heap.size ≤ D)); have L := aM ((by rw [hg]; exact (below_size (qB HB)) : w.heap.size ≤ D)); replace HB := aM (below_step (qB HB) hb); clear hb hbox hg; obtain ⟨aj, ak⟩ := cz2 J; obtain ⟨al, am⟩ := fz2 J) | ((with_reducible refine gate_callee (f := 63) rfl ?_); refine gl 5 Try.func63 #[.int .i64 a0_0, .int .i64 0, .int .i64 100000] ?_; (with_reducible refine (impl_InRange.calls a0_0 0 100000 true _ A2.out).mono ?_); rintro e w' ⟨rfl, ⟨nd, rfl⟩⟩; refine ⟨_, rfl, ?_⟩) | (go_at_call 63; (with_reducible refine (impl_InRange.calls a0_1 0 100000 true _ A4.out).mono ?_); rintro e w' ⟨rfl, ⟨nd, rfl⟩⟩)); go_ret; exact ⟨tE, tB1 L⟩
  ·replace c5 := Bool.eq_false_iff.mpr c5; subst c5; rw [if_neg ff_] at H; obtain rfl := Option.some.inj H; go_enter Try.func90, Try.ntmps90; go_wp2_with (first | ((with_reducible refine gate_dst (N := 1) rfl ?_); refine bx 1 #[.int .i64 a0_0, .int .i64 a0_1] 28 ?_; intro D hg w8 hbox hb; have J := aM hbox; have ah := aM ((by rw [hg]; exact (below_size (qB HB)) : w.heap.size ≤ D)); have L := aM ((by rw [hg]; exact (below_size (qB HB)) : w.heap.size ≤ D)); replace HB := aM (below_step (qB HB) hb); clear hb hbox hg; obtain ⟨ap, aq⟩ := cz2 J; obtain ⟨ar, au⟩ := fz2 J) | ((with_reducible refine gate_callee (f := 63) rfl ?_); refine gl 5 Try.func63 #[.int .i64 a0_0, .int .i64 0, .int .i64 100000] ?_; (with_reducible refine (impl_InRange.calls a0_0 0 100000 true _ A2.out).mono ?_); rintro e w' ⟨rfl, ⟨nd, rfl⟩⟩; refine ⟨_, rfl, ?_⟩) | (go_at_call 63; (with_reducible refine (impl_InRange.calls a0_1 0 100000 false _ A4.out).mono ?_); rintro e w' ⟨rfl, ⟨nd, rfl⟩⟩)); go_ret; exact ⟨tE, tB1 L⟩
 ·replace Y := Bool.eq_false_iff.mpr Y; subst Y; rw [if_neg ff_] at H; obtain rfl := Option.some.inj H; go_enter Try.func90, Try.ntmps90; go_wp2_with (first | ((with_reducible refine gate_dst (N := 1) rfl ?_); refine bx 1 #[.int .i64 a0_0, .int .i64 a0_1] 28 ?_; intro D hg av hbox hb; have J := aM hbox; have ah := aM ((by rw [hg]; exact (below_size (qB HB)) : w.heap.size ≤ D)); have L := aM ((by rw [hg]; exact (below_size (qB HB)) : w.heap.size ≤ D)); replace HB := aM (below_step (qB HB) hb); clear hb hbox hg; obtain ⟨aw, ax⟩ := cz2 J; obtain ⟨ay, az⟩ := fz2 J) | ((with_reducible refine gate_callee (f := 63) rfl ?_); refine gl 5 Try.func63 #[.int .i64 a0_0, .int .i64 0, .int .i64 100000] ?_; (with_reducible refine (impl_InRange.calls a0_0 0 100000 false _ A2.out).mono ?_); rintro e w' ⟨rfl, ⟨nd, rfl⟩⟩; refine ⟨_, rfl, ?_⟩)); go_ret; exact ⟨tE, tB1 L⟩

/-! ### impl_IsReport: function 54 -/
def impl_IsReport.f (k : Nat) (a0_0 a0_1 : Int) (l0_2 : List Int) (a0_3 a0_4 : Int) (l0_5 : List Int) (a0_6 a0_7 : Int) : Option (Bool) := (impl_InRange.f a0_0 1 999).bind fun D => (if D = true then ((impl_InRange.f a0_1 1 8).bind fun J => (if J = true then ((impl_isAscending.f k l0_2 0 7).bind fun L => (if L = true then (if 1 ≤ a0_3 then (if a0_3 ≤ a0_4 then (if a0_4 ≤ 50 then ((impl_isAscending.f k l0_5 1 30).bind fun Y => (if Y = true then (if (l0_5.length : Int) ≤ 10 then ((impl_IsSpan.f a0_6 a0_7).bind fun aa => (some aa)) else (some false)) else (some false))) else (some false)) else (some false)) else (some false)) else (some false))) else (some false))) else (some false))
theorem impl_IsReport.mono : ∀ a0 a1 a2 a3 a4 a5 a6 a7 k, LeO (impl_IsReport.f k a0 a1 a2 a3 a4 a5 a6 a7) (impl_IsReport.f (k + 1) a0 a1 a2 a3 a4 a5 a6 a7) := by
 intro a0 a1 a2 a3 a4 a5 a6 a7 k; unfold impl_IsReport.f
 repeat' first
   | (with_reducible exact impl_isAscending.mono _ _ _ _)
   | (with_reducible exact LeO.refl _)
   | (with_reducible exact LeO.none _)
   | (with_reducible refine LeO.ite ?_ ?_)
   | (with_reducible refine LeO.bind ?_ (fun _ => ?_))
   | exact impl_isAscending.mono _ _ _ _
   | exact LeO.none _
   | refine LeO.ite ?_ ?_
   | refine LeO.bind ?_ (fun _ => ?_)
set_option maxHeartbeats 8000000 in
set_option maxRecDepth 100000 in
theorem impl_IsReport.calls (k : Nat) (a0_0 a0_1 : Int) (A0_2 : Option Addr) (c0_2 : Nat) (l0_2 : List Int) (a0_3 a0_4 : Int) (A0_5 : Option Addr) (c0_5 : Nat) (l0_5 : List Int) (a0_6 a0_7 : Int) (r : Bool) (w : World) (hr0_2 : Kd.C (Kd.int .i64) w A0_2 l0_2.length l0_2) (hc0_2 : l0_2.length ≤ c0_2) (hr0_5 : Kd.C (Kd.int .i64) w A0_5 l0_5.length l0_5) (hc0_5 : l0_5.length ≤ c0_5) (h : impl_IsReport.f k a0_0 a0_1 l0_2 a0_3 a0_4 l0_5 a0_6 a0_7 = some r) :
  Calls Try.prog 54 #[.agg #[.int .i64 a0_0, .int .i64 a0_1, .slice A0_2 l0_2.length c0_2, .int .i64 a0_3, .int .i64 a0_4, .slice A0_5 l0_5.length c0_5, .int .i64 a0_6, .int .i64 a0_7]] w fun e w' => e = .returned (.bool r) ∧ Below w.heap.size w w' := by
 have hu30 := Try.underlying30; have hu28 := Try.underlying28; have ac := Aside0.mk hr0_2; have ad := Aside0.mk hc0_2; clear hr0_2 hc0_2; have ao := Aside0.mk hr0_5; have ap := Aside0.mk hc0_5; clear hr0_5 hc0_5; have HB := aM (Below.refl w.heap.size w); have H : ((impl_InRange.f a0_0 1 999).bind fun aq => (if aq = true then ((impl_InRange.f a0_1 1 8).bind fun ar => (if ar = true then ((impl_isAscending.f k l0_2 0 7).bind fun au => (if au = true then (if 1 ≤ a0_3 then (if a0_3 ≤ a0_4 then (if a0_4 ≤ 50 then ((impl_isAscending.f k l0_5 1 30).bind fun av => (if av = true then (if (l0_5.length : Int) ≤ 10 then ((impl_IsSpan.f a0_6 a0_7).bind fun aw => (some aw)) else (some false)) else (some false))) else (some false)) else (some false)) else (some false)) else (some false))) else (some false))) else (some false))) = some r := h; clear h; replace H := Option.bind_eq_some_iff.mp H; obtain ⟨aq, ay, H⟩ := H; have Y := Aside0.mk ay; clear ay; by_cases c3 : aq = true
 ·subst c3; rw [if_pos rfl] at H; replace H := Option.bind_eq_some_iff.mp H; obtain ⟨ar, az, H⟩ := H; have A4 := Aside0.mk az; clear az; by_cases c5 : ar = true
  ·subst c5; rw [if_pos rfl] at H; replace H := Option.bind_eq_some_iff.mp H; obtain ⟨au, aA, H⟩ := H; have A6 := Aside0.mk aA; clear aA; by_cases c7 : au = true
   ·subst c7; rw [if_pos rfl] at H; by_cases c8 : 1 ≤ a0_3
    ·rw [if_pos c8] at H; have aE : decide (1 ≤ a0_3) = true := decide_eq_true c8; clear c8; by_cases c9 : a0_3 ≤ a0_4
     ·rw [if_pos c9] at H; have aG : decide (a0_3 ≤ a0_4) = true := decide_eq_true c9; clear c9; by_cases ah : a0_4 ≤ 50
      ·rw [if_pos ah] at H; have aH : decide (a0_4 ≤ 50) = true := decide_eq_true ah; clear ah; replace H := Option.bind_eq_some_iff.mp H; obtain ⟨av, aC, H⟩ := H; have ax := Aside0.mk aC; clear aC; by_cases am : av = true
       ·subst am; rw [if_pos rfl] at H; by_cases ai : (l0_5.length : Int) ≤ 10
        ·rw [if_pos ai] at H; have aI : decide ((l0_5.length : Int) ≤ 10) = true := decide_eq_true ai; have aJ : decide (l0_5.length ≤ 10) = true := decide_eq_true (by omega); clear ai; replace H := Option.bind_eq_some_iff.mp H; obtain ⟨aw, aD, H⟩ := H; have aK := Aside0.mk aD; clear aD; obtain rfl := Option.some.inj H; go_enter Try.func54, Try.ntmps54; go_wp2_with (first | ((with_reducible refine gate_dst (N := 1) rfl ?_); (try (refine gate_guard (by rfl) ?_; dsimp only)); refine bx 1 #[.int .i64 a0_0, .int .i64 a0_1, .slice A0_2 l0_2.length c0_2, .int .i64 a0_3, .int .i64 a0_4, .slice A0_5 l0_5.length c0_5, .int .i64 a0_6, .int .i64 a0_7] 30 ?_; intro L hg aN hbox hb; have D := aM hbox; have ab := aM ((by rw [hg]; exact (below_size (qB HB)) : w.heap.size ≤ L)); have J := aM ((by rw [hg]; exact (below_size (qB HB)) : w.heap.size ≤ L)); replace HB := aM (below_step (qB HB) hb); clear hb hbox hg; obtain ⟨aP, aQ, aT, aU, aV, aW, aX, aY⟩ := cz8 D; obtain ⟨aZ, a8, a9, a_, ba, bb, bc, bd⟩ := fz8 D) | ((with_reducible refine gate_callee (f := 63) rfl ?_); refine gl 5 Try.func63 #[.int .i64 a0_0, .int .i64 1, .int .i64 999] ?_; (with_reducible refine (impl_InRange.calls a0_0 1 999 true _ Y.out).mono ?_); rintro e w' ⟨rfl, ⟨nd, rfl⟩⟩; refine ⟨_, rfl, ?_⟩) | (go_at_call 63; (with_reducible refine (impl_InRange.calls a0_1 1 8 true _ A4.out).mono ?_); rintro e w' ⟨rfl, ⟨nd, rfl⟩⟩) | (go_at_call 83; (with_reducible refine (impl_isAscending.calls k _ _ l0_2 0 7 true _ ?side1 ?side2 A6.out).mono ?_); (case side1 => repeat (first | exact (Kd.C_below ac.out (tB1 J)) | (with_reducible refine Kd.C_alloc ?_ _) | (with_reducible refine Kd.C_drewN ?_ _) | (with_reducible refine Kd.C_drew ?_))); (case side2 => exact ad.out); rintro e w' ⟨rfl, ⟨nd, rfl⟩⟩) | (go_at_call 83; (with_reducible refine (impl_isAscending.calls k _ _ l0_5 1 30 true _ ?side1 ?side2 ax.out).mono ?_); (case side1 => repeat (first | exact (Kd.C_below ao.out (tB1 J)) | (with_reducible refine Kd.C_alloc ?_ _) | (with_reducible refine Kd.C_drewN ?_ _) | (with_reducible refine Kd.C_drew ?_))); (case side2 => exact ap.out); rintro e w' ⟨rfl, ⟨nd, rfl⟩⟩) | (go_at_call 90; (with_reducible refine (impl_IsSpan.calls a0_6 a0_7 aw _ aK.out).mono ?_); rintro e be ⟨rfl, hb⟩; replace D := aM (blk_below (qK D) hb); replace HB := aM (below_step (tB1 J) hb); (try clear hb); (try clear hb2); (try clear hk); (try clear hi))); go_ret; exact ⟨tE, tB1 J⟩
        ·rw [if_neg ai] at H; have aI : decide ((l0_5.length : Int) ≤ 10) = false := decide_eq_false ai; have aJ : decide (l0_5.length ≤ 10) = false := decide_eq_false (by omega); clear ai; obtain rfl := Option.some.inj H; go_enter Try.func54, Try.ntmps54; go_wp2_with (first | ((with_reducible refine gate_dst (N := 1) rfl ?_); (try (refine gate_guard (by rfl) ?_; dsimp only)); refine bx 1 #[.int .i64 a0_0, .int .i64 a0_1, .slice A0_2 l0_2.length c0_2, .int .i64 a0_3, .int .i64 a0_4, .slice A0_5 l0_5.length c0_5, .int .i64 a0_6, .int .i64 a0_7] 30 ?_; intro L hg bf hbox hb; have D := aM hbox; have ab := aM ((by rw [hg]; exact (below_size (qB HB)) : w.heap.size ≤ L)); have J := aM ((by rw [hg]; exact (below_size (qB HB)) : w.heap.size ≤ L)); replace HB := aM (below_step (qB HB) hb); clear hb hbox hg; obtain ⟨bg, bh, bi, bj, bk, bl, bm, bn⟩ := cz8 D; obtain ⟨bo, bp, bq, br, bs, bt, bu, bv⟩ := fz8 D) | ((with_reducible refine gate_callee (f := 63) rfl ?_); refine gl 5 Try.func63 #[.int .i64 a0_0, .int .i64 1, .int .i64 999] ?_; (with_reducible refine (impl_InRange.calls a0_0 1 999 true _ Y.out).mono ?_); rintro e w' ⟨rfl, ⟨nd, rfl⟩⟩; refine ⟨_, rfl, ?_⟩) | (go_at_call 63; (with_reducible refine (impl_InRange.calls a0_1 1 8 true _ A4.out).mono ?_); rintro e w' ⟨rfl, ⟨nd, rfl⟩⟩) | (go_at_call 83; (with_reducible refine (impl_isAscending.calls k _ _ l0_2 0 7 true _ ?side1 ?side2 A6.out).mono ?_); (case side1 => repeat (first | exact (Kd.C_below ac.out (tB1 J)) | (with_reducible refine Kd.C_alloc ?_ _) | (with_reducible refine Kd.C_drewN ?_ _) | (with_reducible refine Kd.C_drew ?_))); (case side2 => exact ad.out); rintro e w' ⟨rfl, ⟨nd, rfl⟩⟩) | (go_at_call 83; (with_reducible refine (impl_isAscending.calls k _ _ l0_5 1 30 true _ ?side1 ?side2 ax.out).mono ?_); (case side1 => repeat (first | exact (Kd.C_below ao.out (tB1 J)) | (with_reducible refine Kd.C_alloc ?_ _) | (with_reducible refine Kd.C_drewN ?_ _) | (with_reducible refine Kd.C_drew ?_))); (case side2 => exact ap.out); rintro e w' ⟨rfl, ⟨nd, rfl⟩⟩)); go_ret; exact ⟨tE, tB1 J⟩
       ·replace am := Bool.eq_false_iff.mpr am; subst am; rw [if_neg ff_] at H; obtain rfl := Option.some.inj H; go_enter Try.func54, Try.ntmps54; go_wp2_with (first | ((with_reducible refine gate_dst (N := 1) rfl ?_); (try (refine gate_guard (by rfl) ?_; dsimp only)); refine bx 1 #[.int .i64 a0_0, .int .i64 a0_1, .slice A0_2 l0_2.length c0_2, .int .i64 a0_3, .int .i64 a0_4, .slice A0_5 l0_5.length c0_5, .int .i64 a0_6, .int .i64 a0_7] 30 ?_; intro L hg bw hbox hb; have D := aM hbox; have ab := aM ((by rw [hg]; exact (below_size (qB HB)) : w.heap.size ≤ L)); have J := aM ((by rw [hg]; exact (below_size (qB HB)) : w.heap.size ≤ L)); replace HB := aM (below_step (qB HB) hb); clear hb hbox hg; obtain ⟨bz, bB, bC, bE, bF, bG, bH, bI⟩ := cz8 D; obtain ⟨bJ, bK, bL, bM, bO, bP, bQ, bT⟩ := fz8 D) | ((with_reducible refine gate_callee (f := 63) rfl ?_); refine gl 5 Try.func63 #[.int .i64 a0_0, .int .i64 1, .int .i64 999] ?_; (with_reducible refine (impl_InRange.calls a0_0 1 999 true _ Y.out).mono ?_); rintro e w' ⟨rfl, ⟨nd, rfl⟩⟩; refine ⟨_, rfl, ?_⟩) | (go_at_call 63; (with_reducible refine (impl_InRange.calls a0_1 1 8 true _ A4.out).mono ?_); rintro e w' ⟨rfl, ⟨nd, rfl⟩⟩) | (go_at_call 83; (with_reducible refine (impl_isAscending.calls k _ _ l0_2 0 7 true _ ?side1 ?side2 A6.out).mono ?_); (case side1 => repeat (first | exact (Kd.C_below ac.out (tB1 J)) | (with_reducible refine Kd.C_alloc ?_ _) | (with_reducible refine Kd.C_drewN ?_ _) | (with_reducible refine Kd.C_drew ?_))); (case side2 => exact ad.out); rintro e w' ⟨rfl, ⟨nd, rfl⟩⟩) | (go_at_call 83; (with_reducible refine (impl_isAscending.calls k _ _ l0_5 1 30 false _ ?side1 ?side2 ax.out).mono ?_); (case side1 => repeat (first | exact (Kd.C_below ao.out (tB1 J)) | (with_reducible refine Kd.C_alloc ?_ _) | (with_reducible refine Kd.C_drewN ?_ _) | (with_reducible refine Kd.C_drew ?_))); (case side2 => exact ap.out); rintro e w' ⟨rfl, ⟨nd, rfl⟩⟩)); go_ret; exact ⟨tE, tB1 J⟩
      ·rw [if_neg ah] at H; have aH : decide (a0_4 ≤ 50) = false := decide_eq_false ah; clear ah; obtain rfl := Option.some.inj H; go_enter Try.func54, Try.ntmps54; go_wp2_with (first | ((with_reducible refine gate_dst (N := 1) rfl ?_); (try (refine gate_guard (by rfl) ?_; dsimp only)); refine bx 1 #[.int .i64 a0_0, .int .i64 a0_1, .slice A0_2 l0_2.length c0_2, .int .i64 a0_3, .int .i64 a0_4, .slice A0_5 l0_5.length c0_5, .int .i64 a0_6, .int .i64 a0_7] 30 ?_; intro L hg bU hbox hb; have D := aM hbox; have ab := aM ((by rw [hg]; exact (below_size (qB HB)) : w.heap.size ≤ L)); have J := aM ((by rw [hg]; exact (below_size (qB HB)) : w.heap.size ≤ L)); replace HB := aM (below_step (qB HB) hb); clear hb hbox hg; obtain ⟨bV, bW, bX, bZ, b0, b1, b2, b3⟩ := cz8 D; obtain ⟨b4, b5, b6, b7, b8, b9, b_, ca⟩ := fz8 D) | ((with_reducible refine gate_callee (f := 63) rfl ?_); refine gl 5 Try.func63 #[.int .i64 a0_0, .int .i64 1, .int .i64 999] ?_; (with_reducible refine (impl_InRange.calls a0_0 1 999 true _ Y.out).mono ?_); rintro e w' ⟨rfl, ⟨nd, rfl⟩⟩; refine ⟨_, rfl, ?_⟩) | (go_at_call 63; (with_reducible refine (impl_InRange.calls a0_1 1 8 true _ A4.out).mono ?_); rintro e w' ⟨rfl, ⟨nd, rfl⟩⟩) | (go_at_call 83; (with_reducible refine (impl_isAscending.calls k _ _ l0_2 0 7 true _ ?side1 ?side2 A6.out).mono ?_); (case side1 => repeat (first | exact (Kd.C_below ac.out (tB1 J)) | (with_reducible refine Kd.C_alloc ?_ _) | (with_reducible refine Kd.C_drewN ?_ _) | (with_reducible refine Kd.C_drew ?_))); (case side2 => exact ad.out); rintro e w' ⟨rfl, ⟨nd, rfl⟩⟩)); go_ret; exact ⟨tE, tB1 J⟩
     ·rw [if_neg c9] at H; have aG : decide (a0_3 ≤ a0_4) = false := decide_eq_false c9; clear c9; obtain rfl := Option.some.inj H; go_enter Try.func54, Try.ntmps54; go_wp2_with (first | ((with_reducible refine gate_dst (N := 1) rfl ?_); (try (refine gate_guard (by rfl) ?_; dsimp only)); refine bx 1 #[.int .i64 a0_0, .int .i64 a0_1, .slice A0_2 l0_2.length c0_2, .int .i64 a0_3, .int .i64 a0_4, .slice A0_5 l0_5.length c0_5, .int .i64 a0_6, .int .i64 a0_7] 30 ?_; intro L hg cc hbox hb; have D := aM hbox; have ab := aM ((by rw [hg]; exact (below_size (qB HB)) : w.heap.size ≤ L)); have J := aM ((by rw [hg]; exact (below_size (qB HB)) : w.heap.size ≤ L)); replace HB := aM (below_step (qB HB) hb); clear hb hbox hg; obtain ⟨cd, ce, cf, cg, ch, ci, cj, ck⟩ := cz8 D; obtain ⟨cl, cm, cn, co, cp, cq, cr, ct⟩ := fz8 D) | ((with_reducible refine gate_callee (f := 63) rfl ?_); refine gl 5 Try.func63 #[.int .i64 a0_0, .int .i64 1, .int .i64 999] ?_; (with_reducible refine (impl_InRange.calls a0_0 1 999 true _ Y.out).mono ?_); rintro e w' ⟨rfl, ⟨nd, rfl⟩⟩; refine ⟨_, rfl, ?_⟩) | (go_at_call 63; (with_reducible refine (impl_InRange.calls a0_1 1 8 true _ A4.out).mono ?_); rintro e w' ⟨rfl, ⟨nd, rfl⟩⟩) | (go_at_call 83; (with_reducible refine (impl_isAscending.calls k _ _ l0_2 0 7 true _ ?side1 ?side2 A6.out).mono ?_); (case side1 => repeat (first | exact (Kd.C_below ac.out (tB1 J)) | (with_reducible refine Kd.C_alloc ?_ _) | (with_reducible refine Kd.C_drewN ?_ _) | (with_reducible refine Kd.C_drew ?_))); (case side2 => exact ad.out); rintro e w' ⟨rfl, ⟨nd, rfl⟩⟩)); go_ret; exact ⟨tE, tB1 J⟩
    ·rw [if_neg c8] at H; have aE : decide (1 ≤ a0_3) = false := decide_eq_false c8; clear c8; obtain rfl := Option.some.inj H; go_enter Try.func54, Try.ntmps54; go_wp2_with (first | ((with_reducible refine gate_dst (N := 1) rfl ?_); (try (refine gate_guard (by rfl) ?_; dsimp only)); refine bx 1 #[.int .i64 a0_0, .int .i64 a0_1, .slice A0_2 l0_2.length c0_2, .int .i64 a0_3, .int .i64 a0_4, .slice A0_5 l0_5.length c0_5, .int .i64 a0_6, .int .i64 a0_7] 30 ?_; intro L hg cu hbox hb; have D := aM hbox; have ab := aM ((by rw [hg]; exact (below_size (qB HB)) : w.heap.size ≤ L)); have J := aM ((by rw [hg]; exact (below_size (qB HB)) : w.heap.size ≤ L)); replace HB := aM (below_step (qB HB) hb); clear hb hbox hg; obtain ⟨cw, cx, cy, cz, cA, cD, cE, cF⟩ := cz8 D; obtain ⟨cG, cH, cI, cJ, cK, cL, cM, cN⟩ := fz8 D) | ((with_reducible refine gate_callee (f := 63) rfl ?_); refine gl 5 Try.func63 #[.int .i64 a0_0, .int .i64 1, .int .i64 999] ?_; (with_reducible refine (impl_InRange.calls a0_0 1 999 true _ Y.out).mono ?_); rintro e w' ⟨rfl, ⟨nd, rfl⟩⟩; refine ⟨_, rfl, ?_⟩) | (go_at_call 63; (with_reducible refine (impl_InRange.calls a0_1 1 8 true _ A4.out).mono ?_); rintro e w' ⟨rfl, ⟨nd, rfl⟩⟩) | (go_at_call 83; (with_reducible refine (impl_isAscending.calls k _ _ l0_2 0 7 true _ ?side1 ?side2 A6.out).mono ?_); (case side1 => repeat (first | exact (Kd.C_below ac.out (tB1 J)) | (with_reducible refine Kd.C_alloc ?_ _) | (with_reducible refine Kd.C_drewN ?_ _) | (with_reducible refine Kd.C_drew ?_))); (case side2 => exact ad.out); rintro e w' ⟨rfl, ⟨nd, rfl⟩⟩)); go_ret; exact ⟨tE, tB1 J⟩
   ·replace c7 := Bool.eq_false_iff.mpr c7; subst c7; rw [if_neg ff_] at H; obtain rfl := Option.some.inj H; go_enter Try.func54, Try.ntmps54; go_wp2_with (first | ((with_reducible refine gate_dst (N := 1) rfl ?_); (try (refine gate_guard (by rfl) ?_; dsimp only)); refine bx 1 #[.int .i64 a0_0, .int .i64 a0_1, .slice A0_2 l0_2.length c0_2, .int .i64 a0_3, .int .i64 a0_4, .slice A0_5 l0_5.length c0_5, .int .i64 a0_6, .int .i64 a0_7] 30 ?_; intro L hg cO hbox hb; have D := aM hbox; have ab := aM ((by rw [hg]; exact (below_size (qB HB)) : w.heap.size ≤ L)); have J := aM ((by rw [hg]; exact (below_size (qB HB)) : w.heap.size ≤ L)); replace HB := aM (below_step (qB HB) hb); clear hb hbox hg; obtain ⟨cP, cQ, cR, cS, cT, cU, cV, cW⟩ := cz8 D; obtain ⟨cX, cY, cZ, c_, da, db, dd, de⟩ := fz8 D) | ((with_reducible refine gate_callee (f := 63) rfl ?_); refine gl 5 Try.func63 #[.int .i64 a0_0, .int .i64 1, .int .i64 999] ?_; (with_reducible refine (impl_InRange.calls a0_0 1 999 true _ Y.out).mono ?_); rintro e w' ⟨rfl, ⟨nd, rfl⟩⟩; refine ⟨_, rfl, ?_⟩) | (go_at_call 63; (with_reducible refine (impl_InRange.calls a0_1 1 8 true _ A4.out).mono ?_); rintro e w' ⟨rfl, ⟨nd, rfl⟩⟩) | (go_at_call 83; (with_reducible refine (impl_isAscending.calls k _ _ l0_2 0 7 false _ ?side1 ?side2 A6.out).mono ?_); (case side1 => repeat (first | exact (Kd.C_below ac.out (tB1 J)) | (with_reducible refine Kd.C_alloc ?_ _) | (with_reducible refine Kd.C_drewN ?_ _) | (with_reducible refine Kd.C_drew ?_))); (case side2 => exact ad.out); rintro e w' ⟨rfl, ⟨nd, rfl⟩⟩)); go_ret; exact ⟨tE, tB1 J⟩
  ·replace c5 := Bool.eq_false_iff.mpr c5; subst c5; rw [if_neg ff_] at H; obtain rfl := Option.some.inj H; go_enter Try.func54, Try.ntmps54; go_wp2_with (first | ((with_reducible refine gate_dst (N := 1) rfl ?_); (try (refine gate_guard (by rfl) ?_; dsimp only)); refine bx 1 #[.int .i64 a0_0, .int .i64 a0_1, .slice A0_2 l0_2.length c0_2, .int .i64 a0_3, .int .i64 a0_4, .slice A0_5 l0_5.length c0_5, .int .i64 a0_6, .int .i64 a0_7] 30 ?_; intro L hg df hbox hb; have D := aM hbox; have ab := aM ((by rw [hg]; exact (below_size (qB HB)) : w.heap.size ≤ L)); have J := aM ((by rw [hg]; exact (below_size (qB HB)) : w.heap.size ≤ L)); replace HB := aM (below_step (qB HB) hb); clear hb hbox hg; obtain ⟨dg, dh, di, dj, dk, dl, dm, dn⟩ := cz8 D; obtain ⟨dp, dq, dr, dt, du, dv, dw, dx⟩ := fz8 D) | ((with_reducible refine gate_callee (f := 63) rfl ?_); refine gl 5 Try.func63 #[.int .i64 a0_0, .int .i64 1, .int .i64 999] ?_; (with_reducible refine (impl_InRange.calls a0_0 1 999 true _ Y.out).mono ?_); rintro e w' ⟨rfl, ⟨nd, rfl⟩⟩; refine ⟨_, rfl, ?_⟩) | (go_at_call 63; (with_reducible refine (impl_InRange.calls a0_1 1 8 false _ A4.out).mono ?_); rintro e w' ⟨rfl, ⟨nd, rfl⟩⟩)); go_ret; exact ⟨tE, tB1 J⟩
 ·replace c3 := Bool.eq_false_iff.mpr c3; subst c3; rw [if_neg ff_] at H; obtain rfl := Option.some.inj H; go_enter Try.func54, Try.ntmps54; go_wp2_with (first | ((with_reducible refine gate_dst (N := 1) rfl ?_); (try (refine gate_guard (by rfl) ?_; dsimp only)); refine bx 1 #[.int .i64 a0_0, .int .i64 a0_1, .slice A0_2 l0_2.length c0_2, .int .i64 a0_3, .int .i64 a0_4, .slice A0_5 l0_5.length c0_5, .int .i64 a0_6, .int .i64 a0_7] 30 ?_; intro L hg dy hbox hb; have D := aM hbox; have ab := aM ((by rw [hg]; exact (below_size (qB HB)) : w.heap.size ≤ L)); have J := aM ((by rw [hg]; exact (below_size (qB HB)) : w.heap.size ≤ L)); replace HB := aM (below_step (qB HB) hb); clear hb hbox hg; obtain ⟨dz, dA, dC, dD, dE, dF, dG, dH⟩ := cz8 D; obtain ⟨dI, dJ, dL, dM, dN, dO, dP, dQ⟩ := fz8 D) | ((with_reducible refine gate_callee (f := 63) rfl ?_); refine gl 5 Try.func63 #[.int .i64 a0_0, .int .i64 1, .int .i64 999] ?_; (with_reducible refine (impl_InRange.calls a0_0 1 999 false _ Y.out).mono ?_); rintro e w' ⟨rfl, ⟨nd, rfl⟩⟩; refine ⟨_, rfl, ?_⟩)); go_ret; exact ⟨tE, tB1 J⟩

/-! ### slices_Index_int_int: function 104 -/
def slices_Index_int_int.l0 : Nat → List Int → Int → Int → Int → Option (Int)
 | 0, _, _, _, _ => none
 | k + 1, x0, x1, x7, x8 => if x8 < x7 then (if 0 ≤ x8 then (if x8 < (x0.length : Int) then (if x1 = (rd x0 x8) then (some x8) else (slices_Index_int_int.l0 k x0 x1 x7 (wrap64 (x8 + 1)))) else (none)) else (none)) else (some (-1))
def slices_Index_int_int.f (k : Nat) (l0 : List Int) (a1 : Int) : Option (Int) := slices_Index_int_int.l0 k l0 a1 (l0.length : Int) 0
theorem slices_Index_int_int.mono_l : ∀ k, (∀ y0 y1 y2 y3, LeO (slices_Index_int_int.l0 k y0 y1 y2 y3) (slices_Index_int_int.l0 (k + 1) y0 y1 y2 y3))
 | 0 => fun _ _ _ _ r h => by simp [slices_Index_int_int.l0] at h
 | k + 1 => by
  have ih0 := slices_Index_int_int.mono_l k
  ·intro y0 y1 y2 y3; unfold slices_Index_int_int.l0
   repeat' first
   | (with_reducible exact ih0 _ _ _ _)
   | (with_reducible exact LeO.refl _)
   | (with_reducible exact LeO.none _)
   | (with_reducible refine LeO.ite ?_ ?_)
   | (with_reducible refine LeO.bind ?_ (fun _ => ?_))
   | exact ih0 _ _ _ _
   | exact LeO.none _
   | refine LeO.ite ?_ ?_
   | refine LeO.bind ?_ (fun _ => ?_)
theorem slices_Index_int_int.mono : ∀ a0 a1 k, LeO (slices_Index_int_int.f k a0 a1) (slices_Index_int_int.f (k + 1) a0 a1) := by
 intro a0 a1 k; have ih0 := slices_Index_int_int.mono_l k; unfold slices_Index_int_int.f
 repeat' first
   | (with_reducible exact ih0 _ _ _ _)
   | (with_reducible exact LeO.refl _)
   | (with_reducible exact LeO.none _)
   | (with_reducible refine LeO.ite ?_ ?_)
   | (with_reducible refine LeO.bind ?_ (fun _ => ?_))
   | exact ih0 _ _ _ _
   | exact LeO.none _
   | refine LeO.ite ?_ ?_
   | refine LeO.bind ?_ (fun _ => ?_)
set_option maxHeartbeats 8000000 in
set_option maxRecDepth 100000 in
theorem slices_Index_int_int.calls (k : Nat) (A0 : Option Addr) (c0 : Nat) (l0 : List Int) (a1 r : Int) (w : World) (hr0 : Kd.C (Kd.int .i64) w A0 l0.length l0) (hc0 : l0.length ≤ c0) (h : slices_Index_int_int.f k l0 a1 = some r) :
  Calls Try.prog 104 #[.slice A0 l0.length c0, .int .i64 a1] w fun e w' => e = .returned (.int .i64 r) ∧ Drawn0 w w' := by
 have ae := Aside0.mk hr0; have am := Aside0.mk hc0; clear hr0 hc0; have H : (slices_Index_int_int.l0 k l0 a1 (l0.length : Int) 0) = some r := h; clear h; have H' := Aside0.mk H; clear H; go_enter Try.func104, Try.ntmps104; go_wp2; go_loopg [8] k (fun kq v8 w' => ∃ (D : Int), v8 = .int .i64 D ∧ Aside0 (slices_Index_int_int.l0 kq l0 a1 (l0.length : Int) D = some r) ∧ Aside0 (kq ≤ k) ∧ Drawn0 w w')
 case atStart => exact ⟨(0), tS, H', ⟨Nat.le_refl _⟩, by repeat (first | exact Drawn0.refl _ | apply Drawn0.step)⟩
 case round =>
  clear H'; try clear c1
  try clear p2
  obtain ⟨D, rfl, HA, af, ⟨m1, rfl⟩⟩ := hrel; cases gk with
  | zero => exact absurd HA.out (by simp [slices_Index_int_int.l0])
  | succ k1 =>
   have H := HA.out; clear HA; simp only [slices_Index_int_int.l0] at H; by_cases c3 : D < (l0.length : Int)
   ·rw [if_pos c3] at H; have ah : decide (D < (l0.length : Int)) = true := decide_eq_true c3; clear c3; by_cases c4 : 0 ≤ D
    ·rw [if_pos c4] at H; have ap : decide (0 ≤ D) = true := decide_eq_true c4; clear c4; by_cases c5 : D < (l0.length : Int)
     ·rw [if_pos c5] at H; have aq : decide (D < (l0.length : Int)) = true := decide_eq_true c5; clear c5; by_cases J : a1 = (rd l0 D)
      ·rw [if_pos J] at H; have ai : (a1 == (rd l0 D)) = true := beq_iff_eq.mpr J; have aj : (a1 != (rd l0 D)) = false := bne_eq_false_iff_eq.mpr J; clear J; obtain rfl := Option.some.inj H; have L : 0 ≤ (D : Int) := of_decide_eq_true ‹_›; have Y : D < (l0.length : Int) := of_decide_eq_true ‹_›; obtain ⟨ak, ad, al⟩ := Kd.at_int ae.out D L Y; cases ad
       replace L := eq_true L; replace Y := eq_true Y; go_wp2; go_ret; exact ⟨by first | rfl | (simp; done) | (simp [*]; done), by repeat (first | exact Drawn0.refl _ | apply Drawn0.step)⟩
      ·rw [if_neg J] at H; have ai : (a1 == (rd l0 D)) = false := beq_eq_false_iff_ne.mpr J; have aj : (a1 != (rd l0 D)) = true := bne_iff_ne.mpr J; have H' := Aside0.mk H; clear H; have L : 0 ≤ (D : Int) := of_decide_eq_true ‹_›; have Y : D < (l0.length : Int) := of_decide_eq_true ‹_›; obtain ⟨ak, ad, al⟩ := Kd.at_int ae.out D L Y; cases ad
       replace L := eq_true L; replace Y := eq_true Y; go_wp2; go_roundg k1
       case measure => have := af.out; omega
       case rel => exact ⟨(wrap64 (D + 1)), tS, H', ⟨by have := af.out; omega⟩, by repeat (first | exact Drawn0.refl _ | apply Drawn0.step)⟩
     ·rw [if_neg c5] at H; exact absurd H (by simp)
    ·rw [if_neg c4] at H; exact absurd H (by simp)
   ·rw [if_neg c3] at H; have ah : decide (D < (l0.length : Int)) = false := decide_eq_false c3; clear c3; obtain rfl := Option.some.inj H; go_wp2; go_ret; exact ⟨by first | rfl | (simp; done) | (simp [*]; done), by repeat (first | exact Drawn0.refl _ | apply Drawn0.step)⟩

/-! ### slices_Contains_int_int: function 92 -/
def slices_Contains_int_int.f (k : Nat) (l0 : List Int) (a1 : Int) : Option (Bool) := (slices_Index_int_int.f k l0 a1).bind fun t532 => (some (decide (t532 ≥ 0)))
theorem slices_Contains_int_int.mono : ∀ a0 a1 k, LeO (slices_Contains_int_int.f k a0 a1) (slices_Contains_int_int.f (k + 1) a0 a1) := by
 intro a0 a1 k; unfold slices_Contains_int_int.f
 repeat' first
   | (with_reducible exact slices_Index_int_int.mono _ _ _)
   | (with_reducible exact LeO.refl _)
   | (with_reducible exact LeO.none _)
   | (with_reducible refine LeO.ite ?_ ?_)
   | (with_reducible refine LeO.bind ?_ (fun _ => ?_))
   | exact slices_Index_int_int.mono _ _ _
   | exact LeO.none _
   | refine LeO.ite ?_ ?_
   | refine LeO.bind ?_ (fun _ => ?_)
set_option maxHeartbeats 8000000 in
set_option maxRecDepth 100000 in
theorem slices_Contains_int_int.calls (k : Nat) (A0 : Option Addr) (c0 : Nat) (l0 : List Int) (a1 : Int) (r : Bool) (w : World) (hr0 : Kd.C (Kd.int .i64) w A0 l0.length l0) (hc0 : l0.length ≤ c0) (h : slices_Contains_int_int.f k l0 a1 = some r) :
  Calls Try.prog 92 #[.slice A0 l0.length c0, .int .i64 a1] w fun e w' => e = .returned (.bool r) ∧ Drawn0 w w' := by
 have HR0 := Aside0.mk hr0; have HC0 := Aside0.mk hc0; clear hr0 hc0; have H : ((slices_Index_int_int.f k l0 a1).bind fun t532 => (some (decide (t532 ≥ 0)))) = some r := h; clear h; replace H := Option.bind_eq_some_iff.mp H; obtain ⟨t532, A30, H⟩ := H; have A3 := Aside0.mk A30; clear A30; obtain rfl := Option.some.inj H; go_enter Try.func92, Try.ntmps92; go_wp2_with (first | ((with_reducible refine gate_callee (f := 104) rfl ?_); refine gl 7 Try.func104 #[.slice A0 l0.length c0, .int .i64 a1] ?_; (with_reducible refine (slices_Index_int_int.calls k _ _ l0 a1 t532 _ ?side1 ?side2 A3.out).mono ?_); (case side1 => repeat (first | exact HR0.out | (with_reducible refine Kd.C_alloc ?_ _) | (with_reducible refine Kd.C_drewN ?_ _) | (with_reducible refine Kd.C_drew ?_))); (case side2 => exact HC0.out); rintro e w' ⟨rfl, ⟨nd, rfl⟩⟩; refine ⟨_, rfl, ?_⟩)); go_ret; exact ⟨by first | rfl | (simp; done) | (simp [*]; done), by repeat (first | exact Drawn0.refl _ | apply Drawn0.step)⟩

/-! ### impl_allows: function 62 -/
def impl_allows.f (k : Nat) (l0 : List Int) (a1 : Int) : Option (Bool) := if (l0.length : Int) = 0 then (some true) else ((slices_Contains_int_int.f k l0 a1).bind fun t533 => (some t533))
theorem impl_allows.mono : ∀ a0 a1 k, LeO (impl_allows.f k a0 a1) (impl_allows.f (k + 1) a0 a1) := by
 intro a0 a1 k; unfold impl_allows.f
 repeat' first
   | (with_reducible exact slices_Contains_int_int.mono _ _ _)
   | (with_reducible exact LeO.refl _)
   | (with_reducible exact LeO.none _)
   | (with_reducible refine LeO.ite ?_ ?_)
   | (with_reducible refine LeO.bind ?_ (fun _ => ?_))
   | exact slices_Contains_int_int.mono _ _ _
   | exact LeO.none _
   | refine LeO.ite ?_ ?_
   | refine LeO.bind ?_ (fun _ => ?_)
set_option maxHeartbeats 8000000 in
set_option maxRecDepth 100000 in
theorem impl_allows.calls (k : Nat) (A0 : Option Addr) (c0 : Nat) (l0 : List Int) (a1 : Int) (r : Bool) (w : World) (hr0 : Kd.C (Kd.int .i64) w A0 l0.length l0) (hc0 : l0.length ≤ c0) (h : impl_allows.f k l0 a1 = some r) :
  Calls Try.prog 62 #[.slice A0 l0.length c0, .int .i64 a1] w fun e w' => e = .returned (.bool r) ∧ Drawn0 w w' := by
 have HR0 := Aside0.mk hr0; have HC0 := Aside0.mk hc0; clear hr0 hc0; have H : (if (l0.length : Int) = 0 then (some true) else ((slices_Contains_int_int.f k l0 a1).bind fun t533 => (some t533))) = some r := h; clear h; by_cases c3 : (l0.length : Int) = 0
 ·rw [if_pos c3] at H; have c3b0 : ((l0.length : Int) == 0) = true := beq_iff_eq.mpr c3; have c3b1 : ((l0.length : Int) != 0) = false := bne_eq_false_iff_eq.mpr c3; clear c3; obtain rfl := Option.some.inj H; go_enter Try.func62, Try.ntmps62; go_wp2; go_ret; exact ⟨by first | rfl | (simp; done) | (simp [*]; done), by repeat (first | exact Drawn0.refl _ | apply Drawn0.step)⟩
 ·rw [if_neg c3] at H; have c3b0 : ((l0.length : Int) == 0) = false := beq_eq_false_iff_ne.mpr c3; have c3b1 : ((l0.length : Int) != 0) = true := bne_iff_ne.mpr c3; have c3b2 : ¬ (l0 = []) := fun h_ => c3 (by rw [h_]; rfl)
  replace H := Option.bind_eq_some_iff.mp H; obtain ⟨t533, A40, H⟩ := H; have A4 := Aside0.mk A40; clear A40; obtain rfl := Option.some.inj H; go_enter Try.func62, Try.ntmps62; go_wp2_with (first | (go_at_call 92; (with_reducible refine (slices_Contains_int_int.calls k _ _ l0 a1 t533 _ ?side1 ?side2 A4.out).mono ?_); (case side1 => repeat (first | exact HR0.out | (with_reducible refine Kd.C_alloc ?_ _) | (with_reducible refine Kd.C_drewN ?_ _) | (with_reducible refine Kd.C_drew ?_))); (case side2 => exact HC0.out); rintro e w' ⟨rfl, ⟨nd, rfl⟩⟩)); go_ret; exact ⟨by first | rfl | (simp; done) | (simp [*]; done), by repeat (first | exact Drawn0.refl _ | apply Drawn0.step)⟩

end Go.Proofs.Ytmammjfomgfjhaa.PFnMatches
