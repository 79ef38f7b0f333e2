-- The printed functions of one law and their contracts, over contracts of this session's own (hand.py).
import Derived.Test.YtppgealmedaihaaPFnTrialsx0
import Derived.Test.YtppgealmedaihaaPFnTrialsx2
namespace Go.Proofs.Ytppgealmedaihaa.PFnTrials
open Go.RowKit Go.Proofs.YtppgealmedaihaaW.PrintWords Go.Proofs.YtppgealmedaihaaW.PrintLast Go.Proofs.YtppgealmedaihaaW.PrintMore Go.Proofs.Ytppgealmedaihaa.Short
attribute [local go_sem] max2_int min2_int max_two min_two max_three min_three max_four min_four   -- for this text's walks alone
set_option linter.unusedVariables false
set_option linter.unusedSimpArgs false

/-! ### impl_TrialState: function 44 -/
def impl_TrialState.j0 : Nat → List (S62) → Bool → Int → Int → Int → Int → Option (Int)
 | 0, _, _, _, _, _, _ => none
 | k + 1, x0, x5, x124000, x124001, x124002, x124003 => if x5 = true then (some 2) else (if (x0.length : Int) > 0 then ((impl_NeedFor.f x0).bind fun t126 => (if x124002 ≥ t126 then (some 1) else (some 0))) else (some 0))
def impl_TrialState.f (k : Nat) (l0 : List (S62)) (a1_0 : Int) (a1_1 : Int) (a1_2 : Int) (a1_3 : Int) : Option (Int) := (impl_IsTrial.f a1_0 a1_1 a1_2 a1_3).bind fun t124 => (if t124 = true then ((impl_AreMarks.f k l0).bind fun t125 => (if t125 = true then (impl_TrialState.j0 k l0 (decide (a1_3 > 1)) a1_0 a1_1 a1_2 a1_3) else (impl_TrialState.j0 k l0 true a1_0 a1_1 a1_2 a1_3))) else (impl_TrialState.j0 k l0 true a1_0 a1_1 a1_2 a1_3))
theorem impl_TrialState.mono_l : ∀ k, (∀ y0 y1 y2 y3 y4 y5, LeO (impl_TrialState.j0 k y0 y1 y2 y3 y4 y5) (impl_TrialState.j0 (k + 1) y0 y1 y2 y3 y4 y5))
 | 0 => fun _ _ _ _ _ _ r h => by simp [impl_TrialState.j0] at h
 | k + 1 => by
  have ih0 := impl_TrialState.mono_l k
  ·intro y0 y1 y2 y3 y4 y5
   unfold impl_TrialState.j0
   repeat' first
   | (with_reducible exact ih0 _ _ _ _ _ _)
   | (with_reducible exact impl_AreMarks.mono _ _)
   | (with_reducible exact LeO.refl _)
   | (with_reducible exact LeO.none _)
   | (with_reducible refine LeO.ite ?_ ?_)
   | (with_reducible refine LeO.bind ?_ (fun _ => ?_))
   | exact ih0 _ _ _ _ _ _
   | exact impl_AreMarks.mono _ _
   | exact LeO.none _
   | refine LeO.ite ?_ ?_
   | refine LeO.bind ?_ (fun _ => ?_)
theorem impl_TrialState.mono : ∀ a0 a1 a2 a3 a4 k, LeO (impl_TrialState.f k a0 a1 a2 a3 a4) (impl_TrialState.f (k + 1) a0 a1 a2 a3 a4) := by
 intro a0 a1 a2 a3 a4 k
 have ih0 := impl_TrialState.mono_l k
 unfold impl_TrialState.f
 repeat' first
   | (with_reducible exact ih0 _ _ _ _ _ _)
   | (with_reducible exact impl_AreMarks.mono _ _)
   | (with_reducible exact LeO.refl _)
   | (with_reducible exact LeO.none _)
   | (with_reducible refine LeO.ite ?_ ?_)
   | (with_reducible refine LeO.bind ?_ (fun _ => ?_))
   | exact ih0 _ _ _ _ _ _
   | exact impl_AreMarks.mono _ _
   | exact LeO.none _
   | refine LeO.ite ?_ ?_
   | refine LeO.bind ?_ (fun _ => ?_)
def impl_TrialState.T3 : Bool × List (List Nat × List Nat) := (true, [([], []), ([0], [0]), ([1], [1]), ([2], [2]), ([3], [3]), ([4, 3], [3, 4]), ([3], [3]), ([6, 3, 3], [3, 6]), ([5, 7, 3], [3, 5, 7]), ([3, 8], [3, 8]), ([9, 7], [9])])
def impl_TrialState.B3 : List Nat := [0, 1, 3, 7, 15, 31, 15, 79, 255, 511, 1023]
theorem impl_TrialState.tab3 : rtab .any (opsOf Try.f44 3) = impl_TrialState.T3 := by kernel_rfl
theorem impl_TrialState.bits3 : waitsOk impl_TrialState.T3.2 impl_TrialState.B3 = true := by kernel_rfl
set_option maxHeartbeats 8000000 in
set_option maxRecDepth 100000 in
theorem impl_TrialState.calls (k : Nat) (A0 : Option Addr) (c0 : Nat) (l0 : List (S62)) (a1_0 : Int) (a1_1 : Int) (a1_2 : Int) (a1_3 : Int) (r : Int) (w : World) (hr0 : Kd.C k62 w A0 l0.length l0) (hc0 : l0.length ≤ c0) (h : impl_TrialState.f k l0 a1_0 a1_1 a1_2 a1_3 = some r) :
  Calls Try.prog 44 #[.slice A0 l0.length c0, .agg #[.int .i64 a1_0, .int .i64 a1_1, .int .i64 a1_2, .int .i64 a1_3]] w fun e w' => e = .returned (.int .i64 r) ∧ Below w.heap.size w w' := by
 have hu27 := Try.underlying27
 have HR0 := Aside0.mk hr0
 have HC0 := Aside0.mk hc0
 clear hr0 hc0
 have HB := Aside0.mk (Below.refl w.heap.size w)
 have H : ((impl_IsTrial.f a1_0 a1_1 a1_2 a1_3).bind fun t124 => (if t124 = true then ((impl_AreMarks.f k l0).bind fun t125 => (if t125 = true then (impl_TrialState.j0 k l0 (decide (a1_3 > 1)) a1_0 a1_1 a1_2 a1_3) else (impl_TrialState.j0 k l0 true a1_0 a1_1 a1_2 a1_3))) else (impl_TrialState.j0 k l0 true a1_0 a1_1 a1_2 a1_3))) = some r := h
 clear h
 have HC3 := Aside0.mk H
 clear H
 go_enter Try.func44, Try.ntmps44
 go_upto_region 1 with (first | ((with_reducible refine gate_dst (N := 3) rfl ?_); refine box_event ?hg (N := 3) ?hd (cs := #[.int .i64 a1_0, .int .i64 a1_1, .int .i64 a1_2, .int .i64 a1_3]) (t := 27) ?hr ?_; (case hd => rfl); (case hg => rfl); (case hr => first | (go_simp; done) | (go_simp; rfl)); intro gb123 hg w4 hbox hb; have n0_ := Aside0.mk (below_step (qB HB) hb); have n1_ := Aside0.mk (hbox); have n2_ := Aside0.mk ((by rw [hg]; exact (below_size (qB HB)) : w.heap.size ≤ gb123)); have n3_ := Aside0.mk ((by rw [hg]; exact (below_size (qB HB)) : w.heap.size ≤ gb123)); clear HB; have HB := n0_; have BK123 := n1_; have GW123 := n2_; have GE123 := n3_; clear n0_ n1_ n2_ n3_; clear hb hbox hg))
 (try simp only [Act.put, sA, sZ, sS])
 go_cut [5] (fun v5 wc => ∃ (kq : Nat) (x5_2 : Bool), v5 = .bool x5_2 ∧ Aside0 (impl_TrialState.j0 kq l0 x5_2 a1_0 a1_1 a1_2 a1_3 = some r) ∧ Aside0 (kq ≤ k) ∧ Aside0 (wc.heap[gb123]? = some (.cells #[.int .i64 a1_0, .int .i64 a1_1, .int .i64 a1_2, .int .i64 a1_3] 27 (0, 0))) ∧ Aside0 (Below w.heap.size w wc))
 case first =>
  have H := HC3.out
  clear HC3
  replace H := Option.bind_eq_some_iff.mp H
  obtain ⟨t124, A50, H⟩ := H
  replace H : (if t124 = true then ((impl_AreMarks.f k l0).bind fun t125 => (if t125 = true then (impl_TrialState.j0 k l0 (decide (a1_3 > 1)) a1_0 a1_1 a1_2 a1_3) else (impl_TrialState.j0 k l0 true a1_0 a1_1 a1_2 a1_3))) else (impl_TrialState.j0 k l0 true a1_0 a1_1 a1_2 a1_3)) = some r := H
  have A5 := Aside0.mk A50
  clear A50
  by_cases c6 : t124 = true
  ·subst c6
   have H1 : ((impl_AreMarks.f k l0).bind fun t125 => (if t125 = true then (impl_TrialState.j0 k l0 (decide (a1_3 > 1)) a1_0 a1_1 a1_2 a1_3) else (impl_TrialState.j0 k l0 true a1_0 a1_1 a1_2 a1_3))) = some r := by rw [if_pos rfl] at H; exact H
   clear H
   have H := H1
   clear H1
   replace H := Option.bind_eq_some_iff.mp H
   obtain ⟨t125, A70, H⟩ := H
   replace H : (if t125 = true then (impl_TrialState.j0 k l0 (decide (a1_3 > 1)) a1_0 a1_1 a1_2 a1_3) else (impl_TrialState.j0 k l0 true a1_0 a1_1 a1_2 a1_3)) = some r := H
   have A7 := Aside0.mk A70
   clear A70
   by_cases c8 : t125 = true
   ·subst c8
    have H1 : (impl_TrialState.j0 k l0 (decide (a1_3 > 1)) a1_0 a1_1 a1_2 a1_3) = some r := by rw [if_pos rfl] at H; exact H
    clear H
    have H := H1
    clear H1
    have H' := Aside0.mk H
    clear H
    have hcz9_0 : w4.cell? ⟨gb123, 0, none⟩ = some (.int .i64 a1_0) := cC BK123 0
    have hcz9_1 : w4.cell? ⟨gb123, 1, none⟩ = some (.int .i64 a1_1) := cC BK123 1
    have hcz9_2 : w4.cell? ⟨gb123, 2, none⟩ = some (.int .i64 a1_2) := cC BK123 2
    have hcz9_3 : w4.cell? ⟨gb123, 3, none⟩ = some (.int .i64 a1_3) := cC BK123 3
    have hfz9_0 := blk_frozen BK123.out 0
    have hfz9_1 := blk_frozen BK123.out 1
    have hfz9_2 := blk_frozen BK123.out 2
    have hfz9_3 := blk_frozen BK123.out 3
    go_wp2_with (first | ((with_reducible refine gate_callee (f := 43) rfl ?_); refine goesL_ (some 7) rfl rfl Try.func43 (by kernel_rfl) rfl #[.agg #[.int .i64 a1_0, .int .i64 a1_1, .int .i64 a1_2, .int .i64 a1_3]] rfl (by (try simp only [mA, mC, mN]); first | done | rfl | (simp only [lD, lT]; rfl)) ?_; (with_reducible refine (impl_IsTrial.calls a1_0 a1_1 a1_2 a1_3 true _ A5.out).mono ?_); rintro e w10 ⟨rfl, hb⟩; refine ⟨_, rfl, ?_⟩; have n0_ := Aside0.mk (blk_below (qK BK123) hb); have n1_ := Aside0.mk (below_step (by repeat first | (with_reducible first | exact HB.out | apply bA | apply bN | apply bD | refine bS ?_ GE123.out) | exact HB.out) hb); clear BK123; clear HB; have BK123 := n0_; have HB := n1_; clear n0_ n1_; (try clear hb); (try clear hb2); (try clear hk); (try clear hi)) | (go_at_call 34; (with_reducible refine (impl_AreMarks.calls k _ _ l0 true _ ?side1 ?side2 A7.out).mono ?_); (case side1 => exact qC (Kd.C_below HR0.out HB.out)); (case side2 => exact HC0.out); rintro e w11 ⟨rfl, hb⟩; have n0_ := Aside0.mk (blk_below (qK BK123) hb); have n1_ := Aside0.mk (below_step (by repeat first | (with_reducible first | exact HB.out | apply bA | apply bN | apply bD | refine bS ?_ GE123.out) | exact HB.out) hb); clear BK123; clear HB; have BK123 := n0_; have HB := n1_; clear n0_ n1_; (try clear hb); (try clear hb2); (try clear hk); (try clear hi); have hcz12_0 : w11.cell? ⟨gb123, 0, none⟩ = some (.int .i64 a1_0) := cC BK123 0; have hcz12_1 : w11.cell? ⟨gb123, 1, none⟩ = some (.int .i64 a1_1) := cC BK123 1; have hcz12_2 : w11.cell? ⟨gb123, 2, none⟩ = some (.int .i64 a1_2) := cC BK123 2; have hcz12_3 : w11.cell? ⟨gb123, 3, none⟩ = some (.int .i64 a1_3) := cC BK123 3; have hfz12_0 := blk_frozen BK123.out 0; have hfz12_1 := blk_frozen BK123.out 1; have hfz12_2 := blk_frozen BK123.out 2; have hfz12_3 := blk_frozen BK123.out 3))
    go_meet
    case rel => exact ⟨_, (decide (a1_3 > 1)), (by first | rfl | (simp; done) | (simp [*]; done)), H', ⟨by first | omega | exact Nat.le_refl _⟩, ⟨by (with_reducible repeat first | refine kN ?_ _ | refine kD ?_ | refine kA ?_ _); exact BK123.out⟩, ⟨by repeat (first | (with_reducible first | exact HB.out | apply bA | apply bN | apply bD | refine bS ?_ GE123.out) | exact HB.out)⟩⟩
   ·replace c8 := Bool.eq_false_iff.mpr c8
    subst c8
    have H1 : (impl_TrialState.j0 k l0 true a1_0 a1_1 a1_2 a1_3) = some r := by rw [if_neg (show ¬ (false = true) by decide)] at H; exact H
    clear H
    have H := H1
    clear H1
    have H' := Aside0.mk H
    clear H
    have hcz13_0 : w4.cell? ⟨gb123, 0, none⟩ = some (.int .i64 a1_0) := cC BK123 0
    have hcz13_1 : w4.cell? ⟨gb123, 1, none⟩ = some (.int .i64 a1_1) := cC BK123 1
    have hcz13_2 : w4.cell? ⟨gb123, 2, none⟩ = some (.int .i64 a1_2) := cC BK123 2
    have hcz13_3 : w4.cell? ⟨gb123, 3, none⟩ = some (.int .i64 a1_3) := cC BK123 3
    have hfz13_0 := blk_frozen BK123.out 0
    have hfz13_1 := blk_frozen BK123.out 1
    have hfz13_2 := blk_frozen BK123.out 2
    have hfz13_3 := blk_frozen BK123.out 3
    go_wp2_with (first | ((with_reducible refine gate_callee (f := 43) rfl ?_); refine goesL_ (some 7) rfl rfl Try.func43 (by kernel_rfl) rfl #[.agg #[.int .i64 a1_0, .int .i64 a1_1, .int .i64 a1_2, .int .i64 a1_3]] rfl (by (try simp only [mA, mC, mN]); first | done | rfl | (simp only [lD, lT]; rfl)) ?_; (with_reducible refine (impl_IsTrial.calls a1_0 a1_1 a1_2 a1_3 true _ A5.out).mono ?_); rintro e w14 ⟨rfl, hb⟩; refine ⟨_, rfl, ?_⟩; have n0_ := Aside0.mk (blk_below (qK BK123) hb); have n1_ := Aside0.mk (below_step (by repeat first | (with_reducible first | exact HB.out | apply bA | apply bN | apply bD | refine bS ?_ GE123.out) | exact HB.out) hb); clear BK123; clear HB; have BK123 := n0_; have HB := n1_; clear n0_ n1_; (try clear hb); (try clear hb2); (try clear hk); (try clear hi)) | (go_at_call 34; (with_reducible refine (impl_AreMarks.calls k _ _ l0 false _ ?side1 ?side2 A7.out).mono ?_); (case side1 => exact qC (Kd.C_below HR0.out HB.out)); (case side2 => exact HC0.out); rintro e w15 ⟨rfl, hb⟩; have n0_ := Aside0.mk (blk_below (qK BK123) hb); have n1_ := Aside0.mk (below_step (by repeat first | (with_reducible first | exact HB.out | apply bA | apply bN | apply bD | refine bS ?_ GE123.out) | exact HB.out) hb); clear BK123; clear HB; have BK123 := n0_; have HB := n1_; clear n0_ n1_; (try clear hb); (try clear hb2); (try clear hk); (try clear hi)))
    go_meet
    case rel => exact ⟨_, (true), (by first | rfl | (simp; done) | (simp [*]; done)), H', ⟨by first | omega | exact Nat.le_refl _⟩, ⟨by (with_reducible repeat first | refine kN ?_ _ | refine kD ?_ | refine kA ?_ _); exact BK123.out⟩, ⟨by repeat (first | (with_reducible first | exact HB.out | apply bA | apply bN | apply bD | refine bS ?_ GE123.out) | exact HB.out)⟩⟩
  ·replace c6 := Bool.eq_false_iff.mpr c6
   subst c6
   have H1 : (impl_TrialState.j0 k l0 true a1_0 a1_1 a1_2 a1_3) = some r := by rw [if_neg (show ¬ (false = true) by decide)] at H; exact H
   clear H
   have H := H1
   clear H1
   have H' := Aside0.mk H
   clear H
   have hcz16_0 : w4.cell? ⟨gb123, 0, none⟩ = some (.int .i64 a1_0) := cC BK123 0
   have hcz16_1 : w4.cell? ⟨gb123, 1, none⟩ = some (.int .i64 a1_1) := cC BK123 1
   have hcz16_2 : w4.cell? ⟨gb123, 2, none⟩ = some (.int .i64 a1_2) := cC BK123 2
   have hcz16_3 : w4.cell? ⟨gb123, 3, none⟩ = some (.int .i64 a1_3) := cC BK123 3
   have hfz16_0 := blk_frozen BK123.out 0
   have hfz16_1 := blk_frozen BK123.out 1
   have hfz16_2 := blk_frozen BK123.out 2
   have hfz16_3 := blk_frozen BK123.out 3
   go_wp2_with (first | ((with_reducible refine gate_callee (f := 43) rfl ?_); refine goesL_ (some 7) rfl rfl Try.func43 (by kernel_rfl) rfl #[.agg #[.int .i64 a1_0, .int .i64 a1_1, .int .i64 a1_2, .int .i64 a1_3]] rfl (by (try simp only [mA, mC, mN]); first | done | rfl | (simp only [lD, lT]; rfl)) ?_; (with_reducible refine (impl_IsTrial.calls a1_0 a1_1 a1_2 a1_3 false _ A5.out).mono ?_); rintro e w17 ⟨rfl, hb⟩; refine ⟨_, rfl, ?_⟩; have n0_ := Aside0.mk (blk_below (qK BK123) hb); have n1_ := Aside0.mk (below_step (by repeat first | (with_reducible first | exact HB.out | apply bA | apply bN | apply bD | refine bS ?_ GE123.out) | exact HB.out) hb); clear BK123; clear HB; have BK123 := n0_; have HB := n1_; clear n0_ n1_; (try clear hb); (try clear hb2); (try clear hk); (try clear hi)))
   go_meet
   case rel => exact ⟨_, (true), (by first | rfl | (simp; done) | (simp [*]; done)), H', ⟨by first | omega | exact Nat.le_refl _⟩, ⟨by (with_reducible repeat first | refine kN ?_ _ | refine kD ?_ | refine kA ?_ _); exact BK123.out⟩, ⟨by repeat (first | (with_reducible first | exact HB.out | apply bA | apply bN | apply bD | refine bS ?_ GE123.out) | exact HB.out)⟩⟩
 case rest =>
  clear HC3
  try clear p2
  try clear c4
  try clear c6
  try clear c8
  try clear hcz12_0
  try clear hcz12_1
  try clear hcz12_2
  try clear hcz12_3
  try clear hcz13_0
  try clear hcz13_1
  try clear hcz13_2
  try clear hcz13_3
  try clear hcz16_0
  try clear hcz16_1
  try clear hcz16_2
  try clear hcz16_3
  try clear hcz9_0
  try clear hcz9_1
  try clear hcz9_2
  try clear hcz9_3
  try clear hfz12_0
  try clear hfz12_1
  try clear hfz12_2
  try clear hfz12_3
  try clear hfz13_0
  try clear hfz13_1
  try clear hfz13_2
  try clear hfz13_3
  try clear hfz16_0
  try clear hfz16_1
  try clear hfz16_2
  try clear hfz16_3
  try clear hfz9_0
  try clear hfz9_1
  try clear hfz9_2
  try clear hfz9_3
  obtain ⟨kq, x5_2, rfl, HA, HJ2, BK123, HB⟩ := hcut
  cases kq with
  | zero => exact absurd HA.out (by simp [impl_TrialState.j0])
  | succ kj2 =>
   have H := HA.out
   clear HA
   simp only [impl_TrialState.j0] at H
   by_cases c18 : x5_2 = true
   ·subst c18
    have H1 : (some 2) = some r := by rw [if_pos rfl] at H; exact H
    clear H
    have H := H1
    clear H1
    obtain rfl := Option.some.inj H
    go_wp2
    go_ret
    exact ⟨by first | rfl | (simp [errW_none, errW_some] <;> rfl) | (simp [*, errW_none, errW_some] <;> rfl), by repeat (first | (with_reducible first | exact HB.out | apply bA | apply bN | apply bD | refine bS ?_ GE123.out) | exact HB.out)⟩
   ·replace c18 := Bool.eq_false_iff.mpr c18
    subst c18
    have H1 : (if (l0.length : Int) > 0 then ((impl_NeedFor.f l0).bind fun t126 => (if a1_2 ≥ t126 then (some 1) else (some 0))) else (some 0)) = some r := by rw [if_neg (show ¬ (false = true) by decide)] at H; exact H
    clear H
    have H := H1
    clear H1
    by_cases c19 : (l0.length : Int) > 0
    ·rw [if_pos c19] at H
     have c19b0 : decide (0 < (l0.length : Int)) = true := decide_eq_true c19
     have c19b1 : decide (0 < l0.length) = true := decide_eq_true (by omega)
     clear c19
     replace H := Option.bind_eq_some_iff.mp H
     obtain ⟨t126, A200, H⟩ := H
     replace H : (if a1_2 ≥ t126 then (some 1) else (some 0)) = some r := H
     have A20 := Aside0.mk A200
     clear A200
     by_cases c21 : a1_2 ≥ t126
     ·rw [if_pos c21] at H
      have c21b0 : decide (t126 ≤ a1_2) = true := decide_eq_true c21
      clear c21
      obtain rfl := Option.some.inj H
      try go_wp2
      have n0_ := Aside0.mk (blk_drew BK123.out)
      have n1_ := Aside0.mk (below_drew1 HB.out)
      clear BK123
      clear HB
      have BK123 := n0_
      have HB := n1_
      clear n0_ n1_
      refine start_ (n := 11) (S := fun w' => w'.cell? ⟨gb123, 0, none⟩ = some (.int .i64 a1_0) ∧ w'.cell? ⟨gb123, 1, none⟩ = some (.int .i64 a1_1) ∧ w'.cell? ⟨gb123, 2, none⟩ = some (.int .i64 a1_2) ∧ w'.cell? ⟨gb123, 3, none⟩ = some (.int .i64 a1_3)) (ds := []) (bR [0, 11]) (by kernel_rfl) rfl rfl ⟨cC BK123 0, cC BK123 1, cC BK123 2, cC BK123 3⟩ (fun hHeld => ?_); refine with_tabW impl_TrialState.tab3 impl_TrialState.bits3 (fun HT_ HW_ => ?_)
      generalize wc.drew = w22 at BK123 HB hHeld ⊢
      refine pP 0 20 (bR [1, 10]) rfl rfl HT_ ?_
      refine pP 1 21 (bR [2, 9]) rfl rfl HT_ ?_
      refine pP 2 22 (bR [3, 8]) rfl rfl HT_ ?_
      refine pP 3 23 (bR [4, 7]) rfl rfl HT_ ?_
      refine pP 4 24 (bR [5, 6]) rfl rfl HT_ ?_
      refine pP 6 26 (bR [5, 1, 1, 4]) rfl rfl HT_ ?_
      refine take_ (i := 5) (N := some 25) (v := ?_) (a' := ?_) (bR [7, 4]) rfl rfl (take_ofW HT_.out HW_.out (by kernel_rfl)) (fun _ _ _ h => h) (Or.inl ⟨by rfl, ?_⟩) hHeld ?_ ?_
      rotate_left; (rintro w' ⟨s0, s1, s2, s3⟩; go_simp; with_reducible rfl); rotate_left; (simp only [Act.put, sA, sZ, sS, i64_w]; rfl)
      refine one_ (i := 7) (N := some 27) (bR [8, 3]) rfl rfl (one_of HT_.out (by kernel_rfl)) (by decide) (fun K hK => ?_)
      refine goes_ Try.func45 (by kernel_rfl) rfl #[.slice A0 l0.length c0] (by rfl) rfl rfl (by (try simp only [mA, mC, mN]); first | done | rfl | (simp only [lD, lT]; rfl)) ?_
      with_reducible refine (impl_NeedFor.calls _ _ l0 t126 _ ?side1 ?side2 A20.out).mono ?_
      (case side1 => exact qC (Kd.C_below HR0.out HB.out))
      (case side2 => exact HC0.out)
      rintro e w23 ⟨rfl, hb⟩
      refine ⟨_, rfl, ?_⟩
      have n0_ := Aside0.mk (blk_below (qK BK123) hb)
      have n1_ := Aside0.mk (below_step (by repeat first | (with_reducible first | exact HB.out | apply bA | apply bN | apply bD | refine bS ?_ GE123.out) | exact HB.out) hb)
      clear BK123
      clear HB
      have BK123 := n0_
      have HB := n1_
      clear n0_ n1_
      (try clear hb)
      (try clear hb2)
      (try clear hk)
      (try clear hi)
      refine hK.out _ _ ⟨cC BK123 0, cC BK123 1, cC BK123 2, cC BK123 3⟩ (fun hHeld => ?_)
      clear hK K
      refine norm_ (a' := ?_) ?_ ?_
      rotate_left
      ·show Act.put _ (some 27) _ = _
       simp only [Act.put, sA, sZ, sS, i64_w]
       rfl
      refine pP 8 28 (bR [9, 2]) rfl rfl HT_ ?_
      refine pP 9 29 (bR [10, 1]) rfl rfl HT_ ?_
      refine pP 10 19 (bR [11]) rfl rfl HT_ ?_
      refine done_ (done_of HT_.out (by kernel_rfl)) ?_
      try go_wp2
      go_ret
      exact ⟨by first | rfl | (simp [errW_none, errW_some] <;> rfl) | (simp [*, errW_none, errW_some] <;> rfl), by repeat (first | (with_reducible first | exact HB.out | apply bA | apply bN | apply bD | refine bS ?_ GE123.out) | exact HB.out)⟩
     ·rw [if_neg c21] at H
      have c21b0 : decide (t126 ≤ a1_2) = false := decide_eq_false c21
      clear c21
      obtain rfl := Option.some.inj H
      try go_wp2
      have n0_ := Aside0.mk (blk_drew BK123.out)
      have n1_ := Aside0.mk (below_drew1 HB.out)
      clear BK123
      clear HB
      have BK123 := n0_
      have HB := n1_
      clear n0_ n1_
      refine start_ (n := 11) (S := fun w' => w'.cell? ⟨gb123, 0, none⟩ = some (.int .i64 a1_0) ∧ w'.cell? ⟨gb123, 1, none⟩ = some (.int .i64 a1_1) ∧ w'.cell? ⟨gb123, 2, none⟩ = some (.int .i64 a1_2) ∧ w'.cell? ⟨gb123, 3, none⟩ = some (.int .i64 a1_3)) (ds := []) (bR [0, 11]) (by kernel_rfl) rfl rfl ⟨cC BK123 0, cC BK123 1, cC BK123 2, cC BK123 3⟩ (fun hHeld => ?_); refine with_tabW impl_TrialState.tab3 impl_TrialState.bits3 (fun HT_ HW_ => ?_)
      generalize wc.drew = w24 at BK123 HB hHeld ⊢
      refine pP 0 20 (bR [1, 10]) rfl rfl HT_ ?_
      refine pP 1 21 (bR [2, 9]) rfl rfl HT_ ?_
      refine pP 2 22 (bR [3, 8]) rfl rfl HT_ ?_
      refine pP 3 23 (bR [4, 7]) rfl rfl HT_ ?_
      refine pP 4 24 (bR [5, 6]) rfl rfl HT_ ?_
      refine pP 6 26 (bR [5, 1, 1, 4]) rfl rfl HT_ ?_
      refine take_ (i := 5) (N := some 25) (v := ?_) (a' := ?_) (bR [7, 4]) rfl rfl (take_ofW HT_.out HW_.out (by kernel_rfl)) (fun _ _ _ h => h) (Or.inl ⟨by rfl, ?_⟩) hHeld ?_ ?_
      rotate_left; (rintro w' ⟨s0, s1, s2, s3⟩; go_simp; with_reducible rfl); rotate_left; (simp only [Act.put, sA, sZ, sS, i64_w]; rfl)
      refine one_ (i := 7) (N := some 27) (bR [8, 3]) rfl rfl (one_of HT_.out (by kernel_rfl)) (by decide) (fun K hK => ?_)
      refine goes_ Try.func45 (by kernel_rfl) rfl #[.slice A0 l0.length c0] (by rfl) rfl rfl (by (try simp only [mA, mC, mN]); first | done | rfl | (simp only [lD, lT]; rfl)) ?_
      with_reducible refine (impl_NeedFor.calls _ _ l0 t126 _ ?side1 ?side2 A20.out).mono ?_
      (case side1 => exact qC (Kd.C_below HR0.out HB.out))
      (case side2 => exact HC0.out)
      rintro e w25 ⟨rfl, hb⟩
      refine ⟨_, rfl, ?_⟩
      have n0_ := Aside0.mk (blk_below (qK BK123) hb)
      have n1_ := Aside0.mk (below_step (by repeat first | (with_reducible first | exact HB.out | apply bA | apply bN | apply bD | refine bS ?_ GE123.out) | exact HB.out) hb)
      clear BK123
      clear HB
      have BK123 := n0_
      have HB := n1_
      clear n0_ n1_
      (try clear hb)
      (try clear hb2)
      (try clear hk)
      (try clear hi)
      refine hK.out _ _ ⟨cC BK123 0, cC BK123 1, cC BK123 2, cC BK123 3⟩ (fun hHeld => ?_)
      clear hK K
      refine norm_ (a' := ?_) ?_ ?_
      rotate_left
      ·show Act.put _ (some 27) _ = _
       simp only [Act.put, sA, sZ, sS, i64_w]
       rfl
      refine pP 8 28 (bR [9, 2]) rfl rfl HT_ ?_
      refine pP 9 29 (bR [10, 1]) rfl rfl HT_ ?_
      refine pP 10 19 (bR [11]) rfl rfl HT_ ?_
      refine done_ (done_of HT_.out (by kernel_rfl)) ?_
      try go_wp2
      go_ret
      exact ⟨by first | rfl | (simp [errW_none, errW_some] <;> rfl) | (simp [*, errW_none, errW_some] <;> rfl), by repeat (first | (with_reducible first | exact HB.out | apply bA | apply bN | apply bD | refine bS ?_ GE123.out) | exact HB.out)⟩
    ·rw [if_neg c19] at H
     have c19b0 : decide (0 < (l0.length : Int)) = false := decide_eq_false c19
     have c19b1 : decide (0 < l0.length) = false := decide_eq_false (by omega)
     clear c19
     obtain rfl := Option.some.inj H
     try go_wp2
     have n0_ := Aside0.mk (blk_drew BK123.out)
     have n1_ := Aside0.mk (below_drew1 HB.out)
     clear BK123
     clear HB
     have BK123 := n0_
     have HB := n1_
     clear n0_ n1_
     refine start_ (n := 11) (S := fun w' => True) (ds := []) (bR [0, 11]) (by kernel_rfl) rfl rfl trivial (fun hHeld => ?_); refine with_tabW impl_TrialState.tab3 impl_TrialState.bits3 (fun HT_ HW_ => ?_)
     generalize wc.drew = w26 at BK123 HB hHeld ⊢
     refine pP 0 20 (bR [1, 10]) rfl rfl HT_ ?_
     refine pP 1 21 (bR [2, 9]) rfl rfl HT_ ?_
     refine pP 2 22 (bR [3, 8]) rfl rfl HT_ ?_
     refine pP 3 23 (bR [4, 7]) rfl rfl HT_ ?_
     refine pU 4 24 (bR [5, 6]) rfl rfl HT_ ?_
     refine pU 5 25 (bR [6, 5]) rfl rfl HT_ ?_
     refine pU 6 26 (bR [7, 4]) rfl rfl HT_ ?_
     refine pU 7 27 (bR [8, 3]) rfl rfl HT_ ?_
     refine pU 8 28 (bR [9, 2]) rfl rfl HT_ ?_
     refine pP 9 29 (bR [10, 1]) rfl rfl HT_ ?_
     refine pP 10 19 (bR [11]) rfl rfl HT_ ?_
     refine done_ (done_of HT_.out (by kernel_rfl)) ?_
     try go_wp2
     go_ret
     exact ⟨by first | rfl | (simp [errW_none, errW_some] <;> rfl) | (simp [*, errW_none, errW_some] <;> rfl), by repeat (first | (with_reducible first | exact HB.out | apply bA | apply bN | apply bD | refine bS ?_ GE123.out) | exact HB.out)⟩

/-! ### impl_NextQuestion: function 42 -/
def impl_NextQuestion.f (k : Nat) (l0 : List (S62)) (a1_0 : Int) (a1_1 : Int) (a1_2 : Int) (a1_3 : Int) : Option (Int) := (impl_TrialState.f k l0 a1_0 a1_1 a1_2 a1_3).bind fun t128 => (if t128 = 0 then ((impl_QuestionFor.f k l0 a1_0 a1_1).bind fun t129 => (some t129)) else (some 0))
theorem impl_NextQuestion.mono : ∀ a0 a1 a2 a3 a4 k, LeO (impl_NextQuestion.f k a0 a1 a2 a3 a4) (impl_NextQuestion.f (k + 1) a0 a1 a2 a3 a4) := by
 intro a0 a1 a2 a3 a4 k
 unfold impl_NextQuestion.f
 repeat' first
   | (with_reducible exact impl_QuestionFor.mono _ _ _ _)
   | (with_reducible exact impl_TrialState.mono _ _ _ _ _ _)
   | (with_reducible exact LeO.refl _)
   | (with_reducible exact LeO.none _)
   | (with_reducible refine LeO.ite ?_ ?_)
   | (with_reducible refine LeO.bind ?_ (fun _ => ?_))
   | exact impl_QuestionFor.mono _ _ _ _
   | exact impl_TrialState.mono _ _ _ _ _ _
   | exact LeO.none _
   | refine LeO.ite ?_ ?_
   | refine LeO.bind ?_ (fun _ => ?_)
set_option maxHeartbeats 8000000 in
set_option maxRecDepth 100000 in
theorem impl_NextQuestion.calls (k : Nat) (A0 : Option Addr) (c0 : Nat) (l0 : List (S62)) (a1_0 : Int) (a1_1 : Int) (a1_2 : Int) (a1_3 : Int) (r : Int) (w : World) (hr0 : Kd.C k62 w A0 l0.length l0) (hc0 : l0.length ≤ c0) (h : impl_NextQuestion.f k l0 a1_0 a1_1 a1_2 a1_3 = some r) :
  Calls Try.prog 42 #[.slice A0 l0.length c0, .agg #[.int .i64 a1_0, .int .i64 a1_1, .int .i64 a1_2, .int .i64 a1_3]] w fun e w' => e = .returned (.int .i64 r) ∧ Below w.heap.size w w' := by
 have hu27 := Try.underlying27
 have HR0 := Aside0.mk hr0
 have HC0 := Aside0.mk hc0
 clear hr0 hc0
 have HB := Aside0.mk (Below.refl w.heap.size w)
 have H : ((impl_TrialState.f k l0 a1_0 a1_1 a1_2 a1_3).bind fun t128 => (if t128 = 0 then ((impl_QuestionFor.f k l0 a1_0 a1_1).bind fun t129 => (some t129)) else (some 0))) = some r := h
 clear h
 replace H := Option.bind_eq_some_iff.mp H
 obtain ⟨t128, A30, H⟩ := H
 replace H : (if t128 = 0 then ((impl_QuestionFor.f k l0 a1_0 a1_1).bind fun t129 => (some t129)) else (some 0)) = some r := H
 have A3 := Aside0.mk A30
 clear A30
 by_cases c4 : t128 = 0
 ·rw [if_pos c4] at H
  have c4b0 : (t128 == 0) = true := beq_iff_eq.mpr c4
  have c4b1 : (t128 != 0) = false := bne_eq_false_iff_eq.mpr c4
  clear c4
  replace H := Option.bind_eq_some_iff.mp H
  obtain ⟨t129, A50, H⟩ := H
  replace H : (some t129) = some r := H
  have A5 := Aside0.mk A50
  clear A50
  obtain rfl := Option.some.inj H
  go_enter Try.func42, Try.ntmps42
  go_wp2_with (first | ((with_reducible refine gate_dst (N := 3) rfl ?_); refine box_event ?hg (N := 3) ?hd (cs := #[.int .i64 a1_0, .int .i64 a1_1, .int .i64 a1_2, .int .i64 a1_3]) (t := 27) ?hr ?_; (case hd => rfl); (case hg => rfl); (case hr => first | (go_simp; done) | (go_simp; rfl)); intro gb127 hg w6 hbox hb; have n0_ := Aside0.mk (below_step (qB HB) hb); have n1_ := Aside0.mk (hbox); have n2_ := Aside0.mk ((by rw [hg]; exact (below_size (qB HB)) : w.heap.size ≤ gb127)); have n3_ := Aside0.mk ((by rw [hg]; exact (below_size (qB HB)) : w.heap.size ≤ gb127)); clear HB; have HB := n0_; have BK127 := n1_; have GW127 := n2_; have GE127 := n3_; clear n0_ n1_ n2_ n3_; clear hb hbox hg; have hcz7_0 : w6.cell? ⟨gb127, 0, none⟩ = some (.int .i64 a1_0) := cC BK127 0; have hcz7_1 : w6.cell? ⟨gb127, 1, none⟩ = some (.int .i64 a1_1) := cC BK127 1; have hcz7_2 : w6.cell? ⟨gb127, 2, none⟩ = some (.int .i64 a1_2) := cC BK127 2; have hcz7_3 : w6.cell? ⟨gb127, 3, none⟩ = some (.int .i64 a1_3) := cC BK127 3; have hfz7_0 := blk_frozen BK127.out 0; have hfz7_1 := blk_frozen BK127.out 1; have hfz7_2 := blk_frozen BK127.out 2; have hfz7_3 := blk_frozen BK127.out 3) | ((with_reducible refine gate_callee (f := 44) rfl ?_); refine goesL_ (some 7) rfl rfl Try.func44 (by kernel_rfl) rfl #[.slice A0 l0.length c0, .agg #[.int .i64 a1_0, .int .i64 a1_1, .int .i64 a1_2, .int .i64 a1_3]] rfl (by (try simp only [mA, mC, mN]); first | done | rfl | (simp only [lD, lT]; rfl)) ?_; (with_reducible refine (impl_TrialState.calls k _ _ l0 a1_0 a1_1 a1_2 a1_3 t128 _ ?side1 ?side2 A3.out).mono ?_); (case side1 => exact qC (Kd.C_below HR0.out HB.out)); (case side2 => exact HC0.out); rintro e w8 ⟨rfl, hb⟩; refine ⟨_, rfl, ?_⟩; have n0_ := Aside0.mk (blk_below (qK BK127) hb); have n1_ := Aside0.mk (below_step (by repeat first | (with_reducible first | exact HB.out | apply bA | apply bN | apply bD | refine bS ?_ GE127.out) | exact HB.out) hb); clear BK127; clear HB; have BK127 := n0_; have HB := n1_; clear n0_ n1_; (try clear hb); (try clear hb2); (try clear hk); (try clear hi); have hcz9_0 : w8.cell? ⟨gb127, 0, none⟩ = some (.int .i64 a1_0) := cC BK127 0; have hcz9_1 : w8.cell? ⟨gb127, 1, none⟩ = some (.int .i64 a1_1) := cC BK127 1; have hcz9_2 : w8.cell? ⟨gb127, 2, none⟩ = some (.int .i64 a1_2) := cC BK127 2; have hcz9_3 : w8.cell? ⟨gb127, 3, none⟩ = some (.int .i64 a1_3) := cC BK127 3; have hfz9_0 := blk_frozen BK127.out 0; have hfz9_1 := blk_frozen BK127.out 1; have hfz9_2 := blk_frozen BK127.out 2; have hfz9_3 := blk_frozen BK127.out 3) | ((with_reducible refine gate_callee (f := 36) rfl ?_); refine goesL_ (some 14) rfl rfl Try.func36 (by kernel_rfl) rfl #[.slice A0 l0.length c0, .int .i64 a1_0, .int .i64 a1_1] rfl (by (try simp only [mA, mC, mN]); first | done | rfl | (simp only [lD, lT]; rfl)) ?_; (with_reducible refine (impl_QuestionFor.calls k _ _ l0 a1_0 a1_1 t129 _ ?side1 ?side2 A5.out).mono ?_); (case side1 => exact qC (Kd.C_below HR0.out HB.out)); (case side2 => exact HC0.out); rintro e w10 ⟨rfl, hb⟩; refine ⟨_, rfl, ?_⟩; have n0_ := Aside0.mk (blk_below (qK BK127) hb); have n1_ := Aside0.mk (below_step (by repeat first | (with_reducible first | exact HB.out | apply bA | apply bN | apply bD | refine bS ?_ GE127.out) | exact HB.out) hb); clear BK127; clear HB; have BK127 := n0_; have HB := n1_; clear n0_ n1_; (try clear hb); (try clear hb2); (try clear hk); (try clear hi)))
  go_ret
  exact ⟨by first | rfl | (simp [errW_none, errW_some] <;> rfl) | (simp [*, errW_none, errW_some] <;> rfl), by repeat (first | (with_reducible first | exact HB.out | apply bA | apply bN | apply bD | refine bS ?_ GE127.out) | exact HB.out)⟩
 ·rw [if_neg c4] at H
  have c4b0 : (t128 == 0) = false := beq_eq_false_iff_ne.mpr c4
  have c4b1 : (t128 != 0) = true := bne_iff_ne.mpr c4
  obtain rfl := Option.some.inj H
  go_enter Try.func42, Try.ntmps42
  go_wp2_with (first | ((with_reducible refine gate_dst (N := 3) rfl ?_); refine box_event ?hg (N := 3) ?hd (cs := #[.int .i64 a1_0, .int .i64 a1_1, .int .i64 a1_2, .int .i64 a1_3]) (t := 27) ?hr ?_; (case hd => rfl); (case hg => rfl); (case hr => first | (go_simp; done) | (go_simp; rfl)); intro gb127 hg w11 hbox hb; have n0_ := Aside0.mk (below_step (qB HB) hb); have n1_ := Aside0.mk (hbox); have n2_ := Aside0.mk ((by rw [hg]; exact (below_size (qB HB)) : w.heap.size ≤ gb127)); have n3_ := Aside0.mk ((by rw [hg]; exact (below_size (qB HB)) : w.heap.size ≤ gb127)); clear HB; have HB := n0_; have BK127 := n1_; have GW127 := n2_; have GE127 := n3_; clear n0_ n1_ n2_ n3_; clear hb hbox hg; have hcz12_0 : w11.cell? ⟨gb127, 0, none⟩ = some (.int .i64 a1_0) := cC BK127 0; have hcz12_1 : w11.cell? ⟨gb127, 1, none⟩ = some (.int .i64 a1_1) := cC BK127 1; have hcz12_2 : w11.cell? ⟨gb127, 2, none⟩ = some (.int .i64 a1_2) := cC BK127 2; have hcz12_3 : w11.cell? ⟨gb127, 3, none⟩ = some (.int .i64 a1_3) := cC BK127 3; have hfz12_0 := blk_frozen BK127.out 0; have hfz12_1 := blk_frozen BK127.out 1; have hfz12_2 := blk_frozen BK127.out 2; have hfz12_3 := blk_frozen BK127.out 3) | ((with_reducible refine gate_callee (f := 44) rfl ?_); refine goesL_ (some 7) rfl rfl Try.func44 (by kernel_rfl) rfl #[.slice A0 l0.length c0, .agg #[.int .i64 a1_0, .int .i64 a1_1, .int .i64 a1_2, .int .i64 a1_3]] rfl (by (try simp only [mA, mC, mN]); first | done | rfl | (simp only [lD, lT]; rfl)) ?_; (with_reducible refine (impl_TrialState.calls k _ _ l0 a1_0 a1_1 a1_2 a1_3 t128 _ ?side1 ?side2 A3.out).mono ?_); (case side1 => exact qC (Kd.C_below HR0.out HB.out)); (case side2 => exact HC0.out); rintro e w13 ⟨rfl, hb⟩; refine ⟨_, rfl, ?_⟩; have n0_ := Aside0.mk (blk_below (qK BK127) hb); have n1_ := Aside0.mk (below_step (by repeat first | (with_reducible first | exact HB.out | apply bA | apply bN | apply bD | refine bS ?_ GE127.out) | exact HB.out) hb); clear BK127; clear HB; have BK127 := n0_; have HB := n1_; clear n0_ n1_; (try clear hb); (try clear hb2); (try clear hk); (try clear hi)))
  go_ret
  exact ⟨by first | rfl | (simp [errW_none, errW_some] <;> rfl) | (simp [*, errW_none, errW_some] <;> rfl), by repeat (first | (with_reducible first | exact HB.out | apply bA | apply bN | apply bD | refine bS ?_ GE127.out) | exact HB.out)⟩

/-! ### impl_GiveAnswer: function 41 -/
def impl_GiveAnswer.f (k : Nat) (l0 : List (S62)) (a1_0 : Int) (a1_1 : Int) (a1_2 : Int) (a1_3 : Int) (a2 : Int) : Option (Int × Int × Int × Int × Bool) := (impl_NextQuestion.f k l0 a1_0 a1_1 a1_2 a1_3).bind fun t132 => (if t132 = 0 then (some (a1_0, a1_1, a1_2, a1_3, false)) else ((impl_AnswerOf.f k l0 t132).bind fun t133 => (if t133 = a2 then (some (a1_0, wrap64 (a1_1 + 1), wrap64 (a1_2 + 1), a1_3, true)) else (some (a1_0, wrap64 (a1_1 + 1), a1_2, wrap64 (a1_3 + 1), true)))))
theorem impl_GiveAnswer.mono : ∀ a0 a1 a2 a3 a4 a5 k, LeO (impl_GiveAnswer.f k a0 a1 a2 a3 a4 a5) (impl_GiveAnswer.f (k + 1) a0 a1 a2 a3 a4 a5) := by
 intro a0 a1 a2 a3 a4 a5 k
 unfold impl_GiveAnswer.f
 repeat' first
   | (with_reducible exact impl_AnswerOf.mono _ _ _)
   | (with_reducible exact impl_NextQuestion.mono _ _ _ _ _ _)
   | (with_reducible exact LeO.refl _)
   | (with_reducible exact LeO.none _)
   | (with_reducible refine LeO.ite ?_ ?_)
   | (with_reducible refine LeO.bind ?_ (fun _ => ?_))
   | exact impl_AnswerOf.mono _ _ _
   | exact impl_NextQuestion.mono _ _ _ _ _ _
   | exact LeO.none _
   | refine LeO.ite ?_ ?_
   | refine LeO.bind ?_ (fun _ => ?_)
set_option maxHeartbeats 8000000 in
set_option maxRecDepth 100000 in
theorem impl_GiveAnswer.calls (k : Nat) (A0 : Option Addr) (c0 : Nat) (l0 : List (S62)) (a1_0 : Int) (a1_1 : Int) (a1_2 : Int) (a1_3 : Int) (a2 : Int) (r1 : Int) (r2 : Int) (r3 : Int) (r4 : Int) (r5 : Bool) (w : World) (hr0 : Kd.C k62 w A0 l0.length l0) (hc0 : l0.length ≤ c0) (h : impl_GiveAnswer.f k l0 a1_0 a1_1 a1_2 a1_3 a2 = some (r1, r2, r3, r4, r5)) :
  Calls Try.prog 41 #[.slice A0 l0.length c0, .agg #[.int .i64 a1_0, .int .i64 a1_1, .int .i64 a1_2, .int .i64 a1_3], .int .i64 a2] w fun e w' => e = .returned (.tuple #[.agg #[.int .i64 r1, .int .i64 r2, .int .i64 r3, .int .i64 r4], .bool r5]) ∧ Below w.heap.size w w' := by
 have hu27 := Try.underlying27
 have HR0 := Aside0.mk hr0
 have HC0 := Aside0.mk hc0
 clear hr0 hc0
 have HB := Aside0.mk (Below.refl w.heap.size w)
 have H : ((impl_NextQuestion.f k l0 a1_0 a1_1 a1_2 a1_3).bind fun t132 => (if t132 = 0 then (some (a1_0, a1_1, a1_2, a1_3, false)) else ((impl_AnswerOf.f k l0 t132).bind fun t133 => (if t133 = a2 then (some (a1_0, wrap64 (a1_1 + 1), wrap64 (a1_2 + 1), a1_3, true)) else (some (a1_0, wrap64 (a1_1 + 1), a1_2, wrap64 (a1_3 + 1), true)))))) = some (r1, r2, r3, r4, r5) := h
 clear h
 replace H := Option.bind_eq_some_iff.mp H
 obtain ⟨t132, A40, H⟩ := H
 replace H : (if t132 = 0 then (some (a1_0, a1_1, a1_2, a1_3, false)) else ((impl_AnswerOf.f k l0 t132).bind fun t133 => (if t133 = a2 then (some (a1_0, wrap64 (a1_1 + 1), wrap64 (a1_2 + 1), a1_3, true)) else (some (a1_0, wrap64 (a1_1 + 1), a1_2, wrap64 (a1_3 + 1), true))))) = some (r1, r2, r3, r4, r5) := H
 have A4 := Aside0.mk A40
 clear A40
 by_cases c5 : t132 = 0
 ·rw [if_pos c5] at H
  have c5b0 : (t132 == 0) = true := beq_iff_eq.mpr c5
  have c5b1 : (t132 != 0) = false := bne_eq_false_iff_eq.mpr c5
  clear c5
  simp only [Option.some.injEq, Prod.mk.injEq] at H
  obtain ⟨rfl, rfl, rfl, rfl, rfl⟩ := H
  go_enter Try.func41, Try.ntmps41
  go_wp2_with (first | ((with_reducible refine gate_dst (N := 4) rfl ?_); refine box_event ?hg (N := 4) ?hd (cs := #[.int .i64 a1_0, .int .i64 a1_1, .int .i64 a1_2, .int .i64 a1_3]) (t := 27) ?hr ?_; (case hd => rfl); (case hg => rfl); (case hr => first | (go_simp; done) | (go_simp; rfl)); intro gb130 hg w6 hbox hb; have n0_ := Aside0.mk (below_step (qB HB) hb); have n1_ := Aside0.mk (hbox); have n2_ := Aside0.mk ((by rw [hg]; exact (below_size (qB HB)) : w.heap.size ≤ gb130)); have n3_ := Aside0.mk ((by rw [hg]; exact (below_size (qB HB)) : w.heap.size ≤ gb130)); clear HB; have HB := n0_; have BK130 := n1_; have GW130 := n2_; have GE130 := n3_; clear n0_ n1_ n2_ n3_; clear hb hbox hg) | ((with_reducible refine gate_dst (N := 6) rfl ?_); refine box_event ?hg (N := 6) ?hd (cs := #[.int .i64 0, .int .i64 0, .int .i64 0, .int .i64 0]) (t := 27) ?hr ?_; (case hd => rfl); (case hg => rfl); (case hr => first | (go_simp; done) | (go_simp; rfl)); intro gb131 hg w7 hbox hb; have n0_ := Aside0.mk (blk_below (qK BK130) hb); have n1_ := Aside0.mk (below_step (by repeat first | (with_reducible first | exact HB.out | apply bA | apply bN | apply bD | refine bS ?_ GE130.out) | exact HB.out) hb); have n2_ := Aside0.mk (hbox); have n3_ := Aside0.mk ((by rw [hg]; exact (below_size (by repeat first | (with_reducible first | exact HB.out | apply bA | apply bN | apply bD | refine bS ?_ GE130.out) | exact HB.out)) : w.heap.size ≤ gb131)); have n4_ := Aside0.mk ((by rw [hg]; exact (below_size (by repeat first | (with_reducible first | exact HB.out | apply bA | apply bN | apply bD | refine bS ?_ GE130.out) | exact HB.out)) : w.heap.size ≤ gb131)); have n5_ := Aside0.mk ((by rw [hg]; exact Nat.ne_of_lt (blk_lt (qK BK130)) : gb130 ≠ gb131)); have n6_ := Aside0.mk ((by rw [hg]; exact Nat.ne_of_gt (blk_lt (qK BK130)) : gb131 ≠ gb130)); clear BK130; clear HB; have BK130 := n0_; have HB := n1_; have BK131 := n2_; have GW131 := n3_; have GE131 := n4_; have NB130_131 := n5_; have NB131_130 := n6_; clear n0_ n1_ n2_ n3_ n4_ n5_ n6_; clear hb hbox hg; have hnb8 := NB130_131.out; have hnc8 := NB131_130.out; have hcz9_0 : w7.cell? ⟨gb130, 0, none⟩ = some (.int .i64 a1_0) := cC BK130 0; have hcz9_1 : w7.cell? ⟨gb130, 1, none⟩ = some (.int .i64 a1_1) := cC BK130 1; have hcz9_2 : w7.cell? ⟨gb130, 2, none⟩ = some (.int .i64 a1_2) := cC BK130 2; have hcz9_3 : w7.cell? ⟨gb130, 3, none⟩ = some (.int .i64 a1_3) := cC BK130 3; have hfz9_0 := blk_frozen BK130.out 0; have hfz9_1 := blk_frozen BK130.out 1; have hfz9_2 := blk_frozen BK130.out 2; have hfz9_3 := blk_frozen BK130.out 3) | ((with_reducible refine gate_callee (f := 42) rfl ?_); refine goesL_ (some 11) rfl rfl Try.func42 (by kernel_rfl) rfl #[.slice A0 l0.length c0, .agg #[.int .i64 a1_0, .int .i64 a1_1, .int .i64 a1_2, .int .i64 a1_3]] rfl (by (try simp only [mA, mC, mN]); first | done | rfl | (simp only [lD, lT]; rfl)) ?_; (with_reducible refine (impl_NextQuestion.calls k _ _ l0 a1_0 a1_1 a1_2 a1_3 t132 _ ?side1 ?side2 A4.out).mono ?_); (case side1 => exact qC (Kd.C_below HR0.out HB.out)); (case side2 => exact HC0.out); rintro e w10 ⟨rfl, hb⟩; refine ⟨_, rfl, ?_⟩; have n0_ := Aside0.mk (blk_below (qK BK130) hb); have n1_ := Aside0.mk (blk_below (qK BK131) hb); have n2_ := Aside0.mk (below_step (by repeat first | (with_reducible first | exact HB.out | apply bA | apply bN | apply bD | refine bS ?_ GE130.out | refine bS ?_ GE131.out) | exact HB.out) hb); clear BK130; clear BK131; clear HB; have BK130 := n0_; have BK131 := n1_; have HB := n2_; clear n0_ n1_ n2_; (try clear hb); (try clear hb2); (try clear hk); (try clear hi); have hcz11_0 : w10.cell? ⟨gb130, 0, none⟩ = some (.int .i64 a1_0) := cC BK130 0; have hcz11_1 : w10.cell? ⟨gb130, 1, none⟩ = some (.int .i64 a1_1) := cC BK130 1; have hcz11_2 : w10.cell? ⟨gb130, 2, none⟩ = some (.int .i64 a1_2) := cC BK130 2; have hcz11_3 : w10.cell? ⟨gb130, 3, none⟩ = some (.int .i64 a1_3) := cC BK130 3; have hfz11_0 := blk_frozen BK130.out 0; have hfz11_1 := blk_frozen BK130.out 1; have hfz11_2 := blk_frozen BK130.out 2; have hfz11_3 := blk_frozen BK130.out 3; have hcz12_0 : w10.cell? ⟨gb131, 0, none⟩ = some (.int .i64 0) := cC BK131 0; have hcz12_1 : w10.cell? ⟨gb131, 1, none⟩ = some (.int .i64 0) := cC BK131 1; have hcz12_2 : w10.cell? ⟨gb131, 2, none⟩ = some (.int .i64 0) := cC BK131 2; have hcz12_3 : w10.cell? ⟨gb131, 3, none⟩ = some (.int .i64 0) := cC BK131 3; have hfz12_0 := blk_frozen BK131.out 0; have hfz12_1 := blk_frozen BK131.out 1; have hfz12_2 := blk_frozen BK131.out 2; have hfz12_3 := blk_frozen BK131.out 3))
  refine bodyPost_ret (results_ct rfl _ _ gb131 27 #[.int .i64 a1_0, .int .i64 a1_1, .int .i64 a1_2, .int .i64 a1_3] (0, 0) _ rfl (by (with_reducible repeat first | refine kN ?_ _ | refine kD ?_ | refine kA ?_ _); refine blk_put (cs := #[.int .i64 a1_0, .int .i64 a1_1, .int .i64 a1_2, .int .i64 0]) ?_ 3 _ rfl; (with_reducible repeat first | refine kN ?_ _ | refine kD ?_ | refine kA ?_ _); refine blk_put (cs := #[.int .i64 a1_0, .int .i64 a1_1, .int .i64 0, .int .i64 0]) ?_ 2 _ rfl; (with_reducible repeat first | refine kN ?_ _ | refine kD ?_ | refine kA ?_ _); refine blk_put (cs := #[.int .i64 a1_0, .int .i64 0, .int .i64 0, .int .i64 0]) ?_ 1 _ rfl; (with_reducible repeat first | refine kN ?_ _ | refine kD ?_ | refine kA ?_ _); refine blk_put (cs := #[.int .i64 0, .int .i64 0, .int .i64 0, .int .i64 0]) ?_ 0 _ rfl; (with_reducible repeat first | refine kN ?_ _ | refine kD ?_ | refine kA ?_ _); exact BK131.out) Try.underlying27 rfl (by kernel_rfl)) rfl ?_
  exact ⟨by first | rfl | (simp [errW_none, errW_some] <;> rfl) | (simp [*, errW_none, errW_some] <;> rfl), by repeat (first | (with_reducible first | exact HB.out | apply bA | apply bN | apply bD | refine bS ?_ GE130.out | refine bS ?_ GE131.out) | exact HB.out)⟩
 ·rw [if_neg c5] at H
  have c5b0 : (t132 == 0) = false := beq_eq_false_iff_ne.mpr c5
  have c5b1 : (t132 != 0) = true := bne_iff_ne.mpr c5
  replace H := Option.bind_eq_some_iff.mp H
  obtain ⟨t133, A130, H⟩ := H
  replace H : (if t133 = a2 then (some (a1_0, wrap64 (a1_1 + 1), wrap64 (a1_2 + 1), a1_3, true)) else (some (a1_0, wrap64 (a1_1 + 1), a1_2, wrap64 (a1_3 + 1), true))) = some (r1, r2, r3, r4, r5) := H
  have A13 := Aside0.mk A130
  clear A130
  by_cases c14 : t133 = a2
  ·rw [if_pos c14] at H
   have c14b0 : (t133 == a2) = true := beq_iff_eq.mpr c14
   have c14b1 : (t133 != a2) = false := bne_eq_false_iff_eq.mpr c14
   clear c14
   simp only [Option.some.injEq, Prod.mk.injEq] at H
   obtain ⟨rfl, rfl, rfl, rfl, rfl⟩ := H
   go_enter Try.func41, Try.ntmps41
   go_wp2_with (first | ((with_reducible refine gate_dst (N := 4) rfl ?_); refine box_event ?hg (N := 4) ?hd (cs := #[.int .i64 a1_0, .int .i64 a1_1, .int .i64 a1_2, .int .i64 a1_3]) (t := 27) ?hr ?_; (case hd => rfl); (case hg => rfl); (case hr => first | (go_simp; done) | (go_simp; rfl)); intro gb130 hg w15 hbox hb; have n0_ := Aside0.mk (below_step (qB HB) hb); have n1_ := Aside0.mk (hbox); have n2_ := Aside0.mk ((by rw [hg]; exact (below_size (qB HB)) : w.heap.size ≤ gb130)); have n3_ := Aside0.mk ((by rw [hg]; exact (below_size (qB HB)) : w.heap.size ≤ gb130)); clear HB; have HB := n0_; have BK130 := n1_; have GW130 := n2_; have GE130 := n3_; clear n0_ n1_ n2_ n3_; clear hb hbox hg) | ((with_reducible refine gate_dst (N := 6) rfl ?_); refine box_event ?hg (N := 6) ?hd (cs := #[.int .i64 0, .int .i64 0, .int .i64 0, .int .i64 0]) (t := 27) ?hr ?_; (case hd => rfl); (case hg => rfl); (case hr => first | (go_simp; done) | (go_simp; rfl)); intro gb131 hg w16 hbox hb; have n0_ := Aside0.mk (blk_below (qK BK130) hb); have n1_ := Aside0.mk (below_step (by repeat first | (with_reducible first | exact HB.out | apply bA | apply bN | apply bD | refine bS ?_ GE130.out) | exact HB.out) hb); have n2_ := Aside0.mk (hbox); have n3_ := Aside0.mk ((by rw [hg]; exact (below_size (by repeat first | (with_reducible first | exact HB.out | apply bA | apply bN | apply bD | refine bS ?_ GE130.out) | exact HB.out)) : w.heap.size ≤ gb131)); have n4_ := Aside0.mk ((by rw [hg]; exact (below_size (by repeat first | (with_reducible first | exact HB.out | apply bA | apply bN | apply bD | refine bS ?_ GE130.out) | exact HB.out)) : w.heap.size ≤ gb131)); have n5_ := Aside0.mk ((by rw [hg]; exact Nat.ne_of_lt (blk_lt (qK BK130)) : gb130 ≠ gb131)); have n6_ := Aside0.mk ((by rw [hg]; exact Nat.ne_of_gt (blk_lt (qK BK130)) : gb131 ≠ gb130)); clear BK130; clear HB; have BK130 := n0_; have HB := n1_; have BK131 := n2_; have GW131 := n3_; have GE131 := n4_; have NB130_131 := n5_; have NB131_130 := n6_; clear n0_ n1_ n2_ n3_ n4_ n5_ n6_; clear hb hbox hg; have hnb17 := NB130_131.out; have hnc17 := NB131_130.out; have hcz18_0 : w16.cell? ⟨gb130, 0, none⟩ = some (.int .i64 a1_0) := cC BK130 0; have hcz18_1 : w16.cell? ⟨gb130, 1, none⟩ = some (.int .i64 a1_1) := cC BK130 1; have hcz18_2 : w16.cell? ⟨gb130, 2, none⟩ = some (.int .i64 a1_2) := cC BK130 2; have hcz18_3 : w16.cell? ⟨gb130, 3, none⟩ = some (.int .i64 a1_3) := cC BK130 3; have hfz18_0 := blk_frozen BK130.out 0; have hfz18_1 := blk_frozen BK130.out 1; have hfz18_2 := blk_frozen BK130.out 2; have hfz18_3 := blk_frozen BK130.out 3) | ((with_reducible refine gate_callee (f := 42) rfl ?_); refine goesL_ (some 11) rfl rfl Try.func42 (by kernel_rfl) rfl #[.slice A0 l0.length c0, .agg #[.int .i64 a1_0, .int .i64 a1_1, .int .i64 a1_2, .int .i64 a1_3]] rfl (by (try simp only [mA, mC, mN]); first | done | rfl | (simp only [lD, lT]; rfl)) ?_; (with_reducible refine (impl_NextQuestion.calls k _ _ l0 a1_0 a1_1 a1_2 a1_3 t132 _ ?side1 ?side2 A4.out).mono ?_); (case side1 => exact qC (Kd.C_below HR0.out HB.out)); (case side2 => exact HC0.out); rintro e w19 ⟨rfl, hb⟩; refine ⟨_, rfl, ?_⟩; have n0_ := Aside0.mk (blk_below (qK BK130) hb); have n1_ := Aside0.mk (blk_below (qK BK131) hb); have n2_ := Aside0.mk (below_step (by repeat first | (with_reducible first | exact HB.out | apply bA | apply bN | apply bD | refine bS ?_ GE130.out | refine bS ?_ GE131.out) | exact HB.out) hb); clear BK130; clear BK131; clear HB; have BK130 := n0_; have BK131 := n1_; have HB := n2_; clear n0_ n1_ n2_; (try clear hb); (try clear hb2); (try clear hk); (try clear hi); have hcz20_0 : w19.cell? ⟨gb130, 0, none⟩ = some (.int .i64 a1_0) := cC BK130 0; have hcz20_1 : w19.cell? ⟨gb130, 1, none⟩ = some (.int .i64 a1_1) := cC BK130 1; have hcz20_2 : w19.cell? ⟨gb130, 2, none⟩ = some (.int .i64 a1_2) := cC BK130 2; have hcz20_3 : w19.cell? ⟨gb130, 3, none⟩ = some (.int .i64 a1_3) := cC BK130 3; have hfz20_0 := blk_frozen BK130.out 0; have hfz20_1 := blk_frozen BK130.out 1; have hfz20_2 := blk_frozen BK130.out 2; have hfz20_3 := blk_frozen BK130.out 3) | ((with_reducible refine gate_callee (f := 37) rfl ?_); refine goesL_ (some 21) rfl rfl Try.func37 (by kernel_rfl) rfl #[.slice A0 l0.length c0, .int .i64 t132] rfl (by (try simp only [mA, mC, mN]); first | done | rfl | (simp only [lD, lT]; rfl)) ?_; (with_reducible refine (impl_AnswerOf.calls k _ _ l0 t132 t133 _ ?side1 ?side2 A13.out).mono ?_); (case side1 => exact Kd.C_below HR0.out (by repeat first | (with_reducible first | exact HB.out | apply bA | apply bN | apply bD | refine bS ?_ GE130.out | refine bS ?_ GE131.out) | exact HB.out)); (case side2 => exact HC0.out); rintro e w21 ⟨rfl, hb⟩; refine ⟨_, rfl, ?_⟩; have n0_ := Aside0.mk (blk_below (g := gb130) (o := .cells #[.int .i64 a1_0, .int .i64 (wrap64 (a1_1 + 1)), .int .i64 a1_2, .int .i64 a1_3] 27 (0, 0)) (by (with_reducible repeat first | refine kN ?_ _ | refine kD ?_ | refine kA ?_ _); refine blk_put (cs := #[.int .i64 a1_0, .int .i64 a1_1, .int .i64 a1_2, .int .i64 a1_3]) ?_ 1 _ rfl; (with_reducible repeat first | refine kN ?_ _ | refine kD ?_ | refine kA ?_ _); exact BK130.out) hb); have n1_ := Aside0.mk (blk_below (g := gb131) (o := .cells #[.int .i64 0, .int .i64 0, .int .i64 0, .int .i64 0] 27 (0, 0)) (by (with_reducible repeat first | refine kN ?_ _ | refine kD ?_ | refine kA ?_ _); refine blk_far ?_ NB131_130.out _; (with_reducible repeat first | refine kN ?_ _ | refine kD ?_ | refine kA ?_ _); exact BK131.out) hb); have n2_ := Aside0.mk (below_step (by repeat first | (with_reducible first | exact HB.out | apply bA | apply bN | apply bD | refine bS ?_ GE130.out | refine bS ?_ GE131.out) | exact HB.out) hb); clear BK130; clear BK131; clear HB; have BK130 := n0_; have BK131 := n1_; have HB := n2_; clear n0_ n1_ n2_; (try clear hb); (try clear hb2); (try clear hk); (try clear hi); have hcz22_0 : w21.cell? ⟨gb130, 0, none⟩ = some (.int .i64 a1_0) := cC BK130 0; have hcz22_1 : w21.cell? ⟨gb130, 1, none⟩ = some (.int .i64 (wrap64 (a1_1 + 1))) := cC BK130 1; have hcz22_2 : w21.cell? ⟨gb130, 2, none⟩ = some (.int .i64 a1_2) := cC BK130 2; have hcz22_3 : w21.cell? ⟨gb130, 3, none⟩ = some (.int .i64 a1_3) := cC BK130 3; have hfz22_0 := blk_frozen BK130.out 0; have hfz22_1 := blk_frozen BK130.out 1; have hfz22_2 := blk_frozen BK130.out 2; have hfz22_3 := blk_frozen BK130.out 3; have hcz23_0 : w21.cell? ⟨gb131, 0, none⟩ = some (.int .i64 0) := cC BK131 0; have hcz23_1 : w21.cell? ⟨gb131, 1, none⟩ = some (.int .i64 0) := cC BK131 1; have hcz23_2 : w21.cell? ⟨gb131, 2, none⟩ = some (.int .i64 0) := cC BK131 2; have hcz23_3 : w21.cell? ⟨gb131, 3, none⟩ = some (.int .i64 0) := cC BK131 3; have hfz23_0 := blk_frozen BK131.out 0; have hfz23_1 := blk_frozen BK131.out 1; have hfz23_2 := blk_frozen BK131.out 2; have hfz23_3 := blk_frozen BK131.out 3))
   refine bodyPost_ret (results_ct rfl _ _ gb131 27 #[.int .i64 a1_0, .int .i64 (wrap64 (a1_1 + 1)), .int .i64 (wrap64 (a1_2 + 1)), .int .i64 a1_3] (0, 0) _ rfl (by (with_reducible repeat first | refine kN ?_ _ | refine kD ?_ | refine kA ?_ _); refine blk_put (cs := #[.int .i64 a1_0, .int .i64 (wrap64 (a1_1 + 1)), .int .i64 (wrap64 (a1_2 + 1)), .int .i64 0]) ?_ 3 _ rfl; (with_reducible repeat first | refine kN ?_ _ | refine kD ?_ | refine kA ?_ _); refine blk_put (cs := #[.int .i64 a1_0, .int .i64 (wrap64 (a1_1 + 1)), .int .i64 0, .int .i64 0]) ?_ 2 _ rfl; (with_reducible repeat first | refine kN ?_ _ | refine kD ?_ | refine kA ?_ _); refine blk_put (cs := #[.int .i64 a1_0, .int .i64 0, .int .i64 0, .int .i64 0]) ?_ 1 _ rfl; (with_reducible repeat first | refine kN ?_ _ | refine kD ?_ | refine kA ?_ _); refine blk_put (cs := #[.int .i64 0, .int .i64 0, .int .i64 0, .int .i64 0]) ?_ 0 _ rfl; (with_reducible repeat first | refine kN ?_ _ | refine kD ?_ | refine kA ?_ _); refine blk_far ?_ NB131_130.out _; (with_reducible repeat first | refine kN ?_ _ | refine kD ?_ | refine kA ?_ _); exact BK131.out) Try.underlying27 rfl (by kernel_rfl)) rfl ?_
   exact ⟨by first | rfl | (simp [errW_none, errW_some] <;> rfl) | (simp [*, errW_none, errW_some] <;> rfl), by repeat (first | (with_reducible first | exact HB.out | apply bA | apply bN | apply bD | refine bS ?_ GE130.out | refine bS ?_ GE131.out) | exact HB.out)⟩
  ·rw [if_neg c14] at H
   have c14b0 : (t133 == a2) = false := beq_eq_false_iff_ne.mpr c14
   have c14b1 : (t133 != a2) = true := bne_iff_ne.mpr c14
   simp only [Option.some.injEq, Prod.mk.injEq] at H
   obtain ⟨rfl, rfl, rfl, rfl, rfl⟩ := H
   go_enter Try.func41, Try.ntmps41
   go_wp2_with (first | ((with_reducible refine gate_dst (N := 4) rfl ?_); refine box_event ?hg (N := 4) ?hd (cs := #[.int .i64 a1_0, .int .i64 a1_1, .int .i64 a1_2, .int .i64 a1_3]) (t := 27) ?hr ?_; (case hd => rfl); (case hg => rfl); (case hr => first | (go_simp; done) | (go_simp; rfl)); intro gb130 hg w24 hbox hb; have n0_ := Aside0.mk (below_step (qB HB) hb); have n1_ := Aside0.mk (hbox); have n2_ := Aside0.mk ((by rw [hg]; exact (below_size (qB HB)) : w.heap.size ≤ gb130)); have n3_ := Aside0.mk ((by rw [hg]; exact (below_size (qB HB)) : w.heap.size ≤ gb130)); clear HB; have HB := n0_; have BK130 := n1_; have GW130 := n2_; have GE130 := n3_; clear n0_ n1_ n2_ n3_; clear hb hbox hg) | ((with_reducible refine gate_dst (N := 6) rfl ?_); refine box_event ?hg (N := 6) ?hd (cs := #[.int .i64 0, .int .i64 0, .int .i64 0, .int .i64 0]) (t := 27) ?hr ?_; (case hd => rfl); (case hg => rfl); (case hr => first | (go_simp; done) | (go_simp; rfl)); intro gb131 hg w25 hbox hb; have n0_ := Aside0.mk (blk_below (qK BK130) hb); have n1_ := Aside0.mk (below_step (by repeat first | (with_reducible first | exact HB.out | apply bA | apply bN | apply bD | refine bS ?_ GE130.out) | exact HB.out) hb); have n2_ := Aside0.mk (hbox); have n3_ := Aside0.mk ((by rw [hg]; exact (below_size (by repeat first | (with_reducible first | exact HB.out | apply bA | apply bN | apply bD | refine bS ?_ GE130.out) | exact HB.out)) : w.heap.size ≤ gb131)); have n4_ := Aside0.mk ((by rw [hg]; exact (below_size (by repeat first | (with_reducible first | exact HB.out | apply bA | apply bN | apply bD | refine bS ?_ GE130.out) | exact HB.out)) : w.heap.size ≤ gb131)); have n5_ := Aside0.mk ((by rw [hg]; exact Nat.ne_of_lt (blk_lt (qK BK130)) : gb130 ≠ gb131)); have n6_ := Aside0.mk ((by rw [hg]; exact Nat.ne_of_gt (blk_lt (qK BK130)) : gb131 ≠ gb130)); clear BK130; clear HB; have BK130 := n0_; have HB := n1_; have BK131 := n2_; have GW131 := n3_; have GE131 := n4_; have NB130_131 := n5_; have NB131_130 := n6_; clear n0_ n1_ n2_ n3_ n4_ n5_ n6_; clear hb hbox hg; have hnb26 := NB130_131.out; have hnc26 := NB131_130.out; have hcz27_0 : w25.cell? ⟨gb130, 0, none⟩ = some (.int .i64 a1_0) := cC BK130 0; have hcz27_1 : w25.cell? ⟨gb130, 1, none⟩ = some (.int .i64 a1_1) := cC BK130 1; have hcz27_2 : w25.cell? ⟨gb130, 2, none⟩ = some (.int .i64 a1_2) := cC BK130 2; have hcz27_3 : w25.cell? ⟨gb130, 3, none⟩ = some (.int .i64 a1_3) := cC BK130 3; have hfz27_0 := blk_frozen BK130.out 0; have hfz27_1 := blk_frozen BK130.out 1; have hfz27_2 := blk_frozen BK130.out 2; have hfz27_3 := blk_frozen BK130.out 3) | ((with_reducible refine gate_callee (f := 42) rfl ?_); refine goesL_ (some 11) rfl rfl Try.func42 (by kernel_rfl) rfl #[.slice A0 l0.length c0, .agg #[.int .i64 a1_0, .int .i64 a1_1, .int .i64 a1_2, .int .i64 a1_3]] rfl (by (try simp only [mA, mC, mN]); first | done | rfl | (simp only [lD, lT]; rfl)) ?_; (with_reducible refine (impl_NextQuestion.calls k _ _ l0 a1_0 a1_1 a1_2 a1_3 t132 _ ?side1 ?side2 A4.out).mono ?_); (case side1 => exact qC (Kd.C_below HR0.out HB.out)); (case side2 => exact HC0.out); rintro e w28 ⟨rfl, hb⟩; refine ⟨_, rfl, ?_⟩; have n0_ := Aside0.mk (blk_below (qK BK130) hb); have n1_ := Aside0.mk (blk_below (qK BK131) hb); have n2_ := Aside0.mk (below_step (by repeat first | (with_reducible first | exact HB.out | apply bA | apply bN | apply bD | refine bS ?_ GE130.out | refine bS ?_ GE131.out) | exact HB.out) hb); clear BK130; clear BK131; clear HB; have BK130 := n0_; have BK131 := n1_; have HB := n2_; clear n0_ n1_ n2_; (try clear hb); (try clear hb2); (try clear hk); (try clear hi); have hcz29_0 : w28.cell? ⟨gb130, 0, none⟩ = some (.int .i64 a1_0) := cC BK130 0; have hcz29_1 : w28.cell? ⟨gb130, 1, none⟩ = some (.int .i64 a1_1) := cC BK130 1; have hcz29_2 : w28.cell? ⟨gb130, 2, none⟩ = some (.int .i64 a1_2) := cC BK130 2; have hcz29_3 : w28.cell? ⟨gb130, 3, none⟩ = some (.int .i64 a1_3) := cC BK130 3; have hfz29_0 := blk_frozen BK130.out 0; have hfz29_1 := blk_frozen BK130.out 1; have hfz29_2 := blk_frozen BK130.out 2; have hfz29_3 := blk_frozen BK130.out 3) | ((with_reducible refine gate_callee (f := 37) rfl ?_); refine goesL_ (some 21) rfl rfl Try.func37 (by kernel_rfl) rfl #[.slice A0 l0.length c0, .int .i64 t132] rfl (by (try simp only [mA, mC, mN]); first | done | rfl | (simp only [lD, lT]; rfl)) ?_; (with_reducible refine (impl_AnswerOf.calls k _ _ l0 t132 t133 _ ?side1 ?side2 A13.out).mono ?_); (case side1 => exact Kd.C_below HR0.out (by repeat first | (with_reducible first | exact HB.out | apply bA | apply bN | apply bD | refine bS ?_ GE130.out | refine bS ?_ GE131.out) | exact HB.out)); (case side2 => exact HC0.out); rintro e w30 ⟨rfl, hb⟩; refine ⟨_, rfl, ?_⟩; have n0_ := Aside0.mk (blk_below (g := gb130) (o := .cells #[.int .i64 a1_0, .int .i64 (wrap64 (a1_1 + 1)), .int .i64 a1_2, .int .i64 a1_3] 27 (0, 0)) (by (with_reducible repeat first | refine kN ?_ _ | refine kD ?_ | refine kA ?_ _); refine blk_put (cs := #[.int .i64 a1_0, .int .i64 a1_1, .int .i64 a1_2, .int .i64 a1_3]) ?_ 1 _ rfl; (with_reducible repeat first | refine kN ?_ _ | refine kD ?_ | refine kA ?_ _); exact BK130.out) hb); have n1_ := Aside0.mk (blk_below (g := gb131) (o := .cells #[.int .i64 0, .int .i64 0, .int .i64 0, .int .i64 0] 27 (0, 0)) (by (with_reducible repeat first | refine kN ?_ _ | refine kD ?_ | refine kA ?_ _); refine blk_far ?_ NB131_130.out _; (with_reducible repeat first | refine kN ?_ _ | refine kD ?_ | refine kA ?_ _); exact BK131.out) hb); have n2_ := Aside0.mk (below_step (by repeat first | (with_reducible first | exact HB.out | apply bA | apply bN | apply bD | refine bS ?_ GE130.out | refine bS ?_ GE131.out) | exact HB.out) hb); clear BK130; clear BK131; clear HB; have BK130 := n0_; have BK131 := n1_; have HB := n2_; clear n0_ n1_ n2_; (try clear hb); (try clear hb2); (try clear hk); (try clear hi); have hcz31_0 : w30.cell? ⟨gb130, 0, none⟩ = some (.int .i64 a1_0) := cC BK130 0; have hcz31_1 : w30.cell? ⟨gb130, 1, none⟩ = some (.int .i64 (wrap64 (a1_1 + 1))) := cC BK130 1; have hcz31_2 : w30.cell? ⟨gb130, 2, none⟩ = some (.int .i64 a1_2) := cC BK130 2; have hcz31_3 : w30.cell? ⟨gb130, 3, none⟩ = some (.int .i64 a1_3) := cC BK130 3; have hfz31_0 := blk_frozen BK130.out 0; have hfz31_1 := blk_frozen BK130.out 1; have hfz31_2 := blk_frozen BK130.out 2; have hfz31_3 := blk_frozen BK130.out 3; have hcz32_0 : w30.cell? ⟨gb131, 0, none⟩ = some (.int .i64 0) := cC BK131 0; have hcz32_1 : w30.cell? ⟨gb131, 1, none⟩ = some (.int .i64 0) := cC BK131 1; have hcz32_2 : w30.cell? ⟨gb131, 2, none⟩ = some (.int .i64 0) := cC BK131 2; have hcz32_3 : w30.cell? ⟨gb131, 3, none⟩ = some (.int .i64 0) := cC BK131 3; have hfz32_0 := blk_frozen BK131.out 0; have hfz32_1 := blk_frozen BK131.out 1; have hfz32_2 := blk_frozen BK131.out 2; have hfz32_3 := blk_frozen BK131.out 3))
   refine bodyPost_ret (results_ct rfl _ _ gb131 27 #[.int .i64 a1_0, .int .i64 (wrap64 (a1_1 + 1)), .int .i64 a1_2, .int .i64 (wrap64 (a1_3 + 1))] (0, 0) _ rfl (by (with_reducible repeat first | refine kN ?_ _ | refine kD ?_ | refine kA ?_ _); refine blk_put (cs := #[.int .i64 a1_0, .int .i64 (wrap64 (a1_1 + 1)), .int .i64 a1_2, .int .i64 0]) ?_ 3 _ rfl; (with_reducible repeat first | refine kN ?_ _ | refine kD ?_ | refine kA ?_ _); refine blk_put (cs := #[.int .i64 a1_0, .int .i64 (wrap64 (a1_1 + 1)), .int .i64 0, .int .i64 0]) ?_ 2 _ rfl; (with_reducible repeat first | refine kN ?_ _ | refine kD ?_ | refine kA ?_ _); refine blk_put (cs := #[.int .i64 a1_0, .int .i64 0, .int .i64 0, .int .i64 0]) ?_ 1 _ rfl; (with_reducible repeat first | refine kN ?_ _ | refine kD ?_ | refine kA ?_ _); refine blk_put (cs := #[.int .i64 0, .int .i64 0, .int .i64 0, .int .i64 0]) ?_ 0 _ rfl; (with_reducible repeat first | refine kN ?_ _ | refine kD ?_ | refine kA ?_ _); refine blk_far ?_ NB131_130.out _; (with_reducible repeat first | refine kN ?_ _ | refine kD ?_ | refine kA ?_ _); exact BK131.out) Try.underlying27 rfl (by kernel_rfl)) rfl ?_
   exact ⟨by first | rfl | (simp [errW_none, errW_some] <;> rfl) | (simp [*, errW_none, errW_some] <;> rfl), by repeat (first | (with_reducible first | exact HB.out | apply bA | apply bN | apply bD | refine bS ?_ GE130.out | refine bS ?_ GE131.out) | exact HB.out)⟩

/-! ### impl_AnswerAll: function 19 -/
def impl_AnswerAll.l0 : Nat → List (S62) → List Int → Int → Int → Int → Int → Int → Int → Option (Int × Int × Int × Int)
 | 0, _, _, _, _, _, _, _, _ => none
 | k + 1, x0, x9, x10, x11, x135000, x135001, x135002, x135003 => if x11 < x10 then (if 0 ≤ x11 then (if x11 < (x9.length : Int) then ((impl_GiveAnswer.f k x0 x135000 x135001 x135002 x135003 (rd x9 x11)).bind fun bt137 => (impl_AnswerAll.l0 k x0 x9 x10 (wrap64 (x11 + 1)) bt137.1 bt137.2.1 bt137.2.2.1 bt137.2.2.2.1)) else (none)) else (none)) else (some (x135000, x135001, x135002, x135003))
def impl_AnswerAll.f (k : Nat) (l0 : List (S62)) (a1_0 : Int) (a1_1 : Int) (a1_2 : Int) (a1_3 : Int) (l2 : List Int) : Option (Int × Int × Int × Int) := impl_AnswerAll.l0 k l0 l2 (l2.length : Int) 0 a1_0 a1_1 a1_2 a1_3
theorem impl_AnswerAll.mono_l : ∀ k, (∀ y0 y1 y2 y3 y4 y5 y6 y7, LeO (impl_AnswerAll.l0 k y0 y1 y2 y3 y4 y5 y6 y7) (impl_AnswerAll.l0 (k + 1) y0 y1 y2 y3 y4 y5 y6 y7))
 | 0 => fun _ _ _ _ _ _ _ _ r h => by simp [impl_AnswerAll.l0] at h
 | k + 1 => by
  have ih0 := impl_AnswerAll.mono_l k
  ·intro y0 y1 y2 y3 y4 y5 y6 y7
   unfold impl_AnswerAll.l0
   repeat' first
   | (with_reducible exact ih0 _ _ _ _ _ _ _ _)
   | (with_reducible exact impl_GiveAnswer.mono _ _ _ _ _ _ _)
   | (with_reducible exact LeO.refl _)
   | (with_reducible exact LeO.none _)
   | (with_reducible refine LeO.ite ?_ ?_)
   | (with_reducible refine LeO.bind ?_ (fun _ => ?_))
   | exact ih0 _ _ _ _ _ _ _ _
   | exact impl_GiveAnswer.mono _ _ _ _ _ _ _
   | exact LeO.none _
   | refine LeO.ite ?_ ?_
   | refine LeO.bind ?_ (fun _ => ?_)
theorem impl_AnswerAll.mono : ∀ a0 a1 a2 a3 a4 a5 k, LeO (impl_AnswerAll.f k a0 a1 a2 a3 a4 a5) (impl_AnswerAll.f (k + 1) a0 a1 a2 a3 a4 a5) := by
 intro a0 a1 a2 a3 a4 a5 k
 have ih0 := impl_AnswerAll.mono_l k
 unfold impl_AnswerAll.f
 repeat' first
   | (with_reducible exact ih0 _ _ _ _ _ _ _ _)
   | (with_reducible exact impl_GiveAnswer.mono _ _ _ _ _ _ _)
   | (with_reducible exact LeO.refl _)
   | (with_reducible exact LeO.none _)
   | (with_reducible refine LeO.ite ?_ ?_)
   | (with_reducible refine LeO.bind ?_ (fun _ => ?_))
   | exact ih0 _ _ _ _ _ _ _ _
   | exact impl_GiveAnswer.mono _ _ _ _ _ _ _
   | exact LeO.none _
   | refine LeO.ite ?_ ?_
   | refine LeO.bind ?_ (fun _ => ?_)
set_option maxHeartbeats 8000000 in
set_option maxRecDepth 100000 in
theorem impl_AnswerAll.calls (k : Nat) (A0 : Option Addr) (c0 : Nat) (l0 : List (S62)) (a1_0 : Int) (a1_1 : Int) (a1_2 : Int) (a1_3 : Int) (A2 : Option Addr) (c2 : Nat) (l2 : List Int) (r1 : Int) (r2 : Int) (r3 : Int) (r4 : Int) (w : World) (hr0 : Kd.C k62 w A0 l0.length l0) (hc0 : l0.length ≤ c0) (hr2 : Kd.C (Kd.int .i64) w A2 l2.length l2) (hc2 : l2.length ≤ c2) (h : impl_AnswerAll.f k l0 a1_0 a1_1 a1_2 a1_3 l2 = some (r1, r2, r3, r4)) :
  Calls Try.prog 19 #[.slice A0 l0.length c0, .agg #[.int .i64 a1_0, .int .i64 a1_1, .int .i64 a1_2, .int .i64 a1_3], .slice A2 l2.length c2] w fun e w' => e = .returned (.agg #[.int .i64 r1, .int .i64 r2, .int .i64 r3, .int .i64 r4]) ∧ Below w.heap.size w w' := by
 have hu27 := Try.underlying27
 have HR0 := Aside0.mk hr0
 have HC0 := Aside0.mk hc0
 clear hr0 hc0
 have HR2 := Aside0.mk hr2
 have HC2 := Aside0.mk hc2
 clear hr2 hc2
 have HB := Aside0.mk (Below.refl w.heap.size w)
 have H : (impl_AnswerAll.l0 k l0 l2 (l2.length : Int) 0 a1_0 a1_1 a1_2 a1_3) = some (r1, r2, r3, r4) := h
 clear h
 have H' := Aside0.mk H
 clear H
 go_enter Try.func19, Try.ntmps19
 go_wp2_with (first | ((with_reducible refine gate_dst (N := 4) rfl ?_); refine box_event ?hg (N := 4) ?hd (cs := #[.int .i64 a1_0, .int .i64 a1_1, .int .i64 a1_2, .int .i64 a1_3]) (t := 27) ?hr ?_; (case hd => rfl); (case hg => rfl); (case hr => first | (go_simp; done) | (go_simp; rfl)); intro gb134 hg w4 hbox hb; have n0_ := Aside0.mk (below_step (qB HB) hb); have n1_ := Aside0.mk (hbox); have n2_ := Aside0.mk ((by rw [hg]; exact (below_size (qB HB)) : w.heap.size ≤ gb134)); have n3_ := Aside0.mk ((by rw [hg]; exact (below_size (qB HB)) : w.heap.size ≤ gb134)); clear HB; have HB := n0_; have BK134 := n1_; have GW134 := n2_; have GE134 := n3_; clear n0_ n1_ n2_ n3_; clear hb hbox hg) | ((with_reducible refine gate_dst (N := 6) rfl ?_); refine box_event ?hg (N := 6) ?hd (cs := #[.int .i64 0, .int .i64 0, .int .i64 0, .int .i64 0]) (t := 27) ?hr ?_; (case hd => rfl); (case hg => rfl); (case hr => first | (go_simp; done) | (go_simp; rfl)); intro gb135 hg w5 hbox hb; have n0_ := Aside0.mk (blk_below (qK BK134) hb); have n1_ := Aside0.mk (below_step (by repeat first | (with_reducible first | exact HB.out | apply bA | apply bN | apply bD | refine bS ?_ GE134.out) | exact HB.out) hb); have n2_ := Aside0.mk (hbox); have n3_ := Aside0.mk ((by rw [hg]; exact (below_size (by repeat first | (with_reducible first | exact HB.out | apply bA | apply bN | apply bD | refine bS ?_ GE134.out) | exact HB.out)) : w.heap.size ≤ gb135)); have n4_ := Aside0.mk ((by rw [hg]; exact (below_size (by repeat first | (with_reducible first | exact HB.out | apply bA | apply bN | apply bD | refine bS ?_ GE134.out) | exact HB.out)) : w.heap.size ≤ gb135)); have n5_ := Aside0.mk ((by rw [hg]; exact Nat.ne_of_lt (blk_lt (qK BK134)) : gb134 ≠ gb135)); have n6_ := Aside0.mk ((by rw [hg]; exact Nat.ne_of_gt (blk_lt (qK BK134)) : gb135 ≠ gb134)); clear BK134; clear HB; have BK134 := n0_; have HB := n1_; have BK135 := n2_; have GW135 := n3_; have GE135 := n4_; have NB134_135 := n5_; have NB135_134 := n6_; clear n0_ n1_ n2_ n3_ n4_ n5_ n6_; clear hb hbox hg))
 go_loopg [11] k (fun kq v11 w' => ∃ (x11_1 : Int) (x135000_1 : Int) (x135001_1 : Int) (x135002_1 : Int) (x135003_1 : Int), v11 = .int .i64 x11_1 ∧ Aside0 (impl_AnswerAll.l0 kq l0 l2 (l2.length : Int) x11_1 x135000_1 x135001_1 x135002_1 x135003_1 = some (r1, r2, r3, r4)) ∧ Aside0 (kq ≤ k) ∧ Aside0 (w'.heap[gb134]? = some (.cells #[.int .i64 x135000_1, .int .i64 x135001_1, .int .i64 x135002_1, .int .i64 x135003_1] 27 (0, 0))) ∧ Aside0 (w'.heap[gb135]? = some (.cells #[.int .i64 0, .int .i64 0, .int .i64 0, .int .i64 0] 27 (0, 0))) ∧ Aside0 (Below w.heap.size w w'))
 case atStart => exact ⟨(0), (a1_0), (a1_1), (a1_2), (a1_3), (by first | rfl | (simp; done) | (simp [*]; done)), H', ⟨Nat.le_refl _⟩, ⟨by (with_reducible repeat first | refine kN ?_ _ | refine kD ?_ | refine kA ?_ _); exact BK134.out⟩, ⟨by (with_reducible repeat first | refine kN ?_ _ | refine kD ?_ | refine kA ?_ _); exact BK135.out⟩, ⟨by repeat (first | (with_reducible first | exact HB.out | apply bA | apply bN | apply bD | refine bS ?_ GE134.out | refine bS ?_ GE135.out) | exact HB.out)⟩⟩
 case round =>
  clear H'
  try clear c1
  try clear c2
  try clear p2
  obtain ⟨x11_1, x135000_1, x135001_1, x135002_1, x135003_1, rfl, HA, HK1, BK134, BK135, HB⟩ := hrel
  cases gk with
  | zero => exact absurd HA.out (by simp [impl_AnswerAll.l0])
  | succ k1 =>
   have H := HA.out
   clear HA
   simp only [impl_AnswerAll.l0] at H
   by_cases c6 : x11_1 < (l2.length : Int)
   ·rw [if_pos c6] at H
    have c6b0 : decide (x11_1 < (l2.length : Int)) = true := decide_eq_true c6
    clear c6
    by_cases c7 : 0 ≤ x11_1
    ·rw [if_pos c7] at H
     have c7b0 : decide (0 ≤ x11_1) = true := decide_eq_true c7
     clear c7
     by_cases c8 : x11_1 < (l2.length : Int)
     ·rw [if_pos c8] at H
      have c8b0 : decide (x11_1 < (l2.length : Int)) = true := decide_eq_true c8
      clear c8
      replace H := Option.bind_eq_some_iff.mp H
      obtain ⟨⟨t137, t138, t139, t140, t141⟩, A90, H⟩ := H
      replace H : (impl_AnswerAll.l0 k1 l0 l2 (l2.length : Int) (wrap64 (x11_1 + 1)) t137 t138 t139 t140) = some (r1, r2, r3, r4) := H
      have A9 := Aside0.mk A90
      clear A90
      have H' := Aside0.mk H
      clear H
      have p136 : 0 ≤ (x11_1 : Int) := of_decide_eq_true ‹_›
      have q136 : x11_1 < (l2.length : Int) := of_decide_eq_true ‹_›
      obtain ⟨ad136, e136, hx136_0⟩ := Kd.at_int HR2.out x11_1 p136 q136
      cases e136
      replace hx136_0 := (HB.out.cell (World.block_lt_of_cell? w _ hx136_0)).trans hx136_0
      replace p136 := eq_true p136
      replace q136 := eq_true q136
      have hnb10 := NB134_135.out
      have hnc10 := NB135_134.out
      have hcz11_0 : wr.cell? ⟨gb134, 0, none⟩ = some (.int .i64 x135000_1) := cC BK134 0
      have hcz11_1 : wr.cell? ⟨gb134, 1, none⟩ = some (.int .i64 x135001_1) := cC BK134 1
      have hcz11_2 : wr.cell? ⟨gb134, 2, none⟩ = some (.int .i64 x135002_1) := cC BK134 2
      have hcz11_3 : wr.cell? ⟨gb134, 3, none⟩ = some (.int .i64 x135003_1) := cC BK134 3
      have hfz11_0 := blk_frozen BK134.out 0
      have hfz11_1 := blk_frozen BK134.out 1
      have hfz11_2 := blk_frozen BK134.out 2
      have hfz11_3 := blk_frozen BK134.out 3
      go_wp2_with (first | ((with_reducible refine gate_callee (f := 41) rfl ?_); refine goesL_ (some 19) rfl rfl Try.func41 (by kernel_rfl) rfl #[.slice A0 l0.length c0, .agg #[.int .i64 x135000_1, .int .i64 x135001_1, .int .i64 x135002_1, .int .i64 x135003_1], .int .i64 (rd l2 x11_1)] rfl (by (try simp only [mA, mC, mN]); first | done | rfl | (simp only [lD, lT]; rfl)) ?_; (with_reducible refine (impl_GiveAnswer.calls k1 _ _ l0 x135000_1 x135001_1 x135002_1 x135003_1 (rd l2 x11_1) t137 t138 t139 t140 t141 _ ?side1 ?side2 A9.out).mono ?_); (case side1 => exact qC (Kd.C_below HR0.out HB.out)); (case side2 => exact HC0.out); rintro e w12 ⟨rfl, hb⟩; refine ⟨_, rfl, ?_⟩; have n0_ := Aside0.mk (blk_below (qK BK134) hb); have n1_ := Aside0.mk (blk_below (qK BK135) hb); have n2_ := Aside0.mk (below_step (by repeat first | (with_reducible first | exact HB.out | apply bA | apply bN | apply bD | refine bS ?_ GE134.out | refine bS ?_ GE135.out) | exact HB.out) hb); clear BK134; clear BK135; clear HB; have BK134 := n0_; have BK135 := n1_; have HB := n2_; clear n0_ n1_ n2_; (try clear hb); (try clear hb2); (try clear hk); (try clear hi); have hcz13_0 : w12.cell? ⟨gb134, 0, none⟩ = some (.int .i64 x135000_1) := cC BK134 0; have hcz13_1 : w12.cell? ⟨gb134, 1, none⟩ = some (.int .i64 x135001_1) := cC BK134 1; have hcz13_2 : w12.cell? ⟨gb134, 2, none⟩ = some (.int .i64 x135002_1) := cC BK134 2; have hcz13_3 : w12.cell? ⟨gb134, 3, none⟩ = some (.int .i64 x135003_1) := cC BK134 3; have hfz13_0 := blk_frozen BK134.out 0; have hfz13_1 := blk_frozen BK134.out 1; have hfz13_2 := blk_frozen BK134.out 2; have hfz13_3 := blk_frozen BK134.out 3))
      go_roundg k1
      case measure => have := HK1.out; omega
      case rel => exact ⟨(wrap64 (x11_1 + 1)), (t137), (t138), (t139), (t140), (by first | rfl | (simp; done) | (simp [*]; done)), H', ⟨by have := HK1.out; omega⟩, ⟨by (with_reducible repeat first | refine kN ?_ _ | refine kD ?_ | refine kA ?_ _); refine blk_put (cs := #[.int .i64 t137, .int .i64 t138, .int .i64 t139, .int .i64 x135003_1]) ?_ 3 _ rfl; (with_reducible repeat first | refine kN ?_ _ | refine kD ?_ | refine kA ?_ _); refine blk_put (cs := #[.int .i64 t137, .int .i64 t138, .int .i64 x135002_1, .int .i64 x135003_1]) ?_ 2 _ rfl; (with_reducible repeat first | refine kN ?_ _ | refine kD ?_ | refine kA ?_ _); refine blk_put (cs := #[.int .i64 t137, .int .i64 x135001_1, .int .i64 x135002_1, .int .i64 x135003_1]) ?_ 1 _ rfl; (with_reducible repeat first | refine kN ?_ _ | refine kD ?_ | refine kA ?_ _); refine blk_put (cs := #[.int .i64 x135000_1, .int .i64 x135001_1, .int .i64 x135002_1, .int .i64 x135003_1]) ?_ 0 _ rfl; (with_reducible repeat first | refine kN ?_ _ | refine kD ?_ | refine kA ?_ _); exact BK134.out⟩, ⟨by (with_reducible repeat first | refine kN ?_ _ | refine kD ?_ | refine kA ?_ _); exact blk4 BK135.out NB135_134⟩, ⟨by repeat (first | (with_reducible first | exact HB.out | apply bA | apply bN | apply bD | refine bS ?_ GE134.out | refine bS ?_ GE135.out) | exact HB.out)⟩⟩
     ·rw [if_neg c8] at H
      exact absurd H (by simp)
    ·rw [if_neg c7] at H
     exact absurd H (by simp)
   ·rw [if_neg c6] at H
    have c6b0 : decide (x11_1 < (l2.length : Int)) = false := decide_eq_false c6
    clear c6
    simp only [Option.some.injEq, Prod.mk.injEq] at H
    obtain ⟨rfl, rfl, rfl, rfl⟩ := H
    have hnb14 := NB134_135.out
    have hnc14 := NB135_134.out
    have hcz15_0 : wr.cell? ⟨gb134, 0, none⟩ = some (.int .i64 x135000_1) := cC BK134 0
    have hcz15_1 : wr.cell? ⟨gb134, 1, none⟩ = some (.int .i64 x135001_1) := cC BK134 1
    have hcz15_2 : wr.cell? ⟨gb134, 2, none⟩ = some (.int .i64 x135002_1) := cC BK134 2
    have hcz15_3 : wr.cell? ⟨gb134, 3, none⟩ = some (.int .i64 x135003_1) := cC BK134 3
    have hfz15_0 := blk_frozen BK134.out 0
    have hfz15_1 := blk_frozen BK134.out 1
    have hfz15_2 := blk_frozen BK134.out 2
    have hfz15_3 := blk_frozen BK134.out 3
    have hcz16_0 : wr.cell? ⟨gb135, 0, none⟩ = some (.int .i64 0) := cC BK135 0
    have hcz16_1 : wr.cell? ⟨gb135, 1, none⟩ = some (.int .i64 0) := cC BK135 1
    have hcz16_2 : wr.cell? ⟨gb135, 2, none⟩ = some (.int .i64 0) := cC BK135 2
    have hcz16_3 : wr.cell? ⟨gb135, 3, none⟩ = some (.int .i64 0) := cC BK135 3
    have hfz16_0 := blk_frozen BK135.out 0
    have hfz16_1 := blk_frozen BK135.out 1
    have hfz16_2 := blk_frozen BK135.out 2
    have hfz16_3 := blk_frozen BK135.out 3
    go_wp2
    refine bodyPost_ret (results_cell_row rfl _ _ gb135 27 #[.int .i64 x135000_1, .int .i64 x135001_1, .int .i64 x135002_1, .int .i64 x135003_1] (0, 0) _ rfl (by (with_reducible repeat first | refine kN ?_ _ | refine kD ?_ | refine kA ?_ _); refine blk_put (cs := #[.int .i64 x135000_1, .int .i64 x135001_1, .int .i64 x135002_1, .int .i64 0]) ?_ 3 _ rfl; (with_reducible repeat first | refine kN ?_ _ | refine kD ?_ | refine kA ?_ _); refine blk_put (cs := #[.int .i64 x135000_1, .int .i64 x135001_1, .int .i64 0, .int .i64 0]) ?_ 2 _ rfl; (with_reducible repeat first | refine kN ?_ _ | refine kD ?_ | refine kA ?_ _); refine blk_put (cs := #[.int .i64 x135000_1, .int .i64 0, .int .i64 0, .int .i64 0]) ?_ 1 _ rfl; (with_reducible repeat first | refine kN ?_ _ | refine kD ?_ | refine kA ?_ _); refine blk_put (cs := #[.int .i64 0, .int .i64 0, .int .i64 0, .int .i64 0]) ?_ 0 _ rfl; (with_reducible repeat first | refine kN ?_ _ | refine kD ?_ | refine kA ?_ _); exact BK135.out) Try.underlying27 rfl (by kernel_rfl)) rfl ?_
    exact ⟨by first | rfl | (simp [errW_none, errW_some] <;> rfl) | (simp [*, errW_none, errW_some] <;> rfl), by repeat (first | (with_reducible first | exact HB.out | apply bA | apply bN | apply bD | refine bS ?_ GE134.out | refine bS ?_ GE135.out) | exact HB.out)⟩

/-! ### laws_big: function 30 -/
def laws_big.f (l0 : List Int) : Option (Bool) := some (decide ((l0.length : Int) > 1048576))
set_option maxHeartbeats 8000000 in
set_option maxRecDepth 100000 in
theorem laws_big.calls (A0 : Option Addr) (c0 : Nat) (l0 : List Int) (r : Bool) (w : World) (hr0 : Kd.C (Kd.int .u8) w A0 l0.length l0) (hc0 : l0.length ≤ c0) (h : laws_big.f l0 = some r) :
  Calls Try.prog 30 #[.slice A0 l0.length c0] w fun e w' => e = .returned (.bool r) ∧ Drawn0 w w' := by
 have HR0 := Aside0.mk hr0
 have HC0 := Aside0.mk hc0
 clear hr0 hc0
 have H : (some (decide ((l0.length : Int) > 1048576))) = some r := h
 clear h
 obtain rfl := Option.some.inj H
 go_enter Try.func30, Try.ntmps30
 go_wp2
 go_ret
 exact ⟨by first | rfl | (simp; done) | (simp [*]; done), by repeat (first | exact Drawn0.refl _ | apply Drawn0.step)⟩

end Go.Proofs.Ytppgealmedaihaa.PFnTrials
