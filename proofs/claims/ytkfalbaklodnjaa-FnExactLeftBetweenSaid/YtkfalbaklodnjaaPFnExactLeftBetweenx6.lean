-- The printed functions of one law and their contracts, over contracts of this session's own (hand.py).
import Derived.Test.YtkfalbaklodnjaaPFnExactLeftBetweenx0
import Derived.Test.YtkfalbaklodnjaaPFnExactLeftBetweenx2
import Derived.Test.YtkfalbaklodnjaaPFnExactLeftBetweenx3
import Derived.Test.YtkfalbaklodnjaaPFnExactLeftBetweenx4
import Derived.Test.YtkfalbaklodnjaaPFnExactLeftBetweenx5
namespace Go.Proofs.Ytkfalbaklodnjaa.PFnExactLeftBetween
open Go.RowKit Go.Proofs.YtkfalbaklodnjaaW.PrintWords Go.Proofs.YtkfalbaklodnjaaW.PrintLast Go.Proofs.YtkfalbaklodnjaaW.PrintMore Go.Proofs.Ytkfalbaklodnjaa.Short
attribute [local go_sem] max2_int min2_int max_two min_two max_three min_three max_four min_four   -- for this text's walks alone
set_option linter.unusedVariables false
set_option linter.unusedSimpArgs false

/-! ### spec_LeftBetween: function 24 -/
mutual
def spec_LeftBetween.l0 : Nat → List (S130) → List Int → Int → Int → Int → Option (List Int)
 | 0, _, _, _, _, _ => none
 | k + 1, x0, x5, x6, x161000, x161001 => if x6 < (x0.length : Int) then ((spec_IsRoute.f k x0).bind fun t164 => (if t164 = true then ((spec_IsSpan.f x161000 x161001).bind fun t165 => (spec_LeftBetween.j1 k x0 x5 x6 t165 x161000 x161001)) else (spec_LeftBetween.j1 k x0 x5 x6 false x161000 x161001))) else (spec_LeftBetween.j1 k x0 x5 x6 false x161000 x161001)
def spec_LeftBetween.j1 : Nat → List (S130) → List Int → Int → Bool → Int → Int → Option (List Int)
 | 0, _, _, _, _, _, _ => none
 | k + 1, x0, x5, x6, x21, x161000, x161001 => if x21 = true then (if 0 ≤ x6 then (if x6 < (x0.length : Int) then ((spec_Meet.f x161000 x161001 ((rd_T130 x0 x6).f1) ((rd_T130 x0 x6).f2)).bind fun bt168 => (if bt168.2.2 = true then ((spec_l9Put.f k x5 ((rd_T130 x0 x6).f0)).bind fun t173 => (spec_LeftBetween.l0 k x0 t173 (wrap64 (x6 + 1)) x161000 x161001)) else (if (wrap64 (x6 + 1)) = (x0.length : Int) then ((spec_l9Put.f k x5 ((rd_T130 x0 x6).f0)).bind fun t177 => (spec_LeftBetween.l0 k x0 t177 (wrap64 (x6 + 1)) x161000 x161001)) else (spec_LeftBetween.l0 k x0 x5 (wrap64 (x6 + 1)) x161000 x161001)))) else (none)) else (none)) else (some x5)
end
def spec_LeftBetween.f (k : Nat) (l0 : List (S130)) (a1_0 : Int) (a1_1 : Int) : Option (List Int) := spec_LeftBetween.l0 k l0 (([] : List Int)) 0 a1_0 a1_1
theorem spec_LeftBetween.mono_l : ∀ k, (∀ y0 y1 y2 y3 y4, LeO (spec_LeftBetween.l0 k y0 y1 y2 y3 y4) (spec_LeftBetween.l0 (k + 1) y0 y1 y2 y3 y4)) ∧ (∀ y0 y1 y2 y3 y4 y5, LeO (spec_LeftBetween.j1 k y0 y1 y2 y3 y4 y5) (spec_LeftBetween.j1 (k + 1) y0 y1 y2 y3 y4 y5))
 | 0 => ⟨fun _ _ _ _ _ r h => by simp [spec_LeftBetween.l0] at h, fun _ _ _ _ _ _ r h => by simp [spec_LeftBetween.j1] at h⟩
 | k + 1 => by
  obtain ⟨ih0, ih1⟩ := spec_LeftBetween.mono_l k
  refine ⟨?_, ?_⟩
  ·intro y0 y1 y2 y3 y4
   unfold spec_LeftBetween.l0
   repeat' first
   | (with_reducible exact ih0 _ _ _ _ _)
   | (with_reducible exact ih1 _ _ _ _ _ _)
   | (with_reducible exact spec_IsRoute.mono _ _)
   | (with_reducible exact spec_l9Put.mono _ _ _)
   | (with_reducible exact LeO.refl _)
   | (with_reducible exact LeO.none _)
   | (with_reducible refine LeO.ite ?_ ?_)
   | (with_reducible refine LeO.bind ?_ (fun _ => ?_))
   | exact ih0 _ _ _ _ _
   | exact ih1 _ _ _ _ _ _
   | exact spec_IsRoute.mono _ _
   | exact spec_l9Put.mono _ _ _
   | exact LeO.none _
   | refine LeO.ite ?_ ?_
   | refine LeO.bind ?_ (fun _ => ?_)
  ·intro y0 y1 y2 y3 y4 y5
   unfold spec_LeftBetween.j1
   repeat' first
   | (with_reducible exact ih0 _ _ _ _ _)
   | (with_reducible exact ih1 _ _ _ _ _ _)
   | (with_reducible exact spec_IsRoute.mono _ _)
   | (with_reducible exact spec_l9Put.mono _ _ _)
   | (with_reducible exact LeO.refl _)
   | (with_reducible exact LeO.none _)
   | (with_reducible refine LeO.ite ?_ ?_)
   | (with_reducible refine LeO.bind ?_ (fun _ => ?_))
   | exact ih0 _ _ _ _ _
   | exact ih1 _ _ _ _ _ _
   | exact spec_IsRoute.mono _ _
   | exact spec_l9Put.mono _ _ _
   | exact LeO.none _
   | refine LeO.ite ?_ ?_
   | refine LeO.bind ?_ (fun _ => ?_)
theorem spec_LeftBetween.mono : ∀ a0 a1 a2 k, LeO (spec_LeftBetween.f k a0 a1 a2) (spec_LeftBetween.f (k + 1) a0 a1 a2) := by
 intro a0 a1 a2 k
 obtain ⟨ih0, ih1⟩ := spec_LeftBetween.mono_l k
 unfold spec_LeftBetween.f
 repeat' first
   | (with_reducible exact ih0 _ _ _ _ _)
   | (with_reducible exact ih1 _ _ _ _ _ _)
   | (with_reducible exact spec_IsRoute.mono _ _)
   | (with_reducible exact spec_l9Put.mono _ _ _)
   | (with_reducible exact LeO.refl _)
   | (with_reducible exact LeO.none _)
   | (with_reducible refine LeO.ite ?_ ?_)
   | (with_reducible refine LeO.bind ?_ (fun _ => ?_))
   | exact ih0 _ _ _ _ _
   | exact ih1 _ _ _ _ _ _
   | exact spec_IsRoute.mono _ _
   | exact spec_l9Put.mono _ _ _
   | exact LeO.none _
   | refine LeO.ite ?_ ?_
   | refine LeO.bind ?_ (fun _ => ?_)
def spec_LeftBetween.T5 : Bool × List (List Nat × List Nat) := (true, [([], []), ([], []), ([], []), ([1, 2], [1, 2]), ([3], [3]), ([4], [4]), ([], []), ([], []), ([6, 7], [6, 7]), ([8], [8]), ([9], [9]), ([5, 10], [5, 10]), ([0, 11], [0, 11]), ([12], [12]), ([13], [13]), ([13], [13]), ([], []), ([16, 14, 12, 0, 1, 2, 3, 4, 5, 6, 7, 8, 9, 10, 11, 12, 13, 14, 16], [14, 16]), ([15, 17, 0, 1, 2, 3, 4, 5, 6, 7, 8, 9, 10, 11, 12, 13, 14, 15, 16, 17], [15])])
def spec_LeftBetween.B5 : List Nat := [0, 0, 0, 6, 14, 30, 0, 0, 192, 448, 960, 2046, 4095, 8191, 16383, 16383, 0, 98303, 262143]
theorem spec_LeftBetween.tab5 : rtab .any (opsOf Try.f24 5) = spec_LeftBetween.T5 := by kernel_rfl
theorem spec_LeftBetween.bits5 : waitsOk spec_LeftBetween.T5.2 spec_LeftBetween.B5 = true := by kernel_rfl
set_option maxHeartbeats 8000000 in
set_option maxRecDepth 100000 in
theorem spec_LeftBetween.calls (k : Nat) (A0 : Option Addr) (c0 : Nat) (l0 : List (S130)) (a1_0 : Int) (a1_1 : Int) (r : List Int) (w : World) (hr0 : Kd.C k130 w A0 l0.length l0) (hc0 : l0.length ≤ c0) (h : spec_LeftBetween.f k l0 a1_0 a1_1 = some r) :
  Calls Try.prog 24 #[.slice A0 l0.length c0, .agg #[.int .i64 a1_0, .int .i64 a1_1]] w fun e w' => ∃ v0_ : Value, e = .returned (v0_) ∧ Kd.R (Kd.int .i64) 3 w' w.heap.size (fun _ => True) v0_ r ∧ Below w.heap.size w w' := by
 have hu43 := Try.underlying43
 have HR0 := Aside0.mk hr0
 have HC0 := Aside0.mk hc0
 clear hr0 hc0
 have HB := Aside0.mk (Below.refl w.heap.size w)
 have H : (spec_LeftBetween.l0 k l0 (([] : List Int)) 0 a1_0 a1_1) = some r := h
 clear h
 obtain ⟨y161, hy161⟩ : ∃ y_ : List Int, y_ = (([] : List Int)) := ⟨_, rfl⟩
 replace H : (spec_LeftBetween.l0 k l0 y161 0 a1_0 a1_1) = some r := by first | (rw [hy161]; with_reducible exact H) | (have H2_ := (Option.bind_some _ _).symm.trans H; rw [hy161]; with_reducible exact H2_) | (have H2_ := (Option.bind_some _ _).symm.trans H; with_reducible exact H2_) | with_reducible exact H | (rw [hy161]; exact H) | exact H
 have Ny161 := Aside0.mk hy161
 clear hy161
 have H' := Aside0.mk H
 clear H
 go_enter Try.func24, Try.ntmps24
 go_wp2_with (first | ((with_reducible refine gate_dst (N := 3) rfl ?_); (try (refine gate_guard (by rfl) ?_; dsimp only)); refine box_event ?hg (N := 3) ?hd (cs := #[.int .i64 a1_0, .int .i64 a1_1]) (t := 43) ?hr ?_; (case hd => rfl); (case hg => rfl); (case hr => first | (go_simp; done) | (go_simp; rfl)); intro gb160 hg w3 hbox hb; have n0_ := Aside0.mk (below_step (qB HB) hb); have n1_ := Aside0.mk (hbox); have n2_ := Aside0.mk ((by rw [hg]; exact (below_size (qB HB)) : w.heap.size ≤ gb160)); have n3_ := Aside0.mk ((by rw [hg]; exact (below_size (qB HB)) : w.heap.size ≤ gb160)); clear HB; have HB := n0_; have BK160 := n1_; have GW160 := n2_; have GE160 := n3_; clear n0_ n1_ n2_ n3_; clear hb hbox hg) | ((with_reducible refine gate_dst (N := 9) rfl ?_); (try (refine gate_guard (by rfl) ?_; dsimp only)); refine Kd.R_lit (Kd.int .i64) _ 3 ?hg (N := 9) ?hd (xs := ([] : List Int)) (inner := []) (ok := fun _ => True) (okp := fun _ => True) ?hr ?hp (fun _ hk => hk) trivial (Below.refl _ _) (Nat.le_refl _) (by simp) ?_; (case hd => rfl); (case hg => rfl); (case hr => first | (go_simp; done) | (go_simp; rfl)); (case hp => exact (Reps.none _ _)); intro v162 w4 ho5 hb hg_ hnew_; clear hg_ hnew_; (first | rw [← Ny161.out] at ho5 | (simp only [Int.reduceToNat] at ho5; rw [← Ny161.out] at ho5)); have n0_ := Aside0.mk (Kd.R_lower ho5 (below_size (by repeat first | (with_reducible first | exact HB.out | apply bA | apply bN | apply bD | refine bS ?_ GE160.out) | exact HB.out))); have n1_ := Aside0.mk (blk_below (qK BK160) hb); have n2_ := Aside0.mk (below_step (by repeat first | (with_reducible first | exact HB.out | apply bA | apply bN | apply bD | refine bS ?_ GE160.out) | exact HB.out) hb); clear BK160; clear HB; have HO163 := n0_; have BK160 := n1_; have HB := n2_; clear n0_ n1_ n2_; clear hb ho5))
 go_loopg [5, 6] k (fun kq v5 v6 w' => ∃ (x5_1 : List Int) (x6_1 : Int), v6 = .int .i64 x6_1 ∧ Aside0 (spec_LeftBetween.l0 kq l0 x5_1 x6_1 a1_0 a1_1 = some r) ∧ Aside0 (kq ≤ k) ∧ Aside0 (Kd.R (Kd.int .i64) 3 w' w.heap.size (fun _ => True) v5 x5_1) ∧ Aside0 (w'.heap[gb160]? = some (.cells #[.int .i64 a1_0, .int .i64 a1_1] 43 (0, 0))) ∧ Aside0 (Below w.heap.size w w'))
 case atStart => exact ⟨(y161), (0), (by first | rfl | (simp; done) | (simp [*]; done)), H', ⟨Nat.le_refl _⟩, ⟨by (with_reducible repeat first | apply rA | apply rN | apply rD); exact HO163.out⟩, ⟨by (with_reducible repeat first | refine kN ?_ _ | refine kD ?_ | refine kA ?_ _); exact BK160.out⟩, ⟨by repeat (first | (with_reducible first | exact HB.out | apply bA | apply bN | apply bD | refine bS ?_ GE160.out) | exact HB.out)⟩⟩
 case round =>
  clear H'
  try clear c2
  try clear p2
  obtain ⟨x5_1, x6_1, rfl, HA, HK1, HO_5, BK160, HB⟩ := hrel
  cases gk with
  | zero => exact absurd HA.out (by simp [spec_LeftBetween.l0])
  | succ k1 =>
   have H := HA.out
   clear HA
   simp only [spec_LeftBetween.l0] at H
   have HC6 := Aside0.mk H
   clear H
   go_upto_region 3 with (fail)
   go_cut [21] (fun v21 wc => ∃ (kq : Nat) (x21_5 : Bool), v21 = .bool x21_5 ∧ Aside0 (spec_LeftBetween.j1 kq l0 x5_1 x6_1 x21_5 a1_0 a1_1 = some r) ∧ Aside0 (kq ≤ k1) ∧ Aside0 (Kd.R (Kd.int .i64) 3 wc w.heap.size (fun _ => True) u5 x5_1) ∧ Aside0 (wc.heap[gb160]? = some (.cells #[.int .i64 a1_0, .int .i64 a1_1] 43 (0, 0))) ∧ Aside0 (Below w.heap.size w wc))
   case first =>
    have H := HC6.out
    clear HC6
    by_cases c7 : x6_1 < (l0.length : Int)
    ·rw [if_pos c7] at H
     have c7b0 : decide (x6_1 < (l0.length : Int)) = true := decide_eq_true c7
     clear c7
     (first | rw [c7b0] | (simp only [i64_w, i32_w]; rw [c7b0]) | skip)
     replace H := Option.bind_eq_some_iff.mp H
     obtain ⟨t164, A80, H⟩ := H
     replace H : (if t164 = true then ((spec_IsSpan.f a1_0 a1_1).bind fun t165 => (spec_LeftBetween.j1 k1 l0 x5_1 x6_1 t165 a1_0 a1_1)) else (spec_LeftBetween.j1 k1 l0 x5_1 x6_1 false a1_0 a1_1)) = some r := H
     have A8 := Aside0.mk A80
     clear A80
     by_cases c9 : t164 = true
     ·subst c9
      have H1 : ((spec_IsSpan.f a1_0 a1_1).bind fun t165 => (spec_LeftBetween.j1 k1 l0 x5_1 x6_1 t165 a1_0 a1_1)) = some r := by rw [if_pos rfl] at H; exact H
      clear H
      have H := H1
      clear H1
      replace H := Option.bind_eq_some_iff.mp H
      obtain ⟨t165, A100, H⟩ := H
      replace H : (spec_LeftBetween.j1 k1 l0 x5_1 x6_1 t165 a1_0 a1_1) = some r := H
      have A10 := Aside0.mk A100
      clear A100
      have H' := Aside0.mk H
      clear H
      go_wp2_with (first | (go_at_call 109; (with_reducible refine (spec_IsRoute.calls k1 _ _ l0 true _ ?side1 ?side2 A8.out).mono ?_); (case side1 => exact qC (Kd.C_below HR0.out HB.out)); (case side2 => exact HC0.out); rintro e w11 ⟨rfl, hb⟩; have n0_ := Aside0.mk (Kd.R_below (qR HO_5) hb); have n1_ := Aside0.mk (blk_below (qK BK160) hb); have n2_ := Aside0.mk (below_step (by repeat first | (with_reducible first | exact HB.out | apply bA | apply bN | apply bD | refine bS ?_ GE160.out) | exact HB.out) hb); clear HO_5; clear BK160; clear HB; have HO_5 := n0_; have BK160 := n1_; have HB := n2_; clear n0_ n1_ n2_; (try clear hb); (try clear hb2); (try clear hk); (try clear hi); have hcz12_0 : w11.cell? ⟨gb160, 0, none⟩ = some (.int .i64 a1_0) := cC BK160 0; have hcz12_1 : w11.cell? ⟨gb160, 1, none⟩ = some (.int .i64 a1_1) := cC BK160 1; have hfz12_0 := blk_frozen BK160.out 0; have hfz12_1 := blk_frozen BK160.out 1) | (go_at_call 110; (with_reducible refine (spec_IsSpan.calls a1_0 a1_1 t165 _ A10.out).mono ?_); rintro e w13 ⟨rfl, hb⟩; have n0_ := Aside0.mk (Kd.R_below (qR HO_5) hb); have n1_ := Aside0.mk (blk_below (qK BK160) hb); have n2_ := Aside0.mk (below_step (by repeat first | (with_reducible first | exact HB.out | apply bA | apply bN | apply bD | refine bS ?_ GE160.out) | exact HB.out) hb); clear HO_5; clear BK160; clear HB; have HO_5 := n0_; have BK160 := n1_; have HB := n2_; clear n0_ n1_ n2_; (try clear hb); (try clear hb2); (try clear hk); (try clear hi)))
      go_meet
      case rel => exact ⟨_, (t165), (by first | rfl | (simp; done) | (simp [*]; done)), H', ⟨by have := HK1.out; first | omega | exact Nat.le_refl _⟩, ⟨by (with_reducible repeat first | apply rA | apply rN | apply rD); exact HO_5.out⟩, ⟨by (with_reducible repeat first | refine kN ?_ _ | refine kD ?_ | refine kA ?_ _); exact BK160.out⟩, ⟨by repeat (first | (with_reducible first | exact HB.out | apply bA | apply bN | apply bD | refine bS ?_ GE160.out) | exact HB.out)⟩⟩
     ·replace c9 := Bool.eq_false_iff.mpr c9
      subst c9
      have H1 : (spec_LeftBetween.j1 k1 l0 x5_1 x6_1 false a1_0 a1_1) = some r := by rw [if_neg (show ¬ (false = true) by decide)] at H; exact H
      clear H
      have H := H1
      clear H1
      have H' := Aside0.mk H
      clear H
      go_wp2_with (first | (go_at_call 109; (with_reducible refine (spec_IsRoute.calls k1 _ _ l0 false _ ?side1 ?side2 A8.out).mono ?_); (case side1 => exact qC (Kd.C_below HR0.out HB.out)); (case side2 => exact HC0.out); rintro e w14 ⟨rfl, hb⟩; have n0_ := Aside0.mk (Kd.R_below (qR HO_5) hb); have n1_ := Aside0.mk (blk_below (qK BK160) hb); have n2_ := Aside0.mk (below_step (by repeat first | (with_reducible first | exact HB.out | apply bA | apply bN | apply bD | refine bS ?_ GE160.out) | exact HB.out) hb); clear HO_5; clear BK160; clear HB; have HO_5 := n0_; have BK160 := n1_; have HB := n2_; clear n0_ n1_ n2_; (try clear hb); (try clear hb2); (try clear hk); (try clear hi)))
      go_meet
      case rel => exact ⟨_, (false), (by first | rfl | (simp; done) | (simp [*]; done)), H', ⟨by have := HK1.out; first | omega | exact Nat.le_refl _⟩, ⟨by (with_reducible repeat first | apply rA | apply rN | apply rD); exact HO_5.out⟩, ⟨by (with_reducible repeat first | refine kN ?_ _ | refine kD ?_ | refine kA ?_ _); exact BK160.out⟩, ⟨by repeat (first | (with_reducible first | exact HB.out | apply bA | apply bN | apply bD | refine bS ?_ GE160.out) | exact HB.out)⟩⟩
    ·rw [if_neg c7] at H
     have c7b0 : decide (x6_1 < (l0.length : Int)) = false := decide_eq_false c7
     clear c7
     (first | rw [c7b0] | (simp only [i64_w, i32_w]; rw [c7b0]) | skip)
     have H' := Aside0.mk H
     clear H
     go_wp2
     go_meet
     case rel => exact ⟨_, (false), (by first | rfl | (simp; done) | (simp [*]; done)), H', ⟨by have := HK1.out; first | omega | exact Nat.le_refl _⟩, ⟨by (with_reducible repeat first | apply rA | apply rN | apply rD); exact HO_5.out⟩, ⟨by (with_reducible repeat first | refine kN ?_ _ | refine kD ?_ | refine kA ?_ _); exact BK160.out⟩, ⟨by repeat (first | (with_reducible first | exact HB.out | apply bA | apply bN | apply bD | refine bS ?_ GE160.out) | exact HB.out)⟩⟩
   case rest =>
    clear HC6
    try clear c2
    try clear p2
    try clear c7
    try clear c7b0
    try clear c9
    try clear hcz12_0
    try clear hcz12_1
    try clear hfz12_0
    try clear hfz12_1
    try clear p2
    obtain ⟨kq, x21_5, rfl, HA, HJ5, HO_5, BK160, HB⟩ := hcut
    cases kq with
    | zero => exact absurd HA.out (by simp [spec_LeftBetween.j1])
    | succ kj5 =>
     have H := HA.out
     clear HA
     simp only [spec_LeftBetween.j1] at H
     by_cases c15 : x21_5 = true
     ·subst c15
      have H1 : (if 0 ≤ x6_1 then (if x6_1 < (l0.length : Int) then ((spec_Meet.f a1_0 a1_1 ((rd_T130 l0 x6_1).f1) ((rd_T130 l0 x6_1).f2)).bind fun bt168 => (if bt168.2.2 = true then ((spec_l9Put.f kj5 x5_1 ((rd_T130 l0 x6_1).f0)).bind fun t173 => (spec_LeftBetween.l0 kj5 l0 t173 (wrap64 (x6_1 + 1)) a1_0 a1_1)) else (if (wrap64 (x6_1 + 1)) = (l0.length : Int) then ((spec_l9Put.f kj5 x5_1 ((rd_T130 l0 x6_1).f0)).bind fun t177 => (spec_LeftBetween.l0 kj5 l0 t177 (wrap64 (x6_1 + 1)) a1_0 a1_1)) else (spec_LeftBetween.l0 kj5 l0 x5_1 (wrap64 (x6_1 + 1)) a1_0 a1_1)))) else (none)) else (none)) = some r := by rw [if_pos rfl] at H; exact H
      clear H
      have H := H1
      clear H1
      by_cases c16 : 0 ≤ x6_1
      ·rw [if_pos c16] at H
       have c16b0 : decide (0 ≤ x6_1) = true := decide_eq_true c16
       clear c16
       by_cases c17 : x6_1 < (l0.length : Int)
       ·rw [if_pos c17] at H
        have c17b0 : decide (x6_1 < (l0.length : Int)) = true := decide_eq_true c17
        clear c17
        replace H := Option.bind_eq_some_iff.mp H
        obtain ⟨⟨t168, t169, t170⟩, A180, H⟩ := H
        replace H : (if t170 = true then ((spec_l9Put.f kj5 x5_1 ((rd_T130 l0 x6_1).f0)).bind fun t173 => (spec_LeftBetween.l0 kj5 l0 t173 (wrap64 (x6_1 + 1)) a1_0 a1_1)) else (if (wrap64 (x6_1 + 1)) = (l0.length : Int) then ((spec_l9Put.f kj5 x5_1 ((rd_T130 l0 x6_1).f0)).bind fun t177 => (spec_LeftBetween.l0 kj5 l0 t177 (wrap64 (x6_1 + 1)) a1_0 a1_1)) else (spec_LeftBetween.l0 kj5 l0 x5_1 (wrap64 (x6_1 + 1)) a1_0 a1_1))) = some r := H
        have A18 := Aside0.mk A180
        clear A180
        by_cases c19 : t170 = true
        ·subst c19
         have H1 : ((spec_l9Put.f kj5 x5_1 ((rd_T130 l0 x6_1).f0)).bind fun t173 => (spec_LeftBetween.l0 kj5 l0 t173 (wrap64 (x6_1 + 1)) a1_0 a1_1)) = some r := by rw [if_pos rfl] at H; exact H
         clear H
         have H := H1
         clear H1
         replace H := Option.bind_eq_some_iff.mp H
         obtain ⟨t173, A200, H⟩ := H
         replace H : (spec_LeftBetween.l0 kj5 l0 t173 (wrap64 (x6_1 + 1)) a1_0 a1_1) = some r := H
         have A20 := Aside0.mk A200
         clear A200
         have H' := Aside0.mk H
         clear H
         try go_wp2
         have n0_ := Aside0.mk (Kd.R_drew HO_5.out)
         have n1_ := Aside0.mk (blk_drew BK160.out)
         have n2_ := Aside0.mk (below_drew1 HB.out)
         clear HO_5
         clear BK160
         clear HB
         have HO_5 := n0_
         have BK160 := n1_
         have HB := n2_
         clear n0_ n1_ n2_
         have p166 : 0 ≤ (x6_1 : Int) := of_decide_eq_true ‹_›
         have q166 : x6_1 < (l0.length : Int) := of_decide_eq_true ‹_›
         obtain ⟨ad166, e166, hx166_0, hx166_1, hx166_2⟩ := at_T130 HR0.out x6_1 p166 q166
         have hw166_2 := hx166_2
         have hw166_1 := hx166_1
         have hw166_0 := hx166_0
         cases e166
         replace hx166_0 := (HB.out.cell (World.block_lt_of_cell? w _ hx166_0)).trans hx166_0
         replace hx166_1 := (HB.out.cell (World.block_lt_of_cell? w _ hx166_1)).trans hx166_1
         replace hx166_2 := (HB.out.cell (World.block_lt_of_cell? w _ hx166_2)).trans hx166_2
         replace p166 := eq_true p166
         replace q166 := eq_true q166
         have p167 : 0 ≤ (x6_1 : Int) := of_decide_eq_true ‹_›
         have q167 : x6_1 < (l0.length : Int) := of_decide_eq_true ‹_›
         obtain ⟨ad167, e167, hx167_0, hx167_1, hx167_2⟩ := at_T130 HR0.out x6_1 p167 q167
         have hw167_2 := hx167_2
         have hw167_1 := hx167_1
         have hw167_0 := hx167_0
         obtain rfl : ad166 = ad167 := (by injection e167)
         replace hx167_0 := (HB.out.cell (World.block_lt_of_cell? w _ hx167_0)).trans hx167_0
         replace hx167_1 := (HB.out.cell (World.block_lt_of_cell? w _ hx167_1)).trans hx167_1
         replace hx167_2 := (HB.out.cell (World.block_lt_of_cell? w _ hx167_2)).trans hx167_2
         replace p167 := eq_true p167
         replace q167 := eq_true q167
         refine start_ (n := 19) (S := fun w' => w'.cell? ⟨gb160, 0, none⟩ = some (.int .i64 a1_0) ∧ w'.cell? ⟨gb160, 1, none⟩ = some (.int .i64 a1_1) ∧ w'.cell? (ad166.add ((x6_1).toNat * 3)) = some (.int .i64 ((rd_T130 l0 x6_1).f0)) ∧ w'.cell? ⟨(ad166.add ((x6_1).toNat * 3)).block, (ad166.add ((x6_1).toNat * 3)).off + 1, none⟩ = some (.int .i64 ((rd_T130 l0 x6_1).f1)) ∧ w'.cell? ⟨(ad166.add ((x6_1).toNat * 3)).block, (ad166.add ((x6_1).toNat * 3)).off + 2, none⟩ = some (.int .i64 ((rd_T130 l0 x6_1).f2)) ∧ w'.cell? (ad166.add ((x6_1).toNat * 3)) = some (.int .i64 ((rd_T130 l0 x6_1).f0)) ∧ w'.cell? ⟨(ad166.add ((x6_1).toNat * 3)).block, (ad166.add ((x6_1).toNat * 3)).off + 1, none⟩ = some (.int .i64 ((rd_T130 l0 x6_1).f1)) ∧ w'.cell? ⟨(ad166.add ((x6_1).toNat * 3)).block, (ad166.add ((x6_1).toNat * 3)).off + 2, none⟩ = some (.int .i64 ((rd_T130 l0 x6_1).f2))) (ds := []) (bR [0, 19]) (by kernel_rfl) rfl rfl ⟨cC BK160 0, cC BK160 1, ((HB.out.cell (World.block_lt_of_cell? w _ hw166_0)).trans hw166_0), ((HB.out.cell (World.block_lt_of_cell? w _ hw166_1)).trans hw166_1), ((HB.out.cell (World.block_lt_of_cell? w _ hw166_2)).trans hw166_2), ((HB.out.cell (World.block_lt_of_cell? w _ hw167_0)).trans hw167_0), ((HB.out.cell (World.block_lt_of_cell? w _ hw167_1)).trans hw167_1), ((HB.out.cell (World.block_lt_of_cell? w _ hw167_2)).trans hw167_2)⟩ (fun hHeld => ?_); refine with_tabW spec_LeftBetween.tab5 spec_LeftBetween.bits5 (fun HT_ HW_ => ?_)
         generalize wc.drew = w21 at HO_5 BK160 HB hx166_0 hx166_1 hx166_2 hx167_0 hx167_1 hx167_2 hHeld ⊢
         refine pP 1 26 (bR [0, 1, 1, 17]) rfl rfl HT_ ?_
         refine pP 2 27 (bR [0, 1, 2, 16]) rfl rfl HT_ ?_
         refine pP 3 28 (bR [0, 1, 3, 15]) rfl rfl HT_ ?_
         refine pP 4 29 (bR [0, 1, 4, 14]) rfl rfl HT_ ?_
         refine pP 6 31 (bR [0, 1, 4, 1, 1, 12]) rfl rfl HT_ ?_
         refine pP 7 32 (bR [0, 1, 4, 1, 2, 11]) rfl rfl HT_ ?_
         refine pP 8 33 (bR [0, 1, 4, 1, 3, 10]) rfl rfl HT_ ?_
         refine pP 9 34 (bR [0, 1, 4, 1, 4, 9]) rfl rfl HT_ ?_
         refine take_ (i := 0) (N := some 25) (v := ?_) (a' := ?_) (bR [5, 1, 4, 9]) rfl rfl (take_ofW HT_.out HW_.out (by kernel_rfl)) (fun _ _ _ h => h) (Or.inl ⟨by rfl, ?_⟩) hHeld ?_ ?_
         rotate_left; (rintro w' ⟨s0, s1, s2, s3, s4, s5, s6, s7⟩; go_simp; with_reducible rfl); rotate_left; (simp only [Act.put, sA, sZ, sS, i64_w]; rfl)
         refine take_ (i := 5) (N := some 30) (v := ?_) (a' := ?_) (bR [10, 9]) rfl rfl (take_ofW HT_.out HW_.out (by kernel_rfl)) (fun _ _ _ h => h) (Or.inl ⟨by rfl, ?_⟩) hHeld ?_ ?_
         rotate_left; (rintro w' ⟨s0, s1, s2, s3, s4, s5, s6, s7⟩; go_simp; with_reducible rfl); rotate_left; (simp only [Act.put, sA, sZ, sS, i64_w]; rfl)
         refine take_ (i := 10) (N := some 35) (v := ?_) (a' := ?_) (bR [11, 8]) rfl rfl (take_ofW HT_.out HW_.out (by kernel_rfl)) (fun _ _ _ h => h) (Or.inl ⟨by rfl, ?_⟩) hHeld ?_ ?_
         rotate_left; (rintro w' ⟨s0, s1, s2, s3, s4, s5, s6, s7⟩; go_simp; with_reducible rfl); rotate_left; (simp only [Act.put, sA, sZ, sS, i64_w]; rfl)
         refine pP 11 36 (bR [12, 7]) rfl rfl HT_ ?_
         refine join_ (σ := Nat) 2 (bR [17, 2]) (fun s_ => [(37, .tuple #[.agg #[.int .i64 t168, .int .i64 t169], .bool true]), (7, .pointer (some ⟨s_, 0, none⟩)), (24, .tuple #[.agg #[.int .i64 t168, .int .i64 t169], .bool true]), (38, .agg #[.int .i64 t168, .int .i64 t169]), (39, .bool true)]) (fun s_ w' => (w'.cell? ⟨gb160, 0, none⟩ = some (.int .i64 a1_0) ∧ w'.cell? ⟨gb160, 1, none⟩ = some (.int .i64 a1_1) ∧ w'.cell? (ad166.add ((x6_1).toNat * 3)) = some (.int .i64 ((rd_T130 l0 x6_1).f0)) ∧ w'.cell? ⟨(ad166.add ((x6_1).toNat * 3)).block, (ad166.add ((x6_1).toNat * 3)).off + 1, none⟩ = some (.int .i64 ((rd_T130 l0 x6_1).f1)) ∧ w'.cell? ⟨(ad166.add ((x6_1).toNat * 3)).block, (ad166.add ((x6_1).toNat * 3)).off + 2, none⟩ = some (.int .i64 ((rd_T130 l0 x6_1).f2)) ∧ w'.cell? (ad166.add ((x6_1).toNat * 3)) = some (.int .i64 ((rd_T130 l0 x6_1).f0)) ∧ w'.cell? ⟨(ad166.add ((x6_1).toNat * 3)).block, (ad166.add ((x6_1).toNat * 3)).off + 1, none⟩ = some (.int .i64 ((rd_T130 l0 x6_1).f1)) ∧ w'.cell? ⟨(ad166.add ((x6_1).toNat * 3)).block, (ad166.add ((x6_1).toNat * 3)).off + 2, none⟩ = some (.int .i64 ((rd_T130 l0 x6_1).f2))) ∧ (Kd.R (Kd.int .i64) 3 w' w.heap.size (fun _ => True) u5 x5_1) ∧ (w'.heap[gb160]? = some (.cells #[.int .i64 a1_0, .int .i64 a1_1] 43 (0, 0))) ∧ (w'.heap[s_]? = some (.cells #[.int .i64 0, .int .i64 0] 43 (0, 0))) ∧ (w.heap.size ≤ s_) ∧ (w.heap.size ≤ s_) ∧ (gb160 ≠ s_) ∧ (s_ ≠ gb160) ∧ (Below w.heap.size w w')) ?_ ?_
         rotate_left
         ·intro hCont
          refine two_ (i := 12) (j := 16) (Ni := some 37) (Nj := some 7) (bR [13, 6]) (bR [12, 4, 1, 2]) rfl rfl rfl rfl (two_of HT_.out (by kernel_rfl)) (by decide) (by decide) (fun K hK => ?_) (fun K hK => ?_)
          ·skip
           refine goes_ Try.func111 (by kernel_rfl) rfl #[.agg #[.int .i64 a1_0, .int .i64 a1_1], .agg #[.int .i64 ((rd_T130 l0 x6_1).f1), .int .i64 ((rd_T130 l0 x6_1).f2)]] (by rfl) rfl rfl (by (try simp only [mA, mC, mN]); first | done | rfl | (simp only [lD, lT]; rfl)) ?_
           with_reducible refine (spec_Meet.calls a1_0 a1_1 ((rd_T130 l0 x6_1).f1) ((rd_T130 l0 x6_1).f2) t168 t169 true _ A18.out).mono ?_
           rintro e w22 ⟨rfl, hb⟩
           refine ⟨_, rfl, ?_⟩
           have n0_ := Aside0.mk (Kd.R_below (qR HO_5) hb)
           have n1_ := Aside0.mk (blk_below (qK BK160) hb)
           have n2_ := Aside0.mk (below_step (by repeat first | (with_reducible first | exact HB.out | apply bA | apply bN | apply bD | refine bS ?_ GE160.out) | exact HB.out) hb)
           clear HO_5
           clear BK160
           clear HB
           have HO_5 := n0_
           have BK160 := n1_
           have HB := n2_
           clear n0_ n1_ n2_
           (try clear hb)
           (try clear hb2)
           (try clear hk)
           (try clear hi)
           refine hK.out _ _ ⟨cC BK160 0, cC BK160 1, ((HB.out.cell (World.block_lt_of_cell? w _ hw166_0)).trans hw166_0), ((HB.out.cell (World.block_lt_of_cell? w _ hw166_1)).trans hw166_1), ((HB.out.cell (World.block_lt_of_cell? w _ hw166_2)).trans hw166_2), ((HB.out.cell (World.block_lt_of_cell? w _ hw167_0)).trans hw167_0), ((HB.out.cell (World.block_lt_of_cell? w _ hw167_1)).trans hw167_1), ((HB.out.cell (World.block_lt_of_cell? w _ hw167_2)).trans hw167_2)⟩ (fun hHeld => ?_)
           clear hK K
           refine norm_ (a' := ?_) ?_ ?_
           rotate_left
           ·show Act.put _ (some 37) _ = _
            simp only [Act.put, sA, sZ, sS, i64_w]
            rfl
           refine pP 13 24 (bR [14, 5]) rfl rfl HT_ ?_
           refine pP 14 38 (bR [15, 4]) rfl rfl HT_ ?_
           refine pP 15 39 (bR [16, 3]) rfl rfl HT_ ?_
           refine one_ (i := 16) (N := some 7) (bR [17, 2]) rfl rfl (one_of HT_.out (by kernel_rfl)) (by decide) (fun K hK => ?_)
           refine box_step ?hg (N := 7) ?hd (cs := #[.int .i64 0, .int .i64 0]) (t := 43) ?hr ?_; (case hd => rfl); (case hg => rfl); (case hr => first | (go_simp; done) | (go_simp; rfl))
           intro gb171 hg w23 hbox hb
           have n0_ := Aside0.mk (Kd.R_below (qR HO_5) hb)
           have n1_ := Aside0.mk (blk_below (qK BK160) hb)
           have n2_ := Aside0.mk (below_step (by repeat first | (with_reducible first | exact HB.out | apply bA | apply bN | apply bD | refine bS ?_ GE160.out) | exact HB.out) hb)
           have n3_ := Aside0.mk (hbox)
           have n4_ := Aside0.mk ((by rw [hg]; exact (below_size (by repeat first | (with_reducible first | exact HB.out | apply bA | apply bN | apply bD | refine bS ?_ GE160.out) | exact HB.out)) : w.heap.size ≤ gb171))
           have n5_ := Aside0.mk ((by rw [hg]; exact (below_size (by repeat first | (with_reducible first | exact HB.out | apply bA | apply bN | apply bD | refine bS ?_ GE160.out) | exact HB.out)) : w.heap.size ≤ gb171))
           have n6_ := Aside0.mk ((by rw [hg]; exact Nat.ne_of_lt (blk_lt (qK BK160)) : gb160 ≠ gb171))
           have n7_ := Aside0.mk ((by rw [hg]; exact Nat.ne_of_gt (blk_lt (qK BK160)) : gb171 ≠ gb160))
           clear HO_5
           clear BK160
           clear HB
           have HO_5 := n0_
           have BK160 := n1_
           have HB := n2_
           have BK171 := n3_
           have GW171 := n4_
           have GE171 := n5_
           have NB160_171 := n6_
           have NB171_160 := n7_
           clear n0_ n1_ n2_ n3_ n4_ n5_ n6_ n7_
           clear hb hbox hg
           refine hK.out _ _ ⟨cC BK160 0, cC BK160 1, ((HB.out.cell (World.block_lt_of_cell? w _ hw166_0)).trans hw166_0), ((HB.out.cell (World.block_lt_of_cell? w _ hw166_1)).trans hw166_1), ((HB.out.cell (World.block_lt_of_cell? w _ hw166_2)).trans hw166_2), ((HB.out.cell (World.block_lt_of_cell? w _ hw167_0)).trans hw167_0), ((HB.out.cell (World.block_lt_of_cell? w _ hw167_1)).trans hw167_1), ((HB.out.cell (World.block_lt_of_cell? w _ hw167_2)).trans hw167_2)⟩ (fun hHeld => ?_)
           clear hK K
           refine norm_ (a' := ?_) ?_ ?_
           rotate_left
           ·show Act.put _ (some 7) _ = _
            simp only [Act.put, sA, sZ, sS, i64_w]
            rfl
           exact norm_ (by simp only [putAll, Act.put, sA, sZ, sS]) (hCont (gb171) _ ⟨hHeld, (qR HO_5), (qK BK160), (qK BK171), GW171.out, GE171.out, NB160_171.out, NB171_160.out, (by repeat first | (with_reducible first | exact HB.out | apply bA | apply bN | apply bD | refine bS ?_ GE160.out | refine bS ?_ GE171.out) | exact HB.out)⟩)
          ·skip
           refine box_step ?hg (N := 7) ?hd (cs := #[.int .i64 0, .int .i64 0]) (t := 43) ?hr ?_; (case hd => rfl); (case hg => rfl); (case hr => first | (go_simp; done) | (go_simp; rfl))
           intro gb171 hg w22 hbox hb
           have n0_ := Aside0.mk (Kd.R_below (qR HO_5) hb)
           have n1_ := Aside0.mk (blk_below (qK BK160) hb)
           have n2_ := Aside0.mk (below_step (by repeat first | (with_reducible first | exact HB.out | apply bA | apply bN | apply bD | refine bS ?_ GE160.out) | exact HB.out) hb)
           have n3_ := Aside0.mk (hbox)
           have n4_ := Aside0.mk ((by rw [hg]; exact (below_size (by repeat first | (with_reducible first | exact HB.out | apply bA | apply bN | apply bD | refine bS ?_ GE160.out) | exact HB.out)) : w.heap.size ≤ gb171))
           have n5_ := Aside0.mk ((by rw [hg]; exact (below_size (by repeat first | (with_reducible first | exact HB.out | apply bA | apply bN | apply bD | refine bS ?_ GE160.out) | exact HB.out)) : w.heap.size ≤ gb171))
           have n6_ := Aside0.mk ((by rw [hg]; exact Nat.ne_of_lt (blk_lt (qK BK160)) : gb160 ≠ gb171))
           have n7_ := Aside0.mk ((by rw [hg]; exact Nat.ne_of_gt (blk_lt (qK BK160)) : gb171 ≠ gb160))
           clear HO_5
           clear BK160
           clear HB
           have HO_5 := n0_
           have BK160 := n1_
           have HB := n2_
           have BK171 := n3_
           have GW171 := n4_
           have GE171 := n5_
           have NB160_171 := n6_
           have NB171_160 := n7_
           clear n0_ n1_ n2_ n3_ n4_ n5_ n6_ n7_
           clear hb hbox hg
           refine hK.out _ _ ⟨cC BK160 0, cC BK160 1, ((HB.out.cell (World.block_lt_of_cell? w _ hw166_0)).trans hw166_0), ((HB.out.cell (World.block_lt_of_cell? w _ hw166_1)).trans hw166_1), ((HB.out.cell (World.block_lt_of_cell? w _ hw166_2)).trans hw166_2), ((HB.out.cell (World.block_lt_of_cell? w _ hw167_0)).trans hw167_0), ((HB.out.cell (World.block_lt_of_cell? w _ hw167_1)).trans hw167_1), ((HB.out.cell (World.block_lt_of_cell? w _ hw167_2)).trans hw167_2)⟩ (fun hHeld => ?_)
           clear hK K
           refine norm_ (a' := ?_) ?_ ?_
           rotate_left
           ·show Act.put _ (some 7) _ = _
            simp only [Act.put, sA, sZ, sS, i64_w]
            rfl
           refine one_ (i := 12) (N := some 37) (bR [13, 3, 1, 2]) rfl rfl (one_of HT_.out (by kernel_rfl)) (by decide) (fun K hK => ?_)
           refine goes_ Try.func111 (by kernel_rfl) rfl #[.agg #[.int .i64 a1_0, .int .i64 a1_1], .agg #[.int .i64 ((rd_T130 l0 x6_1).f1), .int .i64 ((rd_T130 l0 x6_1).f2)]] (by rfl) rfl rfl (by (try simp only [mA, mC, mN]); first | done | rfl | (simp only [lD, lT]; rfl)) ?_
           with_reducible refine (spec_Meet.calls a1_0 a1_1 ((rd_T130 l0 x6_1).f1) ((rd_T130 l0 x6_1).f2) t168 t169 true _ A18.out).mono ?_
           rintro e w23 ⟨rfl, hb⟩
           refine ⟨_, rfl, ?_⟩
           have n0_ := Aside0.mk (Kd.R_below (qR HO_5) hb)
           have n1_ := Aside0.mk (blk_below (qK BK160) hb)
           have n2_ := Aside0.mk (blk_below (qK BK171) hb)
           have n3_ := Aside0.mk (below_step (by repeat first | (with_reducible first | exact HB.out | apply bA | apply bN | apply bD | refine bS ?_ GE160.out | refine bS ?_ GE171.out) | exact HB.out) hb)
           clear HO_5
           clear BK160
           clear BK171
           clear HB
           have HO_5 := n0_
           have BK160 := n1_
           have BK171 := n2_
           have HB := n3_
           clear n0_ n1_ n2_ n3_
           (try clear hb)
           (try clear hb2)
           (try clear hk)
           (try clear hi)
           refine hK.out _ _ ⟨cC BK160 0, cC BK160 1, ((HB.out.cell (World.block_lt_of_cell? w _ hw166_0)).trans hw166_0), ((HB.out.cell (World.block_lt_of_cell? w _ hw166_1)).trans hw166_1), ((HB.out.cell (World.block_lt_of_cell? w _ hw166_2)).trans hw166_2), ((HB.out.cell (World.block_lt_of_cell? w _ hw167_0)).trans hw167_0), ((HB.out.cell (World.block_lt_of_cell? w _ hw167_1)).trans hw167_1), ((HB.out.cell (World.block_lt_of_cell? w _ hw167_2)).trans hw167_2)⟩ (fun hHeld => ?_)
           clear hK K
           refine norm_ (a' := ?_) ?_ ?_
           rotate_left
           ·show Act.put _ (some 37) _ = _
            simp only [Act.put, sA, sZ, sS, i64_w]
            rfl
           refine pP 13 24 (bR [14, 2, 1, 2]) rfl rfl HT_ ?_
           refine pP 14 38 (bR [15, 1, 1, 2]) rfl rfl HT_ ?_
           refine pP 15 39 (bR [17, 2]) rfl rfl HT_ ?_
           exact norm_ (by simp only [putAll, Act.put, sA, sZ, sS]) (hCont (gb171) _ ⟨hHeld, (qR HO_5), (qK BK160), (qK BK171), GW171.out, GE171.out, NB160_171.out, NB171_160.out, (by repeat first | (with_reducible first | exact HB.out | apply bA | apply bN | apply bD | refine bS ?_ GE160.out | refine bS ?_ GE171.out) | exact HB.out)⟩)
         rintro gb171 w24 ⟨hS_, h0_, h1_, h2_, h3_, h4_, h5_, h6_, h7_⟩
         have n0_ : Aside0 (Kd.R (Kd.int .i64) 3 w24 w.heap.size (fun _ => True) u5 x5_1) := ⟨h0_⟩
         have n1_ : Aside0 (w24.heap[gb160]? = some (.cells #[.int .i64 a1_0, .int .i64 a1_1] 43 (0, 0))) := ⟨h1_⟩
         have n2_ : Aside0 (w24.heap[gb171]? = some (.cells #[.int .i64 0, .int .i64 0] 43 (0, 0))) := ⟨h2_⟩
         have n3_ : Aside0 (w.heap.size ≤ gb171) := ⟨h3_⟩
         have n4_ : Aside0 (w.heap.size ≤ gb171) := ⟨h4_⟩
         have n5_ : Aside0 (gb160 ≠ gb171) := ⟨h5_⟩
         have n6_ : Aside0 (gb171 ≠ gb160) := ⟨h6_⟩
         have n7_ : Aside0 (Below w.heap.size w w24) := ⟨h7_⟩
         clear HO_5
         clear BK160
         clear HB
         clear h0_ h1_ h2_ h3_ h4_ h5_ h6_ h7_
         have HO_5 := n0_
         have BK160 := n1_
         have BK171 := n2_
         have GW171 := n3_
         have GE171 := n4_
         have NB160_171 := n5_
         have NB171_160 := n6_
         have HB := n7_
         clear n0_ n1_ n2_ n3_ n4_ n5_ n6_ n7_
         have hHeld : w24.cell? ⟨gb160, 0, none⟩ = some (.int .i64 a1_0) ∧ w24.cell? ⟨gb160, 1, none⟩ = some (.int .i64 a1_1) ∧ w24.cell? (ad166.add ((x6_1).toNat * 3)) = some (.int .i64 ((rd_T130 l0 x6_1).f0)) ∧ w24.cell? ⟨(ad166.add ((x6_1).toNat * 3)).block, (ad166.add ((x6_1).toNat * 3)).off + 1, none⟩ = some (.int .i64 ((rd_T130 l0 x6_1).f1)) ∧ w24.cell? ⟨(ad166.add ((x6_1).toNat * 3)).block, (ad166.add ((x6_1).toNat * 3)).off + 2, none⟩ = some (.int .i64 ((rd_T130 l0 x6_1).f2)) ∧ w24.cell? (ad166.add ((x6_1).toNat * 3)) = some (.int .i64 ((rd_T130 l0 x6_1).f0)) ∧ w24.cell? ⟨(ad166.add ((x6_1).toNat * 3)).block, (ad166.add ((x6_1).toNat * 3)).off + 1, none⟩ = some (.int .i64 ((rd_T130 l0 x6_1).f1)) ∧ w24.cell? ⟨(ad166.add ((x6_1).toNat * 3)).block, (ad166.add ((x6_1).toNat * 3)).off + 2, none⟩ = some (.int .i64 ((rd_T130 l0 x6_1).f2)) := hS_
         refine norm_ (a' := ?_) ?_ ?_
         rotate_left; (simp only [putAll, Act.put, sA, sZ, sS]; rfl)
         refine one_ (i := 17) (N := none) (bR [18, 1]) rfl rfl (one_of HT_.out (by kernel_rfl)) (by decide) (fun K hK => ?_)
         have hs25 : w24.cell? ⟨gb171, 0, none⟩ = some (.int .i64 0) := cC BK171 0
         have hfs25 := blk_frozen BK171.out 0
         have hns25_0 := NB160_171.out
         have hms25_0 := NB171_160.out
         have hs26 : w24.cell? ⟨gb171, 1, none⟩ = some (.int .i64 0) := cC BK171 1
         have hfs26 := blk_frozen BK171.out 1
         have hns26_0 := NB160_171.out
         have hms26_0 := NB171_160.out
         refine skip_ (w1 := ?_) (by rfl) rfl ?_ ?_
         rotate_left
         ·go_simp
          rfl
         refine hK.out _ _ ⟨((cell_far (p := ⟨gb171, _, none⟩) NB160_171.out _).trans (((cell_far (p := ⟨gb171, _, none⟩) NB160_171.out _).trans (hHeld.1)))), ((cell_far (p := ⟨gb171, _, none⟩) NB160_171.out _).trans (((cell_far (p := ⟨gb171, _, none⟩) NB160_171.out _).trans (hHeld.2.1)))), ((cell_far (p := ⟨gb171, _, none⟩) (by first | exact Nat.ne_of_lt (Nat.lt_of_lt_of_le (by have := World.block_lt_of_cell? _ _ hw166_0; first | rwa [add_block] at this | exact this) GW171.out) | (rw [add_block]; exact Nat.ne_of_lt (Nat.lt_of_lt_of_le (by have := World.block_lt_of_cell? _ _ hw166_0; first | rwa [add_block] at this | exact this) GW171.out)) | (show (Addr.add _ _).block ≠ _; rw [add_block]; exact Nat.ne_of_lt (Nat.lt_of_lt_of_le (by have := World.block_lt_of_cell? _ _ hw166_0; first | rwa [add_block] at this | exact this) GW171.out)) | (dsimp only; exact Nat.ne_of_lt (Nat.lt_of_lt_of_le (by have := World.block_lt_of_cell? _ _ hw166_0; first | rwa [add_block] at this | exact this) GW171.out))) _).trans (((cell_far (p := ⟨gb171, _, none⟩) (by first | exact Nat.ne_of_lt (Nat.lt_of_lt_of_le (by have := World.block_lt_of_cell? _ _ hw166_0; first | rwa [add_block] at this | exact this) GW171.out) | (rw [add_block]; exact Nat.ne_of_lt (Nat.lt_of_lt_of_le (by have := World.block_lt_of_cell? _ _ hw166_0; first | rwa [add_block] at this | exact this) GW171.out)) | (show (Addr.add _ _).block ≠ _; rw [add_block]; exact Nat.ne_of_lt (Nat.lt_of_lt_of_le (by have := World.block_lt_of_cell? _ _ hw166_0; first | rwa [add_block] at this | exact this) GW171.out)) | (dsimp only; exact Nat.ne_of_lt (Nat.lt_of_lt_of_le (by have := World.block_lt_of_cell? _ _ hw166_0; first | rwa [add_block] at this | exact this) GW171.out))) _).trans (hHeld.2.2.1)))), ((cell_far (p := ⟨gb171, _, none⟩) (by first | exact Nat.ne_of_lt (Nat.lt_of_lt_of_le (by have := World.block_lt_of_cell? _ _ hw166_1; first | rwa [add_block] at this | exact this) GW171.out) | (rw [add_block]; exact Nat.ne_of_lt (Nat.lt_of_lt_of_le (by have := World.block_lt_of_cell? _ _ hw166_1; first | rwa [add_block] at this | exact this) GW171.out)) | (show (Addr.add _ _).block ≠ _; rw [add_block]; exact Nat.ne_of_lt (Nat.lt_of_lt_of_le (by have := World.block_lt_of_cell? _ _ hw166_1; first | rwa [add_block] at this | exact this) GW171.out)) | (dsimp only; exact Nat.ne_of_lt (Nat.lt_of_lt_of_le (by have := World.block_lt_of_cell? _ _ hw166_1; first | rwa [add_block] at this | exact this) GW171.out))) _).trans (((cell_far (p := ⟨gb171, _, none⟩) (by first | exact Nat.ne_of_lt (Nat.lt_of_lt_of_le (by have := World.block_lt_of_cell? _ _ hw166_1; first | rwa [add_block] at this | exact this) GW171.out) | (rw [add_block]; exact Nat.ne_of_lt (Nat.lt_of_lt_of_le (by have := World.block_lt_of_cell? _ _ hw166_1; first | rwa [add_block] at this | exact this) GW171.out)) | (show (Addr.add _ _).block ≠ _; rw [add_block]; exact Nat.ne_of_lt (Nat.lt_of_lt_of_le (by have := World.block_lt_of_cell? _ _ hw166_1; first | rwa [add_block] at this | exact this) GW171.out)) | (dsimp only; exact Nat.ne_of_lt (Nat.lt_of_lt_of_le (by have := World.block_lt_of_cell? _ _ hw166_1; first | rwa [add_block] at this | exact this) GW171.out))) _).trans (hHeld.2.2.2.1)))), ((cell_far (p := ⟨gb171, _, none⟩) (by first | exact Nat.ne_of_lt (Nat.lt_of_lt_of_le (by have := World.block_lt_of_cell? _ _ hw166_2; first | rwa [add_block] at this | exact this) GW171.out) | (rw [add_block]; exact Nat.ne_of_lt (Nat.lt_of_lt_of_le (by have := World.block_lt_of_cell? _ _ hw166_2; first | rwa [add_block] at this | exact this) GW171.out)) | (show (Addr.add _ _).block ≠ _; rw [add_block]; exact Nat.ne_of_lt (Nat.lt_of_lt_of_le (by have := World.block_lt_of_cell? _ _ hw166_2; first | rwa [add_block] at this | exact this) GW171.out)) | (dsimp only; exact Nat.ne_of_lt (Nat.lt_of_lt_of_le (by have := World.block_lt_of_cell? _ _ hw166_2; first | rwa [add_block] at this | exact this) GW171.out))) _).trans (((cell_far (p := ⟨gb171, _, none⟩) (by first | exact Nat.ne_of_lt (Nat.lt_of_lt_of_le (by have := World.block_lt_of_cell? _ _ hw166_2; first | rwa [add_block] at this | exact this) GW171.out) | (rw [add_block]; exact Nat.ne_of_lt (Nat.lt_of_lt_of_le (by have := World.block_lt_of_cell? _ _ hw166_2; first | rwa [add_block] at this | exact this) GW171.out)) | (show (Addr.add _ _).block ≠ _; rw [add_block]; exact Nat.ne_of_lt (Nat.lt_of_lt_of_le (by have := World.block_lt_of_cell? _ _ hw166_2; first | rwa [add_block] at this | exact this) GW171.out)) | (dsimp only; exact Nat.ne_of_lt (Nat.lt_of_lt_of_le (by have := World.block_lt_of_cell? _ _ hw166_2; first | rwa [add_block] at this | exact this) GW171.out))) _).trans (hHeld.2.2.2.2.1)))), ((cell_far (p := ⟨gb171, _, none⟩) (by first | exact Nat.ne_of_lt (Nat.lt_of_lt_of_le (by have := World.block_lt_of_cell? _ _ hw167_0; first | rwa [add_block] at this | exact this) GW171.out) | (rw [add_block]; exact Nat.ne_of_lt (Nat.lt_of_lt_of_le (by have := World.block_lt_of_cell? _ _ hw167_0; first | rwa [add_block] at this | exact this) GW171.out)) | (show (Addr.add _ _).block ≠ _; rw [add_block]; exact Nat.ne_of_lt (Nat.lt_of_lt_of_le (by have := World.block_lt_of_cell? _ _ hw167_0; first | rwa [add_block] at this | exact this) GW171.out)) | (dsimp only; exact Nat.ne_of_lt (Nat.lt_of_lt_of_le (by have := World.block_lt_of_cell? _ _ hw167_0; first | rwa [add_block] at this | exact this) GW171.out))) _).trans (((cell_far (p := ⟨gb171, _, none⟩) (by first | exact Nat.ne_of_lt (Nat.lt_of_lt_of_le (by have := World.block_lt_of_cell? _ _ hw167_0; first | rwa [add_block] at this | exact this) GW171.out) | (rw [add_block]; exact Nat.ne_of_lt (Nat.lt_of_lt_of_le (by have := World.block_lt_of_cell? _ _ hw167_0; first | rwa [add_block] at this | exact this) GW171.out)) | (show (Addr.add _ _).block ≠ _; rw [add_block]; exact Nat.ne_of_lt (Nat.lt_of_lt_of_le (by have := World.block_lt_of_cell? _ _ hw167_0; first | rwa [add_block] at this | exact this) GW171.out)) | (dsimp only; exact Nat.ne_of_lt (Nat.lt_of_lt_of_le (by have := World.block_lt_of_cell? _ _ hw167_0; first | rwa [add_block] at this | exact this) GW171.out))) _).trans (hHeld.2.2.2.2.2.1)))), ((cell_far (p := ⟨gb171, _, none⟩) (by first | exact Nat.ne_of_lt (Nat.lt_of_lt_of_le (by have := World.block_lt_of_cell? _ _ hw167_1; first | rwa [add_block] at this | exact this) GW171.out) | (rw [add_block]; exact Nat.ne_of_lt (Nat.lt_of_lt_of_le (by have := World.block_lt_of_cell? _ _ hw167_1; first | rwa [add_block] at this | exact this) GW171.out)) | (show (Addr.add _ _).block ≠ _; rw [add_block]; exact Nat.ne_of_lt (Nat.lt_of_lt_of_le (by have := World.block_lt_of_cell? _ _ hw167_1; first | rwa [add_block] at this | exact this) GW171.out)) | (dsimp only; exact Nat.ne_of_lt (Nat.lt_of_lt_of_le (by have := World.block_lt_of_cell? _ _ hw167_1; first | rwa [add_block] at this | exact this) GW171.out))) _).trans (((cell_far (p := ⟨gb171, _, none⟩) (by first | exact Nat.ne_of_lt (Nat.lt_of_lt_of_le (by have := World.block_lt_of_cell? _ _ hw167_1; first | rwa [add_block] at this | exact this) GW171.out) | (rw [add_block]; exact Nat.ne_of_lt (Nat.lt_of_lt_of_le (by have := World.block_lt_of_cell? _ _ hw167_1; first | rwa [add_block] at this | exact this) GW171.out)) | (show (Addr.add _ _).block ≠ _; rw [add_block]; exact Nat.ne_of_lt (Nat.lt_of_lt_of_le (by have := World.block_lt_of_cell? _ _ hw167_1; first | rwa [add_block] at this | exact this) GW171.out)) | (dsimp only; exact Nat.ne_of_lt (Nat.lt_of_lt_of_le (by have := World.block_lt_of_cell? _ _ hw167_1; first | rwa [add_block] at this | exact this) GW171.out))) _).trans (hHeld.2.2.2.2.2.2.1)))), ((cell_far (p := ⟨gb171, _, none⟩) (by first | exact Nat.ne_of_lt (Nat.lt_of_lt_of_le (by have := World.block_lt_of_cell? _ _ hw167_2; first | rwa [add_block] at this | exact this) GW171.out) | (rw [add_block]; exact Nat.ne_of_lt (Nat.lt_of_lt_of_le (by have := World.block_lt_of_cell? _ _ hw167_2; first | rwa [add_block] at this | exact this) GW171.out)) | (show (Addr.add _ _).block ≠ _; rw [add_block]; exact Nat.ne_of_lt (Nat.lt_of_lt_of_le (by have := World.block_lt_of_cell? _ _ hw167_2; first | rwa [add_block] at this | exact this) GW171.out)) | (dsimp only; exact Nat.ne_of_lt (Nat.lt_of_lt_of_le (by have := World.block_lt_of_cell? _ _ hw167_2; first | rwa [add_block] at this | exact this) GW171.out))) _).trans (((cell_far (p := ⟨gb171, _, none⟩) (by first | exact Nat.ne_of_lt (Nat.lt_of_lt_of_le (by have := World.block_lt_of_cell? _ _ hw167_2; first | rwa [add_block] at this | exact this) GW171.out) | (rw [add_block]; exact Nat.ne_of_lt (Nat.lt_of_lt_of_le (by have := World.block_lt_of_cell? _ _ hw167_2; first | rwa [add_block] at this | exact this) GW171.out)) | (show (Addr.add _ _).block ≠ _; rw [add_block]; exact Nat.ne_of_lt (Nat.lt_of_lt_of_le (by have := World.block_lt_of_cell? _ _ hw167_2; first | rwa [add_block] at this | exact this) GW171.out)) | (dsimp only; exact Nat.ne_of_lt (Nat.lt_of_lt_of_le (by have := World.block_lt_of_cell? _ _ hw167_2; first | rwa [add_block] at this | exact this) GW171.out))) _).trans (hHeld.2.2.2.2.2.2.2))))⟩ (fun hHeld => ?_)
         clear hK K
         refine pP 18 8 (bR [19]) rfl rfl HT_ ?_
         refine done_ (done_of HT_.out (by kernel_rfl)) ?_
         have p172 : 0 ≤ (x6_1 : Int) := of_decide_eq_true ‹_›
         have q172 : x6_1 < (l0.length : Int) := of_decide_eq_true ‹_›
         obtain ⟨ad172, e172, hx172_0, hx172_1, hx172_2⟩ := at_T130 HR0.out x6_1 p172 q172
         obtain rfl : ad166 = ad172 := (by injection e172)
         have hn172_0 : ad166.block ≠ gb171 := Nat.ne_of_lt (Nat.lt_of_lt_of_le (by have := World.block_lt_of_cell? _ _ hx172_0; first | rwa [add_block] at this | exact this) GW171.out)
         have hn172_1 : ad166.block ≠ gb171 := Nat.ne_of_lt (Nat.lt_of_lt_of_le (by have := World.block_lt_of_cell? _ _ hx172_0; first | rwa [add_block] at this | exact this) GW171.out)
         replace hx172_0 := (HB.out.cell (World.block_lt_of_cell? w _ hx172_0)).trans hx172_0
         replace hx172_1 := (HB.out.cell (World.block_lt_of_cell? w _ hx172_1)).trans hx172_1
         replace hx172_2 := (HB.out.cell (World.block_lt_of_cell? w _ hx172_2)).trans hx172_2
         replace hx172_0 := (cell_far (p := ⟨gb171, 0, none⟩) (by first | (rw [add_block]; exact hn172_0) | (show (Addr.add _ _).block ≠ _; rw [add_block]; exact hn172_0) | exact hn172_0) (.int .i64 t168)).trans hx172_0
         replace hx172_1 := (cell_far (p := ⟨gb171, 0, none⟩) (by first | (rw [add_block]; exact hn172_0) | (show (Addr.add _ _).block ≠ _; rw [add_block]; exact hn172_0) | exact hn172_0) (.int .i64 t168)).trans hx172_1
         replace hx172_2 := (cell_far (p := ⟨gb171, 0, none⟩) (by first | (rw [add_block]; exact hn172_0) | (show (Addr.add _ _).block ≠ _; rw [add_block]; exact hn172_0) | exact hn172_0) (.int .i64 t168)).trans hx172_2
         replace hx172_0 := (cell_far (p := ⟨gb171, 1, none⟩) (by first | (rw [add_block]; exact hn172_1) | (show (Addr.add _ _).block ≠ _; rw [add_block]; exact hn172_1) | exact hn172_1) (.int .i64 t169)).trans hx172_0
         replace hx172_1 := (cell_far (p := ⟨gb171, 1, none⟩) (by first | (rw [add_block]; exact hn172_1) | (show (Addr.add _ _).block ≠ _; rw [add_block]; exact hn172_1) | exact hn172_1) (.int .i64 t169)).trans hx172_1
         replace hx172_2 := (cell_far (p := ⟨gb171, 1, none⟩) (by first | (rw [add_block]; exact hn172_1) | (show (Addr.add _ _).block ≠ _; rw [add_block]; exact hn172_1) | exact hn172_1) (.int .i64 t169)).trans hx172_2
         clear hn172_0
         clear hn172_1
         replace p172 := eq_true p172
         replace q172 := eq_true q172
         obtain ⟨Ao27, co27, eo27⟩ := Kd.R_slice HO_5.out
         subst eo27
         try go_wp2_with (first | ((with_reducible refine gate_callee (f := 112) rfl ?_); refine goesL_ (some 54) rfl rfl Try.func112 (by kernel_rfl) rfl #[.slice Ao27 x5_1.length co27, .int .i64 ((rd_T130 l0 x6_1).f0)] rfl (by (try simp only [mA, mC, mN]); first | done | rfl | (simp only [lD, lT]; rfl)) ?_; (with_reducible refine (spec_l9Put.calls kj5 _ _ x5_1 ((rd_T130 l0 x6_1).f0) t173 _ ?side1 ?side2 A20.out).mono ?_); (case side1 => refine (Kd.R_reads' (e := 3) (base := w.heap.size) (ok := fun k_ => True) (n := x5_1.length) (c := co27) ?_).2.2; exact (by (with_reducible repeat first | apply rA | apply rN | apply rD); exact (far2 HO_5 BK171))); (case side2 => exact (Kd.R_reads' HO_5.out).2.1); rintro e w28 ⟨v174, rfl, ho0, hb⟩; refine ⟨_, rfl, ?_⟩; have n0_ := Aside0.mk (Kd.R_elder' (by (with_reducible repeat first | apply rA | apply rN | apply rD); exact (far2 HO_5 BK171)) (Kd.R_base ho0) hb); have n1_ := Aside0.mk (Kd.R_lower (Kd.R_new' ho0 (Kd.R_lt (by (with_reducible repeat first | apply rA | apply rN | apply rD); exact (far2 HO_5 BK171)))) (below_size (by repeat first | (with_reducible first | exact HB.out | apply bA | apply bN | apply bD | refine bS ?_ GE160.out | refine bS ?_ GE171.out) | exact HB.out))); have n2_ := Aside0.mk (blk_below (g := gb160) (o := .cells #[.int .i64 a1_0, .int .i64 a1_1] 43 (0, 0)) (by (with_reducible repeat first | refine kN ?_ _ | refine kD ?_ | refine kA ?_ _); refine blk_far ?_ NB160_171.out _; (with_reducible repeat first | refine kN ?_ _ | refine kD ?_ | refine kA ?_ _); refine blk_far ?_ NB160_171.out _; (with_reducible repeat first | refine kN ?_ _ | refine kD ?_ | refine kA ?_ _); exact BK160.out) hb); have n3_ := Aside0.mk (blk_below (g := gb171) (o := .cells #[.int .i64 t168, .int .i64 t169] 43 (0, 0)) (by (with_reducible repeat first | refine kN ?_ _ | refine kD ?_ | refine kA ?_ _); refine blk_put (cs := #[.int .i64 t168, .int .i64 0]) ?_ 1 _ rfl; (with_reducible repeat first | refine kN ?_ _ | refine kD ?_ | refine kA ?_ _); refine blk_put (cs := #[.int .i64 0, .int .i64 0]) ?_ 0 _ rfl; (with_reducible repeat first | refine kN ?_ _ | refine kD ?_ | refine kA ?_ _); exact BK171.out) hb); have n4_ := Aside0.mk (below_step (by repeat first | (with_reducible first | exact HB.out | apply bA | apply bN | apply bD | refine bS ?_ GE160.out | refine bS ?_ GE171.out) | exact HB.out) hb); clear HO_5; clear BK160; clear BK171; clear HB; have HO_5 := n0_; have HO175 := n1_; have BK160 := n2_; have BK171 := n3_; have HB := n4_; clear n0_ n1_ n2_ n3_ n4_; (try clear hb); (try clear hb2); (try clear hk); (try clear hi); (try clear ho0)))
         go_roundg kj5
         case measure => have := HK1.out; have := HJ5.out; omega
         case rel => exact ⟨(t173), (wrap64 (x6_1 + 1)), (by first | rfl | (simp; done) | (simp [*]; done)), H', ⟨by have := HK1.out; have := HJ5.out; omega⟩, ⟨by (with_reducible repeat first | apply rA | apply rN | apply rD); exact Kd.R_mono HO175.out (fun _ hk => trivial)⟩, ⟨by (with_reducible repeat first | refine kN ?_ _ | refine kD ?_ | refine kA ?_ _); exact BK160.out⟩, ⟨by repeat (first | (with_reducible first | exact HB.out | apply bA | apply bN | apply bD | refine bS ?_ GE160.out | refine bS ?_ GE171.out) | exact HB.out)⟩⟩
        ·replace c19 := Bool.eq_false_iff.mpr c19
         subst c19
         have H1 : (if (wrap64 (x6_1 + 1)) = (l0.length : Int) then ((spec_l9Put.f kj5 x5_1 ((rd_T130 l0 x6_1).f0)).bind fun t177 => (spec_LeftBetween.l0 kj5 l0 t177 (wrap64 (x6_1 + 1)) a1_0 a1_1)) else (spec_LeftBetween.l0 kj5 l0 x5_1 (wrap64 (x6_1 + 1)) a1_0 a1_1)) = some r := by rw [if_neg (show ¬ (false = true) by decide)] at H; exact H
         clear H
         have H := H1
         clear H1
         by_cases c29 : (wrap64 (x6_1 + 1)) = (l0.length : Int)
         ·rw [if_pos c29] at H
          have c29b0 : ((wrap64 (x6_1 + 1)) == (l0.length : Int)) = true := beq_iff_eq.mpr c29
          have c29b1 : ((wrap64 (x6_1 + 1)) != (l0.length : Int)) = false := bne_eq_false_iff_eq.mpr c29
          clear c29
          replace H := Option.bind_eq_some_iff.mp H
          obtain ⟨t177, A300, H⟩ := H
          replace H : (spec_LeftBetween.l0 kj5 l0 t177 (wrap64 (x6_1 + 1)) a1_0 a1_1) = some r := H
          have A30 := Aside0.mk A300
          clear A300
          have H' := Aside0.mk H
          clear H
          try go_wp2
          have n0_ := Aside0.mk (Kd.R_drew HO_5.out)
          have n1_ := Aside0.mk (blk_drew BK160.out)
          have n2_ := Aside0.mk (below_drew1 HB.out)
          clear HO_5
          clear BK160
          clear HB
          have HO_5 := n0_
          have BK160 := n1_
          have HB := n2_
          clear n0_ n1_ n2_
          have p166 : 0 ≤ (x6_1 : Int) := of_decide_eq_true ‹_›
          have q166 : x6_1 < (l0.length : Int) := of_decide_eq_true ‹_›
          obtain ⟨ad166, e166, hx166_0, hx166_1, hx166_2⟩ := at_T130 HR0.out x6_1 p166 q166
          have hw166_2 := hx166_2
          have hw166_1 := hx166_1
          have hw166_0 := hx166_0
          cases e166
          replace hx166_0 := (HB.out.cell (World.block_lt_of_cell? w _ hx166_0)).trans hx166_0
          replace hx166_1 := (HB.out.cell (World.block_lt_of_cell? w _ hx166_1)).trans hx166_1
          replace hx166_2 := (HB.out.cell (World.block_lt_of_cell? w _ hx166_2)).trans hx166_2
          replace p166 := eq_true p166
          replace q166 := eq_true q166
          have p167 : 0 ≤ (x6_1 : Int) := of_decide_eq_true ‹_›
          have q167 : x6_1 < (l0.length : Int) := of_decide_eq_true ‹_›
          obtain ⟨ad167, e167, hx167_0, hx167_1, hx167_2⟩ := at_T130 HR0.out x6_1 p167 q167
          have hw167_2 := hx167_2
          have hw167_1 := hx167_1
          have hw167_0 := hx167_0
          obtain rfl : ad166 = ad167 := (by injection e167)
          replace hx167_0 := (HB.out.cell (World.block_lt_of_cell? w _ hx167_0)).trans hx167_0
          replace hx167_1 := (HB.out.cell (World.block_lt_of_cell? w _ hx167_1)).trans hx167_1
          replace hx167_2 := (HB.out.cell (World.block_lt_of_cell? w _ hx167_2)).trans hx167_2
          replace p167 := eq_true p167
          replace q167 := eq_true q167
          refine start_ (n := 19) (S := fun w' => w'.cell? ⟨gb160, 0, none⟩ = some (.int .i64 a1_0) ∧ w'.cell? ⟨gb160, 1, none⟩ = some (.int .i64 a1_1) ∧ w'.cell? (ad166.add ((x6_1).toNat * 3)) = some (.int .i64 ((rd_T130 l0 x6_1).f0)) ∧ w'.cell? ⟨(ad166.add ((x6_1).toNat * 3)).block, (ad166.add ((x6_1).toNat * 3)).off + 1, none⟩ = some (.int .i64 ((rd_T130 l0 x6_1).f1)) ∧ w'.cell? ⟨(ad166.add ((x6_1).toNat * 3)).block, (ad166.add ((x6_1).toNat * 3)).off + 2, none⟩ = some (.int .i64 ((rd_T130 l0 x6_1).f2)) ∧ w'.cell? (ad166.add ((x6_1).toNat * 3)) = some (.int .i64 ((rd_T130 l0 x6_1).f0)) ∧ w'.cell? ⟨(ad166.add ((x6_1).toNat * 3)).block, (ad166.add ((x6_1).toNat * 3)).off + 1, none⟩ = some (.int .i64 ((rd_T130 l0 x6_1).f1)) ∧ w'.cell? ⟨(ad166.add ((x6_1).toNat * 3)).block, (ad166.add ((x6_1).toNat * 3)).off + 2, none⟩ = some (.int .i64 ((rd_T130 l0 x6_1).f2))) (ds := []) (bR [0, 19]) (by kernel_rfl) rfl rfl ⟨cC BK160 0, cC BK160 1, ((HB.out.cell (World.block_lt_of_cell? w _ hw166_0)).trans hw166_0), ((HB.out.cell (World.block_lt_of_cell? w _ hw166_1)).trans hw166_1), ((HB.out.cell (World.block_lt_of_cell? w _ hw166_2)).trans hw166_2), ((HB.out.cell (World.block_lt_of_cell? w _ hw167_0)).trans hw167_0), ((HB.out.cell (World.block_lt_of_cell? w _ hw167_1)).trans hw167_1), ((HB.out.cell (World.block_lt_of_cell? w _ hw167_2)).trans hw167_2)⟩ (fun hHeld => ?_); refine with_tabW spec_LeftBetween.tab5 spec_LeftBetween.bits5 (fun HT_ HW_ => ?_)
          generalize wc.drew = w31 at HO_5 BK160 HB hx166_0 hx166_1 hx166_2 hx167_0 hx167_1 hx167_2 hHeld ⊢
          refine pP 1 26 (bR [0, 1, 1, 17]) rfl rfl HT_ ?_
          refine pP 2 27 (bR [0, 1, 2, 16]) rfl rfl HT_ ?_
          refine pP 3 28 (bR [0, 1, 3, 15]) rfl rfl HT_ ?_
          refine pP 4 29 (bR [0, 1, 4, 14]) rfl rfl HT_ ?_
          refine pP 6 31 (bR [0, 1, 4, 1, 1, 12]) rfl rfl HT_ ?_
          refine pP 7 32 (bR [0, 1, 4, 1, 2, 11]) rfl rfl HT_ ?_
          refine pP 8 33 (bR [0, 1, 4, 1, 3, 10]) rfl rfl HT_ ?_
          refine pP 9 34 (bR [0, 1, 4, 1, 4, 9]) rfl rfl HT_ ?_
          refine take_ (i := 0) (N := some 25) (v := ?_) (a' := ?_) (bR [5, 1, 4, 9]) rfl rfl (take_ofW HT_.out HW_.out (by kernel_rfl)) (fun _ _ _ h => h) (Or.inl ⟨by rfl, ?_⟩) hHeld ?_ ?_
          rotate_left; (rintro w' ⟨s0, s1, s2, s3, s4, s5, s6, s7⟩; go_simp; with_reducible rfl); rotate_left; (simp only [Act.put, sA, sZ, sS, i64_w]; rfl)
          refine take_ (i := 5) (N := some 30) (v := ?_) (a' := ?_) (bR [10, 9]) rfl rfl (take_ofW HT_.out HW_.out (by kernel_rfl)) (fun _ _ _ h => h) (Or.inl ⟨by rfl, ?_⟩) hHeld ?_ ?_
          rotate_left; (rintro w' ⟨s0, s1, s2, s3, s4, s5, s6, s7⟩; go_simp; with_reducible rfl); rotate_left; (simp only [Act.put, sA, sZ, sS, i64_w]; rfl)
          refine take_ (i := 10) (N := some 35) (v := ?_) (a' := ?_) (bR [11, 8]) rfl rfl (take_ofW HT_.out HW_.out (by kernel_rfl)) (fun _ _ _ h => h) (Or.inl ⟨by rfl, ?_⟩) hHeld ?_ ?_
          rotate_left; (rintro w' ⟨s0, s1, s2, s3, s4, s5, s6, s7⟩; go_simp; with_reducible rfl); rotate_left; (simp only [Act.put, sA, sZ, sS, i64_w]; rfl)
          refine pP 11 36 (bR [12, 7]) rfl rfl HT_ ?_
          refine join_ (σ := Nat) 2 (bR [17, 2]) (fun s_ => [(37, .tuple #[.agg #[.int .i64 t168, .int .i64 t169], .bool false]), (7, .pointer (some ⟨s_, 0, none⟩)), (24, .tuple #[.agg #[.int .i64 t168, .int .i64 t169], .bool false]), (38, .agg #[.int .i64 t168, .int .i64 t169]), (39, .bool false)]) (fun s_ w' => (w'.cell? ⟨gb160, 0, none⟩ = some (.int .i64 a1_0) ∧ w'.cell? ⟨gb160, 1, none⟩ = some (.int .i64 a1_1) ∧ w'.cell? (ad166.add ((x6_1).toNat * 3)) = some (.int .i64 ((rd_T130 l0 x6_1).f0)) ∧ w'.cell? ⟨(ad166.add ((x6_1).toNat * 3)).block, (ad166.add ((x6_1).toNat * 3)).off + 1, none⟩ = some (.int .i64 ((rd_T130 l0 x6_1).f1)) ∧ w'.cell? ⟨(ad166.add ((x6_1).toNat * 3)).block, (ad166.add ((x6_1).toNat * 3)).off + 2, none⟩ = some (.int .i64 ((rd_T130 l0 x6_1).f2)) ∧ w'.cell? (ad166.add ((x6_1).toNat * 3)) = some (.int .i64 ((rd_T130 l0 x6_1).f0)) ∧ w'.cell? ⟨(ad166.add ((x6_1).toNat * 3)).block, (ad166.add ((x6_1).toNat * 3)).off + 1, none⟩ = some (.int .i64 ((rd_T130 l0 x6_1).f1)) ∧ w'.cell? ⟨(ad166.add ((x6_1).toNat * 3)).block, (ad166.add ((x6_1).toNat * 3)).off + 2, none⟩ = some (.int .i64 ((rd_T130 l0 x6_1).f2))) ∧ (Kd.R (Kd.int .i64) 3 w' w.heap.size (fun _ => True) u5 x5_1) ∧ (w'.heap[gb160]? = some (.cells #[.int .i64 a1_0, .int .i64 a1_1] 43 (0, 0))) ∧ (w'.heap[s_]? = some (.cells #[.int .i64 0, .int .i64 0] 43 (0, 0))) ∧ (w.heap.size ≤ s_) ∧ (w.heap.size ≤ s_) ∧ (gb160 ≠ s_) ∧ (s_ ≠ gb160) ∧ (Below w.heap.size w w')) ?_ ?_
          rotate_left
          ·intro hCont
           refine two_ (i := 12) (j := 16) (Ni := some 37) (Nj := some 7) (bR [13, 6]) (bR [12, 4, 1, 2]) rfl rfl rfl rfl (two_of HT_.out (by kernel_rfl)) (by decide) (by decide) (fun K hK => ?_) (fun K hK => ?_)
           ·skip
            refine goes_ Try.func111 (by kernel_rfl) rfl #[.agg #[.int .i64 a1_0, .int .i64 a1_1], .agg #[.int .i64 ((rd_T130 l0 x6_1).f1), .int .i64 ((rd_T130 l0 x6_1).f2)]] (by rfl) rfl rfl (by (try simp only [mA, mC, mN]); first | done | rfl | (simp only [lD, lT]; rfl)) ?_
            with_reducible refine (spec_Meet.calls a1_0 a1_1 ((rd_T130 l0 x6_1).f1) ((rd_T130 l0 x6_1).f2) t168 t169 false _ A18.out).mono ?_
            rintro e w32 ⟨rfl, hb⟩
            refine ⟨_, rfl, ?_⟩
            have n0_ := Aside0.mk (Kd.R_below (qR HO_5) hb)
            have n1_ := Aside0.mk (blk_below (qK BK160) hb)
            have n2_ := Aside0.mk (below_step (by repeat first | (with_reducible first | exact HB.out | apply bA | apply bN | apply bD | refine bS ?_ GE160.out) | exact HB.out) hb)
            clear HO_5
            clear BK160
            clear HB
            have HO_5 := n0_
            have BK160 := n1_
            have HB := n2_
            clear n0_ n1_ n2_
            (try clear hb)
            (try clear hb2)
            (try clear hk)
            (try clear hi)
            refine hK.out _ _ ⟨cC BK160 0, cC BK160 1, ((HB.out.cell (World.block_lt_of_cell? w _ hw166_0)).trans hw166_0), ((HB.out.cell (World.block_lt_of_cell? w _ hw166_1)).trans hw166_1), ((HB.out.cell (World.block_lt_of_cell? w _ hw166_2)).trans hw166_2), ((HB.out.cell (World.block_lt_of_cell? w _ hw167_0)).trans hw167_0), ((HB.out.cell (World.block_lt_of_cell? w _ hw167_1)).trans hw167_1), ((HB.out.cell (World.block_lt_of_cell? w _ hw167_2)).trans hw167_2)⟩ (fun hHeld => ?_)
            clear hK K
            refine norm_ (a' := ?_) ?_ ?_
            rotate_left
            ·show Act.put _ (some 37) _ = _
             simp only [Act.put, sA, sZ, sS, i64_w]
             rfl
            refine pP 13 24 (bR [14, 5]) rfl rfl HT_ ?_
            refine pP 14 38 (bR [15, 4]) rfl rfl HT_ ?_
            refine pP 15 39 (bR [16, 3]) rfl rfl HT_ ?_
            refine one_ (i := 16) (N := some 7) (bR [17, 2]) rfl rfl (one_of HT_.out (by kernel_rfl)) (by decide) (fun K hK => ?_)
            refine box_step ?hg (N := 7) ?hd (cs := #[.int .i64 0, .int .i64 0]) (t := 43) ?hr ?_; (case hd => rfl); (case hg => rfl); (case hr => first | (go_simp; done) | (go_simp; rfl))
            intro gb171 hg w33 hbox hb
            have n0_ := Aside0.mk (Kd.R_below (qR HO_5) hb)
            have n1_ := Aside0.mk (blk_below (qK BK160) hb)
            have n2_ := Aside0.mk (below_step (by repeat first | (with_reducible first | exact HB.out | apply bA | apply bN | apply bD | refine bS ?_ GE160.out) | exact HB.out) hb)
            have n3_ := Aside0.mk (hbox)
            have n4_ := Aside0.mk ((by rw [hg]; exact (below_size (by repeat first | (with_reducible first | exact HB.out | apply bA | apply bN | apply bD | refine bS ?_ GE160.out) | exact HB.out)) : w.heap.size ≤ gb171))
            have n5_ := Aside0.mk ((by rw [hg]; exact (below_size (by repeat first | (with_reducible first | exact HB.out | apply bA | apply bN | apply bD | refine bS ?_ GE160.out) | exact HB.out)) : w.heap.size ≤ gb171))
            have n6_ := Aside0.mk ((by rw [hg]; exact Nat.ne_of_lt (blk_lt (qK BK160)) : gb160 ≠ gb171))
            have n7_ := Aside0.mk ((by rw [hg]; exact Nat.ne_of_gt (blk_lt (qK BK160)) : gb171 ≠ gb160))
            clear HO_5
            clear BK160
            clear HB
            have HO_5 := n0_
            have BK160 := n1_
            have HB := n2_
            have BK171 := n3_
            have GW171 := n4_
            have GE171 := n5_
            have NB160_171 := n6_
            have NB171_160 := n7_
            clear n0_ n1_ n2_ n3_ n4_ n5_ n6_ n7_
            clear hb hbox hg
            refine hK.out _ _ ⟨cC BK160 0, cC BK160 1, ((HB.out.cell (World.block_lt_of_cell? w _ hw166_0)).trans hw166_0), ((HB.out.cell (World.block_lt_of_cell? w _ hw166_1)).trans hw166_1), ((HB.out.cell (World.block_lt_of_cell? w _ hw166_2)).trans hw166_2), ((HB.out.cell (World.block_lt_of_cell? w _ hw167_0)).trans hw167_0), ((HB.out.cell (World.block_lt_of_cell? w _ hw167_1)).trans hw167_1), ((HB.out.cell (World.block_lt_of_cell? w _ hw167_2)).trans hw167_2)⟩ (fun hHeld => ?_)
            clear hK K
            refine norm_ (a' := ?_) ?_ ?_
            rotate_left
            ·show Act.put _ (some 7) _ = _
             simp only [Act.put, sA, sZ, sS, i64_w]
             rfl
            exact norm_ (by simp only [putAll, Act.put, sA, sZ, sS]) (hCont (gb171) _ ⟨hHeld, (qR HO_5), (qK BK160), (qK BK171), GW171.out, GE171.out, NB160_171.out, NB171_160.out, (by repeat first | (with_reducible first | exact HB.out | apply bA | apply bN | apply bD | refine bS ?_ GE160.out | refine bS ?_ GE171.out) | exact HB.out)⟩)
           ·skip
            refine box_step ?hg (N := 7) ?hd (cs := #[.int .i64 0, .int .i64 0]) (t := 43) ?hr ?_; (case hd => rfl); (case hg => rfl); (case hr => first | (go_simp; done) | (go_simp; rfl))
            intro gb171 hg w32 hbox hb
            have n0_ := Aside0.mk (Kd.R_below (qR HO_5) hb)
            have n1_ := Aside0.mk (blk_below (qK BK160) hb)
            have n2_ := Aside0.mk (below_step (by repeat first | (with_reducible first | exact HB.out | apply bA | apply bN | apply bD | refine bS ?_ GE160.out) | exact HB.out) hb)
            have n3_ := Aside0.mk (hbox)
            have n4_ := Aside0.mk ((by rw [hg]; exact (below_size (by repeat first | (with_reducible first | exact HB.out | apply bA | apply bN | apply bD | refine bS ?_ GE160.out) | exact HB.out)) : w.heap.size ≤ gb171))
            have n5_ := Aside0.mk ((by rw [hg]; exact (below_size (by repeat first | (with_reducible first | exact HB.out | apply bA | apply bN | apply bD | refine bS ?_ GE160.out) | exact HB.out)) : w.heap.size ≤ gb171))
            have n6_ := Aside0.mk ((by rw [hg]; exact Nat.ne_of_lt (blk_lt (qK BK160)) : gb160 ≠ gb171))
            have n7_ := Aside0.mk ((by rw [hg]; exact Nat.ne_of_gt (blk_lt (qK BK160)) : gb171 ≠ gb160))
            clear HO_5
            clear BK160
            clear HB
            have HO_5 := n0_
            have BK160 := n1_
            have HB := n2_
            have BK171 := n3_
            have GW171 := n4_
            have GE171 := n5_
            have NB160_171 := n6_
            have NB171_160 := n7_
            clear n0_ n1_ n2_ n3_ n4_ n5_ n6_ n7_
            clear hb hbox hg
            refine hK.out _ _ ⟨cC BK160 0, cC BK160 1, ((HB.out.cell (World.block_lt_of_cell? w _ hw166_0)).trans hw166_0), ((HB.out.cell (World.block_lt_of_cell? w _ hw166_1)).trans hw166_1), ((HB.out.cell (World.block_lt_of_cell? w _ hw166_2)).trans hw166_2), ((HB.out.cell (World.block_lt_of_cell? w _ hw167_0)).trans hw167_0), ((HB.out.cell (World.block_lt_of_cell? w _ hw167_1)).trans hw167_1), ((HB.out.cell (World.block_lt_of_cell? w _ hw167_2)).trans hw167_2)⟩ (fun hHeld => ?_)
            clear hK K
            refine norm_ (a' := ?_) ?_ ?_
            rotate_left
            ·show Act.put _ (some 7) _ = _
             simp only [Act.put, sA, sZ, sS, i64_w]
             rfl
            refine one_ (i := 12) (N := some 37) (bR [13, 3, 1, 2]) rfl rfl (one_of HT_.out (by kernel_rfl)) (by decide) (fun K hK => ?_)
            refine goes_ Try.func111 (by kernel_rfl) rfl #[.agg #[.int .i64 a1_0, .int .i64 a1_1], .agg #[.int .i64 ((rd_T130 l0 x6_1).f1), .int .i64 ((rd_T130 l0 x6_1).f2)]] (by rfl) rfl rfl (by (try simp only [mA, mC, mN]); first | done | rfl | (simp only [lD, lT]; rfl)) ?_
            with_reducible refine (spec_Meet.calls a1_0 a1_1 ((rd_T130 l0 x6_1).f1) ((rd_T130 l0 x6_1).f2) t168 t169 false _ A18.out).mono ?_
            rintro e w33 ⟨rfl, hb⟩
            refine ⟨_, rfl, ?_⟩
            have n0_ := Aside0.mk (Kd.R_below (qR HO_5) hb)
            have n1_ := Aside0.mk (blk_below (qK BK160) hb)
            have n2_ := Aside0.mk (blk_below (qK BK171) hb)
            have n3_ := Aside0.mk (below_step (by repeat first | (with_reducible first | exact HB.out | apply bA | apply bN | apply bD | refine bS ?_ GE160.out | refine bS ?_ GE171.out) | exact HB.out) hb)
            clear HO_5
            clear BK160
            clear BK171
            clear HB
            have HO_5 := n0_
            have BK160 := n1_
            have BK171 := n2_
            have HB := n3_
            clear n0_ n1_ n2_ n3_
            (try clear hb)
            (try clear hb2)
            (try clear hk)
            (try clear hi)
            refine hK.out _ _ ⟨cC BK160 0, cC BK160 1, ((HB.out.cell (World.block_lt_of_cell? w _ hw166_0)).trans hw166_0), ((HB.out.cell (World.block_lt_of_cell? w _ hw166_1)).trans hw166_1), ((HB.out.cell (World.block_lt_of_cell? w _ hw166_2)).trans hw166_2), ((HB.out.cell (World.block_lt_of_cell? w _ hw167_0)).trans hw167_0), ((HB.out.cell (World.block_lt_of_cell? w _ hw167_1)).trans hw167_1), ((HB.out.cell (World.block_lt_of_cell? w _ hw167_2)).trans hw167_2)⟩ (fun hHeld => ?_)
            clear hK K
            refine norm_ (a' := ?_) ?_ ?_
            rotate_left
            ·show Act.put _ (some 37) _ = _
             simp only [Act.put, sA, sZ, sS, i64_w]
             rfl
            refine pP 13 24 (bR [14, 2, 1, 2]) rfl rfl HT_ ?_
            refine pP 14 38 (bR [15, 1, 1, 2]) rfl rfl HT_ ?_
            refine pP 15 39 (bR [17, 2]) rfl rfl HT_ ?_
            exact norm_ (by simp only [putAll, Act.put, sA, sZ, sS]) (hCont (gb171) _ ⟨hHeld, (qR HO_5), (qK BK160), (qK BK171), GW171.out, GE171.out, NB160_171.out, NB171_160.out, (by repeat first | (with_reducible first | exact HB.out | apply bA | apply bN | apply bD | refine bS ?_ GE160.out | refine bS ?_ GE171.out) | exact HB.out)⟩)
          rintro gb171 w34 ⟨hS_, h0_, h1_, h2_, h3_, h4_, h5_, h6_, h7_⟩
          have n0_ : Aside0 (Kd.R (Kd.int .i64) 3 w34 w.heap.size (fun _ => True) u5 x5_1) := ⟨h0_⟩
          have n1_ : Aside0 (w34.heap[gb160]? = some (.cells #[.int .i64 a1_0, .int .i64 a1_1] 43 (0, 0))) := ⟨h1_⟩
          have n2_ : Aside0 (w34.heap[gb171]? = some (.cells #[.int .i64 0, .int .i64 0] 43 (0, 0))) := ⟨h2_⟩
          have n3_ : Aside0 (w.heap.size ≤ gb171) := ⟨h3_⟩
          have n4_ : Aside0 (w.heap.size ≤ gb171) := ⟨h4_⟩
          have n5_ : Aside0 (gb160 ≠ gb171) := ⟨h5_⟩
          have n6_ : Aside0 (gb171 ≠ gb160) := ⟨h6_⟩
          have n7_ : Aside0 (Below w.heap.size w w34) := ⟨h7_⟩
          clear HO_5
          clear BK160
          clear HB
          clear h0_ h1_ h2_ h3_ h4_ h5_ h6_ h7_
          have HO_5 := n0_
          have BK160 := n1_
          have BK171 := n2_
          have GW171 := n3_
          have GE171 := n4_
          have NB160_171 := n5_
          have NB171_160 := n6_
          have HB := n7_
          clear n0_ n1_ n2_ n3_ n4_ n5_ n6_ n7_
          have hHeld : w34.cell? ⟨gb160, 0, none⟩ = some (.int .i64 a1_0) ∧ w34.cell? ⟨gb160, 1, none⟩ = some (.int .i64 a1_1) ∧ w34.cell? (ad166.add ((x6_1).toNat * 3)) = some (.int .i64 ((rd_T130 l0 x6_1).f0)) ∧ w34.cell? ⟨(ad166.add ((x6_1).toNat * 3)).block, (ad166.add ((x6_1).toNat * 3)).off + 1, none⟩ = some (.int .i64 ((rd_T130 l0 x6_1).f1)) ∧ w34.cell? ⟨(ad166.add ((x6_1).toNat * 3)).block, (ad166.add ((x6_1).toNat * 3)).off + 2, none⟩ = some (.int .i64 ((rd_T130 l0 x6_1).f2)) ∧ w34.cell? (ad166.add ((x6_1).toNat * 3)) = some (.int .i64 ((rd_T130 l0 x6_1).f0)) ∧ w34.cell? ⟨(ad166.add ((x6_1).toNat * 3)).block, (ad166.add ((x6_1).toNat * 3)).off + 1, none⟩ = some (.int .i64 ((rd_T130 l0 x6_1).f1)) ∧ w34.cell? ⟨(ad166.add ((x6_1).toNat * 3)).block, (ad166.add ((x6_1).toNat * 3)).off + 2, none⟩ = some (.int .i64 ((rd_T130 l0 x6_1).f2)) := hS_
          refine norm_ (a' := ?_) ?_ ?_
          rotate_left; (simp only [putAll, Act.put, sA, sZ, sS]; rfl)
          refine one_ (i := 17) (N := none) (bR [18, 1]) rfl rfl (one_of HT_.out (by kernel_rfl)) (by decide) (fun K hK => ?_)
          have hs35 : w34.cell? ⟨gb171, 0, none⟩ = some (.int .i64 0) := cC BK171 0
          have hfs35 := blk_frozen BK171.out 0
          have hns35_0 := NB160_171.out
          have hms35_0 := NB171_160.out
          have hs36 : w34.cell? ⟨gb171, 1, none⟩ = some (.int .i64 0) := cC BK171 1
          have hfs36 := blk_frozen BK171.out 1
          have hns36_0 := NB160_171.out
          have hms36_0 := NB171_160.out
          refine skip_ (w1 := ?_) (by rfl) rfl ?_ ?_
          rotate_left
          ·go_simp
           rfl
          refine hK.out _ _ ⟨((cell_far (p := ⟨gb171, _, none⟩) NB160_171.out _).trans (((cell_far (p := ⟨gb171, _, none⟩) NB160_171.out _).trans (hHeld.1)))), ((cell_far (p := ⟨gb171, _, none⟩) NB160_171.out _).trans (((cell_far (p := ⟨gb171, _, none⟩) NB160_171.out _).trans (hHeld.2.1)))), ((cell_far (p := ⟨gb171, _, none⟩) (by first | exact Nat.ne_of_lt (Nat.lt_of_lt_of_le (by have := World.block_lt_of_cell? _ _ hw166_0; first | rwa [add_block] at this | exact this) GW171.out) | (rw [add_block]; exact Nat.ne_of_lt (Nat.lt_of_lt_of_le (by have := World.block_lt_of_cell? _ _ hw166_0; first | rwa [add_block] at this | exact this) GW171.out)) | (show (Addr.add _ _).block ≠ _; rw [add_block]; exact Nat.ne_of_lt (Nat.lt_of_lt_of_le (by have := World.block_lt_of_cell? _ _ hw166_0; first | rwa [add_block] at this | exact this) GW171.out)) | (dsimp only; exact Nat.ne_of_lt (Nat.lt_of_lt_of_le (by have := World.block_lt_of_cell? _ _ hw166_0; first | rwa [add_block] at this | exact this) GW171.out))) _).trans (((cell_far (p := ⟨gb171, _, none⟩) (by first | exact Nat.ne_of_lt (Nat.lt_of_lt_of_le (by have := World.block_lt_of_cell? _ _ hw166_0; first | rwa [add_block] at this | exact this) GW171.out) | (rw [add_block]; exact Nat.ne_of_lt (Nat.lt_of_lt_of_le (by have := World.block_lt_of_cell? _ _ hw166_0; first | rwa [add_block] at this | exact this) GW171.out)) | (show (Addr.add _ _).block ≠ _; rw [add_block]; exact Nat.ne_of_lt (Nat.lt_of_lt_of_le (by have := World.block_lt_of_cell? _ _ hw166_0; first | rwa [add_block] at this | exact this) GW171.out)) | (dsimp only; exact Nat.ne_of_lt (Nat.lt_of_lt_of_le (by have := World.block_lt_of_cell? _ _ hw166_0; first | rwa [add_block] at this | exact this) GW171.out))) _).trans (hHeld.2.2.1)))), ((cell_far (p := ⟨gb171, _, none⟩) (by first | exact Nat.ne_of_lt (Nat.lt_of_lt_of_le (by have := World.block_lt_of_cell? _ _ hw166_1; first | rwa [add_block] at this | exact this) GW171.out) | (rw [add_block]; exact Nat.ne_of_lt (Nat.lt_of_lt_of_le (by have := World.block_lt_of_cell? _ _ hw166_1; first | rwa [add_block] at this | exact this) GW171.out)) | (show (Addr.add _ _).block ≠ _; rw [add_block]; exact Nat.ne_of_lt (Nat.lt_of_lt_of_le (by have := World.block_lt_of_cell? _ _ hw166_1; first | rwa [add_block] at this | exact this) GW171.out)) | (dsimp only; exact Nat.ne_of_lt (Nat.lt_of_lt_of_le (by have := World.block_lt_of_cell? _ _ hw166_1; first | rwa [add_block] at this | exact this) GW171.out))) _).trans (((cell_far (p := ⟨gb171, _, none⟩) (by first | exact Nat.ne_of_lt (Nat.lt_of_lt_of_le (by have := World.block_lt_of_cell? _ _ hw166_1; first | rwa [add_block] at this | exact this) GW171.out) | (rw [add_block]; exact Nat.ne_of_lt (Nat.lt_of_lt_of_le (by have := World.block_lt_of_cell? _ _ hw166_1; first | rwa [add_block] at this | exact this) GW171.out)) | (show (Addr.add _ _).block ≠ _; rw [add_block]; exact Nat.ne_of_lt (Nat.lt_of_lt_of_le (by have := World.block_lt_of_cell? _ _ hw166_1; first | rwa [add_block] at this | exact this) GW171.out)) | (dsimp only; exact Nat.ne_of_lt (Nat.lt_of_lt_of_le (by have := World.block_lt_of_cell? _ _ hw166_1; first | rwa [add_block] at this | exact this) GW171.out))) _).trans (hHeld.2.2.2.1)))), ((cell_far (p := ⟨gb171, _, none⟩) (by first | exact Nat.ne_of_lt (Nat.lt_of_lt_of_le (by have := World.block_lt_of_cell? _ _ hw166_2; first | rwa [add_block] at this | exact this) GW171.out) | (rw [add_block]; exact Nat.ne_of_lt (Nat.lt_of_lt_of_le (by have := World.block_lt_of_cell? _ _ hw166_2; first | rwa [add_block] at this | exact this) GW171.out)) | (show (Addr.add _ _).block ≠ _; rw [add_block]; exact Nat.ne_of_lt (Nat.lt_of_lt_of_le (by have := World.block_lt_of_cell? _ _ hw166_2; first | rwa [add_block] at this | exact this) GW171.out)) | (dsimp only; exact Nat.ne_of_lt (Nat.lt_of_lt_of_le (by have := World.block_lt_of_cell? _ _ hw166_2; first | rwa [add_block] at this | exact this) GW171.out))) _).trans (((cell_far (p := ⟨gb171, _, none⟩) (by first | exact Nat.ne_of_lt (Nat.lt_of_lt_of_le (by have := World.block_lt_of_cell? _ _ hw166_2; first | rwa [add_block] at this | exact this) GW171.out) | (rw [add_block]; exact Nat.ne_of_lt (Nat.lt_of_lt_of_le (by have := World.block_lt_of_cell? _ _ hw166_2; first | rwa [add_block] at this | exact this) GW171.out)) | (show (Addr.add _ _).block ≠ _; rw [add_block]; exact Nat.ne_of_lt (Nat.lt_of_lt_of_le (by have := World.block_lt_of_cell? _ _ hw166_2; first | rwa [add_block] at this | exact this) GW171.out)) | (dsimp only; exact Nat.ne_of_lt (Nat.lt_of_lt_of_le (by have := World.block_lt_of_cell? _ _ hw166_2; first | rwa [add_block] at this | exact this) GW171.out))) _).trans (hHeld.2.2.2.2.1)))), ((cell_far (p := ⟨gb171, _, none⟩) (by first | exact Nat.ne_of_lt (Nat.lt_of_lt_of_le (by have := World.block_lt_of_cell? _ _ hw167_0; first | rwa [add_block] at this | exact this) GW171.out) | (rw [add_block]; exact Nat.ne_of_lt (Nat.lt_of_lt_of_le (by have := World.block_lt_of_cell? _ _ hw167_0; first | rwa [add_block] at this | exact this) GW171.out)) | (show (Addr.add _ _).block ≠ _; rw [add_block]; exact Nat.ne_of_lt (Nat.lt_of_lt_of_le (by have := World.block_lt_of_cell? _ _ hw167_0; first | rwa [add_block] at this | exact this) GW171.out)) | (dsimp only; exact Nat.ne_of_lt (Nat.lt_of_lt_of_le (by have := World.block_lt_of_cell? _ _ hw167_0; first | rwa [add_block] at this | exact this) GW171.out))) _).trans (((cell_far (p := ⟨gb171, _, none⟩) (by first | exact Nat.ne_of_lt (Nat.lt_of_lt_of_le (by have := World.block_lt_of_cell? _ _ hw167_0; first | rwa [add_block] at this | exact this) GW171.out) | (rw [add_block]; exact Nat.ne_of_lt (Nat.lt_of_lt_of_le (by have := World.block_lt_of_cell? _ _ hw167_0; first | rwa [add_block] at this | exact this) GW171.out)) | (show (Addr.add _ _).block ≠ _; rw [add_block]; exact Nat.ne_of_lt (Nat.lt_of_lt_of_le (by have := World.block_lt_of_cell? _ _ hw167_0; first | rwa [add_block] at this | exact this) GW171.out)) | (dsimp only; exact Nat.ne_of_lt (Nat.lt_of_lt_of_le (by have := World.block_lt_of_cell? _ _ hw167_0; first | rwa [add_block] at this | exact this) GW171.out))) _).trans (hHeld.2.2.2.2.2.1)))), ((cell_far (p := ⟨gb171, _, none⟩) (by first | exact Nat.ne_of_lt (Nat.lt_of_lt_of_le (by have := World.block_lt_of_cell? _ _ hw167_1; first | rwa [add_block] at this | exact this) GW171.out) | (rw [add_block]; exact Nat.ne_of_lt (Nat.lt_of_lt_of_le (by have := World.block_lt_of_cell? _ _ hw167_1; first | rwa [add_block] at this | exact this) GW171.out)) | (show (Addr.add _ _).block ≠ _; rw [add_block]; exact Nat.ne_of_lt (Nat.lt_of_lt_of_le (by have := World.block_lt_of_cell? _ _ hw167_1; first | rwa [add_block] at this | exact this) GW171.out)) | (dsimp only; exact Nat.ne_of_lt (Nat.lt_of_lt_of_le (by have := World.block_lt_of_cell? _ _ hw167_1; first | rwa [add_block] at this | exact this) GW171.out))) _).trans (((cell_far (p := ⟨gb171, _, none⟩) (by first | exact Nat.ne_of_lt (Nat.lt_of_lt_of_le (by have := World.block_lt_of_cell? _ _ hw167_1; first | rwa [add_block] at this | exact this) GW171.out) | (rw [add_block]; exact Nat.ne_of_lt (Nat.lt_of_lt_of_le (by have := World.block_lt_of_cell? _ _ hw167_1; first | rwa [add_block] at this | exact this) GW171.out)) | (show (Addr.add _ _).block ≠ _; rw [add_block]; exact Nat.ne_of_lt (Nat.lt_of_lt_of_le (by have := World.block_lt_of_cell? _ _ hw167_1; first | rwa [add_block] at this | exact this) GW171.out)) | (dsimp only; exact Nat.ne_of_lt (Nat.lt_of_lt_of_le (by have := World.block_lt_of_cell? _ _ hw167_1; first | rwa [add_block] at this | exact this) GW171.out))) _).trans (hHeld.2.2.2.2.2.2.1)))), ((cell_far (p := ⟨gb171, _, none⟩) (by first | exact Nat.ne_of_lt (Nat.lt_of_lt_of_le (by have := World.block_lt_of_cell? _ _ hw167_2; first | rwa [add_block] at this | exact this) GW171.out) | (rw [add_block]; exact Nat.ne_of_lt (Nat.lt_of_lt_of_le (by have := World.block_lt_of_cell? _ _ hw167_2; first | rwa [add_block] at this | exact this) GW171.out)) | (show (Addr.add _ _).block ≠ _; rw [add_block]; exact Nat.ne_of_lt (Nat.lt_of_lt_of_le (by have := World.block_lt_of_cell? _ _ hw167_2; first | rwa [add_block] at this | exact this) GW171.out)) | (dsimp only; exact Nat.ne_of_lt (Nat.lt_of_lt_of_le (by have := World.block_lt_of_cell? _ _ hw167_2; first | rwa [add_block] at this | exact this) GW171.out))) _).trans (((cell_far (p := ⟨gb171, _, none⟩) (by first | exact Nat.ne_of_lt (Nat.lt_of_lt_of_le (by have := World.block_lt_of_cell? _ _ hw167_2; first | rwa [add_block] at this | exact this) GW171.out) | (rw [add_block]; exact Nat.ne_of_lt (Nat.lt_of_lt_of_le (by have := World.block_lt_of_cell? _ _ hw167_2; first | rwa [add_block] at this | exact this) GW171.out)) | (show (Addr.add _ _).block ≠ _; rw [add_block]; exact Nat.ne_of_lt (Nat.lt_of_lt_of_le (by have := World.block_lt_of_cell? _ _ hw167_2; first | rwa [add_block] at this | exact this) GW171.out)) | (dsimp only; exact Nat.ne_of_lt (Nat.lt_of_lt_of_le (by have := World.block_lt_of_cell? _ _ hw167_2; first | rwa [add_block] at this | exact this) GW171.out))) _).trans (hHeld.2.2.2.2.2.2.2))))⟩ (fun hHeld => ?_)
          clear hK K
          refine pP 18 8 (bR [19]) rfl rfl HT_ ?_
          refine done_ (done_of HT_.out (by kernel_rfl)) ?_
          have p176 : 0 ≤ (x6_1 : Int) := of_decide_eq_true ‹_›
          have q176 : x6_1 < (l0.length : Int) := of_decide_eq_true ‹_›
          obtain ⟨ad176, e176, hx176_0, hx176_1, hx176_2⟩ := at_T130 HR0.out x6_1 p176 q176
          obtain rfl : ad166 = ad176 := (by injection e176)
          have hn176_0 : ad166.block ≠ gb171 := Nat.ne_of_lt (Nat.lt_of_lt_of_le (by have := World.block_lt_of_cell? _ _ hx176_0; first | rwa [add_block] at this | exact this) GW171.out)
          have hn176_1 : ad166.block ≠ gb171 := Nat.ne_of_lt (Nat.lt_of_lt_of_le (by have := World.block_lt_of_cell? _ _ hx176_0; first | rwa [add_block] at this | exact this) GW171.out)
          replace hx176_0 := (HB.out.cell (World.block_lt_of_cell? w _ hx176_0)).trans hx176_0
          replace hx176_1 := (HB.out.cell (World.block_lt_of_cell? w _ hx176_1)).trans hx176_1
          replace hx176_2 := (HB.out.cell (World.block_lt_of_cell? w _ hx176_2)).trans hx176_2
          replace hx176_0 := (cell_far (p := ⟨gb171, 0, none⟩) (by first | (rw [add_block]; exact hn176_0) | (show (Addr.add _ _).block ≠ _; rw [add_block]; exact hn176_0) | exact hn176_0) (.int .i64 t168)).trans hx176_0
          replace hx176_1 := (cell_far (p := ⟨gb171, 0, none⟩) (by first | (rw [add_block]; exact hn176_0) | (show (Addr.add _ _).block ≠ _; rw [add_block]; exact hn176_0) | exact hn176_0) (.int .i64 t168)).trans hx176_1
          replace hx176_2 := (cell_far (p := ⟨gb171, 0, none⟩) (by first | (rw [add_block]; exact hn176_0) | (show (Addr.add _ _).block ≠ _; rw [add_block]; exact hn176_0) | exact hn176_0) (.int .i64 t168)).trans hx176_2
          replace hx176_0 := (cell_far (p := ⟨gb171, 1, none⟩) (by first | (rw [add_block]; exact hn176_1) | (show (Addr.add _ _).block ≠ _; rw [add_block]; exact hn176_1) | exact hn176_1) (.int .i64 t169)).trans hx176_0
          replace hx176_1 := (cell_far (p := ⟨gb171, 1, none⟩) (by first | (rw [add_block]; exact hn176_1) | (show (Addr.add _ _).block ≠ _; rw [add_block]; exact hn176_1) | exact hn176_1) (.int .i64 t169)).trans hx176_1
          replace hx176_2 := (cell_far (p := ⟨gb171, 1, none⟩) (by first | (rw [add_block]; exact hn176_1) | (show (Addr.add _ _).block ≠ _; rw [add_block]; exact hn176_1) | exact hn176_1) (.int .i64 t169)).trans hx176_2
          clear hn176_0
          clear hn176_1
          replace p176 := eq_true p176
          replace q176 := eq_true q176
          obtain ⟨Ao37, co37, eo37⟩ := Kd.R_slice HO_5.out
          subst eo37
          try go_wp2_with (first | ((with_reducible refine gate_callee (f := 112) rfl ?_); refine goesL_ (some 54) rfl rfl Try.func112 (by kernel_rfl) rfl #[.slice Ao37 x5_1.length co37, .int .i64 ((rd_T130 l0 x6_1).f0)] rfl (by (try simp only [mA, mC, mN]); first | done | rfl | (simp only [lD, lT]; rfl)) ?_; (with_reducible refine (spec_l9Put.calls kj5 _ _ x5_1 ((rd_T130 l0 x6_1).f0) t177 _ ?side1 ?side2 A30.out).mono ?_); (case side1 => refine (Kd.R_reads' (e := 3) (base := w.heap.size) (ok := fun k_ => True) (n := x5_1.length) (c := co37) ?_).2.2; exact (by (with_reducible repeat first | apply rA | apply rN | apply rD); exact (far2 HO_5 BK171))); (case side2 => exact (Kd.R_reads' HO_5.out).2.1); rintro e w38 ⟨v178, rfl, ho0, hb⟩; refine ⟨_, rfl, ?_⟩; have n0_ := Aside0.mk (Kd.R_elder' (by (with_reducible repeat first | apply rA | apply rN | apply rD); exact (far2 HO_5 BK171)) (Kd.R_base ho0) hb); have n1_ := Aside0.mk (Kd.R_lower (Kd.R_new' ho0 (Kd.R_lt (by (with_reducible repeat first | apply rA | apply rN | apply rD); exact (far2 HO_5 BK171)))) (below_size (by repeat first | (with_reducible first | exact HB.out | apply bA | apply bN | apply bD | refine bS ?_ GE160.out | refine bS ?_ GE171.out) | exact HB.out))); have n2_ := Aside0.mk (blk_below (g := gb160) (o := .cells #[.int .i64 a1_0, .int .i64 a1_1] 43 (0, 0)) (by (with_reducible repeat first | refine kN ?_ _ | refine kD ?_ | refine kA ?_ _); refine blk_far ?_ NB160_171.out _; (with_reducible repeat first | refine kN ?_ _ | refine kD ?_ | refine kA ?_ _); refine blk_far ?_ NB160_171.out _; (with_reducible repeat first | refine kN ?_ _ | refine kD ?_ | refine kA ?_ _); exact BK160.out) hb); have n3_ := Aside0.mk (blk_below (g := gb171) (o := .cells #[.int .i64 t168, .int .i64 t169] 43 (0, 0)) (by (with_reducible repeat first | refine kN ?_ _ | refine kD ?_ | refine kA ?_ _); refine blk_put (cs := #[.int .i64 t168, .int .i64 0]) ?_ 1 _ rfl; (with_reducible repeat first | refine kN ?_ _ | refine kD ?_ | refine kA ?_ _); refine blk_put (cs := #[.int .i64 0, .int .i64 0]) ?_ 0 _ rfl; (with_reducible repeat first | refine kN ?_ _ | refine kD ?_ | refine kA ?_ _); exact BK171.out) hb); have n4_ := Aside0.mk (below_step (by repeat first | (with_reducible first | exact HB.out | apply bA | apply bN | apply bD | refine bS ?_ GE160.out | refine bS ?_ GE171.out) | exact HB.out) hb); clear HO_5; clear BK160; clear BK171; clear HB; have HO_5 := n0_; have HO179 := n1_; have BK160 := n2_; have BK171 := n3_; have HB := n4_; clear n0_ n1_ n2_ n3_ n4_; (try clear hb); (try clear hb2); (try clear hk); (try clear hi); (try clear ho0)))
          go_roundg kj5
          case measure => have := HK1.out; have := HJ5.out; omega
          case rel => exact ⟨(t177), (wrap64 (x6_1 + 1)), (by first | rfl | (simp; done) | (simp [*]; done)), H', ⟨by have := HK1.out; have := HJ5.out; omega⟩, ⟨by (with_reducible repeat first | apply rA | apply rN | apply rD); exact Kd.R_mono HO179.out (fun _ hk => trivial)⟩, ⟨by (with_reducible repeat first | refine kN ?_ _ | refine kD ?_ | refine kA ?_ _); exact BK160.out⟩, ⟨by repeat (first | (with_reducible first | exact HB.out | apply bA | apply bN | apply bD | refine bS ?_ GE160.out | refine bS ?_ GE171.out) | exact HB.out)⟩⟩
         ·rw [if_neg c29] at H
          have c29b0 : ((wrap64 (x6_1 + 1)) == (l0.length : Int)) = false := beq_eq_false_iff_ne.mpr c29
          have c29b1 : ((wrap64 (x6_1 + 1)) != (l0.length : Int)) = true := bne_iff_ne.mpr c29
          have H' := Aside0.mk H
          clear H
          try go_wp2
          have n0_ := Aside0.mk (Kd.R_drew HO_5.out)
          have n1_ := Aside0.mk (blk_drew BK160.out)
          have n2_ := Aside0.mk (below_drew1 HB.out)
          clear HO_5
          clear BK160
          clear HB
          have HO_5 := n0_
          have BK160 := n1_
          have HB := n2_
          clear n0_ n1_ n2_
          have p166 : 0 ≤ (x6_1 : Int) := of_decide_eq_true ‹_›
          have q166 : x6_1 < (l0.length : Int) := of_decide_eq_true ‹_›
          obtain ⟨ad166, e166, hx166_0, hx166_1, hx166_2⟩ := at_T130 HR0.out x6_1 p166 q166
          have hw166_2 := hx166_2
          have hw166_1 := hx166_1
          have hw166_0 := hx166_0
          cases e166
          replace hx166_0 := (HB.out.cell (World.block_lt_of_cell? w _ hx166_0)).trans hx166_0
          replace hx166_1 := (HB.out.cell (World.block_lt_of_cell? w _ hx166_1)).trans hx166_1
          replace hx166_2 := (HB.out.cell (World.block_lt_of_cell? w _ hx166_2)).trans hx166_2
          replace p166 := eq_true p166
          replace q166 := eq_true q166
          have p167 : 0 ≤ (x6_1 : Int) := of_decide_eq_true ‹_›
          have q167 : x6_1 < (l0.length : Int) := of_decide_eq_true ‹_›
          obtain ⟨ad167, e167, hx167_0, hx167_1, hx167_2⟩ := at_T130 HR0.out x6_1 p167 q167
          have hw167_2 := hx167_2
          have hw167_1 := hx167_1
          have hw167_0 := hx167_0
          obtain rfl : ad166 = ad167 := (by injection e167)
          replace hx167_0 := (HB.out.cell (World.block_lt_of_cell? w _ hx167_0)).trans hx167_0
          replace hx167_1 := (HB.out.cell (World.block_lt_of_cell? w _ hx167_1)).trans hx167_1
          replace hx167_2 := (HB.out.cell (World.block_lt_of_cell? w _ hx167_2)).trans hx167_2
          replace p167 := eq_true p167
          replace q167 := eq_true q167
          refine start_ (n := 19) (S := fun w' => w'.cell? ⟨gb160, 0, none⟩ = some (.int .i64 a1_0) ∧ w'.cell? ⟨gb160, 1, none⟩ = some (.int .i64 a1_1) ∧ w'.cell? (ad166.add ((x6_1).toNat * 3)) = some (.int .i64 ((rd_T130 l0 x6_1).f0)) ∧ w'.cell? ⟨(ad166.add ((x6_1).toNat * 3)).block, (ad166.add ((x6_1).toNat * 3)).off + 1, none⟩ = some (.int .i64 ((rd_T130 l0 x6_1).f1)) ∧ w'.cell? ⟨(ad166.add ((x6_1).toNat * 3)).block, (ad166.add ((x6_1).toNat * 3)).off + 2, none⟩ = some (.int .i64 ((rd_T130 l0 x6_1).f2)) ∧ w'.cell? (ad166.add ((x6_1).toNat * 3)) = some (.int .i64 ((rd_T130 l0 x6_1).f0)) ∧ w'.cell? ⟨(ad166.add ((x6_1).toNat * 3)).block, (ad166.add ((x6_1).toNat * 3)).off + 1, none⟩ = some (.int .i64 ((rd_T130 l0 x6_1).f1)) ∧ w'.cell? ⟨(ad166.add ((x6_1).toNat * 3)).block, (ad166.add ((x6_1).toNat * 3)).off + 2, none⟩ = some (.int .i64 ((rd_T130 l0 x6_1).f2))) (ds := []) (bR [0, 19]) (by kernel_rfl) rfl rfl ⟨cC BK160 0, cC BK160 1, ((HB.out.cell (World.block_lt_of_cell? w _ hw166_0)).trans hw166_0), ((HB.out.cell (World.block_lt_of_cell? w _ hw166_1)).trans hw166_1), ((HB.out.cell (World.block_lt_of_cell? w _ hw166_2)).trans hw166_2), ((HB.out.cell (World.block_lt_of_cell? w _ hw167_0)).trans hw167_0), ((HB.out.cell (World.block_lt_of_cell? w _ hw167_1)).trans hw167_1), ((HB.out.cell (World.block_lt_of_cell? w _ hw167_2)).trans hw167_2)⟩ (fun hHeld => ?_); refine with_tabW spec_LeftBetween.tab5 spec_LeftBetween.bits5 (fun HT_ HW_ => ?_)
          generalize wc.drew = w39 at HO_5 BK160 HB hx166_0 hx166_1 hx166_2 hx167_0 hx167_1 hx167_2 hHeld ⊢
          refine pP 1 26 (bR [0, 1, 1, 17]) rfl rfl HT_ ?_
          refine pP 2 27 (bR [0, 1, 2, 16]) rfl rfl HT_ ?_
          refine pP 3 28 (bR [0, 1, 3, 15]) rfl rfl HT_ ?_
          refine pP 4 29 (bR [0, 1, 4, 14]) rfl rfl HT_ ?_
          refine pP 6 31 (bR [0, 1, 4, 1, 1, 12]) rfl rfl HT_ ?_
          refine pP 7 32 (bR [0, 1, 4, 1, 2, 11]) rfl rfl HT_ ?_
          refine pP 8 33 (bR [0, 1, 4, 1, 3, 10]) rfl rfl HT_ ?_
          refine pP 9 34 (bR [0, 1, 4, 1, 4, 9]) rfl rfl HT_ ?_
          refine take_ (i := 0) (N := some 25) (v := ?_) (a' := ?_) (bR [5, 1, 4, 9]) rfl rfl (take_ofW HT_.out HW_.out (by kernel_rfl)) (fun _ _ _ h => h) (Or.inl ⟨by rfl, ?_⟩) hHeld ?_ ?_
          rotate_left; (rintro w' ⟨s0, s1, s2, s3, s4, s5, s6, s7⟩; go_simp; with_reducible rfl); rotate_left; (simp only [Act.put, sA, sZ, sS, i64_w]; rfl)
          refine take_ (i := 5) (N := some 30) (v := ?_) (a' := ?_) (bR [10, 9]) rfl rfl (take_ofW HT_.out HW_.out (by kernel_rfl)) (fun _ _ _ h => h) (Or.inl ⟨by rfl, ?_⟩) hHeld ?_ ?_
          rotate_left; (rintro w' ⟨s0, s1, s2, s3, s4, s5, s6, s7⟩; go_simp; with_reducible rfl); rotate_left; (simp only [Act.put, sA, sZ, sS, i64_w]; rfl)
          refine take_ (i := 10) (N := some 35) (v := ?_) (a' := ?_) (bR [11, 8]) rfl rfl (take_ofW HT_.out HW_.out (by kernel_rfl)) (fun _ _ _ h => h) (Or.inl ⟨by rfl, ?_⟩) hHeld ?_ ?_
          rotate_left; (rintro w' ⟨s0, s1, s2, s3, s4, s5, s6, s7⟩; go_simp; with_reducible rfl); rotate_left; (simp only [Act.put, sA, sZ, sS, i64_w]; rfl)
          refine pP 11 36 (bR [12, 7]) rfl rfl HT_ ?_
          refine join_ (σ := Nat) 2 (bR [17, 2]) (fun s_ => [(37, .tuple #[.agg #[.int .i64 t168, .int .i64 t169], .bool false]), (7, .pointer (some ⟨s_, 0, none⟩)), (24, .tuple #[.agg #[.int .i64 t168, .int .i64 t169], .bool false]), (38, .agg #[.int .i64 t168, .int .i64 t169]), (39, .bool false)]) (fun s_ w' => (w'.cell? ⟨gb160, 0, none⟩ = some (.int .i64 a1_0) ∧ w'.cell? ⟨gb160, 1, none⟩ = some (.int .i64 a1_1) ∧ w'.cell? (ad166.add ((x6_1).toNat * 3)) = some (.int .i64 ((rd_T130 l0 x6_1).f0)) ∧ w'.cell? ⟨(ad166.add ((x6_1).toNat * 3)).block, (ad166.add ((x6_1).toNat * 3)).off + 1, none⟩ = some (.int .i64 ((rd_T130 l0 x6_1).f1)) ∧ w'.cell? ⟨(ad166.add ((x6_1).toNat * 3)).block, (ad166.add ((x6_1).toNat * 3)).off + 2, none⟩ = some (.int .i64 ((rd_T130 l0 x6_1).f2)) ∧ w'.cell? (ad166.add ((x6_1).toNat * 3)) = some (.int .i64 ((rd_T130 l0 x6_1).f0)) ∧ w'.cell? ⟨(ad166.add ((x6_1).toNat * 3)).block, (ad166.add ((x6_1).toNat * 3)).off + 1, none⟩ = some (.int .i64 ((rd_T130 l0 x6_1).f1)) ∧ w'.cell? ⟨(ad166.add ((x6_1).toNat * 3)).block, (ad166.add ((x6_1).toNat * 3)).off + 2, none⟩ = some (.int .i64 ((rd_T130 l0 x6_1).f2))) ∧ (Kd.R (Kd.int .i64) 3 w' w.heap.size (fun _ => True) u5 x5_1) ∧ (w'.heap[gb160]? = some (.cells #[.int .i64 a1_0, .int .i64 a1_1] 43 (0, 0))) ∧ (w'.heap[s_]? = some (.cells #[.int .i64 0, .int .i64 0] 43 (0, 0))) ∧ (w.heap.size ≤ s_) ∧ (w.heap.size ≤ s_) ∧ (gb160 ≠ s_) ∧ (s_ ≠ gb160) ∧ (Below w.heap.size w w')) ?_ ?_
          rotate_left
          ·intro hCont
           refine two_ (i := 12) (j := 16) (Ni := some 37) (Nj := some 7) (bR [13, 6]) (bR [12, 4, 1, 2]) rfl rfl rfl rfl (two_of HT_.out (by kernel_rfl)) (by decide) (by decide) (fun K hK => ?_) (fun K hK => ?_)
           ·skip
            refine goes_ Try.func111 (by kernel_rfl) rfl #[.agg #[.int .i64 a1_0, .int .i64 a1_1], .agg #[.int .i64 ((rd_T130 l0 x6_1).f1), .int .i64 ((rd_T130 l0 x6_1).f2)]] (by rfl) rfl rfl (by (try simp only [mA, mC, mN]); first | done | rfl | (simp only [lD, lT]; rfl)) ?_
            with_reducible refine (spec_Meet.calls a1_0 a1_1 ((rd_T130 l0 x6_1).f1) ((rd_T130 l0 x6_1).f2) t168 t169 false _ A18.out).mono ?_
            rintro e w40 ⟨rfl, hb⟩
            refine ⟨_, rfl, ?_⟩
            have n0_ := Aside0.mk (Kd.R_below (qR HO_5) hb)
            have n1_ := Aside0.mk (blk_below (qK BK160) hb)
            have n2_ := Aside0.mk (below_step (by repeat first | (with_reducible first | exact HB.out | apply bA | apply bN | apply bD | refine bS ?_ GE160.out) | exact HB.out) hb)
            clear HO_5
            clear BK160
            clear HB
            have HO_5 := n0_
            have BK160 := n1_
            have HB := n2_
            clear n0_ n1_ n2_
            (try clear hb)
            (try clear hb2)
            (try clear hk)
            (try clear hi)
            refine hK.out _ _ ⟨cC BK160 0, cC BK160 1, ((HB.out.cell (World.block_lt_of_cell? w _ hw166_0)).trans hw166_0), ((HB.out.cell (World.block_lt_of_cell? w _ hw166_1)).trans hw166_1), ((HB.out.cell (World.block_lt_of_cell? w _ hw166_2)).trans hw166_2), ((HB.out.cell (World.block_lt_of_cell? w _ hw167_0)).trans hw167_0), ((HB.out.cell (World.block_lt_of_cell? w _ hw167_1)).trans hw167_1), ((HB.out.cell (World.block_lt_of_cell? w _ hw167_2)).trans hw167_2)⟩ (fun hHeld => ?_)
            clear hK K
            refine norm_ (a' := ?_) ?_ ?_
            rotate_left
            ·show Act.put _ (some 37) _ = _
             simp only [Act.put, sA, sZ, sS, i64_w]
             rfl
            refine pP 13 24 (bR [14, 5]) rfl rfl HT_ ?_
            refine pP 14 38 (bR [15, 4]) rfl rfl HT_ ?_
            refine pP 15 39 (bR [16, 3]) rfl rfl HT_ ?_
            refine one_ (i := 16) (N := some 7) (bR [17, 2]) rfl rfl (one_of HT_.out (by kernel_rfl)) (by decide) (fun K hK => ?_)
            refine box_step ?hg (N := 7) ?hd (cs := #[.int .i64 0, .int .i64 0]) (t := 43) ?hr ?_; (case hd => rfl); (case hg => rfl); (case hr => first | (go_simp; done) | (go_simp; rfl))
            intro gb171 hg w41 hbox hb
            have n0_ := Aside0.mk (Kd.R_below (qR HO_5) hb)
            have n1_ := Aside0.mk (blk_below (qK BK160) hb)
            have n2_ := Aside0.mk (below_step (by repeat first | (with_reducible first | exact HB.out | apply bA | apply bN | apply bD | refine bS ?_ GE160.out) | exact HB.out) hb)
            have n3_ := Aside0.mk (hbox)
            have n4_ := Aside0.mk ((by rw [hg]; exact (below_size (by repeat first | (with_reducible first | exact HB.out | apply bA | apply bN | apply bD | refine bS ?_ GE160.out) | exact HB.out)) : w.heap.size ≤ gb171))
            have n5_ := Aside0.mk ((by rw [hg]; exact (below_size (by repeat first | (with_reducible first | exact HB.out | apply bA | apply bN | apply bD | refine bS ?_ GE160.out) | exact HB.out)) : w.heap.size ≤ gb171))
            have n6_ := Aside0.mk ((by rw [hg]; exact Nat.ne_of_lt (blk_lt (qK BK160)) : gb160 ≠ gb171))
            have n7_ := Aside0.mk ((by rw [hg]; exact Nat.ne_of_gt (blk_lt (qK BK160)) : gb171 ≠ gb160))
            clear HO_5
            clear BK160
            clear HB
            have HO_5 := n0_
            have BK160 := n1_
            have HB := n2_
            have BK171 := n3_
            have GW171 := n4_
            have GE171 := n5_
            have NB160_171 := n6_
            have NB171_160 := n7_
            clear n0_ n1_ n2_ n3_ n4_ n5_ n6_ n7_
            clear hb hbox hg
            refine hK.out _ _ ⟨cC BK160 0, cC BK160 1, ((HB.out.cell (World.block_lt_of_cell? w _ hw166_0)).trans hw166_0), ((HB.out.cell (World.block_lt_of_cell? w _ hw166_1)).trans hw166_1), ((HB.out.cell (World.block_lt_of_cell? w _ hw166_2)).trans hw166_2), ((HB.out.cell (World.block_lt_of_cell? w _ hw167_0)).trans hw167_0), ((HB.out.cell (World.block_lt_of_cell? w _ hw167_1)).trans hw167_1), ((HB.out.cell (World.block_lt_of_cell? w _ hw167_2)).trans hw167_2)⟩ (fun hHeld => ?_)
            clear hK K
            refine norm_ (a' := ?_) ?_ ?_
            rotate_left
            ·show Act.put _ (some 7) _ = _
             simp only [Act.put, sA, sZ, sS, i64_w]
             rfl
            exact norm_ (by simp only [putAll, Act.put, sA, sZ, sS]) (hCont (gb171) _ ⟨hHeld, (qR HO_5), (qK BK160), (qK BK171), GW171.out, GE171.out, NB160_171.out, NB171_160.out, (by repeat first | (with_reducible first | exact HB.out | apply bA | apply bN | apply bD | refine bS ?_ GE160.out | refine bS ?_ GE171.out) | exact HB.out)⟩)
           ·skip
            refine box_step ?hg (N := 7) ?hd (cs := #[.int .i64 0, .int .i64 0]) (t := 43) ?hr ?_; (case hd => rfl); (case hg => rfl); (case hr => first | (go_simp; done) | (go_simp; rfl))
            intro gb171 hg w40 hbox hb
            have n0_ := Aside0.mk (Kd.R_below (qR HO_5) hb)
            have n1_ := Aside0.mk (blk_below (qK BK160) hb)
            have n2_ := Aside0.mk (below_step (by repeat first | (with_reducible first | exact HB.out | apply bA | apply bN | apply bD | refine bS ?_ GE160.out) | exact HB.out) hb)
            have n3_ := Aside0.mk (hbox)
            have n4_ := Aside0.mk ((by rw [hg]; exact (below_size (by repeat first | (with_reducible first | exact HB.out | apply bA | apply bN | apply bD | refine bS ?_ GE160.out) | exact HB.out)) : w.heap.size ≤ gb171))
            have n5_ := Aside0.mk ((by rw [hg]; exact (below_size (by repeat first | (with_reducible first | exact HB.out | apply bA | apply bN | apply bD | refine bS ?_ GE160.out) | exact HB.out)) : w.heap.size ≤ gb171))
            have n6_ := Aside0.mk ((by rw [hg]; exact Nat.ne_of_lt (blk_lt (qK BK160)) : gb160 ≠ gb171))
            have n7_ := Aside0.mk ((by rw [hg]; exact Nat.ne_of_gt (blk_lt (qK BK160)) : gb171 ≠ gb160))
            clear HO_5
            clear BK160
            clear HB
            have HO_5 := n0_
            have BK160 := n1_
            have HB := n2_
            have BK171 := n3_
            have GW171 := n4_
            have GE171 := n5_
            have NB160_171 := n6_
            have NB171_160 := n7_
            clear n0_ n1_ n2_ n3_ n4_ n5_ n6_ n7_
            clear hb hbox hg
            refine hK.out _ _ ⟨cC BK160 0, cC BK160 1, ((HB.out.cell (World.block_lt_of_cell? w _ hw166_0)).trans hw166_0), ((HB.out.cell (World.block_lt_of_cell? w _ hw166_1)).trans hw166_1), ((HB.out.cell (World.block_lt_of_cell? w _ hw166_2)).trans hw166_2), ((HB.out.cell (World.block_lt_of_cell? w _ hw167_0)).trans hw167_0), ((HB.out.cell (World.block_lt_of_cell? w _ hw167_1)).trans hw167_1), ((HB.out.cell (World.block_lt_of_cell? w _ hw167_2)).trans hw167_2)⟩ (fun hHeld => ?_)
            clear hK K
            refine norm_ (a' := ?_) ?_ ?_
            rotate_left
            ·show Act.put _ (some 7) _ = _
             simp only [Act.put, sA, sZ, sS, i64_w]
             rfl
            refine one_ (i := 12) (N := some 37) (bR [13, 3, 1, 2]) rfl rfl (one_of HT_.out (by kernel_rfl)) (by decide) (fun K hK => ?_)
            refine goes_ Try.func111 (by kernel_rfl) rfl #[.agg #[.int .i64 a1_0, .int .i64 a1_1], .agg #[.int .i64 ((rd_T130 l0 x6_1).f1), .int .i64 ((rd_T130 l0 x6_1).f2)]] (by rfl) rfl rfl (by (try simp only [mA, mC, mN]); first | done | rfl | (simp only [lD, lT]; rfl)) ?_
            with_reducible refine (spec_Meet.calls a1_0 a1_1 ((rd_T130 l0 x6_1).f1) ((rd_T130 l0 x6_1).f2) t168 t169 false _ A18.out).mono ?_
            rintro e w41 ⟨rfl, hb⟩
            refine ⟨_, rfl, ?_⟩
            have n0_ := Aside0.mk (Kd.R_below (qR HO_5) hb)
            have n1_ := Aside0.mk (blk_below (qK BK160) hb)
            have n2_ := Aside0.mk (blk_below (qK BK171) hb)
            have n3_ := Aside0.mk (below_step (by repeat first | (with_reducible first | exact HB.out | apply bA | apply bN | apply bD | refine bS ?_ GE160.out | refine bS ?_ GE171.out) | exact HB.out) hb)
            clear HO_5
            clear BK160
            clear BK171
            clear HB
            have HO_5 := n0_
            have BK160 := n1_
            have BK171 := n2_
            have HB := n3_
            clear n0_ n1_ n2_ n3_
            (try clear hb)
            (try clear hb2)
            (try clear hk)
            (try clear hi)
            refine hK.out _ _ ⟨cC BK160 0, cC BK160 1, ((HB.out.cell (World.block_lt_of_cell? w _ hw166_0)).trans hw166_0), ((HB.out.cell (World.block_lt_of_cell? w _ hw166_1)).trans hw166_1), ((HB.out.cell (World.block_lt_of_cell? w _ hw166_2)).trans hw166_2), ((HB.out.cell (World.block_lt_of_cell? w _ hw167_0)).trans hw167_0), ((HB.out.cell (World.block_lt_of_cell? w _ hw167_1)).trans hw167_1), ((HB.out.cell (World.block_lt_of_cell? w _ hw167_2)).trans hw167_2)⟩ (fun hHeld => ?_)
            clear hK K
            refine norm_ (a' := ?_) ?_ ?_
            rotate_left
            ·show Act.put _ (some 37) _ = _
             simp only [Act.put, sA, sZ, sS, i64_w]
             rfl
            refine pP 13 24 (bR [14, 2, 1, 2]) rfl rfl HT_ ?_
            refine pP 14 38 (bR [15, 1, 1, 2]) rfl rfl HT_ ?_
            refine pP 15 39 (bR [17, 2]) rfl rfl HT_ ?_
            exact norm_ (by simp only [putAll, Act.put, sA, sZ, sS]) (hCont (gb171) _ ⟨hHeld, (qR HO_5), (qK BK160), (qK BK171), GW171.out, GE171.out, NB160_171.out, NB171_160.out, (by repeat first | (with_reducible first | exact HB.out | apply bA | apply bN | apply bD | refine bS ?_ GE160.out | refine bS ?_ GE171.out) | exact HB.out)⟩)
          rintro gb171 w42 ⟨hS_, h0_, h1_, h2_, h3_, h4_, h5_, h6_, h7_⟩
          have n0_ : Aside0 (Kd.R (Kd.int .i64) 3 w42 w.heap.size (fun _ => True) u5 x5_1) := ⟨h0_⟩
          have n1_ : Aside0 (w42.heap[gb160]? = some (.cells #[.int .i64 a1_0, .int .i64 a1_1] 43 (0, 0))) := ⟨h1_⟩
          have n2_ : Aside0 (w42.heap[gb171]? = some (.cells #[.int .i64 0, .int .i64 0] 43 (0, 0))) := ⟨h2_⟩
          have n3_ : Aside0 (w.heap.size ≤ gb171) := ⟨h3_⟩
          have n4_ : Aside0 (w.heap.size ≤ gb171) := ⟨h4_⟩
          have n5_ : Aside0 (gb160 ≠ gb171) := ⟨h5_⟩
          have n6_ : Aside0 (gb171 ≠ gb160) := ⟨h6_⟩
          have n7_ : Aside0 (Below w.heap.size w w42) := ⟨h7_⟩
          clear HO_5
          clear BK160
          clear HB
          clear h0_ h1_ h2_ h3_ h4_ h5_ h6_ h7_
          have HO_5 := n0_
          have BK160 := n1_
          have BK171 := n2_
          have GW171 := n3_
          have GE171 := n4_
          have NB160_171 := n5_
          have NB171_160 := n6_
          have HB := n7_
          clear n0_ n1_ n2_ n3_ n4_ n5_ n6_ n7_
          have hHeld : w42.cell? ⟨gb160, 0, none⟩ = some (.int .i64 a1_0) ∧ w42.cell? ⟨gb160, 1, none⟩ = some (.int .i64 a1_1) ∧ w42.cell? (ad166.add ((x6_1).toNat * 3)) = some (.int .i64 ((rd_T130 l0 x6_1).f0)) ∧ w42.cell? ⟨(ad166.add ((x6_1).toNat * 3)).block, (ad166.add ((x6_1).toNat * 3)).off + 1, none⟩ = some (.int .i64 ((rd_T130 l0 x6_1).f1)) ∧ w42.cell? ⟨(ad166.add ((x6_1).toNat * 3)).block, (ad166.add ((x6_1).toNat * 3)).off + 2, none⟩ = some (.int .i64 ((rd_T130 l0 x6_1).f2)) ∧ w42.cell? (ad166.add ((x6_1).toNat * 3)) = some (.int .i64 ((rd_T130 l0 x6_1).f0)) ∧ w42.cell? ⟨(ad166.add ((x6_1).toNat * 3)).block, (ad166.add ((x6_1).toNat * 3)).off + 1, none⟩ = some (.int .i64 ((rd_T130 l0 x6_1).f1)) ∧ w42.cell? ⟨(ad166.add ((x6_1).toNat * 3)).block, (ad166.add ((x6_1).toNat * 3)).off + 2, none⟩ = some (.int .i64 ((rd_T130 l0 x6_1).f2)) := hS_
          refine norm_ (a' := ?_) ?_ ?_
          rotate_left; (simp only [putAll, Act.put, sA, sZ, sS]; rfl)
          refine one_ (i := 17) (N := none) (bR [18, 1]) rfl rfl (one_of HT_.out (by kernel_rfl)) (by decide) (fun K hK => ?_)
          have hs43 : w42.cell? ⟨gb171, 0, none⟩ = some (.int .i64 0) := cC BK171 0
          have hfs43 := blk_frozen BK171.out 0
          have hns43_0 := NB160_171.out
          have hms43_0 := NB171_160.out
          have hs44 : w42.cell? ⟨gb171, 1, none⟩ = some (.int .i64 0) := cC BK171 1
          have hfs44 := blk_frozen BK171.out 1
          have hns44_0 := NB160_171.out
          have hms44_0 := NB171_160.out
          refine skip_ (w1 := ?_) (by rfl) rfl ?_ ?_
          rotate_left
          ·go_simp
           rfl
          refine hK.out _ _ ⟨((cell_far (p := ⟨gb171, _, none⟩) NB160_171.out _).trans (((cell_far (p := ⟨gb171, _, none⟩) NB160_171.out _).trans (hHeld.1)))), ((cell_far (p := ⟨gb171, _, none⟩) NB160_171.out _).trans (((cell_far (p := ⟨gb171, _, none⟩) NB160_171.out _).trans (hHeld.2.1)))), ((cell_far (p := ⟨gb171, _, none⟩) (by first | exact Nat.ne_of_lt (Nat.lt_of_lt_of_le (by have := World.block_lt_of_cell? _ _ hw166_0; first | rwa [add_block] at this | exact this) GW171.out) | (rw [add_block]; exact Nat.ne_of_lt (Nat.lt_of_lt_of_le (by have := World.block_lt_of_cell? _ _ hw166_0; first | rwa [add_block] at this | exact this) GW171.out)) | (show (Addr.add _ _).block ≠ _; rw [add_block]; exact Nat.ne_of_lt (Nat.lt_of_lt_of_le (by have := World.block_lt_of_cell? _ _ hw166_0; first | rwa [add_block] at this | exact this) GW171.out)) | (dsimp only; exact Nat.ne_of_lt (Nat.lt_of_lt_of_le (by have := World.block_lt_of_cell? _ _ hw166_0; first | rwa [add_block] at this | exact this) GW171.out))) _).trans (((cell_far (p := ⟨gb171, _, none⟩) (by first | exact Nat.ne_of_lt (Nat.lt_of_lt_of_le (by have := World.block_lt_of_cell? _ _ hw166_0; first | rwa [add_block] at this | exact this) GW171.out) | (rw [add_block]; exact Nat.ne_of_lt (Nat.lt_of_lt_of_le (by have := World.block_lt_of_cell? _ _ hw166_0; first | rwa [add_block] at this | exact this) GW171.out)) | (show (Addr.add _ _).block ≠ _; rw [add_block]; exact Nat.ne_of_lt (Nat.lt_of_lt_of_le (by have := World.block_lt_of_cell? _ _ hw166_0; first | rwa [add_block] at this | exact this) GW171.out)) | (dsimp only; exact Nat.ne_of_lt (Nat.lt_of_lt_of_le (by have := World.block_lt_of_cell? _ _ hw166_0; first | rwa [add_block] at this | exact this) GW171.out))) _).trans (hHeld.2.2.1)))), ((cell_far (p := ⟨gb171, _, none⟩) (by first | exact Nat.ne_of_lt (Nat.lt_of_lt_of_le (by have := World.block_lt_of_cell? _ _ hw166_1; first | rwa [add_block] at this | exact this) GW171.out) | (rw [add_block]; exact Nat.ne_of_lt (Nat.lt_of_lt_of_le (by have := World.block_lt_of_cell? _ _ hw166_1; first | rwa [add_block] at this | exact this) GW171.out)) | (show (Addr.add _ _).block ≠ _; rw [add_block]; exact Nat.ne_of_lt (Nat.lt_of_lt_of_le (by have := World.block_lt_of_cell? _ _ hw166_1; first | rwa [add_block] at this | exact this) GW171.out)) | (dsimp only; exact Nat.ne_of_lt (Nat.lt_of_lt_of_le (by have := World.block_lt_of_cell? _ _ hw166_1; first | rwa [add_block] at this | exact this) GW171.out))) _).trans (((cell_far (p := ⟨gb171, _, none⟩) (by first | exact Nat.ne_of_lt (Nat.lt_of_lt_of_le (by have := World.block_lt_of_cell? _ _ hw166_1; first | rwa [add_block] at this | exact this) GW171.out) | (rw [add_block]; exact Nat.ne_of_lt (Nat.lt_of_lt_of_le (by have := World.block_lt_of_cell? _ _ hw166_1; first | rwa [add_block] at this | exact this) GW171.out)) | (show (Addr.add _ _).block ≠ _; rw [add_block]; exact Nat.ne_of_lt (Nat.lt_of_lt_of_le (by have := World.block_lt_of_cell? _ _ hw166_1; first | rwa [add_block] at this | exact this) GW171.out)) | (dsimp only; exact Nat.ne_of_lt (Nat.lt_of_lt_of_le (by have := World.block_lt_of_cell? _ _ hw166_1; first | rwa [add_block] at this | exact this) GW171.out))) _).trans (hHeld.2.2.2.1)))), ((cell_far (p := ⟨gb171, _, none⟩) (by first | exact Nat.ne_of_lt (Nat.lt_of_lt_of_le (by have := World.block_lt_of_cell? _ _ hw166_2; first | rwa [add_block] at this | exact this) GW171.out) | (rw [add_block]; exact Nat.ne_of_lt (Nat.lt_of_lt_of_le (by have := World.block_lt_of_cell? _ _ hw166_2; first | rwa [add_block] at this | exact this) GW171.out)) | (show (Addr.add _ _).block ≠ _; rw [add_block]; exact Nat.ne_of_lt (Nat.lt_of_lt_of_le (by have := World.block_lt_of_cell? _ _ hw166_2; first | rwa [add_block] at this | exact this) GW171.out)) | (dsimp only; exact Nat.ne_of_lt (Nat.lt_of_lt_of_le (by have := World.block_lt_of_cell? _ _ hw166_2; first | rwa [add_block] at this | exact this) GW171.out))) _).trans (((cell_far (p := ⟨gb171, _, none⟩) (by first | exact Nat.ne_of_lt (Nat.lt_of_lt_of_le (by have := World.block_lt_of_cell? _ _ hw166_2; first | rwa [add_block] at this | exact this) GW171.out) | (rw [add_block]; exact Nat.ne_of_lt (Nat.lt_of_lt_of_le (by have := World.block_lt_of_cell? _ _ hw166_2; first | rwa [add_block] at this | exact this) GW171.out)) | (show (Addr.add _ _).block ≠ _; rw [add_block]; exact Nat.ne_of_lt (Nat.lt_of_lt_of_le (by have := World.block_lt_of_cell? _ _ hw166_2; first | rwa [add_block] at this | exact this) GW171.out)) | (dsimp only; exact Nat.ne_of_lt (Nat.lt_of_lt_of_le (by have := World.block_lt_of_cell? _ _ hw166_2; first | rwa [add_block] at this | exact this) GW171.out))) _).trans (hHeld.2.2.2.2.1)))), ((cell_far (p := ⟨gb171, _, none⟩) (by first | exact Nat.ne_of_lt (Nat.lt_of_lt_of_le (by have := World.block_lt_of_cell? _ _ hw167_0; first | rwa [add_block] at this | exact this) GW171.out) | (rw [add_block]; exact Nat.ne_of_lt (Nat.lt_of_lt_of_le (by have := World.block_lt_of_cell? _ _ hw167_0; first | rwa [add_block] at this | exact this) GW171.out)) | (show (Addr.add _ _).block ≠ _; rw [add_block]; exact Nat.ne_of_lt (Nat.lt_of_lt_of_le (by have := World.block_lt_of_cell? _ _ hw167_0; first | rwa [add_block] at this | exact this) GW171.out)) | (dsimp only; exact Nat.ne_of_lt (Nat.lt_of_lt_of_le (by have := World.block_lt_of_cell? _ _ hw167_0; first | rwa [add_block] at this | exact this) GW171.out))) _).trans (((cell_far (p := ⟨gb171, _, none⟩) (by first | exact Nat.ne_of_lt (Nat.lt_of_lt_of_le (by have := World.block_lt_of_cell? _ _ hw167_0; first | rwa [add_block] at this | exact this) GW171.out) | (rw [add_block]; exact Nat.ne_of_lt (Nat.lt_of_lt_of_le (by have := World.block_lt_of_cell? _ _ hw167_0; first | rwa [add_block] at this | exact this) GW171.out)) | (show (Addr.add _ _).block ≠ _; rw [add_block]; exact Nat.ne_of_lt (Nat.lt_of_lt_of_le (by have := World.block_lt_of_cell? _ _ hw167_0; first | rwa [add_block] at this | exact this) GW171.out)) | (dsimp only; exact Nat.ne_of_lt (Nat.lt_of_lt_of_le (by have := World.block_lt_of_cell? _ _ hw167_0; first | rwa [add_block] at this | exact this) GW171.out))) _).trans (hHeld.2.2.2.2.2.1)))), ((cell_far (p := ⟨gb171, _, none⟩) (by first | exact Nat.ne_of_lt (Nat.lt_of_lt_of_le (by have := World.block_lt_of_cell? _ _ hw167_1; first | rwa [add_block] at this | exact this) GW171.out) | (rw [add_block]; exact Nat.ne_of_lt (Nat.lt_of_lt_of_le (by have := World.block_lt_of_cell? _ _ hw167_1; first | rwa [add_block] at this | exact this) GW171.out)) | (show (Addr.add _ _).block ≠ _; rw [add_block]; exact Nat.ne_of_lt (Nat.lt_of_lt_of_le (by have := World.block_lt_of_cell? _ _ hw167_1; first | rwa [add_block] at this | exact this) GW171.out)) | (dsimp only; exact Nat.ne_of_lt (Nat.lt_of_lt_of_le (by have := World.block_lt_of_cell? _ _ hw167_1; first | rwa [add_block] at this | exact this) GW171.out))) _).trans (((cell_far (p := ⟨gb171, _, none⟩) (by first | exact Nat.ne_of_lt (Nat.lt_of_lt_of_le (by have := World.block_lt_of_cell? _ _ hw167_1; first | rwa [add_block] at this | exact this) GW171.out) | (rw [add_block]; exact Nat.ne_of_lt (Nat.lt_of_lt_of_le (by have := World.block_lt_of_cell? _ _ hw167_1; first | rwa [add_block] at this | exact this) GW171.out)) | (show (Addr.add _ _).block ≠ _; rw [add_block]; exact Nat.ne_of_lt (Nat.lt_of_lt_of_le (by have := World.block_lt_of_cell? _ _ hw167_1; first | rwa [add_block] at this | exact this) GW171.out)) | (dsimp only; exact Nat.ne_of_lt (Nat.lt_of_lt_of_le (by have := World.block_lt_of_cell? _ _ hw167_1; first | rwa [add_block] at this | exact this) GW171.out))) _).trans (hHeld.2.2.2.2.2.2.1)))), ((cell_far (p := ⟨gb171, _, none⟩) (by first | exact Nat.ne_of_lt (Nat.lt_of_lt_of_le (by have := World.block_lt_of_cell? _ _ hw167_2; first | rwa [add_block] at this | exact this) GW171.out) | (rw [add_block]; exact Nat.ne_of_lt (Nat.lt_of_lt_of_le (by have := World.block_lt_of_cell? _ _ hw167_2; first | rwa [add_block] at this | exact this) GW171.out)) | (show (Addr.add _ _).block ≠ _; rw [add_block]; exact Nat.ne_of_lt (Nat.lt_of_lt_of_le (by have := World.block_lt_of_cell? _ _ hw167_2; first | rwa [add_block] at this | exact this) GW171.out)) | (dsimp only; exact Nat.ne_of_lt (Nat.lt_of_lt_of_le (by have := World.block_lt_of_cell? _ _ hw167_2; first | rwa [add_block] at this | exact this) GW171.out))) _).trans (((cell_far (p := ⟨gb171, _, none⟩) (by first | exact Nat.ne_of_lt (Nat.lt_of_lt_of_le (by have := World.block_lt_of_cell? _ _ hw167_2; first | rwa [add_block] at this | exact this) GW171.out) | (rw [add_block]; exact Nat.ne_of_lt (Nat.lt_of_lt_of_le (by have := World.block_lt_of_cell? _ _ hw167_2; first | rwa [add_block] at this | exact this) GW171.out)) | (show (Addr.add _ _).block ≠ _; rw [add_block]; exact Nat.ne_of_lt (Nat.lt_of_lt_of_le (by have := World.block_lt_of_cell? _ _ hw167_2; first | rwa [add_block] at this | exact this) GW171.out)) | (dsimp only; exact Nat.ne_of_lt (Nat.lt_of_lt_of_le (by have := World.block_lt_of_cell? _ _ hw167_2; first | rwa [add_block] at this | exact this) GW171.out))) _).trans (hHeld.2.2.2.2.2.2.2))))⟩ (fun hHeld => ?_)
          clear hK K
          refine pP 18 8 (bR [19]) rfl rfl HT_ ?_
          refine done_ (done_of HT_.out (by kernel_rfl)) ?_
          try go_wp2
          go_roundg kj5
          case measure => have := HK1.out; have := HJ5.out; omega
          case rel => exact ⟨(x5_1), (wrap64 (x6_1 + 1)), (by first | rfl | (simp; done) | (simp [*]; done)), H', ⟨by have := HK1.out; have := HJ5.out; omega⟩, ⟨by (with_reducible repeat first | apply rA | apply rN | apply rD); exact Kd.R_mono (Kd.R_far (p := ⟨gb171, 1, none⟩) (Kd.R_far (p := ⟨gb171, 0, none⟩) (Kd.R_types HO_5.out BK171.out (by decide)) (fun _ hk => hk.2) (.int .i64 t168)) (fun _ hk => hk.2) (.int .i64 t169)) (fun _ hk => trivial)⟩, ⟨by (with_reducible repeat first | refine kN ?_ _ | refine kD ?_ | refine kA ?_ _); refine blk_far ?_ NB160_171.out _; (with_reducible repeat first | refine kN ?_ _ | refine kD ?_ | refine kA ?_ _); refine blk_far ?_ NB160_171.out _; (with_reducible repeat first | refine kN ?_ _ | refine kD ?_ | refine kA ?_ _); exact BK160.out⟩, ⟨by repeat (first | (with_reducible first | exact HB.out | apply bA | apply bN | apply bD | refine bS ?_ GE160.out | refine bS ?_ GE171.out) | exact HB.out)⟩⟩
       ·rw [if_neg c17] at H
        exact absurd H (by simp)
      ·rw [if_neg c16] at H
       exact absurd H (by simp)
     ·replace c15 := Bool.eq_false_iff.mpr c15
      subst c15
      have H1 : (some x5_1) = some r := by rw [if_neg (show ¬ (false = true) by decide)] at H; exact H
      clear H
      have H := H1
      clear H1
      obtain rfl := Option.some.inj H
      go_wp2
      go_ret
      exact ⟨_, by first | rfl | (simp [errW_none, errW_some] <;> rfl) | (simp [*, errW_none, errW_some] <;> rfl), by (with_reducible repeat first | apply rA | apply rN | apply rD); exact HO_5.out, by repeat (first | (with_reducible first | exact HB.out | apply bA | apply bN | apply bD | refine bS ?_ GE160.out) | exact HB.out)⟩

end Go.Proofs.Ytkfalbaklodnjaa.PFnExactLeftBetween
