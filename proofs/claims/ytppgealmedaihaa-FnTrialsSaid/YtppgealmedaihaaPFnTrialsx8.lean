-- The printed functions of one law and their contracts, over contracts of this session's own (hand.py).
import Derived.Test.YtppgealmedaihaaPFnTrialsx0
import Derived.Test.YtppgealmedaihaaPFnTrialsx4
import Derived.Test.YtppgealmedaihaaPFnTrialsx5
import Derived.Test.YtppgealmedaihaaPFnTrialsx7
namespace Go.Proofs.Ytppgealmedaihaa.PFnTrials
open Go.RowKit Go.Proofs.YtppgealmedaihaaW.PrintWords Go.Proofs.YtppgealmedaihaaW.PrintLast Go.Proofs.YtppgealmedaihaaW.PrintMore Go.Proofs.Ytppgealmedaihaa.Short
attribute [local go_sem] max2_int min2_int max_two min_two max_three min_three max_four min_four   -- for this text's walks alone
set_option linter.unusedVariables false
set_option linter.unusedSimpArgs false

/-! ### spec_Hash: function 197 -/
def spec_Hash.l0 : Nat → List Int → Int → Int → Option (Int)
 | 0, _, _, _ => none
 | k + 1, x0, x3, x4 => if x4 < (x0.length : Int) then (if 0 ≤ x4 then ((spec_Mod.f (rd x0 x4) 2147483647).bind fun t291 => (spec_Hash.l0 k x0 (Int.tmod (wrap64 ((wrap64 ((wrap64 (x3 * 1000003)) + t291)) + 13)) 2147483647) (wrap64 (x4 + 1)))) else (none)) else (some x3)
def spec_Hash.f (k : Nat) (l0 : List Int) : Option (Int) := spec_Hash.l0 k l0 11 0
theorem spec_Hash.mono_l : ∀ k, (∀ y0 y1 y2, LeO (spec_Hash.l0 k y0 y1 y2) (spec_Hash.l0 (k + 1) y0 y1 y2))
 | 0 => fun _ _ _ r h => by simp [spec_Hash.l0] at h
 | k + 1 => by
  have ih0 := spec_Hash.mono_l k
  ·intro y0 y1 y2
   unfold spec_Hash.l0
   repeat' first
   | (with_reducible exact ih0 _ _ _)
   | (with_reducible exact LeO.refl _)
   | (with_reducible exact LeO.none _)
   | (with_reducible refine LeO.ite ?_ ?_)
   | (with_reducible refine LeO.bind ?_ (fun _ => ?_))
   | exact ih0 _ _ _
   | exact LeO.none _
   | refine LeO.ite ?_ ?_
   | refine LeO.bind ?_ (fun _ => ?_)
theorem spec_Hash.mono : ∀ a0 k, LeO (spec_Hash.f k a0) (spec_Hash.f (k + 1) a0) := by
 intro a0 k
 have ih0 := spec_Hash.mono_l k
 unfold spec_Hash.f
 repeat' first
   | (with_reducible exact ih0 _ _ _)
   | (with_reducible exact LeO.refl _)
   | (with_reducible exact LeO.none _)
   | (with_reducible refine LeO.ite ?_ ?_)
   | (with_reducible refine LeO.bind ?_ (fun _ => ?_))
   | exact ih0 _ _ _
   | exact LeO.none _
   | refine LeO.ite ?_ ?_
   | refine LeO.bind ?_ (fun _ => ?_)
set_option maxHeartbeats 8000000 in
set_option maxRecDepth 100000 in
theorem spec_Hash.calls (k : Nat) (A0 : Option Addr) (c0 : Nat) (l0 : List Int) (r : Int) (w : World) (hr0 : Kd.C (Kd.int .i64) w A0 l0.length l0) (hc0 : l0.length ≤ c0) (h : spec_Hash.f k l0 = some r) :
  Calls Try.prog 197 #[.slice A0 l0.length c0] w fun e w' => e = .returned (.int .i64 r) ∧ Drawn0 w w' := by
 have HR0 := Aside0.mk hr0
 have HC0 := Aside0.mk hc0
 clear hr0 hc0
 have H : (spec_Hash.l0 k l0 11 0) = some r := h
 clear h
 have H' := Aside0.mk H
 clear H
 go_enter Try.func197, Try.ntmps197
 go_wp2
 go_loopg [3, 4] k (fun kq v3 v4 w' => ∃ (x3_1 : Int) (x4_1 : Int), v3 = .int .i64 x3_1 ∧ v4 = .int .i64 x4_1 ∧ Aside0 (spec_Hash.l0 kq l0 x3_1 x4_1 = some r) ∧ Aside0 (kq ≤ k) ∧ Drawn0 w w')
 case atStart => exact ⟨(11), (0), (by first | rfl | (simp; done) | (simp [*]; done)), (by first | rfl | (simp; done) | (simp [*]; done)), H', ⟨Nat.le_refl _⟩, by repeat (first | exact Drawn0.refl _ | apply Drawn0.step)⟩
 case round =>
  clear H'
  try clear c1
  obtain ⟨x3_1, x4_1, rfl, rfl, HA, HK1, ⟨m1, rfl⟩⟩ := hrel
  cases gk with
  | zero => exact absurd HA.out (by simp [spec_Hash.l0])
  | succ k1 =>
   have H := HA.out
   clear HA
   simp only [spec_Hash.l0] at H
   by_cases c2 : x4_1 < (l0.length : Int)
   ·rw [if_pos c2] at H
    have c2b0 : decide (x4_1 < (l0.length : Int)) = true := decide_eq_true c2
    clear c2
    by_cases c3 : 0 ≤ x4_1
    ·rw [if_pos c3] at H
     have c3b0 : decide (0 ≤ x4_1) = true := decide_eq_true c3
     clear c3
     replace H := Option.bind_eq_some_iff.mp H
     obtain ⟨t291, A40, H⟩ := H
     replace H : (spec_Hash.l0 k1 l0 (Int.tmod (wrap64 ((wrap64 ((wrap64 (x3_1 * 1000003)) + t291)) + 13)) 2147483647) (wrap64 (x4_1 + 1))) = some r := H
     have A4 := Aside0.mk A40
     clear A40
     have H' := Aside0.mk H
     clear H
     have p290 : 0 ≤ (x4_1 : Int) := of_decide_eq_true ‹_›
     have q290 : x4_1 < (l0.length : Int) := of_decide_eq_true ‹_›
     obtain ⟨ad290, e290, hx290_0⟩ := Kd.at_int HR0.out x4_1 p290 q290
     cases e290
     replace p290 := eq_true p290
     replace q290 := eq_true q290
     go_wp2_with (first | ((with_reducible refine gate_callee (f := 196) rfl ?_); refine goesL_ (some 17) rfl rfl Try.func196 (by kernel_rfl) rfl #[.int .i64 (rd l0 x4_1), .int .i64 2147483647] rfl (by (try simp only [mA, mC, mN]); first | done | rfl | (simp only [lD, lT]; rfl)) ?_; (with_reducible refine (spec_Mod.calls (rd l0 x4_1) 2147483647 t291 _ A4.out).mono ?_); rintro e w' ⟨rfl, ⟨nd, rfl⟩⟩; refine ⟨_, rfl, ?_⟩))
     go_roundg k1
     case measure => have := HK1.out; omega
     case rel => exact ⟨(Int.tmod (wrap64 ((wrap64 ((wrap64 (x3_1 * 1000003)) + t291)) + 13)) 2147483647), (wrap64 (x4_1 + 1)), (by first | rfl | (simp; done) | (simp [*]; done)), (by first | rfl | (simp; done) | (simp [*]; done)), H', ⟨by have := HK1.out; omega⟩, by repeat (first | exact Drawn0.refl _ | apply Drawn0.step)⟩
    ·rw [if_neg c3] at H
     exact absurd H (by simp)
   ·rw [if_neg c2] at H
    have c2b0 : decide (x4_1 < (l0.length : Int)) = false := decide_eq_false c2
    clear c2
    obtain rfl := Option.some.inj H
    go_wp2
    go_ret
    exact ⟨by first | rfl | (simp; done) | (simp [*]; done), by repeat (first | exact Drawn0.refl _ | apply Drawn0.step)⟩

/-! ### spec_QuestionFor: function 172 -/
def spec_QuestionFor.j0 : Nat → List (S62) → Int → Int → Bool → Option (Int)
 | 0, _, _, _, _ => none
 | k + 1, x0, x1, x2, x19 => if x19 = true then (some 0) else ((spec_Hash.f k (([x1] : List Int))).bind fun t297 => ((spec_Mod.f t297 (x0.length : Int)).bind fun t298 => (if (x0.length : Int) = 0 then (none) else (if 0 ≤ (Int.tmod (wrap64 (t298 + x2)) (x0.length : Int)) then (if (Int.tmod (wrap64 (t298 + x2)) (x0.length : Int)) < (x0.length : Int) then (some ((rd_T62 x0 (Int.tmod (wrap64 (t298 + x2)) (x0.length : Int))).f0)) else (none)) else (none)))))
def spec_QuestionFor.f (k : Nat) (l0 : List (S62)) (a1 : Int) (a2 : Int) : Option (Int) := if (l0.length : Int) = 0 then (spec_QuestionFor.j0 k l0 a1 a2 true) else ((spec_AreMarks.f k l0).bind fun t292 => (if t292 = true then ((spec_l1In.f a2 0 1000).bind fun t293 => (spec_QuestionFor.j0 k l0 a1 a2 (!t293))) else (spec_QuestionFor.j0 k l0 a1 a2 true)))
theorem spec_QuestionFor.mono_l : ∀ k, (∀ y0 y1 y2 y3, LeO (spec_QuestionFor.j0 k y0 y1 y2 y3) (spec_QuestionFor.j0 (k + 1) y0 y1 y2 y3))
 | 0 => fun _ _ _ _ r h => by simp [spec_QuestionFor.j0] at h
 | k + 1 => by
  have ih0 := spec_QuestionFor.mono_l k
  ·intro y0 y1 y2 y3
   unfold spec_QuestionFor.j0
   repeat' first
   | (with_reducible exact ih0 _ _ _ _)
   | (with_reducible exact spec_AreMarks.mono _ _)
   | (with_reducible exact spec_Hash.mono _ _)
   | (with_reducible exact LeO.refl _)
   | (with_reducible exact LeO.none _)
   | (with_reducible refine LeO.ite ?_ ?_)
   | (with_reducible refine LeO.bind ?_ (fun _ => ?_))
   | exact ih0 _ _ _ _
   | exact spec_AreMarks.mono _ _
   | exact spec_Hash.mono _ _
   | exact LeO.none _
   | refine LeO.ite ?_ ?_
   | refine LeO.bind ?_ (fun _ => ?_)
theorem spec_QuestionFor.mono : ∀ a0 a1 a2 k, LeO (spec_QuestionFor.f k a0 a1 a2) (spec_QuestionFor.f (k + 1) a0 a1 a2) := by
 intro a0 a1 a2 k
 have ih0 := spec_QuestionFor.mono_l k
 unfold spec_QuestionFor.f
 repeat' first
   | (with_reducible exact ih0 _ _ _ _)
   | (with_reducible exact spec_AreMarks.mono _ _)
   | (with_reducible exact spec_Hash.mono _ _)
   | (with_reducible exact LeO.refl _)
   | (with_reducible exact LeO.none _)
   | (with_reducible refine LeO.ite ?_ ?_)
   | (with_reducible refine LeO.bind ?_ (fun _ => ?_))
   | exact ih0 _ _ _ _
   | exact spec_AreMarks.mono _ _
   | exact spec_Hash.mono _ _
   | exact LeO.none _
   | refine LeO.ite ?_ ?_
   | refine LeO.bind ?_ (fun _ => ?_)
set_option maxHeartbeats 8000000 in
set_option maxRecDepth 100000 in
theorem spec_QuestionFor.calls (k : Nat) (A0 : Option Addr) (c0 : Nat) (l0 : List (S62)) (a1 : Int) (a2 : Int) (r : Int) (w : World) (hr0 : Kd.C k62 w A0 l0.length l0) (hc0 : l0.length ≤ c0) (h : spec_QuestionFor.f k l0 a1 a2 = some r) :
  Calls Try.prog 172 #[.slice A0 l0.length c0, .int .i64 a1, .int .i64 a2] w fun e w' => e = .returned (.int .i64 r) ∧ Below w.heap.size w w' := by
 have HR0 := Aside0.mk hr0
 have HC0 := Aside0.mk hc0
 clear hr0 hc0
 have HB := Aside0.mk (Below.refl w.heap.size w)
 have H : (if (l0.length : Int) = 0 then (spec_QuestionFor.j0 k l0 a1 a2 true) else ((spec_AreMarks.f k l0).bind fun t292 => (if t292 = true then ((spec_l1In.f a2 0 1000).bind fun t293 => (spec_QuestionFor.j0 k l0 a1 a2 (!t293))) else (spec_QuestionFor.j0 k l0 a1 a2 true)))) = some r := h
 clear h
 have HC4 := Aside0.mk H
 clear H
 go_enter Try.func172, Try.ntmps172
 go_upto_region 1 with (fail)
 go_cut [19] (fun v19 wc => ∃ (kq : Nat) (x19_3 : Bool), v19 = .bool x19_3 ∧ Aside0 (spec_QuestionFor.j0 kq l0 a1 a2 x19_3 = some r) ∧ Aside0 (kq ≤ k) ∧ Aside0 (Below w.heap.size w wc))
 case first =>
  have H := HC4.out
  clear HC4
  by_cases c5 : (l0.length : Int) = 0
  ·rw [if_pos c5] at H
   have c5b0 : ((l0.length : Int) == 0) = true := beq_iff_eq.mpr c5
   have c5b1 : ((l0.length : Int) != 0) = false := bne_eq_false_iff_eq.mpr c5
   clear c5
   (first | rw [c5b0] | (simp only [i64_w, i32_w]; rw [c5b0]) | skip)
   have H' := Aside0.mk H
   clear H
   go_wp2
   go_meet
   case rel => exact ⟨_, (true), (by first | rfl | (simp; done) | (simp [*]; done)), H', ⟨by first | omega | exact Nat.le_refl _⟩, ⟨by repeat (first | (with_reducible first | exact HB.out | apply bA | apply bN | apply bD) | exact HB.out)⟩⟩
  ·rw [if_neg c5] at H
   have c5b0 : ((l0.length : Int) == 0) = false := beq_eq_false_iff_ne.mpr c5
   have c5b1 : ((l0.length : Int) != 0) = true := bne_iff_ne.mpr c5
   have c5b2 : ¬ (l0 = []) := fun h_ => c5 (by rw [h_]; rfl)
   (first | rw [c5b0] | (simp only [i64_w, i32_w]; rw [c5b0]) | skip)
   replace H := Option.bind_eq_some_iff.mp H
   obtain ⟨t292, A60, H⟩ := H
   replace H : (if t292 = true then ((spec_l1In.f a2 0 1000).bind fun t293 => (spec_QuestionFor.j0 k l0 a1 a2 (!t293))) else (spec_QuestionFor.j0 k l0 a1 a2 true)) = some r := H
   have A6 := Aside0.mk A60
   clear A60
   by_cases c7 : t292 = true
   ·subst c7
    have H1 : ((spec_l1In.f a2 0 1000).bind fun t293 => (spec_QuestionFor.j0 k l0 a1 a2 (!t293))) = some r := by rw [if_pos rfl] at H; exact H
    clear H
    have H := H1
    clear H1
    replace H := Option.bind_eq_some_iff.mp H
    obtain ⟨t293, A80, H⟩ := H
    replace H : (spec_QuestionFor.j0 k l0 a1 a2 (!t293)) = some r := H
    have A8 := Aside0.mk A80
    clear A80
    have H' := Aside0.mk H
    clear H
    go_wp2_with (first | (go_at_call 194; (with_reducible refine (spec_AreMarks.calls k _ _ l0 true _ ?side1 ?side2 A6.out).mono ?_); (case side1 => exact qC (Kd.C_below HR0.out HB.out)); (case side2 => exact HC0.out); rintro e w9 ⟨rfl, hb⟩; have n0_ := Aside0.mk (below_step (qB HB) hb); clear HB; have HB := n0_; clear n0_; (try clear hb); (try clear hb2); (try clear hk); (try clear hi)) | (go_at_call 151; (with_reducible refine (spec_l1In.calls a2 0 1000 t293 _ A8.out).mono ?_); rintro e w' ⟨rfl, ⟨nd, rfl⟩⟩))
    go_meet
    case rel => exact ⟨_, (!t293), (by first | rfl | (simp; done) | (simp [*]; done)), H', ⟨by first | omega | exact Nat.le_refl _⟩, ⟨by repeat (first | (with_reducible first | exact HB.out | apply bA | apply bN | apply bD) | exact HB.out)⟩⟩
   ·replace c7 := Bool.eq_false_iff.mpr c7
    subst c7
    have H1 : (spec_QuestionFor.j0 k l0 a1 a2 true) = some r := by rw [if_neg (show ¬ (false = true) by decide)] at H; exact H
    clear H
    have H := H1
    clear H1
    have H' := Aside0.mk H
    clear H
    go_wp2_with (first | (go_at_call 194; (with_reducible refine (spec_AreMarks.calls k _ _ l0 false _ ?side1 ?side2 A6.out).mono ?_); (case side1 => exact qC (Kd.C_below HR0.out HB.out)); (case side2 => exact HC0.out); rintro e w10 ⟨rfl, hb⟩; have n0_ := Aside0.mk (below_step (qB HB) hb); clear HB; have HB := n0_; clear n0_; (try clear hb); (try clear hb2); (try clear hk); (try clear hi)))
    go_meet
    case rel => exact ⟨_, (true), (by first | rfl | (simp; done) | (simp [*]; done)), H', ⟨by first | omega | exact Nat.le_refl _⟩, ⟨by repeat (first | (with_reducible first | exact HB.out | apply bA | apply bN | apply bD) | exact HB.out)⟩⟩
 case rest =>
  clear HC4
  try clear c1
  try clear p2
  try clear c5
  try clear c5b0
  try clear c5b1
  try clear c5b2
  try clear c7
  obtain ⟨kq, x19_3, rfl, HA, HJ3, HB⟩ := hcut
  cases kq with
  | zero => exact absurd HA.out (by simp [spec_QuestionFor.j0])
  | succ kj3 =>
   have H := HA.out
   clear HA
   simp only [spec_QuestionFor.j0] at H
   by_cases c11 : x19_3 = true
   ·subst c11
    have H1 : (some 0) = some r := by rw [if_pos rfl] at H; exact H
    clear H
    have H := H1
    clear H1
    obtain rfl := Option.some.inj H
    go_wp2
    go_ret
    exact ⟨by first | rfl | (simp [errW_none, errW_some] <;> rfl) | (simp [*, errW_none, errW_some] <;> rfl), by repeat (first | (with_reducible first | exact HB.out | apply bA | apply bN | apply bD) | exact HB.out)⟩
   ·replace c11 := Bool.eq_false_iff.mpr c11
    subst c11
    have H1 : ((spec_Hash.f kj3 (([a1] : List Int))).bind fun t297 => ((spec_Mod.f t297 (l0.length : Int)).bind fun t298 => (if (l0.length : Int) = 0 then (none) else (if 0 ≤ (Int.tmod (wrap64 (t298 + a2)) (l0.length : Int)) then (if (Int.tmod (wrap64 (t298 + a2)) (l0.length : Int)) < (l0.length : Int) then (some ((rd_T62 l0 (Int.tmod (wrap64 (t298 + a2)) (l0.length : Int))).f0)) else (none)) else (none))))) = some r := by rw [if_neg (show ¬ (false = true) by decide)] at H; exact H
    clear H
    have H := H1
    clear H1
    obtain ⟨y294, hy294⟩ : ∃ y_ : List Int, y_ = (([a1] : List Int)) := ⟨_, rfl⟩
    replace H : ((spec_Hash.f kj3 y294).bind fun t297 => ((spec_Mod.f t297 (l0.length : Int)).bind fun t298 => (if (l0.length : Int) = 0 then (none) else (if 0 ≤ (Int.tmod (wrap64 (t298 + a2)) (l0.length : Int)) then (if (Int.tmod (wrap64 (t298 + a2)) (l0.length : Int)) < (l0.length : Int) then (some ((rd_T62 l0 (Int.tmod (wrap64 (t298 + a2)) (l0.length : Int))).f0)) else (none)) else (none))))) = some r := by first | (rw [hy294]; with_reducible exact H) | (have H2_ := (Option.bind_some _ _).symm.trans H; rw [hy294]; with_reducible exact H2_) | (have H2_ := (Option.bind_some _ _).symm.trans H; with_reducible exact H2_) | with_reducible exact H | (rw [hy294]; exact H) | exact H
    have Ny294 := Aside0.mk hy294
    clear hy294
    replace H := Option.bind_eq_some_iff.mp H
    obtain ⟨t297, A120, H⟩ := H
    replace H : ((spec_Mod.f t297 (l0.length : Int)).bind fun t298 => (if (l0.length : Int) = 0 then (none) else (if 0 ≤ (Int.tmod (wrap64 (t298 + a2)) (l0.length : Int)) then (if (Int.tmod (wrap64 (t298 + a2)) (l0.length : Int)) < (l0.length : Int) then (some ((rd_T62 l0 (Int.tmod (wrap64 (t298 + a2)) (l0.length : Int))).f0)) else (none)) else (none)))) = some r := H
    have A12 := Aside0.mk A120
    clear A120
    replace H := Option.bind_eq_some_iff.mp H
    obtain ⟨t298, A130, H⟩ := H
    replace H : (if (l0.length : Int) = 0 then (none) else (if 0 ≤ (Int.tmod (wrap64 (t298 + a2)) (l0.length : Int)) then (if (Int.tmod (wrap64 (t298 + a2)) (l0.length : Int)) < (l0.length : Int) then (some ((rd_T62 l0 (Int.tmod (wrap64 (t298 + a2)) (l0.length : Int))).f0)) else (none)) else (none))) = some r := H
    have A13 := Aside0.mk A130
    clear A130
    by_cases c14 : (l0.length : Int) = 0
    ·rw [if_pos c14] at H
     exact absurd H (by simp)
    ·rw [if_neg c14] at H
     have c14b0 : ((l0.length : Int) == 0) = false := beq_eq_false_iff_ne.mpr c14
     have c14b1 : ((l0.length : Int) != 0) = true := bne_iff_ne.mpr c14
     have c14b2 : ¬ (l0 = []) := fun h_ => c14 (by rw [h_]; rfl)
     obtain ⟨ji15, hji15⟩ : ∃ j_ : Int, (Int.tmod (wrap64 (t298 + a2)) (l0.length : Int)) = j_ := ⟨_, rfl⟩
     replace H : (if 0 ≤ (ji15) then (if (ji15) < (l0.length : Int) then (some ((rd_T62 l0 (ji15)).f0)) else (none)) else (none)) = some r := by first | (rw [hji15] at H; exact H) | (simp only [hji15] at H ⊢; exact H)
     (try rw [hji15] at A12)
     (try rw [hji15] at A13)
     by_cases c16 : 0 ≤ (ji15)
     ·rw [if_pos c16] at H
      have c16b0 : decide (0 ≤ (ji15)) = true := decide_eq_true c16
      clear c16
      by_cases c17 : (ji15) < (l0.length : Int)
      ·rw [if_pos c17] at H
       have c17b0 : decide ((ji15) < (l0.length : Int)) = true := decide_eq_true c17
       clear c17
       obtain rfl := Option.some.inj H
       go_wp2_with (first | ((with_reducible refine gate_dst (N := 22) rfl ?_); refine Kd.R_lit (Kd.int .i64) _ 3 ?hg (N := 22) ?hd (xs := ([a1] : List Int)) (inner := [.int .i64 a1]) (ok := fun _ => True) (okp := fun _ => True) ?hr ?hp (fun _ hk => hk) trivial (Below.refl _ _) (Nat.le_refl _) (by simp) ?_; (case hd => rfl); (case hg => rfl); (case hr => first | (go_simp; done) | (go_simp; rfl)); (case hp => exact (Reps.one (show Kd.M (Kd.int .i64) _ _ _ a1 [.int .i64 a1] from rfl) (Reps.none _ _))); intro v295 w18 ho19 hb hg_ hnew_; clear hg_ hnew_; (first | rw [← Ny294.out] at ho19 | (simp only [Int.reduceToNat] at ho19; rw [← Ny294.out] at ho19)); have n0_ := Aside0.mk (Kd.R_lower ho19 (below_size (qB HB))); have n1_ := Aside0.mk (below_step (qB HB) hb); clear HB; have HO296 := n0_; have HB := n1_; clear n0_ n1_; clear hb ho19; obtain ⟨Ao20, co20, eo20⟩ := Kd.R_slice HO296.out; subst eo20) | ((with_reducible refine gate_callee (f := 197) rfl ?_); refine goesL_ (some 23) rfl rfl Try.func197 (by kernel_rfl) rfl #[.slice Ao20 y294.length co20] rfl (by (try simp only [mA, mC, mN]); first | done | rfl | (simp only [lD, lT]; rfl)) ?_; (with_reducible refine (spec_Hash.calls kj3 _ _ y294 t297 _ ?side1 ?side2 A12.out).mono ?_); (case side1 => repeat (first | exact (Kd.R_reads' HO296.out).2.2 | (with_reducible refine Kd.C_alloc ?_ _) | (with_reducible refine Kd.C_drewN ?_ _) | (with_reducible refine Kd.C_drew ?_))); (case side2 => exact (Kd.R_reads' HO296.out).2.1); rintro e w' ⟨rfl, ⟨nd, rfl⟩⟩; refine ⟨_, rfl, ?_⟩) | ((with_reducible refine gate_callee (f := 196) rfl ?_); refine goesL_ (some 26) rfl rfl Try.func196 (by kernel_rfl) rfl #[.int .i64 t297, .int .i64 (l0.length : Int)] rfl (by (try simp only [mA, mC, mN]); first | done | rfl | (simp only [lD, lT]; rfl)) ?_; (with_reducible refine (spec_Mod.calls t297 (l0.length : Int) t298 _ A13.out).mono ?_); rintro e w' ⟨rfl, ⟨nd, rfl⟩⟩; refine ⟨_, rfl, ?_⟩; have p299 : 0 ≤ ((ji15) : Int) := of_decide_eq_true ‹_›; have q299 : (ji15) < (l0.length : Int) := of_decide_eq_true ‹_›; obtain ⟨ad299, e299, hx299_0, hx299_1⟩ := at_T62 HR0.out (ji15) p299 q299; cases e299; replace hx299_0 := (HB.out.cell (World.block_lt_of_cell? w _ hx299_0)).trans hx299_0; replace hx299_1 := (HB.out.cell (World.block_lt_of_cell? w _ hx299_1)).trans hx299_1; replace p299 := eq_true p299; replace q299 := eq_true q299))
       go_ret
       exact ⟨by first | rfl | (simp [errW_none, errW_some] <;> rfl) | (simp only [← hji15]; first | rfl | (simp [errW_none, errW_some] <;> rfl)) | (simp [*, errW_none, errW_some] <;> rfl), by repeat (first | (with_reducible first | exact HB.out | apply bA | apply bN | apply bD) | exact HB.out)⟩
      ·rw [if_neg c17] at H
       exact absurd H (by simp)
     ·rw [if_neg c16] at H
      exact absurd H (by simp)

/-! ### spec_NextQuestion: function 120 -/
def spec_NextQuestion.f (k : Nat) (l0 : List (S62)) (a1_0 : Int) (a1_1 : Int) (a1_2 : Int) (a1_3 : Int) : Option (Int) := (spec_TrialState.f k l0 a1_0 a1_1 a1_2 a1_3).bind fun t301 => (if t301 = 0 then ((spec_QuestionFor.f k l0 a1_0 a1_1).bind fun t302 => (some t302)) else (some 0))
theorem spec_NextQuestion.mono : ∀ a0 a1 a2 a3 a4 k, LeO (spec_NextQuestion.f k a0 a1 a2 a3 a4) (spec_NextQuestion.f (k + 1) a0 a1 a2 a3 a4) := by
 intro a0 a1 a2 a3 a4 k
 unfold spec_NextQuestion.f
 repeat' first
   | (with_reducible exact spec_QuestionFor.mono _ _ _ _)
   | (with_reducible exact spec_TrialState.mono _ _ _ _ _ _)
   | (with_reducible exact LeO.refl _)
   | (with_reducible exact LeO.none _)
   | (with_reducible refine LeO.ite ?_ ?_)
   | (with_reducible refine LeO.bind ?_ (fun _ => ?_))
   | exact spec_QuestionFor.mono _ _ _ _
   | exact spec_TrialState.mono _ _ _ _ _ _
   | exact LeO.none _
   | refine LeO.ite ?_ ?_
   | refine LeO.bind ?_ (fun _ => ?_)
set_option maxHeartbeats 8000000 in
set_option maxRecDepth 100000 in
theorem spec_NextQuestion.calls (k : Nat) (A0 : Option Addr) (c0 : Nat) (l0 : List (S62)) (a1_0 : Int) (a1_1 : Int) (a1_2 : Int) (a1_3 : Int) (r : Int) (w : World) (hr0 : Kd.C k62 w A0 l0.length l0) (hc0 : l0.length ≤ c0) (h : spec_NextQuestion.f k l0 a1_0 a1_1 a1_2 a1_3 = some r) :
  Calls Try.prog 120 #[.slice A0 l0.length c0, .agg #[.int .i64 a1_0, .int .i64 a1_1, .int .i64 a1_2, .int .i64 a1_3]] w fun e w' => e = .returned (.int .i64 r) ∧ Below w.heap.size w w' := by
 have hu27 := Try.underlying27
 have HR0 := Aside0.mk hr0
 have HC0 := Aside0.mk hc0
 clear hr0 hc0
 have HB := Aside0.mk (Below.refl w.heap.size w)
 have H : ((spec_TrialState.f k l0 a1_0 a1_1 a1_2 a1_3).bind fun t301 => (if t301 = 0 then ((spec_QuestionFor.f k l0 a1_0 a1_1).bind fun t302 => (some t302)) else (some 0))) = some r := h
 clear h
 replace H := Option.bind_eq_some_iff.mp H
 obtain ⟨t301, A30, H⟩ := H
 replace H : (if t301 = 0 then ((spec_QuestionFor.f k l0 a1_0 a1_1).bind fun t302 => (some t302)) else (some 0)) = some r := H
 have A3 := Aside0.mk A30
 clear A30
 by_cases c4 : t301 = 0
 ·rw [if_pos c4] at H
  have c4b0 : (t301 == 0) = true := beq_iff_eq.mpr c4
  have c4b1 : (t301 != 0) = false := bne_eq_false_iff_eq.mpr c4
  clear c4
  replace H := Option.bind_eq_some_iff.mp H
  obtain ⟨t302, A50, H⟩ := H
  replace H : (some t302) = some r := H
  have A5 := Aside0.mk A50
  clear A50
  obtain rfl := Option.some.inj H
  go_enter Try.func120, Try.ntmps120
  go_wp2_with (first | ((with_reducible refine gate_dst (N := 3) rfl ?_); refine box_event ?hg (N := 3) ?hd (cs := #[.int .i64 a1_0, .int .i64 a1_1, .int .i64 a1_2, .int .i64 a1_3]) (t := 27) ?hr ?_; (case hd => rfl); (case hg => rfl); (case hr => first | (go_simp; done) | (go_simp; rfl)); intro gb300 hg w6 hbox hb; have n0_ := Aside0.mk (below_step (qB HB) hb); have n1_ := Aside0.mk (hbox); have n2_ := Aside0.mk ((by rw [hg]; exact (below_size (qB HB)) : w.heap.size ≤ gb300)); have n3_ := Aside0.mk ((by rw [hg]; exact (below_size (qB HB)) : w.heap.size ≤ gb300)); clear HB; have HB := n0_; have BK300 := n1_; have GW300 := n2_; have GE300 := n3_; clear n0_ n1_ n2_ n3_; clear hb hbox hg; have hcz7_0 : w6.cell? ⟨gb300, 0, none⟩ = some (.int .i64 a1_0) := cC BK300 0; have hcz7_1 : w6.cell? ⟨gb300, 1, none⟩ = some (.int .i64 a1_1) := cC BK300 1; have hcz7_2 : w6.cell? ⟨gb300, 2, none⟩ = some (.int .i64 a1_2) := cC BK300 2; have hcz7_3 : w6.cell? ⟨gb300, 3, none⟩ = some (.int .i64 a1_3) := cC BK300 3; have hfz7_0 := blk_frozen BK300.out 0; have hfz7_1 := blk_frozen BK300.out 1; have hfz7_2 := blk_frozen BK300.out 2; have hfz7_3 := blk_frozen BK300.out 3) | ((with_reducible refine gate_callee (f := 171) rfl ?_); refine goesL_ (some 7) rfl rfl Try.func171 (by kernel_rfl) rfl #[.slice A0 l0.length c0, .agg #[.int .i64 a1_0, .int .i64 a1_1, .int .i64 a1_2, .int .i64 a1_3]] rfl (by (try simp only [mA, mC, mN]); first | done | rfl | (simp only [lD, lT]; rfl)) ?_; (with_reducible refine (spec_TrialState.calls k _ _ l0 a1_0 a1_1 a1_2 a1_3 t301 _ ?side1 ?side2 A3.out).mono ?_); (case side1 => exact qC (Kd.C_below HR0.out HB.out)); (case side2 => exact HC0.out); rintro e w8 ⟨rfl, hb⟩; refine ⟨_, rfl, ?_⟩; have n0_ := Aside0.mk (blk_below (qK BK300) hb); have n1_ := Aside0.mk (below_step (by repeat first | (with_reducible first | exact HB.out | apply bA | apply bN | apply bD | refine bS ?_ GE300.out) | exact HB.out) hb); clear BK300; clear HB; have BK300 := n0_; have HB := n1_; clear n0_ n1_; (try clear hb); (try clear hb2); (try clear hk); (try clear hi); have hcz9_0 : w8.cell? ⟨gb300, 0, none⟩ = some (.int .i64 a1_0) := cC BK300 0; have hcz9_1 : w8.cell? ⟨gb300, 1, none⟩ = some (.int .i64 a1_1) := cC BK300 1; have hcz9_2 : w8.cell? ⟨gb300, 2, none⟩ = some (.int .i64 a1_2) := cC BK300 2; have hcz9_3 : w8.cell? ⟨gb300, 3, none⟩ = some (.int .i64 a1_3) := cC BK300 3; have hfz9_0 := blk_frozen BK300.out 0; have hfz9_1 := blk_frozen BK300.out 1; have hfz9_2 := blk_frozen BK300.out 2; have hfz9_3 := blk_frozen BK300.out 3) | ((with_reducible refine gate_callee (f := 172) rfl ?_); refine goesL_ (some 14) rfl rfl Try.func172 (by kernel_rfl) rfl #[.slice A0 l0.length c0, .int .i64 a1_0, .int .i64 a1_1] rfl (by (try simp only [mA, mC, mN]); first | done | rfl | (simp only [lD, lT]; rfl)) ?_; (with_reducible refine (spec_QuestionFor.calls k _ _ l0 a1_0 a1_1 t302 _ ?side1 ?side2 A5.out).mono ?_); (case side1 => exact qC (Kd.C_below HR0.out HB.out)); (case side2 => exact HC0.out); rintro e w10 ⟨rfl, hb⟩; refine ⟨_, rfl, ?_⟩; have n0_ := Aside0.mk (blk_below (qK BK300) hb); have n1_ := Aside0.mk (below_step (by repeat first | (with_reducible first | exact HB.out | apply bA | apply bN | apply bD | refine bS ?_ GE300.out) | exact HB.out) hb); clear BK300; clear HB; have BK300 := n0_; have HB := n1_; clear n0_ n1_; (try clear hb); (try clear hb2); (try clear hk); (try clear hi)))
  go_ret
  exact ⟨by first | rfl | (simp [errW_none, errW_some] <;> rfl) | (simp [*, errW_none, errW_some] <;> rfl), by repeat (first | (with_reducible first | exact HB.out | apply bA | apply bN | apply bD | refine bS ?_ GE300.out) | exact HB.out)⟩
 ·rw [if_neg c4] at H
  have c4b0 : (t301 == 0) = false := beq_eq_false_iff_ne.mpr c4
  have c4b1 : (t301 != 0) = true := bne_iff_ne.mpr c4
  obtain rfl := Option.some.inj H
  go_enter Try.func120, Try.ntmps120
  go_wp2_with (first | ((with_reducible refine gate_dst (N := 3) rfl ?_); refine box_event ?hg (N := 3) ?hd (cs := #[.int .i64 a1_0, .int .i64 a1_1, .int .i64 a1_2, .int .i64 a1_3]) (t := 27) ?hr ?_; (case hd => rfl); (case hg => rfl); (case hr => first | (go_simp; done) | (go_simp; rfl)); intro gb300 hg w11 hbox hb; have n0_ := Aside0.mk (below_step (qB HB) hb); have n1_ := Aside0.mk (hbox); have n2_ := Aside0.mk ((by rw [hg]; exact (below_size (qB HB)) : w.heap.size ≤ gb300)); have n3_ := Aside0.mk ((by rw [hg]; exact (below_size (qB HB)) : w.heap.size ≤ gb300)); clear HB; have HB := n0_; have BK300 := n1_; have GW300 := n2_; have GE300 := n3_; clear n0_ n1_ n2_ n3_; clear hb hbox hg; have hcz12_0 : w11.cell? ⟨gb300, 0, none⟩ = some (.int .i64 a1_0) := cC BK300 0; have hcz12_1 : w11.cell? ⟨gb300, 1, none⟩ = some (.int .i64 a1_1) := cC BK300 1; have hcz12_2 : w11.cell? ⟨gb300, 2, none⟩ = some (.int .i64 a1_2) := cC BK300 2; have hcz12_3 : w11.cell? ⟨gb300, 3, none⟩ = some (.int .i64 a1_3) := cC BK300 3; have hfz12_0 := blk_frozen BK300.out 0; have hfz12_1 := blk_frozen BK300.out 1; have hfz12_2 := blk_frozen BK300.out 2; have hfz12_3 := blk_frozen BK300.out 3) | ((with_reducible refine gate_callee (f := 171) rfl ?_); refine goesL_ (some 7) rfl rfl Try.func171 (by kernel_rfl) rfl #[.slice A0 l0.length c0, .agg #[.int .i64 a1_0, .int .i64 a1_1, .int .i64 a1_2, .int .i64 a1_3]] rfl (by (try simp only [mA, mC, mN]); first | done | rfl | (simp only [lD, lT]; rfl)) ?_; (with_reducible refine (spec_TrialState.calls k _ _ l0 a1_0 a1_1 a1_2 a1_3 t301 _ ?side1 ?side2 A3.out).mono ?_); (case side1 => exact qC (Kd.C_below HR0.out HB.out)); (case side2 => exact HC0.out); rintro e w13 ⟨rfl, hb⟩; refine ⟨_, rfl, ?_⟩; have n0_ := Aside0.mk (blk_below (qK BK300) hb); have n1_ := Aside0.mk (below_step (by repeat first | (with_reducible first | exact HB.out | apply bA | apply bN | apply bD | refine bS ?_ GE300.out) | exact HB.out) hb); clear BK300; clear HB; have BK300 := n0_; have HB := n1_; clear n0_ n1_; (try clear hb); (try clear hb2); (try clear hk); (try clear hi)))
  go_ret
  exact ⟨by first | rfl | (simp [errW_none, errW_some] <;> rfl) | (simp [*, errW_none, errW_some] <;> rfl), by repeat (first | (with_reducible first | exact HB.out | apply bA | apply bN | apply bD | refine bS ?_ GE300.out) | exact HB.out)⟩

/-! ### spec_GiveAnswer: function 99 -/
def spec_GiveAnswer.f (k : Nat) (l0 : List (S62)) (a1_0 : Int) (a1_1 : Int) (a1_2 : Int) (a1_3 : Int) (a2 : Int) : Option (Int × Int × Int × Int × Bool) := (spec_NextQuestion.f k l0 a1_0 a1_1 a1_2 a1_3).bind fun t305 => (if t305 = 0 then (some (a1_0, a1_1, a1_2, a1_3, false)) else ((spec_AnswerOf.f k l0 t305).bind fun t306 => (if t306 = a2 then (some (a1_0, wrap64 (a1_1 + 1), wrap64 (a1_2 + 1), a1_3, true)) else (some (a1_0, wrap64 (a1_1 + 1), a1_2, wrap64 (a1_3 + 1), true)))))
theorem spec_GiveAnswer.mono : ∀ a0 a1 a2 a3 a4 a5 k, LeO (spec_GiveAnswer.f k a0 a1 a2 a3 a4 a5) (spec_GiveAnswer.f (k + 1) a0 a1 a2 a3 a4 a5) := by
 intro a0 a1 a2 a3 a4 a5 k
 unfold spec_GiveAnswer.f
 repeat' first
   | (with_reducible exact spec_AnswerOf.mono _ _ _)
   | (with_reducible exact spec_NextQuestion.mono _ _ _ _ _ _)
   | (with_reducible exact LeO.refl _)
   | (with_reducible exact LeO.none _)
   | (with_reducible refine LeO.ite ?_ ?_)
   | (with_reducible refine LeO.bind ?_ (fun _ => ?_))
   | exact spec_AnswerOf.mono _ _ _
   | exact spec_NextQuestion.mono _ _ _ _ _ _
   | exact LeO.none _
   | refine LeO.ite ?_ ?_
   | refine LeO.bind ?_ (fun _ => ?_)
set_option maxHeartbeats 8000000 in
set_option maxRecDepth 100000 in
theorem spec_GiveAnswer.calls (k : Nat) (A0 : Option Addr) (c0 : Nat) (l0 : List (S62)) (a1_0 : Int) (a1_1 : Int) (a1_2 : Int) (a1_3 : Int) (a2 : Int) (r1 : Int) (r2 : Int) (r3 : Int) (r4 : Int) (r5 : Bool) (w : World) (hr0 : Kd.C k62 w A0 l0.length l0) (hc0 : l0.length ≤ c0) (h : spec_GiveAnswer.f k l0 a1_0 a1_1 a1_2 a1_3 a2 = some (r1, r2, r3, r4, r5)) :
  Calls Try.prog 99 #[.slice A0 l0.length c0, .agg #[.int .i64 a1_0, .int .i64 a1_1, .int .i64 a1_2, .int .i64 a1_3], .int .i64 a2] w fun e w' => e = .returned (.tuple #[.agg #[.int .i64 r1, .int .i64 r2, .int .i64 r3, .int .i64 r4], .bool r5]) ∧ Below w.heap.size w w' := by
 have hu27 := Try.underlying27
 have HR0 := Aside0.mk hr0
 have HC0 := Aside0.mk hc0
 clear hr0 hc0
 have HB := Aside0.mk (Below.refl w.heap.size w)
 have H : ((spec_NextQuestion.f k l0 a1_0 a1_1 a1_2 a1_3).bind fun t305 => (if t305 = 0 then (some (a1_0, a1_1, a1_2, a1_3, false)) else ((spec_AnswerOf.f k l0 t305).bind fun t306 => (if t306 = a2 then (some (a1_0, wrap64 (a1_1 + 1), wrap64 (a1_2 + 1), a1_3, true)) else (some (a1_0, wrap64 (a1_1 + 1), a1_2, wrap64 (a1_3 + 1), true)))))) = some (r1, r2, r3, r4, r5) := h
 clear h
 replace H := Option.bind_eq_some_iff.mp H
 obtain ⟨t305, A40, H⟩ := H
 replace H : (if t305 = 0 then (some (a1_0, a1_1, a1_2, a1_3, false)) else ((spec_AnswerOf.f k l0 t305).bind fun t306 => (if t306 = a2 then (some (a1_0, wrap64 (a1_1 + 1), wrap64 (a1_2 + 1), a1_3, true)) else (some (a1_0, wrap64 (a1_1 + 1), a1_2, wrap64 (a1_3 + 1), true))))) = some (r1, r2, r3, r4, r5) := H
 have A4 := Aside0.mk A40
 clear A40
 by_cases c5 : t305 = 0
 ·rw [if_pos c5] at H
  have c5b0 : (t305 == 0) = true := beq_iff_eq.mpr c5
  have c5b1 : (t305 != 0) = false := bne_eq_false_iff_eq.mpr c5
  clear c5
  simp only [Option.some.injEq, Prod.mk.injEq] at H
  obtain ⟨rfl, rfl, rfl, rfl, rfl⟩ := H
  go_enter Try.func99, Try.ntmps99
  go_wp2_with (first | ((with_reducible refine gate_dst (N := 4) rfl ?_); refine box_event ?hg (N := 4) ?hd (cs := #[.int .i64 a1_0, .int .i64 a1_1, .int .i64 a1_2, .int .i64 a1_3]) (t := 27) ?hr ?_; (case hd => rfl); (case hg => rfl); (case hr => first | (go_simp; done) | (go_simp; rfl)); intro gb303 hg w6 hbox hb; have n0_ := Aside0.mk (below_step (qB HB) hb); have n1_ := Aside0.mk (hbox); have n2_ := Aside0.mk ((by rw [hg]; exact (below_size (qB HB)) : w.heap.size ≤ gb303)); have n3_ := Aside0.mk ((by rw [hg]; exact (below_size (qB HB)) : w.heap.size ≤ gb303)); clear HB; have HB := n0_; have BK303 := n1_; have GW303 := n2_; have GE303 := n3_; clear n0_ n1_ n2_ n3_; clear hb hbox hg) | ((with_reducible refine gate_dst (N := 6) rfl ?_); refine box_event ?hg (N := 6) ?hd (cs := #[.int .i64 0, .int .i64 0, .int .i64 0, .int .i64 0]) (t := 27) ?hr ?_; (case hd => rfl); (case hg => rfl); (case hr => first | (go_simp; done) | (go_simp; rfl)); intro gb304 hg w7 hbox hb; have n0_ := Aside0.mk (blk_below (qK BK303) hb); have n1_ := Aside0.mk (below_step (by repeat first | (with_reducible first | exact HB.out | apply bA | apply bN | apply bD | refine bS ?_ GE303.out) | exact HB.out) hb); have n2_ := Aside0.mk (hbox); have n3_ := Aside0.mk ((by rw [hg]; exact (below_size (by repeat first | (with_reducible first | exact HB.out | apply bA | apply bN | apply bD | refine bS ?_ GE303.out) | exact HB.out)) : w.heap.size ≤ gb304)); have n4_ := Aside0.mk ((by rw [hg]; exact (below_size (by repeat first | (with_reducible first | exact HB.out | apply bA | apply bN | apply bD | refine bS ?_ GE303.out) | exact HB.out)) : w.heap.size ≤ gb304)); have n5_ := Aside0.mk ((by rw [hg]; exact Nat.ne_of_lt (blk_lt (qK BK303)) : gb303 ≠ gb304)); have n6_ := Aside0.mk ((by rw [hg]; exact Nat.ne_of_gt (blk_lt (qK BK303)) : gb304 ≠ gb303)); clear BK303; clear HB; have BK303 := n0_; have HB := n1_; have BK304 := n2_; have GW304 := n3_; have GE304 := n4_; have NB303_304 := n5_; have NB304_303 := n6_; clear n0_ n1_ n2_ n3_ n4_ n5_ n6_; clear hb hbox hg; have hnb8 := NB303_304.out; have hnc8 := NB304_303.out; have hcz9_0 : w7.cell? ⟨gb303, 0, none⟩ = some (.int .i64 a1_0) := cC BK303 0; have hcz9_1 : w7.cell? ⟨gb303, 1, none⟩ = some (.int .i64 a1_1) := cC BK303 1; have hcz9_2 : w7.cell? ⟨gb303, 2, none⟩ = some (.int .i64 a1_2) := cC BK303 2; have hcz9_3 : w7.cell? ⟨gb303, 3, none⟩ = some (.int .i64 a1_3) := cC BK303 3; have hfz9_0 := blk_frozen BK303.out 0; have hfz9_1 := blk_frozen BK303.out 1; have hfz9_2 := blk_frozen BK303.out 2; have hfz9_3 := blk_frozen BK303.out 3) | ((with_reducible refine gate_callee (f := 120) rfl ?_); refine goesL_ (some 11) rfl rfl Try.func120 (by kernel_rfl) rfl #[.slice A0 l0.length c0, .agg #[.int .i64 a1_0, .int .i64 a1_1, .int .i64 a1_2, .int .i64 a1_3]] rfl (by (try simp only [mA, mC, mN]); first | done | rfl | (simp only [lD, lT]; rfl)) ?_; (with_reducible refine (spec_NextQuestion.calls k _ _ l0 a1_0 a1_1 a1_2 a1_3 t305 _ ?side1 ?side2 A4.out).mono ?_); (case side1 => exact qC (Kd.C_below HR0.out HB.out)); (case side2 => exact HC0.out); rintro e w10 ⟨rfl, hb⟩; refine ⟨_, rfl, ?_⟩; have n0_ := Aside0.mk (blk_below (qK BK303) hb); have n1_ := Aside0.mk (blk_below (qK BK304) hb); have n2_ := Aside0.mk (below_step (by repeat first | (with_reducible first | exact HB.out | apply bA | apply bN | apply bD | refine bS ?_ GE303.out | refine bS ?_ GE304.out) | exact HB.out) hb); clear BK303; clear BK304; clear HB; have BK303 := n0_; have BK304 := n1_; have HB := n2_; clear n0_ n1_ n2_; (try clear hb); (try clear hb2); (try clear hk); (try clear hi); have hcz11_0 : w10.cell? ⟨gb303, 0, none⟩ = some (.int .i64 a1_0) := cC BK303 0; have hcz11_1 : w10.cell? ⟨gb303, 1, none⟩ = some (.int .i64 a1_1) := cC BK303 1; have hcz11_2 : w10.cell? ⟨gb303, 2, none⟩ = some (.int .i64 a1_2) := cC BK303 2; have hcz11_3 : w10.cell? ⟨gb303, 3, none⟩ = some (.int .i64 a1_3) := cC BK303 3; have hfz11_0 := blk_frozen BK303.out 0; have hfz11_1 := blk_frozen BK303.out 1; have hfz11_2 := blk_frozen BK303.out 2; have hfz11_3 := blk_frozen BK303.out 3; have hcz12_0 : w10.cell? ⟨gb304, 0, none⟩ = some (.int .i64 0) := cC BK304 0; have hcz12_1 : w10.cell? ⟨gb304, 1, none⟩ = some (.int .i64 0) := cC BK304 1; have hcz12_2 : w10.cell? ⟨gb304, 2, none⟩ = some (.int .i64 0) := cC BK304 2; have hcz12_3 : w10.cell? ⟨gb304, 3, none⟩ = some (.int .i64 0) := cC BK304 3; have hfz12_0 := blk_frozen BK304.out 0; have hfz12_1 := blk_frozen BK304.out 1; have hfz12_2 := blk_frozen BK304.out 2; have hfz12_3 := blk_frozen BK304.out 3))
  refine bodyPost_ret (results_ct rfl _ _ gb304 27 #[.int .i64 a1_0, .int .i64 a1_1, .int .i64 a1_2, .int .i64 a1_3] (0, 0) _ rfl (by (with_reducible repeat first | refine kN ?_ _ | refine kD ?_ | refine kA ?_ _); refine blk_put (cs := #[.int .i64 a1_0, .int .i64 a1_1, .int .i64 a1_2, .int .i64 0]) ?_ 3 _ rfl; (with_reducible repeat first | refine kN ?_ _ | refine kD ?_ | refine kA ?_ _); refine blk_put (cs := #[.int .i64 a1_0, .int .i64 a1_1, .int .i64 0, .int .i64 0]) ?_ 2 _ rfl; (with_reducible repeat first | refine kN ?_ _ | refine kD ?_ | refine kA ?_ _); refine blk_put (cs := #[.int .i64 a1_0, .int .i64 0, .int .i64 0, .int .i64 0]) ?_ 1 _ rfl; (with_reducible repeat first | refine kN ?_ _ | refine kD ?_ | refine kA ?_ _); refine blk_put (cs := #[.int .i64 0, .int .i64 0, .int .i64 0, .int .i64 0]) ?_ 0 _ rfl; (with_reducible repeat first | refine kN ?_ _ | refine kD ?_ | refine kA ?_ _); exact BK304.out) Try.underlying27 rfl (by kernel_rfl)) rfl ?_
  exact ⟨by first | rfl | (simp [errW_none, errW_some] <;> rfl) | (simp [*, errW_none, errW_some] <;> rfl), by repeat (first | (with_reducible first | exact HB.out | apply bA | apply bN | apply bD | refine bS ?_ GE303.out | refine bS ?_ GE304.out) | exact HB.out)⟩
 ·rw [if_neg c5] at H
  have c5b0 : (t305 == 0) = false := beq_eq_false_iff_ne.mpr c5
  have c5b1 : (t305 != 0) = true := bne_iff_ne.mpr c5
  replace H := Option.bind_eq_some_iff.mp H
  obtain ⟨t306, A130, H⟩ := H
  replace H : (if t306 = a2 then (some (a1_0, wrap64 (a1_1 + 1), wrap64 (a1_2 + 1), a1_3, true)) else (some (a1_0, wrap64 (a1_1 + 1), a1_2, wrap64 (a1_3 + 1), true))) = some (r1, r2, r3, r4, r5) := H
  have A13 := Aside0.mk A130
  clear A130
  by_cases c14 : t306 = a2
  ·rw [if_pos c14] at H
   have c14b0 : (t306 == a2) = true := beq_iff_eq.mpr c14
   have c14b1 : (t306 != a2) = false := bne_eq_false_iff_eq.mpr c14
   clear c14
   simp only [Option.some.injEq, Prod.mk.injEq] at H
   obtain ⟨rfl, rfl, rfl, rfl, rfl⟩ := H
   go_enter Try.func99, Try.ntmps99
   go_wp2_with (first | ((with_reducible refine gate_dst (N := 4) rfl ?_); refine box_event ?hg (N := 4) ?hd (cs := #[.int .i64 a1_0, .int .i64 a1_1, .int .i64 a1_2, .int .i64 a1_3]) (t := 27) ?hr ?_; (case hd => rfl); (case hg => rfl); (case hr => first | (go_simp; done) | (go_simp; rfl)); intro gb303 hg w15 hbox hb; have n0_ := Aside0.mk (below_step (qB HB) hb); have n1_ := Aside0.mk (hbox); have n2_ := Aside0.mk ((by rw [hg]; exact (below_size (qB HB)) : w.heap.size ≤ gb303)); have n3_ := Aside0.mk ((by rw [hg]; exact (below_size (qB HB)) : w.heap.size ≤ gb303)); clear HB; have HB := n0_; have BK303 := n1_; have GW303 := n2_; have GE303 := n3_; clear n0_ n1_ n2_ n3_; clear hb hbox hg) | ((with_reducible refine gate_dst (N := 6) rfl ?_); refine box_event ?hg (N := 6) ?hd (cs := #[.int .i64 0, .int .i64 0, .int .i64 0, .int .i64 0]) (t := 27) ?hr ?_; (case hd => rfl); (case hg => rfl); (case hr => first | (go_simp; done) | (go_simp; rfl)); intro gb304 hg w16 hbox hb; have n0_ := Aside0.mk (blk_below (qK BK303) hb); have n1_ := Aside0.mk (below_step (by repeat first | (with_reducible first | exact HB.out | apply bA | apply bN | apply bD | refine bS ?_ GE303.out) | exact HB.out) hb); have n2_ := Aside0.mk (hbox); have n3_ := Aside0.mk ((by rw [hg]; exact (below_size (by repeat first | (with_reducible first | exact HB.out | apply bA | apply bN | apply bD | refine bS ?_ GE303.out) | exact HB.out)) : w.heap.size ≤ gb304)); have n4_ := Aside0.mk ((by rw [hg]; exact (below_size (by repeat first | (with_reducible first | exact HB.out | apply bA | apply bN | apply bD | refine bS ?_ GE303.out) | exact HB.out)) : w.heap.size ≤ gb304)); have n5_ := Aside0.mk ((by rw [hg]; exact Nat.ne_of_lt (blk_lt (qK BK303)) : gb303 ≠ gb304)); have n6_ := Aside0.mk ((by rw [hg]; exact Nat.ne_of_gt (blk_lt (qK BK303)) : gb304 ≠ gb303)); clear BK303; clear HB; have BK303 := n0_; have HB := n1_; have BK304 := n2_; have GW304 := n3_; have GE304 := n4_; have NB303_304 := n5_; have NB304_303 := n6_; clear n0_ n1_ n2_ n3_ n4_ n5_ n6_; clear hb hbox hg; have hnb17 := NB303_304.out; have hnc17 := NB304_303.out; have hcz18_0 : w16.cell? ⟨gb303, 0, none⟩ = some (.int .i64 a1_0) := cC BK303 0; have hcz18_1 : w16.cell? ⟨gb303, 1, none⟩ = some (.int .i64 a1_1) := cC BK303 1; have hcz18_2 : w16.cell? ⟨gb303, 2, none⟩ = some (.int .i64 a1_2) := cC BK303 2; have hcz18_3 : w16.cell? ⟨gb303, 3, none⟩ = some (.int .i64 a1_3) := cC BK303 3; have hfz18_0 := blk_frozen BK303.out 0; have hfz18_1 := blk_frozen BK303.out 1; have hfz18_2 := blk_frozen BK303.out 2; have hfz18_3 := blk_frozen BK303.out 3) | ((with_reducible refine gate_callee (f := 120) rfl ?_); refine goesL_ (some 11) rfl rfl Try.func120 (by kernel_rfl) rfl #[.slice A0 l0.length c0, .agg #[.int .i64 a1_0, .int .i64 a1_1, .int .i64 a1_2, .int .i64 a1_3]] rfl (by (try simp only [mA, mC, mN]); first | done | rfl | (simp only [lD, lT]; rfl)) ?_; (with_reducible refine (spec_NextQuestion.calls k _ _ l0 a1_0 a1_1 a1_2 a1_3 t305 _ ?side1 ?side2 A4.out).mono ?_); (case side1 => exact qC (Kd.C_below HR0.out HB.out)); (case side2 => exact HC0.out); rintro e w19 ⟨rfl, hb⟩; refine ⟨_, rfl, ?_⟩; have n0_ := Aside0.mk (blk_below (qK BK303) hb); have n1_ := Aside0.mk (blk_below (qK BK304) hb); have n2_ := Aside0.mk (below_step (by repeat first | (with_reducible first | exact HB.out | apply bA | apply bN | apply bD | refine bS ?_ GE303.out | refine bS ?_ GE304.out) | exact HB.out) hb); clear BK303; clear BK304; clear HB; have BK303 := n0_; have BK304 := n1_; have HB := n2_; clear n0_ n1_ n2_; (try clear hb); (try clear hb2); (try clear hk); (try clear hi); have hcz20_0 : w19.cell? ⟨gb303, 0, none⟩ = some (.int .i64 a1_0) := cC BK303 0; have hcz20_1 : w19.cell? ⟨gb303, 1, none⟩ = some (.int .i64 a1_1) := cC BK303 1; have hcz20_2 : w19.cell? ⟨gb303, 2, none⟩ = some (.int .i64 a1_2) := cC BK303 2; have hcz20_3 : w19.cell? ⟨gb303, 3, none⟩ = some (.int .i64 a1_3) := cC BK303 3; have hfz20_0 := blk_frozen BK303.out 0; have hfz20_1 := blk_frozen BK303.out 1; have hfz20_2 := blk_frozen BK303.out 2; have hfz20_3 := blk_frozen BK303.out 3) | ((with_reducible refine gate_callee (f := 119) rfl ?_); refine goesL_ (some 21) rfl rfl Try.func119 (by kernel_rfl) rfl #[.slice A0 l0.length c0, .int .i64 t305] rfl (by (try simp only [mA, mC, mN]); first | done | rfl | (simp only [lD, lT]; rfl)) ?_; (with_reducible refine (spec_AnswerOf.calls k _ _ l0 t305 t306 _ ?side1 ?side2 A13.out).mono ?_); (case side1 => exact Kd.C_below HR0.out (by repeat first | (with_reducible first | exact HB.out | apply bA | apply bN | apply bD | refine bS ?_ GE303.out | refine bS ?_ GE304.out) | exact HB.out)); (case side2 => exact HC0.out); rintro e w' ⟨rfl, ⟨nd, rfl⟩⟩; refine ⟨_, rfl, ?_⟩; have hcz21_0 : w19.cell? ⟨gb304, 0, none⟩ = some (.int .i64 0) := cC BK304 0; have hcz21_1 : w19.cell? ⟨gb304, 1, none⟩ = some (.int .i64 0) := cC BK304 1; have hcz21_2 : w19.cell? ⟨gb304, 2, none⟩ = some (.int .i64 0) := cC BK304 2; have hcz21_3 : w19.cell? ⟨gb304, 3, none⟩ = some (.int .i64 0) := cC BK304 3; have hfz21_0 := blk_frozen BK304.out 0; have hfz21_1 := blk_frozen BK304.out 1; have hfz21_2 := blk_frozen BK304.out 2; have hfz21_3 := blk_frozen BK304.out 3))
   refine bodyPost_ret (results_ct rfl _ _ gb304 27 #[.int .i64 a1_0, .int .i64 (wrap64 (a1_1 + 1)), .int .i64 (wrap64 (a1_2 + 1)), .int .i64 a1_3] (0, 0) _ rfl (by (with_reducible repeat first | refine kN ?_ _ | refine kD ?_ | refine kA ?_ _); refine blk_put (cs := #[.int .i64 a1_0, .int .i64 (wrap64 (a1_1 + 1)), .int .i64 (wrap64 (a1_2 + 1)), .int .i64 0]) ?_ 3 _ rfl; (with_reducible repeat first | refine kN ?_ _ | refine kD ?_ | refine kA ?_ _); refine blk_put (cs := #[.int .i64 a1_0, .int .i64 (wrap64 (a1_1 + 1)), .int .i64 0, .int .i64 0]) ?_ 2 _ rfl; (with_reducible repeat first | refine kN ?_ _ | refine kD ?_ | refine kA ?_ _); refine blk_put (cs := #[.int .i64 a1_0, .int .i64 0, .int .i64 0, .int .i64 0]) ?_ 1 _ rfl; (with_reducible repeat first | refine kN ?_ _ | refine kD ?_ | refine kA ?_ _); refine blk_put (cs := #[.int .i64 0, .int .i64 0, .int .i64 0, .int .i64 0]) ?_ 0 _ rfl; (with_reducible repeat first | refine kN ?_ _ | refine kD ?_ | refine kA ?_ _); refine blk_far ?_ NB304_303.out _; (with_reducible repeat first | refine kN ?_ _ | refine kD ?_ | refine kA ?_ _); refine blk_far ?_ NB304_303.out _; (with_reducible repeat first | refine kN ?_ _ | refine kD ?_ | refine kA ?_ _); exact BK304.out) Try.underlying27 rfl (by kernel_rfl)) rfl ?_
   exact ⟨by first | rfl | (simp [errW_none, errW_some] <;> rfl) | (simp [*, errW_none, errW_some] <;> rfl), by repeat (first | (with_reducible first | exact HB.out | apply bA | apply bN | apply bD | refine bS ?_ GE303.out | refine bS ?_ GE304.out) | exact HB.out)⟩
  ·rw [if_neg c14] at H
   have c14b0 : (t306 == a2) = false := beq_eq_false_iff_ne.mpr c14
   have c14b1 : (t306 != a2) = true := bne_iff_ne.mpr c14
   simp only [Option.some.injEq, Prod.mk.injEq] at H
   obtain ⟨rfl, rfl, rfl, rfl, rfl⟩ := H
   go_enter Try.func99, Try.ntmps99
   go_wp2_with (first | ((with_reducible refine gate_dst (N := 4) rfl ?_); refine box_event ?hg (N := 4) ?hd (cs := #[.int .i64 a1_0, .int .i64 a1_1, .int .i64 a1_2, .int .i64 a1_3]) (t := 27) ?hr ?_; (case hd => rfl); (case hg => rfl); (case hr => first | (go_simp; done) | (go_simp; rfl)); intro gb303 hg w22 hbox hb; have n0_ := Aside0.mk (below_step (qB HB) hb); have n1_ := Aside0.mk (hbox); have n2_ := Aside0.mk ((by rw [hg]; exact (below_size (qB HB)) : w.heap.size ≤ gb303)); have n3_ := Aside0.mk ((by rw [hg]; exact (below_size (qB HB)) : w.heap.size ≤ gb303)); clear HB; have HB := n0_; have BK303 := n1_; have GW303 := n2_; have GE303 := n3_; clear n0_ n1_ n2_ n3_; clear hb hbox hg) | ((with_reducible refine gate_dst (N := 6) rfl ?_); refine box_event ?hg (N := 6) ?hd (cs := #[.int .i64 0, .int .i64 0, .int .i64 0, .int .i64 0]) (t := 27) ?hr ?_; (case hd => rfl); (case hg => rfl); (case hr => first | (go_simp; done) | (go_simp; rfl)); intro gb304 hg w23 hbox hb; have n0_ := Aside0.mk (blk_below (qK BK303) hb); have n1_ := Aside0.mk (below_step (by repeat first | (with_reducible first | exact HB.out | apply bA | apply bN | apply bD | refine bS ?_ GE303.out) | exact HB.out) hb); have n2_ := Aside0.mk (hbox); have n3_ := Aside0.mk ((by rw [hg]; exact (below_size (by repeat first | (with_reducible first | exact HB.out | apply bA | apply bN | apply bD | refine bS ?_ GE303.out) | exact HB.out)) : w.heap.size ≤ gb304)); have n4_ := Aside0.mk ((by rw [hg]; exact (below_size (by repeat first | (with_reducible first | exact HB.out | apply bA | apply bN | apply bD | refine bS ?_ GE303.out) | exact HB.out)) : w.heap.size ≤ gb304)); have n5_ := Aside0.mk ((by rw [hg]; exact Nat.ne_of_lt (blk_lt (qK BK303)) : gb303 ≠ gb304)); have n6_ := Aside0.mk ((by rw [hg]; exact Nat.ne_of_gt (blk_lt (qK BK303)) : gb304 ≠ gb303)); clear BK303; clear HB; have BK303 := n0_; have HB := n1_; have BK304 := n2_; have GW304 := n3_; have GE304 := n4_; have NB303_304 := n5_; have NB304_303 := n6_; clear n0_ n1_ n2_ n3_ n4_ n5_ n6_; clear hb hbox hg; have hnb24 := NB303_304.out; have hnc24 := NB304_303.out; have hcz25_0 : w23.cell? ⟨gb303, 0, none⟩ = some (.int .i64 a1_0) := cC BK303 0; have hcz25_1 : w23.cell? ⟨gb303, 1, none⟩ = some (.int .i64 a1_1) := cC BK303 1; have hcz25_2 : w23.cell? ⟨gb303, 2, none⟩ = some (.int .i64 a1_2) := cC BK303 2; have hcz25_3 : w23.cell? ⟨gb303, 3, none⟩ = some (.int .i64 a1_3) := cC BK303 3; have hfz25_0 := blk_frozen BK303.out 0; have hfz25_1 := blk_frozen BK303.out 1; have hfz25_2 := blk_frozen BK303.out 2; have hfz25_3 := blk_frozen BK303.out 3) | ((with_reducible refine gate_callee (f := 120) rfl ?_); refine goesL_ (some 11) rfl rfl Try.func120 (by kernel_rfl) rfl #[.slice A0 l0.length c0, .agg #[.int .i64 a1_0, .int .i64 a1_1, .int .i64 a1_2, .int .i64 a1_3]] rfl (by (try simp only [mA, mC, mN]); first | done | rfl | (simp only [lD, lT]; rfl)) ?_; (with_reducible refine (spec_NextQuestion.calls k _ _ l0 a1_0 a1_1 a1_2 a1_3 t305 _ ?side1 ?side2 A4.out).mono ?_); (case side1 => exact qC (Kd.C_below HR0.out HB.out)); (case side2 => exact HC0.out); rintro e w26 ⟨rfl, hb⟩; refine ⟨_, rfl, ?_⟩; have n0_ := Aside0.mk (blk_below (qK BK303) hb); have n1_ := Aside0.mk (blk_below (qK BK304) hb); have n2_ := Aside0.mk (below_step (by repeat first | (with_reducible first | exact HB.out | apply bA | apply bN | apply bD | refine bS ?_ GE303.out | refine bS ?_ GE304.out) | exact HB.out) hb); clear BK303; clear BK304; clear HB; have BK303 := n0_; have BK304 := n1_; have HB := n2_; clear n0_ n1_ n2_; (try clear hb); (try clear hb2); (try clear hk); (try clear hi); have hcz27_0 : w26.cell? ⟨gb303, 0, none⟩ = some (.int .i64 a1_0) := cC BK303 0; have hcz27_1 : w26.cell? ⟨gb303, 1, none⟩ = some (.int .i64 a1_1) := cC BK303 1; have hcz27_2 : w26.cell? ⟨gb303, 2, none⟩ = some (.int .i64 a1_2) := cC BK303 2; have hcz27_3 : w26.cell? ⟨gb303, 3, none⟩ = some (.int .i64 a1_3) := cC BK303 3; have hfz27_0 := blk_frozen BK303.out 0; have hfz27_1 := blk_frozen BK303.out 1; have hfz27_2 := blk_frozen BK303.out 2; have hfz27_3 := blk_frozen BK303.out 3) | ((with_reducible refine gate_callee (f := 119) rfl ?_); refine goesL_ (some 21) rfl rfl Try.func119 (by kernel_rfl) rfl #[.slice A0 l0.length c0, .int .i64 t305] rfl (by (try simp only [mA, mC, mN]); first | done | rfl | (simp only [lD, lT]; rfl)) ?_; (with_reducible refine (spec_AnswerOf.calls k _ _ l0 t305 t306 _ ?side1 ?side2 A13.out).mono ?_); (case side1 => exact Kd.C_below HR0.out (by repeat first | (with_reducible first | exact HB.out | apply bA | apply bN | apply bD | refine bS ?_ GE303.out | refine bS ?_ GE304.out) | exact HB.out)); (case side2 => exact HC0.out); rintro e w' ⟨rfl, ⟨nd, rfl⟩⟩; refine ⟨_, rfl, ?_⟩; have hcz28_0 : w26.cell? ⟨gb304, 0, none⟩ = some (.int .i64 0) := cC BK304 0; have hcz28_1 : w26.cell? ⟨gb304, 1, none⟩ = some (.int .i64 0) := cC BK304 1; have hcz28_2 : w26.cell? ⟨gb304, 2, none⟩ = some (.int .i64 0) := cC BK304 2; have hcz28_3 : w26.cell? ⟨gb304, 3, none⟩ = some (.int .i64 0) := cC BK304 3; have hfz28_0 := blk_frozen BK304.out 0; have hfz28_1 := blk_frozen BK304.out 1; have hfz28_2 := blk_frozen BK304.out 2; have hfz28_3 := blk_frozen BK304.out 3))
   refine bodyPost_ret (results_ct rfl _ _ gb304 27 #[.int .i64 a1_0, .int .i64 (wrap64 (a1_1 + 1)), .int .i64 a1_2, .int .i64 (wrap64 (a1_3 + 1))] (0, 0) _ rfl (by (with_reducible repeat first | refine kN ?_ _ | refine kD ?_ | refine kA ?_ _); refine blk_put (cs := #[.int .i64 a1_0, .int .i64 (wrap64 (a1_1 + 1)), .int .i64 a1_2, .int .i64 0]) ?_ 3 _ rfl; (with_reducible repeat first | refine kN ?_ _ | refine kD ?_ | refine kA ?_ _); refine blk_put (cs := #[.int .i64 a1_0, .int .i64 (wrap64 (a1_1 + 1)), .int .i64 0, .int .i64 0]) ?_ 2 _ rfl; (with_reducible repeat first | refine kN ?_ _ | refine kD ?_ | refine kA ?_ _); refine blk_put (cs := #[.int .i64 a1_0, .int .i64 0, .int .i64 0, .int .i64 0]) ?_ 1 _ rfl; (with_reducible repeat first | refine kN ?_ _ | refine kD ?_ | refine kA ?_ _); refine blk_put (cs := #[.int .i64 0, .int .i64 0, .int .i64 0, .int .i64 0]) ?_ 0 _ rfl; (with_reducible repeat first | refine kN ?_ _ | refine kD ?_ | refine kA ?_ _); refine blk_far ?_ NB304_303.out _; (with_reducible repeat first | refine kN ?_ _ | refine kD ?_ | refine kA ?_ _); refine blk_far ?_ NB304_303.out _; (with_reducible repeat first | refine kN ?_ _ | refine kD ?_ | refine kA ?_ _); exact BK304.out) Try.underlying27 rfl (by kernel_rfl)) rfl ?_
   exact ⟨by first | rfl | (simp [errW_none, errW_some] <;> rfl) | (simp [*, errW_none, errW_some] <;> rfl), by repeat (first | (with_reducible first | exact HB.out | apply bA | apply bN | apply bD | refine bS ?_ GE303.out | refine bS ?_ GE304.out) | exact HB.out)⟩

/-! ### spec_l1Once: function 121 -/
def spec_l1Once.f (s0_0 : List Int) (s0_1 : Int) (s0_2 : Int) (a1 : Int) : Option (Bool × Int × Int) := (spec_l1Below.f s0_0 s0_1 s0_2 a1).bind fun bt307 => (some ((bt307.1 == 0), bt307.2.1, bt307.2.2))
set_option maxHeartbeats 8000000 in
set_option maxRecDepth 100000 in
theorem spec_l1Once.calls (g : Nat) (s0_0 : List Int) (s0_1 : Int) (s0_2 : Int) (a1 : Int) (r1 : Bool) (r2 : Int) (r3 : Int) (w0 w : World) (hI : IsS189 w0 w g s0_0 s0_1 s0_2) (hB : Below w0.heap.size w0 w) (h : spec_l1Once.f s0_0 s0_1 s0_2 a1 = some (r1, r2, r3)) :
  Calls Try.prog 121 #[.pointer (some ⟨g, 0, none⟩), .int .i64 a1] w fun e w' => e = .returned (.bool r1) ∧ IsS189 w0 w' g s0_0 r2 r3 ∧ Below w0.heap.size w0 w' ∧ KeepBut w w' g none := by
 have HI0 := Aside0.mk hI
 have HK := Aside0.mk (KeepBut.refl w g none)
 have HL := Aside0.mk hB.size
 clear hI
 have HW0 := Aside0.mk hB.size
 have HB := Aside0.mk hB
 clear hB
 have H : ((spec_l1Below.f s0_0 s0_1 s0_2 a1).bind fun bt307 => (some ((bt307.1 == 0), bt307.2.1, bt307.2.2))) = some (r1, r2, r3) := h
 clear h
 replace H := Option.bind_eq_some_iff.mp H
 obtain ⟨⟨t307, t308, t309⟩, A30, H⟩ := H
 replace H : (some ((t307 == 0), t308, t309)) = some (r1, r2, r3) := H
 have A3 := Aside0.mk A30
 clear A30
 simp only [Option.some.injEq, Prod.mk.injEq] at H
 obtain ⟨rfl, rfl, rfl⟩ := H
 go_enter Try.func121, Try.ntmps121
 go_wp2_with (first | ((with_reducible refine gate_callee (f := 112) rfl ?_); refine goesL_ (some 7) rfl rfl Try.func112 (by kernel_rfl) rfl #[.pointer (some ⟨g, 0, none⟩), .int .i64 a1] rfl (by (try simp only [mA, mC, mN]); first | done | rfl | (simp only [lD, lT]; rfl)) ?_; (with_reducible refine (spec_l1Below.calls g s0_0 s0_1 s0_2 a1 t307 t308 t309 w0 _ ?side1 ?side2 A3.out).mono ?_); (case side1 => repeat (first | (with_reducible first | exact HI0.out | apply IsS189.alloc | apply IsS189.drewN | apply IsS189.drew | apply IsS189.set_1 | apply IsS189.set_2) | exact HI0.out)); (case side2 => repeat (first | (with_reducible first | exact HB.out | apply bA | apply bN | apply bD | refine bS ?_ (IsS189.ge HI0.out)) | exact HB.out)); rintro e w4 ⟨rfl, hi, hb, hk⟩; refine ⟨_, rfl, ?_⟩; have n0_ := Aside0.mk (KeepBut.trans (by repeat (first | (with_reducible first | exact HK.out | apply KeepBut.set_ | apply keep_drewN | apply keep_drew | apply keep_alloc) | exact HK.out)) hk (.inl rfl)); have n1_ := Aside0.mk (hb); have n2_ := Aside0.mk (hi); clear HK; clear HB; clear HI0; have HK := n0_; have HB := n1_; have HI0 := n2_; clear n0_ n1_ n2_; (try clear hb); (try clear hb2); (try clear hk); (try clear hi)))
 go_ret
 exact ⟨by first | rfl | (simp [errW_none, errW_some] <;> rfl) | (simp [*, errW_none, errW_some] <;> rfl), by repeat (first | (with_reducible first | exact HI0.out | apply IsS189.alloc | apply IsS189.drewN | apply IsS189.drew | apply IsS189.set_1 | apply IsS189.set_2) | exact HI0.out), by repeat (first | (with_reducible first | exact HB.out | apply bA | apply bN | apply bD | refine bS ?_ (IsS189.ge HI0.out)) | exact HB.out), by repeat (first | (with_reducible first | exact HK.out | apply KeepBut.set_ | apply keep_drewN | apply keep_drew | apply keep_alloc) | exact HK.out)⟩

/-! ### spec_l12Draw: function 192 -/
def spec_l12Draw.l0 : Nat → List (S62) → Int → List Int → Int → Int → Int → Int → Int → Int → Option (Int × Int × Int × Int × Int × Int)
 | 0, _, _, _, _, _, _, _, _, _ => none
 | k + 1, x1, x6, x1000, x1001, x1002, x315000, x315001, x315002, x315003 => if x6 > 0 then ((spec_NextQuestion.f k x1 x315000 x315001 x315002 x315003).bind fun t318 => ((spec_AnswerOf.f k x1 t318).bind fun t319 => ((spec_l1Once.f x1000 x1001 x1002 4).bind fun bt320 => (if bt320.1 = true then ((spec_l1Below.f x1000 bt320.2.1 bt320.2.2 9).bind fun bt323 => ((spec_GiveAnswer.f k x1 x315000 x315001 x315002 x315003 bt323.1).bind fun bt326 => (spec_l12Draw.l0 k x1 (wrap64 (x6 - 1)) x1000 bt323.2.1 bt323.2.2 bt326.1 bt326.2.1 bt326.2.2.1 bt326.2.2.2.1))) else ((spec_GiveAnswer.f k x1 x315000 x315001 x315002 x315003 t319).bind fun bt331 => (spec_l12Draw.l0 k x1 (wrap64 (x6 - 1)) x1000 bt320.2.1 bt320.2.2 bt331.1 bt331.2.1 bt331.2.2.1 bt331.2.2.2.1)))))) else (some (x315000, x315001, x315002, x315003, x1001, x1002))
def spec_l12Draw.f (k : Nat) (s0_0 : List Int) (s0_1 : Int) (s0_2 : Int) (l1 : List (S62)) : Option (Int × Int × Int × Int × Int × Int) := (spec_l1Below.f s0_0 s0_1 s0_2 20).bind fun bt311 => ((spec_l1Below.f s0_0 bt311.2.1 bt311.2.2 4).bind fun bt315 => (spec_l12Draw.l0 k l1 bt315.1 s0_0 bt315.2.1 bt315.2.2 (wrap64 (1 + bt311.1)) 0 0 0))
theorem spec_l12Draw.mono_l : ∀ k, (∀ y0 y1 y2 y3 y4 y5 y6 y7 y8, LeO (spec_l12Draw.l0 k y0 y1 y2 y3 y4 y5 y6 y7 y8) (spec_l12Draw.l0 (k + 1) y0 y1 y2 y3 y4 y5 y6 y7 y8))
 | 0 => fun _ _ _ _ _ _ _ _ _ r h => by simp [spec_l12Draw.l0] at h
 | k + 1 => by
  have ih0 := spec_l12Draw.mono_l k
  ·intro y0 y1 y2 y3 y4 y5 y6 y7 y8
   unfold spec_l12Draw.l0
   repeat' first
   | (with_reducible exact ih0 _ _ _ _ _ _ _ _ _)
   | (with_reducible exact spec_AnswerOf.mono _ _ _)
   | (with_reducible exact spec_GiveAnswer.mono _ _ _ _ _ _ _)
   | (with_reducible exact spec_NextQuestion.mono _ _ _ _ _ _)
   | (with_reducible exact LeO.refl _)
   | (with_reducible exact LeO.none _)
   | (with_reducible refine LeO.ite ?_ ?_)
   | (with_reducible refine LeO.bind ?_ (fun _ => ?_))
   | exact ih0 _ _ _ _ _ _ _ _ _
   | exact spec_AnswerOf.mono _ _ _
   | exact spec_GiveAnswer.mono _ _ _ _ _ _ _
   | exact spec_NextQuestion.mono _ _ _ _ _ _
   | exact LeO.none _
   | refine LeO.ite ?_ ?_
   | refine LeO.bind ?_ (fun _ => ?_)
theorem spec_l12Draw.mono : ∀ a0 a1 a2 a3 k, LeO (spec_l12Draw.f k a0 a1 a2 a3) (spec_l12Draw.f (k + 1) a0 a1 a2 a3) := by
 intro a0 a1 a2 a3 k
 have ih0 := spec_l12Draw.mono_l k
 unfold spec_l12Draw.f
 repeat' first
   | (with_reducible exact ih0 _ _ _ _ _ _ _ _ _)
   | (with_reducible exact spec_AnswerOf.mono _ _ _)
   | (with_reducible exact spec_GiveAnswer.mono _ _ _ _ _ _ _)
   | (with_reducible exact spec_NextQuestion.mono _ _ _ _ _ _)
   | (with_reducible exact LeO.refl _)
   | (with_reducible exact LeO.none _)
   | (with_reducible refine LeO.ite ?_ ?_)
   | (with_reducible refine LeO.bind ?_ (fun _ => ?_))
   | exact ih0 _ _ _ _ _ _ _ _ _
   | exact spec_AnswerOf.mono _ _ _
   | exact spec_GiveAnswer.mono _ _ _ _ _ _ _
   | exact spec_NextQuestion.mono _ _ _ _ _ _
   | exact LeO.none _
   | refine LeO.ite ?_ ?_
   | refine LeO.bind ?_ (fun _ => ?_)
set_option maxHeartbeats 8000000 in
set_option maxRecDepth 100000 in
theorem spec_l12Draw.calls (k : Nat) (g : Nat) (s0_0 : List Int) (s0_1 : Int) (s0_2 : Int) (A1 : Option Addr) (c1 : Nat) (l1 : List (S62)) (r1 : Int) (r2 : Int) (r3 : Int) (r4 : Int) (r5 : Int) (r6 : Int) (w0 w : World) (hI : IsS189 w0 w g s0_0 s0_1 s0_2) (hB : Below w0.heap.size w0 w) (hr1 : ∀ W_, KeepBut w W_ g none → Kd.C k62 W_ A1 l1.length l1) (hc1 : l1.length ≤ c1) (h : spec_l12Draw.f k s0_0 s0_1 s0_2 l1 = some (r1, r2, r3, r4, r5, r6)) :
  Calls Try.prog 192 #[.pointer (some ⟨g, 0, none⟩), .slice A1 l1.length c1] w fun e w' => e = .returned (.agg #[.int .i64 r1, .int .i64 r2, .int .i64 r3, .int .i64 r4]) ∧ IsS189 w0 w' g s0_0 r5 r6 ∧ Below w0.heap.size w0 w' ∧ KeepBut w w' g none := by
 have hu27 := Try.underlying27
 have HR1 := Aside0.mk hr1
 have HC1 := Aside0.mk hc1
 clear hr1 hc1
 have HI0 := Aside0.mk hI
 have HK := Aside0.mk (KeepBut.refl w g none)
 have HL := Aside0.mk hB.size
 clear hI
 have HW0 := Aside0.mk hB.size
 have HB := Aside0.mk hB
 clear hB
 have H : ((spec_l1Below.f s0_0 s0_1 s0_2 20).bind fun bt311 => ((spec_l1Below.f s0_0 bt311.2.1 bt311.2.2 4).bind fun bt315 => (spec_l12Draw.l0 k l1 bt315.1 s0_0 bt315.2.1 bt315.2.2 (wrap64 (1 + bt311.1)) 0 0 0))) = some (r1, r2, r3, r4, r5, r6) := h
 clear h
 replace H := Option.bind_eq_some_iff.mp H
 obtain ⟨⟨t311, t312, t313⟩, A30, H⟩ := H
 replace H : ((spec_l1Below.f s0_0 t312 t313 4).bind fun bt315 => (spec_l12Draw.l0 k l1 bt315.1 s0_0 bt315.2.1 bt315.2.2 (wrap64 (1 + t311)) 0 0 0)) = some (r1, r2, r3, r4, r5, r6) := H
 have A3 := Aside0.mk A30
 clear A30
 replace H := Option.bind_eq_some_iff.mp H
 obtain ⟨⟨t315, t316, t317⟩, A40, H⟩ := H
 replace H : (spec_l12Draw.l0 k l1 t315 s0_0 t316 t317 (wrap64 (1 + t311)) 0 0 0) = some (r1, r2, r3, r4, r5, r6) := H
 have A4 := Aside0.mk A40
 clear A40
 have H' := Aside0.mk H
 clear H
 go_enter Try.func192, Try.ntmps192
 go_wp2_with (first | ((with_reducible refine gate_dst (N := 4) rfl ?_); refine box_event ?hg (N := 4) ?hd (cs := #[.int .i64 0, .int .i64 0, .int .i64 0, .int .i64 0]) (t := 27) ?hr ?_; (case hd => rfl); (case hg => rfl); (case hr => first | (go_simp; done) | (go_simp; rfl)); intro gb310 hg w5 hbox hb; have n0_ := Aside0.mk (IsS189.below (by repeat (first | (with_reducible first | exact HI0.out | apply IsS189.alloc | apply IsS189.drewN | apply IsS189.drew | apply IsS189.set_1 | apply IsS189.set_2) | exact HI0.out)) hb); have n1_ := Aside0.mk (KeepBut.trans (by repeat (first | (with_reducible first | exact HK.out | apply KeepBut.set_ | apply keep_drewN | apply keep_drew | apply keep_alloc) | exact HK.out)) (KeepBut.of_below hb g none) (.inl rfl)); have n2_ := Aside0.mk (below_step (by repeat (first | (with_reducible first | exact HB.out | apply bA | apply bN | apply bD | refine bS ?_ (IsS189.ge HI0.out)) | exact HB.out)) hb); have n3_ := Aside0.mk (hbox); have n4_ := Aside0.mk ((by rw [hg]; exact (keep_size (w := w) (g := g) (row := none) (by repeat (first | (with_reducible first | exact HK.out | apply KeepBut.set_ | apply keep_drewN | apply keep_drew | apply keep_alloc) | exact HK.out))) : w.heap.size ≤ gb310)); have n5_ := Aside0.mk ((Nat.le_trans HW0.out (by rw [hg]; exact (keep_size (w := w) (g := g) (row := none) (by repeat (first | (with_reducible first | exact HK.out | apply KeepBut.set_ | apply keep_drewN | apply keep_drew | apply keep_alloc) | exact HK.out))) : w.heap.size ≤ gb310) : w0.heap.size ≤ gb310)); have n6_ := Aside0.mk ((by rw [hg]; exact Nat.ne_of_lt (IsS189.lt (show IsS189 w0 _ g s0_0 s0_1 s0_2 from by repeat (first | (with_reducible first | exact HI0.out | apply IsS189.alloc | apply IsS189.drewN | apply IsS189.drew | apply IsS189.set_1 | apply IsS189.set_2) | exact HI0.out))) : g ≠ gb310)); have n7_ := Aside0.mk ((by rw [hg]; exact Nat.ne_of_gt (IsS189.lt (show IsS189 w0 _ g s0_0 s0_1 s0_2 from by repeat (first | (with_reducible first | exact HI0.out | apply IsS189.alloc | apply IsS189.drewN | apply IsS189.drew | apply IsS189.set_1 | apply IsS189.set_2) | exact HI0.out))) : gb310 ≠ g)); clear HI0; clear HK; clear HB; have HI0 := n0_; have HK := n1_; have HB := n2_; have BK310 := n3_; have GW310 := n4_; have GE310 := n5_; have NB0_310 := n6_; have NB310_0 := n7_; clear n0_ n1_ n2_ n3_ n4_ n5_ n6_ n7_; clear hb hbox hg) | ((with_reducible refine gate_callee (f := 112) rfl ?_); refine goesL_ (some 9) rfl rfl Try.func112 (by kernel_rfl) rfl #[.pointer (some ⟨g, 0, none⟩), .int .i64 20] rfl (by (try simp only [mA, mC, mN]); first | done | rfl | (simp only [lD, lT]; rfl)) ?_; (with_reducible refine (spec_l1Below.calls g s0_0 s0_1 s0_2 20 t311 t312 t313 w0 _ ?side1 ?side2 A3.out).mono ?_); (case side1 => repeat (first | (with_reducible first | exact HI0.out | apply IsS189.alloc | apply IsS189.drewN | apply IsS189.drew | apply IsS189.set_1 | apply IsS189.set_2 | refine IsS189.far ?_ NB0_310.out _) | exact HI0.out)); (case side2 => repeat (first | (with_reducible first | exact HB.out | apply bA | apply bN | apply bD | refine bS ?_ (IsS189.ge HI0.out) | refine bS ?_ GE310.out) | exact HB.out)); rintro e w6 ⟨rfl, hi, hb, hk⟩; refine ⟨_, rfl, ?_⟩; have n0_ := Aside0.mk (KeepBut.blk hk (g' := gb310) (o := .cells #[.int .i64 0, .int .i64 0, .int .i64 0, .int .i64 0] 27 (0, 0)) (qK BK310) NB310_0.out (by simp)); have n1_ := Aside0.mk (KeepBut.trans (by repeat (first | (with_reducible first | exact HK.out | apply KeepBut.set_ | apply keep_drewN | apply keep_drew | apply keep_alloc | refine keep_far ?_ GW310.out _) | exact HK.out)) hk (.inl rfl)); have n2_ := Aside0.mk (hb); have n3_ := Aside0.mk (hi); clear BK310; clear HK; clear HB; clear HI0; have BK310 := n0_; have HK := n1_; have HB := n2_; have HI0 := n3_; clear n0_ n1_ n2_ n3_; (try clear hb); (try clear hb2); (try clear hk); (try clear hi)) | ((with_reducible refine gate_dst (N := 5) rfl ?_); refine box_event ?hg (N := 5) ?hd (cs := #[.int .i64 0, .int .i64 0, .int .i64 0, .int .i64 0]) (t := 27) ?hr ?_; (case hd => rfl); (case hg => rfl); (case hr => first | (go_simp; done) | (go_simp; rfl)); intro gb314 hg w7 hbox hb; have n0_ := Aside0.mk (IsS189.below (by repeat (first | (with_reducible first | exact HI0.out | apply IsS189.alloc | apply IsS189.drewN | apply IsS189.drew | apply IsS189.set_1 | apply IsS189.set_2 | refine IsS189.far ?_ NB0_310.out _) | exact HI0.out)) hb); have n1_ := Aside0.mk (blk_below (qK BK310) hb); have n2_ := Aside0.mk (KeepBut.trans (by repeat (first | (with_reducible first | exact HK.out | apply KeepBut.set_ | apply keep_drewN | apply keep_drew | apply keep_alloc | refine keep_far ?_ GW310.out _) | exact HK.out)) (KeepBut.of_below hb g none) (.inl rfl)); have n3_ := Aside0.mk (below_step (by repeat (first | (with_reducible first | exact HB.out | apply bA | apply bN | apply bD | refine bS ?_ (IsS189.ge HI0.out) | refine bS ?_ GE310.out) | exact HB.out)) hb); have n4_ := Aside0.mk (hbox); have n5_ := Aside0.mk ((by rw [hg]; exact (keep_size (w := w) (g := g) (row := none) (by repeat (first | (with_reducible first | exact HK.out | apply KeepBut.set_ | apply keep_drewN | apply keep_drew | apply keep_alloc | refine keep_far ?_ GW310.out _) | exact HK.out))) : w.heap.size ≤ gb314)); have n6_ := Aside0.mk ((Nat.le_trans HW0.out (by rw [hg]; exact (keep_size (w := w) (g := g) (row := none) (by repeat (first | (with_reducible first | exact HK.out | apply KeepBut.set_ | apply keep_drewN | apply keep_drew | apply keep_alloc | refine keep_far ?_ GW310.out _) | exact HK.out))) : w.heap.size ≤ gb314) : w0.heap.size ≤ gb314)); have n7_ := Aside0.mk ((by rw [hg]; exact Nat.ne_of_lt (blk_lt (qK BK310)) : gb310 ≠ gb314)); have n8_ := Aside0.mk ((by rw [hg]; exact Nat.ne_of_gt (blk_lt (qK BK310)) : gb314 ≠ gb310)); have n9_ := Aside0.mk ((by rw [hg]; exact Nat.ne_of_lt (IsS189.lt (show IsS189 w0 _ g s0_0 t312 t313 from by repeat (first | (with_reducible first | exact HI0.out | apply IsS189.alloc | apply IsS189.drewN | apply IsS189.drew | apply IsS189.set_1 | apply IsS189.set_2 | refine IsS189.far ?_ NB0_310.out _) | exact HI0.out))) : g ≠ gb314)); have n10_ := Aside0.mk ((by rw [hg]; exact Nat.ne_of_gt (IsS189.lt (show IsS189 w0 _ g s0_0 t312 t313 from by repeat (first | (with_reducible first | exact HI0.out | apply IsS189.alloc | apply IsS189.drewN | apply IsS189.drew | apply IsS189.set_1 | apply IsS189.set_2 | refine IsS189.far ?_ NB0_310.out _) | exact HI0.out))) : gb314 ≠ g)); clear HI0; clear BK310; clear HK; clear HB; have HI0 := n0_; have BK310 := n1_; have HK := n2_; have HB := n3_; have BK314 := n4_; have GW314 := n5_; have GE314 := n6_; have NB310_314 := n7_; have NB314_310 := n8_; have NB0_314 := n9_; have NB314_0 := n10_; clear n0_ n1_ n2_ n3_ n4_ n5_ n6_ n7_ n8_ n9_ n10_; clear hb hbox hg; have hnb8 := NB314_310.out; have hnc8 := NB310_314.out; have hnb9 := NB314_0.out; have hnc9 := NB0_314.out; have hcz10_0 : w7.cell? ⟨gb314, 0, none⟩ = some (.int .i64 0) := cC BK314 0; have hcz10_1 : w7.cell? ⟨gb314, 1, none⟩ = some (.int .i64 0) := cC BK314 1; have hcz10_2 : w7.cell? ⟨gb314, 2, none⟩ = some (.int .i64 0) := cC BK314 2; have hcz10_3 : w7.cell? ⟨gb314, 3, none⟩ = some (.int .i64 0) := cC BK314 3; have hfz10_0 := blk_frozen BK314.out 0; have hfz10_1 := blk_frozen BK314.out 1; have hfz10_2 := blk_frozen BK314.out 2; have hfz10_3 := blk_frozen BK314.out 3) | ((with_reducible refine gate_callee (f := 112) rfl ?_); refine goesL_ (some 13) rfl rfl Try.func112 (by kernel_rfl) rfl #[.pointer (some ⟨g, 0, none⟩), .int .i64 4] rfl (by (try simp only [mA, mC, mN]); first | done | rfl | (simp only [lD, lT]; rfl)) ?_; (with_reducible refine (spec_l1Below.calls g s0_0 t312 t313 4 t315 t316 t317 w0 _ ?side1 ?side2 A4.out).mono ?_); (case side1 => repeat (first | (with_reducible first | exact HI0.out | apply IsS189.alloc | apply IsS189.drewN | apply IsS189.drew | apply IsS189.set_1 | apply IsS189.set_2 | refine IsS189.far ?_ NB0_310.out _ | refine IsS189.far ?_ NB0_314.out _) | exact HI0.out)); (case side2 => repeat (first | (with_reducible first | exact HB.out | apply bA | apply bN | apply bD | refine bS ?_ (IsS189.ge HI0.out) | refine bS ?_ GE310.out | refine bS ?_ GE314.out) | exact HB.out)); rintro e w11 ⟨rfl, hi, hb, hk⟩; refine ⟨_, rfl, ?_⟩; have n0_ := Aside0.mk (KeepBut.blk hk (g' := gb310) (o := .cells #[.int .i64 0, .int .i64 0, .int .i64 0, .int .i64 0] 27 (0, 0)) (by (with_reducible repeat first | refine kN ?_ _ | refine kD ?_ | refine kA ?_ _); exact blk4 BK310.out NB310_314) NB310_0.out (by simp)); have n1_ := Aside0.mk (KeepBut.blk hk (g' := gb314) (o := .cells #[.int .i64 (wrap64 (1 + t311)), .int .i64 0, .int .i64 0, .int .i64 0] 27 (0, 0)) (by (with_reducible repeat first | refine kN ?_ _ | refine kD ?_ | refine kA ?_ _); refine blk_put (cs := #[.int .i64 (wrap64 (1 + t311)), .int .i64 0, .int .i64 0, .int .i64 0]) ?_ 3 _ rfl; (with_reducible repeat first | refine kN ?_ _ | refine kD ?_ | refine kA ?_ _); refine blk_put (cs := #[.int .i64 (wrap64 (1 + t311)), .int .i64 0, .int .i64 0, .int .i64 0]) ?_ 2 _ rfl; (with_reducible repeat first | refine kN ?_ _ | refine kD ?_ | refine kA ?_ _); refine blk_put (cs := #[.int .i64 (wrap64 (1 + t311)), .int .i64 0, .int .i64 0, .int .i64 0]) ?_ 1 _ rfl; (with_reducible repeat first | refine kN ?_ _ | refine kD ?_ | refine kA ?_ _); refine blk_put (cs := #[.int .i64 0, .int .i64 0, .int .i64 0, .int .i64 0]) ?_ 0 _ rfl; (with_reducible repeat first | refine kN ?_ _ | refine kD ?_ | refine kA ?_ _); exact BK314.out) NB314_0.out (by simp)); have n2_ := Aside0.mk (KeepBut.trans (by repeat (first | (with_reducible first | exact HK.out | apply KeepBut.set_ | apply keep_drewN | apply keep_drew | apply keep_alloc | refine keep_far ?_ GW310.out _ | refine keep_far ?_ GW314.out _) | exact HK.out)) hk (.inl rfl)); have n3_ := Aside0.mk (hb); have n4_ := Aside0.mk (hi); clear BK310; clear BK314; clear HK; clear HB; clear HI0; have BK310 := n0_; have BK314 := n1_; have HK := n2_; have HB := n3_; have HI0 := n4_; clear n0_ n1_ n2_ n3_ n4_; (try clear hb); (try clear hb2); (try clear hk); (try clear hi)))
 go_loopg [6] k (fun kq v6 w' => ∃ (x6_1 : Int) (x1001_1 : Int) (x1002_1 : Int) (x315000_1 : Int) (x315001_1 : Int) (x315002_1 : Int) (x315003_1 : Int), v6 = .int .i64 x6_1 ∧ Aside0 (spec_l12Draw.l0 kq l1 x6_1 s0_0 x1001_1 x1002_1 x315000_1 x315001_1 x315002_1 x315003_1 = some (r1, r2, r3, r4, r5, r6)) ∧ Aside0 (kq ≤ k) ∧ Aside0 (w'.heap[gb310]? = some (.cells #[.int .i64 0, .int .i64 0, .int .i64 0, .int .i64 0] 27 (0, 0))) ∧ Aside0 (w'.heap[gb314]? = some (.cells #[.int .i64 x315000_1, .int .i64 x315001_1, .int .i64 x315002_1, .int .i64 x315003_1] 27 (0, 0))) ∧ Aside0 (IsS189 w0 w' g s0_0 x1001_1 x1002_1) ∧ Aside0 (KeepBut w w' g none) ∧ Aside0 (Below w0.heap.size w0 w'))
 case atStart => exact ⟨(t315), (t316), (t317), (wrap64 (1 + t311)), (0), (0), (0), (by first | rfl | (simp; done) | (simp [*]; done)), H', ⟨Nat.le_refl _⟩, ⟨by (with_reducible repeat first | refine kN ?_ _ | refine kD ?_ | refine kA ?_ _); exact BK310.out⟩, ⟨by (with_reducible repeat first | refine kN ?_ _ | refine kD ?_ | refine kA ?_ _); exact BK314.out⟩, ⟨by repeat (first | (with_reducible first | exact HI0.out | apply IsS189.alloc | apply IsS189.drewN | apply IsS189.drew | apply IsS189.set_1 | apply IsS189.set_2 | refine IsS189.far ?_ NB0_310.out _ | refine IsS189.far ?_ NB0_314.out _) | exact HI0.out)⟩, ⟨by repeat (first | (with_reducible first | exact HK.out | apply KeepBut.set_ | apply keep_drewN | apply keep_drew | apply keep_alloc | refine keep_far ?_ GW310.out _ | refine keep_far ?_ GW314.out _) | exact HK.out)⟩, ⟨by repeat (first | (with_reducible first | exact HB.out | apply bA | apply bN | apply bD | refine bS ?_ (IsS189.ge HI0.out) | refine bS ?_ GE310.out | refine bS ?_ GE314.out) | exact HB.out)⟩⟩
 case round =>
  clear H'
  try clear c1
  try clear p2
  try clear p6
  try clear c8
  try clear c9
  try clear c11
  try clear hcz10_0
  try clear hcz10_1
  try clear hcz10_2
  try clear hcz10_3
  try clear hfz10_0
  try clear hfz10_1
  try clear hfz10_2
  try clear hfz10_3
  obtain ⟨x6_1, x1001_1, x1002_1, x315000_1, x315001_1, x315002_1, x315003_1, rfl, HA, HK1, BK310, BK314, HI0, HK, HB⟩ := hrel
  cases gk with
  | zero => exact absurd HA.out (by simp [spec_l12Draw.l0])
  | succ k1 =>
   have H := HA.out
   clear HA
   simp only [spec_l12Draw.l0] at H
   by_cases c12 : x6_1 > 0
   ·rw [if_pos c12] at H
    have c12b0 : decide (0 < x6_1) = true := decide_eq_true c12
    clear c12
    replace H := Option.bind_eq_some_iff.mp H
    obtain ⟨t318, A130, H⟩ := H
    replace H : ((spec_AnswerOf.f k1 l1 t318).bind fun t319 => ((spec_l1Once.f s0_0 x1001_1 x1002_1 4).bind fun bt320 => (if bt320.1 = true then ((spec_l1Below.f s0_0 bt320.2.1 bt320.2.2 9).bind fun bt323 => ((spec_GiveAnswer.f k1 l1 x315000_1 x315001_1 x315002_1 x315003_1 bt323.1).bind fun bt326 => (spec_l12Draw.l0 k1 l1 (wrap64 (x6_1 - 1)) s0_0 bt323.2.1 bt323.2.2 bt326.1 bt326.2.1 bt326.2.2.1 bt326.2.2.2.1))) else ((spec_GiveAnswer.f k1 l1 x315000_1 x315001_1 x315002_1 x315003_1 t319).bind fun bt331 => (spec_l12Draw.l0 k1 l1 (wrap64 (x6_1 - 1)) s0_0 bt320.2.1 bt320.2.2 bt331.1 bt331.2.1 bt331.2.2.1 bt331.2.2.2.1))))) = some (r1, r2, r3, r4, r5, r6) := H
    have A13 := Aside0.mk A130
    clear A130
    replace H := Option.bind_eq_some_iff.mp H
    obtain ⟨t319, A140, H⟩ := H
    replace H : ((spec_l1Once.f s0_0 x1001_1 x1002_1 4).bind fun bt320 => (if bt320.1 = true then ((spec_l1Below.f s0_0 bt320.2.1 bt320.2.2 9).bind fun bt323 => ((spec_GiveAnswer.f k1 l1 x315000_1 x315001_1 x315002_1 x315003_1 bt323.1).bind fun bt326 => (spec_l12Draw.l0 k1 l1 (wrap64 (x6_1 - 1)) s0_0 bt323.2.1 bt323.2.2 bt326.1 bt326.2.1 bt326.2.2.1 bt326.2.2.2.1))) else ((spec_GiveAnswer.f k1 l1 x315000_1 x315001_1 x315002_1 x315003_1 t319).bind fun bt331 => (spec_l12Draw.l0 k1 l1 (wrap64 (x6_1 - 1)) s0_0 bt320.2.1 bt320.2.2 bt331.1 bt331.2.1 bt331.2.2.1 bt331.2.2.2.1)))) = some (r1, r2, r3, r4, r5, r6) := H
    have A14 := Aside0.mk A140
    clear A140
    replace H := Option.bind_eq_some_iff.mp H
    obtain ⟨⟨t320, t321, t322⟩, A150, H⟩ := H
    replace H : (if t320 = true then ((spec_l1Below.f s0_0 t321 t322 9).bind fun bt323 => ((spec_GiveAnswer.f k1 l1 x315000_1 x315001_1 x315002_1 x315003_1 bt323.1).bind fun bt326 => (spec_l12Draw.l0 k1 l1 (wrap64 (x6_1 - 1)) s0_0 bt323.2.1 bt323.2.2 bt326.1 bt326.2.1 bt326.2.2.1 bt326.2.2.2.1))) else ((spec_GiveAnswer.f k1 l1 x315000_1 x315001_1 x315002_1 x315003_1 t319).bind fun bt331 => (spec_l12Draw.l0 k1 l1 (wrap64 (x6_1 - 1)) s0_0 t321 t322 bt331.1 bt331.2.1 bt331.2.2.1 bt331.2.2.2.1))) = some (r1, r2, r3, r4, r5, r6) := H
    have A15 := Aside0.mk A150
    clear A150
    by_cases c16 : t320 = true
    ·subst c16
     have H1 : ((spec_l1Below.f s0_0 t321 t322 9).bind fun bt323 => ((spec_GiveAnswer.f k1 l1 x315000_1 x315001_1 x315002_1 x315003_1 bt323.1).bind fun bt326 => (spec_l12Draw.l0 k1 l1 (wrap64 (x6_1 - 1)) s0_0 bt323.2.1 bt323.2.2 bt326.1 bt326.2.1 bt326.2.2.1 bt326.2.2.2.1))) = some (r1, r2, r3, r4, r5, r6) := by rw [if_pos rfl] at H; exact H
     clear H
     have H := H1
     clear H1
     replace H := Option.bind_eq_some_iff.mp H
     obtain ⟨⟨t323, t324, t325⟩, A170, H⟩ := H
     replace H : ((spec_GiveAnswer.f k1 l1 x315000_1 x315001_1 x315002_1 x315003_1 t323).bind fun bt326 => (spec_l12Draw.l0 k1 l1 (wrap64 (x6_1 - 1)) s0_0 t324 t325 bt326.1 bt326.2.1 bt326.2.2.1 bt326.2.2.2.1)) = some (r1, r2, r3, r4, r5, r6) := H
     have A17 := Aside0.mk A170
     clear A170
     replace H := Option.bind_eq_some_iff.mp H
     obtain ⟨⟨t326, t327, t328, t329, t330⟩, A180, H⟩ := H
     replace H : (spec_l12Draw.l0 k1 l1 (wrap64 (x6_1 - 1)) s0_0 t324 t325 t326 t327 t328 t329) = some (r1, r2, r3, r4, r5, r6) := H
     have A18 := Aside0.mk A180
     clear A180
     have H' := Aside0.mk H
     clear H
     have hnb19 := NB314_310.out
     have hnc19 := NB310_314.out
     have hnb20 := NB314_0.out
     have hnc20 := NB0_314.out
     have hcz21_0 : wr.cell? ⟨gb314, 0, none⟩ = some (.int .i64 x315000_1) := cC BK314 0
     have hcz21_1 : wr.cell? ⟨gb314, 1, none⟩ = some (.int .i64 x315001_1) := cC BK314 1
     have hcz21_2 : wr.cell? ⟨gb314, 2, none⟩ = some (.int .i64 x315002_1) := cC BK314 2
     have hcz21_3 : wr.cell? ⟨gb314, 3, none⟩ = some (.int .i64 x315003_1) := cC BK314 3
     have hfz21_0 := blk_frozen BK314.out 0
     have hfz21_1 := blk_frozen BK314.out 1
     have hfz21_2 := blk_frozen BK314.out 2
     have hfz21_3 := blk_frozen BK314.out 3
     go_wp2_with (first | ((with_reducible refine gate_callee (f := 120) rfl ?_); refine goesL_ (some 21) rfl rfl Try.func120 (by kernel_rfl) rfl #[.slice A1 l1.length c1, .agg #[.int .i64 x315000_1, .int .i64 x315001_1, .int .i64 x315002_1, .int .i64 x315003_1]] rfl (by (try simp only [mA, mC, mN]); first | done | rfl | (simp only [lD, lT]; rfl)) ?_; (with_reducible refine (spec_NextQuestion.calls k1 _ _ l1 x315000_1 x315001_1 x315002_1 x315003_1 t318 _ ?side1 ?side2 A13.out).mono ?_); (case side1 => exact Kd.C_foot_now HR1.out (by repeat (first | (with_reducible first | exact HK.out | apply KeepBut.set_ | apply keep_drewN | apply keep_drew | apply keep_alloc | refine keep_far ?_ GW310.out _ | refine keep_far ?_ GW314.out _) | exact HK.out))); (case side2 => exact HC1.out); rintro e w22 ⟨rfl, hb⟩; refine ⟨_, rfl, ?_⟩; have n0_ := Aside0.mk (blk_below (qK BK310) hb); have n1_ := Aside0.mk (blk_below (qK BK314) hb); have n2_ := Aside0.mk (IsS189.below (by repeat (first | (with_reducible first | exact HI0.out | apply IsS189.alloc | apply IsS189.drewN | apply IsS189.drew | apply IsS189.set_1 | apply IsS189.set_2 | refine IsS189.far ?_ NB0_310.out _ | refine IsS189.far ?_ NB0_314.out _) | exact HI0.out)) hb); have n3_ := Aside0.mk (KeepBut.trans (by repeat (first | (with_reducible first | exact HK.out | apply KeepBut.set_ | apply keep_drewN | apply keep_drew | apply keep_alloc | refine keep_far ?_ GW310.out _ | refine keep_far ?_ GW314.out _) | exact HK.out)) (KeepBut.of_below hb g none) (.inl rfl)); have n4_ := Aside0.mk (below_step (by repeat (first | (with_reducible first | exact HB.out | apply bA | apply bN | apply bD | refine bS ?_ (IsS189.ge HI0.out) | refine bS ?_ GE310.out | refine bS ?_ GE314.out) | exact HB.out)) hb); clear BK310; clear BK314; clear HI0; clear HK; clear HB; have BK310 := n0_; have BK314 := n1_; have HI0 := n2_; have HK := n3_; have HB := n4_; clear n0_ n1_ n2_ n3_ n4_; (try clear hb); (try clear hb2); (try clear hk); (try clear hi)) | ((with_reducible refine gate_callee (f := 119) rfl ?_); refine goesL_ (some 22) rfl rfl Try.func119 (by kernel_rfl) rfl #[.slice A1 l1.length c1, .int .i64 t318] rfl (by (try simp only [mA, mC, mN]); first | done | rfl | (simp only [lD, lT]; rfl)) ?_; (with_reducible refine (spec_AnswerOf.calls k1 _ _ l1 t318 t319 _ ?side1 ?side2 A14.out).mono ?_); (case side1 => exact Kd.C_foot_now HR1.out (by repeat (first | (with_reducible first | exact HK.out | apply KeepBut.set_ | apply keep_drewN | apply keep_drew | apply keep_alloc | refine keep_far ?_ GW310.out _ | refine keep_far ?_ GW314.out _) | exact HK.out))); (case side2 => exact HC1.out); rintro e w' ⟨rfl, ⟨nd, rfl⟩⟩; refine ⟨_, rfl, ?_⟩; (try (rw [drewN_self w22]; generalize hq_ : World.drewN w22 _ = w22; have n0_ : Aside0 (w22.heap[gb310]? = some (.cells #[.int .i64 0, .int .i64 0, .int .i64 0, .int .i64 0] 27 (0, 0))) := ⟨by rw [← hq_]; exact (qK BK310)⟩; have n1_ : Aside0 (w22.heap[gb314]? = some (.cells #[.int .i64 x315000_1, .int .i64 x315001_1, .int .i64 x315002_1, .int .i64 x315003_1] 27 (0, 0))) := ⟨by rw [← hq_]; exact (qK BK314)⟩; have n2_ : Aside0 (IsS189 w0 w22 g s0_0 x1001_1 x1002_1) := ⟨by rw [← hq_]; exact (by repeat (first | (with_reducible first | exact HI0.out | apply IsS189.alloc | apply IsS189.drewN | apply IsS189.drew | apply IsS189.set_1 | apply IsS189.set_2 | refine IsS189.far ?_ NB0_310.out _ | refine IsS189.far ?_ NB0_314.out _) | exact HI0.out))⟩; have n3_ : Aside0 (KeepBut w w22 g none) := ⟨by rw [← hq_]; exact (by repeat (first | (with_reducible first | exact HK.out | apply KeepBut.set_ | apply keep_drewN | apply keep_drew | apply keep_alloc | refine keep_far ?_ GW310.out _ | refine keep_far ?_ GW314.out _) | exact HK.out))⟩; have n4_ : Aside0 (Below w0.heap.size w0 w22) := ⟨by rw [← hq_]; exact (by repeat (first | (with_reducible first | exact HB.out | apply bA | apply bN | apply bD | refine bS ?_ (IsS189.ge HI0.out) | refine bS ?_ GE310.out | refine bS ?_ GE314.out) | exact HB.out))⟩; clear BK310 BK314 HI0 HK HB hq_; have BK310 := n0_; have BK314 := n1_; have HI0 := n2_; have HK := n3_; have HB := n4_; clear n0_ n1_ n2_ n3_ n4_))) | ((with_reducible refine gate_callee (f := 121) rfl ?_); refine goesL_ (some 24) rfl rfl Try.func121 (by kernel_rfl) rfl #[.pointer (some ⟨g, 0, none⟩), .int .i64 4] rfl (by (try simp only [mA, mC, mN]); first | done | rfl | (simp only [lD, lT]; rfl)) ?_; (with_reducible refine (spec_l1Once.calls g s0_0 x1001_1 x1002_1 4 true t321 t322 w0 _ ?side1 ?side2 A15.out).mono ?_); (case side1 => repeat (first | (with_reducible first | exact HI0.out | apply IsS189.alloc | apply IsS189.drewN | apply IsS189.drew | apply IsS189.set_1 | apply IsS189.set_2 | refine IsS189.far ?_ NB0_310.out _ | refine IsS189.far ?_ NB0_314.out _) | exact HI0.out)); (case side2 => repeat (first | (with_reducible first | exact HB.out | apply bA | apply bN | apply bD | refine bS ?_ (IsS189.ge HI0.out) | refine bS ?_ GE310.out | refine bS ?_ GE314.out) | exact HB.out)); rintro e w23 ⟨rfl, hi, hb, hk⟩; refine ⟨_, rfl, ?_⟩; have n0_ := Aside0.mk (KeepBut.blk hk (g' := gb310) (o := .cells #[.int .i64 0, .int .i64 0, .int .i64 0, .int .i64 0] 27 (0, 0)) (qK BK310) NB310_0.out (by simp)); have n1_ := Aside0.mk (KeepBut.blk hk (g' := gb314) (o := .cells #[.int .i64 x315000_1, .int .i64 x315001_1, .int .i64 x315002_1, .int .i64 x315003_1] 27 (0, 0)) (qK BK314) NB314_0.out (by simp)); have n2_ := Aside0.mk (KeepBut.trans (by repeat (first | (with_reducible first | exact HK.out | apply KeepBut.set_ | apply keep_drewN | apply keep_drew | apply keep_alloc | refine keep_far ?_ GW310.out _ | refine keep_far ?_ GW314.out _) | exact HK.out)) hk (.inl rfl)); have n3_ := Aside0.mk (hb); have n4_ := Aside0.mk (hi); clear BK310; clear BK314; clear HK; clear HB; clear HI0; have BK310 := n0_; have BK314 := n1_; have HK := n2_; have HB := n3_; have HI0 := n4_; clear n0_ n1_ n2_ n3_ n4_; (try clear hb); (try clear hb2); (try clear hk); (try clear hi)) | ((with_reducible refine gate_callee (f := 112) rfl ?_); refine goesL_ (some 26) rfl rfl Try.func112 (by kernel_rfl) rfl #[.pointer (some ⟨g, 0, none⟩), .int .i64 9] rfl (by (try simp only [mA, mC, mN]); first | done | rfl | (simp only [lD, lT]; rfl)) ?_; (with_reducible refine (spec_l1Below.calls g s0_0 t321 t322 9 t323 t324 t325 w0 _ ?side1 ?side2 A17.out).mono ?_); (case side1 => repeat (first | (with_reducible first | exact HI0.out | apply IsS189.alloc | apply IsS189.drewN | apply IsS189.drew | apply IsS189.set_1 | apply IsS189.set_2 | refine IsS189.far ?_ NB0_310.out _ | refine IsS189.far ?_ NB0_314.out _) | exact HI0.out)); (case side2 => repeat (first | (with_reducible first | exact HB.out | apply bA | apply bN | apply bD | refine bS ?_ (IsS189.ge HI0.out) | refine bS ?_ GE310.out | refine bS ?_ GE314.out) | exact HB.out)); rintro e w24 ⟨rfl, hi, hb, hk⟩; refine ⟨_, rfl, ?_⟩; have n0_ := Aside0.mk (KeepBut.blk hk (g' := gb310) (o := .cells #[.int .i64 0, .int .i64 0, .int .i64 0, .int .i64 0] 27 (0, 0)) (qK BK310) NB310_0.out (by simp)); have n1_ := Aside0.mk (KeepBut.blk hk (g' := gb314) (o := .cells #[.int .i64 x315000_1, .int .i64 x315001_1, .int .i64 x315002_1, .int .i64 x315003_1] 27 (0, 0)) (qK BK314) NB314_0.out (by simp)); have n2_ := Aside0.mk (KeepBut.trans (by repeat (first | (with_reducible first | exact HK.out | apply KeepBut.set_ | apply keep_drewN | apply keep_drew | apply keep_alloc | refine keep_far ?_ GW310.out _ | refine keep_far ?_ GW314.out _) | exact HK.out)) hk (.inl rfl)); have n3_ := Aside0.mk (hb); have n4_ := Aside0.mk (hi); clear BK310; clear BK314; clear HK; clear HB; clear HI0; have BK310 := n0_; have BK314 := n1_; have HK := n2_; have HB := n3_; have HI0 := n4_; clear n0_ n1_ n2_ n3_ n4_; (try clear hb); (try clear hb2); (try clear hk); (try clear hi); have hcz25_0 : w24.cell? ⟨gb314, 0, none⟩ = some (.int .i64 x315000_1) := cC BK314 0; have hcz25_1 : w24.cell? ⟨gb314, 1, none⟩ = some (.int .i64 x315001_1) := cC BK314 1; have hcz25_2 : w24.cell? ⟨gb314, 2, none⟩ = some (.int .i64 x315002_1) := cC BK314 2; have hcz25_3 : w24.cell? ⟨gb314, 3, none⟩ = some (.int .i64 x315003_1) := cC BK314 3; have hfz25_0 := blk_frozen BK314.out 0; have hfz25_1 := blk_frozen BK314.out 1; have hfz25_2 := blk_frozen BK314.out 2; have hfz25_3 := blk_frozen BK314.out 3) | ((with_reducible refine gate_callee (f := 99) rfl ?_); refine goesL_ (some 31) rfl rfl Try.func99 (by kernel_rfl) rfl #[.slice A1 l1.length c1, .agg #[.int .i64 x315000_1, .int .i64 x315001_1, .int .i64 x315002_1, .int .i64 x315003_1], .int .i64 t323] rfl (by (try simp only [mA, mC, mN]); first | done | rfl | (simp only [lD, lT]; rfl)) ?_; (with_reducible refine (spec_GiveAnswer.calls k1 _ _ l1 x315000_1 x315001_1 x315002_1 x315003_1 t323 t326 t327 t328 t329 t330 _ ?side1 ?side2 A18.out).mono ?_); (case side1 => exact Kd.C_foot_now HR1.out (by repeat (first | (with_reducible first | exact HK.out | apply KeepBut.set_ | apply keep_drewN | apply keep_drew | apply keep_alloc | refine keep_far ?_ GW310.out _ | refine keep_far ?_ GW314.out _) | exact HK.out))); (case side2 => exact HC1.out); rintro e w26 ⟨rfl, hb⟩; refine ⟨_, rfl, ?_⟩; have n0_ := Aside0.mk (blk_below (qK BK310) hb); have n1_ := Aside0.mk (blk_below (qK BK314) hb); have n2_ := Aside0.mk (IsS189.below (by repeat (first | (with_reducible first | exact HI0.out | apply IsS189.alloc | apply IsS189.drewN | apply IsS189.drew | apply IsS189.set_1 | apply IsS189.set_2 | refine IsS189.far ?_ NB0_310.out _ | refine IsS189.far ?_ NB0_314.out _) | exact HI0.out)) hb); have n3_ := Aside0.mk (KeepBut.trans (by repeat (first | (with_reducible first | exact HK.out | apply KeepBut.set_ | apply keep_drewN | apply keep_drew | apply keep_alloc | refine keep_far ?_ GW310.out _ | refine keep_far ?_ GW314.out _) | exact HK.out)) (KeepBut.of_below hb g none) (.inl rfl)); have n4_ := Aside0.mk (below_step (by repeat (first | (with_reducible first | exact HB.out | apply bA | apply bN | apply bD | refine bS ?_ (IsS189.ge HI0.out) | refine bS ?_ GE310.out | refine bS ?_ GE314.out) | exact HB.out)) hb); clear BK310; clear BK314; clear HI0; clear HK; clear HB; have BK310 := n0_; have BK314 := n1_; have HI0 := n2_; have HK := n3_; have HB := n4_; clear n0_ n1_ n2_ n3_ n4_; (try clear hb); (try clear hb2); (try clear hk); (try clear hi); have hcz27_0 : w26.cell? ⟨gb314, 0, none⟩ = some (.int .i64 x315000_1) := cC BK314 0; have hcz27_1 : w26.cell? ⟨gb314, 1, none⟩ = some (.int .i64 x315001_1) := cC BK314 1; have hcz27_2 : w26.cell? ⟨gb314, 2, none⟩ = some (.int .i64 x315002_1) := cC BK314 2; have hcz27_3 : w26.cell? ⟨gb314, 3, none⟩ = some (.int .i64 x315003_1) := cC BK314 3; have hfz27_0 := blk_frozen BK314.out 0; have hfz27_1 := blk_frozen BK314.out 1; have hfz27_2 := blk_frozen BK314.out 2; have hfz27_3 := blk_frozen BK314.out 3))
     go_roundg k1
     case measure => have := HK1.out; omega
     case rel => exact ⟨(wrap64 (x6_1 - 1)), (t324), (t325), (t326), (t327), (t328), (t329), (by first | rfl | (simp; done) | (simp [*]; done)), H', ⟨by have := HK1.out; omega⟩, ⟨by (with_reducible repeat first | refine kN ?_ _ | refine kD ?_ | refine kA ?_ _); exact blk4 BK310.out NB310_314⟩, ⟨by (with_reducible repeat first | refine kN ?_ _ | refine kD ?_ | refine kA ?_ _); refine blk_put (cs := #[.int .i64 t326, .int .i64 t327, .int .i64 t328, .int .i64 x315003_1]) ?_ 3 _ rfl; (with_reducible repeat first | refine kN ?_ _ | refine kD ?_ | refine kA ?_ _); refine blk_put (cs := #[.int .i64 t326, .int .i64 t327, .int .i64 x315002_1, .int .i64 x315003_1]) ?_ 2 _ rfl; (with_reducible repeat first | refine kN ?_ _ | refine kD ?_ | refine kA ?_ _); refine blk_put (cs := #[.int .i64 t326, .int .i64 x315001_1, .int .i64 x315002_1, .int .i64 x315003_1]) ?_ 1 _ rfl; (with_reducible repeat first | refine kN ?_ _ | refine kD ?_ | refine kA ?_ _); refine blk_put (cs := #[.int .i64 x315000_1, .int .i64 x315001_1, .int .i64 x315002_1, .int .i64 x315003_1]) ?_ 0 _ rfl; (with_reducible repeat first | refine kN ?_ _ | refine kD ?_ | refine kA ?_ _); exact BK314.out⟩, ⟨by repeat (first | (with_reducible first | exact HI0.out | apply IsS189.alloc | apply IsS189.drewN | apply IsS189.drew | apply IsS189.set_1 | apply IsS189.set_2 | refine IsS189.far ?_ NB0_310.out _ | refine IsS189.far ?_ NB0_314.out _) | exact HI0.out)⟩, ⟨by repeat (first | (with_reducible first | exact HK.out | apply KeepBut.set_ | apply keep_drewN | apply keep_drew | apply keep_alloc | refine keep_far ?_ GW310.out _ | refine keep_far ?_ GW314.out _) | exact HK.out)⟩, ⟨by repeat (first | (with_reducible first | exact HB.out | apply bA | apply bN | apply bD | refine bS ?_ (IsS189.ge HI0.out) | refine bS ?_ GE310.out | refine bS ?_ GE314.out) | exact HB.out)⟩⟩
    ·replace c16 := Bool.eq_false_iff.mpr c16
     subst c16
     have H1 : ((spec_GiveAnswer.f k1 l1 x315000_1 x315001_1 x315002_1 x315003_1 t319).bind fun bt331 => (spec_l12Draw.l0 k1 l1 (wrap64 (x6_1 - 1)) s0_0 t321 t322 bt331.1 bt331.2.1 bt331.2.2.1 bt331.2.2.2.1)) = some (r1, r2, r3, r4, r5, r6) := by rw [if_neg (show ¬ (false = true) by decide)] at H; exact H
     clear H
     have H := H1
     clear H1
     replace H := Option.bind_eq_some_iff.mp H
     obtain ⟨⟨t331, t332, t333, t334, t335⟩, A280, H⟩ := H
     replace H : (spec_l12Draw.l0 k1 l1 (wrap64 (x6_1 - 1)) s0_0 t321 t322 t331 t332 t333 t334) = some (r1, r2, r3, r4, r5, r6) := H
     have A28 := Aside0.mk A280
     clear A280
     have H' := Aside0.mk H
     clear H
     have hnb29 := NB314_310.out
     have hnc29 := NB310_314.out
     have hnb30 := NB314_0.out
     have hnc30 := NB0_314.out
     have hcz31_0 : wr.cell? ⟨gb314, 0, none⟩ = some (.int .i64 x315000_1) := cC BK314 0
     have hcz31_1 : wr.cell? ⟨gb314, 1, none⟩ = some (.int .i64 x315001_1) := cC BK314 1
     have hcz31_2 : wr.cell? ⟨gb314, 2, none⟩ = some (.int .i64 x315002_1) := cC BK314 2
     have hcz31_3 : wr.cell? ⟨gb314, 3, none⟩ = some (.int .i64 x315003_1) := cC BK314 3
     have hfz31_0 := blk_frozen BK314.out 0
     have hfz31_1 := blk_frozen BK314.out 1
     have hfz31_2 := blk_frozen BK314.out 2
     have hfz31_3 := blk_frozen BK314.out 3
     go_wp2_with (first | ((with_reducible refine gate_callee (f := 120) rfl ?_); refine goesL_ (some 21) rfl rfl Try.func120 (by kernel_rfl) rfl #[.slice A1 l1.length c1, .agg #[.int .i64 x315000_1, .int .i64 x315001_1, .int .i64 x315002_1, .int .i64 x315003_1]] rfl (by (try simp only [mA, mC, mN]); first | done | rfl | (simp only [lD, lT]; rfl)) ?_; (with_reducible refine (spec_NextQuestion.calls k1 _ _ l1 x315000_1 x315001_1 x315002_1 x315003_1 t318 _ ?side1 ?side2 A13.out).mono ?_); (case side1 => exact Kd.C_foot_now HR1.out (by repeat (first | (with_reducible first | exact HK.out | apply KeepBut.set_ | apply keep_drewN | apply keep_drew | apply keep_alloc | refine keep_far ?_ GW310.out _ | refine keep_far ?_ GW314.out _) | exact HK.out))); (case side2 => exact HC1.out); rintro e w32 ⟨rfl, hb⟩; refine ⟨_, rfl, ?_⟩; have n0_ := Aside0.mk (blk_below (qK BK310) hb); have n1_ := Aside0.mk (blk_below (qK BK314) hb); have n2_ := Aside0.mk (IsS189.below (by repeat (first | (with_reducible first | exact HI0.out | apply IsS189.alloc | apply IsS189.drewN | apply IsS189.drew | apply IsS189.set_1 | apply IsS189.set_2 | refine IsS189.far ?_ NB0_310.out _ | refine IsS189.far ?_ NB0_314.out _) | exact HI0.out)) hb); have n3_ := Aside0.mk (KeepBut.trans (by repeat (first | (with_reducible first | exact HK.out | apply KeepBut.set_ | apply keep_drewN | apply keep_drew | apply keep_alloc | refine keep_far ?_ GW310.out _ | refine keep_far ?_ GW314.out _) | exact HK.out)) (KeepBut.of_below hb g none) (.inl rfl)); have n4_ := Aside0.mk (below_step (by repeat (first | (with_reducible first | exact HB.out | apply bA | apply bN | apply bD | refine bS ?_ (IsS189.ge HI0.out) | refine bS ?_ GE310.out | refine bS ?_ GE314.out) | exact HB.out)) hb); clear BK310; clear BK314; clear HI0; clear HK; clear HB; have BK310 := n0_; have BK314 := n1_; have HI0 := n2_; have HK := n3_; have HB := n4_; clear n0_ n1_ n2_ n3_ n4_; (try clear hb); (try clear hb2); (try clear hk); (try clear hi)) | ((with_reducible refine gate_callee (f := 119) rfl ?_); refine goesL_ (some 22) rfl rfl Try.func119 (by kernel_rfl) rfl #[.slice A1 l1.length c1, .int .i64 t318] rfl (by (try simp only [mA, mC, mN]); first | done | rfl | (simp only [lD, lT]; rfl)) ?_; (with_reducible refine (spec_AnswerOf.calls k1 _ _ l1 t318 t319 _ ?side1 ?side2 A14.out).mono ?_); (case side1 => exact Kd.C_foot_now HR1.out (by repeat (first | (with_reducible first | exact HK.out | apply KeepBut.set_ | apply keep_drewN | apply keep_drew | apply keep_alloc | refine keep_far ?_ GW310.out _ | refine keep_far ?_ GW314.out _) | exact HK.out))); (case side2 => exact HC1.out); rintro e w' ⟨rfl, ⟨nd, rfl⟩⟩; refine ⟨_, rfl, ?_⟩; (try (rw [drewN_self w32]; generalize hq_ : World.drewN w32 _ = w32; have n0_ : Aside0 (w32.heap[gb310]? = some (.cells #[.int .i64 0, .int .i64 0, .int .i64 0, .int .i64 0] 27 (0, 0))) := ⟨by rw [← hq_]; exact (qK BK310)⟩; have n1_ : Aside0 (w32.heap[gb314]? = some (.cells #[.int .i64 x315000_1, .int .i64 x315001_1, .int .i64 x315002_1, .int .i64 x315003_1] 27 (0, 0))) := ⟨by rw [← hq_]; exact (qK BK314)⟩; have n2_ : Aside0 (IsS189 w0 w32 g s0_0 x1001_1 x1002_1) := ⟨by rw [← hq_]; exact (by repeat (first | (with_reducible first | exact HI0.out | apply IsS189.alloc | apply IsS189.drewN | apply IsS189.drew | apply IsS189.set_1 | apply IsS189.set_2 | refine IsS189.far ?_ NB0_310.out _ | refine IsS189.far ?_ NB0_314.out _) | exact HI0.out))⟩; have n3_ : Aside0 (KeepBut w w32 g none) := ⟨by rw [← hq_]; exact (by repeat (first | (with_reducible first | exact HK.out | apply KeepBut.set_ | apply keep_drewN | apply keep_drew | apply keep_alloc | refine keep_far ?_ GW310.out _ | refine keep_far ?_ GW314.out _) | exact HK.out))⟩; have n4_ : Aside0 (Below w0.heap.size w0 w32) := ⟨by rw [← hq_]; exact (by repeat (first | (with_reducible first | exact HB.out | apply bA | apply bN | apply bD | refine bS ?_ (IsS189.ge HI0.out) | refine bS ?_ GE310.out | refine bS ?_ GE314.out) | exact HB.out))⟩; clear BK310 BK314 HI0 HK HB hq_; have BK310 := n0_; have BK314 := n1_; have HI0 := n2_; have HK := n3_; have HB := n4_; clear n0_ n1_ n2_ n3_ n4_))) | ((with_reducible refine gate_callee (f := 121) rfl ?_); refine goesL_ (some 24) rfl rfl Try.func121 (by kernel_rfl) rfl #[.pointer (some ⟨g, 0, none⟩), .int .i64 4] rfl (by (try simp only [mA, mC, mN]); first | done | rfl | (simp only [lD, lT]; rfl)) ?_; (with_reducible refine (spec_l1Once.calls g s0_0 x1001_1 x1002_1 4 false t321 t322 w0 _ ?side1 ?side2 A15.out).mono ?_); (case side1 => repeat (first | (with_reducible first | exact HI0.out | apply IsS189.alloc | apply IsS189.drewN | apply IsS189.drew | apply IsS189.set_1 | apply IsS189.set_2 | refine IsS189.far ?_ NB0_310.out _ | refine IsS189.far ?_ NB0_314.out _) | exact HI0.out)); (case side2 => repeat (first | (with_reducible first | exact HB.out | apply bA | apply bN | apply bD | refine bS ?_ (IsS189.ge HI0.out) | refine bS ?_ GE310.out | refine bS ?_ GE314.out) | exact HB.out)); rintro e w33 ⟨rfl, hi, hb, hk⟩; refine ⟨_, rfl, ?_⟩; have n0_ := Aside0.mk (KeepBut.blk hk (g' := gb310) (o := .cells #[.int .i64 0, .int .i64 0, .int .i64 0, .int .i64 0] 27 (0, 0)) (qK BK310) NB310_0.out (by simp)); have n1_ := Aside0.mk (KeepBut.blk hk (g' := gb314) (o := .cells #[.int .i64 x315000_1, .int .i64 x315001_1, .int .i64 x315002_1, .int .i64 x315003_1] 27 (0, 0)) (qK BK314) NB314_0.out (by simp)); have n2_ := Aside0.mk (KeepBut.trans (by repeat (first | (with_reducible first | exact HK.out | apply KeepBut.set_ | apply keep_drewN | apply keep_drew | apply keep_alloc | refine keep_far ?_ GW310.out _ | refine keep_far ?_ GW314.out _) | exact HK.out)) hk (.inl rfl)); have n3_ := Aside0.mk (hb); have n4_ := Aside0.mk (hi); clear BK310; clear BK314; clear HK; clear HB; clear HI0; have BK310 := n0_; have BK314 := n1_; have HK := n2_; have HB := n3_; have HI0 := n4_; clear n0_ n1_ n2_ n3_ n4_; (try clear hb); (try clear hb2); (try clear hk); (try clear hi); have hcz34_0 : w33.cell? ⟨gb314, 0, none⟩ = some (.int .i64 x315000_1) := cC BK314 0; have hcz34_1 : w33.cell? ⟨gb314, 1, none⟩ = some (.int .i64 x315001_1) := cC BK314 1; have hcz34_2 : w33.cell? ⟨gb314, 2, none⟩ = some (.int .i64 x315002_1) := cC BK314 2; have hcz34_3 : w33.cell? ⟨gb314, 3, none⟩ = some (.int .i64 x315003_1) := cC BK314 3; have hfz34_0 := blk_frozen BK314.out 0; have hfz34_1 := blk_frozen BK314.out 1; have hfz34_2 := blk_frozen BK314.out 2; have hfz34_3 := blk_frozen BK314.out 3) | ((with_reducible refine gate_callee (f := 99) rfl ?_); refine goesL_ (some 31) rfl rfl Try.func99 (by kernel_rfl) rfl #[.slice A1 l1.length c1, .agg #[.int .i64 x315000_1, .int .i64 x315001_1, .int .i64 x315002_1, .int .i64 x315003_1], .int .i64 t319] rfl (by (try simp only [mA, mC, mN]); first | done | rfl | (simp only [lD, lT]; rfl)) ?_; (with_reducible refine (spec_GiveAnswer.calls k1 _ _ l1 x315000_1 x315001_1 x315002_1 x315003_1 t319 t331 t332 t333 t334 t335 _ ?side1 ?side2 A28.out).mono ?_); (case side1 => exact Kd.C_foot_now HR1.out (by repeat (first | (with_reducible first | exact HK.out | apply KeepBut.set_ | apply keep_drewN | apply keep_drew | apply keep_alloc | refine keep_far ?_ GW310.out _ | refine keep_far ?_ GW314.out _) | exact HK.out))); (case side2 => exact HC1.out); rintro e w35 ⟨rfl, hb⟩; refine ⟨_, rfl, ?_⟩; have n0_ := Aside0.mk (blk_below (qK BK310) hb); have n1_ := Aside0.mk (blk_below (qK BK314) hb); have n2_ := Aside0.mk (IsS189.below (by repeat (first | (with_reducible first | exact HI0.out | apply IsS189.alloc | apply IsS189.drewN | apply IsS189.drew | apply IsS189.set_1 | apply IsS189.set_2 | refine IsS189.far ?_ NB0_310.out _ | refine IsS189.far ?_ NB0_314.out _) | exact HI0.out)) hb); have n3_ := Aside0.mk (KeepBut.trans (by repeat (first | (with_reducible first | exact HK.out | apply KeepBut.set_ | apply keep_drewN | apply keep_drew | apply keep_alloc | refine keep_far ?_ GW310.out _ | refine keep_far ?_ GW314.out _) | exact HK.out)) (KeepBut.of_below hb g none) (.inl rfl)); have n4_ := Aside0.mk (below_step (by repeat (first | (with_reducible first | exact HB.out | apply bA | apply bN | apply bD | refine bS ?_ (IsS189.ge HI0.out) | refine bS ?_ GE310.out | refine bS ?_ GE314.out) | exact HB.out)) hb); clear BK310; clear BK314; clear HI0; clear HK; clear HB; have BK310 := n0_; have BK314 := n1_; have HI0 := n2_; have HK := n3_; have HB := n4_; clear n0_ n1_ n2_ n3_ n4_; (try clear hb); (try clear hb2); (try clear hk); (try clear hi); have hcz36_0 : w35.cell? ⟨gb314, 0, none⟩ = some (.int .i64 x315000_1) := cC BK314 0; have hcz36_1 : w35.cell? ⟨gb314, 1, none⟩ = some (.int .i64 x315001_1) := cC BK314 1; have hcz36_2 : w35.cell? ⟨gb314, 2, none⟩ = some (.int .i64 x315002_1) := cC BK314 2; have hcz36_3 : w35.cell? ⟨gb314, 3, none⟩ = some (.int .i64 x315003_1) := cC BK314 3; have hfz36_0 := blk_frozen BK314.out 0; have hfz36_1 := blk_frozen BK314.out 1; have hfz36_2 := blk_frozen BK314.out 2; have hfz36_3 := blk_frozen BK314.out 3))
     go_roundg k1
     case measure => have := HK1.out; omega
     case rel => exact ⟨(wrap64 (x6_1 - 1)), (t321), (t322), (t331), (t332), (t333), (t334), (by first | rfl | (simp; done) | (simp [*]; done)), H', ⟨by have := HK1.out; omega⟩, ⟨by (with_reducible repeat first | refine kN ?_ _ | refine kD ?_ | refine kA ?_ _); exact blk4 BK310.out NB310_314⟩, ⟨by (with_reducible repeat first | refine kN ?_ _ | refine kD ?_ | refine kA ?_ _); refine blk_put (cs := #[.int .i64 t331, .int .i64 t332, .int .i64 t333, .int .i64 x315003_1]) ?_ 3 _ rfl; (with_reducible repeat first | refine kN ?_ _ | refine kD ?_ | refine kA ?_ _); refine blk_put (cs := #[.int .i64 t331, .int .i64 t332, .int .i64 x315002_1, .int .i64 x315003_1]) ?_ 2 _ rfl; (with_reducible repeat first | refine kN ?_ _ | refine kD ?_ | refine kA ?_ _); refine blk_put (cs := #[.int .i64 t331, .int .i64 x315001_1, .int .i64 x315002_1, .int .i64 x315003_1]) ?_ 1 _ rfl; (with_reducible repeat first | refine kN ?_ _ | refine kD ?_ | refine kA ?_ _); refine blk_put (cs := #[.int .i64 x315000_1, .int .i64 x315001_1, .int .i64 x315002_1, .int .i64 x315003_1]) ?_ 0 _ rfl; (with_reducible repeat first | refine kN ?_ _ | refine kD ?_ | refine kA ?_ _); exact BK314.out⟩, ⟨by repeat (first | (with_reducible first | exact HI0.out | apply IsS189.alloc | apply IsS189.drewN | apply IsS189.drew | apply IsS189.set_1 | apply IsS189.set_2 | refine IsS189.far ?_ NB0_310.out _ | refine IsS189.far ?_ NB0_314.out _) | exact HI0.out)⟩, ⟨by repeat (first | (with_reducible first | exact HK.out | apply KeepBut.set_ | apply keep_drewN | apply keep_drew | apply keep_alloc | refine keep_far ?_ GW310.out _ | refine keep_far ?_ GW314.out _) | exact HK.out)⟩, ⟨by repeat (first | (with_reducible first | exact HB.out | apply bA | apply bN | apply bD | refine bS ?_ (IsS189.ge HI0.out) | refine bS ?_ GE310.out | refine bS ?_ GE314.out) | exact HB.out)⟩⟩
   ·rw [if_neg c12] at H
    have c12b0 : decide (0 < x6_1) = false := decide_eq_false c12
    clear c12
    simp only [Option.some.injEq, Prod.mk.injEq] at H
    obtain ⟨rfl, rfl, rfl, rfl, rfl, rfl⟩ := H
    have hnb37 := NB314_310.out
    have hnc37 := NB310_314.out
    have hnb38 := NB314_0.out
    have hnc38 := NB0_314.out
    have hcz39_0 : wr.cell? ⟨gb314, 0, none⟩ = some (.int .i64 x315000_1) := cC BK314 0
    have hcz39_1 : wr.cell? ⟨gb314, 1, none⟩ = some (.int .i64 x315001_1) := cC BK314 1
    have hcz39_2 : wr.cell? ⟨gb314, 2, none⟩ = some (.int .i64 x315002_1) := cC BK314 2
    have hcz39_3 : wr.cell? ⟨gb314, 3, none⟩ = some (.int .i64 x315003_1) := cC BK314 3
    have hfz39_0 := blk_frozen BK314.out 0
    have hfz39_1 := blk_frozen BK314.out 1
    have hfz39_2 := blk_frozen BK314.out 2
    have hfz39_3 := blk_frozen BK314.out 3
    have hnb40 := NB310_0.out
    have hnc40 := NB0_310.out
    have hcz41_0 : wr.cell? ⟨gb310, 0, none⟩ = some (.int .i64 0) := cC BK310 0
    have hcz41_1 : wr.cell? ⟨gb310, 1, none⟩ = some (.int .i64 0) := cC BK310 1
    have hcz41_2 : wr.cell? ⟨gb310, 2, none⟩ = some (.int .i64 0) := cC BK310 2
    have hcz41_3 : wr.cell? ⟨gb310, 3, none⟩ = some (.int .i64 0) := cC BK310 3
    have hfz41_0 := blk_frozen BK310.out 0
    have hfz41_1 := blk_frozen BK310.out 1
    have hfz41_2 := blk_frozen BK310.out 2
    have hfz41_3 := blk_frozen BK310.out 3
    go_wp2
    refine bodyPost_ret (results_cell_row rfl _ _ gb310 27 #[.int .i64 x315000_1, .int .i64 x315001_1, .int .i64 x315002_1, .int .i64 x315003_1] (0, 0) _ rfl (by (with_reducible repeat first | refine kN ?_ _ | refine kD ?_ | refine kA ?_ _); refine blk_put (cs := #[.int .i64 x315000_1, .int .i64 x315001_1, .int .i64 x315002_1, .int .i64 0]) ?_ 3 _ rfl; (with_reducible repeat first | refine kN ?_ _ | refine kD ?_ | refine kA ?_ _); refine blk_put (cs := #[.int .i64 x315000_1, .int .i64 x315001_1, .int .i64 0, .int .i64 0]) ?_ 2 _ rfl; (with_reducible repeat first | refine kN ?_ _ | refine kD ?_ | refine kA ?_ _); refine blk_put (cs := #[.int .i64 x315000_1, .int .i64 0, .int .i64 0, .int .i64 0]) ?_ 1 _ rfl; (with_reducible repeat first | refine kN ?_ _ | refine kD ?_ | refine kA ?_ _); refine blk_put (cs := #[.int .i64 0, .int .i64 0, .int .i64 0, .int .i64 0]) ?_ 0 _ rfl; (with_reducible repeat first | refine kN ?_ _ | refine kD ?_ | refine kA ?_ _); exact BK310.out) Try.underlying27 rfl (by kernel_rfl)) rfl ?_
    exact ⟨by first | rfl | (simp [errW_none, errW_some] <;> rfl) | (simp [*, errW_none, errW_some] <;> rfl), by repeat (first | (with_reducible first | exact HI0.out | apply IsS189.alloc | apply IsS189.drewN | apply IsS189.drew | apply IsS189.set_1 | apply IsS189.set_2 | refine IsS189.far ?_ NB0_310.out _ | refine IsS189.far ?_ NB0_314.out _) | exact HI0.out), by repeat (first | (with_reducible first | exact HB.out | apply bA | apply bN | apply bD | refine bS ?_ (IsS189.ge HI0.out) | refine bS ?_ GE310.out | refine bS ?_ GE314.out) | exact HB.out), by repeat (first | (with_reducible first | exact HK.out | apply KeepBut.set_ | apply keep_drewN | apply keep_drew | apply keep_alloc | refine keep_far ?_ GW310.out _ | refine keep_far ?_ GW314.out _) | exact HK.out)⟩

end Go.Proofs.Ytppgealmedaihaa.PFnTrials
