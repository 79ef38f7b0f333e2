-- The printed functions of one law and their contracts, over contracts of this session's own (hand.py).
import Derived.Test.YtmammjfomgfjhaaPFnExactJoinDoubtsx0
import Derived.Test.YtmammjfomgfjhaaPFnExactJoinDoubtsx2
namespace Go.Proofs.Ytmammjfomgfjhaa.PFnExactJoinDoubts
open Go.RowKit Go.Proofs.YtmammjfomgfjhaaW.PrintWords Go.Proofs.YtmammjfomgfjhaaW.PrintLast Go.Proofs.YtmammjfomgfjhaaW.PrintMore Go.Proofs.Ytmammjfomgfjhaa.Short
attribute [local go_sem] max2_int min2_int max_two min_two max_three min_three max_four min_four   -- for this text's walks alone
set_option linter.unusedVariables false
set_option linter.unusedSimpArgs false

/-! ### spec_l9Join: function 75 -/
def spec_l9Join.l0 : Nat → List Int → List Int → Int → Option (List Int)
 | 0, _, _, _ => none
 | k + 1, x1, x5, x6 => if x6 < (x1.length : Int) then (if 0 ≤ x6 then ((spec_l9Put.f k x5 (rd x1 x6)).bind fun t162 => (spec_l9Join.l0 k x1 t162 (wrap64 (x6 + 1)))) else (none)) else (some x5)
def spec_l9Join.f (k : Nat) (l0 : List Int) (l1 : List Int) : Option (List Int) := (some (([] : List Int) : List Int)).bind fun y155 => (if y155.length + l0.length < 17592186044416 then (spec_l9Join.l0 k l1 (y155 ++ l0) 0) else (none))
theorem spec_l9Join.mono_l : ∀ k, (∀ y0 y1 y2, LeO (spec_l9Join.l0 k y0 y1 y2) (spec_l9Join.l0 (k + 1) y0 y1 y2))
 | 0 => fun _ _ _ r h => by simp [spec_l9Join.l0] at h
 | k + 1 => by
  have ih0 := spec_l9Join.mono_l k
  ·intro y0 y1 y2; unfold spec_l9Join.l0
   repeat' first
   | (with_reducible exact ih0 _ _ _)
   | (with_reducible exact spec_l9Put.mono _ _ _)
   | (with_reducible exact LeO.refl _)
   | (with_reducible exact LeO.none _)
   | (with_reducible refine LeO.ite ?_ ?_)
   | (with_reducible refine LeO.bind ?_ (fun _ => ?_))
   | exact ih0 _ _ _
   | exact spec_l9Put.mono _ _ _
   | exact LeO.none _
   | refine LeO.ite ?_ ?_
   | refine LeO.bind ?_ (fun _ => ?_)
theorem spec_l9Join.mono : ∀ a0 a1 k, LeO (spec_l9Join.f k a0 a1) (spec_l9Join.f (k + 1) a0 a1) := by
 intro a0 a1 k; have ih0 := spec_l9Join.mono_l k; unfold spec_l9Join.f
 repeat' first
   | (with_reducible exact ih0 _ _ _)
   | (with_reducible exact spec_l9Put.mono _ _ _)
   | (with_reducible exact LeO.refl _)
   | (with_reducible exact LeO.none _)
   | (with_reducible refine LeO.ite ?_ ?_)
   | (with_reducible refine LeO.bind ?_ (fun _ => ?_))
   | exact ih0 _ _ _
   | exact spec_l9Put.mono _ _ _
   | exact LeO.none _
   | refine LeO.ite ?_ ?_
   | refine LeO.bind ?_ (fun _ => ?_)
set_option maxHeartbeats 8000000 in
set_option maxRecDepth 100000 in
theorem spec_l9Join.calls (k : Nat) (A0 : Option Addr) (c0 : Nat) (l0 : List Int) (A1 : Option Addr) (c1 : Nat) (l1 : List Int) (r : List Int) (w : World) (hr0 : Kd.C (Kd.int .i64) w A0 l0.length l0) (hc0 : l0.length ≤ c0) (hr1 : Kd.C (Kd.int .i64) w A1 l1.length l1) (hc1 : l1.length ≤ c1) (h : spec_l9Join.f k l0 l1 = some r) :
  Calls Try.prog 75 #[.slice A0 l0.length c0, .slice A1 l1.length c1] w fun e w' => ∃ v0_ : Value, e = .returned (v0_) ∧ Kd.R (Kd.int .i64) 3 w' w.heap.size (fun _ => True) v0_ r ∧ Below w.heap.size w w' := by
 have HR0 := Aside0.mk hr0; have HC0 := Aside0.mk hc0; clear hr0 hc0; have HR1 := Aside0.mk hr1; have HC1 := Aside0.mk hc1; clear hr1 hc1; have HB := aM (Below.refl w.heap.size w); have H : ((some (([] : List Int) : List Int)).bind fun y155 => (if y155.length + l0.length < 17592186044416 then (spec_l9Join.l0 k l1 (y155 ++ l0) 0) else (none))) = some r := h; clear h; obtain ⟨y155, hy155⟩ : ∃ y_ : List Int, y_ = (([] : List Int)) := ⟨_, rfl⟩
 (first | replace H := bY H hy155 | rw [← hy155] at H | skip); have Ny155 := Aside0.mk hy155; clear hy155; by_cases c3 : y155.length + l0.length < 17592186044416
 ·rw [if_pos c3] at H; have LMc3 := Aside0.mk c3; clear c3; obtain ⟨y158, hy158⟩ : ∃ y_ : List Int, y_ = (y155 ++ l0) := ⟨_, rfl⟩
  (first | replace H := bY H hy158 | rw [← hy158] at H | skip); have Ny158 := Aside0.mk hy158; clear hy158; have H' := Aside0.mk H; clear H; go_enter Try.func75, Try.ntmps75; go_wp2_with (first | ((with_reducible refine gate_dst (N := 7) rfl ?_); refine Kd.R_lit (Kd.int .i64) _ 3 ?hg (N := 7) ?hd (xs := ([] : List Int)) (inner := []) (ok := fun _ => True) (okp := fun _ => True) ?hr ?hp (fun _ hk => hk) trivial (Below.refl _ _) (Nat.le_refl _) (by simp) ?_; (case hd => rfl); (case hg => rfl); (case hr => first | (go_simp; done) | (go_simp; rfl)); (case hp => exact (Reps.none _ _)); intro v156 w4 ho5 hb hg_ hnew_; clear hg_ hnew_; (first | rw [← Ny155.out] at ho5 | (simp only [Int.reduceToNat] at ho5; rw [← Ny155.out] at ho5)); have HO157 := aM (Kd.R_lower ho5 (below_size (qB HB))); replace HB := aM (below_step (qB HB) hb); clear hb ho5) | ((with_reducible refine gate_builtin (b := .append) (xs := #[.tmp 7, .tmp 8]) rfl ?_); at_builtin; refine Kd.R_append_rows (Kd.int .i64) (w0 := w) w.heap.size rfl (.tmp 7) (.tmp 8) 22 3 (.int .i64 0) 8 rfl Try.underlying22 info3 rfl (by decide) (by omega) v156 y155 l0 _ _ _ (fun _ => True) (fun _ => False) rfl rfl ?aO ?aR (fun _ _ h => h) (fun _ h => h.elim) ?aF ?aB ?aS ?aL ?_; (case aR => exact qC (Kd.C_below HR0.out HB.out)); (case aB => exact (qB HB)); (case aF => exact (fun _ _ => trivial)); (case aO => exact (qR HO157)); (case aS => exact (below_size (qB HB))); (case aL => have := LMc3.out; omega); intro v159 w6 ho hb hg hat; rw [← Ny158.out] at ho; replace HB := aM hb; have HO160 := aM ho; clear HO157; clear ho hb hg hat)); go_loopg [5, 6] k (fun kq v5 v6 w' => ∃ (x5_1 : List Int) (x6_1 : Int), v6 = .int .i64 x6_1 ∧ Aside0 (spec_l9Join.l0 kq l1 x5_1 x6_1 = some r) ∧ Aside0 (kq ≤ k) ∧ Aside0 (Kd.R (Kd.int .i64) 3 w' w.heap.size (fun _ => True) v5 x5_1) ∧ Aside0 (Below w.heap.size w w'))
  case atStart => exact ⟨(y158), (0), tS, H', ⟨Nat.le_refl _⟩, ⟨by (with_reducible repeat (first | apply Kd.R_alloc | apply Kd.R_drewN | apply Kd.R_drew)); exact HO160.out⟩, ⟨by repeat (first | (with_reducible first | exact HB.out | apply below_alloc | apply pw_below_drewN | apply below_drew1) | exact HB.out)⟩⟩
  case round =>
   clear H'; try clear c1
   try clear p2
   try clear c3
   obtain ⟨x5_1, x6_1, rfl, HA, HK1, HO_5, HB⟩ := hrel; cases gk with
   | zero => exact absurd HA.out (by simp [spec_l9Join.l0])
   | succ k1 =>
    have H := HA.out; clear HA; simp only [spec_l9Join.l0] at H; by_cases c7 : x6_1 < (l1.length : Int)
    ·rw [if_pos c7] at H; have c7b0 : decide (x6_1 < (l1.length : Int)) = true := decide_eq_true c7; clear c7; by_cases c8 : 0 ≤ x6_1
     ·rw [if_pos c8] at H; have c8b0 : decide (0 ≤ x6_1) = true := decide_eq_true c8; clear c8; replace H := Option.bind_eq_some_iff.mp H; obtain ⟨t162, A90, H⟩ := H; have A9 := Aside0.mk A90; clear A90; have H' := Aside0.mk H; clear H; have p161 : 0 ≤ (x6_1 : Int) := of_decide_eq_true ‹_›; have q161 : x6_1 < (l1.length : Int) := of_decide_eq_true ‹_›; obtain ⟨ad161, e161, hx161_0⟩ := Kd.at_int HR1.out x6_1 p161 q161; cases e161
      replace hx161_0 := cB HB hx161_0; replace p161 := eq_true p161; replace q161 := eq_true q161; obtain ⟨Ao10, co10, eo10⟩ := Kd.R_slice HO_5.out; subst eo10; go_wp2_with (first | ((with_reducible refine gate_callee (f := 78) rfl ?_); refine gl 21 Try.func78 #[.slice Ao10 x5_1.length co10, .int .i64 (rd l1 x6_1)] ?_; (with_reducible refine (spec_l9Put.calls k1 _ _ x5_1 (rd l1 x6_1) t162 _ ?side1 ?side2 A9.out).mono ?_); (case side1 => exact tC HO_5); (case side2 => exact (Kd.R_reads' HO_5.out).2.1); rintro e w11 ⟨v163, rfl, ho0, hb⟩; refine ⟨_, rfl, ?_⟩; have HO164 := aM (Kd.R_lower (Kd.R_new' ho0 (Kd.R_lt (qR HO_5))) (below_size (qB HB))); replace HO_5 := aM (Kd.R_elder' (qR HO_5) (Kd.R_base ho0) hb); replace HB := aM (below_step (qB HB) hb); (try clear hb); (try clear hb2); (try clear hk); (try clear hi); (try clear ho0))); go_roundg k1
      case measure => have := HK1.out; omega
      case rel => exact ⟨(t162), (wrap64 (x6_1 + 1)), tS, H', ⟨by have := HK1.out; omega⟩, ⟨by (with_reducible repeat (first | apply Kd.R_alloc | apply Kd.R_drewN | apply Kd.R_drew)); exact Kd.R_mono HO164.out (fun _ hk => trivial)⟩, ⟨by repeat (first | (with_reducible first | exact HB.out | apply below_alloc | apply pw_below_drewN | apply below_drew1) | exact HB.out)⟩⟩
     ·rw [if_neg c8] at H; exact absurd H (by simp)
    ·rw [if_neg c7] at H; have c7b0 : decide (x6_1 < (l1.length : Int)) = false := decide_eq_false c7; clear c7; obtain rfl := Option.some.inj H; go_wp2; go_ret; exact ⟨_, tE, by (with_reducible repeat (first | apply Kd.R_alloc | apply Kd.R_drewN | apply Kd.R_drew)); exact HO_5.out, by repeat (first | (with_reducible first | exact HB.out | apply below_alloc | apply pw_below_drewN | apply below_drew1) | exact HB.out)⟩
 ·rw [if_neg c3] at H; exact absurd H (by simp)

end Go.Proofs.Ytmammjfomgfjhaa.PFnExactJoinDoubts
