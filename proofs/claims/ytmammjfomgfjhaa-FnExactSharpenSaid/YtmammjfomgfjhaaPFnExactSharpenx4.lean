-- The printed functions of one law and their contracts, over contracts of this session's own (hand.py).
import Derived.Test.YtmammjfomgfjhaaPFnExactSharpenx0
import Derived.Test.YtmammjfomgfjhaaPFnExactSharpenx3
namespace Go.Proofs.Ytmammjfomgfjhaa.PFnExactSharpen
open Go.RowKit Go.Proofs.YtmammjfomgfjhaaW.PrintWords Go.Proofs.YtmammjfomgfjhaaW.PrintLast Go.Proofs.YtmammjfomgfjhaaW.PrintMore Go.Proofs.Ytmammjfomgfjhaa.Short
attribute [local go_sem] max2_int min2_int max_two min_two max_three min_three max_four min_four   -- for this text's walks alone
set_option linter.unusedVariables false
set_option linter.unusedSimpArgs false

/-! ### impl_both: function 55 -/
def impl_both.l0 : Nat → List Int → List Int → List Int → Int → Int → Option (List Int × Bool)
 | 0, _, _, _, _, _ => none
 | k + 1, x1, x6, x22, x23, x24 => if x24 < x23 then (if 0 ≤ x24 then (if x24 < (x22.length : Int) then ((slices_Contains_int_int.f k x1 (rd x22 x24)).bind fun t208 => (if t208 = true then (if x6.length < 17592186044416 then (impl_both.l0 k x1 (x6 ++ [rd x22 x24]) x22 x23 (wrap64 (x24 + 1))) else (none)) else (impl_both.l0 k x1 x6 x22 x23 (wrap64 (x24 + 1))))) else (none)) else (none)) else (some (x6, decide ((x6.length : Int) > 0)))
def impl_both.f (k : Nat) (l0 : List Int) (l1 : List Int) : Option (List Int × Bool) := if (l0.length : Int) = 0 then ((slices_Clone_int_int.f l1).bind fun t198 => (some (t198, true))) else (if (l1.length : Int) = 0 then ((slices_Clone_int_int.f l0).bind fun t201 => (some (t201, true))) else (impl_both.l0 k l1 (([] : List Int)) l0 (l0.length : Int) 0))
theorem impl_both.mono_l : ∀ k, (∀ y0 y1 y2 y3 y4, LeO (impl_both.l0 k y0 y1 y2 y3 y4) (impl_both.l0 (k + 1) y0 y1 y2 y3 y4))
 | 0 => fun _ _ _ _ _ r h => by simp [impl_both.l0] at h
 | k + 1 => by
  have ih0 := impl_both.mono_l k
  ·intro y0 y1 y2 y3 y4; unfold impl_both.l0
   repeat' first
   | (with_reducible exact ih0 _ _ _ _ _)
   | (with_reducible exact slices_Contains_int_int.mono _ _ _)
   | (with_reducible exact LeO.refl _)
   | (with_reducible exact LeO.none _)
   | (with_reducible refine LeO.ite ?_ ?_)
   | (with_reducible refine LeO.bind ?_ (fun _ => ?_))
   | exact ih0 _ _ _ _ _
   | exact slices_Contains_int_int.mono _ _ _
   | exact LeO.none _
   | refine LeO.ite ?_ ?_
   | refine LeO.bind ?_ (fun _ => ?_)
theorem impl_both.mono : ∀ a0 a1 k, LeO (impl_both.f k a0 a1) (impl_both.f (k + 1) a0 a1) := by
 intro a0 a1 k; have ih0 := impl_both.mono_l k; unfold impl_both.f
 repeat' first
   | (with_reducible exact ih0 _ _ _ _ _)
   | (with_reducible exact slices_Contains_int_int.mono _ _ _)
   | (with_reducible exact LeO.refl _)
   | (with_reducible exact LeO.none _)
   | (with_reducible refine LeO.ite ?_ ?_)
   | (with_reducible refine LeO.bind ?_ (fun _ => ?_))
   | exact ih0 _ _ _ _ _
   | exact slices_Contains_int_int.mono _ _ _
   | exact LeO.none _
   | refine LeO.ite ?_ ?_
   | refine LeO.bind ?_ (fun _ => ?_)
set_option maxHeartbeats 8000000 in
set_option maxRecDepth 100000 in
theorem impl_both.calls (k : Nat) (A0 : Option Addr) (c0 : Nat) (l0 : List Int) (A1 : Option Addr) (c1 : Nat) (l1 : List Int) (r1 : List Int) (r2 : Bool) (w : World) (hr0 : Kd.C (Kd.int .i64) w A0 l0.length l0) (hc0 : l0.length ≤ c0) (hr1 : Kd.C (Kd.int .i64) w A1 l1.length l1) (hc1 : l1.length ≤ c1) (h : impl_both.f k l0 l1 = some (r1, r2)) :
  Calls Try.prog 55 #[.slice A0 l0.length c0, .slice A1 l1.length c1] w fun e w' => ∃ v0_ : Value, e = .returned (.tuple #[v0_, .bool r2]) ∧ Kd.R (Kd.int .i64) 3 w' w.heap.size (fun _ => True) v0_ r1 ∧ Below w.heap.size w w' := by
 have ap := Aside0.mk hr0; have aI := Aside0.mk hc0; clear hr0 hc0; have aq := Aside0.mk hr1; have ar := Aside0.mk hc1; clear hr1 hc1; have HB := aM (Below.refl w.heap.size w); have H : (if (l0.length : Int) = 0 then ((slices_Clone_int_int.f l1).bind fun au => (some (au, true))) else (if (l1.length : Int) = 0 then ((slices_Clone_int_int.f l0).bind fun av => (some (av, true))) else (impl_both.l0 k l1 (([] : List Int)) l0 (l0.length : Int) 0))) = some (r1, r2) := h; clear h; by_cases J : (l0.length : Int) = 0
 ·rw [if_pos J] at H; have ax : ((l0.length : Int) == 0) = true := beq_iff_eq.mpr J; have ay : ((l0.length : Int) != 0) = false := bne_eq_false_iff_eq.mpr J; clear J; replace H := Option.bind_eq_some_iff.mp H; obtain ⟨au, az, H⟩ := H; have A4 := Aside0.mk az; clear az; simp only [Option.some.injEq, Prod.mk.injEq] at H; obtain ⟨rfl, rfl⟩ := H; go_enter Try.func55, Try.ntmps55; go_wp2_with (first | ((with_reducible refine gate_callee (f := 91) rfl ?_); refine gl 14 Try.func91 #[.slice A1 l1.length c1] ?_; (with_reducible refine (slices_Clone_int_int.calls _ _ l1 au _ ?side1 ?side2 A4.out).mono ?_); (case side1 => repeat (first | exact aq.out | (with_reducible refine Kd.C_alloc ?_ _) | (with_reducible refine Kd.C_drewN ?_ _) | (with_reducible refine Kd.C_drew ?_))); (case side2 => exact ar.out); rintro e w5 ⟨bb, rfl, ad, hb⟩; refine ⟨_, rfl, ?_⟩; have aK := aM (Kd.R_lower ad (below_size (qB HB))); replace HB := aM (below_step (qB HB) hb); (try clear hb); (try clear hb2); (try clear hk); (try clear hi); (try clear ad))); go_ret2; exact ⟨_, tE, by (with_reducible repeat (first | apply Kd.R_alloc | apply Kd.R_drewN | apply Kd.R_drew)); exact aK.out, by repeat (first | (with_reducible first | exact HB.out | apply below_alloc | apply pw_below_drewN | apply below_drew1) | exact HB.out)⟩
 ·rw [if_neg J] at H; have ax : ((l0.length : Int) == 0) = false := beq_eq_false_iff_ne.mpr J; have ay : ((l0.length : Int) != 0) = true := bne_iff_ne.mpr J; have aN : ¬ (l0 = []) := fun h_ => J (by rw [h_]; rfl)
  by_cases L : (l1.length : Int) = 0
  ·rw [if_pos L] at H; have aA : ((l1.length : Int) == 0) = true := beq_iff_eq.mpr L; have aC : ((l1.length : Int) != 0) = false := bne_eq_false_iff_eq.mpr L; clear L; replace H := Option.bind_eq_some_iff.mp H; obtain ⟨av, aD, H⟩ := H; have A7 := Aside0.mk aD; clear aD; simp only [Option.some.injEq, Prod.mk.injEq] at H; obtain ⟨rfl, rfl⟩ := H; go_enter Try.func55, Try.ntmps55; go_wp2_with (first | ((with_reducible refine gate_callee (f := 91) rfl ?_); refine gl 20 Try.func91 #[.slice A0 l0.length c0] ?_; (with_reducible refine (slices_Clone_int_int.calls _ _ l0 av _ ?side1 ?side2 A7.out).mono ?_); (case side1 => repeat (first | exact ap.out | (with_reducible refine Kd.C_alloc ?_ _) | (with_reducible refine Kd.C_drewN ?_ _) | (with_reducible refine Kd.C_drew ?_))); (case side2 => exact aI.out); rintro e w8 ⟨bd, rfl, ad, hb⟩; refine ⟨_, rfl, ?_⟩; have aT := aM (Kd.R_lower ad (below_size (qB HB))); replace HB := aM (below_step (qB HB) hb); (try clear hb); (try clear hb2); (try clear hk); (try clear hi); (try clear ad))); go_ret2; exact ⟨_, tE, by (with_reducible repeat (first | apply Kd.R_alloc | apply Kd.R_drewN | apply Kd.R_drew)); exact aT.out, by repeat (first | (with_reducible first | exact HB.out | apply below_alloc | apply pw_below_drewN | apply below_drew1) | exact HB.out)⟩
  ·rw [if_neg L] at H; have aA : ((l1.length : Int) == 0) = false := beq_eq_false_iff_ne.mpr L; have aC : ((l1.length : Int) != 0) = true := bne_iff_ne.mpr L; have aU : ¬ (l1 = []) := fun h_ => L (by rw [h_]; rfl)
   obtain ⟨aV, ah⟩ : ∃ y_ : List Int, y_ = (([] : List Int)) := ⟨_, rfl⟩
   (first | replace H := bY H ah | rw [← ah] at H | skip); have aE := Aside0.mk ah; clear ah; have H' := Aside0.mk H; clear H; go_enter Try.func55, Try.ntmps55; go_wp2_with (first | ((with_reducible refine gate_dst (N := 21) rfl ?_); refine Kd.R_lit (Kd.int .i64) _ 3 ?hg (N := 21) ?hd (xs := ([] : List Int)) (inner := []) (ok := fun _ => True) (okp := fun _ => True) ?hr ?hp (fun _ hk => hk) trivial (Below.refl _ _) (Nat.le_refl _) (by simp) ?_; (case hd => rfl); (case hg => rfl); (case hr => first | (go_simp; done) | (go_simp; rfl)); (case hp => exact (Reps.none _ _)); intro be w9 ae hb hg_ hnew_; clear hg_ hnew_; (first | rw [← aE.out] at ae | (simp only [Int.reduceToNat] at ae; rw [← aE.out] at ae)); have aW := aM (Kd.R_lower ae (below_size (qB HB))); replace HB := aM (below_step (qB HB) hb); clear hb ae)); go_loopg [6, 24] k (fun kq v6 aY w' => ∃ (Y : List Int) (D : Int), aY = .int .i64 D ∧ Aside0 (impl_both.l0 kq l1 Y l0 (l0.length : Int) D = some (r1, r2)) ∧ Aside0 (kq ≤ k) ∧ Aside0 (Kd.R (Kd.int .i64) 3 w' w.heap.size (fun _ => True) v6 Y) ∧ Aside0 (Below w.heap.size w w'))
   case atStart => exact ⟨(aV), (0), tS, H', ⟨Nat.le_refl _⟩, ⟨by (with_reducible repeat (first | apply Kd.R_alloc | apply Kd.R_drewN | apply Kd.R_drew)); exact aW.out⟩, ⟨by repeat (first | (with_reducible first | exact HB.out | apply below_alloc | apply pw_below_drewN | apply below_drew1) | exact HB.out)⟩⟩
   case round =>
    clear H'; try clear c1
    try clear p2
    try clear J
    try clear ax
    try clear ay
    try clear aN
    try clear c5
    try clear L
    try clear aA
    try clear aC
    try clear aU
    try clear c9
    obtain ⟨Y, D, rfl, HA, ai, af, HB⟩ := hrel; cases gk with
    | zero => exact absurd HA.out (by simp [impl_both.l0])
    | succ k1 =>
     have H := HA.out; clear HA; simp only [impl_both.l0] at H; by_cases ac : D < (l0.length : Int)
     ·rw [if_pos ac] at H; have aZ : decide (D < (l0.length : Int)) = true := decide_eq_true ac; clear ac; by_cases aj : 0 ≤ D
      ·rw [if_pos aj] at H; have bi : decide (0 ≤ D) = true := decide_eq_true aj; clear aj; by_cases ak : D < (l0.length : Int)
       ·rw [if_pos ak] at H; have bj : decide (D < (l0.length : Int)) = true := decide_eq_true ak; clear ak; replace H := Option.bind_eq_some_iff.mp H; obtain ⟨a2, aG, H⟩ := H; have aH := Aside0.mk aG; clear aG; by_cases al : a2 = true
        ·subst al; rw [if_pos rfl] at H; by_cases am : Y.length < 17592186044416
         ·rw [if_pos am] at H; have a3 := Aside0.mk am; clear am; obtain ⟨a6, ao⟩ : ∃ y_ : List Int, y_ = (Y ++ [rd l0 D]) := ⟨_, rfl⟩
          (first | replace H := bY H ao | rw [← ao] at H | skip); have a7 := Aside0.mk ao; clear ao; have H' := Aside0.mk H; clear H; have aa : 0 ≤ (D : Int) := of_decide_eq_true ‹_›; have ab : D < (l0.length : Int) := of_decide_eq_true ‹_›; obtain ⟨a8, aw, ag⟩ := Kd.at_int ap.out D aa ab; cases aw
          replace ag := cB HB ag; replace aa := eq_true aa; replace ab := eq_true ab; go_wp2_with (first | ((with_reducible refine gate_callee (f := 92) rfl ?_); refine gl 30 Try.func92 #[.slice A1 l1.length c1, .int .i64 (rd l0 D)] ?_; (with_reducible refine (slices_Contains_int_int.calls k1 _ _ l1 (rd l0 D) true _ ?side1 ?side2 aH.out).mono ?_); (case side1 => exact qC (Kd.C_below aq.out HB.out)); (case side2 => exact ar.out); rintro e w' ⟨rfl, ⟨nd, rfl⟩⟩; refine ⟨_, rfl, ?_⟩) | ((with_reducible refine gate_builtin (b := .append) (xs := #[.tmp 31, .tmp 33]) rfl ?_); at_builtin; refine Kd.R_append (Kd.int .i64) (w0 := w) w.heap.size rfl (.tmp 31) (.tmp 33) 22 3 (.int .i64 0) 8 rfl Try.underlying22 info3 rfl (by decide) (by omega) u6 Y (rd l0 D) [.int .i64 (rd l0 D)] (fun _ => True) (fun _ => False) rfl rfl ?aP (fun _ hk => hk.elim) ?aF ?aO ?aB ?aS ?aL ?_; (case aP => exact rfl); (case aB => exact (qB HB)); (case aF => exact (fun _ _ => trivial)); (case aO => exact (qR af)); (case aS => exact (below_size (qB HB))); (case aL => have := a3.out; omega); intro bl bm ho hb hg hat; rw [← a7.out] at ho; replace HB := aM hb; have a9 := aM ho; clear af; clear ho hb hg hat)); go_roundg k1
          case measure => have := ai.out; omega
          case rel => exact ⟨(a6), (wrap64 (D + 1)), tS, H', ⟨by have := ai.out; omega⟩, ⟨by (with_reducible repeat (first | apply Kd.R_alloc | apply Kd.R_drewN | apply Kd.R_drew)); exact a9.out⟩, ⟨by repeat (first | (with_reducible first | exact HB.out | apply below_alloc | apply pw_below_drewN | apply below_drew1) | exact HB.out)⟩⟩
         ·rw [if_neg am] at H; exact absurd H (by simp)
        ·replace al := Bool.eq_false_iff.mpr al; subst al; rw [if_neg ff_] at H; have H' := Aside0.mk H; clear H; have aa : 0 ≤ (D : Int) := of_decide_eq_true ‹_›; have ab : D < (l0.length : Int) := of_decide_eq_true ‹_›; obtain ⟨a8, aw, ag⟩ := Kd.at_int ap.out D aa ab; cases aw
         replace ag := cB HB ag; replace aa := eq_true aa; replace ab := eq_true ab; go_wp2_with (first | ((with_reducible refine gate_callee (f := 92) rfl ?_); refine gl 30 Try.func92 #[.slice A1 l1.length c1, .int .i64 (rd l0 D)] ?_; (with_reducible refine (slices_Contains_int_int.calls k1 _ _ l1 (rd l0 D) false _ ?side1 ?side2 aH.out).mono ?_); (case side1 => exact qC (Kd.C_below aq.out HB.out)); (case side2 => exact ar.out); rintro e w' ⟨rfl, ⟨nd, rfl⟩⟩; refine ⟨_, rfl, ?_⟩)); go_roundg k1
         case measure => have := ai.out; omega
         case rel => exact ⟨(Y), (wrap64 (D + 1)), tS, H', ⟨by have := ai.out; omega⟩, ⟨by (with_reducible repeat (first | apply Kd.R_alloc | apply Kd.R_drewN | apply Kd.R_drew)); exact af.out⟩, ⟨by repeat (first | (with_reducible first | exact HB.out | apply below_alloc | apply pw_below_drewN | apply below_drew1) | exact HB.out)⟩⟩
       ·rw [if_neg ak] at H; exact absurd H (by simp)
      ·rw [if_neg aj] at H; exact absurd H (by simp)
     ·rw [if_neg ac] at H; have aZ : decide (D < (l0.length : Int)) = false := decide_eq_false ac; clear ac; simp only [Option.some.injEq, Prod.mk.injEq] at H; obtain ⟨rfl, rfl⟩ := H; obtain ⟨bn, bo, a_⟩ := Kd.R_slice af.out; subst a_; go_wp2; go_ret2; exact ⟨_, tE, by (with_reducible repeat (first | apply Kd.R_alloc | apply Kd.R_drewN | apply Kd.R_drew)); exact af.out, by repeat (first | (with_reducible first | exact HB.out | apply below_alloc | apply pw_below_drewN | apply below_drew1) | exact HB.out)⟩

end Go.Proofs.Ytmammjfomgfjhaa.PFnExactSharpen
