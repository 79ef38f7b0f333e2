-- The printed functions of one law and their contracts, over contracts of this session's own (hand.py).
import Derived.Test.YtbacepkkamfeoaaPFnExactPutAllx0
namespace Go.Proofs.Ytbacepkkamfeoaa.PFnExactPutAll
open Go.RowKit Go.Proofs.YtbacepkkamfeoaaW.PrintWords Go.Proofs.YtbacepkkamfeoaaW.PrintLast Go.Proofs.YtbacepkkamfeoaaW.PrintMore Go.Proofs.Ytbacepkkamfeoaa.Short
attribute [local go_sem] max2_int min2_int max_two min_two max_three min_three max_four min_four   -- for this text's walks alone
set_option linter.unusedVariables false
set_option linter.unusedSimpArgs false

/-! ### laws_heldSlotS: function 34 -/
def laws_heldSlotS.l0 : Nat → List (S51) → Int → Int → Option (Int)
 | 0, _, _, _ => none
 | k + 1, x0, x1, x5 => if x5 < (x0.length : Int) then (if 0 ≤ x5 then (if ((rd_T51 x0 x5).f0) = x1 then (if ((rd_T51 x0 x5).f1) = (wrap64 (x1 + 1)) then (if ((rd_T51 x0 x5).f2) = (wrap64 ((wrap64 (x1 + 1)) + 1)) then (laws_heldSlotS.l0 k x0 (wrap64 ((wrap64 ((wrap64 (x1 + 1)) + 1)) + 1)) (wrap64 (x5 + 1))) else (some (-1))) else (some (-1))) else (some (-1))) else (none)) else (some x1)
def laws_heldSlotS.f (k : Nat) (l0 : List (S51)) (a1 : Int) : Option (Int) := laws_heldSlotS.l0 k l0 a1 0
theorem laws_heldSlotS.mono_l : ∀ k, (∀ y0 y1 y2, LeO (laws_heldSlotS.l0 k y0 y1 y2) (laws_heldSlotS.l0 (k + 1) y0 y1 y2))
 | 0 => fun _ _ _ r h => by simp [laws_heldSlotS.l0] at h
 | k + 1 => by
  have ih0 := laws_heldSlotS.mono_l k
  ·intro y0 y1 y2; unfold laws_heldSlotS.l0
   repeat' first
   | (with_reducible exact ih0 _ _ _)
   | (with_reducible exact LeO.refl _)
   | (with_reducible exact LeO.none _)
   | (with_reducible refine LeO.ite ?_ ?_)
   | (with_reducible refine LeO.bind ?_ (fun _ => ?_))
   | exact ih0 _ _ _
   | exact LeO.none _
   | refine LeO.ite ?_ ?_
   | refine LeO.bind ?_ (fun _ => ?_)
theorem laws_heldSlotS.mono : ∀ a0 a1 k, LeO (laws_heldSlotS.f k a0 a1) (laws_heldSlotS.f (k + 1) a0 a1) := by
 intro a0 a1 k; have ih0 := laws_heldSlotS.mono_l k; unfold laws_heldSlotS.f
 repeat' first
   | (with_reducible exact ih0 _ _ _)
   | (with_reducible exact LeO.refl _)
   | (with_reducible exact LeO.none _)
   | (with_reducible refine LeO.ite ?_ ?_)
   | (with_reducible refine LeO.bind ?_ (fun _ => ?_))
   | exact ih0 _ _ _
   | exact LeO.none _
   | refine LeO.ite ?_ ?_
   | refine LeO.bind ?_ (fun _ => ?_)
set_option maxHeartbeats 8000000 in
set_option maxRecDepth 100000 in
theorem laws_heldSlotS.calls (k : Nat) (A0 : Option Addr) (c0 : Nat) (l0 : List (S51)) (a1 : Int) (r : Int) (w : World) (hr0 : Kd.C k51 w A0 l0.length l0) (hc0 : l0.length ≤ c0) (h : laws_heldSlotS.f k l0 a1 = some r) :
  Calls Try.prog 34 #[.slice A0 l0.length c0, .int .i64 a1] w fun e w' => e = .returned (.int .i64 r) ∧ Drawn0 w w' := by
 have ac := Aside0.mk hr0; have aT := Aside0.mk hc0; clear hr0 hc0; have H : (laws_heldSlotS.l0 k l0 a1 0) = some r := h; clear h; have H' := Aside0.mk H; clear H; go_enter Try.func34, Try.ntmps34; go_wp2; go_loopg [1, 5] k (fun kq v1 v5 w' => ∃ (J : Int) (D : Int), v1 = .int .i64 J ∧ v5 = .int .i64 D ∧ Aside0 (laws_heldSlotS.l0 kq l0 J D = some r) ∧ Aside0 (kq ≤ k) ∧ Drawn0 w w')
 case atStart => exact ⟨(a1), (0), tS, tS, H', ⟨Nat.le_refl _⟩, by repeat (first | exact Drawn0.refl _ | apply Drawn0.step)⟩
 case round =>
  clear H'; try clear p2
  obtain ⟨J, D, rfl, rfl, HA, aw, ⟨m1, rfl⟩⟩ := hrel; cases gk with
  | zero => exact absurd HA.out (by simp [laws_heldSlotS.l0])
  | succ k1 =>
   have H := HA.out; clear HA; simp only [laws_heldSlotS.l0] at H; by_cases c3 : D < (l0.length : Int)
   ·rw [if_pos c3] at H; have aD : decide (D < (l0.length : Int)) = true := decide_eq_true c3; clear c3; by_cases c4 : 0 ≤ D
    ·rw [if_pos c4] at H; have aU : decide (0 ≤ D) = true := decide_eq_true c4; clear c4; by_cases c5 : ((rd_T51 l0 D).f0) = J
     ·rw [if_pos c5] at H; have aE : (((rd_T51 l0 D).f0) == J) = true := beq_iff_eq.mpr c5; have aG : (((rd_T51 l0 D).f0) != J) = false := bne_eq_false_iff_eq.mpr c5; clear c5; by_cases c6 : ((rd_T51 l0 D).f1) = (wrap64 (J + 1))
      ·rw [if_pos c6] at H; have aH : (((rd_T51 l0 D).f1) == (wrap64 (J + 1))) = true := beq_iff_eq.mpr c6; have aI : (((rd_T51 l0 D).f1) != (wrap64 (J + 1))) = false := bne_eq_false_iff_eq.mpr c6; clear c6; by_cases c7 : ((rd_T51 l0 D).f2) = (wrap64 ((wrap64 (J + 1)) + 1))
       ·rw [if_pos c7] at H; have aJ : (((rd_T51 l0 D).f2) == (wrap64 ((wrap64 (J + 1)) + 1))) = true := beq_iff_eq.mpr c7; have aK : (((rd_T51 l0 D).f2) != (wrap64 ((wrap64 (J + 1)) + 1))) = false := bne_eq_false_iff_eq.mpr c7; clear c7; have H' := Aside0.mk H; clear H; have L : 0 ≤ (D : Int) := of_decide_eq_true ‹_›; have Y : D < (l0.length : Int) := of_decide_eq_true ‹_›; obtain ⟨ad, ah, ap, aq, ar⟩ := at_T51 ac.out D L Y; cases ah
        replace L := eq_true L; replace Y := eq_true Y; have aa : 0 ≤ (D : Int) := of_decide_eq_true ‹_›; have ab : D < (l0.length : Int) := of_decide_eq_true ‹_›; obtain ⟨al, am, ax, ay, az⟩ := at_T51 ac.out D aa ab; obtain rfl : ad = al := (by injection am)
        replace aa := eq_true aa; replace ab := eq_true ab; have ai : 0 ≤ (D : Int) := of_decide_eq_true ‹_›; have aj : D < (l0.length : Int) := of_decide_eq_true ‹_›; obtain ⟨au, av, aN, aP, aQ⟩ := at_T51 ac.out D ai aj; obtain rfl : ad = au := (by injection av)
        replace ai := eq_true ai; replace aj := eq_true aj; go_wp2; go_roundg k1
        case measure => have := aw.out; omega
        case rel => exact ⟨(wrap64 ((wrap64 ((wrap64 (J + 1)) + 1)) + 1)), (wrap64 (D + 1)), tS, tS, H', ⟨by have := aw.out; omega⟩, by repeat (first | exact Drawn0.refl _ | apply Drawn0.step)⟩
       ·rw [if_neg c7] at H; have aJ : (((rd_T51 l0 D).f2) == (wrap64 ((wrap64 (J + 1)) + 1))) = false := beq_eq_false_iff_ne.mpr c7; have aK : (((rd_T51 l0 D).f2) != (wrap64 ((wrap64 (J + 1)) + 1))) = true := bne_iff_ne.mpr c7; obtain rfl := Option.some.inj H; have L : 0 ≤ (D : Int) := of_decide_eq_true ‹_›; have Y : D < (l0.length : Int) := of_decide_eq_true ‹_›; obtain ⟨ad, ah, ap, aq, ar⟩ := at_T51 ac.out D L Y; cases ah
        replace L := eq_true L; replace Y := eq_true Y; have aa : 0 ≤ (D : Int) := of_decide_eq_true ‹_›; have ab : D < (l0.length : Int) := of_decide_eq_true ‹_›; obtain ⟨al, am, ax, ay, az⟩ := at_T51 ac.out D aa ab; obtain rfl : ad = al := (by injection am)
        replace aa := eq_true aa; replace ab := eq_true ab; have ai : 0 ≤ (D : Int) := of_decide_eq_true ‹_›; have aj : D < (l0.length : Int) := of_decide_eq_true ‹_›; obtain ⟨au, av, aN, aP, aQ⟩ := at_T51 ac.out D ai aj; obtain rfl : ad = au := (by injection av)
        replace ai := eq_true ai; replace aj := eq_true aj; go_wp2; go_ret; exact ⟨by first | rfl | (simp; done) | (simp [*]; done), by repeat (first | exact Drawn0.refl _ | apply Drawn0.step)⟩
      ·rw [if_neg c6] at H; have aH : (((rd_T51 l0 D).f1) == (wrap64 (J + 1))) = false := beq_eq_false_iff_ne.mpr c6; have aI : (((rd_T51 l0 D).f1) != (wrap64 (J + 1))) = true := bne_iff_ne.mpr c6; obtain rfl := Option.some.inj H; have L : 0 ≤ (D : Int) := of_decide_eq_true ‹_›; have Y : D < (l0.length : Int) := of_decide_eq_true ‹_›; obtain ⟨ad, ah, ap, aq, ar⟩ := at_T51 ac.out D L Y; cases ah
       replace L := eq_true L; replace Y := eq_true Y; have aa : 0 ≤ (D : Int) := of_decide_eq_true ‹_›; have ab : D < (l0.length : Int) := of_decide_eq_true ‹_›; obtain ⟨al, am, ax, ay, az⟩ := at_T51 ac.out D aa ab; obtain rfl : ad = al := (by injection am)
       replace aa := eq_true aa; replace ab := eq_true ab; go_wp2; go_ret; exact ⟨by first | rfl | (simp; done) | (simp [*]; done), by repeat (first | exact Drawn0.refl _ | apply Drawn0.step)⟩
     ·rw [if_neg c5] at H; have aE : (((rd_T51 l0 D).f0) == J) = false := beq_eq_false_iff_ne.mpr c5; have aG : (((rd_T51 l0 D).f0) != J) = true := bne_iff_ne.mpr c5; obtain rfl := Option.some.inj H; have L : 0 ≤ (D : Int) := of_decide_eq_true ‹_›; have Y : D < (l0.length : Int) := of_decide_eq_true ‹_›; obtain ⟨ad, ah, ap, aq, ar⟩ := at_T51 ac.out D L Y; cases ah
      replace L := eq_true L; replace Y := eq_true Y; go_wp2; go_ret; exact ⟨by first | rfl | (simp; done) | (simp [*]; done), by repeat (first | exact Drawn0.refl _ | apply Drawn0.step)⟩
    ·rw [if_neg c4] at H; exact absurd H (by simp)
   ·rw [if_neg c3] at H; have aD : decide (D < (l0.length : Int)) = false := decide_eq_false c3; clear c3; obtain rfl := Option.some.inj H; go_wp2; go_ret; exact ⟨by first | rfl | (simp; done) | (simp [*]; done), by repeat (first | exact Drawn0.refl _ | apply Drawn0.step)⟩

/-! ### laws_heldIntS: function 35 -/
def laws_heldIntS.l0 : Nat → List Int → Int → Int → Option (Int)
 | 0, _, _, _ => none
 | k + 1, x0, x1, x5 => if x5 < (x0.length : Int) then (if 0 ≤ x5 then (if (rd x0 x5) = x1 then (laws_heldIntS.l0 k x0 (wrap64 (x1 + 1)) (wrap64 (x5 + 1))) else (some (-1))) else (none)) else (some x1)
def laws_heldIntS.f (k : Nat) (l0 : List Int) (a1 : Int) : Option (Int) := laws_heldIntS.l0 k l0 a1 0
theorem laws_heldIntS.mono_l : ∀ k, (∀ y0 y1 y2, LeO (laws_heldIntS.l0 k y0 y1 y2) (laws_heldIntS.l0 (k + 1) y0 y1 y2))
 | 0 => fun _ _ _ r h => by simp [laws_heldIntS.l0] at h
 | k + 1 => by
  have ih0 := laws_heldIntS.mono_l k
  ·intro y0 y1 y2; unfold laws_heldIntS.l0
   repeat' first
   | (with_reducible exact ih0 _ _ _)
   | (with_reducible exact LeO.refl _)
   | (with_reducible exact LeO.none _)
   | (with_reducible refine LeO.ite ?_ ?_)
   | (with_reducible refine LeO.bind ?_ (fun _ => ?_))
   | exact ih0 _ _ _
   | exact LeO.none _
   | refine LeO.ite ?_ ?_
   | refine LeO.bind ?_ (fun _ => ?_)
theorem laws_heldIntS.mono : ∀ a0 a1 k, LeO (laws_heldIntS.f k a0 a1) (laws_heldIntS.f (k + 1) a0 a1) := by
 intro a0 a1 k; have ih0 := laws_heldIntS.mono_l k; unfold laws_heldIntS.f
 repeat' first
   | (with_reducible exact ih0 _ _ _)
   | (with_reducible exact LeO.refl _)
   | (with_reducible exact LeO.none _)
   | (with_reducible refine LeO.ite ?_ ?_)
   | (with_reducible refine LeO.bind ?_ (fun _ => ?_))
   | exact ih0 _ _ _
   | exact LeO.none _
   | refine LeO.ite ?_ ?_
   | refine LeO.bind ?_ (fun _ => ?_)
set_option maxHeartbeats 8000000 in
set_option maxRecDepth 100000 in
theorem laws_heldIntS.calls (k : Nat) (A0 : Option Addr) (c0 : Nat) (l0 : List Int) (a1 : Int) (r : Int) (w : World) (hr0 : Kd.C (Kd.int .i64) w A0 l0.length l0) (hc0 : l0.length ≤ c0) (h : laws_heldIntS.f k l0 a1 = some r) :
  Calls Try.prog 35 #[.slice A0 l0.length c0, .int .i64 a1] w fun e w' => e = .returned (.int .i64 r) ∧ Drawn0 w w' := by
 have ae := Aside0.mk hr0; have ao := Aside0.mk hc0; clear hr0 hc0; have H : (laws_heldIntS.l0 k l0 a1 0) = some r := h; clear h; have H' := Aside0.mk H; clear H; go_enter Try.func35, Try.ntmps35; go_wp2; go_loopg [1, 5] k (fun kq v1 v5 w' => ∃ (J : Int) (D : Int), v1 = .int .i64 J ∧ v5 = .int .i64 D ∧ Aside0 (laws_heldIntS.l0 kq l0 J D = some r) ∧ Aside0 (kq ≤ k) ∧ Drawn0 w w')
 case atStart => exact ⟨(a1), (0), tS, tS, H', ⟨Nat.le_refl _⟩, by repeat (first | exact Drawn0.refl _ | apply Drawn0.step)⟩
 case round =>
  clear H'; try clear p2
  obtain ⟨J, D, rfl, rfl, HA, af, ⟨m1, rfl⟩⟩ := hrel; cases gk with
  | zero => exact absurd HA.out (by simp [laws_heldIntS.l0])
  | succ k1 =>
   have H := HA.out; clear HA; simp only [laws_heldIntS.l0] at H; by_cases c3 : D < (l0.length : Int)
   ·rw [if_pos c3] at H; have ai : decide (D < (l0.length : Int)) = true := decide_eq_true c3; clear c3; by_cases c4 : 0 ≤ D
    ·rw [if_pos c4] at H; have ap : decide (0 ≤ D) = true := decide_eq_true c4; clear c4; by_cases L : (rd l0 D) = J
     ·rw [if_pos L] at H; have aj : ((rd l0 D) == J) = true := beq_iff_eq.mpr L; have ak : ((rd l0 D) != J) = false := bne_eq_false_iff_eq.mpr L; clear L; have H' := Aside0.mk H; clear H; have Y : 0 ≤ (D : Int) := of_decide_eq_true ‹_›; have aa : D < (l0.length : Int) := of_decide_eq_true ‹_›; obtain ⟨al, ad, am⟩ := Kd.at_int ae.out D Y aa; cases ad
      replace Y := eq_true Y; replace aa := eq_true aa; go_wp2; go_roundg k1
      case measure => have := af.out; omega
      case rel => exact ⟨(wrap64 (J + 1)), (wrap64 (D + 1)), tS, tS, H', ⟨by have := af.out; omega⟩, by repeat (first | exact Drawn0.refl _ | apply Drawn0.step)⟩
     ·rw [if_neg L] at H; have aj : ((rd l0 D) == J) = false := beq_eq_false_iff_ne.mpr L; have ak : ((rd l0 D) != J) = true := bne_iff_ne.mpr L; obtain rfl := Option.some.inj H; have Y : 0 ≤ (D : Int) := of_decide_eq_true ‹_›; have aa : D < (l0.length : Int) := of_decide_eq_true ‹_›; obtain ⟨al, ad, am⟩ := Kd.at_int ae.out D Y aa; cases ad
      replace Y := eq_true Y; replace aa := eq_true aa; go_wp2; go_ret; exact ⟨by first | rfl | (simp; done) | (simp [*]; done), by repeat (first | exact Drawn0.refl _ | apply Drawn0.step)⟩
    ·rw [if_neg c4] at H; exact absurd H (by simp)
   ·rw [if_neg c3] at H; have ai : decide (D < (l0.length : Int)) = false := decide_eq_false c3; clear c3; obtain rfl := Option.some.inj H; go_wp2; go_ret; exact ⟨by first | rfl | (simp; done) | (simp [*]; done), by repeat (first | exact Drawn0.refl _ | apply Drawn0.step)⟩

end Go.Proofs.Ytbacepkkamfeoaa.PFnExactPutAll
