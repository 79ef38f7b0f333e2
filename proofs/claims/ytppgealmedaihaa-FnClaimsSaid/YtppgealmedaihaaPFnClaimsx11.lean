-- The printed functions of one law and their contracts, over contracts of this session's own (hand.py).
import Derived.Test.YtppgealmedaihaaPFnClaimsx0
import Derived.Test.YtppgealmedaihaaPFnClaimsx2
import Derived.Test.YtppgealmedaihaaPFnClaimsx3
import Derived.Test.YtppgealmedaihaaPFnClaimsx4
import Derived.Test.YtppgealmedaihaaPFnClaimsx5
import Derived.Test.YtppgealmedaihaaPFnClaimsx10
namespace Go.Proofs.Ytppgealmedaihaa.PFnClaims
open Go.RowKit Go.Proofs.YtppgealmedaihaaW.PrintWords Go.Proofs.YtppgealmedaihaaW.PrintLast Go.Proofs.YtppgealmedaihaaW.PrintMore Go.Proofs.Ytppgealmedaihaa.Short
attribute [local go_sem] max2_int min2_int max_two min_two max_three min_three max_four min_four   -- for this text's walks alone
set_option linter.unusedVariables false
set_option linter.unusedSimpArgs false

/-! ### spec_DrawSetState: function 83 -/
def spec_DrawSetState.f (k : Nat) (l0 : List Int) : Option ((List (S84)) × Int × Int) := (spec_DrawFindClaim.f k l0).bind fun bt403 => ((spec_l1New.f k l0).bind fun bt407 => ((spec_l1Below.f bt407.1 bt407.2.1 bt407.2.2 6).bind fun bt411 => (some (bt403.1, bt403.2, wrap64 (bt411.1 - 1)))))
theorem spec_DrawSetState.mono : ∀ a0 k, LeO (spec_DrawSetState.f k a0) (spec_DrawSetState.f (k + 1) a0) := by
 intro a0 k; unfold spec_DrawSetState.f
 repeat' first
   | (with_reducible exact spec_DrawFindClaim.mono _ _)
   | (with_reducible exact spec_l1New.mono _ _)
   | (with_reducible exact LeO.refl _)
   | (with_reducible exact LeO.none _)
   | (with_reducible refine LeO.ite ?_ ?_)
   | (with_reducible refine LeO.bind ?_ (fun _ => ?_))
   | exact spec_DrawFindClaim.mono _ _
   | exact spec_l1New.mono _ _
   | exact LeO.none _
   | refine LeO.ite ?_ ?_
   | refine LeO.bind ?_ (fun _ => ?_)
set_option maxHeartbeats 8000000 in
set_option maxRecDepth 100000 in
theorem spec_DrawSetState.calls (k : Nat) (A0 : Option Addr) (c0 : Nat) (l0 : List Int) (r1 : List (S84)) (r2 : Int) (r3 : Int) (w : World) (hr0 : Kd.C (Kd.int .u8) w A0 l0.length l0) (hc0 : l0.length ≤ c0) (h : spec_DrawSetState.f k l0 = some (r1, r2, r3)) :
  Calls Try.prog 83 #[.slice A0 l0.length c0] w fun e w' => ∃ v0_ : Value, e = .returned (.tuple #[v0_, .int .i64 r2, .int .i64 r3]) ∧ Kd.R k84 84 w' w.heap.size (fun _ => True) v0_ r1 ∧ Below w.heap.size w w' := by
 have HR0 := Aside0.mk hr0; have HC0 := Aside0.mk hc0; clear hr0 hc0; have HB := aM (Below.refl w.heap.size w); have H : ((spec_DrawFindClaim.f k l0).bind fun bt403 => ((spec_l1New.f k l0).bind fun bt407 => ((spec_l1Below.f bt407.1 bt407.2.1 bt407.2.2 6).bind fun bt411 => (some (bt403.1, bt403.2, wrap64 (bt411.1 - 1)))))) = some (r1, r2, r3) := h; clear h; replace H := Option.bind_eq_some_iff.mp H; obtain ⟨⟨t403, t404⟩, A20, H⟩ := H; have A2 := Aside0.mk A20; clear A20; replace H := Option.bind_eq_some_iff.mp H; obtain ⟨⟨t407, t408, t409⟩, A30, H⟩ := H; have A3 := Aside0.mk A30; clear A30; replace H := Option.bind_eq_some_iff.mp H; obtain ⟨⟨t411, t412, t413⟩, A40, H⟩ := H; have A4 := Aside0.mk A40; clear A40; simp only [Option.some.injEq, Prod.mk.injEq] at H; obtain ⟨rfl, rfl, rfl⟩ := H; go_enter Try.func83, Try.ntmps83; go_wp2_with (first | ((with_reducible refine gate_callee (f := 149) rfl ?_); refine goesL_ (some 10) rfl rfl Try.func149 (by kernel_rfl) rfl #[.slice A0 l0.length c0] rfl tM ?_; (with_reducible refine (spec_DrawFindClaim.calls k _ _ l0 t403 t404 _ ?side1 ?side2 A2.out).mono ?_); (case side1 => repeat (first | exact HR0.out | (with_reducible refine Kd.C_alloc ?_ _) | (with_reducible refine Kd.C_drewN ?_ _) | (with_reducible refine Kd.C_drew ?_))); (case side2 => exact HC0.out); rintro e w5 ⟨v405, rfl, ho0, hb⟩; refine ⟨_, rfl, ?_⟩; have HO406 := aM (Kd.R_lower ho0 (below_size (qB HB))); replace HB := aM (below_step (qB HB) hb); (try clear hb); (try clear hb2); (try clear hk); (try clear hi); (try clear ho0)) | ((with_reducible refine gate_callee (f := 110) rfl ?_); refine goesL_ (some 14) rfl rfl Try.func110 (by kernel_rfl) rfl #[.slice A0 l0.length c0] rfl tM ?_; (with_reducible refine (spec_l1New.calls k _ _ l0 t407 t408 t409 w _ ?side1 ?side2 ?side3 A3.out).mono ?_); (case side1 => repeat (first | (with_reducible first | exact HB.out | apply bA | apply bN | apply bD) | exact HB.out)); (case side2 => exact HR0.out); (case side3 => exact HC0.out); rintro e w6 ⟨g410, rfl, hi, hb, hb2⟩; refine ⟨_, rfl, ?_⟩; replace HO406 := aM (Kd.R_below (qR HO406) hb2); replace HB := aM hb; have HI410 := aM hi; (try clear hb); (try clear hb2); (try clear hk); (try clear hi)) | ((with_reducible refine gate_callee (f := 112) rfl ?_); refine goesL_ (some 18) rfl rfl Try.func112 (by kernel_rfl) rfl #[.pointer (some ⟨g410, 0, none⟩), .int .i64 6] rfl tM ?_; (with_reducible refine (spec_l1Below.calls g410 t407 t408 t409 6 t411 t412 t413 w _ ?side1 ?side2 A4.out).mono ?_); (case side1 => repeat (first | (with_reducible first | exact HI410.out | apply IsS189.alloc | apply IsS189.drewN | apply IsS189.drew | apply IsS189.set_1 | apply IsS189.set_2) | exact HI410.out)); (case side2 => repeat (first | (with_reducible first | exact HB.out | apply bA | apply bN | apply bD | refine bS ?_ (IsS189.ge HI410.out)) | exact HB.out)); rintro e w7 ⟨rfl, hi, hb, hk⟩; refine ⟨_, rfl, ?_⟩; replace HO406 := aM (Kd.R_mono (Kd.R_keep (IsS189.apart (show IsS189 w _ g410 t407 t408 t409 from by repeat (first | (with_reducible first | exact HI410.out | apply IsS189.alloc | apply IsS189.drewN | apply IsS189.drew | apply IsS189.set_1 | apply IsS189.set_2) | exact HI410.out)) (qR HO406) (by decide)) hk (fun _ h => h.2)) (fun _ h => h.1)); replace HB := aM hb; replace HI410 := aM hi; (try clear hb); (try clear hb2); (try clear hk); (try clear hi))); go_ret3; exact ⟨_, tE, tR HO406, tB1 (aM (IsS189.ge HI410.out))⟩

/-! ### impl_SetState: function 84 -/
mutual
def impl_SetState.j0 : Nat → List (S84) → Int → List (S84) → Int → Bool → Option ((List (S84)) × Bool)
 | 0, _, _, _, _, _ => none
 | k + 1, x0, x2, x8, x9, x22 => if x22 = true then (some (x8, false)) else (if 0 ≤ x9 then (if x9 < (x0.length : Int) then (if ((rd_T84 x0 x9).f4) = 0 then (if x2 = 1 then (impl_SetState.j1 k x0 x2 x8 x9 (!true)) else (if x2 = 2 then (impl_SetState.j1 k x0 x2 x8 x9 (!true)) else (if ((rd_T84 x0 x9).f4) = 1 then (impl_SetState.j1 k x0 x2 x8 x9 (!(x2 == 3))) else (impl_SetState.j1 k x0 x2 x8 x9 (!false))))) else (if ((rd_T84 x0 x9).f4) = 1 then (impl_SetState.j1 k x0 x2 x8 x9 (!(x2 == 3))) else (impl_SetState.j1 k x0 x2 x8 x9 (!false)))) else (none)) else (none))
def impl_SetState.j1 : Nat → List (S84) → Int → List (S84) → Int → Bool → Option ((List (S84)) × Bool)
 | 0, _, _, _, _, _ => none
 | k + 1, x0, x2, x8, x9, x47 => if x47 = true then (some (x8, false)) else (if 0 ≤ x9 then (if x9 < (x8.length : Int) then ((some (x8.set (x9 : Int).toNat (⟨(rd_T84 x8 x9).f0, (rd_T84 x8 x9).f1, (rd_T84 x8 x9).f2, (rd_T84 x8 x9).f3, x2⟩ : S84) : List (S84))).bind fun y420 => ((impl_AreClaims.f k y420).bind fun t421 => (if t421 = true then (some (y420, true)) else ((impl_Claim_122.f x0).bind fun t422 => (some (t422, false)))))) else (none)) else (none))
end
def impl_SetState.f (k : Nat) (l0 : List (S84)) (a1 : Int) (a2 : Int) : Option ((List (S84)) × Bool) := (impl_Claim_122.f l0).bind fun t414 => ((impl_FindClaim.f l0 a1).bind fun t417 => (if t417 < 0 then (impl_SetState.j0 k l0 a2 t414 t417 true) else ((impl_AreClaims.f k l0).bind fun t418 => (impl_SetState.j0 k l0 a2 t414 t417 (!t418)))))
theorem impl_SetState.mono_l : ∀ k, (∀ y0 y1 y2 y3 y4, LeO (impl_SetState.j0 k y0 y1 y2 y3 y4) (impl_SetState.j0 (k + 1) y0 y1 y2 y3 y4)) ∧ (∀ y0 y1 y2 y3 y4, LeO (impl_SetState.j1 k y0 y1 y2 y3 y4) (impl_SetState.j1 (k + 1) y0 y1 y2 y3 y4))
 | 0 => ⟨fun _ _ _ _ _ r h => by simp [impl_SetState.j0] at h, fun _ _ _ _ _ r h => by simp [impl_SetState.j1] at h⟩
 | k + 1 => by
  obtain ⟨ih0, ih1⟩ := impl_SetState.mono_l k; refine ⟨?_, ?_⟩
  ·intro y0 y1 y2 y3 y4; unfold impl_SetState.j0
   repeat' first
   | (with_reducible exact ih0 _ _ _ _ _)
   | (with_reducible exact ih1 _ _ _ _ _)
   | (with_reducible exact impl_AreClaims.mono _ _)
   | (with_reducible exact LeO.refl _)
   | (with_reducible exact LeO.none _)
   | (with_reducible refine LeO.ite ?_ ?_)
   | (with_reducible refine LeO.bind ?_ (fun _ => ?_))
   | exact ih0 _ _ _ _ _
   | exact ih1 _ _ _ _ _
   | exact impl_AreClaims.mono _ _
   | exact LeO.none _
   | refine LeO.ite ?_ ?_
   | refine LeO.bind ?_ (fun _ => ?_)
  ·intro y0 y1 y2 y3 y4; unfold impl_SetState.j1
   repeat' first
   | (with_reducible exact ih0 _ _ _ _ _)
   | (with_reducible exact ih1 _ _ _ _ _)
   | (with_reducible exact impl_AreClaims.mono _ _)
   | (with_reducible exact LeO.refl _)
   | (with_reducible exact LeO.none _)
   | (with_reducible refine LeO.ite ?_ ?_)
   | (with_reducible refine LeO.bind ?_ (fun _ => ?_))
   | exact ih0 _ _ _ _ _
   | exact ih1 _ _ _ _ _
   | exact impl_AreClaims.mono _ _
   | exact LeO.none _
   | refine LeO.ite ?_ ?_
   | refine LeO.bind ?_ (fun _ => ?_)
theorem impl_SetState.mono : ∀ a0 a1 a2 k, LeO (impl_SetState.f k a0 a1 a2) (impl_SetState.f (k + 1) a0 a1 a2) := by
 intro a0 a1 a2 k; obtain ⟨ih0, ih1⟩ := impl_SetState.mono_l k; unfold impl_SetState.f
 repeat' first
   | (with_reducible exact ih0 _ _ _ _ _)
   | (with_reducible exact ih1 _ _ _ _ _)
   | (with_reducible exact impl_AreClaims.mono _ _)
   | (with_reducible exact LeO.refl _)
   | (with_reducible exact LeO.none _)
   | (with_reducible refine LeO.ite ?_ ?_)
   | (with_reducible refine LeO.bind ?_ (fun _ => ?_))
   | exact ih0 _ _ _ _ _
   | exact ih1 _ _ _ _ _
   | exact impl_AreClaims.mono _ _
   | exact LeO.none _
   | refine LeO.ite ?_ ?_
   | refine LeO.bind ?_ (fun _ => ?_)
set_option maxHeartbeats 8000000 in
set_option maxRecDepth 100000 in
theorem impl_SetState.calls (k : Nat) (A0 : Option Addr) (c0 : Nat) (l0 : List (S84)) (a1 : Int) (a2 : Int) (r1 : List (S84)) (r2 : Bool) (w : World) (hr0 : Kd.C k84 w A0 l0.length l0) (hc0 : l0.length ≤ c0) (h : impl_SetState.f k l0 a1 a2 = some (r1, r2)) :
  Calls Try.prog 84 #[.slice A0 l0.length c0, .int .i64 a1, .int .i64 a2] w fun e w' => ∃ v0_ : Value, e = .returned (.tuple #[v0_, .bool r2]) ∧ Kd.R k84 84 w' w.heap.size (fun _ => True) v0_ r1 ∧ Below w.heap.size w w' := by
 have HR0 := Aside0.mk hr0; have HC0 := Aside0.mk hc0; clear hr0 hc0; have HB := aM (Below.refl w.heap.size w); have H : ((impl_Claim_122.f l0).bind fun t414 => ((impl_FindClaim.f l0 a1).bind fun t417 => (if t417 < 0 then (impl_SetState.j0 k l0 a2 t414 t417 true) else ((impl_AreClaims.f k l0).bind fun t418 => (impl_SetState.j0 k l0 a2 t414 t417 (!t418)))))) = some (r1, r2) := h; clear h; replace H := Option.bind_eq_some_iff.mp H; obtain ⟨t414, A40, H⟩ := H; have A4 := Aside0.mk A40; clear A40; replace H := Option.bind_eq_some_iff.mp H; obtain ⟨t417, A50, H⟩ := H; have A5 := Aside0.mk A50; clear A50; have HC6 := Aside0.mk H; clear H; go_enter Try.func84, Try.ntmps84; go_upto_region 3 with (first | ((with_reducible refine gate_callee (f := 122) rfl ?_); refine goesL_ (some 12) rfl rfl Try.func122 (by kernel_rfl) rfl #[.slice A0 l0.length c0] rfl tM ?_; (with_reducible refine (impl_Claim_122.calls _ _ l0 t414 _ ?side1 ?side2 A4.out).mono ?_); (case side1 => repeat (first | exact HR0.out | (with_reducible refine Kd.C_alloc ?_ _) | (with_reducible refine Kd.C_drewN ?_ _) | (with_reducible refine Kd.C_drew ?_))); (case side2 => exact HC0.out); rintro e w7 ⟨v415, rfl, ho0, hb⟩; refine ⟨_, rfl, ?_⟩; have HO416 := aM (Kd.R_lower ho0 (below_size (qB HB))); replace HB := aM (below_step (qB HB) hb); (try clear hb); (try clear hb2); (try clear hk); (try clear hi); (try clear ho0)) | ((with_reducible refine gate_callee (f := 80) rfl ?_); refine goesL_ (some 15) rfl rfl Try.func80 (by kernel_rfl) rfl #[.slice A0 l0.length c0, .int .i64 a1] rfl tM ?_; (with_reducible refine (impl_FindClaim.calls _ _ l0 a1 t417 _ ?side1 ?side2 A5.out).mono ?_); (case side1 => exact qC (Kd.C_below HR0.out HB.out)); (case side2 => exact HC0.out); rintro e w8 ⟨rfl, hb⟩; refine ⟨_, rfl, ?_⟩; replace HO416 := aM (Kd.R_below (qR HO416) hb); replace HB := aM (below_step (qB HB) hb); (try clear hb); (try clear hb2); (try clear hk); (try clear hi)))
 (try simp only [Act.put, sA, sZ, sS]); go_cut [22] (fun v22 wc => ∃ (kq : Nat) (x22_5 : Bool), v22 = .bool x22_5 ∧ Aside0 (impl_SetState.j0 kq l0 a2 t414 t417 x22_5 = some (r1, r2)) ∧ Aside0 (kq ≤ k) ∧ Aside0 (Kd.R k84 84 wc w.heap.size (fun _ => True) v415 t414) ∧ Aside0 (Below w.heap.size w wc))
 case first =>
  have H := HC6.out; clear HC6; by_cases c9 : t417 < 0
  ·rw [if_pos c9] at H; have c9b0 : decide (t417 < 0) = true := decide_eq_true c9; clear c9; (first | rw [c9b0] | (simp only [i64_w, i32_w]; rw [c9b0]) | skip); have H' := Aside0.mk H; clear H; go_wp2; go_meet
   case rel => exact ⟨_, (true), tS, H', ⟨by first | omega | exact Nat.le_refl _⟩, ⟨tR HO416⟩, ⟨tB0⟩⟩
  ·rw [if_neg c9] at H; have c9b0 : decide (t417 < 0) = false := decide_eq_false c9; clear c9; (first | rw [c9b0] | (simp only [i64_w, i32_w]; rw [c9b0]) | skip); replace H := Option.bind_eq_some_iff.mp H; obtain ⟨t418, A100, H⟩ := H; have A10 := Aside0.mk A100; clear A100; have H' := Aside0.mk H; clear H; go_wp2_with (first | (go_at_call 79; (with_reducible refine (impl_AreClaims.calls k _ _ l0 t418 _ ?side1 ?side2 A10.out).mono ?_); (case side1 => exact qC (Kd.C_below HR0.out HB.out)); (case side2 => exact HC0.out); rintro e w11 ⟨rfl, hb⟩; replace HO416 := aM (Kd.R_below (qR HO416) hb); replace HB := aM (below_step (qB HB) hb); (try clear hb); (try clear hb2); (try clear hk); (try clear hi))); go_meet
   case rel => exact ⟨_, (!t418), tS, H', ⟨by first | omega | exact Nat.le_refl _⟩, ⟨tR HO416⟩, ⟨tB0⟩⟩
 case rest =>
  clear HC6; try clear c1
  try clear p2
  try clear c8
  try clear c9
  try clear c9b0
  obtain ⟨kq, x22_5, rfl, HA, HJ5, HO_8, HB⟩ := hcut; cases kq with
  | zero => exact absurd HA.out (by simp [impl_SetState.j0])
  | succ kj5 =>
   have H := HA.out; clear HA; simp only [impl_SetState.j0] at H; by_cases c12 : x22_5 = true
   ·subst c12; rw [if_pos rfl] at H; simp only [Option.some.injEq, Prod.mk.injEq] at H; obtain ⟨rfl, rfl⟩ := H; go_wp2; go_ret2; exact ⟨_, tE, tR HO_8, tB0⟩
   ·replace c12 := Bool.eq_false_iff.mpr c12; subst c12; rw [if_neg ff_] at H; by_cases c13 : 0 ≤ t417
    ·rw [if_pos c13] at H; have c13b0 : decide (0 ≤ t417) = true := decide_eq_true c13; clear c13; by_cases c14 : t417 < (l0.length : Int)
     ·rw [if_pos c14] at H; have c14b0 : decide (t417 < (l0.length : Int)) = true := decide_eq_true c14; clear c14; have HC15 := Aside0.mk H; clear H; have p419 : 0 ≤ (t417 : Int) := of_decide_eq_true ‹_›; have q419 : t417 < (l0.length : Int) := of_decide_eq_true ‹_›; obtain ⟨ad419, e419, hx419_0, hx419_1, hx419_2, hx419_3, hx419_4⟩ := at_T84 HR0.out t417 p419 q419; cases e419
      replace hx419_0 := cB HB hx419_0; replace hx419_1 := cB HB hx419_1; replace hx419_2 := cB HB hx419_2; replace hx419_3 := cB HB hx419_3; replace hx419_4 := cB HB hx419_4; replace p419 := eq_true p419; replace q419 := eq_true q419; go_upto_region 6 with (fail)
      go_cut [47] (fun v47 wc => ∃ (kq : Nat) (x47_14 : Bool), v47 = .bool x47_14 ∧ Aside0 (impl_SetState.j1 kq l0 a2 t414 t417 x47_14 = some (r1, r2)) ∧ Aside0 (kq ≤ kj5) ∧ Aside0 (Kd.R k84 84 wc w.heap.size (fun _ => True) v415 t414) ∧ Aside0 (Below w.heap.size w wc))
      case first =>
       have H := HC15.out; clear HC15; by_cases c16 : ((rd_T84 l0 t417).f4) = 0
       ·rw [if_pos c16] at H; have c16b0 : (((rd_T84 l0 t417).f4) == 0) = true := beq_iff_eq.mpr c16; have c16b1 : (((rd_T84 l0 t417).f4) != 0) = false := bne_eq_false_iff_eq.mpr c16; clear c16; (first | rw [c16b0] | (simp only [i64_w, i32_w]; rw [c16b0]) | skip); by_cases c17 : a2 = 1
        ·rw [if_pos c17] at H; have c17b0 : (a2 == 1) = true := beq_iff_eq.mpr c17; have c17b1 : (a2 != 1) = false := bne_eq_false_iff_eq.mpr c17; clear c17; have H' := Aside0.mk H; clear H; go_wp2; go_meet
         case rel => exact ⟨_, (!true), tS, H', ⟨by have := HJ5.out; first | omega | exact Nat.le_refl _⟩, ⟨tR HO_8⟩, ⟨tB0⟩⟩
        ·rw [if_neg c17] at H; have c17b0 : (a2 == 1) = false := beq_eq_false_iff_ne.mpr c17; have c17b1 : (a2 != 1) = true := bne_iff_ne.mpr c17; by_cases c18 : a2 = 2
         ·rw [if_pos c18] at H; have c18b0 : (a2 == 2) = true := beq_iff_eq.mpr c18; have c18b1 : (a2 != 2) = false := bne_eq_false_iff_eq.mpr c18; clear c18; have H' := Aside0.mk H; clear H; go_wp2; go_meet
          case rel => exact ⟨_, (!true), tS, H', ⟨by have := HJ5.out; first | omega | exact Nat.le_refl _⟩, ⟨tR HO_8⟩, ⟨tB0⟩⟩
         ·rw [if_neg c18] at H; have c18b0 : (a2 == 2) = false := beq_eq_false_iff_ne.mpr c18; have c18b1 : (a2 != 2) = true := bne_iff_ne.mpr c18; by_cases c19 : ((rd_T84 l0 t417).f4) = 1
          ·rw [if_pos c19] at H; have c19b0 : (((rd_T84 l0 t417).f4) == 1) = true := beq_iff_eq.mpr c19; have c19b1 : (((rd_T84 l0 t417).f4) != 1) = false := bne_eq_false_iff_eq.mpr c19; clear c19; have H' := Aside0.mk H; clear H; go_wp2; go_meet
           case rel => exact ⟨_, (!(a2 == 3)), tS, H', ⟨by have := HJ5.out; first | omega | exact Nat.le_refl _⟩, ⟨tR HO_8⟩, ⟨tB0⟩⟩
          ·rw [if_neg c19] at H; have c19b0 : (((rd_T84 l0 t417).f4) == 1) = false := beq_eq_false_iff_ne.mpr c19; have c19b1 : (((rd_T84 l0 t417).f4) != 1) = true := bne_iff_ne.mpr c19; have H' := Aside0.mk H; clear H; go_wp2; go_meet
           case rel => exact ⟨_, (!false), tS, H', ⟨by have := HJ5.out; first | omega | exact Nat.le_refl _⟩, ⟨tR HO_8⟩, ⟨tB0⟩⟩
       ·rw [if_neg c16] at H; have c16b0 : (((rd_T84 l0 t417).f4) == 0) = false := beq_eq_false_iff_ne.mpr c16; have c16b1 : (((rd_T84 l0 t417).f4) != 0) = true := bne_iff_ne.mpr c16; (first | rw [c16b0] | (simp only [i64_w, i32_w]; rw [c16b0]) | skip); by_cases c20 : ((rd_T84 l0 t417).f4) = 1
        ·rw [if_pos c20] at H; have c20b0 : (((rd_T84 l0 t417).f4) == 1) = true := beq_iff_eq.mpr c20; have c20b1 : (((rd_T84 l0 t417).f4) != 1) = false := bne_eq_false_iff_eq.mpr c20; clear c20; have H' := Aside0.mk H; clear H; go_wp2; go_meet
         case rel => exact ⟨_, (!(a2 == 3)), tS, H', ⟨by have := HJ5.out; first | omega | exact Nat.le_refl _⟩, ⟨tR HO_8⟩, ⟨tB0⟩⟩
        ·rw [if_neg c20] at H; have c20b0 : (((rd_T84 l0 t417).f4) == 1) = false := beq_eq_false_iff_ne.mpr c20; have c20b1 : (((rd_T84 l0 t417).f4) != 1) = true := bne_iff_ne.mpr c20; have H' := Aside0.mk H; clear H; go_wp2; go_meet
         case rel => exact ⟨_, (!false), tS, H', ⟨by have := HJ5.out; first | omega | exact Nat.le_refl _⟩, ⟨tR HO_8⟩, ⟨tB0⟩⟩
      case rest =>
       clear HC15; try clear c1
       try clear c2
       try clear p2
       try clear p4
       try clear q4
       try clear hx4
       try clear c8
       try clear c9
       try clear c9b0
       try clear c12
       try clear c13
       try clear c13b0
       try clear c14
       try clear c14b0
       try clear c16
       try clear c16b0
       try clear c16b1
       try clear c17
       try clear c17b0
       try clear c17b1
       try clear c18
       try clear c18b0
       try clear c18b1
       try clear c19
       try clear c19b0
       try clear c19b1
       try clear c20
       try clear c20b0
       try clear c20b1
       try clear hx419_0
       try clear hx419_1
       try clear hx419_2
       try clear hx419_3
       try clear hx419_4
       try clear p2
       try clear p419
       try clear q419
       obtain ⟨kq, x47_14, rfl, HA, HJ14, HO_8, HB⟩ := hcut; cases kq with
       | zero => exact absurd HA.out (by simp [impl_SetState.j1])
       | succ kj14 =>
        have H := HA.out; clear HA; simp only [impl_SetState.j1] at H; by_cases c21 : x47_14 = true
        ·subst c21; rw [if_pos rfl] at H; simp only [Option.some.injEq, Prod.mk.injEq] at H; obtain ⟨rfl, rfl⟩ := H; go_wp2; go_ret2; exact ⟨_, tE, tR HO_8, tB0⟩
        ·replace c21 := Bool.eq_false_iff.mpr c21; subst c21; rw [if_neg ff_] at H; by_cases c22 : 0 ≤ t417
         ·rw [if_pos c22] at H; have c22b0 : decide (0 ≤ t417) = true := decide_eq_true c22; clear c22; by_cases c23 : t417 < (t414.length : Int)
          ·rw [if_pos c23] at H; have c23b0 : decide (t417 < (t414.length : Int)) = true := decide_eq_true c23; clear c23; obtain ⟨y420, hy420⟩ : ∃ y_ : List (S84), y_ = (t414.set (t417 : Int).toNat (⟨(rd_T84 t414 t417).f0, (rd_T84 t414 t417).f1, (rd_T84 t414 t417).f2, (rd_T84 t414 t417).f3, a2⟩ : S84)) := ⟨_, rfl⟩
           (first | replace H := bY H hy420 | rw [← hy420] at H | skip); have Ny420 := Aside0.mk hy420; clear hy420; replace H := Option.bind_eq_some_iff.mp H; obtain ⟨t421, A250, H⟩ := H; have A25 := Aside0.mk A250; clear A250; by_cases c26 : t421 = true
           ·subst c26; rw [if_pos rfl] at H; simp only [Option.some.injEq, Prod.mk.injEq] at H; obtain ⟨rfl, rfl⟩ := H; have p24 : 0 ≤ (t417 : Int) := of_decide_eq_true ‹_›; have q24 : (t417 : Int) < ((t414.length : Int) : Int) := of_decide_eq_true ‹_›; obtain ⟨go24, co24, eo24, gb24, gl24, cl24, HG24⟩ := Kd.R_form HO_8.out (by omega); (first | cases eo24 | (injection eo24 with ea_ en_ ec_; (first | subst ea_ | (injection ea_ with ea_; subst ea_)); subst ec_; clear en_)); have GB24 := Aside0.mk gb24; have GG24 := Aside0.mk HG24; clear gb24 gl24 HG24; obtain ⟨ce24, hcl24, hM24, hcc24, hfr24⟩ := Kd.R_elem HO_8.out z84 (t417 : Int) p24 q24; obtain rfl := k84_openM hM24; have hx24_0 : wc.cell? ⟨go24, (t417 : Int).toNat * 5, none⟩ = some (.int .i64 ((rd_T84 t414 t417).f0)) := hcc24 0 _ rfl; have hx24_1 : wc.cell? ⟨go24, (t417 : Int).toNat * 5 + 1, none⟩ = some (.int .i64 ((rd_T84 t414 t417).f1)) := hcc24 1 _ rfl; have hx24_2 : wc.cell? ⟨go24, (t417 : Int).toNat * 5 + 2, none⟩ = some (.int .i64 ((rd_T84 t414 t417).f2)) := hcc24 2 _ rfl; have hx24_3 : wc.cell? ⟨go24, (t417 : Int).toNat * 5 + 3, none⟩ = some (.int .i64 ((rd_T84 t414 t417).f3)) := hcc24 3 _ rfl; have hx24_4 : wc.cell? ⟨go24, (t417 : Int).toNat * 5 + 4, none⟩ = some (.int .i64 ((rd_T84 t414 t417).f4)) := hcc24 4 _ rfl; have hf24_0 : wc.frozen? ⟨go24, (t417 : Int).toNat * 5, none⟩ = false := hfr24 0; have hf24_1 : wc.frozen? ⟨go24, (t417 : Int).toNat * 5 + 1, none⟩ = false := hfr24 1; have hf24_2 : wc.frozen? ⟨go24, (t417 : Int).toNat * 5 + 2, none⟩ = false := hfr24 2; have hf24_3 : wc.frozen? ⟨go24, (t417 : Int).toNat * 5 + 3, none⟩ = false := hfr24 3; have hf24_4 : wc.frozen? ⟨go24, (t417 : Int).toNat * 5 + 4, none⟩ = false := hfr24 4; clear hcl24 hcc24 hfr24 hM24; replace p24 := eq_true p24; replace q24 := eq_true q24; have HX27 := aM (show Kd.R k84 84 wc w.heap.size (fun _ => True) (.slice (some ⟨go24, 0, none⟩) t414.length co24) t414 from (qR HO_8)); obtain ⟨ce27, hcl27, hM27, hcc27, hfr27⟩ := Kd.R_elem HX27.out z84 (t417 : Int) (of_decide_eq_true ‹_›) (tL t417 t414.length HO_8); obtain rfl := k84_openM hM27; have HP27 := Kd.R_seg HX27.out (t417 : Int) (of_decide_eq_true ‹_›) (tL t417 t414.length HO_8) (seg := [.int .i64 a2]) (j := 4) hcl27 hcc27 (show 5 ≤ 5 from by decide) (x' := (⟨(rd_T84 t414 t417).f0, (rd_T84 t414 t417).f1, (rd_T84 t414 t417).f2, (rd_T84 t414 t417).f3, a2⟩ : S84)) (k84_mkM _ _ _ (⟨(rd_T84 t414 t417).f0, (rd_T84 t414 t417).f1, (rd_T84 t414 t417).f2, (rd_T84 t414 t417).f3, a2⟩ : S84) ) (fun _ hk => hk); have hx27_4 := hcc27 4 _ rfl; (try simp only [show (k84).sz = 5 from rfl, Nat.mul_one, Nat.add_zero] at hx27_4); have hf27_4 := hfr27 4; (try simp only [show (k84).sz = 5 from rfl, Nat.mul_one, Nat.add_zero] at hf27_4); clear hcl27 hcc27 hfr27 hM27; go_wp2_with (first | ((with_reducible refine gate_store (t := 3) (p := 53) rfl ?_); refine store_event (t := 3) (p := 53) (v := ?vo_w28) (w1 := (wc.setCell ⟨go24, (t417 : Int).toNat * 5 + 4, none⟩ (.int .i64 a2))) ?hg ?ho ?hn ?hr ?_; (case ho => rfl); (case hg => rfl); (case hn => rfl); (case hr => first | (go_simp; done) | (go_simp; rfl)); intro w28 hw; have hg : wc.grownBy w28 (some go24) := (by rw [hw]; exact HP27.2); have hp_ : Kd.R k84 84 w28 w.heap.size (fun _ => True) (.slice (some ⟨go24, 0, none⟩) t414.length co24) y420 := (by rw [hw, Ny420.out]; exact HP27.1); clear HP27; replace HO_8 := aM hp_; replace HB := aM ((by rw [hw]; exact below_set (HB.out) GB24.out : Below w.heap.size w w28)); clear hg hw hp_) | ((with_reducible refine gate_callee (f := 79) rfl ?_); refine goesL_ (some 55) rfl rfl Try.func79 (by kernel_rfl) rfl #[.slice (some ⟨go24, 0, none⟩) y420.length co24] rfl (by (try simp only [List.map_toArray, List.map_cons, List.map_nil]); first | done | (rw [show y420.length = t414.length from (Kd.R_reads' HO_8.out).1.symm] <;> rfl) | rfl | (simp only [List.length_drop, List.length_take]; rfl)) ?_; (with_reducible refine (impl_AreClaims.calls kj14 _ _ y420 true _ ?side1 ?side2 A25.out).mono ?_); (case side1 => exact tC HO_8); (case side2 => rw [show y420.length = t414.length from (Kd.R_reads' HO_8.out).1.symm]; exact (Kd.R_reads' HO_8.out).2.1); rintro e w29 ⟨rfl, hb⟩; refine ⟨_, rfl, ?_⟩; replace HO_8 := aM (Kd.R_below (qR HO_8) hb); replace HB := aM (below_step (qB HB) hb); (try clear hb); (try clear hb2); (try clear hk); (try clear hi))); go_ret2; exact ⟨_, tE, tR HO_8, tB0⟩
           ·replace c26 := Bool.eq_false_iff.mpr c26; subst c26; rw [if_neg ff_] at H; replace H := Option.bind_eq_some_iff.mp H; obtain ⟨t422, A300, H⟩ := H; have A30 := Aside0.mk A300; clear A300; simp only [Option.some.injEq, Prod.mk.injEq] at H; obtain ⟨rfl, rfl⟩ := H; have p24 : 0 ≤ (t417 : Int) := of_decide_eq_true ‹_›; have q24 : (t417 : Int) < ((t414.length : Int) : Int) := of_decide_eq_true ‹_›; obtain ⟨go24, co24, eo24, gb24, gl24, cl24, HG24⟩ := Kd.R_form HO_8.out (by omega); (first | cases eo24 | (injection eo24 with ea_ en_ ec_; (first | subst ea_ | (injection ea_ with ea_; subst ea_)); subst ec_; clear en_)); have GB24 := Aside0.mk gb24; have GG24 := Aside0.mk HG24; clear gb24 gl24 HG24; obtain ⟨ce24, hcl24, hM24, hcc24, hfr24⟩ := Kd.R_elem HO_8.out z84 (t417 : Int) p24 q24; obtain rfl := k84_openM hM24; have hx24_0 : wc.cell? ⟨go24, (t417 : Int).toNat * 5, none⟩ = some (.int .i64 ((rd_T84 t414 t417).f0)) := hcc24 0 _ rfl; have hx24_1 : wc.cell? ⟨go24, (t417 : Int).toNat * 5 + 1, none⟩ = some (.int .i64 ((rd_T84 t414 t417).f1)) := hcc24 1 _ rfl; have hx24_2 : wc.cell? ⟨go24, (t417 : Int).toNat * 5 + 2, none⟩ = some (.int .i64 ((rd_T84 t414 t417).f2)) := hcc24 2 _ rfl; have hx24_3 : wc.cell? ⟨go24, (t417 : Int).toNat * 5 + 3, none⟩ = some (.int .i64 ((rd_T84 t414 t417).f3)) := hcc24 3 _ rfl; have hx24_4 : wc.cell? ⟨go24, (t417 : Int).toNat * 5 + 4, none⟩ = some (.int .i64 ((rd_T84 t414 t417).f4)) := hcc24 4 _ rfl; have hf24_0 : wc.frozen? ⟨go24, (t417 : Int).toNat * 5, none⟩ = false := hfr24 0; have hf24_1 : wc.frozen? ⟨go24, (t417 : Int).toNat * 5 + 1, none⟩ = false := hfr24 1; have hf24_2 : wc.frozen? ⟨go24, (t417 : Int).toNat * 5 + 2, none⟩ = false := hfr24 2; have hf24_3 : wc.frozen? ⟨go24, (t417 : Int).toNat * 5 + 3, none⟩ = false := hfr24 3; have hf24_4 : wc.frozen? ⟨go24, (t417 : Int).toNat * 5 + 4, none⟩ = false := hfr24 4; clear hcl24 hcc24 hfr24 hM24; replace p24 := eq_true p24; replace q24 := eq_true q24; have HX31 := aM (show Kd.R k84 84 wc w.heap.size (fun _ => True) (.slice (some ⟨go24, 0, none⟩) t414.length co24) t414 from (qR HO_8)); obtain ⟨ce31, hcl31, hM31, hcc31, hfr31⟩ := Kd.R_elem HX31.out z84 (t417 : Int) (of_decide_eq_true ‹_›) (tL t417 t414.length HO_8); obtain rfl := k84_openM hM31; have HP31 := Kd.R_seg HX31.out (t417 : Int) (of_decide_eq_true ‹_›) (tL t417 t414.length HO_8) (seg := [.int .i64 a2]) (j := 4) hcl31 hcc31 (show 5 ≤ 5 from by decide) (x' := (⟨(rd_T84 t414 t417).f0, (rd_T84 t414 t417).f1, (rd_T84 t414 t417).f2, (rd_T84 t414 t417).f3, a2⟩ : S84)) (k84_mkM _ _ _ (⟨(rd_T84 t414 t417).f0, (rd_T84 t414 t417).f1, (rd_T84 t414 t417).f2, (rd_T84 t414 t417).f3, a2⟩ : S84) ) (fun _ hk => hk); have hx31_4 := hcc31 4 _ rfl; (try simp only [show (k84).sz = 5 from rfl, Nat.mul_one, Nat.add_zero] at hx31_4); have hf31_4 := hfr31 4; (try simp only [show (k84).sz = 5 from rfl, Nat.mul_one, Nat.add_zero] at hf31_4); clear hcl31 hcc31 hfr31 hM31; go_wp2_with (first | ((with_reducible refine gate_store (t := 3) (p := 53) rfl ?_); refine store_event (t := 3) (p := 53) (v := ?vo_w32) (w1 := (wc.setCell ⟨go24, (t417 : Int).toNat * 5 + 4, none⟩ (.int .i64 a2))) ?hg ?ho ?hn ?hr ?_; (case ho => rfl); (case hg => rfl); (case hn => rfl); (case hr => first | (go_simp; done) | (go_simp; rfl)); intro w32 hw; have hg : wc.grownBy w32 (some go24) := (by rw [hw]; exact HP31.2); have hp_ : Kd.R k84 84 w32 w.heap.size (fun _ => True) (.slice (some ⟨go24, 0, none⟩) t414.length co24) y420 := (by rw [hw, Ny420.out]; exact HP31.1); clear HP31; replace HO_8 := aM hp_; replace HB := aM ((by rw [hw]; exact below_set (HB.out) GB24.out : Below w.heap.size w w32)); clear hg hw hp_) | ((with_reducible refine gate_callee (f := 79) rfl ?_); refine goesL_ (some 55) rfl rfl Try.func79 (by kernel_rfl) rfl #[.slice (some ⟨go24, 0, none⟩) y420.length co24] rfl (by (try simp only [List.map_toArray, List.map_cons, List.map_nil]); first | done | (rw [show y420.length = t414.length from (Kd.R_reads' HO_8.out).1.symm] <;> rfl) | rfl | (simp only [List.length_drop, List.length_take]; rfl)) ?_; (with_reducible refine (impl_AreClaims.calls kj14 _ _ y420 false _ ?side1 ?side2 A25.out).mono ?_); (case side1 => exact tC HO_8); (case side2 => rw [show y420.length = t414.length from (Kd.R_reads' HO_8.out).1.symm]; exact (Kd.R_reads' HO_8.out).2.1); rintro e w33 ⟨rfl, hb⟩; refine ⟨_, rfl, ?_⟩; replace HO_8 := aM (Kd.R_below (qR HO_8) hb); replace HB := aM (below_step (qB HB) hb); (try clear hb); (try clear hb2); (try clear hk); (try clear hi)) | ((with_reducible refine gate_callee (f := 122) rfl ?_); refine goesL_ (some 58) rfl rfl Try.func122 (by kernel_rfl) rfl #[.slice (some ad419) l0.length c0] rfl tM ?_; (with_reducible refine (impl_Claim_122.calls _ _ l0 t422 _ ?side1 ?side2 A30.out).mono ?_); (case side1 => exact qC (Kd.C_below HR0.out HB.out)); (case side2 => exact HC0.out); rintro e w34 ⟨v423, rfl, ho0, hb⟩; refine ⟨_, rfl, ?_⟩; have HO424 := aM (Kd.R_lower (Kd.R_new' ho0 (Kd.R_lt (qR HO_8))) (below_size (qB HB))); replace HO_8 := aM (Kd.R_elder' (qR HO_8) (Kd.R_base ho0) hb); replace HB := aM (below_step (qB HB) hb); (try clear hb); (try clear hb2); (try clear hk); (try clear hi); (try clear ho0))); go_ret2; exact ⟨_, tE, by (with_reducible repeat first | apply rA | apply rN | apply rD); exact Kd.R_mono HO424.out (fun _ hk => trivial), tB0⟩
          ·rw [if_neg c23] at H; exact absurd H (by simp)
         ·rw [if_neg c22] at H; exact absurd H (by simp)
     ·rw [if_neg c14] at H; exact absurd H (by simp)
    ·rw [if_neg c13] at H; exact absurd H (by simp)

/-! ### spec_DrawClaimsFor: function 150 -/
def spec_DrawClaimsFor.f (k : Nat) (l0 : List Int) : Option ((List (S84)) × Int) := (spec_l1New.f k l0).bind fun bt425 => ((spec_l13Any.f k bt425.1 bt425.2.1 bt425.2.2).bind fun bt429 => ((spec_l1Below.f bt425.1 bt429.2.1 bt429.2.2 5).bind fun bt434 => (some (bt429.1, wrap64 (2 * bt434.1)))))
theorem spec_DrawClaimsFor.mono : ∀ a0 k, LeO (spec_DrawClaimsFor.f k a0) (spec_DrawClaimsFor.f (k + 1) a0) := by
 intro a0 k; unfold spec_DrawClaimsFor.f
 repeat' first
   | (with_reducible exact spec_l13Any.mono _ _ _ _)
   | (with_reducible exact spec_l1New.mono _ _)
   | (with_reducible exact LeO.refl _)
   | (with_reducible exact LeO.none _)
   | (with_reducible refine LeO.ite ?_ ?_)
   | (with_reducible refine LeO.bind ?_ (fun _ => ?_))
   | exact spec_l13Any.mono _ _ _ _
   | exact spec_l1New.mono _ _
   | exact LeO.none _
   | refine LeO.ite ?_ ?_
   | refine LeO.bind ?_ (fun _ => ?_)
set_option maxHeartbeats 8000000 in
set_option maxRecDepth 100000 in
theorem spec_DrawClaimsFor.calls (k : Nat) (A0 : Option Addr) (c0 : Nat) (l0 : List Int) (r1 : List (S84)) (r2 : Int) (w : World) (hr0 : Kd.C (Kd.int .u8) w A0 l0.length l0) (hc0 : l0.length ≤ c0) (h : spec_DrawClaimsFor.f k l0 = some (r1, r2)) :
  Calls Try.prog 150 #[.slice A0 l0.length c0] w fun e w' => ∃ v0_ : Value, e = .returned (.tuple #[v0_, .int .i64 r2]) ∧ Kd.R k84 84 w' w.heap.size (fun _ => True) v0_ r1 ∧ Below w.heap.size w w' := by
 have HR0 := Aside0.mk hr0; have HC0 := Aside0.mk hc0; clear hr0 hc0; have HB := aM (Below.refl w.heap.size w); have H : ((spec_l1New.f k l0).bind fun bt425 => ((spec_l13Any.f k bt425.1 bt425.2.1 bt425.2.2).bind fun bt429 => ((spec_l1Below.f bt425.1 bt429.2.1 bt429.2.2 5).bind fun bt434 => (some (bt429.1, wrap64 (2 * bt434.1)))))) = some (r1, r2) := h; clear h; replace H := Option.bind_eq_some_iff.mp H; obtain ⟨⟨t425, t426, t427⟩, A20, H⟩ := H; have A2 := Aside0.mk A20; clear A20; replace H := Option.bind_eq_some_iff.mp H; obtain ⟨⟨t429, t432, t433⟩, A30, H⟩ := H; have A3 := Aside0.mk A30; clear A30; replace H := Option.bind_eq_some_iff.mp H; obtain ⟨⟨t434, t435, t436⟩, A40, H⟩ := H; have A4 := Aside0.mk A40; clear A40; simp only [Option.some.injEq, Prod.mk.injEq] at H; obtain ⟨rfl, rfl⟩ := H; go_enter Try.func150, Try.ntmps150; go_wp2_with (first | ((with_reducible refine gate_callee (f := 110) rfl ?_); refine goesL_ (some 7) rfl rfl Try.func110 (by kernel_rfl) rfl #[.slice A0 l0.length c0] rfl tM ?_; (with_reducible refine (spec_l1New.calls k _ _ l0 t425 t426 t427 w _ ?side1 ?side2 ?side3 A2.out).mono ?_); (case side1 => repeat (first | (with_reducible first | exact HB.out | apply bA | apply bN | apply bD) | exact HB.out)); (case side2 => exact HR0.out); (case side3 => exact HC0.out); rintro e w5 ⟨g428, rfl, hi, hb, hb2⟩; refine ⟨_, rfl, ?_⟩; replace HB := aM hb; have HI428 := aM hi; (try clear hb); (try clear hb2); (try clear hk); (try clear hi)) | ((with_reducible refine gate_callee (f := 146) rfl ?_); refine goesL_ (some 9) rfl rfl Try.func146 (by kernel_rfl) rfl #[.pointer (some ⟨g428, 0, none⟩)] rfl tM ?_; (with_reducible refine (spec_l13Any.calls k g428 t425 t426 t427 t429 t432 t433 w _ ?side1 ?side2 A3.out).mono ?_); (case side1 => repeat (first | (with_reducible first | exact HI428.out | apply IsS189.alloc | apply IsS189.drewN | apply IsS189.drew | apply IsS189.set_1 | apply IsS189.set_2) | exact HI428.out)); (case side2 => repeat (first | (with_reducible first | exact HB.out | apply bA | apply bN | apply bD | refine bS ?_ (IsS189.ge HI428.out)) | exact HB.out)); rintro e w6 ⟨v430, rfl, ho0, hi, hb, hk⟩; refine ⟨_, rfl, ?_⟩; have HO431 := aM (Kd.R_lower ho0 (below_size (tB1 (aM (IsS189.ge HI428.out))))); replace HB := aM hb; replace HI428 := aM hi; (try clear hb); (try clear hb2); (try clear hk); (try clear hi); (try clear ho0)) | ((with_reducible refine gate_callee (f := 112) rfl ?_); refine goesL_ (some 12) rfl rfl Try.func112 (by kernel_rfl) rfl #[.pointer (some ⟨g428, 0, none⟩), .int .i64 5] rfl tM ?_; (with_reducible refine (spec_l1Below.calls g428 t425 t432 t433 5 t434 t435 t436 w _ ?side1 ?side2 A4.out).mono ?_); (case side1 => repeat (first | (with_reducible first | exact HI428.out | apply IsS189.alloc | apply IsS189.drewN | apply IsS189.drew | apply IsS189.set_1 | apply IsS189.set_2) | exact HI428.out)); (case side2 => repeat (first | (with_reducible first | exact HB.out | apply bA | apply bN | apply bD | refine bS ?_ (IsS189.ge HI428.out)) | exact HB.out)); rintro e w7 ⟨rfl, hi, hb, hk⟩; refine ⟨_, rfl, ?_⟩; replace HO431 := aM (Kd.R_mono (Kd.R_keep (IsS189.apart (show IsS189 w _ g428 t425 t432 t433 from by repeat (first | (with_reducible first | exact HI428.out | apply IsS189.alloc | apply IsS189.drewN | apply IsS189.drew | apply IsS189.set_1 | apply IsS189.set_2) | exact HI428.out)) (qR HO431) (by decide)) hk (fun _ h => h.2)) (fun _ h => h.1)); replace HB := aM hb; replace HI428 := aM hi; (try clear hb); (try clear hb2); (try clear hk); (try clear hi))); go_ret2; exact ⟨_, tE, tR HO431, tB1 (aM (IsS189.ge HI428.out))⟩

/-! ### spec_DrawFirstProved: function 85 -/
def spec_DrawFirstProved.f (k : Nat) (l0 : List Int) : Option ((List (S84)) × Int) := (spec_DrawClaimsFor.f k l0).bind fun bt437 => (some (bt437.1, bt437.2))
theorem spec_DrawFirstProved.mono : ∀ a0 k, LeO (spec_DrawFirstProved.f k a0) (spec_DrawFirstProved.f (k + 1) a0) := by
 intro a0 k; unfold spec_DrawFirstProved.f
 repeat' first
   | (with_reducible exact spec_DrawClaimsFor.mono _ _)
   | (with_reducible exact LeO.refl _)
   | (with_reducible exact LeO.none _)
   | (with_reducible refine LeO.ite ?_ ?_)
   | (with_reducible refine LeO.bind ?_ (fun _ => ?_))
   | exact spec_DrawClaimsFor.mono _ _
   | exact LeO.none _
   | refine LeO.ite ?_ ?_
   | refine LeO.bind ?_ (fun _ => ?_)
set_option maxHeartbeats 8000000 in
set_option maxRecDepth 100000 in
theorem spec_DrawFirstProved.calls (k : Nat) (A0 : Option Addr) (c0 : Nat) (l0 : List Int) (r1 : List (S84)) (r2 : Int) (w : World) (hr0 : Kd.C (Kd.int .u8) w A0 l0.length l0) (hc0 : l0.length ≤ c0) (h : spec_DrawFirstProved.f k l0 = some (r1, r2)) :
  Calls Try.prog 85 #[.slice A0 l0.length c0] w fun e w' => ∃ v0_ : Value, e = .returned (.tuple #[v0_, .int .i64 r2]) ∧ Kd.R k84 84 w' w.heap.size (fun _ => True) v0_ r1 ∧ Below w.heap.size w w' := by
 have HR0 := Aside0.mk hr0; have HC0 := Aside0.mk hc0; clear hr0 hc0; have HB := aM (Below.refl w.heap.size w); have H : ((spec_DrawClaimsFor.f k l0).bind fun bt437 => (some (bt437.1, bt437.2))) = some (r1, r2) := h; clear h; replace H := Option.bind_eq_some_iff.mp H; obtain ⟨⟨t437, t438⟩, A20, H⟩ := H; have A2 := Aside0.mk A20; clear A20; simp only [Option.some.injEq, Prod.mk.injEq] at H; obtain ⟨rfl, rfl⟩ := H; go_enter Try.func85, Try.ntmps85; go_wp2_with (first | ((with_reducible refine gate_callee (f := 150) rfl ?_); refine goesL_ (some 5) rfl rfl Try.func150 (by kernel_rfl) rfl #[.slice A0 l0.length c0] rfl tM ?_; (with_reducible refine (spec_DrawClaimsFor.calls k _ _ l0 t437 t438 _ ?side1 ?side2 A2.out).mono ?_); (case side1 => repeat (first | exact HR0.out | (with_reducible refine Kd.C_alloc ?_ _) | (with_reducible refine Kd.C_drewN ?_ _) | (with_reducible refine Kd.C_drew ?_))); (case side2 => exact HC0.out); rintro e w3 ⟨v439, rfl, ho0, hb⟩; refine ⟨_, rfl, ?_⟩; have HO440 := aM (Kd.R_lower ho0 (below_size (qB HB))); replace HB := aM (below_step (qB HB) hb); (try clear hb); (try clear hb2); (try clear hk); (try clear hi); (try clear ho0))); go_ret2; exact ⟨_, tE, tR HO440, tB0⟩

/-! ### impl_FirstProved: function 86 -/
def impl_FirstProved.l0 : Nat → Int → Bool → List (S84) → Int → Int → Int → Int → Int → Int → Int → Option (Int)
 | 0, _, _, _, _, _, _, _, _, _, _ => none
 | k + 1, x1, x6, x10, x11, x12, x442000, x442001, x442002, x442003, x442004 => if x12 < x11 then (if 0 ≤ x12 then (if x12 < (x10.length : Int) then (if ((rd_T84 x10 x12).f2) = x1 then (if ((rd_T84 x10 x12).f4) = 1 then (if x6 = true then (if ((rd_T84 x10 x12).f3) < x442003 then (impl_FirstProved.l0 k x1 true x10 x11 (wrap64 (x12 + 1)) ((rd_T84 x10 x12).f0) ((rd_T84 x10 x12).f1) ((rd_T84 x10 x12).f2) ((rd_T84 x10 x12).f3) ((rd_T84 x10 x12).f4)) else (impl_FirstProved.l0 k x1 x6 x10 x11 (wrap64 (x12 + 1)) x442000 x442001 x442002 x442003 x442004)) else (impl_FirstProved.l0 k x1 true x10 x11 (wrap64 (x12 + 1)) ((rd_T84 x10 x12).f0) ((rd_T84 x10 x12).f1) ((rd_T84 x10 x12).f2) ((rd_T84 x10 x12).f3) ((rd_T84 x10 x12).f4))) else (impl_FirstProved.l0 k x1 x6 x10 x11 (wrap64 (x12 + 1)) x442000 x442001 x442002 x442003 x442004)) else (impl_FirstProved.l0 k x1 x6 x10 x11 (wrap64 (x12 + 1)) x442000 x442001 x442002 x442003 x442004)) else (none)) else (none)) else (some x442000)
def impl_FirstProved.f (k : Nat) (l0 : List (S84)) (a1 : Int) : Option (Int) := impl_FirstProved.l0 k a1 false l0 (l0.length : Int) 0 0 0 0 0 0
theorem impl_FirstProved.mono_l : ∀ k, (∀ y0 y1 y2 y3 y4 y5 y6 y7 y8 y9, LeO (impl_FirstProved.l0 k y0 y1 y2 y3 y4 y5 y6 y7 y8 y9) (impl_FirstProved.l0 (k + 1) y0 y1 y2 y3 y4 y5 y6 y7 y8 y9))
 | 0 => fun _ _ _ _ _ _ _ _ _ _ r h => by simp [impl_FirstProved.l0] at h
 | k + 1 => by
  have ih0 := impl_FirstProved.mono_l k
  ·intro y0 y1 y2 y3 y4 y5 y6 y7 y8 y9; unfold impl_FirstProved.l0
   repeat' first
   | (with_reducible exact ih0 _ _ _ _ _ _ _ _ _ _)
   | (with_reducible exact LeO.refl _)
   | (with_reducible exact LeO.none _)
   | (with_reducible refine LeO.ite ?_ ?_)
   | (with_reducible refine LeO.bind ?_ (fun _ => ?_))
   | exact ih0 _ _ _ _ _ _ _ _ _ _
   | exact LeO.none _
   | refine LeO.ite ?_ ?_
   | refine LeO.bind ?_ (fun _ => ?_)
theorem impl_FirstProved.mono : ∀ a0 a1 k, LeO (impl_FirstProved.f k a0 a1) (impl_FirstProved.f (k + 1) a0 a1) := by
 intro a0 a1 k; have ih0 := impl_FirstProved.mono_l k; unfold impl_FirstProved.f
 repeat' first
   | (with_reducible exact ih0 _ _ _ _ _ _ _ _ _ _)
   | (with_reducible exact LeO.refl _)
   | (with_reducible exact LeO.none _)
   | (with_reducible refine LeO.ite ?_ ?_)
   | (with_reducible refine LeO.bind ?_ (fun _ => ?_))
   | exact ih0 _ _ _ _ _ _ _ _ _ _
   | exact LeO.none _
   | refine LeO.ite ?_ ?_
   | refine LeO.bind ?_ (fun _ => ?_)
set_option maxHeartbeats 8000000 in
set_option maxRecDepth 100000 in
theorem impl_FirstProved.calls (k : Nat) (A0 : Option Addr) (c0 : Nat) (l0 : List (S84)) (a1 : Int) (r : Int) (w : World) (hr0 : Kd.C k84 w A0 l0.length l0) (hc0 : l0.length ≤ c0) (h : impl_FirstProved.f k l0 a1 = some r) :
  Calls Try.prog 86 #[.slice A0 l0.length c0, .int .i64 a1] w fun e w' => e = .returned (.int .i64 r) ∧ Below w.heap.size w w' := by
 have hu84 := Try.underlying84; have HR0 := Aside0.mk hr0; have HC0 := Aside0.mk hc0; clear hr0 hc0; have HB := aM (Below.refl w.heap.size w); have H : (impl_FirstProved.l0 k a1 false l0 (l0.length : Int) 0 0 0 0 0 0) = some r := h; clear h; have H' := Aside0.mk H; clear H; go_enter Try.func86, Try.ntmps86; go_wp2_with (first | ((with_reducible refine gate_dst (N := 5) rfl ?_); refine box_event ?hg (N := 5) ?hd (cs := #[.int .i64 0, .int .i64 0, .int .i64 0, .int .i64 0, .int .i64 0]) (t := 84) ?hr ?_; (case hd => rfl); (case hg => rfl); (case hr => first | (go_simp; done) | (go_simp; rfl)); intro gb441 hg w3 hbox hb; have BK441 := aM hbox; have GW441 := aM ((by rw [hg]; exact (below_size (qB HB)) : w.heap.size ≤ gb441)); have GE441 := aM ((by rw [hg]; exact (below_size (qB HB)) : w.heap.size ≤ gb441)); replace HB := aM (below_step (qB HB) hb); clear hb hbox hg; have hcz4_0 : w3.cell? ⟨gb441, 0, none⟩ = some (.int .i64 0) := cC BK441 0; have hcz4_1 : w3.cell? ⟨gb441, 1, none⟩ = some (.int .i64 0) := cC BK441 1; have hcz4_2 : w3.cell? ⟨gb441, 2, none⟩ = some (.int .i64 0) := cC BK441 2; have hcz4_3 : w3.cell? ⟨gb441, 3, none⟩ = some (.int .i64 0) := cC BK441 3; have hcz4_4 : w3.cell? ⟨gb441, 4, none⟩ = some (.int .i64 0) := cC BK441 4; have hfz4_0 := blk_frozen BK441.out 0; have hfz4_1 := blk_frozen BK441.out 1; have hfz4_2 := blk_frozen BK441.out 2; have hfz4_3 := blk_frozen BK441.out 3; have hfz4_4 := blk_frozen BK441.out 4)); go_loopg [6, 12] k (fun kq v6 v12 w' => ∃ (x6_1 : Bool) (x12_1 : Int) (x442000_1 : Int) (x442001_1 : Int) (x442002_1 : Int) (x442003_1 : Int) (x442004_1 : Int), v6 = .bool x6_1 ∧ v12 = .int .i64 x12_1 ∧ Aside0 (impl_FirstProved.l0 kq a1 x6_1 l0 (l0.length : Int) x12_1 x442000_1 x442001_1 x442002_1 x442003_1 x442004_1 = some r) ∧ Aside0 (kq ≤ k) ∧ Aside0 (w'.heap[gb441]? = some (.cells #[.int .i64 x442000_1, .int .i64 x442001_1, .int .i64 x442002_1, .int .i64 x442003_1, .int .i64 x442004_1] 84 (0, 0))) ∧ Aside0 (Below w.heap.size w w'))
 case atStart => exact ⟨(false), (0), (0), (0), (0), (0), (0), tS, tS, H', ⟨Nat.le_refl _⟩, ⟨by (with_reducible repeat first | refine kN ?_ _ | refine kD ?_ | refine kA ?_ _); refine blk_put (cs := #[.int .i64 0, .int .i64 0, .int .i64 0, .int .i64 0, .int .i64 0]) ?_ 4 _ rfl; (with_reducible repeat first | refine kN ?_ _ | refine kD ?_ | refine kA ?_ _); refine blk_put (cs := #[.int .i64 0, .int .i64 0, .int .i64 0, .int .i64 0, .int .i64 0]) ?_ 3 _ rfl; (with_reducible repeat first | refine kN ?_ _ | refine kD ?_ | refine kA ?_ _); refine blk_put (cs := #[.int .i64 0, .int .i64 0, .int .i64 0, .int .i64 0, .int .i64 0]) ?_ 2 _ rfl; (with_reducible repeat first | refine kN ?_ _ | refine kD ?_ | refine kA ?_ _); refine blk_put (cs := #[.int .i64 0, .int .i64 0, .int .i64 0, .int .i64 0, .int .i64 0]) ?_ 1 _ rfl; (with_reducible repeat first | refine kN ?_ _ | refine kD ?_ | refine kA ?_ _); refine blk_put (cs := #[.int .i64 0, .int .i64 0, .int .i64 0, .int .i64 0, .int .i64 0]) ?_ 0 _ rfl; (with_reducible repeat first | refine kN ?_ _ | refine kD ?_ | refine kA ?_ _); exact BK441.out⟩, ⟨tB1 GE441⟩⟩
 case round =>
  clear H'; try clear p2
  try clear hcz4_0
  try clear hcz4_1
  try clear hcz4_2
  try clear hcz4_3
  try clear hcz4_4
  try clear hfz4_0
  try clear hfz4_1
  try clear hfz4_2
  try clear hfz4_3
  try clear hfz4_4
  obtain ⟨x6_1, x12_1, x442000_1, x442001_1, x442002_1, x442003_1, x442004_1, rfl, rfl, HA, HK1, BK441, HB⟩ := hrel; cases gk with
  | zero => exact absurd HA.out (by simp [impl_FirstProved.l0])
  | succ k1 =>
   have H := HA.out; clear HA; simp only [impl_FirstProved.l0] at H; by_cases c5 : x12_1 < (l0.length : Int)
   ·rw [if_pos c5] at H; have c5b0 : decide (x12_1 < (l0.length : Int)) = true := decide_eq_true c5; clear c5; by_cases c6 : 0 ≤ x12_1
    ·rw [if_pos c6] at H; have c6b0 : decide (0 ≤ x12_1) = true := decide_eq_true c6; clear c6; by_cases c7 : x12_1 < (l0.length : Int)
     ·rw [if_pos c7] at H; have c7b0 : decide (x12_1 < (l0.length : Int)) = true := decide_eq_true c7; clear c7; by_cases c8 : ((rd_T84 l0 x12_1).f2) = a1
      ·rw [if_pos c8] at H; have c8b0 : (((rd_T84 l0 x12_1).f2) == a1) = true := beq_iff_eq.mpr c8; have c8b1 : (((rd_T84 l0 x12_1).f2) != a1) = false := bne_eq_false_iff_eq.mpr c8; clear c8; by_cases c9 : ((rd_T84 l0 x12_1).f4) = 1
       ·rw [if_pos c9] at H; have c9b0 : (((rd_T84 l0 x12_1).f4) == 1) = true := beq_iff_eq.mpr c9; have c9b1 : (((rd_T84 l0 x12_1).f4) != 1) = false := bne_eq_false_iff_eq.mpr c9; clear c9; by_cases c10 : x6_1 = true
        ·subst c10; rw [if_pos rfl] at H; by_cases c11 : ((rd_T84 l0 x12_1).f3) < x442003_1
         ·rw [if_pos c11] at H; have c11b0 : decide (((rd_T84 l0 x12_1).f3) < x442003_1) = true := decide_eq_true c11; clear c11; have H' := Aside0.mk H; clear H; have p442 : 0 ≤ (x12_1 : Int) := of_decide_eq_true ‹_›; have q442 : x12_1 < (l0.length : Int) := of_decide_eq_true ‹_›; obtain ⟨ad442, e442, hx442_0, hx442_1, hx442_2, hx442_3, hx442_4⟩ := at_T84 HR0.out x12_1 p442 q442; cases e442
          replace hx442_0 := cB HB hx442_0; replace hx442_1 := cB HB hx442_1; replace hx442_2 := cB HB hx442_2; replace hx442_3 := cB HB hx442_3; replace hx442_4 := cB HB hx442_4; replace p442 := eq_true p442; replace q442 := eq_true q442; go_wp2_with (first | ((with_reducible refine gate_dst (N := 8) rfl ?_); refine box_event ?hg (N := 8) ?hd (cs := #[.int .i64 0, .int .i64 0, .int .i64 0, .int .i64 0, .int .i64 0]) (t := 84) ?hr ?_; (case hd => rfl); (case hg => rfl); (case hr => first | (go_simp; done) | (go_simp; rfl)); intro gb443 hg w12 hbox hb; have BK443 := aM hbox; have GW443 := aM ((by rw [hg]; exact (below_size (tB1 GE441)) : w.heap.size ≤ gb443)); have GE443 := aM ((by rw [hg]; exact (below_size (tB1 GE441)) : w.heap.size ≤ gb443)); replace HB := aM (below_step (tB1 GE441) hb); have NB441_443 := aM ((by rw [hg]; exact Nat.ne_of_lt (blk_lt (qK BK441)) : gb441 ≠ gb443)); have NB443_441 := aM ((by rw [hg]; exact Nat.ne_of_gt (blk_lt (qK BK441)) : gb443 ≠ gb441)); replace BK441 := aM (blk_below (qK BK441) hb); clear hb hbox hg; have hnb13 := NB443_441.out; have hnc13 := NB441_443.out; have hcz14_0 : w12.cell? ⟨gb443, 0, none⟩ = some (.int .i64 0) := cC BK443 0; have hcz14_1 : w12.cell? ⟨gb443, 1, none⟩ = some (.int .i64 0) := cC BK443 1; have hcz14_2 : w12.cell? ⟨gb443, 2, none⟩ = some (.int .i64 0) := cC BK443 2; have hcz14_3 : w12.cell? ⟨gb443, 3, none⟩ = some (.int .i64 0) := cC BK443 3; have hcz14_4 : w12.cell? ⟨gb443, 4, none⟩ = some (.int .i64 0) := cC BK443 4; have hfz14_0 := blk_frozen BK443.out 0; have hfz14_1 := blk_frozen BK443.out 1; have hfz14_2 := blk_frozen BK443.out 2; have hfz14_3 := blk_frozen BK443.out 3; have hfz14_4 := blk_frozen BK443.out 4; have hcz15_0 : w12.cell? ⟨gb441, 0, none⟩ = some (.int .i64 x442000_1) := cC BK441 0; have hcz15_1 : w12.cell? ⟨gb441, 1, none⟩ = some (.int .i64 x442001_1) := cC BK441 1; have hcz15_2 : w12.cell? ⟨gb441, 2, none⟩ = some (.int .i64 x442002_1) := cC BK441 2; have hcz15_3 : w12.cell? ⟨gb441, 3, none⟩ = some (.int .i64 x442003_1) := cC BK441 3; have hcz15_4 : w12.cell? ⟨gb441, 4, none⟩ = some (.int .i64 x442004_1) := cC BK441 4; have hfz15_0 := blk_frozen BK441.out 0; have hfz15_1 := blk_frozen BK441.out 1; have hfz15_2 := blk_frozen BK441.out 2; have hfz15_3 := blk_frozen BK441.out 3; have hfz15_4 := blk_frozen BK441.out 4)); go_roundg k1
          case measure => have := HK1.out; omega
          case rel => exact ⟨(true), (wrap64 (x12_1 + 1)), ((rd_T84 l0 x12_1).f0), ((rd_T84 l0 x12_1).f1), ((rd_T84 l0 x12_1).f2), ((rd_T84 l0 x12_1).f3), ((rd_T84 l0 x12_1).f4), tS, tS, H', ⟨by have := HK1.out; omega⟩, ⟨by (with_reducible repeat first | refine kN ?_ _ | refine kD ?_ | refine kA ?_ _); refine blk_put (cs := #[.int .i64 ((rd_T84 l0 x12_1).f0), .int .i64 ((rd_T84 l0 x12_1).f1), .int .i64 ((rd_T84 l0 x12_1).f2), .int .i64 ((rd_T84 l0 x12_1).f3), .int .i64 x442004_1]) ?_ 4 _ rfl; (with_reducible repeat first | refine kN ?_ _ | refine kD ?_ | refine kA ?_ _); refine blk_put (cs := #[.int .i64 ((rd_T84 l0 x12_1).f0), .int .i64 ((rd_T84 l0 x12_1).f1), .int .i64 ((rd_T84 l0 x12_1).f2), .int .i64 x442003_1, .int .i64 x442004_1]) ?_ 3 _ rfl; (with_reducible repeat first | refine kN ?_ _ | refine kD ?_ | refine kA ?_ _); refine blk_put (cs := #[.int .i64 ((rd_T84 l0 x12_1).f0), .int .i64 ((rd_T84 l0 x12_1).f1), .int .i64 x442002_1, .int .i64 x442003_1, .int .i64 x442004_1]) ?_ 2 _ rfl; (with_reducible repeat first | refine kN ?_ _ | refine kD ?_ | refine kA ?_ _); refine blk_put (cs := #[.int .i64 ((rd_T84 l0 x12_1).f0), .int .i64 x442001_1, .int .i64 x442002_1, .int .i64 x442003_1, .int .i64 x442004_1]) ?_ 1 _ rfl; (with_reducible repeat first | refine kN ?_ _ | refine kD ?_ | refine kA ?_ _); refine blk_put (cs := #[.int .i64 x442000_1, .int .i64 x442001_1, .int .i64 x442002_1, .int .i64 x442003_1, .int .i64 x442004_1]) ?_ 0 _ rfl; (with_reducible repeat first | refine kN ?_ _ | refine kD ?_ | refine kA ?_ _); refine blk_far ?_ NB441_443.out _; (with_reducible repeat first | refine kN ?_ _ | refine kD ?_ | refine kA ?_ _); exact blk4 BK441.out NB441_443⟩, ⟨tB2 GE441 GE443⟩⟩
         ·rw [if_neg c11] at H; have c11b0 : decide (((rd_T84 l0 x12_1).f3) < x442003_1) = false := decide_eq_false c11; clear c11; have H' := Aside0.mk H; clear H; have p442 : 0 ≤ (x12_1 : Int) := of_decide_eq_true ‹_›; have q442 : x12_1 < (l0.length : Int) := of_decide_eq_true ‹_›; obtain ⟨ad442, e442, hx442_0, hx442_1, hx442_2, hx442_3, hx442_4⟩ := at_T84 HR0.out x12_1 p442 q442; cases e442
          replace hx442_0 := cB HB hx442_0; replace hx442_1 := cB HB hx442_1; replace hx442_2 := cB HB hx442_2; replace hx442_3 := cB HB hx442_3; replace hx442_4 := cB HB hx442_4; replace p442 := eq_true p442; replace q442 := eq_true q442; go_wp2_with (first | ((with_reducible refine gate_dst (N := 8) rfl ?_); refine box_event ?hg (N := 8) ?hd (cs := #[.int .i64 0, .int .i64 0, .int .i64 0, .int .i64 0, .int .i64 0]) (t := 84) ?hr ?_; (case hd => rfl); (case hg => rfl); (case hr => first | (go_simp; done) | (go_simp; rfl)); intro gb443 hg w16 hbox hb; have BK443 := aM hbox; have GW443 := aM ((by rw [hg]; exact (below_size (tB1 GE441)) : w.heap.size ≤ gb443)); have GE443 := aM ((by rw [hg]; exact (below_size (tB1 GE441)) : w.heap.size ≤ gb443)); replace HB := aM (below_step (tB1 GE441) hb); have NB441_443 := aM ((by rw [hg]; exact Nat.ne_of_lt (blk_lt (qK BK441)) : gb441 ≠ gb443)); have NB443_441 := aM ((by rw [hg]; exact Nat.ne_of_gt (blk_lt (qK BK441)) : gb443 ≠ gb441)); replace BK441 := aM (blk_below (qK BK441) hb); clear hb hbox hg; have hnb17 := NB443_441.out; have hnc17 := NB441_443.out; have hcz18_0 : w16.cell? ⟨gb443, 0, none⟩ = some (.int .i64 0) := cC BK443 0; have hcz18_1 : w16.cell? ⟨gb443, 1, none⟩ = some (.int .i64 0) := cC BK443 1; have hcz18_2 : w16.cell? ⟨gb443, 2, none⟩ = some (.int .i64 0) := cC BK443 2; have hcz18_3 : w16.cell? ⟨gb443, 3, none⟩ = some (.int .i64 0) := cC BK443 3; have hcz18_4 : w16.cell? ⟨gb443, 4, none⟩ = some (.int .i64 0) := cC BK443 4; have hfz18_0 := blk_frozen BK443.out 0; have hfz18_1 := blk_frozen BK443.out 1; have hfz18_2 := blk_frozen BK443.out 2; have hfz18_3 := blk_frozen BK443.out 3; have hfz18_4 := blk_frozen BK443.out 4; have hcz19_0 : w16.cell? ⟨gb441, 0, none⟩ = some (.int .i64 x442000_1) := cC BK441 0; have hcz19_1 : w16.cell? ⟨gb441, 1, none⟩ = some (.int .i64 x442001_1) := cC BK441 1; have hcz19_2 : w16.cell? ⟨gb441, 2, none⟩ = some (.int .i64 x442002_1) := cC BK441 2; have hcz19_3 : w16.cell? ⟨gb441, 3, none⟩ = some (.int .i64 x442003_1) := cC BK441 3; have hcz19_4 : w16.cell? ⟨gb441, 4, none⟩ = some (.int .i64 x442004_1) := cC BK441 4; have hfz19_0 := blk_frozen BK441.out 0; have hfz19_1 := blk_frozen BK441.out 1; have hfz19_2 := blk_frozen BK441.out 2; have hfz19_3 := blk_frozen BK441.out 3; have hfz19_4 := blk_frozen BK441.out 4)); go_roundg k1
          case measure => have := HK1.out; omega
          case rel => exact ⟨(true), (wrap64 (x12_1 + 1)), (x442000_1), (x442001_1), (x442002_1), (x442003_1), (x442004_1), tS, tS, H', ⟨by have := HK1.out; omega⟩, ⟨by (with_reducible repeat first | refine kN ?_ _ | refine kD ?_ | refine kA ?_ _); refine blk_far ?_ NB441_443.out _; (with_reducible repeat first | refine kN ?_ _ | refine kD ?_ | refine kA ?_ _); exact blk4 BK441.out NB441_443⟩, ⟨tB2 GE441 GE443⟩⟩
        ·replace c10 := Bool.eq_false_iff.mpr c10; subst c10; rw [if_neg ff_] at H; have H' := Aside0.mk H; clear H; have p442 : 0 ≤ (x12_1 : Int) := of_decide_eq_true ‹_›; have q442 : x12_1 < (l0.length : Int) := of_decide_eq_true ‹_›; obtain ⟨ad442, e442, hx442_0, hx442_1, hx442_2, hx442_3, hx442_4⟩ := at_T84 HR0.out x12_1 p442 q442; cases e442
         replace hx442_0 := cB HB hx442_0; replace hx442_1 := cB HB hx442_1; replace hx442_2 := cB HB hx442_2; replace hx442_3 := cB HB hx442_3; replace hx442_4 := cB HB hx442_4; replace p442 := eq_true p442; replace q442 := eq_true q442; go_wp2_with (first | ((with_reducible refine gate_dst (N := 8) rfl ?_); refine box_event ?hg (N := 8) ?hd (cs := #[.int .i64 0, .int .i64 0, .int .i64 0, .int .i64 0, .int .i64 0]) (t := 84) ?hr ?_; (case hd => rfl); (case hg => rfl); (case hr => first | (go_simp; done) | (go_simp; rfl)); intro gb443 hg w20 hbox hb; have BK443 := aM hbox; have GW443 := aM ((by rw [hg]; exact (below_size (tB1 GE441)) : w.heap.size ≤ gb443)); have GE443 := aM ((by rw [hg]; exact (below_size (tB1 GE441)) : w.heap.size ≤ gb443)); replace HB := aM (below_step (tB1 GE441) hb); have NB441_443 := aM ((by rw [hg]; exact Nat.ne_of_lt (blk_lt (qK BK441)) : gb441 ≠ gb443)); have NB443_441 := aM ((by rw [hg]; exact Nat.ne_of_gt (blk_lt (qK BK441)) : gb443 ≠ gb441)); replace BK441 := aM (blk_below (qK BK441) hb); clear hb hbox hg; have hnb21 := NB443_441.out; have hnc21 := NB441_443.out; have hcz22_0 : w20.cell? ⟨gb443, 0, none⟩ = some (.int .i64 0) := cC BK443 0; have hcz22_1 : w20.cell? ⟨gb443, 1, none⟩ = some (.int .i64 0) := cC BK443 1; have hcz22_2 : w20.cell? ⟨gb443, 2, none⟩ = some (.int .i64 0) := cC BK443 2; have hcz22_3 : w20.cell? ⟨gb443, 3, none⟩ = some (.int .i64 0) := cC BK443 3; have hcz22_4 : w20.cell? ⟨gb443, 4, none⟩ = some (.int .i64 0) := cC BK443 4; have hfz22_0 := blk_frozen BK443.out 0; have hfz22_1 := blk_frozen BK443.out 1; have hfz22_2 := blk_frozen BK443.out 2; have hfz22_3 := blk_frozen BK443.out 3; have hfz22_4 := blk_frozen BK443.out 4; have hcz23_0 : w20.cell? ⟨gb441, 0, none⟩ = some (.int .i64 x442000_1) := cC BK441 0; have hcz23_1 : w20.cell? ⟨gb441, 1, none⟩ = some (.int .i64 x442001_1) := cC BK441 1; have hcz23_2 : w20.cell? ⟨gb441, 2, none⟩ = some (.int .i64 x442002_1) := cC BK441 2; have hcz23_3 : w20.cell? ⟨gb441, 3, none⟩ = some (.int .i64 x442003_1) := cC BK441 3; have hcz23_4 : w20.cell? ⟨gb441, 4, none⟩ = some (.int .i64 x442004_1) := cC BK441 4; have hfz23_0 := blk_frozen BK441.out 0; have hfz23_1 := blk_frozen BK441.out 1; have hfz23_2 := blk_frozen BK441.out 2; have hfz23_3 := blk_frozen BK441.out 3; have hfz23_4 := blk_frozen BK441.out 4)); go_roundg k1
         case measure => have := HK1.out; omega
         case rel => exact ⟨(true), (wrap64 (x12_1 + 1)), ((rd_T84 l0 x12_1).f0), ((rd_T84 l0 x12_1).f1), ((rd_T84 l0 x12_1).f2), ((rd_T84 l0 x12_1).f3), ((rd_T84 l0 x12_1).f4), tS, tS, H', ⟨by have := HK1.out; omega⟩, ⟨by (with_reducible repeat first | refine kN ?_ _ | refine kD ?_ | refine kA ?_ _); refine blk_put (cs := #[.int .i64 ((rd_T84 l0 x12_1).f0), .int .i64 ((rd_T84 l0 x12_1).f1), .int .i64 ((rd_T84 l0 x12_1).f2), .int .i64 ((rd_T84 l0 x12_1).f3), .int .i64 x442004_1]) ?_ 4 _ rfl; (with_reducible repeat first | refine kN ?_ _ | refine kD ?_ | refine kA ?_ _); refine blk_put (cs := #[.int .i64 ((rd_T84 l0 x12_1).f0), .int .i64 ((rd_T84 l0 x12_1).f1), .int .i64 ((rd_T84 l0 x12_1).f2), .int .i64 x442003_1, .int .i64 x442004_1]) ?_ 3 _ rfl; (with_reducible repeat first | refine kN ?_ _ | refine kD ?_ | refine kA ?_ _); refine blk_put (cs := #[.int .i64 ((rd_T84 l0 x12_1).f0), .int .i64 ((rd_T84 l0 x12_1).f1), .int .i64 x442002_1, .int .i64 x442003_1, .int .i64 x442004_1]) ?_ 2 _ rfl; (with_reducible repeat first | refine kN ?_ _ | refine kD ?_ | refine kA ?_ _); refine blk_put (cs := #[.int .i64 ((rd_T84 l0 x12_1).f0), .int .i64 x442001_1, .int .i64 x442002_1, .int .i64 x442003_1, .int .i64 x442004_1]) ?_ 1 _ rfl; (with_reducible repeat first | refine kN ?_ _ | refine kD ?_ | refine kA ?_ _); refine blk_put (cs := #[.int .i64 x442000_1, .int .i64 x442001_1, .int .i64 x442002_1, .int .i64 x442003_1, .int .i64 x442004_1]) ?_ 0 _ rfl; (with_reducible repeat first | refine kN ?_ _ | refine kD ?_ | refine kA ?_ _); refine blk_far ?_ NB441_443.out _; (with_reducible repeat first | refine kN ?_ _ | refine kD ?_ | refine kA ?_ _); exact blk4 BK441.out NB441_443⟩, ⟨tB2 GE441 GE443⟩⟩
       ·rw [if_neg c9] at H; have c9b0 : (((rd_T84 l0 x12_1).f4) == 1) = false := beq_eq_false_iff_ne.mpr c9; have c9b1 : (((rd_T84 l0 x12_1).f4) != 1) = true := bne_iff_ne.mpr c9; have H' := Aside0.mk H; clear H; have p442 : 0 ≤ (x12_1 : Int) := of_decide_eq_true ‹_›; have q442 : x12_1 < (l0.length : Int) := of_decide_eq_true ‹_›; obtain ⟨ad442, e442, hx442_0, hx442_1, hx442_2, hx442_3, hx442_4⟩ := at_T84 HR0.out x12_1 p442 q442; cases e442
        replace hx442_0 := cB HB hx442_0; replace hx442_1 := cB HB hx442_1; replace hx442_2 := cB HB hx442_2; replace hx442_3 := cB HB hx442_3; replace hx442_4 := cB HB hx442_4; replace p442 := eq_true p442; replace q442 := eq_true q442; go_wp2_with (first | ((with_reducible refine gate_dst (N := 8) rfl ?_); refine box_event ?hg (N := 8) ?hd (cs := #[.int .i64 0, .int .i64 0, .int .i64 0, .int .i64 0, .int .i64 0]) (t := 84) ?hr ?_; (case hd => rfl); (case hg => rfl); (case hr => first | (go_simp; done) | (go_simp; rfl)); intro gb443 hg w24 hbox hb; have BK443 := aM hbox; have GW443 := aM ((by rw [hg]; exact (below_size (tB1 GE441)) : w.heap.size ≤ gb443)); have GE443 := aM ((by rw [hg]; exact (below_size (tB1 GE441)) : w.heap.size ≤ gb443)); replace HB := aM (below_step (tB1 GE441) hb); have NB441_443 := aM ((by rw [hg]; exact Nat.ne_of_lt (blk_lt (qK BK441)) : gb441 ≠ gb443)); have NB443_441 := aM ((by rw [hg]; exact Nat.ne_of_gt (blk_lt (qK BK441)) : gb443 ≠ gb441)); replace BK441 := aM (blk_below (qK BK441) hb); clear hb hbox hg; have hnb25 := NB443_441.out; have hnc25 := NB441_443.out; have hcz26_0 : w24.cell? ⟨gb443, 0, none⟩ = some (.int .i64 0) := cC BK443 0; have hcz26_1 : w24.cell? ⟨gb443, 1, none⟩ = some (.int .i64 0) := cC BK443 1; have hcz26_2 : w24.cell? ⟨gb443, 2, none⟩ = some (.int .i64 0) := cC BK443 2; have hcz26_3 : w24.cell? ⟨gb443, 3, none⟩ = some (.int .i64 0) := cC BK443 3; have hcz26_4 : w24.cell? ⟨gb443, 4, none⟩ = some (.int .i64 0) := cC BK443 4; have hfz26_0 := blk_frozen BK443.out 0; have hfz26_1 := blk_frozen BK443.out 1; have hfz26_2 := blk_frozen BK443.out 2; have hfz26_3 := blk_frozen BK443.out 3; have hfz26_4 := blk_frozen BK443.out 4)); go_roundg k1
        case measure => have := HK1.out; omega
        case rel => exact ⟨(x6_1), (wrap64 (x12_1 + 1)), (x442000_1), (x442001_1), (x442002_1), (x442003_1), (x442004_1), tS, tS, H', ⟨by have := HK1.out; omega⟩, ⟨by (with_reducible repeat first | refine kN ?_ _ | refine kD ?_ | refine kA ?_ _); refine blk_far ?_ NB441_443.out _; (with_reducible repeat first | refine kN ?_ _ | refine kD ?_ | refine kA ?_ _); exact blk4 BK441.out NB441_443⟩, ⟨tB2 GE441 GE443⟩⟩
      ·rw [if_neg c8] at H; have c8b0 : (((rd_T84 l0 x12_1).f2) == a1) = false := beq_eq_false_iff_ne.mpr c8; have c8b1 : (((rd_T84 l0 x12_1).f2) != a1) = true := bne_iff_ne.mpr c8; have H' := Aside0.mk H; clear H; have p442 : 0 ≤ (x12_1 : Int) := of_decide_eq_true ‹_›; have q442 : x12_1 < (l0.length : Int) := of_decide_eq_true ‹_›; obtain ⟨ad442, e442, hx442_0, hx442_1, hx442_2, hx442_3, hx442_4⟩ := at_T84 HR0.out x12_1 p442 q442; cases e442
       replace hx442_0 := cB HB hx442_0; replace hx442_1 := cB HB hx442_1; replace hx442_2 := cB HB hx442_2; replace hx442_3 := cB HB hx442_3; replace hx442_4 := cB HB hx442_4; replace p442 := eq_true p442; replace q442 := eq_true q442; go_wp2_with (first | ((with_reducible refine gate_dst (N := 8) rfl ?_); refine box_event ?hg (N := 8) ?hd (cs := #[.int .i64 0, .int .i64 0, .int .i64 0, .int .i64 0, .int .i64 0]) (t := 84) ?hr ?_; (case hd => rfl); (case hg => rfl); (case hr => first | (go_simp; done) | (go_simp; rfl)); intro gb443 hg w27 hbox hb; have BK443 := aM hbox; have GW443 := aM ((by rw [hg]; exact (below_size (tB1 GE441)) : w.heap.size ≤ gb443)); have GE443 := aM ((by rw [hg]; exact (below_size (tB1 GE441)) : w.heap.size ≤ gb443)); replace HB := aM (below_step (tB1 GE441) hb); have NB441_443 := aM ((by rw [hg]; exact Nat.ne_of_lt (blk_lt (qK BK441)) : gb441 ≠ gb443)); have NB443_441 := aM ((by rw [hg]; exact Nat.ne_of_gt (blk_lt (qK BK441)) : gb443 ≠ gb441)); replace BK441 := aM (blk_below (qK BK441) hb); clear hb hbox hg; have hnb28 := NB443_441.out; have hnc28 := NB441_443.out; have hcz29_0 : w27.cell? ⟨gb443, 0, none⟩ = some (.int .i64 0) := cC BK443 0; have hcz29_1 : w27.cell? ⟨gb443, 1, none⟩ = some (.int .i64 0) := cC BK443 1; have hcz29_2 : w27.cell? ⟨gb443, 2, none⟩ = some (.int .i64 0) := cC BK443 2; have hcz29_3 : w27.cell? ⟨gb443, 3, none⟩ = some (.int .i64 0) := cC BK443 3; have hcz29_4 : w27.cell? ⟨gb443, 4, none⟩ = some (.int .i64 0) := cC BK443 4; have hfz29_0 := blk_frozen BK443.out 0; have hfz29_1 := blk_frozen BK443.out 1; have hfz29_2 := blk_frozen BK443.out 2; have hfz29_3 := blk_frozen BK443.out 3; have hfz29_4 := blk_frozen BK443.out 4)); go_roundg k1
       case measure => have := HK1.out; omega
       case rel => exact ⟨(x6_1), (wrap64 (x12_1 + 1)), (x442000_1), (x442001_1), (x442002_1), (x442003_1), (x442004_1), tS, tS, H', ⟨by have := HK1.out; omega⟩, ⟨by (with_reducible repeat first | refine kN ?_ _ | refine kD ?_ | refine kA ?_ _); refine blk_far ?_ NB441_443.out _; (with_reducible repeat first | refine kN ?_ _ | refine kD ?_ | refine kA ?_ _); exact blk4 BK441.out NB441_443⟩, ⟨tB2 GE441 GE443⟩⟩
     ·rw [if_neg c7] at H; exact absurd H (by simp)
    ·rw [if_neg c6] at H; exact absurd H (by simp)
   ·rw [if_neg c5] at H; have c5b0 : decide (x12_1 < (l0.length : Int)) = false := decide_eq_false c5; clear c5; obtain rfl := Option.some.inj H; have hcz30_0 : wr.cell? ⟨gb441, 0, none⟩ = some (.int .i64 x442000_1) := cC BK441 0; have hcz30_1 : wr.cell? ⟨gb441, 1, none⟩ = some (.int .i64 x442001_1) := cC BK441 1; have hcz30_2 : wr.cell? ⟨gb441, 2, none⟩ = some (.int .i64 x442002_1) := cC BK441 2; have hcz30_3 : wr.cell? ⟨gb441, 3, none⟩ = some (.int .i64 x442003_1) := cC BK441 3; have hcz30_4 : wr.cell? ⟨gb441, 4, none⟩ = some (.int .i64 x442004_1) := cC BK441 4; have hfz30_0 := blk_frozen BK441.out 0; have hfz30_1 := blk_frozen BK441.out 1; have hfz30_2 := blk_frozen BK441.out 2; have hfz30_3 := blk_frozen BK441.out 3; have hfz30_4 := blk_frozen BK441.out 4; go_wp2; go_ret; exact ⟨tE, tB1 GE441⟩

end Go.Proofs.Ytppgealmedaihaa.PFnClaims
