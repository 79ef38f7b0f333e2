-- The printed functions of one law and their contracts, over contracts of this session's own (hand.py).
import Derived.Test.YtppgealmedaihaaPFnClaimsx0
import Derived.Test.YtppgealmedaihaaPFnClaimsx1
import Derived.Test.YtppgealmedaihaaPFnClaimsx2
import Derived.Test.YtppgealmedaihaaPFnClaimsx3
import Derived.Test.YtppgealmedaihaaPFnClaimsx4
import Derived.Test.YtppgealmedaihaaPFnClaimsx6
import Derived.Test.YtppgealmedaihaaPFnClaimsx10
import Derived.Test.YtppgealmedaihaaPFnClaimsx11
namespace Go.Proofs.Ytppgealmedaihaa.PFnClaims
open Go.RowKit Go.Proofs.YtppgealmedaihaaW.PrintWords Go.Proofs.YtppgealmedaihaaW.PrintLast Go.Proofs.YtppgealmedaihaaW.PrintMore Go.Proofs.Ytppgealmedaihaa.Short
attribute [local go_sem] max2_int min2_int max_two min_two max_three min_three max_four min_four   -- for this text's walks alone
set_option linter.unusedVariables false
set_option linter.unusedSimpArgs false

/-! ### laws_FnClaims: function 11 -/
mutual
def laws_FnClaims.j0 : Nat → List Int → Option (Bool)
 | 0, _ => none
 | k + 1, x0 => (spec_DrawSetState.f k x0).bind fun bt468 => ((impl_SetState.f k bt468.1 bt468.2.1 bt468.2.2).bind fun bt473 => (if bt473.2 = true then ((impl_FindClaim.f bt473.1 bt468.2.1).bind fun t477 => ((impl_AreClaims.f k bt473.1).bind fun t478 => (if t478 = true then (if 0 ≤ t477 then (if t477 < (bt473.1.length : Int) then (if ((rd_T84 bt473.1 t477).f4) = bt468.2.2 then (if t477 < (bt468.1.length : Int) then (if ((rd_T84 bt468.1 t477).f4) = 3 then (some false) else (if ((rd_T84 bt468.1 t477).f4) = 2 then (some false) else (laws_FnClaims.j1 k x0 bt468.1 bt473.1))) else (none)) else (some false)) else (none)) else (none)) else (some false)))) else (laws_FnClaims.j1 k x0 bt468.1 bt473.1)))
def laws_FnClaims.j1 : Nat → List Int → List (S84) → List (S84) → Option (Bool)
 | 0, _, _, _ => none
 | k + 1, x0, x9, x12 => (spec_DrawFirstProved.f k x0).bind fun bt482 => ((impl_FirstProved.f k bt482.1 bt482.2).bind fun t486 => (laws_FnClaims.l0 k x9 x12 bt482.1 bt482.2 t486 0))
def laws_FnClaims.l0 : Nat → List (S84) → List (S84) → List (S84) → Int → Int → Int → Option (Bool)
 | 0, _, _, _, _, _, _ => none
 | k + 1, x9, x12, x15, x16, x17, x18 => if x18 < (x15.length : Int) then (if x17 = 0 then (laws_FnClaims.j3 k x9 x12 x15 x16 x17 x18 false) else ((spec_AreClaims.f k x15).bind fun t487 => (laws_FnClaims.j3 k x9 x12 x15 x16 x17 x18 t487))) else (laws_FnClaims.j3 k x9 x12 x15 x16 x17 x18 false)
def laws_FnClaims.j3 : Nat → List (S84) → List (S84) → List (S84) → Int → Int → Int → Bool → Option (Bool)
 | 0, _, _, _, _, _, _, _ => none
 | k + 1, x9, x12, x15, x16, x17, x18, x145 => if x145 = true then (if 0 ≤ x18 then (if x18 < (x15.length : Int) then (if ((rd_T84 x15 x18).f2) = x16 then (if ((rd_T84 x15 x18).f4) = 1 then ((impl_FindClaim.f x15 x17).bind fun t491 => (if 0 ≤ t491 then (if t491 < (x15.length : Int) then (if ((rd_T84 x15 x18).f3) < ((rd_T84 x15 t491).f3) then (some false) else (laws_FnClaims.l0 k x9 x12 x15 x16 x17 (wrap64 (x18 + 1)))) else (none)) else (none))) else (laws_FnClaims.l0 k x9 x12 x15 x16 x17 (wrap64 (x18 + 1)))) else (laws_FnClaims.l0 k x9 x12 x15 x16 x17 (wrap64 (x18 + 1)))) else (none)) else (none)) else (some ((x12.length : Int) == (x9.length : Int)))
end
def laws_FnClaims.f (k : Nat) (l0 : List Int) : Option (Bool) := (laws_big.f l0).bind fun t444 => (if t444 = true then (some true) else ((spec_DrawAddClaim.f k l0).bind fun bt445 => ((impl_AddClaim.f k bt445.1 bt445.2.1 bt445.2.2.1 bt445.2.2.2.1 bt445.2.2.2.2.1 bt445.2.2.2.2.2).bind fun bt454 => (if bt454.2 = true then ((impl_AddClaim.f k bt454.1 998 bt445.2.2.1 bt445.2.2.2.1 bt445.2.2.2.2.1 0).bind fun bt458 => ((impl_AreClaims.f k bt454.1).bind fun t462 => (if t462 = true then (if (bt454.1.length : Int) = (wrap64 ((bt445.1.length : Int) + 1)) then ((impl_FindClaim.f bt454.1 bt445.2.1).bind fun t463 => (if t463 < 0 then (some false) else (if bt458.2 = true then (some false) else ((impl_ClaimsFor.f k bt454.1 bt445.2.2.2.1).bind fun t464 => ((laws_contains.f k t464 bt445.2.1).bind fun t467 => (if t467 = true then (laws_FnClaims.j0 k l0) else (some false))))))) else (some false)) else (some false)))) else (if (bt454.1.length : Int) = (bt445.1.length : Int) then (laws_FnClaims.j0 k l0) else (some false))))))
theorem laws_FnClaims.mono_l : ∀ k, (∀ y0, LeO (laws_FnClaims.j0 k y0) (laws_FnClaims.j0 (k + 1) y0)) ∧ (∀ y0 y1 y2, LeO (laws_FnClaims.j1 k y0 y1 y2) (laws_FnClaims.j1 (k + 1) y0 y1 y2)) ∧ (∀ y0 y1 y2 y3 y4 y5, LeO (laws_FnClaims.l0 k y0 y1 y2 y3 y4 y5) (laws_FnClaims.l0 (k + 1) y0 y1 y2 y3 y4 y5)) ∧ (∀ y0 y1 y2 y3 y4 y5 y6, LeO (laws_FnClaims.j3 k y0 y1 y2 y3 y4 y5 y6) (laws_FnClaims.j3 (k + 1) y0 y1 y2 y3 y4 y5 y6))
 | 0 => ⟨fun _ r h => by simp [laws_FnClaims.j0] at h, fun _ _ _ r h => by simp [laws_FnClaims.j1] at h, fun _ _ _ _ _ _ r h => by simp [laws_FnClaims.l0] at h, fun _ _ _ _ _ _ _ r h => by simp [laws_FnClaims.j3] at h⟩
 | k + 1 => by
  obtain ⟨ih0, ih1, ih2, ih3⟩ := laws_FnClaims.mono_l k; refine ⟨?_, ?_, ?_, ?_⟩
  ·intro y0; unfold laws_FnClaims.j0
   repeat' first
   | (with_reducible exact ih0 _)
   | (with_reducible exact ih1 _ _ _)
   | (with_reducible exact ih2 _ _ _ _ _ _)
   | (with_reducible exact ih3 _ _ _ _ _ _ _)
   | (with_reducible exact impl_AddClaim.mono _ _ _ _ _ _ _)
   | (with_reducible exact impl_AreClaims.mono _ _)
   | (with_reducible exact impl_ClaimsFor.mono _ _ _)
   | (with_reducible exact impl_FirstProved.mono _ _ _)
   | (with_reducible exact impl_SetState.mono _ _ _ _)
   | (with_reducible exact laws_contains.mono _ _ _)
   | (with_reducible exact spec_AreClaims.mono _ _)
   | (with_reducible exact spec_DrawAddClaim.mono _ _)
   | (with_reducible exact spec_DrawFirstProved.mono _ _)
   | (with_reducible exact spec_DrawSetState.mono _ _)
   | (with_reducible exact LeO.refl _)
   | (with_reducible exact LeO.none _)
   | (with_reducible refine LeO.ite ?_ ?_)
   | (with_reducible refine LeO.bind ?_ (fun _ => ?_))
   | exact ih0 _
   | exact ih1 _ _ _
   | exact ih2 _ _ _ _ _ _
   | exact ih3 _ _ _ _ _ _ _
   | exact impl_AddClaim.mono _ _ _ _ _ _ _
   | exact impl_AreClaims.mono _ _
   | exact impl_ClaimsFor.mono _ _ _
   | exact impl_FirstProved.mono _ _ _
   | exact impl_SetState.mono _ _ _ _
   | exact laws_contains.mono _ _ _
   | exact spec_AreClaims.mono _ _
   | exact spec_DrawAddClaim.mono _ _
   | exact spec_DrawFirstProved.mono _ _
   | exact spec_DrawSetState.mono _ _
   | exact LeO.none _
   | refine LeO.ite ?_ ?_
   | refine LeO.bind ?_ (fun _ => ?_)
  ·intro y0 y1 y2; unfold laws_FnClaims.j1
   repeat' first
   | (with_reducible exact ih0 _)
   | (with_reducible exact ih1 _ _ _)
   | (with_reducible exact ih2 _ _ _ _ _ _)
   | (with_reducible exact ih3 _ _ _ _ _ _ _)
   | (with_reducible exact impl_AddClaim.mono _ _ _ _ _ _ _)
   | (with_reducible exact impl_AreClaims.mono _ _)
   | (with_reducible exact impl_ClaimsFor.mono _ _ _)
   | (with_reducible exact impl_FirstProved.mono _ _ _)
   | (with_reducible exact impl_SetState.mono _ _ _ _)
   | (with_reducible exact laws_contains.mono _ _ _)
   | (with_reducible exact spec_AreClaims.mono _ _)
   | (with_reducible exact spec_DrawAddClaim.mono _ _)
   | (with_reducible exact spec_DrawFirstProved.mono _ _)
   | (with_reducible exact spec_DrawSetState.mono _ _)
   | (with_reducible exact LeO.refl _)
   | (with_reducible exact LeO.none _)
   | (with_reducible refine LeO.ite ?_ ?_)
   | (with_reducible refine LeO.bind ?_ (fun _ => ?_))
   | exact ih0 _
   | exact ih1 _ _ _
   | exact ih2 _ _ _ _ _ _
   | exact ih3 _ _ _ _ _ _ _
   | exact impl_AddClaim.mono _ _ _ _ _ _ _
   | exact impl_AreClaims.mono _ _
   | exact impl_ClaimsFor.mono _ _ _
   | exact impl_FirstProved.mono _ _ _
   | exact impl_SetState.mono _ _ _ _
   | exact laws_contains.mono _ _ _
   | exact spec_AreClaims.mono _ _
   | exact spec_DrawAddClaim.mono _ _
   | exact spec_DrawFirstProved.mono _ _
   | exact spec_DrawSetState.mono _ _
   | exact LeO.none _
   | refine LeO.ite ?_ ?_
   | refine LeO.bind ?_ (fun _ => ?_)
  ·intro y0 y1 y2 y3 y4 y5; unfold laws_FnClaims.l0
   repeat' first
   | (with_reducible exact ih0 _)
   | (with_reducible exact ih1 _ _ _)
   | (with_reducible exact ih2 _ _ _ _ _ _)
   | (with_reducible exact ih3 _ _ _ _ _ _ _)
   | (with_reducible exact impl_AddClaim.mono _ _ _ _ _ _ _)
   | (with_reducible exact impl_AreClaims.mono _ _)
   | (with_reducible exact impl_ClaimsFor.mono _ _ _)
   | (with_reducible exact impl_FirstProved.mono _ _ _)
   | (with_reducible exact impl_SetState.mono _ _ _ _)
   | (with_reducible exact laws_contains.mono _ _ _)
   | (with_reducible exact spec_AreClaims.mono _ _)
   | (with_reducible exact spec_DrawAddClaim.mono _ _)
   | (with_reducible exact spec_DrawFirstProved.mono _ _)
   | (with_reducible exact spec_DrawSetState.mono _ _)
   | (with_reducible exact LeO.refl _)
   | (with_reducible exact LeO.none _)
   | (with_reducible refine LeO.ite ?_ ?_)
   | (with_reducible refine LeO.bind ?_ (fun _ => ?_))
   | exact ih0 _
   | exact ih1 _ _ _
   | exact ih2 _ _ _ _ _ _
   | exact ih3 _ _ _ _ _ _ _
   | exact impl_AddClaim.mono _ _ _ _ _ _ _
   | exact impl_AreClaims.mono _ _
   | exact impl_ClaimsFor.mono _ _ _
   | exact impl_FirstProved.mono _ _ _
   | exact impl_SetState.mono _ _ _ _
   | exact laws_contains.mono _ _ _
   | exact spec_AreClaims.mono _ _
   | exact spec_DrawAddClaim.mono _ _
   | exact spec_DrawFirstProved.mono _ _
   | exact spec_DrawSetState.mono _ _
   | exact LeO.none _
   | refine LeO.ite ?_ ?_
   | refine LeO.bind ?_ (fun _ => ?_)
  ·intro y0 y1 y2 y3 y4 y5 y6; unfold laws_FnClaims.j3
   repeat' first
   | (with_reducible exact ih0 _)
   | (with_reducible exact ih1 _ _ _)
   | (with_reducible exact ih2 _ _ _ _ _ _)
   | (with_reducible exact ih3 _ _ _ _ _ _ _)
   | (with_reducible exact impl_AddClaim.mono _ _ _ _ _ _ _)
   | (with_reducible exact impl_AreClaims.mono _ _)
   | (with_reducible exact impl_ClaimsFor.mono _ _ _)
   | (with_reducible exact impl_FirstProved.mono _ _ _)
   | (with_reducible exact impl_SetState.mono _ _ _ _)
   | (with_reducible exact laws_contains.mono _ _ _)
   | (with_reducible exact spec_AreClaims.mono _ _)
   | (with_reducible exact spec_DrawAddClaim.mono _ _)
   | (with_reducible exact spec_DrawFirstProved.mono _ _)
   | (with_reducible exact spec_DrawSetState.mono _ _)
   | (with_reducible exact LeO.refl _)
   | (with_reducible exact LeO.none _)
   | (with_reducible refine LeO.ite ?_ ?_)
   | (with_reducible refine LeO.bind ?_ (fun _ => ?_))
   | exact ih0 _
   | exact ih1 _ _ _
   | exact ih2 _ _ _ _ _ _
   | exact ih3 _ _ _ _ _ _ _
   | exact impl_AddClaim.mono _ _ _ _ _ _ _
   | exact impl_AreClaims.mono _ _
   | exact impl_ClaimsFor.mono _ _ _
   | exact impl_FirstProved.mono _ _ _
   | exact impl_SetState.mono _ _ _ _
   | exact laws_contains.mono _ _ _
   | exact spec_AreClaims.mono _ _
   | exact spec_DrawAddClaim.mono _ _
   | exact spec_DrawFirstProved.mono _ _
   | exact spec_DrawSetState.mono _ _
   | exact LeO.none _
   | refine LeO.ite ?_ ?_
   | refine LeO.bind ?_ (fun _ => ?_)
theorem laws_FnClaims.mono : ∀ a0 k, LeO (laws_FnClaims.f k a0) (laws_FnClaims.f (k + 1) a0) := by
 intro a0 k; obtain ⟨ih0, ih1, ih2, ih3⟩ := laws_FnClaims.mono_l k; unfold laws_FnClaims.f
 repeat' first
   | (with_reducible exact ih0 _)
   | (with_reducible exact ih1 _ _ _)
   | (with_reducible exact ih2 _ _ _ _ _ _)
   | (with_reducible exact ih3 _ _ _ _ _ _ _)
   | (with_reducible exact impl_AddClaim.mono _ _ _ _ _ _ _)
   | (with_reducible exact impl_AreClaims.mono _ _)
   | (with_reducible exact impl_ClaimsFor.mono _ _ _)
   | (with_reducible exact impl_FirstProved.mono _ _ _)
   | (with_reducible exact impl_SetState.mono _ _ _ _)
   | (with_reducible exact laws_contains.mono _ _ _)
   | (with_reducible exact spec_AreClaims.mono _ _)
   | (with_reducible exact spec_DrawAddClaim.mono _ _)
   | (with_reducible exact spec_DrawFirstProved.mono _ _)
   | (with_reducible exact spec_DrawSetState.mono _ _)
   | (with_reducible exact LeO.refl _)
   | (with_reducible exact LeO.none _)
   | (with_reducible refine LeO.ite ?_ ?_)
   | (with_reducible refine LeO.bind ?_ (fun _ => ?_))
   | exact ih0 _
   | exact ih1 _ _ _
   | exact ih2 _ _ _ _ _ _
   | exact ih3 _ _ _ _ _ _ _
   | exact impl_AddClaim.mono _ _ _ _ _ _ _
   | exact impl_AreClaims.mono _ _
   | exact impl_ClaimsFor.mono _ _ _
   | exact impl_FirstProved.mono _ _ _
   | exact impl_SetState.mono _ _ _ _
   | exact laws_contains.mono _ _ _
   | exact spec_AreClaims.mono _ _
   | exact spec_DrawAddClaim.mono _ _
   | exact spec_DrawFirstProved.mono _ _
   | exact spec_DrawSetState.mono _ _
   | exact LeO.none _
   | refine LeO.ite ?_ ?_
   | refine LeO.bind ?_ (fun _ => ?_)
def laws_FnClaims.T7 : Bool × List (List Nat × List Nat) := (true, [([], []), ([0], [0]), ([1], [1]), ([2, 1], [2]), ([3], [3]), ([4, 3], [3, 4]), ([3], [3]), ([6, 3], [3, 6]), ([7, 3], [3, 7]), ([5, 8, 3], [3, 5, 8]), ([3, 9], [3, 9]), ([10, 3], [10]), ([11], [11]), ([11], [11]), ([13, 11], [11, 13]), ([12, 14, 11, 11], [11, 12, 14]), ([15, 11], [11, 15]), ([11, 16], [11, 16]), ([17, 15], [17]), ([18], [18]), ([18, 19], [18, 19]), ([20, 18], [20]), ([21], [21]), ([21], [21]), ([23, 21], [21, 23]), ([22, 24, 21, 21], [21, 22, 24]), ([21], [21]), ([26, 21], [21, 26]), ([25, 27, 25, 21], [21, 25, 27]), ([28, 21], [21, 28]), ([21, 29], [21, 29])])
def laws_FnClaims.B7 : List Nat := [0, 1, 3, 7, 15, 31, 15, 79, 207, 511, 1023, 2047, 4095, 4095, 12287, 32767, 65535, 131071, 262143, 524287, 1048575, 2097151, 4194303, 4194303, 12582911, 33554431, 4194303, 71303167, 268435455, 536870911, 1073741823]
theorem laws_FnClaims.tab7 : rtab .any (opsOf Try.f11 7) = laws_FnClaims.T7 := by kernel_rfl
theorem laws_FnClaims.bits7 : waitsOk laws_FnClaims.T7.2 laws_FnClaims.B7 = true := by kernel_rfl
def laws_FnClaims.T22 : Bool × List (List Nat × List Nat) := (true, [([], []), ([], []), ([0, 1], [0, 1]), ([2], [2]), ([3], [3]), ([], []), ([4, 5], [4, 5]), ([6], [6]), ([7], [7]), ([7], [7]), ([8, 9, 7], [7, 8, 9]), ([10, 7], [7, 10]), ([11, 7], [7, 11]), ([12, 7], [7, 12]), ([7, 13], [7, 13]), ([14, 7], [14]), ([15], [15]), ([15], [15]), ([16, 17, 15], [15, 16, 17]), ([18, 15], [15, 18]), ([19, 15], [15, 19]), ([15], [15]), ([15], [15]), ([15], [15]), ([22, 23, 15, 15], [15, 22, 23]), ([21, 24, 15], [15, 21, 24]), ([25, 15], [15, 25]), ([26, 15], [15, 26]), ([20, 27, 15], [15, 20, 27]), ([15, 28], [15, 28])])
def laws_FnClaims.B22 : List Nat := [0, 0, 3, 7, 15, 0, 63, 127, 255, 255, 1023, 2047, 4095, 8191, 16383, 32767, 65535, 65535, 262143, 524287, 1048575, 65535, 65535, 65535, 12648447, 31522815, 65077247, 132186111, 268435455, 536870911]
theorem laws_FnClaims.tab22 : rtab .any (opsOf Try.f11 22) = laws_FnClaims.T22 := by kernel_rfl
theorem laws_FnClaims.bits22 : waitsOk laws_FnClaims.T22.2 laws_FnClaims.B22 = true := by kernel_rfl
set_option maxHeartbeats 8000000 in
set_option maxRecDepth 100000 in
theorem laws_FnClaims.calls (k : Nat) (A0 : Option Addr) (c0 : Nat) (l0 : List Int) (r : Bool) (w : World) (hr0 : Kd.C (Kd.int .u8) w A0 l0.length l0) (hc0 : l0.length ≤ c0) (h : laws_FnClaims.f k l0 = some r) :
  Calls Try.prog 11 #[.slice A0 l0.length c0] w fun e w' => e = .returned (.bool r) ∧ Below w.heap.size w w' := by
 have hu84 := Try.underlying84; have HR0 := Aside0.mk hr0; have HC0 := Aside0.mk hc0; clear hr0 hc0; have HB := aM (Below.refl w.heap.size w); have H : ((laws_big.f l0).bind fun t444 => (if t444 = true then (some true) else ((spec_DrawAddClaim.f k l0).bind fun bt445 => ((impl_AddClaim.f k bt445.1 bt445.2.1 bt445.2.2.1 bt445.2.2.2.1 bt445.2.2.2.2.1 bt445.2.2.2.2.2).bind fun bt454 => (if bt454.2 = true then ((impl_AddClaim.f k bt454.1 998 bt445.2.2.1 bt445.2.2.2.1 bt445.2.2.2.2.1 0).bind fun bt458 => ((impl_AreClaims.f k bt454.1).bind fun t462 => (if t462 = true then (if (bt454.1.length : Int) = (wrap64 ((bt445.1.length : Int) + 1)) then ((impl_FindClaim.f bt454.1 bt445.2.1).bind fun t463 => (if t463 < 0 then (some false) else (if bt458.2 = true then (some false) else ((impl_ClaimsFor.f k bt454.1 bt445.2.2.2.1).bind fun t464 => ((laws_contains.f k t464 bt445.2.1).bind fun t467 => (if t467 = true then (laws_FnClaims.j0 k l0) else (some false))))))) else (some false)) else (some false)))) else (if (bt454.1.length : Int) = (bt445.1.length : Int) then (laws_FnClaims.j0 k l0) else (some false))))))) = some r := h; clear h; replace H := Option.bind_eq_some_iff.mp H; obtain ⟨t444, A20, H⟩ := H; have A2 := Aside0.mk A20; clear A20; by_cases c3 : t444 = true
 ·subst c3; rw [if_pos rfl] at H; obtain rfl := Option.some.inj H; go_enter Try.func11, Try.ntmps11; go_wp2_with (first | ((with_reducible refine gate_callee (f := 30) rfl ?_); refine goesL_ (some 20) rfl rfl Try.func30 (by kernel_rfl) rfl #[.slice A0 l0.length c0] rfl tM ?_; (with_reducible refine (laws_big.calls _ _ l0 true _ ?side1 ?side2 A2.out).mono ?_); (case side1 => repeat (first | exact HR0.out | (with_reducible refine Kd.C_alloc ?_ _) | (with_reducible refine Kd.C_drewN ?_ _) | (with_reducible refine Kd.C_drew ?_))); (case side2 => exact HC0.out); rintro e w' ⟨rfl, ⟨nd, rfl⟩⟩; refine ⟨_, rfl, ?_⟩)); go_ret; exact ⟨tE, tB0⟩
 ·replace c3 := Bool.eq_false_iff.mpr c3; subst c3; rw [if_neg ff_] at H; replace H := Option.bind_eq_some_iff.mp H; obtain ⟨⟨t445, t448, t449, t450, t451, t452⟩, A40, H⟩ := H; have A4 := Aside0.mk A40; clear A40; replace H := Option.bind_eq_some_iff.mp H; obtain ⟨⟨t454, t457⟩, A50, H⟩ := H; have A5 := Aside0.mk A50; clear A50; have HC6 := Aside0.mk H; clear H; go_enter Try.func11, Try.ntmps11; go_upto_if 32 with (first | ((with_reducible refine gate_callee (f := 30) rfl ?_); refine goesL_ (some 20) rfl rfl Try.func30 (by kernel_rfl) rfl #[.slice A0 l0.length c0] rfl tM ?_; (with_reducible refine (laws_big.calls _ _ l0 false _ ?side1 ?side2 A2.out).mono ?_); (case side1 => repeat (first | exact HR0.out | (with_reducible refine Kd.C_alloc ?_ _) | (with_reducible refine Kd.C_drewN ?_ _) | (with_reducible refine Kd.C_drew ?_))); (case side2 => exact HC0.out); rintro e w' ⟨rfl, ⟨nd, rfl⟩⟩; refine ⟨_, rfl, ?_⟩) | ((with_reducible refine gate_callee (f := 78) rfl ?_); refine goesL_ (some 23) rfl rfl Try.func78 (by kernel_rfl) rfl #[.slice A0 l0.length c0] rfl tM ?_; (with_reducible refine (spec_DrawAddClaim.calls k _ _ l0 t445 t448 t449 t450 t451 t452 _ ?side1 ?side2 A4.out).mono ?_); (case side1 => repeat (first | exact HR0.out | (with_reducible refine Kd.C_alloc ?_ _) | (with_reducible refine Kd.C_drewN ?_ _) | (with_reducible refine Kd.C_drew ?_))); (case side2 => exact HC0.out); rintro e w7 ⟨v446, rfl, ho0, hb⟩; refine ⟨_, rfl, ?_⟩; have HO447 := aM (Kd.R_lower ho0 (below_size (qB HB))); replace HB := aM (below_step (qB HB) hb); (try clear hb); (try clear hb2); (try clear hk); (try clear hi); (try clear ho0)) | ((with_reducible refine gate_dst (N := 4) rfl ?_); (try (refine gate_guard (by rfl) ?_; dsimp only)); refine box_event ?hg (N := 4) ?hd (cs := #[.int .i64 0, .int .i64 0, .int .i64 0, .int .i64 0, .int .i64 0]) (t := 84) ?hr ?_; (case hd => rfl); (case hg => rfl); (case hr => first | (go_simp; done) | (go_simp; rfl)); intro gb453 hg w8 hbox hb; replace HO447 := aM (Kd.R_below (Kd.R_elderB (qR HO447) gb453 (Nat.le_of_eq hg.symm)) hb); have BK453 := aM hbox; have GW453 := aM ((by rw [hg]; exact (below_size (qB HB)) : w.heap.size ≤ gb453)); have GE453 := aM ((by rw [hg]; exact (below_size (qB HB)) : w.heap.size ≤ gb453)); replace HB := aM (below_step (qB HB) hb); clear hb hbox hg; have hcz9_0 : w8.cell? ⟨gb453, 0, none⟩ = some (.int .i64 0) := cC BK453 0; have hcz9_1 : w8.cell? ⟨gb453, 1, none⟩ = some (.int .i64 0) := cC BK453 1; have hcz9_2 : w8.cell? ⟨gb453, 2, none⟩ = some (.int .i64 0) := cC BK453 2; have hcz9_3 : w8.cell? ⟨gb453, 3, none⟩ = some (.int .i64 0) := cC BK453 3; have hcz9_4 : w8.cell? ⟨gb453, 4, none⟩ = some (.int .i64 0) := cC BK453 4; have hfz9_0 := blk_frozen BK453.out 0; have hfz9_1 := blk_frozen BK453.out 1; have hfz9_2 := blk_frozen BK453.out 2; have hfz9_3 := blk_frozen BK453.out 3; have hfz9_4 := blk_frozen BK453.out 4; obtain ⟨Ao10, co10, eo10⟩ := Kd.R_slice HO447.out; subst eo10) | ((with_reducible refine gate_callee (f := 51) rfl ?_); refine goesL_ (some 29) rfl rfl Try.func51 (by kernel_rfl) rfl #[.slice Ao10 t445.length co10, .agg #[.int .i64 t448, .int .i64 t449, .int .i64 t450, .int .i64 t451, .int .i64 t452]] rfl tM ?_; (with_reducible refine (impl_AddClaim.calls k _ _ t445 t448 t449 t450 t451 t452 t454 t457 _ ?side1 ?side2 A5.out).mono ?_); (case side1 => refine (Kd.R_reads' (e := 84) (base := w.heap.size) (ok := fun k_ => (True ∧ k_ ≠ gb453)) (n := t445.length) (c := co10) ?_).2.2; exact (by (with_reducible repeat first | apply rA | apply rN | apply rD); exact (Kd.R_mono (Kd.R_far (p := ⟨gb453, 4, none⟩) (Kd.R_far (p := ⟨gb453, 3, none⟩) (Kd.R_far (p := ⟨gb453, 2, none⟩) (Kd.R_far (p := ⟨gb453, 1, none⟩) (Kd.R_far (p := ⟨gb453, 0, none⟩) (Kd.R_mono HO447.out (fun k_ hk => (⟨hk, hk.2⟩ : _ ∧ k_ ≠ gb453))) (fun _ hk => hk.2) (.int .i64 t448)) (fun _ hk => hk.2) (.int .i64 t449)) (fun _ hk => hk.2) (.int .i64 t450)) (fun _ hk => hk.2) (.int .i64 t451)) (fun _ hk => hk.2) (.int .i64 t452)) (fun _ h_ => h_.1)))); (case side2 => exact (Kd.R_reads' HO447.out).2.1); rintro e w11 ⟨v455, rfl, ho0, hb⟩; refine ⟨_, rfl, ?_⟩; have HO456 := aM (Kd.R_lower (Kd.R_newB (Kd.R_new' ho0 (Kd.R_lt (by (with_reducible repeat first | apply rA | apply rN | apply rD); exact (Kd.R_mono (Kd.R_far (p := ⟨gb453, 4, none⟩) (Kd.R_far (p := ⟨gb453, 3, none⟩) (Kd.R_far (p := ⟨gb453, 2, none⟩) (Kd.R_far (p := ⟨gb453, 1, none⟩) (Kd.R_far (p := ⟨gb453, 0, none⟩) (Kd.R_mono HO447.out (fun k_ hk => (⟨hk, hk.2⟩ : _ ∧ k_ ≠ gb453))) (fun _ hk => hk.2) (.int .i64 t448)) (fun _ hk => hk.2) (.int .i64 t449)) (fun _ hk => hk.2) (.int .i64 t450)) (fun _ hk => hk.2) (.int .i64 t451)) (fun _ hk => hk.2) (.int .i64 t452)) (fun _ h_ => h_.1))))) (g := gb453) (o := .cells #[.int .i64 t448, .int .i64 t449, .int .i64 t450, .int .i64 t451, .int .i64 t452] 84 (0, 0)) (by (with_reducible repeat first | refine kN ?_ _ | refine kD ?_ | refine kA ?_ _); refine blk_put (cs := #[.int .i64 t448, .int .i64 t449, .int .i64 t450, .int .i64 t451, .int .i64 0]) ?_ 4 _ rfl; (with_reducible repeat first | refine kN ?_ _ | refine kD ?_ | refine kA ?_ _); refine blk_put (cs := #[.int .i64 t448, .int .i64 t449, .int .i64 t450, .int .i64 0, .int .i64 0]) ?_ 3 _ rfl; (with_reducible repeat first | refine kN ?_ _ | refine kD ?_ | refine kA ?_ _); refine blk_put (cs := #[.int .i64 t448, .int .i64 t449, .int .i64 0, .int .i64 0, .int .i64 0]) ?_ 2 _ rfl; (with_reducible repeat first | refine kN ?_ _ | refine kD ?_ | refine kA ?_ _); refine blk_put (cs := #[.int .i64 t448, .int .i64 0, .int .i64 0, .int .i64 0, .int .i64 0]) ?_ 1 _ rfl; (with_reducible repeat first | refine kN ?_ _ | refine kD ?_ | refine kA ?_ _); refine blk_put (cs := #[.int .i64 0, .int .i64 0, .int .i64 0, .int .i64 0, .int .i64 0]) ?_ 0 _ rfl; (with_reducible repeat first | refine kN ?_ _ | refine kD ?_ | refine kA ?_ _); exact BK453.out)) (below_size (tB1 GE453))); replace HO447 := aM (Kd.R_elder' (by (with_reducible repeat first | apply rA | apply rN | apply rD); exact (Kd.R_mono (Kd.R_far (p := ⟨gb453, 4, none⟩) (Kd.R_far (p := ⟨gb453, 3, none⟩) (Kd.R_far (p := ⟨gb453, 2, none⟩) (Kd.R_far (p := ⟨gb453, 1, none⟩) (Kd.R_far (p := ⟨gb453, 0, none⟩) (Kd.R_mono HO447.out (fun k_ hk => (⟨hk, hk.2⟩ : _ ∧ k_ ≠ gb453))) (fun _ hk => hk.2) (.int .i64 t448)) (fun _ hk => hk.2) (.int .i64 t449)) (fun _ hk => hk.2) (.int .i64 t450)) (fun _ hk => hk.2) (.int .i64 t451)) (fun _ hk => hk.2) (.int .i64 t452)) (fun _ h_ => h_.1))) (Kd.R_base ho0) hb); replace BK453 := aM (blk_below (g := gb453) (o := .cells #[.int .i64 t448, .int .i64 t449, .int .i64 t450, .int .i64 t451, .int .i64 t452] 84 (0, 0)) (by (with_reducible repeat first | refine kN ?_ _ | refine kD ?_ | refine kA ?_ _); refine blk_put (cs := #[.int .i64 t448, .int .i64 t449, .int .i64 t450, .int .i64 t451, .int .i64 0]) ?_ 4 _ rfl; (with_reducible repeat first | refine kN ?_ _ | refine kD ?_ | refine kA ?_ _); refine blk_put (cs := #[.int .i64 t448, .int .i64 t449, .int .i64 t450, .int .i64 0, .int .i64 0]) ?_ 3 _ rfl; (with_reducible repeat first | refine kN ?_ _ | refine kD ?_ | refine kA ?_ _); refine blk_put (cs := #[.int .i64 t448, .int .i64 t449, .int .i64 0, .int .i64 0, .int .i64 0]) ?_ 2 _ rfl; (with_reducible repeat first | refine kN ?_ _ | refine kD ?_ | refine kA ?_ _); refine blk_put (cs := #[.int .i64 t448, .int .i64 0, .int .i64 0, .int .i64 0, .int .i64 0]) ?_ 1 _ rfl; (with_reducible repeat first | refine kN ?_ _ | refine kD ?_ | refine kA ?_ _); refine blk_put (cs := #[.int .i64 0, .int .i64 0, .int .i64 0, .int .i64 0, .int .i64 0]) ?_ 0 _ rfl; (with_reducible repeat first | refine kN ?_ _ | refine kD ?_ | refine kA ?_ _); exact BK453.out) hb); replace HB := aM (below_step (tB1 GE453) hb); (try clear hb); (try clear hb2); (try clear hk); (try clear hi); (try clear ho0)))
  (try simp only [Act.put, sA, sZ, sS]); go_cut [] (fun wc => ∃ (kq : Nat), Aside0 (laws_FnClaims.j0 kq l0 = some r) ∧ Aside0 (kq ≤ k) ∧ Aside0 (wc.heap[gb453]? = some (.cells #[.int .i64 t448, .int .i64 t449, .int .i64 t450, .int .i64 t451, .int .i64 t452] 84 (0, 0))) ∧ Aside0 (Below w.heap.size w wc))
  case first =>
   have H := HC6.out; clear HC6; by_cases c12 : t457 = true
   ·subst c12; rw [if_pos rfl] at H; replace H := Option.bind_eq_some_iff.mp H; obtain ⟨⟨t458, t461⟩, A130, H⟩ := H; have A13 := Aside0.mk A130; clear A130; replace H := Option.bind_eq_some_iff.mp H; obtain ⟨t462, A140, H⟩ := H; have A14 := Aside0.mk A140; clear A140; by_cases c15 : t462 = true
    ·subst c15; rw [if_pos rfl] at H; by_cases c16 : (t454.length : Int) = (wrap64 ((t445.length : Int) + 1))
     ·rw [if_pos c16] at H; have c16b0 : ((t454.length : Int) == (wrap64 ((t445.length : Int) + 1))) = true := beq_iff_eq.mpr c16; have c16b1 : ((t454.length : Int) != (wrap64 ((t445.length : Int) + 1))) = false := bne_eq_false_iff_eq.mpr c16; clear c16; (first | rw [c16b0] | (simp only [i64_w, i32_w]; rw [c16b0]) | skip); replace H := Option.bind_eq_some_iff.mp H; obtain ⟨t463, A170, H⟩ := H; have A17 := Aside0.mk A170; clear A170; by_cases c18 : t463 < 0
      ·rw [if_pos c18] at H; have c18b0 : decide (t463 < 0) = true := decide_eq_true c18; clear c18; obtain rfl := Option.some.inj H; have hcz19_0 : w11.cell? ⟨gb453, 0, none⟩ = some (.int .i64 t448) := cC BK453 0; have hcz19_1 : w11.cell? ⟨gb453, 1, none⟩ = some (.int .i64 t449) := cC BK453 1; have hcz19_2 : w11.cell? ⟨gb453, 2, none⟩ = some (.int .i64 t450) := cC BK453 2; have hcz19_3 : w11.cell? ⟨gb453, 3, none⟩ = some (.int .i64 t451) := cC BK453 3; have hcz19_4 : w11.cell? ⟨gb453, 4, none⟩ = some (.int .i64 t452) := cC BK453 4; have hfz19_0 := blk_frozen BK453.out 0; have hfz19_1 := blk_frozen BK453.out 1; have hfz19_2 := blk_frozen BK453.out 2; have hfz19_3 := blk_frozen BK453.out 3; have hfz19_4 := blk_frozen BK453.out 4; obtain ⟨Ao20, co20, eo20⟩ := Kd.R_slice HO456.out; subst eo20; try go_wp2_with (first | ((with_reducible refine gate_callee (f := 51) rfl ?_); refine goesL_ (some 42) rfl rfl Try.func51 (by kernel_rfl) rfl #[.slice Ao20 t454.length co20, .agg #[.int .i64 998, .int .i64 t449, .int .i64 t450, .int .i64 t451, .int .i64 0]] rfl tM ?_; (with_reducible refine (impl_AddClaim.calls k _ _ t454 998 t449 t450 t451 0 t458 t461 _ ?side1 ?side2 A13.out).mono ?_); (case side1 => exact tC HO456); (case side2 => exact (Kd.R_reads' HO456.out).2.1); rintro e w21 ⟨v459, rfl, ho0, hb⟩; refine ⟨_, rfl, ?_⟩; have HO460 := aM (Kd.R_lower (Kd.R_newB (Kd.R_new' (Kd.R_new' ho0 (Kd.R_lt (qR HO447))) (Kd.R_lt (qR HO456))) (qK BK453)) (below_size (tB1 GE453))); replace HO447 := aM (Kd.R_elder' (qR HO447) (Kd.R_base ho0) hb); replace HO456 := aM (Kd.R_elder' (qR HO456) (Kd.R_base ho0) hb); replace BK453 := aM (blk_below (qK BK453) hb); replace HB := aM (below_step (tB1 GE453) hb); (try clear hb); (try clear hb2); (try clear hk); (try clear hi); (try clear ho0)))
       replace HO447 := dR HO447; replace HO456 := dR HO456; replace HO460 := dR HO460; replace BK453 := dK BK453; replace HB := dB HB; refine start_ (n := 31) (S := fun w' => w'.cell? ⟨gb453, 0, none⟩ = some (.int .i64 t448) ∧ w'.cell? ⟨gb453, 1, none⟩ = some (.int .i64 t449) ∧ w'.cell? ⟨gb453, 2, none⟩ = some (.int .i64 t450) ∧ w'.cell? ⟨gb453, 3, none⟩ = some (.int .i64 t451) ∧ w'.cell? ⟨gb453, 4, none⟩ = some (.int .i64 t452)) (ds := []) (bR [0,31]) (by kernel_rfl) rfl rfl ⟨cC BK453 0, cC BK453 1, cC BK453 2, cC BK453 3, cC BK453 4⟩ (fun hHeld => ?_); refine with_tabW laws_FnClaims.tab7 laws_FnClaims.bits7 (fun HT_ HW_ => ?_); generalize w21.drew = w22 at HO447 HO456 HO460 BK453 HB hHeld ⊢; refine pp 0 45 (bR [1,30]) ?_; refine on 1 46 (bR [2,29]) (fun K hK => ?_); refine goes_ Try.func79 (by kernel_rfl) rfl #[.slice Ao20 t454.length co20] (by rfl) rfl rfl tM ?_; (with_reducible refine (impl_AreClaims.calls k _ _ t454 true _ ?side1 ?side2 A14.out).mono ?_); (case side1 => exact tC HO456); (case side2 => exact (Kd.R_reads' HO456.out).2.1); rintro e w23 ⟨rfl, hb⟩; refine ⟨_, rfl, ?_⟩; replace HO447 := aM (Kd.R_below (qR HO447) hb); replace HO456 := aM (Kd.R_below (qR HO456) hb); replace HO460 := aM (Kd.R_below (qR HO460) hb); replace BK453 := aM (blk_below (qK BK453) hb); replace HB := aM (below_step (tB1 GE453) hb); (try clear hb); (try clear hb2); (try clear hk); (try clear hi); refine hK.out _ _ ⟨cC BK453 0, cC BK453 1, cC BK453 2, cC BK453 3, cC BK453 4⟩ (fun hHeld => ?_); clear hK K; refine norm_ (a' := ?_) ?_ ?_; rotate_left
       ·show Act.put _ (some 46) _ = _; simp only [Act.put, sA, sZ, sS, i64_w]; rfl
       refine pp 2 47 (bR [3,28]) ?_; refine pp 3 48 (bR [4,27]) ?_; refine pp 4 49 (bR [5,26]) ?_; refine pp 5 50 (bR [6,25]) ?_; refine pp 6 51 (bR [7,24]) ?_; refine pp 7 52 (bR [8,23]) ?_; refine pp 8 53 (bR [9,22]) ?_; refine pp 9 54 (bR [10,21]) ?_; refine pp 10 55 (bR [11,20]) ?_; refine pp 11 56 (bR [12,19]) ?_; refine pp 12 57 (bR [13,18]) ?_; refine pp 13 58 (bR [14,17]) ?_; refine tk 14 59 (bR [15,16]) hHeld ?_; refine on 15 60 (bR [16,15]) (fun K hK => ?_); refine goes_ Try.func80 (by kernel_rfl) rfl #[.slice Ao20 t454.length co20, .int .i64 t448] (by rfl) rfl rfl tM ?_; (with_reducible refine (impl_FindClaim.calls _ _ t454 t448 t463 _ ?side1 ?side2 A17.out).mono ?_); (case side1 => exact tC HO456); (case side2 => exact (Kd.R_reads' HO456.out).2.1); rintro e w24 ⟨rfl, hb⟩; refine ⟨_, rfl, ?_⟩; replace HO447 := aM (Kd.R_below (qR HO447) hb); replace HO456 := aM (Kd.R_below (qR HO456) hb); replace HO460 := aM (Kd.R_below (qR HO460) hb); replace BK453 := aM (blk_below (qK BK453) hb); replace HB := aM (below_step (tB1 GE453) hb); (try clear hb); (try clear hb2); (try clear hk); (try clear hi); refine hK.out _ _ ⟨cC BK453 0, cC BK453 1, cC BK453 2, cC BK453 3, cC BK453 4⟩ (fun hHeld => ?_); clear hK K; refine norm_ (a' := ?_) ?_ ?_; rotate_left
       ·show Act.put _ (some 60) _ = _; simp only [Act.put, sA, sZ, sS, i64_w]; rfl
       refine pp 16 61 (bR [17,14]) ?_; refine pp 17 62 (bR [18,13]) ?_; refine pp 18 63 (bR [19,12]) ?_; refine pu 19 64 (bR [20,11]) ?_; refine pp 20 65 (bR [21,10]) ?_; refine pp 21 66 (bR [22,9]) ?_; refine pu 22 67 (bR [23,8]) ?_; refine pu 23 68 (bR [24,7]) ?_; refine pu 24 69 (bR [25,6]) ?_; refine pu 25 70 (bR [26,5]) ?_; refine pu 26 71 (bR [27,4]) ?_; refine pu 27 72 (bR [28,3]) ?_; refine pu 28 73 (bR [29,2]) ?_; refine pu 29 74 (bR [30,1]) ?_; refine pp 30 75 (bR [31]) ?_; refine done_ (done_of HT_.out (by kernel_rfl)) ?_; try go_wp2
       go_ret; exact ⟨tE, tB1 GE453⟩
      ·rw [if_neg c18] at H; have c18b0 : decide (t463 < 0) = false := decide_eq_false c18; clear c18; by_cases c25 : t461 = true
       ·subst c25; rw [if_pos rfl] at H; obtain rfl := Option.some.inj H; have hcz26_0 : w11.cell? ⟨gb453, 0, none⟩ = some (.int .i64 t448) := cC BK453 0; have hcz26_1 : w11.cell? ⟨gb453, 1, none⟩ = some (.int .i64 t449) := cC BK453 1; have hcz26_2 : w11.cell? ⟨gb453, 2, none⟩ = some (.int .i64 t450) := cC BK453 2; have hcz26_3 : w11.cell? ⟨gb453, 3, none⟩ = some (.int .i64 t451) := cC BK453 3; have hcz26_4 : w11.cell? ⟨gb453, 4, none⟩ = some (.int .i64 t452) := cC BK453 4; have hfz26_0 := blk_frozen BK453.out 0; have hfz26_1 := blk_frozen BK453.out 1; have hfz26_2 := blk_frozen BK453.out 2; have hfz26_3 := blk_frozen BK453.out 3; have hfz26_4 := blk_frozen BK453.out 4; obtain ⟨Ao27, co27, eo27⟩ := Kd.R_slice HO456.out; subst eo27; try go_wp2_with (first | ((with_reducible refine gate_callee (f := 51) rfl ?_); refine goesL_ (some 42) rfl rfl Try.func51 (by kernel_rfl) rfl #[.slice Ao27 t454.length co27, .agg #[.int .i64 998, .int .i64 t449, .int .i64 t450, .int .i64 t451, .int .i64 0]] rfl tM ?_; (with_reducible refine (impl_AddClaim.calls k _ _ t454 998 t449 t450 t451 0 t458 true _ ?side1 ?side2 A13.out).mono ?_); (case side1 => exact tC HO456); (case side2 => exact (Kd.R_reads' HO456.out).2.1); rintro e w28 ⟨v459, rfl, ho0, hb⟩; refine ⟨_, rfl, ?_⟩; have HO460 := aM (Kd.R_lower (Kd.R_newB (Kd.R_new' (Kd.R_new' ho0 (Kd.R_lt (qR HO447))) (Kd.R_lt (qR HO456))) (qK BK453)) (below_size (tB1 GE453))); replace HO447 := aM (Kd.R_elder' (qR HO447) (Kd.R_base ho0) hb); replace HO456 := aM (Kd.R_elder' (qR HO456) (Kd.R_base ho0) hb); replace BK453 := aM (blk_below (qK BK453) hb); replace HB := aM (below_step (tB1 GE453) hb); (try clear hb); (try clear hb2); (try clear hk); (try clear hi); (try clear ho0)))
        replace HO447 := dR HO447; replace HO456 := dR HO456; replace HO460 := dR HO460; replace BK453 := dK BK453; replace HB := dB HB; refine start_ (n := 31) (S := fun w' => w'.cell? ⟨gb453, 0, none⟩ = some (.int .i64 t448) ∧ w'.cell? ⟨gb453, 1, none⟩ = some (.int .i64 t449) ∧ w'.cell? ⟨gb453, 2, none⟩ = some (.int .i64 t450) ∧ w'.cell? ⟨gb453, 3, none⟩ = some (.int .i64 t451) ∧ w'.cell? ⟨gb453, 4, none⟩ = some (.int .i64 t452)) (ds := []) (bR [0,31]) (by kernel_rfl) rfl rfl ⟨cC BK453 0, cC BK453 1, cC BK453 2, cC BK453 3, cC BK453 4⟩ (fun hHeld => ?_); refine with_tabW laws_FnClaims.tab7 laws_FnClaims.bits7 (fun HT_ HW_ => ?_); generalize w28.drew = w29 at HO447 HO456 HO460 BK453 HB hHeld ⊢; refine pp 0 45 (bR [1,30]) ?_; refine on 1 46 (bR [2,29]) (fun K hK => ?_); refine goes_ Try.func79 (by kernel_rfl) rfl #[.slice Ao27 t454.length co27] (by rfl) rfl rfl tM ?_; (with_reducible refine (impl_AreClaims.calls k _ _ t454 true _ ?side1 ?side2 A14.out).mono ?_); (case side1 => exact tC HO456); (case side2 => exact (Kd.R_reads' HO456.out).2.1); rintro e w30 ⟨rfl, hb⟩; refine ⟨_, rfl, ?_⟩; replace HO447 := aM (Kd.R_below (qR HO447) hb); replace HO456 := aM (Kd.R_below (qR HO456) hb); replace HO460 := aM (Kd.R_below (qR HO460) hb); replace BK453 := aM (blk_below (qK BK453) hb); replace HB := aM (below_step (tB1 GE453) hb); (try clear hb); (try clear hb2); (try clear hk); (try clear hi); refine hK.out _ _ ⟨cC BK453 0, cC BK453 1, cC BK453 2, cC BK453 3, cC BK453 4⟩ (fun hHeld => ?_); clear hK K; refine norm_ (a' := ?_) ?_ ?_; rotate_left
        ·show Act.put _ (some 46) _ = _; simp only [Act.put, sA, sZ, sS, i64_w]; rfl
        refine pp 2 47 (bR [3,28]) ?_; refine pp 3 48 (bR [4,27]) ?_; refine pp 4 49 (bR [5,26]) ?_; refine pp 5 50 (bR [6,25]) ?_; refine pp 6 51 (bR [7,24]) ?_; refine pp 7 52 (bR [8,23]) ?_; refine pp 8 53 (bR [9,22]) ?_; refine pp 9 54 (bR [10,21]) ?_; refine pp 10 55 (bR [11,20]) ?_; refine pp 11 56 (bR [12,19]) ?_; refine pp 12 57 (bR [13,18]) ?_; refine pp 13 58 (bR [14,17]) ?_; refine tk 14 59 (bR [15,16]) hHeld ?_; refine on 15 60 (bR [16,15]) (fun K hK => ?_); refine goes_ Try.func80 (by kernel_rfl) rfl #[.slice Ao27 t454.length co27, .int .i64 t448] (by rfl) rfl rfl tM ?_; (with_reducible refine (impl_FindClaim.calls _ _ t454 t448 t463 _ ?side1 ?side2 A17.out).mono ?_); (case side1 => exact tC HO456); (case side2 => exact (Kd.R_reads' HO456.out).2.1); rintro e w31 ⟨rfl, hb⟩; refine ⟨_, rfl, ?_⟩; replace HO447 := aM (Kd.R_below (qR HO447) hb); replace HO456 := aM (Kd.R_below (qR HO456) hb); replace HO460 := aM (Kd.R_below (qR HO460) hb); replace BK453 := aM (blk_below (qK BK453) hb); replace HB := aM (below_step (tB1 GE453) hb); (try clear hb); (try clear hb2); (try clear hk); (try clear hi); refine hK.out _ _ ⟨cC BK453 0, cC BK453 1, cC BK453 2, cC BK453 3, cC BK453 4⟩ (fun hHeld => ?_); clear hK K; refine norm_ (a' := ?_) ?_ ?_; rotate_left
        ·show Act.put _ (some 60) _ = _; simp only [Act.put, sA, sZ, sS, i64_w]; rfl
        refine pp 16 61 (bR [17,14]) ?_; refine pp 17 62 (bR [18,13]) ?_; refine pp 18 63 (bR [19,12]) ?_; refine pp 19 64 (bR [20,11]) ?_; refine pp 20 65 (bR [21,10]) ?_; refine pp 21 66 (bR [22,9]) ?_; refine pu 22 67 (bR [23,8]) ?_; refine pu 23 68 (bR [24,7]) ?_; refine pu 24 69 (bR [25,6]) ?_; refine pu 25 70 (bR [26,5]) ?_; refine pu 26 71 (bR [27,4]) ?_; refine pu 27 72 (bR [28,3]) ?_; refine pu 28 73 (bR [29,2]) ?_; refine pu 29 74 (bR [30,1]) ?_; refine pp 30 75 (bR [31]) ?_; refine done_ (done_of HT_.out (by kernel_rfl)) ?_; try go_wp2
        go_ret; exact ⟨tE, tB1 GE453⟩
       ·replace c25 := Bool.eq_false_iff.mpr c25; subst c25; rw [if_neg ff_] at H; replace H := Option.bind_eq_some_iff.mp H; obtain ⟨t464, A320, H⟩ := H; have A32 := Aside0.mk A320; clear A320; replace H := Option.bind_eq_some_iff.mp H; obtain ⟨t467, A330, H⟩ := H; have A33 := Aside0.mk A330; clear A330; by_cases c34 : t467 = true
        ·subst c34; rw [if_pos rfl] at H; have H' := Aside0.mk H; clear H; have hcz35_0 : w11.cell? ⟨gb453, 0, none⟩ = some (.int .i64 t448) := cC BK453 0; have hcz35_1 : w11.cell? ⟨gb453, 1, none⟩ = some (.int .i64 t449) := cC BK453 1; have hcz35_2 : w11.cell? ⟨gb453, 2, none⟩ = some (.int .i64 t450) := cC BK453 2; have hcz35_3 : w11.cell? ⟨gb453, 3, none⟩ = some (.int .i64 t451) := cC BK453 3; have hcz35_4 : w11.cell? ⟨gb453, 4, none⟩ = some (.int .i64 t452) := cC BK453 4; have hfz35_0 := blk_frozen BK453.out 0; have hfz35_1 := blk_frozen BK453.out 1; have hfz35_2 := blk_frozen BK453.out 2; have hfz35_3 := blk_frozen BK453.out 3; have hfz35_4 := blk_frozen BK453.out 4; obtain ⟨Ao36, co36, eo36⟩ := Kd.R_slice HO456.out; subst eo36; try go_wp2_with (first | ((with_reducible refine gate_callee (f := 51) rfl ?_); refine goesL_ (some 42) rfl rfl Try.func51 (by kernel_rfl) rfl #[.slice Ao36 t454.length co36, .agg #[.int .i64 998, .int .i64 t449, .int .i64 t450, .int .i64 t451, .int .i64 0]] rfl tM ?_; (with_reducible refine (impl_AddClaim.calls k _ _ t454 998 t449 t450 t451 0 t458 false _ ?side1 ?side2 A13.out).mono ?_); (case side1 => exact tC HO456); (case side2 => exact (Kd.R_reads' HO456.out).2.1); rintro e w37 ⟨v459, rfl, ho0, hb⟩; refine ⟨_, rfl, ?_⟩; have HO460 := aM (Kd.R_lower (Kd.R_newB (Kd.R_new' (Kd.R_new' ho0 (Kd.R_lt (qR HO447))) (Kd.R_lt (qR HO456))) (qK BK453)) (below_size (tB1 GE453))); replace HO447 := aM (Kd.R_elder' (qR HO447) (Kd.R_base ho0) hb); replace HO456 := aM (Kd.R_elder' (qR HO456) (Kd.R_base ho0) hb); replace BK453 := aM (blk_below (qK BK453) hb); replace HB := aM (below_step (tB1 GE453) hb); (try clear hb); (try clear hb2); (try clear hk); (try clear hi); (try clear ho0)))
         replace HO447 := dR HO447; replace HO456 := dR HO456; replace HO460 := dR HO460; replace BK453 := dK BK453; replace HB := dB HB; refine start_ (n := 31) (S := fun w' => w'.cell? ⟨gb453, 0, none⟩ = some (.int .i64 t448) ∧ w'.cell? ⟨gb453, 1, none⟩ = some (.int .i64 t449) ∧ w'.cell? ⟨gb453, 2, none⟩ = some (.int .i64 t450) ∧ w'.cell? ⟨gb453, 3, none⟩ = some (.int .i64 t451) ∧ w'.cell? ⟨gb453, 4, none⟩ = some (.int .i64 t452)) (ds := []) (bR [0,31]) (by kernel_rfl) rfl rfl ⟨cC BK453 0, cC BK453 1, cC BK453 2, cC BK453 3, cC BK453 4⟩ (fun hHeld => ?_); refine with_tabW laws_FnClaims.tab7 laws_FnClaims.bits7 (fun HT_ HW_ => ?_); generalize w37.drew = w38 at HO447 HO456 HO460 BK453 HB hHeld ⊢; refine pp 0 45 (bR [1,30]) ?_; refine on 1 46 (bR [2,29]) (fun K hK => ?_); refine goes_ Try.func79 (by kernel_rfl) rfl #[.slice Ao36 t454.length co36] (by rfl) rfl rfl tM ?_; (with_reducible refine (impl_AreClaims.calls k _ _ t454 true _ ?side1 ?side2 A14.out).mono ?_); (case side1 => exact tC HO456); (case side2 => exact (Kd.R_reads' HO456.out).2.1); rintro e w39 ⟨rfl, hb⟩; refine ⟨_, rfl, ?_⟩; replace HO447 := aM (Kd.R_below (qR HO447) hb); replace HO456 := aM (Kd.R_below (qR HO456) hb); replace HO460 := aM (Kd.R_below (qR HO460) hb); replace BK453 := aM (blk_below (qK BK453) hb); replace HB := aM (below_step (tB1 GE453) hb); (try clear hb); (try clear hb2); (try clear hk); (try clear hi); refine hK.out _ _ ⟨cC BK453 0, cC BK453 1, cC BK453 2, cC BK453 3, cC BK453 4⟩ (fun hHeld => ?_); clear hK K; refine norm_ (a' := ?_) ?_ ?_; rotate_left
         ·show Act.put _ (some 46) _ = _; simp only [Act.put, sA, sZ, sS, i64_w]; rfl
         refine pp 2 47 (bR [3,28]) ?_; refine pp 3 48 (bR [4,27]) ?_; refine pp 4 49 (bR [5,26]) ?_; refine pp 5 50 (bR [6,25]) ?_; refine pp 6 51 (bR [7,24]) ?_; refine pp 7 52 (bR [8,23]) ?_; refine pp 8 53 (bR [9,22]) ?_; refine pp 9 54 (bR [10,21]) ?_; refine pp 10 55 (bR [11,20]) ?_; refine pp 11 56 (bR [12,19]) ?_; refine pp 12 57 (bR [13,18]) ?_; refine pp 13 58 (bR [14,17]) ?_; refine tk 14 59 (bR [15,16]) hHeld ?_; refine on 15 60 (bR [16,15]) (fun K hK => ?_); refine goes_ Try.func80 (by kernel_rfl) rfl #[.slice Ao36 t454.length co36, .int .i64 t448] (by rfl) rfl rfl tM ?_; (with_reducible refine (impl_FindClaim.calls _ _ t454 t448 t463 _ ?side1 ?side2 A17.out).mono ?_); (case side1 => exact tC HO456); (case side2 => exact (Kd.R_reads' HO456.out).2.1); rintro e w40 ⟨rfl, hb⟩; refine ⟨_, rfl, ?_⟩; replace HO447 := aM (Kd.R_below (qR HO447) hb); replace HO456 := aM (Kd.R_below (qR HO456) hb); replace HO460 := aM (Kd.R_below (qR HO460) hb); replace BK453 := aM (blk_below (qK BK453) hb); replace HB := aM (below_step (tB1 GE453) hb); (try clear hb); (try clear hb2); (try clear hk); (try clear hi); refine hK.out _ _ ⟨cC BK453 0, cC BK453 1, cC BK453 2, cC BK453 3, cC BK453 4⟩ (fun hHeld => ?_); clear hK K; refine norm_ (a' := ?_) ?_ ?_; rotate_left
         ·show Act.put _ (some 60) _ = _; simp only [Act.put, sA, sZ, sS, i64_w]; rfl
         refine pp 16 61 (bR [17,14]) ?_; refine pp 17 62 (bR [18,13]) ?_; refine pp 18 63 (bR [19,12]) ?_; refine pp 19 64 (bR [20,11]) ?_; refine pp 20 65 (bR [21,10]) ?_; refine pp 21 66 (bR [22,9]) ?_; refine pp 22 67 (bR [23,8]) ?_; refine pp 23 68 (bR [24,7]) ?_; refine pp 26 71 (bR [24,2,1,4]) ?_; refine tk 24 69 (bR [25,1,1,4]) hHeld ?_; refine tk 27 72 (bR [25,1,2,3]) hHeld ?_; refine on 25 70 (bR [28,3]) (fun K hK => ?_); refine goes_ Try.func82 (by kernel_rfl) rfl #[.slice Ao36 t454.length co36, .int .i64 t450] (by rfl) rfl rfl tM ?_; (with_reducible refine (impl_ClaimsFor.calls k _ _ t454 t450 t464 _ ?side1 ?side2 A32.out).mono ?_); (case side1 => exact tC HO456); (case side2 => exact (Kd.R_reads' HO456.out).2.1); rintro e w41 ⟨v465, rfl, ho0, hb⟩; refine ⟨_, rfl, ?_⟩; replace HO447 := aM (Kd.R_below (qR HO447) hb); replace HO456 := aM (Kd.R_below (qR HO456) hb); replace HO460 := aM (Kd.R_below (qR HO460) hb); have HO466 := aM (Kd.R_lower ho0 (below_size (tB1 GE453))); replace BK453 := aM (blk_below (qK BK453) hb); replace HB := aM (below_step (tB1 GE453) hb); (try clear hb); (try clear hb2); (try clear hk); (try clear hi); (try clear ho0); obtain ⟨Ao42, co42, eo42⟩ := Kd.R_slice HO466.out; (first | subst eo42 | (injection eo42 with f1_ f2_ f3_; have f4_ := f1_.symm; have f5_ := f3_.symm; clear f1_ f2_ f3_; subst f4_; subst f5_)); refine hK.out _ _ ⟨cC BK453 0, cC BK453 1, cC BK453 2, cC BK453 3, cC BK453 4⟩ (fun hHeld => ?_); clear hK K; refine norm_ (a' := ?_) ?_ ?_; rotate_left
         ·show Act.put _ (some 70) _ = _; simp only [Act.put, sA, sZ, sS, i64_w]; rfl
         refine on 28 73 (bR [29,2]) (fun K hK => ?_); refine goes_ Try.func81 (by kernel_rfl) rfl #[.slice Ao42 t464.length co42, .int .i64 t448] (by rfl) rfl rfl tM ?_; (with_reducible refine (laws_contains.calls k _ _ t464 t448 true _ ?side1 ?side2 A33.out).mono ?_); (case side1 => exact tC HO466); (case side2 => exact (Kd.R_reads' HO466.out).2.1); rintro e w' ⟨rfl, ⟨nd, rfl⟩⟩; refine ⟨_, rfl, ?_⟩; refine hK.out _ _ ⟨cC BK453 0, cC BK453 1, cC BK453 2, cC BK453 3, cC BK453 4⟩ (fun hHeld => ?_); clear hK K; refine norm_ (a' := ?_) ?_ ?_; rotate_left
         ·show Act.put _ (some 73) _ = _; simp only [Act.put, sA, sZ, sS, i64_w]; rfl
         refine pp 29 74 (bR [30,1]) ?_; refine pp 30 75 (bR [31]) ?_; refine done_ (done_of HT_.out (by kernel_rfl)) ?_; try go_wp2
         go_meet
         case rel => exact ⟨_, H', ⟨by first | omega | exact Nat.le_refl _⟩, ⟨tK BK453⟩, ⟨tB1 GE453⟩⟩
        ·replace c34 := Bool.eq_false_iff.mpr c34; subst c34; rw [if_neg ff_] at H; obtain rfl := Option.some.inj H; have hcz43_0 : w11.cell? ⟨gb453, 0, none⟩ = some (.int .i64 t448) := cC BK453 0; have hcz43_1 : w11.cell? ⟨gb453, 1, none⟩ = some (.int .i64 t449) := cC BK453 1; have hcz43_2 : w11.cell? ⟨gb453, 2, none⟩ = some (.int .i64 t450) := cC BK453 2; have hcz43_3 : w11.cell? ⟨gb453, 3, none⟩ = some (.int .i64 t451) := cC BK453 3; have hcz43_4 : w11.cell? ⟨gb453, 4, none⟩ = some (.int .i64 t452) := cC BK453 4; have hfz43_0 := blk_frozen BK453.out 0; have hfz43_1 := blk_frozen BK453.out 1; have hfz43_2 := blk_frozen BK453.out 2; have hfz43_3 := blk_frozen BK453.out 3; have hfz43_4 := blk_frozen BK453.out 4; obtain ⟨Ao44, co44, eo44⟩ := Kd.R_slice HO456.out; subst eo44; try go_wp2_with (first | ((with_reducible refine gate_callee (f := 51) rfl ?_); refine goesL_ (some 42) rfl rfl Try.func51 (by kernel_rfl) rfl #[.slice Ao44 t454.length co44, .agg #[.int .i64 998, .int .i64 t449, .int .i64 t450, .int .i64 t451, .int .i64 0]] rfl tM ?_; (with_reducible refine (impl_AddClaim.calls k _ _ t454 998 t449 t450 t451 0 t458 false _ ?side1 ?side2 A13.out).mono ?_); (case side1 => exact tC HO456); (case side2 => exact (Kd.R_reads' HO456.out).2.1); rintro e w45 ⟨v459, rfl, ho0, hb⟩; refine ⟨_, rfl, ?_⟩; have HO460 := aM (Kd.R_lower (Kd.R_newB (Kd.R_new' (Kd.R_new' ho0 (Kd.R_lt (qR HO447))) (Kd.R_lt (qR HO456))) (qK BK453)) (below_size (tB1 GE453))); replace HO447 := aM (Kd.R_elder' (qR HO447) (Kd.R_base ho0) hb); replace HO456 := aM (Kd.R_elder' (qR HO456) (Kd.R_base ho0) hb); replace BK453 := aM (blk_below (qK BK453) hb); replace HB := aM (below_step (tB1 GE453) hb); (try clear hb); (try clear hb2); (try clear hk); (try clear hi); (try clear ho0)))
         replace HO447 := dR HO447; replace HO456 := dR HO456; replace HO460 := dR HO460; replace BK453 := dK BK453; replace HB := dB HB; refine start_ (n := 31) (S := fun w' => w'.cell? ⟨gb453, 0, none⟩ = some (.int .i64 t448) ∧ w'.cell? ⟨gb453, 1, none⟩ = some (.int .i64 t449) ∧ w'.cell? ⟨gb453, 2, none⟩ = some (.int .i64 t450) ∧ w'.cell? ⟨gb453, 3, none⟩ = some (.int .i64 t451) ∧ w'.cell? ⟨gb453, 4, none⟩ = some (.int .i64 t452)) (ds := []) (bR [0,31]) (by kernel_rfl) rfl rfl ⟨cC BK453 0, cC BK453 1, cC BK453 2, cC BK453 3, cC BK453 4⟩ (fun hHeld => ?_); refine with_tabW laws_FnClaims.tab7 laws_FnClaims.bits7 (fun HT_ HW_ => ?_); generalize w45.drew = w46 at HO447 HO456 HO460 BK453 HB hHeld ⊢; refine pp 0 45 (bR [1,30]) ?_; refine on 1 46 (bR [2,29]) (fun K hK => ?_); refine goes_ Try.func79 (by kernel_rfl) rfl #[.slice Ao44 t454.length co44] (by rfl) rfl rfl tM ?_; (with_reducible refine (impl_AreClaims.calls k _ _ t454 true _ ?side1 ?side2 A14.out).mono ?_); (case side1 => exact tC HO456); (case side2 => exact (Kd.R_reads' HO456.out).2.1); rintro e w47 ⟨rfl, hb⟩; refine ⟨_, rfl, ?_⟩; replace HO447 := aM (Kd.R_below (qR HO447) hb); replace HO456 := aM (Kd.R_below (qR HO456) hb); replace HO460 := aM (Kd.R_below (qR HO460) hb); replace BK453 := aM (blk_below (qK BK453) hb); replace HB := aM (below_step (tB1 GE453) hb); (try clear hb); (try clear hb2); (try clear hk); (try clear hi); refine hK.out _ _ ⟨cC BK453 0, cC BK453 1, cC BK453 2, cC BK453 3, cC BK453 4⟩ (fun hHeld => ?_); clear hK K; refine norm_ (a' := ?_) ?_ ?_; rotate_left
         ·show Act.put _ (some 46) _ = _; simp only [Act.put, sA, sZ, sS, i64_w]; rfl
         refine pp 2 47 (bR [3,28]) ?_; refine pp 3 48 (bR [4,27]) ?_; refine pp 4 49 (bR [5,26]) ?_; refine pp 5 50 (bR [6,25]) ?_; refine pp 6 51 (bR [7,24]) ?_; refine pp 7 52 (bR [8,23]) ?_; refine pp 8 53 (bR [9,22]) ?_; refine pp 9 54 (bR [10,21]) ?_; refine pp 10 55 (bR [11,20]) ?_; refine pp 11 56 (bR [12,19]) ?_; refine pp 12 57 (bR [13,18]) ?_; refine pp 13 58 (bR [14,17]) ?_; refine tk 14 59 (bR [15,16]) hHeld ?_; refine on 15 60 (bR [16,15]) (fun K hK => ?_); refine goes_ Try.func80 (by kernel_rfl) rfl #[.slice Ao44 t454.length co44, .int .i64 t448] (by rfl) rfl rfl tM ?_; (with_reducible refine (impl_FindClaim.calls _ _ t454 t448 t463 _ ?side1 ?side2 A17.out).mono ?_); (case side1 => exact tC HO456); (case side2 => exact (Kd.R_reads' HO456.out).2.1); rintro e w48 ⟨rfl, hb⟩; refine ⟨_, rfl, ?_⟩; replace HO447 := aM (Kd.R_below (qR HO447) hb); replace HO456 := aM (Kd.R_below (qR HO456) hb); replace HO460 := aM (Kd.R_below (qR HO460) hb); replace BK453 := aM (blk_below (qK BK453) hb); replace HB := aM (below_step (tB1 GE453) hb); (try clear hb); (try clear hb2); (try clear hk); (try clear hi); refine hK.out _ _ ⟨cC BK453 0, cC BK453 1, cC BK453 2, cC BK453 3, cC BK453 4⟩ (fun hHeld => ?_); clear hK K; refine norm_ (a' := ?_) ?_ ?_; rotate_left
         ·show Act.put _ (some 60) _ = _; simp only [Act.put, sA, sZ, sS, i64_w]; rfl
         refine pp 16 61 (bR [17,14]) ?_; refine pp 17 62 (bR [18,13]) ?_; refine pp 18 63 (bR [19,12]) ?_; refine pp 19 64 (bR [20,11]) ?_; refine pp 20 65 (bR [21,10]) ?_; refine pp 21 66 (bR [22,9]) ?_; refine pp 22 67 (bR [23,8]) ?_; refine pp 23 68 (bR [24,7]) ?_; refine pp 26 71 (bR [24,2,1,4]) ?_; refine tk 24 69 (bR [25,1,1,4]) hHeld ?_; refine tk 27 72 (bR [25,1,2,3]) hHeld ?_; refine on 25 70 (bR [28,3]) (fun K hK => ?_); refine goes_ Try.func82 (by kernel_rfl) rfl #[.slice Ao44 t454.length co44, .int .i64 t450] (by rfl) rfl rfl tM ?_; (with_reducible refine (impl_ClaimsFor.calls k _ _ t454 t450 t464 _ ?side1 ?side2 A32.out).mono ?_); (case side1 => exact tC HO456); (case side2 => exact (Kd.R_reads' HO456.out).2.1); rintro e w49 ⟨v465, rfl, ho0, hb⟩; refine ⟨_, rfl, ?_⟩; replace HO447 := aM (Kd.R_below (qR HO447) hb); replace HO456 := aM (Kd.R_below (qR HO456) hb); replace HO460 := aM (Kd.R_below (qR HO460) hb); have HO466 := aM (Kd.R_lower ho0 (below_size (tB1 GE453))); replace BK453 := aM (blk_below (qK BK453) hb); replace HB := aM (below_step (tB1 GE453) hb); (try clear hb); (try clear hb2); (try clear hk); (try clear hi); (try clear ho0); obtain ⟨Ao50, co50, eo50⟩ := Kd.R_slice HO466.out; (first | subst eo50 | (injection eo50 with f1_ f2_ f3_; have f4_ := f1_.symm; have f5_ := f3_.symm; clear f1_ f2_ f3_; subst f4_; subst f5_)); refine hK.out _ _ ⟨cC BK453 0, cC BK453 1, cC BK453 2, cC BK453 3, cC BK453 4⟩ (fun hHeld => ?_); clear hK K; refine norm_ (a' := ?_) ?_ ?_; rotate_left
         ·show Act.put _ (some 70) _ = _; simp only [Act.put, sA, sZ, sS, i64_w]; rfl
         refine on 28 73 (bR [29,2]) (fun K hK => ?_); refine goes_ Try.func81 (by kernel_rfl) rfl #[.slice Ao50 t464.length co50, .int .i64 t448] (by rfl) rfl rfl tM ?_; (with_reducible refine (laws_contains.calls k _ _ t464 t448 false _ ?side1 ?side2 A33.out).mono ?_); (case side1 => exact tC HO466); (case side2 => exact (Kd.R_reads' HO466.out).2.1); rintro e w' ⟨rfl, ⟨nd, rfl⟩⟩; refine ⟨_, rfl, ?_⟩; refine hK.out _ _ ⟨cC BK453 0, cC BK453 1, cC BK453 2, cC BK453 3, cC BK453 4⟩ (fun hHeld => ?_); clear hK K; refine norm_ (a' := ?_) ?_ ?_; rotate_left
         ·show Act.put _ (some 73) _ = _; simp only [Act.put, sA, sZ, sS, i64_w]; rfl
         refine pp 29 74 (bR [30,1]) ?_; refine pp 30 75 (bR [31]) ?_; refine done_ (done_of HT_.out (by kernel_rfl)) ?_; try go_wp2
         go_ret; exact ⟨tE, tB1 GE453⟩
     ·rw [if_neg c16] at H; have c16b0 : ((t454.length : Int) == (wrap64 ((t445.length : Int) + 1))) = false := beq_eq_false_iff_ne.mpr c16; have c16b1 : ((t454.length : Int) != (wrap64 ((t445.length : Int) + 1))) = true := bne_iff_ne.mpr c16; (first | rw [c16b0] | (simp only [i64_w, i32_w]; rw [c16b0]) | skip); obtain rfl := Option.some.inj H; have hcz51_0 : w11.cell? ⟨gb453, 0, none⟩ = some (.int .i64 t448) := cC BK453 0; have hcz51_1 : w11.cell? ⟨gb453, 1, none⟩ = some (.int .i64 t449) := cC BK453 1; have hcz51_2 : w11.cell? ⟨gb453, 2, none⟩ = some (.int .i64 t450) := cC BK453 2; have hcz51_3 : w11.cell? ⟨gb453, 3, none⟩ = some (.int .i64 t451) := cC BK453 3; have hcz51_4 : w11.cell? ⟨gb453, 4, none⟩ = some (.int .i64 t452) := cC BK453 4; have hfz51_0 := blk_frozen BK453.out 0; have hfz51_1 := blk_frozen BK453.out 1; have hfz51_2 := blk_frozen BK453.out 2; have hfz51_3 := blk_frozen BK453.out 3; have hfz51_4 := blk_frozen BK453.out 4; obtain ⟨Ao52, co52, eo52⟩ := Kd.R_slice HO456.out; subst eo52; try go_wp2_with (first | ((with_reducible refine gate_callee (f := 51) rfl ?_); refine goesL_ (some 42) rfl rfl Try.func51 (by kernel_rfl) rfl #[.slice Ao52 t454.length co52, .agg #[.int .i64 998, .int .i64 t449, .int .i64 t450, .int .i64 t451, .int .i64 0]] rfl tM ?_; (with_reducible refine (impl_AddClaim.calls k _ _ t454 998 t449 t450 t451 0 t458 t461 _ ?side1 ?side2 A13.out).mono ?_); (case side1 => exact tC HO456); (case side2 => exact (Kd.R_reads' HO456.out).2.1); rintro e w53 ⟨v459, rfl, ho0, hb⟩; refine ⟨_, rfl, ?_⟩; have HO460 := aM (Kd.R_lower (Kd.R_newB (Kd.R_new' (Kd.R_new' ho0 (Kd.R_lt (qR HO447))) (Kd.R_lt (qR HO456))) (qK BK453)) (below_size (tB1 GE453))); replace HO447 := aM (Kd.R_elder' (qR HO447) (Kd.R_base ho0) hb); replace HO456 := aM (Kd.R_elder' (qR HO456) (Kd.R_base ho0) hb); replace BK453 := aM (blk_below (qK BK453) hb); replace HB := aM (below_step (tB1 GE453) hb); (try clear hb); (try clear hb2); (try clear hk); (try clear hi); (try clear ho0)))
      replace HO447 := dR HO447; replace HO456 := dR HO456; replace HO460 := dR HO460; replace BK453 := dK BK453; replace HB := dB HB; refine start_ (n := 31) (S := fun w' => True) (ds := []) (bR [0,31]) (by kernel_rfl) rfl rfl trivial (fun hHeld => ?_); refine with_tabW laws_FnClaims.tab7 laws_FnClaims.bits7 (fun HT_ HW_ => ?_); generalize w53.drew = w54 at HO447 HO456 HO460 BK453 HB hHeld ⊢; refine pp 0 45 (bR [1,30]) ?_; refine on 1 46 (bR [2,29]) (fun K hK => ?_); refine goes_ Try.func79 (by kernel_rfl) rfl #[.slice Ao52 t454.length co52] (by rfl) rfl rfl tM ?_; (with_reducible refine (impl_AreClaims.calls k _ _ t454 true _ ?side1 ?side2 A14.out).mono ?_); (case side1 => exact tC HO456); (case side2 => exact (Kd.R_reads' HO456.out).2.1); rintro e w55 ⟨rfl, hb⟩; refine ⟨_, rfl, ?_⟩; replace HO447 := aM (Kd.R_below (qR HO447) hb); replace HO456 := aM (Kd.R_below (qR HO456) hb); replace HO460 := aM (Kd.R_below (qR HO460) hb); replace BK453 := aM (blk_below (qK BK453) hb); replace HB := aM (below_step (tB1 GE453) hb); (try clear hb); (try clear hb2); (try clear hk); (try clear hi); refine hK.out _ _ trivial (fun hHeld => ?_); clear hK K; refine norm_ (a' := ?_) ?_ ?_; rotate_left
      ·show Act.put _ (some 46) _ = _; simp only [Act.put, sA, sZ, sS, i64_w]; rfl
      refine pp 2 47 (bR [3,28]) ?_; refine pp 3 48 (bR [4,27]) ?_; refine pp 4 49 (bR [5,26]) ?_; refine pp 5 50 (bR [6,25]) ?_; refine pp 6 51 (bR [7,24]) ?_; refine pp 7 52 (bR [8,23]) ?_; refine pp 8 53 (bR [9,22]) ?_; refine pp 9 54 (bR [10,21]) ?_; refine pp 10 55 (bR [11,20]) ?_; refine pp 11 56 (bR [12,19]) ?_; refine pu 12 57 (bR [13,18]) ?_; refine pu 13 58 (bR [14,17]) ?_; refine pu 14 59 (bR [15,16]) ?_; refine pu 15 60 (bR [16,15]) ?_; refine pu 16 61 (bR [17,14]) ?_; refine pp 17 62 (bR [18,13]) ?_; refine pp 18 63 (bR [19,12]) ?_; refine pu 19 64 (bR [20,11]) ?_; refine pp 20 65 (bR [21,10]) ?_; refine pp 21 66 (bR [22,9]) ?_; refine pu 22 67 (bR [23,8]) ?_; refine pu 23 68 (bR [24,7]) ?_; refine pu 24 69 (bR [25,6]) ?_; refine pu 25 70 (bR [26,5]) ?_; refine pu 26 71 (bR [27,4]) ?_; refine pu 27 72 (bR [28,3]) ?_; refine pu 28 73 (bR [29,2]) ?_; refine pu 29 74 (bR [30,1]) ?_; refine pp 30 75 (bR [31]) ?_; refine done_ (done_of HT_.out (by kernel_rfl)) ?_; try go_wp2
      go_ret; exact ⟨tE, tB1 GE453⟩
    ·replace c15 := Bool.eq_false_iff.mpr c15; subst c15; rw [if_neg ff_] at H; obtain rfl := Option.some.inj H; have hcz56_0 : w11.cell? ⟨gb453, 0, none⟩ = some (.int .i64 t448) := cC BK453 0; have hcz56_1 : w11.cell? ⟨gb453, 1, none⟩ = some (.int .i64 t449) := cC BK453 1; have hcz56_2 : w11.cell? ⟨gb453, 2, none⟩ = some (.int .i64 t450) := cC BK453 2; have hcz56_3 : w11.cell? ⟨gb453, 3, none⟩ = some (.int .i64 t451) := cC BK453 3; have hcz56_4 : w11.cell? ⟨gb453, 4, none⟩ = some (.int .i64 t452) := cC BK453 4; have hfz56_0 := blk_frozen BK453.out 0; have hfz56_1 := blk_frozen BK453.out 1; have hfz56_2 := blk_frozen BK453.out 2; have hfz56_3 := blk_frozen BK453.out 3; have hfz56_4 := blk_frozen BK453.out 4; obtain ⟨Ao57, co57, eo57⟩ := Kd.R_slice HO456.out; subst eo57; try go_wp2_with (first | ((with_reducible refine gate_callee (f := 51) rfl ?_); refine goesL_ (some 42) rfl rfl Try.func51 (by kernel_rfl) rfl #[.slice Ao57 t454.length co57, .agg #[.int .i64 998, .int .i64 t449, .int .i64 t450, .int .i64 t451, .int .i64 0]] rfl tM ?_; (with_reducible refine (impl_AddClaim.calls k _ _ t454 998 t449 t450 t451 0 t458 t461 _ ?side1 ?side2 A13.out).mono ?_); (case side1 => exact tC HO456); (case side2 => exact (Kd.R_reads' HO456.out).2.1); rintro e w58 ⟨v459, rfl, ho0, hb⟩; refine ⟨_, rfl, ?_⟩; have HO460 := aM (Kd.R_lower (Kd.R_newB (Kd.R_new' (Kd.R_new' ho0 (Kd.R_lt (qR HO447))) (Kd.R_lt (qR HO456))) (qK BK453)) (below_size (tB1 GE453))); replace HO447 := aM (Kd.R_elder' (qR HO447) (Kd.R_base ho0) hb); replace HO456 := aM (Kd.R_elder' (qR HO456) (Kd.R_base ho0) hb); replace BK453 := aM (blk_below (qK BK453) hb); replace HB := aM (below_step (tB1 GE453) hb); (try clear hb); (try clear hb2); (try clear hk); (try clear hi); (try clear ho0)))
     replace HO447 := dR HO447; replace HO456 := dR HO456; replace HO460 := dR HO460; replace BK453 := dK BK453; replace HB := dB HB; refine start_ (n := 31) (S := fun w' => True) (ds := []) (bR [0,31]) (by kernel_rfl) rfl rfl trivial (fun hHeld => ?_); refine with_tabW laws_FnClaims.tab7 laws_FnClaims.bits7 (fun HT_ HW_ => ?_); generalize w58.drew = w59 at HO447 HO456 HO460 BK453 HB hHeld ⊢; refine pp 0 45 (bR [1,30]) ?_; refine on 1 46 (bR [2,29]) (fun K hK => ?_); refine goes_ Try.func79 (by kernel_rfl) rfl #[.slice Ao57 t454.length co57] (by rfl) rfl rfl tM ?_; (with_reducible refine (impl_AreClaims.calls k _ _ t454 false _ ?side1 ?side2 A14.out).mono ?_); (case side1 => exact tC HO456); (case side2 => exact (Kd.R_reads' HO456.out).2.1); rintro e w60 ⟨rfl, hb⟩; refine ⟨_, rfl, ?_⟩; replace HO447 := aM (Kd.R_below (qR HO447) hb); replace HO456 := aM (Kd.R_below (qR HO456) hb); replace HO460 := aM (Kd.R_below (qR HO460) hb); replace BK453 := aM (blk_below (qK BK453) hb); replace HB := aM (below_step (tB1 GE453) hb); (try clear hb); (try clear hb2); (try clear hk); (try clear hi); refine hK.out _ _ trivial (fun hHeld => ?_); clear hK K; refine norm_ (a' := ?_) ?_ ?_; rotate_left
     ·show Act.put _ (some 46) _ = _; simp only [Act.put, sA, sZ, sS, i64_w]; rfl
     refine pp 2 47 (bR [3,28]) ?_; refine pp 3 48 (bR [4,27]) ?_; refine pu 4 49 (bR [5,26]) ?_; refine pu 5 50 (bR [6,25]) ?_; refine pu 6 51 (bR [7,24]) ?_; refine pu 7 52 (bR [8,23]) ?_; refine pu 8 53 (bR [9,22]) ?_; refine pu 9 54 (bR [10,21]) ?_; refine pp 10 55 (bR [11,20]) ?_; refine pp 11 56 (bR [12,19]) ?_; refine pu 12 57 (bR [13,18]) ?_; refine pu 13 58 (bR [14,17]) ?_; refine pu 14 59 (bR [15,16]) ?_; refine pu 15 60 (bR [16,15]) ?_; refine pu 16 61 (bR [17,14]) ?_; refine pp 17 62 (bR [18,13]) ?_; refine pp 18 63 (bR [19,12]) ?_; refine pu 19 64 (bR [20,11]) ?_; refine pp 20 65 (bR [21,10]) ?_; refine pp 21 66 (bR [22,9]) ?_; refine pu 22 67 (bR [23,8]) ?_; refine pu 23 68 (bR [24,7]) ?_; refine pu 24 69 (bR [25,6]) ?_; refine pu 25 70 (bR [26,5]) ?_; refine pu 26 71 (bR [27,4]) ?_; refine pu 27 72 (bR [28,3]) ?_; refine pu 28 73 (bR [29,2]) ?_; refine pu 29 74 (bR [30,1]) ?_; refine pp 30 75 (bR [31]) ?_; refine done_ (done_of HT_.out (by kernel_rfl)) ?_; try go_wp2
     go_ret; exact ⟨tE, tB1 GE453⟩
   ·replace c12 := Bool.eq_false_iff.mpr c12; subst c12; rw [if_neg ff_] at H; by_cases c61 : (t454.length : Int) = (t445.length : Int)
    ·rw [if_pos c61] at H; have c61b0 : ((t454.length : Int) == (t445.length : Int)) = true := beq_iff_eq.mpr c61; have c61b1 : ((t454.length : Int) != (t445.length : Int)) = false := bne_eq_false_iff_eq.mpr c61; have c61b2 : (t454.length == t445.length) = true := by first | simpa using c61 | (simp at c61 ⊢; omega)
     clear c61; have H' := Aside0.mk H; clear H; obtain ⟨Ao62, co62, eo62⟩ := Kd.R_slice HO456.out; subst eo62; go_wp2; go_meet
     case rel => exact ⟨_, H', ⟨by first | omega | exact Nat.le_refl _⟩, ⟨tK BK453⟩, ⟨tB1 GE453⟩⟩
    ·rw [if_neg c61] at H; have c61b0 : ((t454.length : Int) == (t445.length : Int)) = false := beq_eq_false_iff_ne.mpr c61; have c61b1 : ((t454.length : Int) != (t445.length : Int)) = true := bne_iff_ne.mpr c61; have c61b2 : (t454.length == t445.length) = false := by first | simpa using c61 | (simp at c61 ⊢; omega)
     obtain rfl := Option.some.inj H; obtain ⟨Ao63, co63, eo63⟩ := Kd.R_slice HO456.out; subst eo63; go_wp2; go_ret; exact ⟨tE, tB1 GE453⟩
  case rest =>
   clear HC6; try clear c1
   try clear p2
   try clear c5
   try clear c6
   try clear p6
   try clear c7
   try clear c8
   try clear c12
   try clear c15
   try clear c16
   try clear c16b0
   try clear c16b1
   try clear c51
   try clear c61
   try clear c61b0
   try clear c61b1
   try clear c61b2
   try clear hcz51_0
   try clear hcz51_1
   try clear hcz51_2
   try clear hcz51_3
   try clear hcz51_4
   try clear hcz56_0
   try clear hcz56_1
   try clear hcz56_2
   try clear hcz56_3
   try clear hcz56_4
   try clear hfz51_0
   try clear hfz51_1
   try clear hfz51_2
   try clear hfz51_3
   try clear hfz51_4
   try clear hfz56_0
   try clear hfz56_1
   try clear hfz56_2
   try clear hfz56_3
   try clear hfz56_4
   obtain ⟨kq, HA, HJ5, BK453, HB⟩ := hcut; cases kq with
   | zero => exact absurd HA.out (by simp [laws_FnClaims.j0])
   | succ kj5 =>
    have H := HA.out; clear HA; simp only [laws_FnClaims.j0] at H; replace H := Option.bind_eq_some_iff.mp H; obtain ⟨⟨t468, t469, t470⟩, A640, H⟩ := H; have A64 := Aside0.mk A640; clear A640; replace H := Option.bind_eq_some_iff.mp H; obtain ⟨⟨t473, t474⟩, A650, H⟩ := H; have A65 := Aside0.mk A650; clear A650; have HC66 := Aside0.mk H; clear H; go_upto_if 94 with (first | ((with_reducible refine gate_callee (f := 83) rfl ?_); refine goesL_ (some 83) rfl rfl Try.func83 (by kernel_rfl) rfl #[.slice A0 l0.length c0] rfl tM ?_; (with_reducible refine (spec_DrawSetState.calls kj5 _ _ l0 t468 t469 t470 _ ?side1 ?side2 A64.out).mono ?_); (case side1 => exact qC (Kd.C_below HR0.out HB.out)); (case side2 => exact HC0.out); rintro e w67 ⟨v471, rfl, ho0, hb⟩; refine ⟨_, rfl, ?_⟩; have HO472 := aM (Kd.R_lower (Kd.R_newB ho0 (qK BK453)) (below_size (tB1 GE453))); replace BK453 := aM (blk_below (qK BK453) hb); replace HB := aM (below_step (tB1 GE453) hb); (try clear hb); (try clear hb2); (try clear hk); (try clear hi); (try clear ho0); obtain ⟨Ao68, co68, eo68⟩ := Kd.R_slice HO472.out; subst eo68) | ((with_reducible refine gate_callee (f := 84) rfl ?_); refine goesL_ (some 91) rfl rfl Try.func84 (by kernel_rfl) rfl #[.slice Ao68 t468.length co68, .int .i64 t469, .int .i64 t470] rfl tM ?_; (with_reducible refine (impl_SetState.calls kj5 _ _ t468 t469 t470 t473 t474 _ ?side1 ?side2 A65.out).mono ?_); (case side1 => exact tC HO472); (case side2 => exact (Kd.R_reads' HO472.out).2.1); rintro e w69 ⟨v475, rfl, ho0, hb⟩; refine ⟨_, rfl, ?_⟩; have HO476 := aM (Kd.R_lower (Kd.R_newB (Kd.R_new' ho0 (Kd.R_lt (qR HO472))) (qK BK453)) (below_size (tB1 GE453))); replace HO472 := aM (Kd.R_elder' (qR HO472) (Kd.R_base ho0) hb); replace BK453 := aM (blk_below (qK BK453) hb); replace HB := aM (below_step (tB1 GE453) hb); (try clear hb); (try clear hb2); (try clear hk); (try clear hi); (try clear ho0)))
    (try simp only [Act.put, sA, sZ, sS]); go_cut [] (fun wc => ∃ (kq : Nat), Aside0 (laws_FnClaims.j1 kq l0 t468 t473 = some r) ∧ Aside0 (kq ≤ kj5) ∧ Aside0 (Kd.R k84 84 wc w.heap.size (fun k_ => some k_ ≠ (v475 : Value).ownBlock ∧ k_ ≠ gb453) (.slice Ao68 t468.length co68) t468) ∧ Aside0 (Kd.R k84 84 wc w.heap.size (fun k_ => some k_ ≠ ((.slice Ao68 t468.length co68) : Value).ownBlock ∧ k_ ≠ gb453) v475 t473) ∧ Aside0 (wc.heap[gb453]? = some (.cells #[.int .i64 t448, .int .i64 t449, .int .i64 t450, .int .i64 t451, .int .i64 t452] 84 (0, 0))) ∧ Aside0 (Below w.heap.size w wc))
    case first =>
     have H := HC66.out; clear HC66; by_cases c70 : t474 = true
     ·subst c70; rw [if_pos rfl] at H; replace H := Option.bind_eq_some_iff.mp H; obtain ⟨t477, A710, H⟩ := H; have A71 := Aside0.mk A710; clear A710; replace H := Option.bind_eq_some_iff.mp H; obtain ⟨t478, A720, H⟩ := H; have A72 := Aside0.mk A720; clear A720; by_cases c73 : t478 = true
      ·subst c73; rw [if_pos rfl] at H; by_cases c74 : 0 ≤ t477
       ·rw [if_pos c74] at H; have c74b0 : decide (0 ≤ t477) = true := decide_eq_true c74; clear c74; (first | rw [c74b0] | (simp only [i64_w, i32_w]; rw [c74b0]) | skip); by_cases c75 : t477 < (t473.length : Int)
        ·rw [if_pos c75] at H; have c75b0 : decide (t477 < (t473.length : Int)) = true := decide_eq_true c75; clear c75; by_cases c76 : ((rd_T84 t473 t477).f4) = t470
         ·rw [if_pos c76] at H; have c76b0 : (((rd_T84 t473 t477).f4) == t470) = true := beq_iff_eq.mpr c76; have c76b1 : (((rd_T84 t473 t477).f4) != t470) = false := bne_eq_false_iff_eq.mpr c76; clear c76; by_cases c77 : t477 < (t468.length : Int)
          ·rw [if_pos c77] at H; have c77b0 : decide (t477 < (t468.length : Int)) = true := decide_eq_true c77; clear c77; by_cases c78 : ((rd_T84 t468 t477).f4) = 3
           ·rw [if_pos c78] at H; have c78b0 : (((rd_T84 t468 t477).f4) == 3) = true := beq_iff_eq.mpr c78; have c78b1 : (((rd_T84 t468 t477).f4) != 3) = false := bne_eq_false_iff_eq.mpr c78; clear c78; obtain rfl := Option.some.inj H; obtain ⟨Ao79, co79, eo79⟩ := Kd.R_slice HO476.out; subst eo79; go_wp2_with (first | ((with_reducible refine gate_callee (f := 80) rfl ?_); refine goesL_ (some 97) rfl rfl Try.func80 (by kernel_rfl) rfl #[.slice Ao79 t473.length co79, .int .i64 t469] rfl tM ?_; (with_reducible refine (impl_FindClaim.calls _ _ t473 t469 t477 _ ?side1 ?side2 A71.out).mono ?_); (case side1 => exact tC HO476); (case side2 => exact (Kd.R_reads' HO476.out).2.1); rintro e w80 ⟨rfl, hb⟩; refine ⟨_, rfl, ?_⟩; replace HO472 := aM (Kd.R_below (qR HO472) hb); replace HO476 := aM (Kd.R_below (qR HO476) hb); replace BK453 := aM (blk_below (qK BK453) hb); replace HB := aM (below_step (tB1 GE453) hb); (try clear hb); (try clear hb2); (try clear hk); (try clear hi)) | ((with_reducible refine gate_callee (f := 79) rfl ?_); refine goesL_ (some 99) rfl rfl Try.func79 (by kernel_rfl) rfl #[.slice Ao79 t473.length co79] rfl tM ?_; (with_reducible refine (impl_AreClaims.calls kj5 _ _ t473 true _ ?side1 ?side2 A72.out).mono ?_); (case side1 => exact tC HO476); (case side2 => exact (Kd.R_reads' HO476.out).2.1); rintro e w81 ⟨rfl, hb⟩; refine ⟨_, rfl, ?_⟩; replace HO472 := aM (Kd.R_below (qR HO472) hb); replace HO476 := aM (Kd.R_below (qR HO476) hb); replace BK453 := aM (blk_below (qK BK453) hb); replace HB := aM (below_step (tB1 GE453) hb); (try clear hb); (try clear hb2); (try clear hk); (try clear hi); have p479 : 0 ≤ (t477 : Int) := of_decide_eq_true ‹_›; have q479 : t477 < (t473.length : Int) := of_decide_eq_true ‹_›; obtain ⟨ad479, e479, hx479_0, hx479_1, hx479_2, hx479_3, hx479_4⟩ := at_T84 (Kd.R_reads' HO476.out).2.2 t477 p479 q479; cases e479; replace p479 := eq_true p479; replace q479 := eq_true q479; have p480 : 0 ≤ (t477 : Int) := of_decide_eq_true ‹_›; have q480 : t477 < (t468.length : Int) := of_decide_eq_true ‹_›; obtain ⟨ad480, e480, hx480_0, hx480_1, hx480_2, hx480_3, hx480_4⟩ := at_T84 (Kd.R_reads' HO472.out).2.2 t477 p480 q480; cases e480; replace p480 := eq_true p480; replace q480 := eq_true q480)); go_ret; exact ⟨tE, tB1 GE453⟩
           ·rw [if_neg c78] at H; have c78b0 : (((rd_T84 t468 t477).f4) == 3) = false := beq_eq_false_iff_ne.mpr c78; have c78b1 : (((rd_T84 t468 t477).f4) != 3) = true := bne_iff_ne.mpr c78; by_cases c82 : ((rd_T84 t468 t477).f4) = 2
            ·rw [if_pos c82] at H; have c82b0 : (((rd_T84 t468 t477).f4) == 2) = true := beq_iff_eq.mpr c82; have c82b1 : (((rd_T84 t468 t477).f4) != 2) = false := bne_eq_false_iff_eq.mpr c82; clear c82; obtain rfl := Option.some.inj H; obtain ⟨Ao83, co83, eo83⟩ := Kd.R_slice HO476.out; subst eo83; go_wp2_with (first | ((with_reducible refine gate_callee (f := 80) rfl ?_); refine goesL_ (some 97) rfl rfl Try.func80 (by kernel_rfl) rfl #[.slice Ao83 t473.length co83, .int .i64 t469] rfl tM ?_; (with_reducible refine (impl_FindClaim.calls _ _ t473 t469 t477 _ ?side1 ?side2 A71.out).mono ?_); (case side1 => exact tC HO476); (case side2 => exact (Kd.R_reads' HO476.out).2.1); rintro e w84 ⟨rfl, hb⟩; refine ⟨_, rfl, ?_⟩; replace HO472 := aM (Kd.R_below (qR HO472) hb); replace HO476 := aM (Kd.R_below (qR HO476) hb); replace BK453 := aM (blk_below (qK BK453) hb); replace HB := aM (below_step (tB1 GE453) hb); (try clear hb); (try clear hb2); (try clear hk); (try clear hi)) | ((with_reducible refine gate_callee (f := 79) rfl ?_); refine goesL_ (some 99) rfl rfl Try.func79 (by kernel_rfl) rfl #[.slice Ao83 t473.length co83] rfl tM ?_; (with_reducible refine (impl_AreClaims.calls kj5 _ _ t473 true _ ?side1 ?side2 A72.out).mono ?_); (case side1 => exact tC HO476); (case side2 => exact (Kd.R_reads' HO476.out).2.1); rintro e w85 ⟨rfl, hb⟩; refine ⟨_, rfl, ?_⟩; replace HO472 := aM (Kd.R_below (qR HO472) hb); replace HO476 := aM (Kd.R_below (qR HO476) hb); replace BK453 := aM (blk_below (qK BK453) hb); replace HB := aM (below_step (tB1 GE453) hb); (try clear hb); (try clear hb2); (try clear hk); (try clear hi); have p479 : 0 ≤ (t477 : Int) := of_decide_eq_true ‹_›; have q479 : t477 < (t473.length : Int) := of_decide_eq_true ‹_›; obtain ⟨ad479, e479, hx479_0, hx479_1, hx479_2, hx479_3, hx479_4⟩ := at_T84 (Kd.R_reads' HO476.out).2.2 t477 p479 q479; cases e479; replace p479 := eq_true p479; replace q479 := eq_true q479; have p480 : 0 ≤ (t477 : Int) := of_decide_eq_true ‹_›; have q480 : t477 < (t468.length : Int) := of_decide_eq_true ‹_›; obtain ⟨ad480, e480, hx480_0, hx480_1, hx480_2, hx480_3, hx480_4⟩ := at_T84 (Kd.R_reads' HO472.out).2.2 t477 p480 q480; cases e480; replace p480 := eq_true p480; replace q480 := eq_true q480; have p481 : 0 ≤ (t477 : Int) := of_decide_eq_true ‹_›; have q481 : t477 < (t468.length : Int) := of_decide_eq_true ‹_›; obtain ⟨ad481, e481, hx481_0, hx481_1, hx481_2, hx481_3, hx481_4⟩ := at_T84 (Kd.R_reads' HO472.out).2.2 t477 p481 q481; obtain rfl : ad480 = ad481 := (by injection e481); replace p481 := eq_true p481; replace q481 := eq_true q481)); go_ret; exact ⟨tE, tB1 GE453⟩
            ·rw [if_neg c82] at H; have c82b0 : (((rd_T84 t468 t477).f4) == 2) = false := beq_eq_false_iff_ne.mpr c82; have c82b1 : (((rd_T84 t468 t477).f4) != 2) = true := bne_iff_ne.mpr c82; have H' := Aside0.mk H; clear H; obtain ⟨Ao86, co86, eo86⟩ := Kd.R_slice HO476.out; subst eo86; go_wp2_with (first | ((with_reducible refine gate_callee (f := 80) rfl ?_); refine goesL_ (some 97) rfl rfl Try.func80 (by kernel_rfl) rfl #[.slice Ao86 t473.length co86, .int .i64 t469] rfl tM ?_; (with_reducible refine (impl_FindClaim.calls _ _ t473 t469 t477 _ ?side1 ?side2 A71.out).mono ?_); (case side1 => exact tC HO476); (case side2 => exact (Kd.R_reads' HO476.out).2.1); rintro e w87 ⟨rfl, hb⟩; refine ⟨_, rfl, ?_⟩; replace HO472 := aM (Kd.R_below (qR HO472) hb); replace HO476 := aM (Kd.R_below (qR HO476) hb); replace BK453 := aM (blk_below (qK BK453) hb); replace HB := aM (below_step (tB1 GE453) hb); (try clear hb); (try clear hb2); (try clear hk); (try clear hi)) | ((with_reducible refine gate_callee (f := 79) rfl ?_); refine goesL_ (some 99) rfl rfl Try.func79 (by kernel_rfl) rfl #[.slice Ao86 t473.length co86] rfl tM ?_; (with_reducible refine (impl_AreClaims.calls kj5 _ _ t473 true _ ?side1 ?side2 A72.out).mono ?_); (case side1 => exact tC HO476); (case side2 => exact (Kd.R_reads' HO476.out).2.1); rintro e w88 ⟨rfl, hb⟩; refine ⟨_, rfl, ?_⟩; replace HO472 := aM (Kd.R_below (qR HO472) hb); replace HO476 := aM (Kd.R_below (qR HO476) hb); replace BK453 := aM (blk_below (qK BK453) hb); replace HB := aM (below_step (tB1 GE453) hb); (try clear hb); (try clear hb2); (try clear hk); (try clear hi); have p479 : 0 ≤ (t477 : Int) := of_decide_eq_true ‹_›; have q479 : t477 < (t473.length : Int) := of_decide_eq_true ‹_›; obtain ⟨ad479, e479, hx479_0, hx479_1, hx479_2, hx479_3, hx479_4⟩ := at_T84 (Kd.R_reads' HO476.out).2.2 t477 p479 q479; cases e479; replace p479 := eq_true p479; replace q479 := eq_true q479; have p480 : 0 ≤ (t477 : Int) := of_decide_eq_true ‹_›; have q480 : t477 < (t468.length : Int) := of_decide_eq_true ‹_›; obtain ⟨ad480, e480, hx480_0, hx480_1, hx480_2, hx480_3, hx480_4⟩ := at_T84 (Kd.R_reads' HO472.out).2.2 t477 p480 q480; cases e480; replace p480 := eq_true p480; replace q480 := eq_true q480; have p481 : 0 ≤ (t477 : Int) := of_decide_eq_true ‹_›; have q481 : t477 < (t468.length : Int) := of_decide_eq_true ‹_›; obtain ⟨ad481, e481, hx481_0, hx481_1, hx481_2, hx481_3, hx481_4⟩ := at_T84 (Kd.R_reads' HO472.out).2.2 t477 p481 q481; obtain rfl : ad480 = ad481 := (by injection e481); replace p481 := eq_true p481; replace q481 := eq_true q481)); go_meet
             case rel => exact ⟨_, H', ⟨by have := HJ5.out; first | omega | exact Nat.le_refl _⟩, ⟨by (with_reducible repeat first | apply rA | apply rN | apply rD); exact Kd.R_mono HO472.out (fun _ hk => ⟨hk.2, hk.1.2⟩)⟩, ⟨by (with_reducible repeat first | apply rA | apply rN | apply rD); exact Kd.R_mono HO476.out (fun _ hk => ⟨hk.1.2, hk.2⟩)⟩, ⟨tK BK453⟩, ⟨tB1 GE453⟩⟩
          ·rw [if_neg c77] at H; exact absurd H (by simp)
         ·rw [if_neg c76] at H; have c76b0 : (((rd_T84 t473 t477).f4) == t470) = false := beq_eq_false_iff_ne.mpr c76; have c76b1 : (((rd_T84 t473 t477).f4) != t470) = true := bne_iff_ne.mpr c76; obtain rfl := Option.some.inj H; obtain ⟨Ao89, co89, eo89⟩ := Kd.R_slice HO476.out; subst eo89; go_wp2_with (first | ((with_reducible refine gate_callee (f := 80) rfl ?_); refine goesL_ (some 97) rfl rfl Try.func80 (by kernel_rfl) rfl #[.slice Ao89 t473.length co89, .int .i64 t469] rfl tM ?_; (with_reducible refine (impl_FindClaim.calls _ _ t473 t469 t477 _ ?side1 ?side2 A71.out).mono ?_); (case side1 => exact tC HO476); (case side2 => exact (Kd.R_reads' HO476.out).2.1); rintro e w90 ⟨rfl, hb⟩; refine ⟨_, rfl, ?_⟩; replace HO472 := aM (Kd.R_below (qR HO472) hb); replace HO476 := aM (Kd.R_below (qR HO476) hb); replace BK453 := aM (blk_below (qK BK453) hb); replace HB := aM (below_step (tB1 GE453) hb); (try clear hb); (try clear hb2); (try clear hk); (try clear hi)) | ((with_reducible refine gate_callee (f := 79) rfl ?_); refine goesL_ (some 99) rfl rfl Try.func79 (by kernel_rfl) rfl #[.slice Ao89 t473.length co89] rfl tM ?_; (with_reducible refine (impl_AreClaims.calls kj5 _ _ t473 true _ ?side1 ?side2 A72.out).mono ?_); (case side1 => exact tC HO476); (case side2 => exact (Kd.R_reads' HO476.out).2.1); rintro e w91 ⟨rfl, hb⟩; refine ⟨_, rfl, ?_⟩; replace HO472 := aM (Kd.R_below (qR HO472) hb); replace HO476 := aM (Kd.R_below (qR HO476) hb); replace BK453 := aM (blk_below (qK BK453) hb); replace HB := aM (below_step (tB1 GE453) hb); (try clear hb); (try clear hb2); (try clear hk); (try clear hi); have p479 : 0 ≤ (t477 : Int) := of_decide_eq_true ‹_›; have q479 : t477 < (t473.length : Int) := of_decide_eq_true ‹_›; obtain ⟨ad479, e479, hx479_0, hx479_1, hx479_2, hx479_3, hx479_4⟩ := at_T84 (Kd.R_reads' HO476.out).2.2 t477 p479 q479; cases e479; replace p479 := eq_true p479; replace q479 := eq_true q479)); go_ret; exact ⟨tE, tB1 GE453⟩
        ·rw [if_neg c75] at H; exact absurd H (by simp)
       ·rw [if_neg c74] at H; exact absurd H (by simp)
      ·replace c73 := Bool.eq_false_iff.mpr c73; subst c73; rw [if_neg ff_] at H; obtain rfl := Option.some.inj H; obtain ⟨Ao92, co92, eo92⟩ := Kd.R_slice HO476.out; subst eo92; go_wp2_with (first | ((with_reducible refine gate_callee (f := 80) rfl ?_); refine goesL_ (some 97) rfl rfl Try.func80 (by kernel_rfl) rfl #[.slice Ao92 t473.length co92, .int .i64 t469] rfl tM ?_; (with_reducible refine (impl_FindClaim.calls _ _ t473 t469 t477 _ ?side1 ?side2 A71.out).mono ?_); (case side1 => exact tC HO476); (case side2 => exact (Kd.R_reads' HO476.out).2.1); rintro e w93 ⟨rfl, hb⟩; refine ⟨_, rfl, ?_⟩; replace HO472 := aM (Kd.R_below (qR HO472) hb); replace HO476 := aM (Kd.R_below (qR HO476) hb); replace BK453 := aM (blk_below (qK BK453) hb); replace HB := aM (below_step (tB1 GE453) hb); (try clear hb); (try clear hb2); (try clear hk); (try clear hi)) | ((with_reducible refine gate_callee (f := 79) rfl ?_); refine goesL_ (some 99) rfl rfl Try.func79 (by kernel_rfl) rfl #[.slice Ao92 t473.length co92] rfl tM ?_; (with_reducible refine (impl_AreClaims.calls kj5 _ _ t473 false _ ?side1 ?side2 A72.out).mono ?_); (case side1 => exact tC HO476); (case side2 => exact (Kd.R_reads' HO476.out).2.1); rintro e w94 ⟨rfl, hb⟩; refine ⟨_, rfl, ?_⟩; replace HO472 := aM (Kd.R_below (qR HO472) hb); replace HO476 := aM (Kd.R_below (qR HO476) hb); replace BK453 := aM (blk_below (qK BK453) hb); replace HB := aM (below_step (tB1 GE453) hb); (try clear hb); (try clear hb2); (try clear hk); (try clear hi))); go_ret; exact ⟨tE, tB1 GE453⟩
     ·replace c70 := Bool.eq_false_iff.mpr c70; subst c70; rw [if_neg ff_] at H; have H' := Aside0.mk H; clear H; go_wp2; go_meet
      case rel => exact ⟨_, H', ⟨by have := HJ5.out; first | omega | exact Nat.le_refl _⟩, ⟨by (with_reducible repeat first | apply rA | apply rN | apply rD); exact Kd.R_mono HO472.out (fun _ hk => ⟨hk.2, hk.1.2⟩)⟩, ⟨by (with_reducible repeat first | apply rA | apply rN | apply rD); exact Kd.R_mono HO476.out (fun _ hk => ⟨hk.1.2, hk.2⟩)⟩, ⟨tK BK453⟩, ⟨tB1 GE453⟩⟩
    case rest =>
     clear HC66; try clear c1
     try clear p2
     try clear p4
     try clear q4
     try clear hx4
     try clear c5
     try clear c6
     try clear p6
     try clear c7
     try clear c8
     try clear c12
     try clear c15
     try clear c16
     try clear c16b0
     try clear c16b1
     try clear p47
     try clear q47
     try clear hx47
     try clear p48
     try clear q48
     try clear hx48
     try clear c51
     try clear c61
     try clear c61b0
     try clear c61b1
     try clear c61b2
     try clear c70
     try clear c73
     try clear c74
     try clear c74b0
     try clear c75
     try clear c75b0
     try clear c76
     try clear c76b0
     try clear c76b1
     try clear c77
     try clear c77b0
     try clear c78
     try clear c78b0
     try clear c78b1
     try clear c79
     try clear c80
     try clear c82
     try clear c82b0
     try clear c82b1
     try clear c83
     try clear c84
     try clear hcz51_0
     try clear hcz51_1
     try clear hcz51_2
     try clear hcz51_3
     try clear hcz51_4
     try clear hcz56_0
     try clear hcz56_1
     try clear hcz56_2
     try clear hcz56_3
     try clear hcz56_4
     try clear hfz51_0
     try clear hfz51_1
     try clear hfz51_2
     try clear hfz51_3
     try clear hfz51_4
     try clear hfz56_0
     try clear hfz56_1
     try clear hfz56_2
     try clear hfz56_3
     try clear hfz56_4
     try clear hx479_0
     try clear hx479_1
     try clear hx479_2
     try clear hx479_3
     try clear hx479_4
     try clear hx480_0
     try clear hx480_1
     try clear hx480_2
     try clear hx480_3
     try clear hx480_4
     try clear hx481_0
     try clear hx481_1
     try clear hx481_2
     try clear hx481_3
     try clear hx481_4
     try clear p2
     try clear p479
     try clear p480
     try clear p481
     try clear p6
     try clear q479
     try clear q480
     try clear q481
     obtain ⟨kq, HA, HJ65, HO_9, HO_12, BK453, HB⟩ := hcut; cases kq with
     | zero => exact absurd HA.out (by simp [laws_FnClaims.j1])
     | succ kj65 =>
      have H := HA.out; clear HA; simp only [laws_FnClaims.j1] at H; replace H := Option.bind_eq_some_iff.mp H; obtain ⟨⟨t482, t483⟩, A950, H⟩ := H; have A95 := Aside0.mk A950; clear A950; replace H := Option.bind_eq_some_iff.mp H; obtain ⟨t486, A960, H⟩ := H; have A96 := Aside0.mk A960; clear A960; have H' := Aside0.mk H; clear H; go_wp2_with (first | ((with_reducible refine gate_callee (f := 85) rfl ?_); refine goesL_ (some 128) rfl rfl Try.func85 (by kernel_rfl) rfl #[.slice A0 l0.length c0] rfl tM ?_; (with_reducible refine (spec_DrawFirstProved.calls kj65 _ _ l0 t482 t483 _ ?side1 ?side2 A95.out).mono ?_); (case side1 => exact qC (Kd.C_below HR0.out HB.out)); (case side2 => exact HC0.out); rintro e w97 ⟨v484, rfl, ho0, hb⟩; refine ⟨_, rfl, ?_⟩; have HO485 := aM (Kd.R_lower (Kd.R_newB (Kd.R_new' (Kd.R_new' ho0 (Kd.R_lt (qR HO_9))) (Kd.R_lt (qR HO_12))) (qK BK453)) (below_size (tB1 GE453))); replace HO_9 := aM (Kd.R_elder' (qR HO_9) (Kd.R_base ho0) hb); replace HO_12 := aM (Kd.R_elder' (qR HO_12) (Kd.R_base ho0) hb); replace BK453 := aM (blk_below (qK BK453) hb); replace HB := aM (below_step (tB1 GE453) hb); (try clear hb); (try clear hb2); (try clear hk); (try clear hi); (try clear ho0); obtain ⟨Ao98, co98, eo98⟩ := Kd.R_slice HO485.out; subst eo98) | ((with_reducible refine gate_callee (f := 86) rfl ?_); refine goesL_ (some 133) rfl rfl Try.func86 (by kernel_rfl) rfl #[.slice Ao98 t482.length co98, .int .i64 t483] rfl tM ?_; (with_reducible refine (impl_FirstProved.calls kj65 _ _ t482 t483 t486 _ ?side1 ?side2 A96.out).mono ?_); (case side1 => exact tC HO485); (case side2 => exact (Kd.R_reads' HO485.out).2.1); rintro e w99 ⟨rfl, hb⟩; refine ⟨_, rfl, ?_⟩; replace HO_9 := aM (Kd.R_below (qR HO_9) hb); replace HO_12 := aM (Kd.R_below (qR HO_12) hb); replace HO485 := aM (Kd.R_below (qR HO485) hb); replace BK453 := aM (blk_below (qK BK453) hb); replace HB := aM (below_step (tB1 GE453) hb); (try clear hb); (try clear hb2); (try clear hk); (try clear hi))); go_loopg [18] kj65 (fun kq v18 w' => ∃ (x18_3 : Int), v18 = .int .i64 x18_3 ∧ Aside0 (laws_FnClaims.l0 kq t468 t473 t482 t483 t486 x18_3 = some r) ∧ Aside0 (kq ≤ kj65) ∧ Aside0 (Kd.R k84 84 w' w.heap.size (fun k_ => some k_ ≠ (v475 : Value).ownBlock ∧ some k_ ≠ ((.slice Ao98 t482.length co98) : Value).ownBlock ∧ k_ ≠ gb453) (.slice Ao68 t468.length co68) t468) ∧ Aside0 (Kd.R k84 84 w' w.heap.size (fun k_ => some k_ ≠ ((.slice Ao68 t468.length co68) : Value).ownBlock ∧ some k_ ≠ ((.slice Ao98 t482.length co98) : Value).ownBlock ∧ k_ ≠ gb453) v475 t473) ∧ Aside0 (Kd.R k84 84 w' w.heap.size (fun k_ => some k_ ≠ ((.slice Ao68 t468.length co68) : Value).ownBlock ∧ some k_ ≠ (v475 : Value).ownBlock ∧ k_ ≠ gb453) (.slice Ao98 t482.length co98) t482) ∧ Aside0 (w'.heap[gb453]? = some (.cells #[.int .i64 t448, .int .i64 t449, .int .i64 t450, .int .i64 t451, .int .i64 t452] 84 (0, 0))) ∧ Aside0 (Below w.heap.size w w'))
      case atStart => exact ⟨(0), tS, H', ⟨Nat.le_refl _⟩, ⟨by (with_reducible repeat first | apply rA | apply rN | apply rD); exact Kd.R_mono HO_9.out (fun _ hk => ⟨hk.1.1, ⟨hk.2, hk.1.2⟩⟩)⟩, ⟨by (with_reducible repeat first | apply rA | apply rN | apply rD); exact Kd.R_mono HO_12.out (fun _ hk => ⟨hk.1.1, ⟨hk.2, hk.1.2⟩⟩)⟩, ⟨by (with_reducible repeat first | apply rA | apply rN | apply rD); exact Kd.R_mono HO485.out (fun _ hk => ⟨hk.1.1.2, ⟨hk.1.2, hk.2⟩⟩)⟩, ⟨tK BK453⟩, ⟨tB1 GE453⟩⟩
      case round =>
       clear H'; try clear c1
       try clear p2
       try clear p4
       try clear q4
       try clear hx4
       try clear c5
       try clear c6
       try clear p6
       try clear c7
       try clear c8
       try clear c12
       try clear c15
       try clear c16
       try clear c16b0
       try clear c16b1
       try clear p47
       try clear q47
       try clear hx47
       try clear p48
       try clear q48
       try clear hx48
       try clear c51
       try clear c61
       try clear c61b0
       try clear c61b1
       try clear c61b2
       try clear c70
       try clear c73
       try clear c74
       try clear c74b0
       try clear c75
       try clear c75b0
       try clear c76
       try clear c76b0
       try clear c76b1
       try clear c77
       try clear c77b0
       try clear c78
       try clear c78b0
       try clear c78b1
       try clear c79
       try clear c80
       try clear c82
       try clear c82b0
       try clear c82b1
       try clear c83
       try clear c84
       try clear c85
       try clear c86
       try clear hcz51_0
       try clear hcz51_1
       try clear hcz51_2
       try clear hcz51_3
       try clear hcz51_4
       try clear hcz56_0
       try clear hcz56_1
       try clear hcz56_2
       try clear hcz56_3
       try clear hcz56_4
       try clear hfz51_0
       try clear hfz51_1
       try clear hfz51_2
       try clear hfz51_3
       try clear hfz51_4
       try clear hfz56_0
       try clear hfz56_1
       try clear hfz56_2
       try clear hfz56_3
       try clear hfz56_4
       try clear hx479_0
       try clear hx479_1
       try clear hx479_2
       try clear hx479_3
       try clear hx479_4
       try clear hx480_0
       try clear hx480_1
       try clear hx480_2
       try clear hx480_3
       try clear hx480_4
       try clear hx481_0
       try clear hx481_1
       try clear hx481_2
       try clear hx481_3
       try clear hx481_4
       try clear p2
       try clear p4
       try clear p47
       try clear p479
       try clear p48
       try clear p480
       try clear p481
       try clear p6
       try clear q4
       try clear q47
       try clear q479
       try clear q48
       try clear q480
       try clear q481
       obtain ⟨x18_3, rfl, HA, HK3, HO_9, HO_12, HO_15, BK453, HB⟩ := hrel; cases gk with
       | zero => exact absurd HA.out (by simp [laws_FnClaims.l0])
       | succ k3 =>
        have H := HA.out; clear HA; simp only [laws_FnClaims.l0] at H; have HC100 := Aside0.mk H; clear H; go_upto_region 20 with (fail)
        go_cut [145] (fun v145 wc => ∃ (kq : Nat) (x145_99 : Bool), v145 = .bool x145_99 ∧ Aside0 (laws_FnClaims.j3 kq t468 t473 t482 t483 t486 x18_3 x145_99 = some r) ∧ Aside0 (kq ≤ k3) ∧ Aside0 (Kd.R k84 84 wc w.heap.size (fun k_ => some k_ ≠ (v475 : Value).ownBlock ∧ some k_ ≠ ((.slice Ao98 t482.length co98) : Value).ownBlock ∧ k_ ≠ gb453) (.slice Ao68 t468.length co68) t468) ∧ Aside0 (Kd.R k84 84 wc w.heap.size (fun k_ => some k_ ≠ ((.slice Ao68 t468.length co68) : Value).ownBlock ∧ some k_ ≠ ((.slice Ao98 t482.length co98) : Value).ownBlock ∧ k_ ≠ gb453) v475 t473) ∧ Aside0 (Kd.R k84 84 wc w.heap.size (fun k_ => some k_ ≠ ((.slice Ao68 t468.length co68) : Value).ownBlock ∧ some k_ ≠ (v475 : Value).ownBlock ∧ k_ ≠ gb453) (.slice Ao98 t482.length co98) t482) ∧ Aside0 (wc.heap[gb453]? = some (.cells #[.int .i64 t448, .int .i64 t449, .int .i64 t450, .int .i64 t451, .int .i64 t452] 84 (0, 0))) ∧ Aside0 (Below w.heap.size w wc))
        case first =>
         have H := HC100.out; clear HC100; by_cases c101 : x18_3 < (t482.length : Int)
         ·rw [if_pos c101] at H; have c101b0 : decide (x18_3 < (t482.length : Int)) = true := decide_eq_true c101; clear c101; (first | rw [c101b0] | (simp only [i64_w, i32_w]; rw [c101b0]) | skip); by_cases c102 : t486 = 0
          ·rw [if_pos c102] at H; have c102b0 : (t486 == 0) = true := beq_iff_eq.mpr c102; have c102b1 : (t486 != 0) = false := bne_eq_false_iff_eq.mpr c102; clear c102; have H' := Aside0.mk H; clear H; go_wp2; go_meet
           case rel => exact ⟨_, (false), tS, H', ⟨by have := HJ5.out; have := HJ65.out; have := HK3.out; first | omega | exact Nat.le_refl _⟩, ⟨tR HO_9⟩, ⟨tR HO_12⟩, ⟨tR HO_15⟩, ⟨tK BK453⟩, ⟨tB1 GE453⟩⟩
          ·rw [if_neg c102] at H; have c102b0 : (t486 == 0) = false := beq_eq_false_iff_ne.mpr c102; have c102b1 : (t486 != 0) = true := bne_iff_ne.mpr c102; replace H := Option.bind_eq_some_iff.mp H; obtain ⟨t487, A1030, H⟩ := H; have A103 := Aside0.mk A1030; clear A1030; have H' := Aside0.mk H; clear H; go_wp2_with (first | (go_at_call 87; (with_reducible refine (spec_AreClaims.calls k3 _ _ t482 t487 _ ?side1 ?side2 A103.out).mono ?_); (case side1 => exact tC HO_15); (case side2 => exact (Kd.R_reads' HO_15.out).2.1); rintro e w104 ⟨rfl, hb⟩; replace HO_9 := aM (Kd.R_below (qR HO_9) hb); replace HO_12 := aM (Kd.R_below (qR HO_12) hb); replace HO_15 := aM (Kd.R_below (qR HO_15) hb); replace BK453 := aM (blk_below (qK BK453) hb); replace HB := aM (below_step (tB1 GE453) hb); (try clear hb); (try clear hb2); (try clear hk); (try clear hi))); go_meet
           case rel => exact ⟨_, (t487), tS, H', ⟨by have := HJ5.out; have := HJ65.out; have := HK3.out; first | omega | exact Nat.le_refl _⟩, ⟨tR HO_9⟩, ⟨tR HO_12⟩, ⟨tR HO_15⟩, ⟨tK BK453⟩, ⟨tB1 GE453⟩⟩
         ·rw [if_neg c101] at H; have c101b0 : decide (x18_3 < (t482.length : Int)) = false := decide_eq_false c101; clear c101; (first | rw [c101b0] | (simp only [i64_w, i32_w]; rw [c101b0]) | skip); have H' := Aside0.mk H; clear H; go_wp2; go_meet
          case rel => exact ⟨_, (false), tS, H', ⟨by have := HJ5.out; have := HJ65.out; have := HK3.out; first | omega | exact Nat.le_refl _⟩, ⟨tR HO_9⟩, ⟨tR HO_12⟩, ⟨tR HO_15⟩, ⟨tK BK453⟩, ⟨tB1 GE453⟩⟩
        case rest =>
         clear HC100; try clear c1
         try clear p2
         try clear p4
         try clear q4
         try clear hx4
         try clear c5
         try clear c6
         try clear p6
         try clear c7
         try clear c8
         try clear c10
         try clear c12
         try clear c15
         try clear c16
         try clear c16b0
         try clear c16b1
         try clear p47
         try clear q47
         try clear hx47
         try clear p48
         try clear q48
         try clear hx48
         try clear c51
         try clear c61
         try clear c61b0
         try clear c61b1
         try clear c61b2
         try clear c70
         try clear c73
         try clear c74
         try clear c74b0
         try clear c75
         try clear c75b0
         try clear c76
         try clear c76b0
         try clear c76b1
         try clear c77
         try clear c77b0
         try clear c78
         try clear c78b0
         try clear c78b1
         try clear c79
         try clear c80
         try clear c82
         try clear c82b0
         try clear c82b1
         try clear c83
         try clear c84
         try clear c85
         try clear c86
         try clear c101
         try clear c101b0
         try clear c102
         try clear c102b0
         try clear c102b1
         try clear hcz51_0
         try clear hcz51_1
         try clear hcz51_2
         try clear hcz51_3
         try clear hcz51_4
         try clear hcz56_0
         try clear hcz56_1
         try clear hcz56_2
         try clear hcz56_3
         try clear hcz56_4
         try clear hfz51_0
         try clear hfz51_1
         try clear hfz51_2
         try clear hfz51_3
         try clear hfz51_4
         try clear hfz56_0
         try clear hfz56_1
         try clear hfz56_2
         try clear hfz56_3
         try clear hfz56_4
         try clear hx479_0
         try clear hx479_1
         try clear hx479_2
         try clear hx479_3
         try clear hx479_4
         try clear hx480_0
         try clear hx480_1
         try clear hx480_2
         try clear hx480_3
         try clear hx480_4
         try clear hx481_0
         try clear hx481_1
         try clear hx481_2
         try clear hx481_3
         try clear hx481_4
         try clear p2
         try clear p4
         try clear p47
         try clear p479
         try clear p48
         try clear p480
         try clear p481
         try clear p6
         try clear q4
         try clear q47
         try clear q479
         try clear q48
         try clear q480
         try clear q481
         obtain ⟨kq, x145_99, rfl, HA, HJ99, HO_9, HO_12, HO_15, BK453, HB⟩ := hcut; cases kq with
         | zero => exact absurd HA.out (by simp [laws_FnClaims.j3])
         | succ kj99 =>
          have H := HA.out; clear HA; simp only [laws_FnClaims.j3] at H; by_cases c105 : x145_99 = true
          ·subst c105; rw [if_pos rfl] at H; by_cases c106 : 0 ≤ x18_3
           ·rw [if_pos c106] at H; have c106b0 : decide (0 ≤ x18_3) = true := decide_eq_true c106; clear c106; by_cases c107 : x18_3 < (t482.length : Int)
            ·rw [if_pos c107] at H; have c107b0 : decide (x18_3 < (t482.length : Int)) = true := decide_eq_true c107; clear c107; by_cases c108 : ((rd_T84 t482 x18_3).f2) = t483
             ·rw [if_pos c108] at H; have c108b0 : (((rd_T84 t482 x18_3).f2) == t483) = true := beq_iff_eq.mpr c108; have c108b1 : (((rd_T84 t482 x18_3).f2) != t483) = false := bne_eq_false_iff_eq.mpr c108; clear c108; by_cases c109 : ((rd_T84 t482 x18_3).f4) = 1
              ·rw [if_pos c109] at H; have c109b0 : (((rd_T84 t482 x18_3).f4) == 1) = true := beq_iff_eq.mpr c109; have c109b1 : (((rd_T84 t482 x18_3).f4) != 1) = false := bne_eq_false_iff_eq.mpr c109; clear c109; replace H := Option.bind_eq_some_iff.mp H; obtain ⟨t491, A1100, H⟩ := H; have A110 := Aside0.mk A1100; clear A1100; by_cases c111 : 0 ≤ t491
               ·rw [if_pos c111] at H; have c111b0 : decide (0 ≤ t491) = true := decide_eq_true c111; clear c111; by_cases c112 : t491 < (t482.length : Int)
                ·rw [if_pos c112] at H; have c112b0 : decide (t491 < (t482.length : Int)) = true := decide_eq_true c112; clear c112; by_cases c113 : ((rd_T84 t482 x18_3).f3) < ((rd_T84 t482 t491).f3)
                 ·rw [if_pos c113] at H; have c113b0 : decide (((rd_T84 t482 x18_3).f3) < ((rd_T84 t482 t491).f3)) = true := decide_eq_true c113; clear c113; obtain rfl := Option.some.inj H; try go_wp2
                  replace HO_9 := dR HO_9; replace HO_12 := dR HO_12; replace HO_15 := dR HO_15; replace BK453 := dK BK453; replace HB := dB HB; have p488 : 0 ≤ (x18_3 : Int) := of_decide_eq_true ‹_›; have q488 : x18_3 < (t482.length : Int) := of_decide_eq_true ‹_›; obtain ⟨ad488, e488, hx488_0, hx488_1, hx488_2, hx488_3, hx488_4⟩ := at_T84 (Kd.R_reads' HO_15.out).2.2 x18_3 p488 q488; cases e488
                  replace p488 := eq_true p488; replace q488 := eq_true q488; have p489 : 0 ≤ (x18_3 : Int) := of_decide_eq_true ‹_›; have q489 : x18_3 < (t482.length : Int) := of_decide_eq_true ‹_›; obtain ⟨ad489, e489, hx489_0, hx489_1, hx489_2, hx489_3, hx489_4⟩ := at_T84 (Kd.R_reads' HO_15.out).2.2 x18_3 p489 q489; obtain rfl : ad488 = ad489 := (by injection e489)
                  replace p489 := eq_true p489; replace q489 := eq_true q489; have p490 : 0 ≤ (x18_3 : Int) := of_decide_eq_true ‹_›; have q490 : x18_3 < (t482.length : Int) := of_decide_eq_true ‹_›; obtain ⟨ad490, e490, hx490_0, hx490_1, hx490_2, hx490_3, hx490_4⟩ := at_T84 (Kd.R_reads' HO_15.out).2.2 x18_3 p490 q490; obtain rfl : ad488 = ad490 := (by injection e490)
                  replace p490 := eq_true p490; replace q490 := eq_true q490; have p492 : 0 ≤ (t491 : Int) := of_decide_eq_true ‹_›; have q492 : t491 < (t482.length : Int) := of_decide_eq_true ‹_›; obtain ⟨ad492, e492, hx492_0, hx492_1, hx492_2, hx492_3, hx492_4⟩ := at_T84 (Kd.R_reads' HO_15.out).2.2 t491 p492 q492; obtain rfl : ad488 = ad492 := (by injection e492)
                  replace p492 := eq_true p492; replace q492 := eq_true q492; refine start_ (n := 30) (S := fun w' => w'.cell? (ad488.add ((x18_3).toNat * 5)) = some (.int .i64 ((rd_T84 t482 x18_3).f0)) ∧ w'.cell? ⟨(ad488.add ((x18_3).toNat * 5)).block, (ad488.add ((x18_3).toNat * 5)).off + 1, none⟩ = some (.int .i64 ((rd_T84 t482 x18_3).f1)) ∧ w'.cell? ⟨(ad488.add ((x18_3).toNat * 5)).block, (ad488.add ((x18_3).toNat * 5)).off + 2, none⟩ = some (.int .i64 ((rd_T84 t482 x18_3).f2)) ∧ w'.cell? ⟨(ad488.add ((x18_3).toNat * 5)).block, (ad488.add ((x18_3).toNat * 5)).off + 3, none⟩ = some (.int .i64 ((rd_T84 t482 x18_3).f3)) ∧ w'.cell? ⟨(ad488.add ((x18_3).toNat * 5)).block, (ad488.add ((x18_3).toNat * 5)).off + 4, none⟩ = some (.int .i64 ((rd_T84 t482 x18_3).f4)) ∧ w'.cell? (ad488.add ((x18_3).toNat * 5)) = some (.int .i64 ((rd_T84 t482 x18_3).f0)) ∧ w'.cell? ⟨(ad488.add ((x18_3).toNat * 5)).block, (ad488.add ((x18_3).toNat * 5)).off + 1, none⟩ = some (.int .i64 ((rd_T84 t482 x18_3).f1)) ∧ w'.cell? ⟨(ad488.add ((x18_3).toNat * 5)).block, (ad488.add ((x18_3).toNat * 5)).off + 2, none⟩ = some (.int .i64 ((rd_T84 t482 x18_3).f2)) ∧ w'.cell? ⟨(ad488.add ((x18_3).toNat * 5)).block, (ad488.add ((x18_3).toNat * 5)).off + 3, none⟩ = some (.int .i64 ((rd_T84 t482 x18_3).f3)) ∧ w'.cell? ⟨(ad488.add ((x18_3).toNat * 5)).block, (ad488.add ((x18_3).toNat * 5)).off + 4, none⟩ = some (.int .i64 ((rd_T84 t482 x18_3).f4)) ∧ w'.cell? (ad488.add ((x18_3).toNat * 5)) = some (.int .i64 ((rd_T84 t482 x18_3).f0)) ∧ w'.cell? ⟨(ad488.add ((x18_3).toNat * 5)).block, (ad488.add ((x18_3).toNat * 5)).off + 1, none⟩ = some (.int .i64 ((rd_T84 t482 x18_3).f1)) ∧ w'.cell? ⟨(ad488.add ((x18_3).toNat * 5)).block, (ad488.add ((x18_3).toNat * 5)).off + 2, none⟩ = some (.int .i64 ((rd_T84 t482 x18_3).f2)) ∧ w'.cell? ⟨(ad488.add ((x18_3).toNat * 5)).block, (ad488.add ((x18_3).toNat * 5)).off + 3, none⟩ = some (.int .i64 ((rd_T84 t482 x18_3).f3)) ∧ w'.cell? ⟨(ad488.add ((x18_3).toNat * 5)).block, (ad488.add ((x18_3).toNat * 5)).off + 4, none⟩ = some (.int .i64 ((rd_T84 t482 x18_3).f4)) ∧ w'.cell? (ad488.add ((t491).toNat * 5)) = some (.int .i64 ((rd_T84 t482 t491).f0)) ∧ w'.cell? ⟨(ad488.add ((t491).toNat * 5)).block, (ad488.add ((t491).toNat * 5)).off + 1, none⟩ = some (.int .i64 ((rd_T84 t482 t491).f1)) ∧ w'.cell? ⟨(ad488.add ((t491).toNat * 5)).block, (ad488.add ((t491).toNat * 5)).off + 2, none⟩ = some (.int .i64 ((rd_T84 t482 t491).f2)) ∧ w'.cell? ⟨(ad488.add ((t491).toNat * 5)).block, (ad488.add ((t491).toNat * 5)).off + 3, none⟩ = some (.int .i64 ((rd_T84 t482 t491).f3)) ∧ w'.cell? ⟨(ad488.add ((t491).toNat * 5)).block, (ad488.add ((t491).toNat * 5)).off + 4, none⟩ = some (.int .i64 ((rd_T84 t482 t491).f4))) (ds := []) (bR [0,30]) (by kernel_rfl) rfl rfl ⟨hx488_0, hx488_1, hx488_2, hx488_3, hx488_4, hx489_0, hx489_1, hx489_2, hx489_3, hx489_4, hx490_0, hx490_1, hx490_2, hx490_3, hx490_4, hx492_0, hx492_1, hx492_2, hx492_3, hx492_4⟩ (fun hHeld => ?_); refine with_tabW laws_FnClaims.tab22 laws_FnClaims.bits22 (fun HT_ HW_ => ?_); generalize wc.drew = w114 at HO_9 HO_12 HO_15 BK453 HB hx488_0 hx488_1 hx488_2 hx488_3 hx488_4 hx489_0 hx489_1 hx489_2 hx489_3 hx489_4 hx490_0 hx490_1 hx490_2 hx490_3 hx490_4 hx492_0 hx492_1 hx492_2 hx492_3 hx492_4 hHeld ⊢; refine pp 0 148 (bR [1,29]) ?_; refine pp 1 149 (bR [2,28]) ?_; refine pp 2 150 (bR [3,27]) ?_; refine pp 3 151 (bR [4,26]) ?_; refine pp 5 153 (bR [4,1,1,24]) ?_; refine tk 4 152 (bR [6,24]) hHeld ?_; refine pp 6 154 (bR [7,23]) ?_; refine pp 7 155 (bR [8,22]) ?_; refine pp 8 156 (bR [9,21]) ?_; refine pp 9 157 (bR [10,20]) ?_; refine pp 10 158 (bR [11,19]) ?_; refine pp 11 159 (bR [12,18]) ?_; refine tk 12 160 (bR [13,17]) hHeld ?_; refine pp 13 161 (bR [14,16]) ?_; refine pp 14 162 (bR [15,15]) ?_; refine pp 15 163 (bR [16,14]) ?_; refine pp 16 164 (bR [17,13]) ?_; refine pp 17 165 (bR [18,12]) ?_; refine pp 18 166 (bR [19,11]) ?_; refine pp 19 167 (bR [20,10]) ?_; refine pp 21 169 (bR [20,1,1,8]) ?_; refine pp 22 170 (bR [20,1,2,7]) ?_; refine pp 23 171 (bR [20,1,3,6]) ?_; refine tk 20 168 (bR [24,6]) hHeld ?_; refine on 24 172 (bR [25,5]) (fun K hK => ?_); refine goes_ Try.func80 (by kernel_rfl) rfl #[.slice (some ad488) t482.length co98, .int .i64 t486] (by rfl) rfl rfl tM ?_; (with_reducible refine (impl_FindClaim.calls _ _ t482 t486 t491 _ ?side1 ?side2 A110.out).mono ?_); (case side1 => exact tC HO_15); (case side2 => exact (Kd.R_reads' HO_15.out).2.1); rintro e w115 ⟨rfl, hb⟩; have HS0_ := (hb.cell (World.block_lt_of_cell? _ _ (hHeld.1))).trans (hHeld.1); have HS1_ := (hb.cell (World.block_lt_of_cell? _ _ (hHeld.2.1))).trans (hHeld.2.1); have HS2_ := (hb.cell (World.block_lt_of_cell? _ _ (hHeld.2.2.1))).trans (hHeld.2.2.1); have HS3_ := (hb.cell (World.block_lt_of_cell? _ _ (hHeld.2.2.2.1))).trans (hHeld.2.2.2.1); have HS4_ := (hb.cell (World.block_lt_of_cell? _ _ (hHeld.2.2.2.2.1))).trans (hHeld.2.2.2.2.1); have HS5_ := (hb.cell (World.block_lt_of_cell? _ _ (hHeld.2.2.2.2.2.1))).trans (hHeld.2.2.2.2.2.1); have HS6_ := (hb.cell (World.block_lt_of_cell? _ _ (hHeld.2.2.2.2.2.2.1))).trans (hHeld.2.2.2.2.2.2.1); have HS7_ := (hb.cell (World.block_lt_of_cell? _ _ (hHeld.2.2.2.2.2.2.2.1))).trans (hHeld.2.2.2.2.2.2.2.1); have HS8_ := (hb.cell (World.block_lt_of_cell? _ _ (hHeld.2.2.2.2.2.2.2.2.1))).trans (hHeld.2.2.2.2.2.2.2.2.1); have HS9_ := (hb.cell (World.block_lt_of_cell? _ _ (hHeld.2.2.2.2.2.2.2.2.2.1))).trans (hHeld.2.2.2.2.2.2.2.2.2.1); have HS10_ := (hb.cell (World.block_lt_of_cell? _ _ (hHeld.2.2.2.2.2.2.2.2.2.2.1))).trans (hHeld.2.2.2.2.2.2.2.2.2.2.1); have HS11_ := (hb.cell (World.block_lt_of_cell? _ _ (hHeld.2.2.2.2.2.2.2.2.2.2.2.1))).trans (hHeld.2.2.2.2.2.2.2.2.2.2.2.1); have HS12_ := (hb.cell (World.block_lt_of_cell? _ _ (hHeld.2.2.2.2.2.2.2.2.2.2.2.2.1))).trans (hHeld.2.2.2.2.2.2.2.2.2.2.2.2.1); have HS13_ := (hb.cell (World.block_lt_of_cell? _ _ (hHeld.2.2.2.2.2.2.2.2.2.2.2.2.2.1))).trans (hHeld.2.2.2.2.2.2.2.2.2.2.2.2.2.1); have HS14_ := (hb.cell (World.block_lt_of_cell? _ _ (hHeld.2.2.2.2.2.2.2.2.2.2.2.2.2.2.1))).trans (hHeld.2.2.2.2.2.2.2.2.2.2.2.2.2.2.1); have HS15_ := (hb.cell (World.block_lt_of_cell? _ _ (hHeld.2.2.2.2.2.2.2.2.2.2.2.2.2.2.2.1))).trans (hHeld.2.2.2.2.2.2.2.2.2.2.2.2.2.2.2.1); have HS16_ := (hb.cell (World.block_lt_of_cell? _ _ (hHeld.2.2.2.2.2.2.2.2.2.2.2.2.2.2.2.2.1))).trans (hHeld.2.2.2.2.2.2.2.2.2.2.2.2.2.2.2.2.1); have HS17_ := (hb.cell (World.block_lt_of_cell? _ _ (hHeld.2.2.2.2.2.2.2.2.2.2.2.2.2.2.2.2.2.1))).trans (hHeld.2.2.2.2.2.2.2.2.2.2.2.2.2.2.2.2.2.1); have HS18_ := (hb.cell (World.block_lt_of_cell? _ _ (hHeld.2.2.2.2.2.2.2.2.2.2.2.2.2.2.2.2.2.2.1))).trans (hHeld.2.2.2.2.2.2.2.2.2.2.2.2.2.2.2.2.2.2.1); have HS19_ := (hb.cell (World.block_lt_of_cell? _ _ (hHeld.2.2.2.2.2.2.2.2.2.2.2.2.2.2.2.2.2.2.2))).trans (hHeld.2.2.2.2.2.2.2.2.2.2.2.2.2.2.2.2.2.2.2); refine ⟨_, rfl, ?_⟩; replace HO_9 := aM (Kd.R_below (qR HO_9) hb); replace HO_12 := aM (Kd.R_below (qR HO_12) hb); replace HO_15 := aM (Kd.R_below (qR HO_15) hb); replace BK453 := aM (blk_below (qK BK453) hb); replace HB := aM (below_step (tB1 GE453) hb); (try clear hb); (try clear hb2); (try clear hk); (try clear hi); refine hK.out _ _ ⟨HS0_, HS1_, HS2_, HS3_, HS4_, HS5_, HS6_, HS7_, HS8_, HS9_, HS10_, HS11_, HS12_, HS13_, HS14_, HS15_, HS16_, HS17_, HS18_, HS19_⟩ (fun hHeld => ?_); clear hK K; refine norm_ (a' := ?_) ?_ ?_; rotate_left
                  ·show Act.put _ (some 172) _ = _; simp only [Act.put, sA, sZ, sS, i64_w]; rfl
                  refine pp 25 173 (bR [26,4]) ?_; refine pp 26 174 (bR [27,3]) ?_; refine tk 27 175 (bR [28,2]) hHeld ?_; refine pp 28 176 (bR [29,1]) ?_; refine pp 29 177 (bR [30]) ?_; refine done_ (done_of HT_.out (by kernel_rfl)) ?_; try go_wp2
                  go_ret; exact ⟨tE, tB1 GE453⟩
                 ·rw [if_neg c113] at H; have c113b0 : decide (((rd_T84 t482 x18_3).f3) < ((rd_T84 t482 t491).f3)) = false := decide_eq_false c113; clear c113; have H' := Aside0.mk H; clear H; try go_wp2
                  replace HO_9 := dR HO_9; replace HO_12 := dR HO_12; replace HO_15 := dR HO_15; replace BK453 := dK BK453; replace HB := dB HB; have p488 : 0 ≤ (x18_3 : Int) := of_decide_eq_true ‹_›; have q488 : x18_3 < (t482.length : Int) := of_decide_eq_true ‹_›; obtain ⟨ad488, e488, hx488_0, hx488_1, hx488_2, hx488_3, hx488_4⟩ := at_T84 (Kd.R_reads' HO_15.out).2.2 x18_3 p488 q488; cases e488
                  replace p488 := eq_true p488; replace q488 := eq_true q488; have p489 : 0 ≤ (x18_3 : Int) := of_decide_eq_true ‹_›; have q489 : x18_3 < (t482.length : Int) := of_decide_eq_true ‹_›; obtain ⟨ad489, e489, hx489_0, hx489_1, hx489_2, hx489_3, hx489_4⟩ := at_T84 (Kd.R_reads' HO_15.out).2.2 x18_3 p489 q489; obtain rfl : ad488 = ad489 := (by injection e489)
                  replace p489 := eq_true p489; replace q489 := eq_true q489; have p490 : 0 ≤ (x18_3 : Int) := of_decide_eq_true ‹_›; have q490 : x18_3 < (t482.length : Int) := of_decide_eq_true ‹_›; obtain ⟨ad490, e490, hx490_0, hx490_1, hx490_2, hx490_3, hx490_4⟩ := at_T84 (Kd.R_reads' HO_15.out).2.2 x18_3 p490 q490; obtain rfl : ad488 = ad490 := (by injection e490)
                  replace p490 := eq_true p490; replace q490 := eq_true q490; have p492 : 0 ≤ (t491 : Int) := of_decide_eq_true ‹_›; have q492 : t491 < (t482.length : Int) := of_decide_eq_true ‹_›; obtain ⟨ad492, e492, hx492_0, hx492_1, hx492_2, hx492_3, hx492_4⟩ := at_T84 (Kd.R_reads' HO_15.out).2.2 t491 p492 q492; obtain rfl : ad488 = ad492 := (by injection e492)
                  replace p492 := eq_true p492; replace q492 := eq_true q492; refine start_ (n := 30) (S := fun w' => w'.cell? (ad488.add ((x18_3).toNat * 5)) = some (.int .i64 ((rd_T84 t482 x18_3).f0)) ∧ w'.cell? ⟨(ad488.add ((x18_3).toNat * 5)).block, (ad488.add ((x18_3).toNat * 5)).off + 1, none⟩ = some (.int .i64 ((rd_T84 t482 x18_3).f1)) ∧ w'.cell? ⟨(ad488.add ((x18_3).toNat * 5)).block, (ad488.add ((x18_3).toNat * 5)).off + 2, none⟩ = some (.int .i64 ((rd_T84 t482 x18_3).f2)) ∧ w'.cell? ⟨(ad488.add ((x18_3).toNat * 5)).block, (ad488.add ((x18_3).toNat * 5)).off + 3, none⟩ = some (.int .i64 ((rd_T84 t482 x18_3).f3)) ∧ w'.cell? ⟨(ad488.add ((x18_3).toNat * 5)).block, (ad488.add ((x18_3).toNat * 5)).off + 4, none⟩ = some (.int .i64 ((rd_T84 t482 x18_3).f4)) ∧ w'.cell? (ad488.add ((x18_3).toNat * 5)) = some (.int .i64 ((rd_T84 t482 x18_3).f0)) ∧ w'.cell? ⟨(ad488.add ((x18_3).toNat * 5)).block, (ad488.add ((x18_3).toNat * 5)).off + 1, none⟩ = some (.int .i64 ((rd_T84 t482 x18_3).f1)) ∧ w'.cell? ⟨(ad488.add ((x18_3).toNat * 5)).block, (ad488.add ((x18_3).toNat * 5)).off + 2, none⟩ = some (.int .i64 ((rd_T84 t482 x18_3).f2)) ∧ w'.cell? ⟨(ad488.add ((x18_3).toNat * 5)).block, (ad488.add ((x18_3).toNat * 5)).off + 3, none⟩ = some (.int .i64 ((rd_T84 t482 x18_3).f3)) ∧ w'.cell? ⟨(ad488.add ((x18_3).toNat * 5)).block, (ad488.add ((x18_3).toNat * 5)).off + 4, none⟩ = some (.int .i64 ((rd_T84 t482 x18_3).f4)) ∧ w'.cell? (ad488.add ((x18_3).toNat * 5)) = some (.int .i64 ((rd_T84 t482 x18_3).f0)) ∧ w'.cell? ⟨(ad488.add ((x18_3).toNat * 5)).block, (ad488.add ((x18_3).toNat * 5)).off + 1, none⟩ = some (.int .i64 ((rd_T84 t482 x18_3).f1)) ∧ w'.cell? ⟨(ad488.add ((x18_3).toNat * 5)).block, (ad488.add ((x18_3).toNat * 5)).off + 2, none⟩ = some (.int .i64 ((rd_T84 t482 x18_3).f2)) ∧ w'.cell? ⟨(ad488.add ((x18_3).toNat * 5)).block, (ad488.add ((x18_3).toNat * 5)).off + 3, none⟩ = some (.int .i64 ((rd_T84 t482 x18_3).f3)) ∧ w'.cell? ⟨(ad488.add ((x18_3).toNat * 5)).block, (ad488.add ((x18_3).toNat * 5)).off + 4, none⟩ = some (.int .i64 ((rd_T84 t482 x18_3).f4)) ∧ w'.cell? (ad488.add ((t491).toNat * 5)) = some (.int .i64 ((rd_T84 t482 t491).f0)) ∧ w'.cell? ⟨(ad488.add ((t491).toNat * 5)).block, (ad488.add ((t491).toNat * 5)).off + 1, none⟩ = some (.int .i64 ((rd_T84 t482 t491).f1)) ∧ w'.cell? ⟨(ad488.add ((t491).toNat * 5)).block, (ad488.add ((t491).toNat * 5)).off + 2, none⟩ = some (.int .i64 ((rd_T84 t482 t491).f2)) ∧ w'.cell? ⟨(ad488.add ((t491).toNat * 5)).block, (ad488.add ((t491).toNat * 5)).off + 3, none⟩ = some (.int .i64 ((rd_T84 t482 t491).f3)) ∧ w'.cell? ⟨(ad488.add ((t491).toNat * 5)).block, (ad488.add ((t491).toNat * 5)).off + 4, none⟩ = some (.int .i64 ((rd_T84 t482 t491).f4))) (ds := []) (bR [0,30]) (by kernel_rfl) rfl rfl ⟨hx488_0, hx488_1, hx488_2, hx488_3, hx488_4, hx489_0, hx489_1, hx489_2, hx489_3, hx489_4, hx490_0, hx490_1, hx490_2, hx490_3, hx490_4, hx492_0, hx492_1, hx492_2, hx492_3, hx492_4⟩ (fun hHeld => ?_); refine with_tabW laws_FnClaims.tab22 laws_FnClaims.bits22 (fun HT_ HW_ => ?_); generalize wc.drew = w116 at HO_9 HO_12 HO_15 BK453 HB hx488_0 hx488_1 hx488_2 hx488_3 hx488_4 hx489_0 hx489_1 hx489_2 hx489_3 hx489_4 hx490_0 hx490_1 hx490_2 hx490_3 hx490_4 hx492_0 hx492_1 hx492_2 hx492_3 hx492_4 hHeld ⊢; refine pp 0 148 (bR [1,29]) ?_; refine pp 1 149 (bR [2,28]) ?_; refine pp 2 150 (bR [3,27]) ?_; refine pp 3 151 (bR [4,26]) ?_; refine pp 5 153 (bR [4,1,1,24]) ?_; refine tk 4 152 (bR [6,24]) hHeld ?_; refine pp 6 154 (bR [7,23]) ?_; refine pp 7 155 (bR [8,22]) ?_; refine pp 8 156 (bR [9,21]) ?_; refine pp 9 157 (bR [10,20]) ?_; refine pp 10 158 (bR [11,19]) ?_; refine pp 11 159 (bR [12,18]) ?_; refine tk 12 160 (bR [13,17]) hHeld ?_; refine pp 13 161 (bR [14,16]) ?_; refine pp 14 162 (bR [15,15]) ?_; refine pp 15 163 (bR [16,14]) ?_; refine pp 16 164 (bR [17,13]) ?_; refine pp 17 165 (bR [18,12]) ?_; refine pp 18 166 (bR [19,11]) ?_; refine pp 19 167 (bR [20,10]) ?_; refine pp 21 169 (bR [20,1,1,8]) ?_; refine pp 22 170 (bR [20,1,2,7]) ?_; refine pp 23 171 (bR [20,1,3,6]) ?_; refine tk 20 168 (bR [24,6]) hHeld ?_; refine on 24 172 (bR [25,5]) (fun K hK => ?_); refine goes_ Try.func80 (by kernel_rfl) rfl #[.slice (some ad488) t482.length co98, .int .i64 t486] (by rfl) rfl rfl tM ?_; (with_reducible refine (impl_FindClaim.calls _ _ t482 t486 t491 _ ?side1 ?side2 A110.out).mono ?_); (case side1 => exact tC HO_15); (case side2 => exact (Kd.R_reads' HO_15.out).2.1); rintro e w117 ⟨rfl, hb⟩; have HS0_ := (hb.cell (World.block_lt_of_cell? _ _ (hHeld.1))).trans (hHeld.1); have HS1_ := (hb.cell (World.block_lt_of_cell? _ _ (hHeld.2.1))).trans (hHeld.2.1); have HS2_ := (hb.cell (World.block_lt_of_cell? _ _ (hHeld.2.2.1))).trans (hHeld.2.2.1); have HS3_ := (hb.cell (World.block_lt_of_cell? _ _ (hHeld.2.2.2.1))).trans (hHeld.2.2.2.1); have HS4_ := (hb.cell (World.block_lt_of_cell? _ _ (hHeld.2.2.2.2.1))).trans (hHeld.2.2.2.2.1); have HS5_ := (hb.cell (World.block_lt_of_cell? _ _ (hHeld.2.2.2.2.2.1))).trans (hHeld.2.2.2.2.2.1); have HS6_ := (hb.cell (World.block_lt_of_cell? _ _ (hHeld.2.2.2.2.2.2.1))).trans (hHeld.2.2.2.2.2.2.1); have HS7_ := (hb.cell (World.block_lt_of_cell? _ _ (hHeld.2.2.2.2.2.2.2.1))).trans (hHeld.2.2.2.2.2.2.2.1); have HS8_ := (hb.cell (World.block_lt_of_cell? _ _ (hHeld.2.2.2.2.2.2.2.2.1))).trans (hHeld.2.2.2.2.2.2.2.2.1); have HS9_ := (hb.cell (World.block_lt_of_cell? _ _ (hHeld.2.2.2.2.2.2.2.2.2.1))).trans (hHeld.2.2.2.2.2.2.2.2.2.1); have HS10_ := (hb.cell (World.block_lt_of_cell? _ _ (hHeld.2.2.2.2.2.2.2.2.2.2.1))).trans (hHeld.2.2.2.2.2.2.2.2.2.2.1); have HS11_ := (hb.cell (World.block_lt_of_cell? _ _ (hHeld.2.2.2.2.2.2.2.2.2.2.2.1))).trans (hHeld.2.2.2.2.2.2.2.2.2.2.2.1); have HS12_ := (hb.cell (World.block_lt_of_cell? _ _ (hHeld.2.2.2.2.2.2.2.2.2.2.2.2.1))).trans (hHeld.2.2.2.2.2.2.2.2.2.2.2.2.1); have HS13_ := (hb.cell (World.block_lt_of_cell? _ _ (hHeld.2.2.2.2.2.2.2.2.2.2.2.2.2.1))).trans (hHeld.2.2.2.2.2.2.2.2.2.2.2.2.2.1); have HS14_ := (hb.cell (World.block_lt_of_cell? _ _ (hHeld.2.2.2.2.2.2.2.2.2.2.2.2.2.2.1))).trans (hHeld.2.2.2.2.2.2.2.2.2.2.2.2.2.2.1); have HS15_ := (hb.cell (World.block_lt_of_cell? _ _ (hHeld.2.2.2.2.2.2.2.2.2.2.2.2.2.2.2.1))).trans (hHeld.2.2.2.2.2.2.2.2.2.2.2.2.2.2.2.1); have HS16_ := (hb.cell (World.block_lt_of_cell? _ _ (hHeld.2.2.2.2.2.2.2.2.2.2.2.2.2.2.2.2.1))).trans (hHeld.2.2.2.2.2.2.2.2.2.2.2.2.2.2.2.2.1); have HS17_ := (hb.cell (World.block_lt_of_cell? _ _ (hHeld.2.2.2.2.2.2.2.2.2.2.2.2.2.2.2.2.2.1))).trans (hHeld.2.2.2.2.2.2.2.2.2.2.2.2.2.2.2.2.2.1); have HS18_ := (hb.cell (World.block_lt_of_cell? _ _ (hHeld.2.2.2.2.2.2.2.2.2.2.2.2.2.2.2.2.2.2.1))).trans (hHeld.2.2.2.2.2.2.2.2.2.2.2.2.2.2.2.2.2.2.1); have HS19_ := (hb.cell (World.block_lt_of_cell? _ _ (hHeld.2.2.2.2.2.2.2.2.2.2.2.2.2.2.2.2.2.2.2))).trans (hHeld.2.2.2.2.2.2.2.2.2.2.2.2.2.2.2.2.2.2.2); refine ⟨_, rfl, ?_⟩; replace HO_9 := aM (Kd.R_below (qR HO_9) hb); replace HO_12 := aM (Kd.R_below (qR HO_12) hb); replace HO_15 := aM (Kd.R_below (qR HO_15) hb); replace BK453 := aM (blk_below (qK BK453) hb); replace HB := aM (below_step (tB1 GE453) hb); (try clear hb); (try clear hb2); (try clear hk); (try clear hi); refine hK.out _ _ ⟨HS0_, HS1_, HS2_, HS3_, HS4_, HS5_, HS6_, HS7_, HS8_, HS9_, HS10_, HS11_, HS12_, HS13_, HS14_, HS15_, HS16_, HS17_, HS18_, HS19_⟩ (fun hHeld => ?_); clear hK K; refine norm_ (a' := ?_) ?_ ?_; rotate_left
                  ·show Act.put _ (some 172) _ = _; simp only [Act.put, sA, sZ, sS, i64_w]; rfl
                  refine pp 25 173 (bR [26,4]) ?_; refine pp 26 174 (bR [27,3]) ?_; refine tk 27 175 (bR [28,2]) hHeld ?_; refine pp 28 176 (bR [29,1]) ?_; refine pp 29 177 (bR [30]) ?_; refine done_ (done_of HT_.out (by kernel_rfl)) ?_; try go_wp2
                  go_roundg kj99
                  case measure => have := HJ5.out; have := HJ65.out; have := HK3.out; have := HJ99.out; omega
                  case rel => exact ⟨(wrap64 (x18_3 + 1)), tS, H', ⟨by have := HJ5.out; have := HJ65.out; have := HK3.out; have := HJ99.out; omega⟩, ⟨tR HO_9⟩, ⟨tR HO_12⟩, ⟨tR HO_15⟩, ⟨tK BK453⟩, ⟨tB1 GE453⟩⟩
                ·rw [if_neg c112] at H; exact absurd H (by simp)
               ·rw [if_neg c111] at H; exact absurd H (by simp)
              ·rw [if_neg c109] at H; have c109b0 : (((rd_T84 t482 x18_3).f4) == 1) = false := beq_eq_false_iff_ne.mpr c109; have c109b1 : (((rd_T84 t482 x18_3).f4) != 1) = true := bne_iff_ne.mpr c109; have H' := Aside0.mk H; clear H; try go_wp2
               replace HO_9 := dR HO_9; replace HO_12 := dR HO_12; replace HO_15 := dR HO_15; replace BK453 := dK BK453; replace HB := dB HB; have p488 : 0 ≤ (x18_3 : Int) := of_decide_eq_true ‹_›; have q488 : x18_3 < (t482.length : Int) := of_decide_eq_true ‹_›; obtain ⟨ad488, e488, hx488_0, hx488_1, hx488_2, hx488_3, hx488_4⟩ := at_T84 (Kd.R_reads' HO_15.out).2.2 x18_3 p488 q488; cases e488
               replace p488 := eq_true p488; replace q488 := eq_true q488; have p489 : 0 ≤ (x18_3 : Int) := of_decide_eq_true ‹_›; have q489 : x18_3 < (t482.length : Int) := of_decide_eq_true ‹_›; obtain ⟨ad489, e489, hx489_0, hx489_1, hx489_2, hx489_3, hx489_4⟩ := at_T84 (Kd.R_reads' HO_15.out).2.2 x18_3 p489 q489; obtain rfl : ad488 = ad489 := (by injection e489)
               replace p489 := eq_true p489; replace q489 := eq_true q489; refine start_ (n := 30) (S := fun w' => w'.cell? (ad488.add ((x18_3).toNat * 5)) = some (.int .i64 ((rd_T84 t482 x18_3).f0)) ∧ w'.cell? ⟨(ad488.add ((x18_3).toNat * 5)).block, (ad488.add ((x18_3).toNat * 5)).off + 1, none⟩ = some (.int .i64 ((rd_T84 t482 x18_3).f1)) ∧ w'.cell? ⟨(ad488.add ((x18_3).toNat * 5)).block, (ad488.add ((x18_3).toNat * 5)).off + 2, none⟩ = some (.int .i64 ((rd_T84 t482 x18_3).f2)) ∧ w'.cell? ⟨(ad488.add ((x18_3).toNat * 5)).block, (ad488.add ((x18_3).toNat * 5)).off + 3, none⟩ = some (.int .i64 ((rd_T84 t482 x18_3).f3)) ∧ w'.cell? ⟨(ad488.add ((x18_3).toNat * 5)).block, (ad488.add ((x18_3).toNat * 5)).off + 4, none⟩ = some (.int .i64 ((rd_T84 t482 x18_3).f4)) ∧ w'.cell? (ad488.add ((x18_3).toNat * 5)) = some (.int .i64 ((rd_T84 t482 x18_3).f0)) ∧ w'.cell? ⟨(ad488.add ((x18_3).toNat * 5)).block, (ad488.add ((x18_3).toNat * 5)).off + 1, none⟩ = some (.int .i64 ((rd_T84 t482 x18_3).f1)) ∧ w'.cell? ⟨(ad488.add ((x18_3).toNat * 5)).block, (ad488.add ((x18_3).toNat * 5)).off + 2, none⟩ = some (.int .i64 ((rd_T84 t482 x18_3).f2)) ∧ w'.cell? ⟨(ad488.add ((x18_3).toNat * 5)).block, (ad488.add ((x18_3).toNat * 5)).off + 3, none⟩ = some (.int .i64 ((rd_T84 t482 x18_3).f3)) ∧ w'.cell? ⟨(ad488.add ((x18_3).toNat * 5)).block, (ad488.add ((x18_3).toNat * 5)).off + 4, none⟩ = some (.int .i64 ((rd_T84 t482 x18_3).f4))) (ds := []) (bR [0,30]) (by kernel_rfl) rfl rfl ⟨hx488_0, hx488_1, hx488_2, hx488_3, hx488_4, hx489_0, hx489_1, hx489_2, hx489_3, hx489_4⟩ (fun hHeld => ?_); refine with_tabW laws_FnClaims.tab22 laws_FnClaims.bits22 (fun HT_ HW_ => ?_); generalize wc.drew = w118 at HO_9 HO_12 HO_15 BK453 HB hx488_0 hx488_1 hx488_2 hx488_3 hx488_4 hx489_0 hx489_1 hx489_2 hx489_3 hx489_4 hHeld ⊢; refine pp 0 148 (bR [1,29]) ?_; refine pp 1 149 (bR [2,28]) ?_; refine pp 2 150 (bR [3,27]) ?_; refine pp 3 151 (bR [4,26]) ?_; refine pp 5 153 (bR [4,1,1,24]) ?_; refine tk 4 152 (bR [6,24]) hHeld ?_; refine pp 6 154 (bR [7,23]) ?_; refine pp 7 155 (bR [8,22]) ?_; refine pp 8 156 (bR [9,21]) ?_; refine pp 9 157 (bR [10,20]) ?_; refine pp 10 158 (bR [11,19]) ?_; refine pp 11 159 (bR [12,18]) ?_; refine tk 12 160 (bR [13,17]) hHeld ?_; refine pp 13 161 (bR [14,16]) ?_; refine pp 14 162 (bR [15,15]) ?_; refine pp 15 163 (bR [16,14]) ?_; refine pu 16 164 (bR [17,13]) ?_; refine pu 17 165 (bR [18,12]) ?_; refine pu 18 166 (bR [19,11]) ?_; refine pu 19 167 (bR [20,10]) ?_; refine pu 20 168 (bR [21,9]) ?_; refine pu 21 169 (bR [22,8]) ?_; refine pu 22 170 (bR [23,7]) ?_; refine pu 23 171 (bR [24,6]) ?_; refine pu 24 172 (bR [25,5]) ?_; refine pu 25 173 (bR [26,4]) ?_; refine pu 26 174 (bR [27,3]) ?_; refine pu 27 175 (bR [28,2]) ?_; refine pu 28 176 (bR [29,1]) ?_; refine pp 29 177 (bR [30]) ?_; refine done_ (done_of HT_.out (by kernel_rfl)) ?_; try go_wp2
               go_roundg kj99
               case measure => have := HJ5.out; have := HJ65.out; have := HK3.out; have := HJ99.out; omega
               case rel => exact ⟨(wrap64 (x18_3 + 1)), tS, H', ⟨by have := HJ5.out; have := HJ65.out; have := HK3.out; have := HJ99.out; omega⟩, ⟨tR HO_9⟩, ⟨tR HO_12⟩, ⟨tR HO_15⟩, ⟨tK BK453⟩, ⟨tB1 GE453⟩⟩
             ·rw [if_neg c108] at H; have c108b0 : (((rd_T84 t482 x18_3).f2) == t483) = false := beq_eq_false_iff_ne.mpr c108; have c108b1 : (((rd_T84 t482 x18_3).f2) != t483) = true := bne_iff_ne.mpr c108; have H' := Aside0.mk H; clear H; try go_wp2
              replace HO_9 := dR HO_9; replace HO_12 := dR HO_12; replace HO_15 := dR HO_15; replace BK453 := dK BK453; replace HB := dB HB; have p488 : 0 ≤ (x18_3 : Int) := of_decide_eq_true ‹_›; have q488 : x18_3 < (t482.length : Int) := of_decide_eq_true ‹_›; obtain ⟨ad488, e488, hx488_0, hx488_1, hx488_2, hx488_3, hx488_4⟩ := at_T84 (Kd.R_reads' HO_15.out).2.2 x18_3 p488 q488; cases e488
              replace p488 := eq_true p488; replace q488 := eq_true q488; refine start_ (n := 30) (S := fun w' => w'.cell? (ad488.add ((x18_3).toNat * 5)) = some (.int .i64 ((rd_T84 t482 x18_3).f0)) ∧ w'.cell? ⟨(ad488.add ((x18_3).toNat * 5)).block, (ad488.add ((x18_3).toNat * 5)).off + 1, none⟩ = some (.int .i64 ((rd_T84 t482 x18_3).f1)) ∧ w'.cell? ⟨(ad488.add ((x18_3).toNat * 5)).block, (ad488.add ((x18_3).toNat * 5)).off + 2, none⟩ = some (.int .i64 ((rd_T84 t482 x18_3).f2)) ∧ w'.cell? ⟨(ad488.add ((x18_3).toNat * 5)).block, (ad488.add ((x18_3).toNat * 5)).off + 3, none⟩ = some (.int .i64 ((rd_T84 t482 x18_3).f3)) ∧ w'.cell? ⟨(ad488.add ((x18_3).toNat * 5)).block, (ad488.add ((x18_3).toNat * 5)).off + 4, none⟩ = some (.int .i64 ((rd_T84 t482 x18_3).f4))) (ds := []) (bR [0,30]) (by kernel_rfl) rfl rfl ⟨hx488_0, hx488_1, hx488_2, hx488_3, hx488_4⟩ (fun hHeld => ?_); refine with_tabW laws_FnClaims.tab22 laws_FnClaims.bits22 (fun HT_ HW_ => ?_); generalize wc.drew = w119 at HO_9 HO_12 HO_15 BK453 HB hx488_0 hx488_1 hx488_2 hx488_3 hx488_4 hHeld ⊢; refine pp 0 148 (bR [1,29]) ?_; refine pp 1 149 (bR [2,28]) ?_; refine pp 2 150 (bR [3,27]) ?_; refine pp 3 151 (bR [4,26]) ?_; refine pp 5 153 (bR [4,1,1,24]) ?_; refine tk 4 152 (bR [6,24]) hHeld ?_; refine pp 6 154 (bR [7,23]) ?_; refine pp 7 155 (bR [8,22]) ?_; refine pu 8 156 (bR [9,21]) ?_; refine pu 9 157 (bR [10,20]) ?_; refine pu 10 158 (bR [11,19]) ?_; refine pu 11 159 (bR [12,18]) ?_; refine pu 12 160 (bR [13,17]) ?_; refine pu 13 161 (bR [14,16]) ?_; refine pp 14 162 (bR [15,15]) ?_; refine pp 15 163 (bR [16,14]) ?_; refine pu 16 164 (bR [17,13]) ?_; refine pu 17 165 (bR [18,12]) ?_; refine pu 18 166 (bR [19,11]) ?_; refine pu 19 167 (bR [20,10]) ?_; refine pu 20 168 (bR [21,9]) ?_; refine pu 21 169 (bR [22,8]) ?_; refine pu 22 170 (bR [23,7]) ?_; refine pu 23 171 (bR [24,6]) ?_; refine pu 24 172 (bR [25,5]) ?_; refine pu 25 173 (bR [26,4]) ?_; refine pu 26 174 (bR [27,3]) ?_; refine pu 27 175 (bR [28,2]) ?_; refine pu 28 176 (bR [29,1]) ?_; refine pp 29 177 (bR [30]) ?_; refine done_ (done_of HT_.out (by kernel_rfl)) ?_; try go_wp2
              go_roundg kj99
              case measure => have := HJ5.out; have := HJ65.out; have := HK3.out; have := HJ99.out; omega
              case rel => exact ⟨(wrap64 (x18_3 + 1)), tS, H', ⟨by have := HJ5.out; have := HJ65.out; have := HK3.out; have := HJ99.out; omega⟩, ⟨tR HO_9⟩, ⟨tR HO_12⟩, ⟨tR HO_15⟩, ⟨tK BK453⟩, ⟨tB1 GE453⟩⟩
            ·rw [if_neg c107] at H; exact absurd H (by simp)
           ·rw [if_neg c106] at H; exact absurd H (by simp)
          ·replace c105 := Bool.eq_false_iff.mpr c105; subst c105; rw [if_neg ff_] at H; obtain rfl := Option.some.inj H; obtain ⟨Ao120, co120, eo120⟩ := Kd.R_slice HO_12.out; subst eo120; go_wp2; go_ret; exact ⟨tE, tB1 GE453⟩

/-- THE ONE PURE STATEMENT of laws_FnClaims: yours. -/
def laws_FnClaims.Pure : Prop := ∀ (l0 : List Int), l0.length ≤ maxLen → l0.length * 1 ≤ 140737488351232 → (∀ x ∈ l0, (Lit.int .u8 x).wf = true) → ∃ k, laws_FnClaims.f k l0 = some true
theorem laws_FnClaims.walk (P : laws_FnClaims.Pure) (a0 : Option Addr) (len0 cap0 : Nat) (z0 : List Int) (w : World) (w0 : (a0 = none ∧ len0 = 0 ∧ cap0 = 0 ∧ z0 = []) ∨ ∃ x, a0 = some x ∧ len0 ≤ cap0 ∧ cap0 ≤ maxLen ∧ z0.length = cap0 ∧ (∀ i, i < z0.length → w.cell? (x.add i) = some (.int .u8 (z0.getD i 0))) ∧ ∀ n ∈ z0, (Lit.int .u8 n).wf = true) (y0 : len0 * 1 ≤ 140737488351232) :
  Calls Try.prog 11 #[.slice a0 len0 cap0] w fun e w' => e = .returned (.bool true) ∧ Below w.heap.size w w' := by
 obtain ⟨l0, rfl, hr0, hm0, hw0, hc0⟩ := ReadsInt.ofRowC w0; obtain ⟨k, h⟩ := P l0 hm0 y0 hw0; refine (laws_FnClaims.calls k _ _ l0 true w (Kd.C_of_reads (d := (0 : Int)) (h1 := fun _ => rfl) hr0) hc0 h).mono ?_; rintro e w' ⟨rfl, hd⟩; exact ⟨rfl, hd⟩

end Go.Proofs.Ytppgealmedaihaa.PFnClaims
