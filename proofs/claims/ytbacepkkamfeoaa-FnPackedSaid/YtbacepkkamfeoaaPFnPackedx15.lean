-- The printed functions of one law and their contracts, over contracts of this session's own (hand.py).
import Derived.Test.YtbacepkkamfeoaaPFnPackedx0
import Derived.Test.YtbacepkkamfeoaaPFnPackedx1
import Derived.Test.YtbacepkkamfeoaaPFnPackedx2
import Derived.Test.YtbacepkkamfeoaaPFnPackedx4
import Derived.Test.YtbacepkkamfeoaaPFnPackedx6
import Derived.Test.YtbacepkkamfeoaaPFnPackedx10
import Derived.Test.YtbacepkkamfeoaaPFnPackedx14
namespace Go.Proofs.Ytbacepkkamfeoaa.PFnPacked
open Go.RowKit Go.Proofs.YtbacepkkamfeoaaW.PrintWords Go.Proofs.YtbacepkkamfeoaaW.PrintLast Go.Proofs.YtbacepkkamfeoaaW.PrintMore Go.Proofs.Ytbacepkkamfeoaa.Short
attribute [local go_sem] max2_int min2_int max_two min_two max_three min_three max_four min_four   -- for this text's walks alone
set_option linter.unusedVariables false
set_option linter.unusedSimpArgs false

/-! ### laws_FnPacked: function 4 -/
mutual
def laws_FnPacked.j0 : Nat → List Int → List (S51) → List (S47) → List (S51) → List Int → Bool → Option (Bool)
 | 0, _, _, _, _, _, _ => none
 | k + 1, x0, x3, x4, x5, x6, x34 => if x34 = true then (some false) else ((impl_AreSlots.f k x3).bind fun t545 => (if t545 = true then ((impl_AreThings.f k x4).bind fun t546 => (laws_FnPacked.j1 k x0 x3 x4 x5 x6 t546)) else (laws_FnPacked.j1 k x0 x3 x4 x5 x6 false)))
def laws_FnPacked.j1 : Nat → List Int → List (S51) → List (S47) → List (S51) → List Int → Bool → Option (Bool)
 | 0, _, _, _, _, _, _ => none
 | k + 1, x0, x3, x4, x5, x6, x40 => if x40 = true then ((impl_AreSlots.f k x5).bind fun t547 => (if t547 = true then ((impl_FreeSlots.f k x3).bind fun t548 => ((impl_FreeSlots.f k x5).bind fun t549 => (laws_FnPacked.j2 k x0 x3 x4 x5 x6 ((wrap64 (t548 - t549)) != (wrap64 ((x4.length : Int) - (x6.length : Int))))))) else (laws_FnPacked.j2 k x0 x3 x4 x5 x6 true))) else (laws_FnPacked.j4 k x0 x3)
def laws_FnPacked.j4 : Nat → List Int → List (S51) → Option (Bool)
 | 0, _, _ => none
 | k + 1, x0, x3 => (spec_DrawTighten.f k x0).bind fun bt560 => ((impl_Tighten.f k bt560.1 bt560.2).bind fun t566 => (laws_FnPacked.l1 k x3 bt560.1 t566 0))
def laws_FnPacked.l1 : Nat → List (S51) → List (S51) → List (S51) → Int → Option (Bool)
 | 0, _, _, _, _ => none
 | k + 1, x3, x8, x10, x11 => if x11 < (x8.length : Int) then ((impl_AreSlots.f k x8).bind fun t569 => (laws_FnPacked.j6 k x3 x8 x10 x11 t569)) else (laws_FnPacked.j6 k x3 x8 x10 x11 false)
def laws_FnPacked.j6 : Nat → List (S51) → List (S51) → List (S51) → Int → Bool → Option (Bool)
 | 0, _, _, _, _, _ => none
 | k + 1, x3, x8, J, D, L => if L = true then (if 0 ≤ D then (if D < (x8.length : Int) then (if ((rd_T51 x8 D).f2) = 0 then (laws_FnPacked.l1 k x3 x8 J (wrap64 (D + 1))) else ((impl_SlotOf.f J ((rd_T51 x8 D).f2)).bind fun Y => (if Y = 0 then (some false) else (laws_FnPacked.l1 k x3 x8 J (wrap64 (D + 1)))))) else (none)) else (none)) else ((impl_FreeSlots.f k J).bind fun aa => ((impl_FreeSlots.f k x8).bind fun ab => (if aa = ab then ((impl_LargestFree.f k x3).bind fun ac => (some (decide (ac ≥ 0)))) else (some false))))
def laws_FnPacked.j2 : Nat → List Int → List (S51) → List (S47) → List (S51) → List Int → Bool → Option (Bool)
 | 0, _, _, _, _, _, _ => none
 | k + 1, x0, x3, x4, x5, x6, x56 => if x56 = true then (some false) else (laws_FnPacked.l0 k x0 x3 x4 x5 x6 0)
def laws_FnPacked.l0 : Nat → List Int → List (S51) → List (S47) → List (S51) → List Int → Int → Option (Bool)
 | 0, _, _, _, _, _, _ => none
 | k + 1, x0, x3, x4, x5, x6, x7 => if x7 < (x4.length : Int) then (if 0 ≤ x7 then ((laws_contains.f k x6 ((rd_T47 x4 x7).f0)).bind fun D => (if D = true then ((impl_CanHold.f k x3 x4).bind fun J => (if J = true then ((laws_contains.f k x6 ((rd_T47 x4 x7).f0)).bind fun L => (if L = true then (some false) else (laws_FnPacked.l0 k x0 x3 x4 x5 x6 (wrap64 (x7 + 1))))) else (laws_FnPacked.l0 k x0 x3 x4 x5 x6 (wrap64 (x7 + 1))))) else ((impl_SlotOf.f x5 ((rd_T47 x4 x7).f0)).bind fun Y => (if Y = 0 then (some false) else ((impl_CanHold.f k x3 x4).bind fun aa => (if aa = true then ((laws_contains.f k x6 ((rd_T47 x4 x7).f0)).bind fun ab => (if ab = true then (some false) else (laws_FnPacked.l0 k x0 x3 x4 x5 x6 (wrap64 (x7 + 1))))) else (laws_FnPacked.l0 k x0 x3 x4 x5 x6 (wrap64 (x7 + 1))))))))) else (none)) else (laws_FnPacked.j4 k x0 x3)
end
def laws_FnPacked.f (k : Nat) (l0 : List Int) : Option (Bool) := (laws_big.f l0).bind fun t531 => (if t531 = true then (some true) else ((spec_DrawPutAll.f k l0).bind fun bt532 => ((impl_PutAll.f k bt532.1 bt532.2).bind fun bt538 => ((laws_ascends.f k bt538.2).bind fun t544 => (if t544 = true then (laws_FnPacked.j0 k l0 bt532.1 bt532.2 bt538.1 bt538.2 ((bt538.1.length : Int) != (bt532.1.length : Int))) else (laws_FnPacked.j0 k l0 bt532.1 bt532.2 bt538.1 bt538.2 true))))))
theorem laws_FnPacked.mono_l : ∀ k, (∀ y0 y1 y2 y3 y4 y5, LeO (laws_FnPacked.j0 k y0 y1 y2 y3 y4 y5) (laws_FnPacked.j0 (k + 1) y0 y1 y2 y3 y4 y5)) ∧ (∀ y0 y1 y2 y3 y4 y5, LeO (laws_FnPacked.j1 k y0 y1 y2 y3 y4 y5) (laws_FnPacked.j1 (k + 1) y0 y1 y2 y3 y4 y5)) ∧ (∀ y0 y1, LeO (laws_FnPacked.j4 k y0 y1) (laws_FnPacked.j4 (k + 1) y0 y1)) ∧ (∀ y0 y1 y2 y3, LeO (laws_FnPacked.l1 k y0 y1 y2 y3) (laws_FnPacked.l1 (k + 1) y0 y1 y2 y3)) ∧ (∀ y0 y1 y2 y3 y4, LeO (laws_FnPacked.j6 k y0 y1 y2 y3 y4) (laws_FnPacked.j6 (k + 1) y0 y1 y2 y3 y4)) ∧ (∀ y0 y1 y2 y3 y4 y5, LeO (laws_FnPacked.j2 k y0 y1 y2 y3 y4 y5) (laws_FnPacked.j2 (k + 1) y0 y1 y2 y3 y4 y5)) ∧ (∀ y0 y1 y2 y3 y4 y5, LeO (laws_FnPacked.l0 k y0 y1 y2 y3 y4 y5) (laws_FnPacked.l0 (k + 1) y0 y1 y2 y3 y4 y5))
 | 0 => ⟨fun _ _ _ _ _ _ r h => by simp [laws_FnPacked.j0] at h, fun _ _ _ _ _ _ r h => by simp [laws_FnPacked.j1] at h, fun _ _ r h => by simp [laws_FnPacked.j4] at h, fun _ _ _ _ r h => by simp [laws_FnPacked.l1] at h, fun _ _ _ _ _ r h => by simp [laws_FnPacked.j6] at h, fun _ _ _ _ _ _ r h => by simp [laws_FnPacked.j2] at h, fun _ _ _ _ _ _ r h => by simp [laws_FnPacked.l0] at h⟩
 | k + 1 => by
  obtain ⟨ih0, ih1, ih2, ih3, ih4, ih5, ih6⟩ := laws_FnPacked.mono_l k; refine ⟨?_, ?_, ?_, ?_, ?_, ?_, ?_⟩; all_goals (intros; (first | unfold laws_FnPacked.j0 | unfold laws_FnPacked.j1 | unfold laws_FnPacked.j4 | unfold laws_FnPacked.l1 | unfold laws_FnPacked.j6 | unfold laws_FnPacked.j2 | unfold laws_FnPacked.l0); repeat' first | (with_reducible exact ih0 _ _ _ _ _ _) | (with_reducible exact ih1 _ _ _ _ _ _) | (with_reducible exact ih2 _ _) | (with_reducible exact ih3 _ _ _ _) | (with_reducible exact ih4 _ _ _ _ _) | (with_reducible exact ih5 _ _ _ _ _ _) | (with_reducible exact ih6 _ _ _ _ _ _) | (with_reducible exact impl_AreSlots.mono _ _) | (with_reducible exact impl_AreThings.mono _ _) | (with_reducible exact impl_CanHold.mono _ _ _) | (with_reducible exact impl_FreeSlots.mono _ _) | (with_reducible exact impl_LargestFree.mono _ _) | (with_reducible exact impl_PutAll.mono _ _ _) | (with_reducible exact impl_Tighten.mono _ _ _) | (with_reducible exact laws_ascends.mono _ _) | (with_reducible exact laws_contains.mono _ _ _) | (with_reducible exact spec_DrawPutAll.mono _ _) | (with_reducible exact spec_DrawTighten.mono _ _) | (with_reducible exact LeO.refl _) | (with_reducible exact LeO.none _) | (with_reducible refine LeO.ite ?_ ?_) | (with_reducible refine LeO.bind ?_ (fun _ => ?_)) | exact ih0 _ _ _ _ _ _ | exact ih1 _ _ _ _ _ _ | exact ih2 _ _ | exact ih3 _ _ _ _ | exact ih4 _ _ _ _ _ | exact ih5 _ _ _ _ _ _ | exact ih6 _ _ _ _ _ _ | exact impl_AreSlots.mono _ _ | exact impl_AreThings.mono _ _ | exact impl_CanHold.mono _ _ _ | exact impl_FreeSlots.mono _ _ | exact impl_LargestFree.mono _ _ | exact impl_PutAll.mono _ _ _ | exact impl_Tighten.mono _ _ _ | exact laws_ascends.mono _ _ | exact laws_contains.mono _ _ _ | exact spec_DrawPutAll.mono _ _ | exact spec_DrawTighten.mono _ _ | exact LeO.none _ | refine LeO.ite ?_ ?_ | refine LeO.bind ?_ (fun _ => ?_))
theorem laws_FnPacked.mono : ∀ a0 k, LeO (laws_FnPacked.f k a0) (laws_FnPacked.f (k + 1) a0) := by
 intro a0 k; obtain ⟨ih0, ih1, ih2, ih3, ih4, ih5, ih6⟩ := laws_FnPacked.mono_l k; unfold laws_FnPacked.f
 repeat' first
   | (with_reducible exact ih0 _ _ _ _ _ _)
   | (with_reducible exact ih1 _ _ _ _ _ _)
   | (with_reducible exact ih2 _ _)
   | (with_reducible exact ih3 _ _ _ _)
   | (with_reducible exact ih4 _ _ _ _ _)
   | (with_reducible exact ih5 _ _ _ _ _ _)
   | (with_reducible exact ih6 _ _ _ _ _ _)
   | (with_reducible exact impl_AreSlots.mono _ _)
   | (with_reducible exact impl_AreThings.mono _ _)
   | (with_reducible exact impl_CanHold.mono _ _ _)
   | (with_reducible exact impl_FreeSlots.mono _ _)
   | (with_reducible exact impl_LargestFree.mono _ _)
   | (with_reducible exact impl_PutAll.mono _ _ _)
   | (with_reducible exact impl_Tighten.mono _ _ _)
   | (with_reducible exact laws_ascends.mono _ _)
   | (with_reducible exact laws_contains.mono _ _ _)
   | (with_reducible exact spec_DrawPutAll.mono _ _)
   | (with_reducible exact spec_DrawTighten.mono _ _)
   | (with_reducible exact LeO.refl _)
   | (with_reducible exact LeO.none _)
   | (with_reducible refine LeO.ite ?_ ?_)
   | (with_reducible refine LeO.bind ?_ (fun _ => ?_))
   | exact ih0 _ _ _ _ _ _
   | exact ih1 _ _ _ _ _ _
   | exact ih2 _ _
   | exact ih3 _ _ _ _
   | exact ih4 _ _ _ _ _
   | exact ih5 _ _ _ _ _ _
   | exact ih6 _ _ _ _ _ _
   | exact impl_AreSlots.mono _ _
   | exact impl_AreThings.mono _ _
   | exact impl_CanHold.mono _ _ _
   | exact impl_FreeSlots.mono _ _
   | exact impl_LargestFree.mono _ _
   | exact impl_PutAll.mono _ _ _
   | exact impl_Tighten.mono _ _ _
   | exact laws_ascends.mono _ _
   | exact laws_contains.mono _ _ _
   | exact spec_DrawPutAll.mono _ _
   | exact spec_DrawTighten.mono _ _
   | exact LeO.none _
   | refine LeO.ite ?_ ?_
   | refine LeO.bind ?_ (fun _ => ?_)
set_option maxHeartbeats 8000000 in
set_option maxRecDepth 100000 in
theorem laws_FnPacked.calls (k : Nat) (A0 : Option Addr) (c0 : Nat) (l0 : List Int) (r : Bool) (w : World) (hr0 : Kd.C (Kd.int .u8) w A0 l0.length l0) (hc0 : l0.length ≤ c0) (h : laws_FnPacked.f k l0 = some r) :
  Calls Try.prog 4 #[.slice A0 l0.length c0] w fun e w' => e = .returned (.bool r) ∧ Below w.heap.size w w' := by
 have b0 := Aside0.mk hr0; have b1 := Aside0.mk hc0; clear hr0 hc0; have HB := aM (Below.refl w.heap.size w); have H : ((laws_big.f l0).bind fun cy => (if cy = true then (some true) else ((spec_DrawPutAll.f k l0).bind fun bb => ((impl_PutAll.f k bb.1 bb.2).bind fun bz => ((laws_ascends.f k bz.2).bind fun cz => (if cz = true then (laws_FnPacked.j0 k l0 bb.1 bb.2 bz.1 bz.2 ((bz.1.length : Int) != (bb.1.length : Int))) else (laws_FnPacked.j0 k l0 bb.1 bb.2 bz.1 bz.2 true))))))) = some r := h; clear h; replace H := Option.bind_eq_some_iff.mp H; obtain ⟨cy, b2, H⟩ := H; have A2 := Aside0.mk b2; clear b2; by_cases c3 : cy = true
 ·subst c3; rw [if_pos rfl] at H; obtain rfl := Option.some.inj H; go_enter Try.func4, Try.ntmps4; go_wp2_with (first | ((with_reducible refine gate_callee (f := 17) rfl ?_); refine gl 13 Try.func17 #[.slice A0 l0.length c0] ?_; (with_reducible refine (laws_big.calls _ _ l0 true _ ?side1 ?side2 A2.out).mono ?_); (case side1 => repeat (first | exact b0.out | (with_reducible refine Kd.C_alloc ?_ _) | (with_reducible refine Kd.C_drewN ?_ _) | (with_reducible refine Kd.C_drew ?_))); (case side2 => exact b1.out); rintro e w' ⟨rfl, ⟨nd, rfl⟩⟩; refine ⟨_, rfl, ?_⟩)); go_ret; exact ⟨tE, tB0⟩
 ·replace c3 := Bool.eq_false_iff.mpr c3; subst c3; rw [if_neg ff_] at H; replace H := Option.bind_eq_some_iff.mp H; obtain ⟨⟨ac, ab⟩, cT, H⟩ := H; have A4 := Aside0.mk cT; clear cT; replace H := Option.bind_eq_some_iff.mp H; obtain ⟨⟨al, ag⟩, cU, H⟩ := H; have A5 := Aside0.mk cU; clear cU; have cA := Aside0.mk H; clear H; go_enter Try.func4, Try.ntmps4; go_upto_region 5 with (first | ((with_reducible refine gate_callee (f := 17) rfl ?_); refine gl 13 Try.func17 #[.slice A0 l0.length c0] ?_; (with_reducible refine (laws_big.calls _ _ l0 false _ ?side1 ?side2 A2.out).mono ?_); (case side1 => repeat (first | exact b0.out | (with_reducible refine Kd.C_alloc ?_ _) | (with_reducible refine Kd.C_drewN ?_ _) | (with_reducible refine Kd.C_drew ?_))); (case side2 => exact b1.out); rintro e w' ⟨rfl, ⟨nd, rfl⟩⟩; refine ⟨_, rfl, ?_⟩) | ((with_reducible refine gate_callee (f := 18) rfl ?_); refine gl 16 Try.func18 #[.slice A0 l0.length c0] ?_; (with_reducible refine (spec_DrawPutAll.calls k _ _ l0 ac ab _ ?side1 ?side2 A4.out).mono ?_); (case side1 => repeat (first | exact b0.out | (with_reducible refine Kd.C_alloc ?_ _) | (with_reducible refine Kd.C_drewN ?_ _) | (with_reducible refine Kd.C_drew ?_))); (case side2 => exact b1.out); rintro e w7 ⟨fl, fm, rfl, av, a7, hb⟩; refine ⟨_, rfl, ?_⟩; have a8 := aM (Kd.R_lower av (below_size (qB HB))); have bc := aM (Kd.R_lower a7 (below_size (qB HB))); replace HB := aM (below_step (qB HB) hb); (try clear hb); (try clear hb2); (try clear hk); (try clear hi); (try clear av); (try clear a7); obtain ⟨am, ao, dM⟩ := Kd.R_slice a8.out; subst dM; obtain ⟨bP, bQ, dN⟩ := Kd.R_slice bc.out; subst dN) | ((with_reducible refine gate_callee (f := 19) rfl ?_); refine gl 22 Try.func19 #[.slice am ac.length ao, .slice bP ab.length bQ] ?_; (with_reducible refine (impl_PutAll.calls k _ _ ac _ _ ab al ag _ ?side1 ?side2 ?side3 ?side4 A5.out).mono ?_); (case side1 => exact tC a8); (case side2 => exact (Kd.R_reads' a8.out).2.1); (case side3 => exact tC bc); (case side4 => exact (Kd.R_reads' bc.out).2.1); rintro e fo ⟨a9, b3, rfl, av, a7, hb⟩; refine ⟨_, rfl, ?_⟩; replace bc := aM (Kd.R_below (qR bc) hb); have cD := aM (Kd.R_lower (Kd.R_new' av (Kd.R_lt (qR a8))) (below_size (qB HB))); replace a8 := aM (Kd.R_elder' (qR a8) (Kd.R_base av) hb); have a_ := aM (Kd.R_lower a7 (below_size (qB HB))); replace HB := aM (below_step (qB HB) hb); (try clear hb); (try clear hb2); (try clear hk); (try clear hi); (try clear av); (try clear a7)))
  (try simp only [Act.put, sA, sZ, sS]); go_cut [34] (fun dO wc => ∃ (kq : Nat) (b4 : Bool), dO = .bool b4 ∧ Aside0 (laws_FnPacked.j0 kq l0 ac ab al ag b4 = some r) ∧ Aside0 (kq ≤ k) ∧ Aside0 (Kd.R k51 51 wc w.heap.size (fun k_ => some k_ ≠ (a9 : Value).ownBlock) (.slice am ac.length ao) ac) ∧ Aside0 (Kd.R k47 47 wc w.heap.size (fun _ => True) (.slice bP ab.length bQ) ab) ∧ Aside0 (Kd.R k51 51 wc w.heap.size (fun k_ => some k_ ≠ ((.slice am ac.length ao) : Value).ownBlock) a9 al) ∧ Aside0 (Kd.R (Kd.int .i64) 3 wc w.heap.size (fun _ => True) b3 ag) ∧ Aside0 (Below w.heap.size w wc))
  case first =>
   have H := cA.out; clear cA; replace H := Option.bind_eq_some_iff.mp H; obtain ⟨cz, cV, H⟩ := H; have cW := Aside0.mk cV; clear cV; by_cases az : cz = true
   ·subst az; rw [if_pos rfl] at H; have H' := Aside0.mk H; clear H; obtain ⟨dP, dQ, dS⟩ := Kd.R_slice a_.out; subst dS; go_wp2_with (first | ((with_reducible refine gate_callee (f := 20) rfl ?_); refine gl 26 Try.func20 #[.slice dP ag.length dQ] ?_; (with_reducible refine (laws_ascends.calls k _ _ ag true _ ?side1 ?side2 cW.out).mono ?_); (case side1 => exact tC a_); (case side2 => exact (Kd.R_reads' a_.out).2.1); rintro e w' ⟨rfl, ⟨nd, rfl⟩⟩; refine ⟨_, rfl, ?_⟩; obtain ⟨fp, fq, dU⟩ := Kd.R_slice cD.out; subst dU)); go_meet
    case rel => exact ⟨_, (((al.length : Int) != (ac.length : Int))), tS, H', ⟨by first | omega | exact Nat.le_refl _⟩, ⟨by (with_reducible repeat first | apply rA | apply rN | apply rD); exact Kd.R_mono a8.out (fun _ hk => hk.2)⟩, ⟨tR bc⟩, ⟨by (with_reducible repeat first | apply rA | apply rN | apply rD); exact Kd.R_mono cD.out (fun _ hk => hk.2)⟩, ⟨tR a_⟩, ⟨tB0⟩⟩
   ·replace az := Bool.eq_false_iff.mpr az; subst az; rw [if_neg ff_] at H; have H' := Aside0.mk H; clear H; obtain ⟨dV, dW, dX⟩ := Kd.R_slice a_.out; subst dX; go_wp2_with (first | ((with_reducible refine gate_callee (f := 20) rfl ?_); refine gl 26 Try.func20 #[.slice dV ag.length dW] ?_; (with_reducible refine (laws_ascends.calls k _ _ ag false _ ?side1 ?side2 cW.out).mono ?_); (case side1 => exact tC a_); (case side2 => exact (Kd.R_reads' a_.out).2.1); rintro e w' ⟨rfl, ⟨nd, rfl⟩⟩; refine ⟨_, rfl, ?_⟩)); go_meet
    case rel => exact ⟨_, (true), tS, H', ⟨by first | omega | exact Nat.le_refl _⟩, ⟨by (with_reducible repeat first | apply rA | apply rN | apply rD); exact Kd.R_mono a8.out (fun _ hk => hk.2)⟩, ⟨tR bc⟩, ⟨by (with_reducible repeat first | apply rA | apply rN | apply rD); exact Kd.R_mono cD.out (fun _ hk => hk.2)⟩, ⟨tR a_⟩, ⟨tB0⟩⟩
  case rest =>
   clear cA; try clear c1
   try clear c2
   try clear p2
   try clear c3
   try clear c4
   try clear az
   obtain ⟨kq, b4, rfl, HA, ak, D, Y, aa, L, HB⟩ := hcut; cases kq with
   | zero => exact absurd HA.out (by simp [laws_FnPacked.j0])
   | succ b5 =>
    have H := HA.out; clear HA; simp only [laws_FnPacked.j0] at H; by_cases aE : b4 = true
    ·subst aE; rw [if_pos rfl] at H; obtain rfl := Option.some.inj H; go_wp2; go_ret; exact ⟨tE, tB0⟩
    ·replace aE := Bool.eq_false_iff.mpr aE; subst aE; rw [if_neg ff_] at H; have cE := Aside0.mk H; clear H; go_upto_region 7 with (fail)
     go_cut [40] (fun dY wc => ∃ (kq : Nat) (b6 : Bool), dY = .bool b6 ∧ Aside0 (laws_FnPacked.j1 kq l0 ac ab al ag b6 = some r) ∧ Aside0 (kq ≤ b5) ∧ Aside0 (Kd.R k51 51 wc w.heap.size (fun k_ => some k_ ≠ (a9 : Value).ownBlock) (.slice am ac.length ao) ac) ∧ Aside0 (Kd.R k47 47 wc w.heap.size (fun _ => True) (.slice bP ab.length bQ) ab) ∧ Aside0 (Kd.R k51 51 wc w.heap.size (fun k_ => some k_ ≠ ((.slice am ac.length ao) : Value).ownBlock) a9 al) ∧ Aside0 (Kd.R (Kd.int .i64) 3 wc w.heap.size (fun _ => True) b3 ag) ∧ Aside0 (Below w.heap.size w wc))
     case first =>
      have H := cE.out; clear cE; replace H := Option.bind_eq_some_iff.mp H; obtain ⟨dZ, cX, H⟩ := H; have cY := Aside0.mk cX; clear cX; by_cases aG : dZ = true
      ·subst aG; rw [if_pos rfl] at H; replace H := Option.bind_eq_some_iff.mp H; obtain ⟨cZ, c9, H⟩ := H; have b2 := Aside0.mk c9; clear c9; have H' := Aside0.mk H; clear H; go_wp2_with (first | ((with_reducible refine gate_callee (f := 21) rfl ?_); refine gl 36 Try.func21 #[.slice am ac.length ao] ?_; (with_reducible refine (impl_AreSlots.calls b5 _ _ ac true _ ?side1 ?side2 cY.out).mono ?_); (case side1 => exact tC D); (case side2 => exact (Kd.R_reads' D.out).2.1); rintro e ft ⟨rfl, hb⟩; refine ⟨_, rfl, ?_⟩; replace D := aM (Kd.R_below (qR D) hb); replace Y := aM (Kd.R_below (qR Y) hb); replace aa := aM (Kd.R_below (qR aa) hb); replace L := aM (Kd.R_below (qR L) hb); replace HB := aM (below_step (qB HB) hb); (try clear hb); (try clear hb2); (try clear hk); (try clear hi)) | (go_at_call 22; (with_reducible refine (impl_AreThings.calls b5 _ _ ab cZ _ ?side1 ?side2 b2.out).mono ?_); (case side1 => exact tC Y); (case side2 => exact (Kd.R_reads' Y.out).2.1); rintro e fu ⟨rfl, hb⟩; replace D := aM (Kd.R_below (qR D) hb); replace Y := aM (Kd.R_below (qR Y) hb); replace aa := aM (Kd.R_below (qR aa) hb); replace L := aM (Kd.R_below (qR L) hb); replace HB := aM (below_step (qB HB) hb); (try clear hb); (try clear hb2); (try clear hk); (try clear hi))); go_meet
       case rel => exact ⟨_, (cZ), tS, H', ⟨by have := ak.out; first | omega | exact Nat.le_refl _⟩, ⟨tR D⟩, ⟨tR Y⟩, ⟨tR aa⟩, ⟨tR L⟩, ⟨tB0⟩⟩
      ·replace aG := Bool.eq_false_iff.mpr aG; subst aG; rw [if_neg ff_] at H; have H' := Aside0.mk H; clear H; go_wp2_with (first | ((with_reducible refine gate_callee (f := 21) rfl ?_); refine gl 36 Try.func21 #[.slice am ac.length ao] ?_; (with_reducible refine (impl_AreSlots.calls b5 _ _ ac false _ ?side1 ?side2 cY.out).mono ?_); (case side1 => exact tC D); (case side2 => exact (Kd.R_reads' D.out).2.1); rintro e fv ⟨rfl, hb⟩; refine ⟨_, rfl, ?_⟩; replace D := aM (Kd.R_below (qR D) hb); replace Y := aM (Kd.R_below (qR Y) hb); replace aa := aM (Kd.R_below (qR aa) hb); replace L := aM (Kd.R_below (qR L) hb); replace HB := aM (below_step (qB HB) hb); (try clear hb); (try clear hb2); (try clear hk); (try clear hi))); go_meet
       case rel => exact ⟨_, (false), tS, H', ⟨by have := ak.out; first | omega | exact Nat.le_refl _⟩, ⟨tR D⟩, ⟨tR Y⟩, ⟨tR aa⟩, ⟨tR L⟩, ⟨tB0⟩⟩
     case rest =>
      clear cE; try clear c1
      try clear c2
      try clear p2
      try clear c3
      try clear c4
      try clear az
      try clear aE
      try clear bT
      try clear bU
      try clear aG
      try clear bV
      try clear bW
      try clear p2
      obtain ⟨kq, b6, rfl, HA, ap, D, Y, aa, L, HB⟩ := hcut; cases kq with
      | zero => exact absurd HA.out (by simp [laws_FnPacked.j1])
      | succ bF =>
       have H := HA.out; clear HA; simp only [laws_FnPacked.j1] at H; have cF := Aside0.mk H; clear H; go_upto_if 40 with (fail)
       go_cut [] (fun wc => ∃ (kq : Nat), Aside0 (laws_FnPacked.j4 kq l0 ac = some r) ∧ Aside0 (kq ≤ bF) ∧ Aside0 (Kd.R k51 51 wc w.heap.size (fun _ => True) (.slice am ac.length ao) ac) ∧ Aside0 (Below w.heap.size w wc))
       case first =>
        have H := cF.out; clear cF; by_cases aP : b6 = true
        ·subst aP; rw [if_pos rfl] at H; have cG := Aside0.mk H; clear H; go_upto_region 8 with (fail)
         go_cut [56] (fun d0 wc => ∃ (kq : Nat) (b7 : Bool), d0 = .bool b7 ∧ Aside0 (laws_FnPacked.j2 kq l0 ac ab al ag b7 = some r) ∧ Aside0 (kq ≤ bF) ∧ Aside0 (Kd.R k51 51 wc w.heap.size (fun k_ => some k_ ≠ (a9 : Value).ownBlock) (.slice am ac.length ao) ac) ∧ Aside0 (Kd.R k47 47 wc w.heap.size (fun _ => True) (.slice bP ab.length bQ) ab) ∧ Aside0 (Kd.R k51 51 wc w.heap.size (fun k_ => some k_ ≠ ((.slice am ac.length ao) : Value).ownBlock) a9 al) ∧ Aside0 (Kd.R (Kd.int .i64) 3 wc w.heap.size (fun _ => True) b3 ag) ∧ Aside0 (Below w.heap.size w wc))
         case first =>
          have H := cG.out; clear cG; replace H := Option.bind_eq_some_iff.mp H; obtain ⟨d1, c_, H⟩ := H; have da := Aside0.mk c_; clear c_; by_cases aQ : d1 = true
          ·subst aQ; rw [if_pos rfl] at H; replace H := Option.bind_eq_some_iff.mp H; obtain ⟨db, dd, H⟩ := H; have d2 := Aside0.mk dd; clear dd; replace H := Option.bind_eq_some_iff.mp H; obtain ⟨de, df, H⟩ := H; have d3 := Aside0.mk df; clear df; have H' := Aside0.mk H; clear H; obtain ⟨d4, d5, d6⟩ := Kd.R_slice aa.out; subst d6; go_wp2_with (first | ((with_reducible refine gate_callee (f := 21) rfl ?_); refine gl 42 Try.func21 #[.slice d4 al.length d5] ?_; (with_reducible refine (impl_AreSlots.calls bF _ _ al true _ ?side1 ?side2 da.out).mono ?_); (case side1 => exact tC aa); (case side2 => exact (Kd.R_reads' aa.out).2.1); rintro e fw ⟨rfl, hb⟩; refine ⟨_, rfl, ?_⟩; replace D := aM (Kd.R_below (qR D) hb); replace Y := aM (Kd.R_below (qR Y) hb); replace aa := aM (Kd.R_below (qR aa) hb); replace L := aM (Kd.R_below (qR L) hb); replace HB := aM (below_step (qB HB) hb); (try clear hb); (try clear hb2); (try clear hk); (try clear hi)) | (go_at_call 23; (with_reducible refine (impl_FreeSlots.calls bF _ _ ac db _ ?side1 ?side2 d2.out).mono ?_); (case side1 => exact tC D); (case side2 => exact (Kd.R_reads' D.out).2.1); rintro e fx ⟨rfl, hb⟩; replace D := aM (Kd.R_below (qR D) hb); replace Y := aM (Kd.R_below (qR Y) hb); replace aa := aM (Kd.R_below (qR aa) hb); replace L := aM (Kd.R_below (qR L) hb); replace HB := aM (below_step (qB HB) hb); (try clear hb); (try clear hb2); (try clear hk); (try clear hi)) | (go_at_call 23; (with_reducible refine (impl_FreeSlots.calls bF _ _ al de _ ?side1 ?side2 d3.out).mono ?_); (case side1 => exact tC aa); (case side2 => exact (Kd.R_reads' aa.out).2.1); rintro e fy ⟨rfl, hb⟩; replace D := aM (Kd.R_below (qR D) hb); replace Y := aM (Kd.R_below (qR Y) hb); replace aa := aM (Kd.R_below (qR aa) hb); replace L := aM (Kd.R_below (qR L) hb); replace HB := aM (below_step (qB HB) hb); (try clear hb); (try clear hb2); (try clear hk); (try clear hi); obtain ⟨fz, fA, d7⟩ := Kd.R_slice L.out; subst d7)); go_meet
           case rel => exact ⟨_, (((wrap64 (db - de)) != (wrap64 ((ab.length : Int) - (ag.length : Int))))), tS, H', ⟨by have := ak.out; have := ap.out; first | omega | exact Nat.le_refl _⟩, ⟨tR D⟩, ⟨tR Y⟩, ⟨tR aa⟩, ⟨tR L⟩, ⟨tB0⟩⟩
          ·replace aQ := Bool.eq_false_iff.mpr aQ; subst aQ; rw [if_neg ff_] at H; have H' := Aside0.mk H; clear H; obtain ⟨d8, d9, d_⟩ := Kd.R_slice aa.out; subst d_; go_wp2_with (first | ((with_reducible refine gate_callee (f := 21) rfl ?_); refine gl 42 Try.func21 #[.slice d8 al.length d9] ?_; (with_reducible refine (impl_AreSlots.calls bF _ _ al false _ ?side1 ?side2 da.out).mono ?_); (case side1 => exact tC aa); (case side2 => exact (Kd.R_reads' aa.out).2.1); rintro e fB ⟨rfl, hb⟩; refine ⟨_, rfl, ?_⟩; replace D := aM (Kd.R_below (qR D) hb); replace Y := aM (Kd.R_below (qR Y) hb); replace aa := aM (Kd.R_below (qR aa) hb); replace L := aM (Kd.R_below (qR L) hb); replace HB := aM (below_step (qB HB) hb); (try clear hb); (try clear hb2); (try clear hk); (try clear hi))); go_meet
           case rel => exact ⟨_, (true), tS, H', ⟨by have := ak.out; have := ap.out; first | omega | exact Nat.le_refl _⟩, ⟨tR D⟩, ⟨tR Y⟩, ⟨tR aa⟩, ⟨tR L⟩, ⟨tB0⟩⟩
         case rest =>
          clear cG; try clear c1
          try clear c2
          try clear p2
          try clear c3
          try clear c4
          try clear p6
          try clear az
          try clear aE
          try clear bT
          try clear bU
          try clear aG
          try clear bV
          try clear bW
          try clear aP
          try clear aQ
          try clear p2
          obtain ⟨kq, b7, rfl, HA, aT, D, Y, aa, L, HB⟩ := hcut; cases kq with
          | zero => exact absurd HA.out (by simp [laws_FnPacked.j2])
          | succ dg =>
           have H := HA.out; clear HA; simp only [laws_FnPacked.j2] at H; by_cases ba : b7 = true
           ·subst ba; rw [if_pos rfl] at H; obtain rfl := Option.some.inj H; go_wp2; go_ret; exact ⟨tE, tB0⟩
           ·replace ba := Bool.eq_false_iff.mpr ba; subst ba; rw [if_neg ff_] at H; have H' := Aside0.mk H; clear H; go_wp2; go_loopg [7] dg (fun kq v7 w' => ∃ (J : Int), v7 = .int .i64 J ∧ Aside0 (laws_FnPacked.l0 kq l0 ac ab al ag J = some r) ∧ Aside0 (kq ≤ dg) ∧ Aside0 (Kd.R k51 51 w' w.heap.size (fun k_ => some k_ ≠ (a9 : Value).ownBlock) (.slice am ac.length ao) ac) ∧ Aside0 (Kd.R k47 47 w' w.heap.size (fun _ => True) (.slice bP ab.length bQ) ab) ∧ Aside0 (Kd.R k51 51 w' w.heap.size (fun k_ => some k_ ≠ ((.slice am ac.length ao) : Value).ownBlock) a9 al) ∧ Aside0 (Kd.R (Kd.int .i64) 3 w' w.heap.size (fun _ => True) b3 ag) ∧ Aside0 (Below w.heap.size w w'))
            case atStart => exact ⟨(0), tS, H', ⟨Nat.le_refl _⟩, ⟨tR D⟩, ⟨tR Y⟩, ⟨tR aa⟩, ⟨tR L⟩, ⟨tB0⟩⟩
            case round =>
             clear H'; try clear c1
             try clear c2
             try clear p2
             try clear c3
             try clear c4
             try clear p6
             try clear az
             try clear aE
             try clear bT
             try clear bU
             try clear aG
             try clear bV
             try clear bW
             try clear aP
             try clear aQ
             try clear ba
             try clear p2
             try clear p6
             obtain ⟨J, rfl, HA, au, D, Y, aa, L, HB⟩ := hrel; cases gk with
             | zero => exact absurd HA.out (by simp [laws_FnPacked.l0])
             | succ k4 =>
              have H := HA.out; clear HA; simp only [laws_FnPacked.l0] at H; by_cases aU : J < (ab.length : Int)
              ·rw [if_pos aU] at H; have b8 : decide (J < (ab.length : Int)) = true := decide_eq_true aU; clear aU; by_cases bd : 0 ≤ J
               ·rw [if_pos bd] at H; have cH : decide (0 ≤ J) = true := decide_eq_true bd; clear bd; replace H := Option.bind_eq_some_iff.mp H; obtain ⟨eb, dh, H⟩ := H; have be := Aside0.mk dh; clear dh; by_cases bf : eb = true
                ·subst bf; rw [if_pos rfl] at H; replace H := Option.bind_eq_some_iff.mp H; obtain ⟨ec, di, H⟩ := H; have cI := Aside0.mk di; clear di; by_cases bg : ec = true
                 ·subst bg; rw [if_pos rfl] at H; replace H := Option.bind_eq_some_iff.mp H; obtain ⟨ed, dj, H⟩ := H; have dk := Aside0.mk dj; clear dj; by_cases bh : ed = true
                  ·subst bh; rw [if_pos rfl] at H; obtain rfl := Option.some.inj H; have ai : 0 ≤ (J : Int) := of_decide_eq_true ‹_›; have aj : J < (ab.length : Int) := of_decide_eq_true ‹_›; obtain ⟨aw, ax, aV, aW, aX, aY, aZ⟩ := at_T47 (Kd.R_reads' Y.out).2.2 J ai aj; cases ax
                   replace ai := eq_true ai; replace aj := eq_true aj; obtain ⟨ee, ef, eh⟩ := Kd.R_slice L.out; subst eh; go_wp2_with (first | ((with_reducible refine gate_callee (f := 24) rfl ?_); refine gl 69 Try.func24 #[.slice ee ag.length ef, .int .i64 ((rd_T47 ab J).f0)] ?_; (with_reducible refine (laws_contains.calls k4 _ _ ag ((rd_T47 ab J).f0) true _ ?side1 ?side2 be.out).mono ?_); (case side1 => exact tC L); (case side2 => exact (Kd.R_reads' L.out).2.1); rintro e w' ⟨rfl, ⟨nd, rfl⟩⟩; refine ⟨_, rfl, ?_⟩) | (go_at_call 14; (with_reducible refine (impl_CanHold.calls k4 _ _ ac _ _ ab true _ ?side1 ?side2 ?side3 ?side4 cI.out).mono ?_); (case side1 => exact tC D); (case side2 => exact (Kd.R_reads' D.out).2.1); (case side3 => exact tC Y); (case side4 => exact (Kd.R_reads' Y.out).2.1); rintro e fC ⟨rfl, hb⟩; replace D := aM (Kd.R_below (qR D) hb); replace Y := aM (Kd.R_below (qR Y) hb); replace aa := aM (Kd.R_below (qR aa) hb); replace L := aM (Kd.R_below (qR L) hb); replace HB := aM (below_step (qB HB) hb); (try clear hb); (try clear hb2); (try clear hk); (try clear hi); have aH : 0 ≤ (J : Int) := of_decide_eq_true ‹_›; have aI : J < (ab.length : Int) := of_decide_eq_true ‹_›; obtain ⟨cJ, cK, b9, b_, ca, cc, cd⟩ := at_T47 (Kd.R_reads' Y.out).2.2 J aH aI; obtain rfl : aw = cJ := (by injection cK); replace aH := eq_true aH; replace aI := eq_true aI) | (go_at_call 24; (with_reducible refine (laws_contains.calls k4 _ _ ag ((rd_T47 ab J).f0) true _ ?side1 ?side2 dk.out).mono ?_); (case side1 => exact tC L); (case side2 => exact (Kd.R_reads' L.out).2.1); rintro e w' ⟨rfl, ⟨nd, rfl⟩⟩)); go_ret; exact ⟨tE, tB0⟩
                  ·replace bh := Bool.eq_false_iff.mpr bh; subst bh; rw [if_neg ff_] at H; have H' := Aside0.mk H; clear H; have ai : 0 ≤ (J : Int) := of_decide_eq_true ‹_›; have aj : J < (ab.length : Int) := of_decide_eq_true ‹_›; obtain ⟨aw, ax, aV, aW, aX, aY, aZ⟩ := at_T47 (Kd.R_reads' Y.out).2.2 J ai aj; cases ax
                   replace ai := eq_true ai; replace aj := eq_true aj; obtain ⟨ei, ej, ek⟩ := Kd.R_slice L.out; subst ek; go_wp2_with (first | ((with_reducible refine gate_callee (f := 24) rfl ?_); refine gl 69 Try.func24 #[.slice ei ag.length ej, .int .i64 ((rd_T47 ab J).f0)] ?_; (with_reducible refine (laws_contains.calls k4 _ _ ag ((rd_T47 ab J).f0) true _ ?side1 ?side2 be.out).mono ?_); (case side1 => exact tC L); (case side2 => exact (Kd.R_reads' L.out).2.1); rintro e w' ⟨rfl, ⟨nd, rfl⟩⟩; refine ⟨_, rfl, ?_⟩) | (go_at_call 14; (with_reducible refine (impl_CanHold.calls k4 _ _ ac _ _ ab true _ ?side1 ?side2 ?side3 ?side4 cI.out).mono ?_); (case side1 => exact tC D); (case side2 => exact (Kd.R_reads' D.out).2.1); (case side3 => exact tC Y); (case side4 => exact (Kd.R_reads' Y.out).2.1); rintro e fD ⟨rfl, hb⟩; replace D := aM (Kd.R_below (qR D) hb); replace Y := aM (Kd.R_below (qR Y) hb); replace aa := aM (Kd.R_below (qR aa) hb); replace L := aM (Kd.R_below (qR L) hb); replace HB := aM (below_step (qB HB) hb); (try clear hb); (try clear hb2); (try clear hk); (try clear hi); have aH : 0 ≤ (J : Int) := of_decide_eq_true ‹_›; have aI : J < (ab.length : Int) := of_decide_eq_true ‹_›; obtain ⟨cJ, cK, b9, b_, ca, cc, cd⟩ := at_T47 (Kd.R_reads' Y.out).2.2 J aH aI; obtain rfl : aw = cJ := (by injection cK); replace aH := eq_true aH; replace aI := eq_true aI) | (go_at_call 24; (with_reducible refine (laws_contains.calls k4 _ _ ag ((rd_T47 ab J).f0) false _ ?side1 ?side2 dk.out).mono ?_); (case side1 => exact tC L); (case side2 => exact (Kd.R_reads' L.out).2.1); rintro e w' ⟨rfl, ⟨nd, rfl⟩⟩)); go_roundg k4
                   case measure => have := ak.out; have := ap.out; have := aT.out; have := au.out; omega
                   case rel => exact ⟨(wrap64 (J + 1)), tS, H', ⟨by have := ak.out; have := ap.out; have := aT.out; have := au.out; omega⟩, ⟨tR D⟩, ⟨tR Y⟩, ⟨tR aa⟩, ⟨tR L⟩, ⟨tB0⟩⟩
                 ·replace bg := Bool.eq_false_iff.mpr bg; subst bg; rw [if_neg ff_] at H; have H' := Aside0.mk H; clear H; have ai : 0 ≤ (J : Int) := of_decide_eq_true ‹_›; have aj : J < (ab.length : Int) := of_decide_eq_true ‹_›; obtain ⟨aw, ax, aV, aW, aX, aY, aZ⟩ := at_T47 (Kd.R_reads' Y.out).2.2 J ai aj; cases ax
                  replace ai := eq_true ai; replace aj := eq_true aj; obtain ⟨el, em, en⟩ := Kd.R_slice L.out; subst en; go_wp2_with (first | ((with_reducible refine gate_callee (f := 24) rfl ?_); refine gl 69 Try.func24 #[.slice el ag.length em, .int .i64 ((rd_T47 ab J).f0)] ?_; (with_reducible refine (laws_contains.calls k4 _ _ ag ((rd_T47 ab J).f0) true _ ?side1 ?side2 be.out).mono ?_); (case side1 => exact tC L); (case side2 => exact (Kd.R_reads' L.out).2.1); rintro e w' ⟨rfl, ⟨nd, rfl⟩⟩; refine ⟨_, rfl, ?_⟩) | (go_at_call 14; (with_reducible refine (impl_CanHold.calls k4 _ _ ac _ _ ab false _ ?side1 ?side2 ?side3 ?side4 cI.out).mono ?_); (case side1 => exact tC D); (case side2 => exact (Kd.R_reads' D.out).2.1); (case side3 => exact tC Y); (case side4 => exact (Kd.R_reads' Y.out).2.1); rintro e fE ⟨rfl, hb⟩; replace D := aM (Kd.R_below (qR D) hb); replace Y := aM (Kd.R_below (qR Y) hb); replace aa := aM (Kd.R_below (qR aa) hb); replace L := aM (Kd.R_below (qR L) hb); replace HB := aM (below_step (qB HB) hb); (try clear hb); (try clear hb2); (try clear hk); (try clear hi))); go_roundg k4
                  case measure => have := ak.out; have := ap.out; have := aT.out; have := au.out; omega
                  case rel => exact ⟨(wrap64 (J + 1)), tS, H', ⟨by have := ak.out; have := ap.out; have := aT.out; have := au.out; omega⟩, ⟨tR D⟩, ⟨tR Y⟩, ⟨tR aa⟩, ⟨tR L⟩, ⟨tB0⟩⟩
                ·replace bf := Bool.eq_false_iff.mpr bf; subst bf; rw [if_neg ff_] at H; replace H := Option.bind_eq_some_iff.mp H; obtain ⟨a2, dl, H⟩ := H; have ce := Aside0.mk dl; clear dl; by_cases aJ : a2 = 0
                 ·rw [if_pos aJ] at H; have cf : (a2 == 0) = true := beq_iff_eq.mpr aJ; have cg : (a2 != 0) = false := bne_eq_false_iff_eq.mpr aJ; clear aJ; obtain rfl := Option.some.inj H; have ai : 0 ≤ (J : Int) := of_decide_eq_true ‹_›; have aj : J < (ab.length : Int) := of_decide_eq_true ‹_›; obtain ⟨aw, ax, aV, aW, aX, aY, aZ⟩ := at_T47 (Kd.R_reads' Y.out).2.2 J ai aj; cases ax
                  replace ai := eq_true ai; replace aj := eq_true aj; obtain ⟨ep, er, es⟩ := Kd.R_slice L.out; subst es; go_wp2_with (first | ((with_reducible refine gate_callee (f := 24) rfl ?_); refine gl 69 Try.func24 #[.slice ep ag.length er, .int .i64 ((rd_T47 ab J).f0)] ?_; (with_reducible refine (laws_contains.calls k4 _ _ ag ((rd_T47 ab J).f0) false _ ?side1 ?side2 be.out).mono ?_); (case side1 => exact tC L); (case side2 => exact (Kd.R_reads' L.out).2.1); rintro e w' ⟨rfl, ⟨nd, rfl⟩⟩; refine ⟨_, rfl, ?_⟩; have aq : 0 ≤ (J : Int) := of_decide_eq_true ‹_›; have ar : J < (ab.length : Int) := of_decide_eq_true ‹_›; obtain ⟨bi, bj, bG, bH, bI, bJ, bK⟩ := at_T47 (Kd.R_reads' Y.out).2.2 J aq ar; obtain rfl : aw = bi := (by injection bj); replace aq := eq_true aq; replace ar := eq_true ar; obtain ⟨fF, fG, et⟩ := Kd.R_slice aa.out; subst et) | (go_at_call 25; (with_reducible refine (impl_SlotOf.calls _ _ al ((rd_T47 ab J).f0) a2 _ ?side1 ?side2 ce.out).mono ?_); (case side1 => exact tC aa); (case side2 => exact (Kd.R_reads' aa.out).2.1); rintro e fH ⟨rfl, hb⟩; replace D := aM (Kd.R_below (qR D) hb); replace Y := aM (Kd.R_below (qR Y) hb); replace aa := aM (Kd.R_below (qR aa) hb); replace L := aM (Kd.R_below (qR L) hb); replace HB := aM (below_step (qB HB) hb); (try clear hb); (try clear hb2); (try clear hk); (try clear hi))); go_ret; exact ⟨tE, tB0⟩
                 ·rw [if_neg aJ] at H; have cf : (a2 == 0) = false := beq_eq_false_iff_ne.mpr aJ; have cg : (a2 != 0) = true := bne_iff_ne.mpr aJ; replace H := Option.bind_eq_some_iff.mp H; obtain ⟨eu, dm, H⟩ := H; have cL := Aside0.mk dm; clear dm; by_cases bk : eu = true
                  ·subst bk; rw [if_pos rfl] at H; replace H := Option.bind_eq_some_iff.mp H; obtain ⟨ev, dn, H⟩ := H; have dp := Aside0.mk dn; clear dn; by_cases bl : ev = true
                   ·subst bl; rw [if_pos rfl] at H; obtain rfl := Option.some.inj H; have ai : 0 ≤ (J : Int) := of_decide_eq_true ‹_›; have aj : J < (ab.length : Int) := of_decide_eq_true ‹_›; obtain ⟨aw, ax, aV, aW, aX, aY, aZ⟩ := at_T47 (Kd.R_reads' Y.out).2.2 J ai aj; cases ax
                    replace ai := eq_true ai; replace aj := eq_true aj; obtain ⟨ew, ex, ey⟩ := Kd.R_slice L.out; subst ey; go_wp2_with (first | ((with_reducible refine gate_callee (f := 24) rfl ?_); refine gl 69 Try.func24 #[.slice ew ag.length ex, .int .i64 ((rd_T47 ab J).f0)] ?_; (with_reducible refine (laws_contains.calls k4 _ _ ag ((rd_T47 ab J).f0) false _ ?side1 ?side2 be.out).mono ?_); (case side1 => exact tC L); (case side2 => exact (Kd.R_reads' L.out).2.1); rintro e w' ⟨rfl, ⟨nd, rfl⟩⟩; refine ⟨_, rfl, ?_⟩; have aq : 0 ≤ (J : Int) := of_decide_eq_true ‹_›; have ar : J < (ab.length : Int) := of_decide_eq_true ‹_›; obtain ⟨bi, bj, bG, bH, bI, bJ, bK⟩ := at_T47 (Kd.R_reads' Y.out).2.2 J aq ar; obtain rfl : aw = bi := (by injection bj); replace aq := eq_true aq; replace ar := eq_true ar; obtain ⟨fI, fJ, ez⟩ := Kd.R_slice aa.out; subst ez) | (go_at_call 25; (with_reducible refine (impl_SlotOf.calls _ _ al ((rd_T47 ab J).f0) a2 _ ?side1 ?side2 ce.out).mono ?_); (case side1 => exact tC aa); (case side2 => exact (Kd.R_reads' aa.out).2.1); rintro e fK ⟨rfl, hb⟩; replace D := aM (Kd.R_below (qR D) hb); replace Y := aM (Kd.R_below (qR Y) hb); replace aa := aM (Kd.R_below (qR aa) hb); replace L := aM (Kd.R_below (qR L) hb); replace HB := aM (below_step (qB HB) hb); (try clear hb); (try clear hb2); (try clear hk); (try clear hi)) | (go_at_call 14; (with_reducible refine (impl_CanHold.calls k4 _ _ ac _ _ ab true _ ?side1 ?side2 ?side3 ?side4 cL.out).mono ?_); (case side1 => exact tC D); (case side2 => exact (Kd.R_reads' D.out).2.1); (case side3 => exact tC Y); (case side4 => exact (Kd.R_reads' Y.out).2.1); rintro e fL ⟨rfl, hb⟩; replace D := aM (Kd.R_below (qR D) hb); replace Y := aM (Kd.R_below (qR Y) hb); replace aa := aM (Kd.R_below (qR aa) hb); replace L := aM (Kd.R_below (qR L) hb); replace HB := aM (below_step (qB HB) hb); (try clear hb); (try clear hb2); (try clear hk); (try clear hi); have aK : 0 ≤ (J : Int) := of_decide_eq_true ‹_›; have aN : J < (ab.length : Int) := of_decide_eq_true ‹_›; obtain ⟨cM, cN, ch, ci, cj, ck, cl⟩ := at_T47 (Kd.R_reads' Y.out).2.2 J aK aN; obtain rfl : aw = cM := (by injection cN); replace aK := eq_true aK; replace aN := eq_true aN) | (go_at_call 24; (with_reducible refine (laws_contains.calls k4 _ _ ag ((rd_T47 ab J).f0) true _ ?side1 ?side2 dp.out).mono ?_); (case side1 => exact tC L); (case side2 => exact (Kd.R_reads' L.out).2.1); rintro e w' ⟨rfl, ⟨nd, rfl⟩⟩)); go_ret; exact ⟨tE, tB0⟩
                   ·replace bl := Bool.eq_false_iff.mpr bl; subst bl; rw [if_neg ff_] at H; have H' := Aside0.mk H; clear H; have ai : 0 ≤ (J : Int) := of_decide_eq_true ‹_›; have aj : J < (ab.length : Int) := of_decide_eq_true ‹_›; obtain ⟨aw, ax, aV, aW, aX, aY, aZ⟩ := at_T47 (Kd.R_reads' Y.out).2.2 J ai aj; cases ax
                    replace ai := eq_true ai; replace aj := eq_true aj; obtain ⟨eA, eB, eC⟩ := Kd.R_slice L.out; subst eC; go_wp2_with (first | ((with_reducible refine gate_callee (f := 24) rfl ?_); refine gl 69 Try.func24 #[.slice eA ag.length eB, .int .i64 ((rd_T47 ab J).f0)] ?_; (with_reducible refine (laws_contains.calls k4 _ _ ag ((rd_T47 ab J).f0) false _ ?side1 ?side2 be.out).mono ?_); (case side1 => exact tC L); (case side2 => exact (Kd.R_reads' L.out).2.1); rintro e w' ⟨rfl, ⟨nd, rfl⟩⟩; refine ⟨_, rfl, ?_⟩; have aq : 0 ≤ (J : Int) := of_decide_eq_true ‹_›; have ar : J < (ab.length : Int) := of_decide_eq_true ‹_›; obtain ⟨bi, bj, bG, bH, bI, bJ, bK⟩ := at_T47 (Kd.R_reads' Y.out).2.2 J aq ar; obtain rfl : aw = bi := (by injection bj); replace aq := eq_true aq; replace ar := eq_true ar; obtain ⟨fM, fN, eD⟩ := Kd.R_slice aa.out; subst eD) | (go_at_call 25; (with_reducible refine (impl_SlotOf.calls _ _ al ((rd_T47 ab J).f0) a2 _ ?side1 ?side2 ce.out).mono ?_); (case side1 => exact tC aa); (case side2 => exact (Kd.R_reads' aa.out).2.1); rintro e fO ⟨rfl, hb⟩; replace D := aM (Kd.R_below (qR D) hb); replace Y := aM (Kd.R_below (qR Y) hb); replace aa := aM (Kd.R_below (qR aa) hb); replace L := aM (Kd.R_below (qR L) hb); replace HB := aM (below_step (qB HB) hb); (try clear hb); (try clear hb2); (try clear hk); (try clear hi)) | (go_at_call 14; (with_reducible refine (impl_CanHold.calls k4 _ _ ac _ _ ab true _ ?side1 ?side2 ?side3 ?side4 cL.out).mono ?_); (case side1 => exact tC D); (case side2 => exact (Kd.R_reads' D.out).2.1); (case side3 => exact tC Y); (case side4 => exact (Kd.R_reads' Y.out).2.1); rintro e fP ⟨rfl, hb⟩; replace D := aM (Kd.R_below (qR D) hb); replace Y := aM (Kd.R_below (qR Y) hb); replace aa := aM (Kd.R_below (qR aa) hb); replace L := aM (Kd.R_below (qR L) hb); replace HB := aM (below_step (qB HB) hb); (try clear hb); (try clear hb2); (try clear hk); (try clear hi); have aK : 0 ≤ (J : Int) := of_decide_eq_true ‹_›; have aN : J < (ab.length : Int) := of_decide_eq_true ‹_›; obtain ⟨cM, cN, ch, ci, cj, ck, cl⟩ := at_T47 (Kd.R_reads' Y.out).2.2 J aK aN; obtain rfl : aw = cM := (by injection cN); replace aK := eq_true aK; replace aN := eq_true aN) | (go_at_call 24; (with_reducible refine (laws_contains.calls k4 _ _ ag ((rd_T47 ab J).f0) false _ ?side1 ?side2 dp.out).mono ?_); (case side1 => exact tC L); (case side2 => exact (Kd.R_reads' L.out).2.1); rintro e w' ⟨rfl, ⟨nd, rfl⟩⟩)); go_roundg k4
                    case measure => have := ak.out; have := ap.out; have := aT.out; have := au.out; omega
                    case rel => exact ⟨(wrap64 (J + 1)), tS, H', ⟨by have := ak.out; have := ap.out; have := aT.out; have := au.out; omega⟩, ⟨tR D⟩, ⟨tR Y⟩, ⟨tR aa⟩, ⟨tR L⟩, ⟨tB0⟩⟩
                  ·replace bk := Bool.eq_false_iff.mpr bk; subst bk; rw [if_neg ff_] at H; have H' := Aside0.mk H; clear H; have ai : 0 ≤ (J : Int) := of_decide_eq_true ‹_›; have aj : J < (ab.length : Int) := of_decide_eq_true ‹_›; obtain ⟨aw, ax, aV, aW, aX, aY, aZ⟩ := at_T47 (Kd.R_reads' Y.out).2.2 J ai aj; cases ax
                   replace ai := eq_true ai; replace aj := eq_true aj; obtain ⟨eE, eF, eG⟩ := Kd.R_slice L.out; subst eG; go_wp2_with (first | ((with_reducible refine gate_callee (f := 24) rfl ?_); refine gl 69 Try.func24 #[.slice eE ag.length eF, .int .i64 ((rd_T47 ab J).f0)] ?_; (with_reducible refine (laws_contains.calls k4 _ _ ag ((rd_T47 ab J).f0) false _ ?side1 ?side2 be.out).mono ?_); (case side1 => exact tC L); (case side2 => exact (Kd.R_reads' L.out).2.1); rintro e w' ⟨rfl, ⟨nd, rfl⟩⟩; refine ⟨_, rfl, ?_⟩; have aq : 0 ≤ (J : Int) := of_decide_eq_true ‹_›; have ar : J < (ab.length : Int) := of_decide_eq_true ‹_›; obtain ⟨bi, bj, bG, bH, bI, bJ, bK⟩ := at_T47 (Kd.R_reads' Y.out).2.2 J aq ar; obtain rfl : aw = bi := (by injection bj); replace aq := eq_true aq; replace ar := eq_true ar; obtain ⟨fQ, fR, eH⟩ := Kd.R_slice aa.out; subst eH) | (go_at_call 25; (with_reducible refine (impl_SlotOf.calls _ _ al ((rd_T47 ab J).f0) a2 _ ?side1 ?side2 ce.out).mono ?_); (case side1 => exact tC aa); (case side2 => exact (Kd.R_reads' aa.out).2.1); rintro e fS ⟨rfl, hb⟩; replace D := aM (Kd.R_below (qR D) hb); replace Y := aM (Kd.R_below (qR Y) hb); replace aa := aM (Kd.R_below (qR aa) hb); replace L := aM (Kd.R_below (qR L) hb); replace HB := aM (below_step (qB HB) hb); (try clear hb); (try clear hb2); (try clear hk); (try clear hi)) | (go_at_call 14; (with_reducible refine (impl_CanHold.calls k4 _ _ ac _ _ ab false _ ?side1 ?side2 ?side3 ?side4 cL.out).mono ?_); (case side1 => exact tC D); (case side2 => exact (Kd.R_reads' D.out).2.1); (case side3 => exact tC Y); (case side4 => exact (Kd.R_reads' Y.out).2.1); rintro e fT ⟨rfl, hb⟩; replace D := aM (Kd.R_below (qR D) hb); replace Y := aM (Kd.R_below (qR Y) hb); replace aa := aM (Kd.R_below (qR aa) hb); replace L := aM (Kd.R_below (qR L) hb); replace HB := aM (below_step (qB HB) hb); (try clear hb); (try clear hb2); (try clear hk); (try clear hi))); go_roundg k4
                   case measure => have := ak.out; have := ap.out; have := aT.out; have := au.out; omega
                   case rel => exact ⟨(wrap64 (J + 1)), tS, H', ⟨by have := ak.out; have := ap.out; have := aT.out; have := au.out; omega⟩, ⟨tR D⟩, ⟨tR Y⟩, ⟨tR aa⟩, ⟨tR L⟩, ⟨tB0⟩⟩
               ·rw [if_neg bd] at H; exact absurd H (by simp)
              ·rw [if_neg aU] at H; have b8 : decide (J < (ab.length : Int)) = false := decide_eq_false aU; clear aU; have H' := Aside0.mk H; clear H; go_wp2; go_meet
               case rel => exact ⟨_, H', ⟨by have := ak.out; have := ap.out; have := aT.out; have := au.out; first | omega | exact Nat.le_refl _⟩, ⟨by (with_reducible repeat first | apply rA | apply rN | apply rD); exact Kd.R_mono D.out (fun _ hk => trivial)⟩, ⟨tB0⟩⟩
        ·replace aP := Bool.eq_false_iff.mpr aP; subst aP; rw [if_neg ff_] at H; have H' := Aside0.mk H; clear H; go_wp2; go_meet
         case rel => exact ⟨_, H', ⟨by have := ak.out; have := ap.out; first | omega | exact Nat.le_refl _⟩, ⟨by (with_reducible repeat first | apply rA | apply rN | apply rD); exact Kd.R_mono D.out (fun _ hk => trivial)⟩, ⟨tB0⟩⟩
       case rest =>
        clear cF; try clear c1
        try clear c2
        try clear p2
        try clear c3
        try clear c4
        try clear c5
        try clear p5
        try clear q5
        try clear hx5
        try clear c6
        try clear p6
        try clear az
        try clear aE
        try clear bT
        try clear bU
        try clear aG
        try clear bV
        try clear bW
        try clear dt
        try clear aP
        try clear aQ
        try clear ba
        try clear aU
        try clear b8
        try clear bd
        try clear cH
        try clear bf
        try clear bg
        try clear bh
        try clear aJ
        try clear cf
        try clear cg
        try clear cm
        try clear cn
        try clear hx55
        try clear bk
        try clear bl
        try clear co
        try clear aV
        try clear aW
        try clear aX
        try clear aY
        try clear aZ
        try clear b9
        try clear b_
        try clear ca
        try clear cc
        try clear cd
        try clear bG
        try clear bH
        try clear bI
        try clear bJ
        try clear bK
        try clear ch
        try clear ci
        try clear cj
        try clear ck
        try clear cl
        try clear p2
        try clear ai
        try clear aH
        try clear aq
        try clear aK
        try clear p6
        try clear aj
        try clear aI
        try clear ar
        try clear aN
        obtain ⟨kq, HA, bL, D, HB⟩ := hcut; cases kq with
        | zero => exact absurd HA.out (by simp [laws_FnPacked.j4])
        | succ cp =>
         have H := HA.out; clear HA; simp only [laws_FnPacked.j4] at H; replace H := Option.bind_eq_some_iff.mp H; obtain ⟨⟨ad, cO⟩, du, H⟩ := H; have eI := Aside0.mk du; clear du; replace H := Option.bind_eq_some_iff.mp H; obtain ⟨aA, dv, H⟩ := H; have eJ := Aside0.mk dv; clear dv; have H' := Aside0.mk H; clear H; go_wp2_with (first | ((with_reducible refine gate_callee (f := 26) rfl ?_); refine gl 97 Try.func26 #[.slice A0 l0.length c0] ?_; (with_reducible refine (spec_DrawTighten.calls cp _ _ l0 ad cO _ ?side1 ?side2 eI.out).mono ?_); (case side1 => exact qC (Kd.C_below b0.out HB.out)); (case side2 => exact b1.out); rintro e fU ⟨fV, fW, rfl, av, a7, hb⟩; refine ⟨_, rfl, ?_⟩; have bm := aM (Kd.R_lower (Kd.R_new' av (Kd.R_lt (qR D))) (below_size (qB HB))); replace D := aM (Kd.R_elder' (qR D) (Kd.R_base av) hb); have bX := aM (Kd.R_lower a7 (below_size (qB HB))); replace HB := aM (below_step (qB HB) hb); (try clear hb); (try clear hb2); (try clear hk); (try clear hi); (try clear av); (try clear a7); obtain ⟨a3, a6, eK⟩ := Kd.R_slice bm.out; subst eK; obtain ⟨eL, eM, eN⟩ := Kd.R_slice bX.out; subst eN) | ((with_reducible refine gate_callee (f := 27) rfl ?_); refine gl 102 Try.func27 #[.slice a3 ad.length a6, .slice eL cO.length eM] ?_; (with_reducible refine (impl_Tighten.calls cp _ _ ad _ _ cO aA _ ?side1 ?side2 ?side3 ?side4 eJ.out).mono ?_); (case side1 => exact tC bm); (case side2 => exact (Kd.R_reads' bm.out).2.1); (case side3 => exact tC bX); (case side4 => exact (Kd.R_reads' bX.out).2.1); rintro e fX ⟨bM, rfl, av, hb⟩; refine ⟨_, rfl, ?_⟩; replace bX := aM (Kd.R_below (qR bX) hb); have eO := aM (Kd.R_lower (Kd.R_new' (Kd.R_new' av (Kd.R_lt (qR D))) (Kd.R_lt (qR bm))) (below_size (qB HB))); replace D := aM (Kd.R_elder' (qR D) (Kd.R_base av) hb); replace bm := aM (Kd.R_elder' (qR bm) (Kd.R_base av) hb); replace HB := aM (below_step (qB HB) hb); (try clear hb); (try clear hb2); (try clear hk); (try clear hi); (try clear av))); go_loopg [11] cp (fun kq eP w' => ∃ (ae : Int), eP = .int .i64 ae ∧ Aside0 (laws_FnPacked.l1 kq ac ad aA ae = some r) ∧ Aside0 (kq ≤ cp) ∧ Aside0 (Kd.R k51 51 w' w.heap.size (fun k_ => some k_ ≠ ((.slice a3 ad.length a6) : Value).ownBlock ∧ some k_ ≠ (bM : Value).ownBlock) (.slice am ac.length ao) ac) ∧ Aside0 (Kd.R k51 51 w' w.heap.size (fun k_ => some k_ ≠ ((.slice am ac.length ao) : Value).ownBlock ∧ some k_ ≠ (bM : Value).ownBlock) (.slice a3 ad.length a6) ad) ∧ Aside0 (Kd.R k51 51 w' w.heap.size (fun k_ => some k_ ≠ ((.slice am ac.length ao) : Value).ownBlock ∧ some k_ ≠ ((.slice a3 ad.length a6) : Value).ownBlock) bM aA) ∧ Aside0 (Below w.heap.size w w'))
         case atStart => exact ⟨(0), tS, H', ⟨Nat.le_refl _⟩, ⟨by (with_reducible repeat first | apply rA | apply rN | apply rD); exact Kd.R_mono D.out (fun _ hk => ⟨hk.1.2, hk.2⟩)⟩, ⟨by (with_reducible repeat first | apply rA | apply rN | apply rD); exact Kd.R_mono bm.out (fun _ hk => ⟨hk.1.2, hk.2⟩)⟩, ⟨by (with_reducible repeat first | apply rA | apply rN | apply rD); exact Kd.R_mono eO.out (fun _ hk => ⟨hk.1.2, hk.2⟩)⟩, ⟨tB0⟩⟩
         case round =>
          clear H'; try clear c1
          try clear c2
          try clear p2
          try clear c3
          try clear c4
          try clear c5
          try clear p5
          try clear q5
          try clear hx5
          try clear c6
          try clear p6
          try clear az
          try clear aE
          try clear bT
          try clear bU
          try clear aG
          try clear bV
          try clear bW
          try clear dt
          try clear aP
          try clear eQ
          try clear eR
          try clear aQ
          try clear ba
          try clear aU
          try clear b8
          try clear bd
          try clear cH
          try clear bf
          try clear bg
          try clear bh
          try clear aJ
          try clear cf
          try clear cg
          try clear cm
          try clear cn
          try clear hx55
          try clear bk
          try clear bl
          try clear co
          try clear aV
          try clear aW
          try clear aX
          try clear aY
          try clear aZ
          try clear b9
          try clear b_
          try clear ca
          try clear cc
          try clear cd
          try clear bG
          try clear bH
          try clear bI
          try clear bJ
          try clear bK
          try clear ch
          try clear ci
          try clear cj
          try clear ck
          try clear cl
          try clear p2
          try clear p5
          try clear cm
          try clear ai
          try clear aH
          try clear aq
          try clear aK
          try clear p6
          try clear co
          try clear q5
          try clear cn
          try clear aj
          try clear aI
          try clear ar
          try clear aN
          obtain ⟨ae, rfl, HA, au, D, ah, af, HB⟩ := hrel; cases gk with
          | zero => exact absurd HA.out (by simp [laws_FnPacked.l1])
          | succ k4 =>
           have H := HA.out; clear HA; simp only [laws_FnPacked.l1] at H; have cP := Aside0.mk H; clear H; go_upto_region 18 with (fail)
           go_cut [110] (fun eS wc => ∃ (kq : Nat) (cq : Bool), eS = .bool cq ∧ Aside0 (laws_FnPacked.j6 kq ac ad aA ae cq = some r) ∧ Aside0 (kq ≤ k4) ∧ Aside0 (Kd.R k51 51 wc w.heap.size (fun k_ => some k_ ≠ ((.slice a3 ad.length a6) : Value).ownBlock ∧ some k_ ≠ (bM : Value).ownBlock) (.slice am ac.length ao) ac) ∧ Aside0 (Kd.R k51 51 wc w.heap.size (fun k_ => some k_ ≠ ((.slice am ac.length ao) : Value).ownBlock ∧ some k_ ≠ (bM : Value).ownBlock) (.slice a3 ad.length a6) ad) ∧ Aside0 (Kd.R k51 51 wc w.heap.size (fun k_ => some k_ ≠ ((.slice am ac.length ao) : Value).ownBlock ∧ some k_ ≠ ((.slice a3 ad.length a6) : Value).ownBlock) bM aA) ∧ Aside0 (Below w.heap.size w wc))
           case first =>
            have H := cP.out; clear cP; by_cases bn : ae < (ad.length : Int)
            ·rw [if_pos bn] at H; have bO : decide (ae < (ad.length : Int)) = true := decide_eq_true bn; clear bn; (first | rw [bO] | (simp only [i64_w, i32_w]; rw [bO]) | skip); replace H := Option.bind_eq_some_iff.mp H; obtain ⟨dw, dx, H⟩ := H; have eT := Aside0.mk dx; clear dx; have H' := Aside0.mk H; clear H; go_wp2_with (first | (go_at_call 21; (with_reducible refine (impl_AreSlots.calls k4 _ _ ad dw _ ?side1 ?side2 eT.out).mono ?_); (case side1 => exact tC ah); (case side2 => exact (Kd.R_reads' ah.out).2.1); rintro e fY ⟨rfl, hb⟩; replace D := aM (Kd.R_below (qR D) hb); replace ah := aM (Kd.R_below (qR ah) hb); replace af := aM (Kd.R_below (qR af) hb); replace HB := aM (below_step (qB HB) hb); (try clear hb); (try clear hb2); (try clear hk); (try clear hi))); go_meet
             case rel => exact ⟨_, (dw), tS, H', ⟨by have := ak.out; have := ap.out; have := bL.out; have := au.out; first | omega | exact Nat.le_refl _⟩, ⟨tR D⟩, ⟨tR ah⟩, ⟨tR af⟩, ⟨tB0⟩⟩
            ·rw [if_neg bn] at H; have bO : decide (ae < (ad.length : Int)) = false := decide_eq_false bn; clear bn; (first | rw [bO] | (simp only [i64_w, i32_w]; rw [bO]) | skip); have H' := Aside0.mk H; clear H; go_wp2; go_meet
             case rel => exact ⟨_, (false), tS, H', ⟨by have := ak.out; have := ap.out; have := bL.out; have := au.out; first | omega | exact Nat.le_refl _⟩, ⟨tR D⟩, ⟨tR ah⟩, ⟨tR af⟩, ⟨tB0⟩⟩
           case rest =>
            clear cP; try clear c1
            try clear c2
            try clear p2
            try clear c3
            try clear c4
            try clear c5
            try clear p5
            try clear q5
            try clear hx5
            try clear c6
            try clear p6
            try clear c8
            try clear az
            try clear aE
            try clear bT
            try clear bU
            try clear aG
            try clear bV
            try clear bW
            try clear dt
            try clear aP
            try clear eQ
            try clear eR
            try clear aQ
            try clear ba
            try clear aU
            try clear b8
            try clear bd
            try clear cH
            try clear bf
            try clear bg
            try clear bh
            try clear aJ
            try clear cf
            try clear cg
            try clear cm
            try clear cn
            try clear hx55
            try clear bk
            try clear bl
            try clear co
            try clear bn
            try clear bO
            try clear aV
            try clear aW
            try clear aX
            try clear aY
            try clear aZ
            try clear b9
            try clear b_
            try clear ca
            try clear cc
            try clear cd
            try clear bG
            try clear bH
            try clear bI
            try clear bJ
            try clear bK
            try clear ch
            try clear ci
            try clear cj
            try clear ck
            try clear cl
            try clear p2
            try clear p5
            try clear cm
            try clear ai
            try clear aH
            try clear aq
            try clear aK
            try clear p6
            try clear co
            try clear q5
            try clear cn
            try clear aj
            try clear aI
            try clear ar
            try clear aN
            obtain ⟨kq, cq, rfl, HA, cr, D, ah, af, HB⟩ := hcut; cases kq with
            | zero => exact absurd HA.out (by simp [laws_FnPacked.j6])
            | succ bo =>
             have H := HA.out; clear HA; simp only [laws_FnPacked.j6] at H; by_cases ct : cq = true
             ·subst ct; rw [if_pos rfl] at H; by_cases cu : 0 ≤ ae
              ·rw [if_pos cu] at H; have f5 : decide (0 ≤ ae) = true := decide_eq_true cu; clear cu; by_cases cw : ae < (ad.length : Int)
               ·rw [if_pos cw] at H; have f6 : decide (ae < (ad.length : Int)) = true := decide_eq_true cw; clear cw; by_cases bp : ((rd_T51 ad ae).f2) = 0
                ·rw [if_pos bp] at H; have eU : (((rd_T51 ad ae).f2) == 0) = true := beq_iff_eq.mpr bp; have eV : (((rd_T51 ad ae).f2) != 0) = false := bne_eq_false_iff_eq.mpr bp; clear bp; have H' := Aside0.mk H; clear H; have aC : 0 ≤ (ae : Int) := of_decide_eq_true ‹_›; have aD : ae < (ad.length : Int) := of_decide_eq_true ‹_›; obtain ⟨cx, bZ, dy, dz, dA⟩ := at_T51 (Kd.R_reads' ah.out).2.2 ae aC aD; cases bZ
                 replace aC := eq_true aC; replace aD := eq_true aD; go_wp2; go_roundg bo
                 case measure => have := ak.out; have := ap.out; have := bL.out; have := au.out; have := cr.out; omega
                 case rel => exact ⟨(wrap64 (ae + 1)), tS, H', ⟨by have := ak.out; have := ap.out; have := bL.out; have := au.out; have := cr.out; omega⟩, ⟨tR D⟩, ⟨tR ah⟩, ⟨tR af⟩, ⟨tB0⟩⟩
                ·rw [if_neg bp] at H; have eU : (((rd_T51 ad ae).f2) == 0) = false := beq_eq_false_iff_ne.mpr bp; have eV : (((rd_T51 ad ae).f2) != 0) = true := bne_iff_ne.mpr bp; replace H := Option.bind_eq_some_iff.mp H; obtain ⟨bq, dC, H⟩ := H; have dD := Aside0.mk dC; clear dC; by_cases br : bq = 0
                 ·rw [if_pos br] at H; have eW : (bq == 0) = true := beq_iff_eq.mpr br; have eX : (bq != 0) = false := bne_eq_false_iff_eq.mpr br; clear br; obtain rfl := Option.some.inj H; have aC : 0 ≤ (ae : Int) := of_decide_eq_true ‹_›; have aD : ae < (ad.length : Int) := of_decide_eq_true ‹_›; obtain ⟨cx, bZ, dy, dz, dA⟩ := at_T51 (Kd.R_reads' ah.out).2.2 ae aC aD; cases bZ
                  replace aC := eq_true aC; replace aD := eq_true aD; have bs : 0 ≤ (ae : Int) := of_decide_eq_true ‹_›; have bt : ae < (ad.length : Int) := of_decide_eq_true ‹_›; obtain ⟨cQ, cR, eY, eZ, e7⟩ := at_T51 (Kd.R_reads' ah.out).2.2 ae bs bt; obtain rfl : cx = cQ := (by injection cR)
                  replace bs := eq_true bs; replace bt := eq_true bt; obtain ⟨f7, f8, e8⟩ := Kd.R_slice af.out; subst e8; go_wp2_with (first | (go_at_call 25; (with_reducible refine (impl_SlotOf.calls _ _ aA ((rd_T51 ad ae).f2) bq _ ?side1 ?side2 dD.out).mono ?_); (case side1 => exact tC af); (case side2 => exact (Kd.R_reads' af.out).2.1); rintro e f9 ⟨rfl, hb⟩; replace D := aM (Kd.R_below (qR D) hb); replace ah := aM (Kd.R_below (qR ah) hb); replace af := aM (Kd.R_below (qR af) hb); replace HB := aM (below_step (qB HB) hb); (try clear hb); (try clear hb2); (try clear hk); (try clear hi))); go_ret; exact ⟨tE, tB0⟩
                 ·rw [if_neg br] at H; have eW : (bq == 0) = false := beq_eq_false_iff_ne.mpr br; have eX : (bq != 0) = true := bne_iff_ne.mpr br; have H' := Aside0.mk H; clear H; have aC : 0 ≤ (ae : Int) := of_decide_eq_true ‹_›; have aD : ae < (ad.length : Int) := of_decide_eq_true ‹_›; obtain ⟨cx, bZ, dy, dz, dA⟩ := at_T51 (Kd.R_reads' ah.out).2.2 ae aC aD; cases bZ
                  replace aC := eq_true aC; replace aD := eq_true aD; have bs : 0 ≤ (ae : Int) := of_decide_eq_true ‹_›; have bt : ae < (ad.length : Int) := of_decide_eq_true ‹_›; obtain ⟨cQ, cR, eY, eZ, e7⟩ := at_T51 (Kd.R_reads' ah.out).2.2 ae bs bt; obtain rfl : cx = cQ := (by injection cR)
                  replace bs := eq_true bs; replace bt := eq_true bt; obtain ⟨f_, ga, e9⟩ := Kd.R_slice af.out; subst e9; go_wp2_with (first | (go_at_call 25; (with_reducible refine (impl_SlotOf.calls _ _ aA ((rd_T51 ad ae).f2) bq _ ?side1 ?side2 dD.out).mono ?_); (case side1 => exact tC af); (case side2 => exact (Kd.R_reads' af.out).2.1); rintro e gb ⟨rfl, hb⟩; replace D := aM (Kd.R_below (qR D) hb); replace ah := aM (Kd.R_below (qR ah) hb); replace af := aM (Kd.R_below (qR af) hb); replace HB := aM (below_step (qB HB) hb); (try clear hb); (try clear hb2); (try clear hk); (try clear hi))); go_roundg bo
                  case measure => have := ak.out; have := ap.out; have := bL.out; have := au.out; have := cr.out; omega
                  case rel => exact ⟨(wrap64 (ae + 1)), tS, H', ⟨by have := ak.out; have := ap.out; have := bL.out; have := au.out; have := cr.out; omega⟩, ⟨tR D⟩, ⟨tR ah⟩, ⟨tR af⟩, ⟨tB0⟩⟩
               ·rw [if_neg cw] at H; exact absurd H (by simp)
              ·rw [if_neg cu] at H; exact absurd H (by simp)
             ·replace ct := Bool.eq_false_iff.mpr ct; subst ct; rw [if_neg ff_] at H; replace H := Option.bind_eq_some_iff.mp H; obtain ⟨bu, dE, H⟩ := H; have dF := Aside0.mk dE; clear dE; replace H := Option.bind_eq_some_iff.mp H; obtain ⟨bv, dG, H⟩ := H; have dH := Aside0.mk dG; clear dG; by_cases bw : bu = bv
              ·rw [if_pos bw] at H; have fa : (bu == bv) = true := beq_iff_eq.mpr bw; have fb : (bu != bv) = false := bne_eq_false_iff_eq.mpr bw; clear bw; replace H := Option.bind_eq_some_iff.mp H; obtain ⟨fc, dI, H⟩ := H; have fd := Aside0.mk dI; clear dI; obtain rfl := Option.some.inj H; obtain ⟨fe, ff, fg⟩ := Kd.R_slice af.out; subst fg; go_wp2_with (first | ((with_reducible refine gate_callee (f := 23) rfl ?_); refine gl 130 Try.func23 #[.slice fe aA.length ff] ?_; (with_reducible refine (impl_FreeSlots.calls bo _ _ aA bu _ ?side1 ?side2 dF.out).mono ?_); (case side1 => exact tC af); (case side2 => exact (Kd.R_reads' af.out).2.1); rintro e gc ⟨rfl, hb⟩; refine ⟨_, rfl, ?_⟩; replace D := aM (Kd.R_below (qR D) hb); replace ah := aM (Kd.R_below (qR ah) hb); replace af := aM (Kd.R_below (qR af) hb); replace HB := aM (below_step (qB HB) hb); (try clear hb); (try clear hb2); (try clear hk); (try clear hi)) | ((with_reducible refine gate_callee (f := 23) rfl ?_); refine gl 132 Try.func23 #[.slice a3 ad.length a6] ?_; (with_reducible refine (impl_FreeSlots.calls bo _ _ ad bv _ ?side1 ?side2 dH.out).mono ?_); (case side1 => exact tC ah); (case side2 => exact (Kd.R_reads' ah.out).2.1); rintro e gd ⟨rfl, hb⟩; refine ⟨_, rfl, ?_⟩; replace D := aM (Kd.R_below (qR D) hb); replace ah := aM (Kd.R_below (qR ah) hb); replace af := aM (Kd.R_below (qR af) hb); replace HB := aM (below_step (qB HB) hb); (try clear hb); (try clear hb2); (try clear hk); (try clear hi)) | (go_at_call 28; (with_reducible refine (impl_LargestFree.calls bo _ _ ac fc _ ?side1 ?side2 fd.out).mono ?_); (case side1 => exact tC D); (case side2 => exact (Kd.R_reads' D.out).2.1); rintro e ge ⟨rfl, hb⟩; replace D := aM (Kd.R_below (qR D) hb); replace ah := aM (Kd.R_below (qR ah) hb); replace af := aM (Kd.R_below (qR af) hb); replace HB := aM (below_step (qB HB) hb); (try clear hb); (try clear hb2); (try clear hk); (try clear hi))); go_ret; exact ⟨tE, tB0⟩
              ·rw [if_neg bw] at H; have fa : (bu == bv) = false := beq_eq_false_iff_ne.mpr bw; have fb : (bu != bv) = true := bne_iff_ne.mpr bw; obtain rfl := Option.some.inj H; obtain ⟨fh, fi, fj⟩ := Kd.R_slice af.out; subst fj; go_wp2_with (first | ((with_reducible refine gate_callee (f := 23) rfl ?_); refine gl 130 Try.func23 #[.slice fh aA.length fi] ?_; (with_reducible refine (impl_FreeSlots.calls bo _ _ aA bu _ ?side1 ?side2 dF.out).mono ?_); (case side1 => exact tC af); (case side2 => exact (Kd.R_reads' af.out).2.1); rintro e gf ⟨rfl, hb⟩; refine ⟨_, rfl, ?_⟩; replace D := aM (Kd.R_below (qR D) hb); replace ah := aM (Kd.R_below (qR ah) hb); replace af := aM (Kd.R_below (qR af) hb); replace HB := aM (below_step (qB HB) hb); (try clear hb); (try clear hb2); (try clear hk); (try clear hi)) | ((with_reducible refine gate_callee (f := 23) rfl ?_); refine gl 132 Try.func23 #[.slice a3 ad.length a6] ?_; (with_reducible refine (impl_FreeSlots.calls bo _ _ ad bv _ ?side1 ?side2 dH.out).mono ?_); (case side1 => exact tC ah); (case side2 => exact (Kd.R_reads' ah.out).2.1); rintro e gh ⟨rfl, hb⟩; refine ⟨_, rfl, ?_⟩; replace D := aM (Kd.R_below (qR D) hb); replace ah := aM (Kd.R_below (qR ah) hb); replace af := aM (Kd.R_below (qR af) hb); replace HB := aM (below_step (qB HB) hb); (try clear hb); (try clear hb2); (try clear hk); (try clear hi))); go_ret; exact ⟨tE, tB0⟩

/-- THE ONE PURE STATEMENT of laws_FnPacked: yours. -/
def laws_FnPacked.Pure : Prop := ∀ (l0 : List Int), l0.length ≤ maxLen → l0.length * 1 ≤ 140737488351232 → (∀ x ∈ l0, (Lit.int .u8 x).wf = true) → ∃ k, laws_FnPacked.f k l0 = some true
theorem laws_FnPacked.walk (P : laws_FnPacked.Pure) (a0 : Option Addr) (len0 cap0 : Nat) (z0 : List Int) (w : World) (w0 : (a0 = none ∧ len0 = 0 ∧ cap0 = 0 ∧ z0 = []) ∨ ∃ x, a0 = some x ∧ len0 ≤ cap0 ∧ cap0 ≤ maxLen ∧ z0.length = cap0 ∧ (∀ i, i < z0.length → w.cell? (x.add i) = some (.int .u8 (z0.getD i 0))) ∧ ∀ n ∈ z0, (Lit.int .u8 n).wf = true) (y0 : len0 * 1 ≤ 140737488351232) :
  Calls Try.prog 4 #[.slice a0 len0 cap0] w fun e w' => e = .returned (.bool true) ∧ Below w.heap.size w w' := by
 obtain ⟨l0, rfl, hr0, hm0, hw0, hc0⟩ := ReadsInt.ofRowC w0; obtain ⟨k, h⟩ := P l0 hm0 y0 hw0; refine (laws_FnPacked.calls k _ _ l0 true w (Kd.C_of_reads (d := (0 : Int)) (h1 := fun _ => rfl) hr0) hc0 h).mono ?_; rintro e w' ⟨rfl, hd⟩; exact ⟨rfl, hd⟩

end Go.Proofs.Ytbacepkkamfeoaa.PFnPacked
