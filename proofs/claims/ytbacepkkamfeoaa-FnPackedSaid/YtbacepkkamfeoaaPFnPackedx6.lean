-- The printed functions of one law and their contracts, over contracts of this session's own (hand.py).
import Derived.Test.YtbacepkkamfeoaaPFnPackedx0
import Derived.Test.YtbacepkkamfeoaaPFnPackedx2
import Derived.Test.YtbacepkkamfeoaaPFnPackedx4
import Derived.Test.YtbacepkkamfeoaaPFnPackedx5
namespace Go.Proofs.Ytbacepkkamfeoaa.PFnPacked
open Go.RowKit Go.Proofs.YtbacepkkamfeoaaW.PrintWords Go.Proofs.YtbacepkkamfeoaaW.PrintLast Go.Proofs.YtbacepkkamfeoaaW.PrintMore Go.Proofs.Ytbacepkkamfeoaa.Short
attribute [local go_sem] max2_int min2_int max_two min_two max_three min_three max_four min_four   -- for this text's walks alone
set_option linter.unusedVariables false
set_option linter.unusedSimpArgs false

/-! ### impl_PutAll: function 19 -/
mutual
def impl_PutAll.j0 : Nat → List (S47) → List (S51) → List Int → Bool → Option ((List (S51)) × List Int)
 | 0, _, _, _, _ => none
 | k + 1, x1, x6, x7, x22 => if x22 = true then (some (x6, x7)) else ((impl_Thing_69.f x1).bind fun t163 => ((impl_Thing_70.f t163 777777).bind fun t166 => (impl_PutAll.l0 k x6 x7 t166 (t163.length : Int) 0)))
def impl_PutAll.l0 : Nat → List (S51) → List Int → List (S47) → Int → Int → Option ((List (S51)) × List Int)
 | 0, _, _, _, _, _ => none
 | k + 1, x6, x7, J, L, D => if D < L then (if 0 ≤ D then (if D < (J.length : Int) then ((impl_PutAway.f k x6 ((rd_T47 J D).f0) ((rd_T47 J D).f1) ((rd_T47 J D).f2) ((rd_T47 J D).f3) ((rd_T47 J D).f4)).bind fun Y => (if Y.2 = true then (impl_PutAll.l0 k Y.1 x7 J L (wrap64 (D + 1))) else (if x7.length < 17592186044416 then (impl_PutAll.l0 k Y.1 (x7 ++ [(rd_T47 J D).f0]) J L (wrap64 (D + 1))) else (none)))) else (none)) else (none)) else ((slices_Sort_int_int.f x7).bind fun aa => (some (x6, aa)))
end
def impl_PutAll.f (k : Nat) (l0 : List (S51)) (l1 : List (S47)) : Option ((List (S51)) × List Int) := (impl_Slot_68.f l0).bind fun t155 => ((some (([] : List Int) : List Int)).bind fun y158 => ((impl_AreSlots.f k l0).bind fun t161 => (if t161 = true then ((impl_AreThings.f k l1).bind fun t162 => (impl_PutAll.j0 k l1 t155 y158 (!t162))) else (impl_PutAll.j0 k l1 t155 y158 true))))
theorem impl_PutAll.mono_l : ∀ k, (∀ y0 y1 y2 y3, LeO (impl_PutAll.j0 k y0 y1 y2 y3) (impl_PutAll.j0 (k + 1) y0 y1 y2 y3)) ∧ (∀ y0 y1 y2 y3 y4, LeO (impl_PutAll.l0 k y0 y1 y2 y3 y4) (impl_PutAll.l0 (k + 1) y0 y1 y2 y3 y4))
 | 0 => ⟨fun _ _ _ _ r h => by simp [impl_PutAll.j0] at h, fun _ _ _ _ _ r h => by simp [impl_PutAll.l0] at h⟩
 | k + 1 => by
  obtain ⟨ih0, ih1⟩ := impl_PutAll.mono_l k; refine ⟨?_, ?_⟩; all_goals (intros; (first | unfold impl_PutAll.j0 | unfold impl_PutAll.l0); repeat' first | (with_reducible exact ih0 _ _ _ _) | (with_reducible exact ih1 _ _ _ _ _) | (with_reducible exact impl_AreSlots.mono _ _) | (with_reducible exact impl_AreThings.mono _ _) | (with_reducible exact impl_PutAway.mono _ _ _ _ _ _ _) | (with_reducible exact LeO.refl _) | (with_reducible exact LeO.none _) | (with_reducible refine LeO.ite ?_ ?_) | (with_reducible refine LeO.bind ?_ (fun _ => ?_)) | exact ih0 _ _ _ _ | exact ih1 _ _ _ _ _ | exact impl_AreSlots.mono _ _ | exact impl_AreThings.mono _ _ | exact impl_PutAway.mono _ _ _ _ _ _ _ | exact LeO.none _ | refine LeO.ite ?_ ?_ | refine LeO.bind ?_ (fun _ => ?_))
theorem impl_PutAll.mono : ∀ a0 a1 k, LeO (impl_PutAll.f k a0 a1) (impl_PutAll.f (k + 1) a0 a1) := by
 intro a0 a1 k; obtain ⟨ih0, ih1⟩ := impl_PutAll.mono_l k; unfold impl_PutAll.f
 repeat' first
   | (with_reducible exact ih0 _ _ _ _)
   | (with_reducible exact ih1 _ _ _ _ _)
   | (with_reducible exact impl_AreSlots.mono _ _)
   | (with_reducible exact impl_AreThings.mono _ _)
   | (with_reducible exact impl_PutAway.mono _ _ _ _ _ _ _)
   | (with_reducible exact LeO.refl _)
   | (with_reducible exact LeO.none _)
   | (with_reducible refine LeO.ite ?_ ?_)
   | (with_reducible refine LeO.bind ?_ (fun _ => ?_))
   | exact ih0 _ _ _ _
   | exact ih1 _ _ _ _ _
   | exact impl_AreSlots.mono _ _
   | exact impl_AreThings.mono _ _
   | exact impl_PutAway.mono _ _ _ _ _ _ _
   | exact LeO.none _
   | refine LeO.ite ?_ ?_
   | refine LeO.bind ?_ (fun _ => ?_)
set_option maxHeartbeats 8000000 in
set_option maxRecDepth 100000 in
theorem impl_PutAll.calls (k : Nat) (A0 : Option Addr) (c0 : Nat) (l0 : List (S51)) (A1 : Option Addr) (c1 : Nat) (l1 : List (S47)) (r1 : List (S51)) (r2 : List Int) (w : World) (hr0 : Kd.C k51 w A0 l0.length l0) (hc0 : l0.length ≤ c0) (hr1 : Kd.C k47 w A1 l1.length l1) (hc1 : l1.length ≤ c1) (h : impl_PutAll.f k l0 l1 = some (r1, r2)) :
  Calls Try.prog 19 #[.slice A0 l0.length c0, .slice A1 l1.length c1] w fun e w' => ∃ v0_ v1_ : Value, e = .returned (.tuple #[v0_, v1_]) ∧ Kd.R k51 51 w' w.heap.size (fun _ => True) v0_ r1 ∧ Kd.R (Kd.int .i64) 3 w' w.heap.size (fun _ => True) v1_ r2 ∧ Below w.heap.size w w' := by
 have hu47 := Try.underlying47; have aU := Aside0.mk hr0; have aV := Aside0.mk hc0; clear hr0 hc0; have a7 := Aside0.mk hr1; have a8 := Aside0.mk hc1; clear hr1 hc1; have HB := aM (Below.refl w.heap.size w); have H : ((impl_Slot_68.f l0).bind fun al => ((some (([] : List Int) : List Int)).bind fun aq => ((impl_AreSlots.f k l0).bind fun aW => (if aW = true then ((impl_AreThings.f k l1).bind fun az => (impl_PutAll.j0 k l1 al aq (!az))) else (impl_PutAll.j0 k l1 al aq true))))) = some (r1, r2) := h; clear h; replace H := Option.bind_eq_some_iff.mp H; obtain ⟨al, a9, H⟩ := H; have A3 := Aside0.mk a9; clear a9; obtain ⟨aq, aA⟩ : ∃ y_ : List Int, y_ = (([] : List Int)) := ⟨_, rfl⟩
 (first | replace H := bY H aA | rw [← aA] at H | skip); have a_ := Aside0.mk aA; clear aA; have aX := Aside0.mk H; clear H; go_enter Try.func19, Try.ntmps19; go_upto_region 2 with (first | ((with_reducible refine gate_callee (f := 68) rfl ?_); refine gl 13 Try.func68 #[.slice A0 l0.length c0] ?_; (with_reducible refine (impl_Slot_68.calls _ _ l0 al _ ?side1 ?side2 A3.out).mono ?_); (case side1 => repeat (first | exact aU.out | (with_reducible refine Kd.C_alloc ?_ _) | (with_reducible refine Kd.C_drewN ?_ _) | (with_reducible refine Kd.C_drew ?_))); (case side2 => exact aV.out); rintro e w5 ⟨bm, rfl, ae, hb⟩; refine ⟨_, rfl, ?_⟩; have ag := aM (Kd.R_lower ae (below_size (qB HB))); replace HB := aM (below_step (qB HB) hb); (try clear hb); (try clear hb2); (try clear hk); (try clear hi); (try clear ae)) | ((with_reducible refine gate_dst (N := 14) rfl ?_); refine Kd.R_lit (Kd.int .i64) _ 3 ?hg (N := 14) ?hd (xs := ([] : List Int)) (inner := []) (ok := fun _ => True) (okp := fun _ => True) ?hr ?hp (fun _ hk => hk) trivial (Below.refl _ _) (Nat.le_refl _) (by simp) ?_; (case hd => rfl); (case hg => rfl); (case hr => first | (go_simp; done) | (go_simp; rfl)); (case hp => exact (Reps.none _ _)); intro bn w6 av hb hg_ hnew_; clear hg_ hnew_; (first | rw [← a_.out] at av | (simp only [Int.reduceToNat] at av; rw [← a_.out] at av)); replace ag := aM (Kd.R_below (qR ag) hb); have ak := aM (Kd.R_lower av (below_size (qB HB))); replace HB := aM (below_step (qB HB) hb); clear hb av))
 (try simp only [Act.put, sA, sZ, sS]); go_cut [22] (fun bo wc => ∃ (kq : Nat) (aC : Bool), bo = .bool aC ∧ Aside0 (impl_PutAll.j0 kq l1 al aq aC = some (r1, r2)) ∧ Aside0 (kq ≤ k) ∧ Aside0 (Kd.R k51 51 wc w.heap.size (fun _ => True) bm al) ∧ Aside0 (Kd.R (Kd.int .i64) 3 wc w.heap.size (fun _ => True) bn aq) ∧ Aside0 (Below w.heap.size w wc))
 case first =>
  have H := aX.out; clear aX; replace H := Option.bind_eq_some_iff.mp H; obtain ⟨aW, ba, H⟩ := H; have A8 := Aside0.mk ba; clear ba; by_cases c9 : aW = true
  ·subst c9; rw [if_pos rfl] at H; replace H := Option.bind_eq_some_iff.mp H; obtain ⟨az, bc, H⟩ := H; have bp := Aside0.mk bc; clear bc; have H' := Aside0.mk H; clear H; go_wp2_with (first | ((with_reducible refine gate_callee (f := 21) rfl ?_); refine gl 16 Try.func21 #[.slice A0 l0.length c0] ?_; (with_reducible refine (impl_AreSlots.calls k _ _ l0 true _ ?side1 ?side2 A8.out).mono ?_); (case side1 => exact qC (Kd.C_below aU.out HB.out)); (case side2 => exact aV.out); rintro e b2 ⟨rfl, hb⟩; refine ⟨_, rfl, ?_⟩; replace ag := aM (Kd.R_below (qR ag) hb); replace ak := aM (Kd.R_below (qR ak) hb); replace HB := aM (below_step (qB HB) hb); (try clear hb); (try clear hb2); (try clear hk); (try clear hi)) | (go_at_call 22; (with_reducible refine (impl_AreThings.calls k _ _ l1 az _ ?side1 ?side2 bp.out).mono ?_); (case side1 => exact qC (Kd.C_below a7.out HB.out)); (case side2 => exact a8.out); rintro e b3 ⟨rfl, hb⟩; replace ag := aM (Kd.R_below (qR ag) hb); replace ak := aM (Kd.R_below (qR ak) hb); replace HB := aM (below_step (qB HB) hb); (try clear hb); (try clear hb2); (try clear hk); (try clear hi))); go_meet
   case rel => exact ⟨_, (!az), tS, H', ⟨by first | omega | exact Nat.le_refl _⟩, ⟨tR ag⟩, ⟨tR ak⟩, ⟨tB0⟩⟩
  ·replace c9 := Bool.eq_false_iff.mpr c9; subst c9; rw [if_neg ff_] at H; have H' := Aside0.mk H; clear H; go_wp2_with (first | ((with_reducible refine gate_callee (f := 21) rfl ?_); refine gl 16 Try.func21 #[.slice A0 l0.length c0] ?_; (with_reducible refine (impl_AreSlots.calls k _ _ l0 false _ ?side1 ?side2 A8.out).mono ?_); (case side1 => exact qC (Kd.C_below aU.out HB.out)); (case side2 => exact aV.out); rintro e b4 ⟨rfl, hb⟩; refine ⟨_, rfl, ?_⟩; replace ag := aM (Kd.R_below (qR ag) hb); replace ak := aM (Kd.R_below (qR ak) hb); replace HB := aM (below_step (qB HB) hb); (try clear hb); (try clear hb2); (try clear hk); (try clear hi))); go_meet
   case rel => exact ⟨_, (true), tS, H', ⟨by first | omega | exact Nat.le_refl _⟩, ⟨tR ag⟩, ⟨tR ak⟩, ⟨tB0⟩⟩
 case rest =>
  clear aX; try clear c1
  try clear c2
  try clear p2
  try clear c6
  try clear c9
  obtain ⟨kq, aC, rfl, HA, aD, Y, L, HB⟩ := hcut; cases kq with
  | zero => exact absurd HA.out (by simp [impl_PutAll.j0])
  | succ bd =>
   have H := HA.out; clear HA; simp only [impl_PutAll.j0] at H; by_cases aw : aC = true
   ·subst aw; rw [if_pos rfl] at H; simp only [Option.some.injEq, Prod.mk.injEq] at H; obtain ⟨rfl, rfl⟩ := H; go_wp2; go_ret2; exact ⟨_, _, tE, tR Y, tR L, tB0⟩
   ·replace aw := Bool.eq_false_iff.mpr aw; subst aw; rw [if_neg ff_] at H; replace H := Option.bind_eq_some_iff.mp H; obtain ⟨ah, be, H⟩ := H; have bs := Aside0.mk be; clear be; replace H := Option.bind_eq_some_iff.mp H; obtain ⟨J, bf, H⟩ := H; have bt := Aside0.mk bf; clear bf; have H' := Aside0.mk H; clear H; go_wp2_with (first | ((with_reducible refine gate_callee (f := 69) rfl ?_); refine gl 26 Try.func69 #[.slice A1 l1.length c1] ?_; (with_reducible refine (impl_Thing_69.calls _ _ l1 ah _ ?side1 ?side2 bs.out).mono ?_); (case side1 => exact qC (Kd.C_below a7.out HB.out)); (case side2 => exact a8.out); rintro e b5 ⟨b6, rfl, ae, hb⟩; refine ⟨_, rfl, ?_⟩; replace Y := aM (Kd.R_below (qR Y) hb); replace L := aM (Kd.R_below (qR L) hb); have am := aM (Kd.R_lower ae (below_size (qB HB))); replace HB := aM (below_step (qB HB) hb); (try clear hb); (try clear hb2); (try clear hk); (try clear hi); (try clear ae); obtain ⟨aE, aG, bu⟩ := Kd.R_slice am.out; subst bu) | ((with_reducible refine gate_callee (f := 70) rfl ?_); refine gl 28 Try.func70 #[.slice aE ah.length aG, .func (.func 71) #[] #[]] ?_; (with_reducible refine (impl_Thing_70.calls (fun k_ => some k_ = (.slice aE ah.length aG : Value).ownBlock) (.slice aE ah.length aG) ah 777777 J w _ ?side1 ?side2 bt.out).mono ?_); (case side1 => repeat (first | (with_reducible first | exact HB.out | apply bA | apply bN | apply bD) | exact HB.out)); (case side2 => exact Kd.R_tight rfl am.out); rintro e b7 ⟨rfl, ax, hb, hkp⟩; refine ⟨_, rfl, ?_⟩; replace Y := aM (Kd.R_mono (ok' := fun k_ => True) (Kd.R_keptB ((Kd.R_apart' Y.out (Kd.R_typed am.out) (by decide))) hkp (fun k_ hk_ hs_ => (hk_.2) hs_)) (fun k_ hk_ => trivial)); replace L := aM (Kd.R_mono (ok' := fun k_ => True) (Kd.R_keptB ((Kd.R_apart' L.out (Kd.R_typed am.out) (by decide))) hkp (fun k_ hk_ hs_ => (hk_.2) hs_)) (fun k_ hk_ => trivial)); replace am := aM (Kd.R_reok rfl ax (fun k_ e_ => am.out.1 k_ e_)); replace HB := aM hb; (try clear hb); (try clear hkp); (try clear ax))); go_loopg [6, 7, 31] bd (fun kq v6 v7 bz w' => ∃ (ai : List (S51)) (af : List Int) (D : Int), bz = .int .i64 D ∧ Aside0 (impl_PutAll.l0 kq ai af J (ah.length : Int) D = some (r1, r2)) ∧ Aside0 (kq ≤ bd) ∧ Aside0 (Kd.R k51 51 w' w.heap.size (fun _ => True) v6 ai) ∧ Aside0 (Kd.R (Kd.int .i64) 3 w' w.heap.size (fun _ => True) v7 af) ∧ Aside0 (Kd.R k47 47 w' w.heap.size (fun _ => True) (.slice aE ah.length aG) J) ∧ Aside0 (Below w.heap.size w w'))
    case atStart => exact ⟨(al), (aq), (0), tS, H', ⟨Nat.le_refl _⟩, ⟨tR Y⟩, ⟨tR L⟩, ⟨tR am⟩, ⟨tB0⟩⟩
    case round =>
     clear H'; try clear c1
     try clear c2
     try clear p2
     try clear c6
     try clear c7
     try clear c9
     try clear aw
     try clear b9
     try clear p2
     obtain ⟨ai, af, D, rfl, HA, aH, Y, L, ac, HB⟩ := hrel; have ad := (Kd.R_reads' ac.out).1; rw [ad] at ac; (try simp only [ad]); (try simp only [ad] at Y); (try simp only [ad] at L); cases gk with
     | zero => exact absurd HA.out (by simp [impl_PutAll.l0])
     | succ k2 =>
      have H := HA.out; clear HA; simp only [impl_PutAll.l0] at H; by_cases au : D < (ah.length : Int)
      ·rw [if_pos au] at H; have aY : decide (D < (ah.length : Int)) = true := decide_eq_true au; (try rw [ad] at aY); clear au; by_cases aI : 0 ≤ D
       ·rw [if_pos aI] at H; have b_ : decide (0 ≤ D) = true := decide_eq_true aI; clear aI; by_cases aJ : D < (J.length : Int)
        ·rw [if_pos aJ] at H; have ca : decide (D < (J.length : Int)) = true := decide_eq_true aJ; clear aJ; replace H := Option.bind_eq_some_iff.mp H; obtain ⟨⟨aK, bB⟩, bg, H⟩ := H; have bh := Aside0.mk bg; clear bg; by_cases aN : bB = true
         ·subst aN; rw [if_pos rfl] at H; have H' := Aside0.mk H; clear H; have ao : 0 ≤ (D : Int) := of_decide_eq_true ‹_›; have ap : D < (J.length : Int) := of_decide_eq_true ‹_›; obtain ⟨bC, aZ, bE, bF, bG, bH, bI⟩ := at_T47 (Kd.R_reads' ac.out).2.2 D ao ap; cases aZ
          replace ao := eq_true ao; replace ap := eq_true ap; go_wp2_with (first | ((with_reducible refine gate_dst (N := 10) rfl ?_); refine bx 10 #[.int .i64 0, .int .i64 0, .int .i64 0, .int .i64 0, .int .i64 0] 47 ?_; intro ab hg cc hbox hb; replace Y := aM (Kd.R_below (qR Y) hb); replace L := aM (Kd.R_below (qR L) hb); replace ac := aM (Kd.R_below (Kd.R_elderB (qR ac) ab (Nat.le_of_eq hg.symm)) hb); have aa := aM hbox; have bJ := aM ((by rw [hg]; exact (below_size (qB HB)) : w.heap.size ≤ ab)); have aj := aM ((by rw [hg]; exact (below_size (qB HB)) : w.heap.size ≤ ab)); replace HB := aM (below_step (qB HB) hb); clear hb hbox hg; obtain ⟨cd, ce, cf, cg, ch⟩ := cz5 aa; obtain ⟨ci, cj, ck, cl, cm⟩ := fz5 aa; obtain ⟨bK, bi, bL⟩ := Kd.R_slice Y.out; subst bL) | ((with_reducible refine gate_callee (f := 73) rfl ?_); refine gl 38 Try.func73 #[.slice bK ai.length bi, .agg #[.int .i64 ((rd_T47 J D).f0), .int .i64 ((rd_T47 J D).f1), .int .i64 ((rd_T47 J D).f2), .int .i64 ((rd_T47 J D).f3), .int .i64 ((rd_T47 J D).f4)]] ?_; (with_reducible refine (impl_PutAway.calls k2 _ _ ai ((rd_T47 J D).f0) ((rd_T47 J D).f1) ((rd_T47 J D).f2) ((rd_T47 J D).f3) ((rd_T47 J D).f4) aK true _ ?side1 ?side2 bh.out).mono ?_); (case side1 => refine (Kd.R_reads' (e := 51) (base := w.heap.size) (ok := fun k_ => True) (n := ai.length) (c := bi) ?_).2.2; exact (by (with_reducible repeat first | apply rA | apply rN | apply rD); exact (far5 Y aa))); (case side2 => exact (Kd.R_reads' Y.out).2.1); rintro e cn ⟨bM, rfl, ae, hb⟩; refine ⟨_, rfl, ?_⟩; replace L := aM (Kd.R_below (by (with_reducible repeat first | apply rA | apply rN | apply rD); exact (far5 L aa)) hb); replace ac := aM (Kd.R_below (by (with_reducible repeat first | apply rA | apply rN | apply rD); exact (Kd.R_mono (Kd.R_far (p := ⟨ab, 4, none⟩) (Kd.R_far (p := ⟨ab, 3, none⟩) (Kd.R_far (p := ⟨ab, 2, none⟩) (Kd.R_far (p := ⟨ab, 1, none⟩) (Kd.R_far (p := ⟨ab, 0, none⟩) (Kd.R_mono ac.out (fun k_ hk => (⟨hk, hk.2⟩ : _ ∧ k_ ≠ ab))) (fun _ hk => hk.2) (.int .i64 ((rd_T47 J D).f0))) (fun _ hk => hk.2) (.int .i64 ((rd_T47 J D).f1))) (fun _ hk => hk.2) (.int .i64 ((rd_T47 J D).f2))) (fun _ hk => hk.2) (.int .i64 ((rd_T47 J D).f3))) (fun _ hk => hk.2) (.int .i64 ((rd_T47 J D).f4))) (fun _ h_ => h_.1))) hb); have ay := aM (Kd.R_lower (Kd.R_new' ae (Kd.R_lt (by (with_reducible repeat first | apply rA | apply rN | apply rD); exact (far5 Y aa)))) (below_size (tB1 aj))); replace Y := aM (Kd.R_elder' (by (with_reducible repeat first | apply rA | apply rN | apply rD); exact (far5 Y aa)) (Kd.R_base ae) hb); replace aa := aM (blk_below (g := ab) (o := .cells #[.int .i64 ((rd_T47 J D).f0), .int .i64 ((rd_T47 J D).f1), .int .i64 ((rd_T47 J D).f2), .int .i64 ((rd_T47 J D).f3), .int .i64 ((rd_T47 J D).f4)] 47 (0, 0)) (by (with_reducible repeat first | refine kN ?_ _ | refine kD ?_ | refine kA ?_ _); refine blk_put (cs := #[.int .i64 ((rd_T47 J D).f0), .int .i64 ((rd_T47 J D).f1), .int .i64 ((rd_T47 J D).f2), .int .i64 ((rd_T47 J D).f3), .int .i64 0]) ?_ 4 _ rfl; (with_reducible repeat first | refine kN ?_ _ | refine kD ?_ | refine kA ?_ _); refine blk_put (cs := #[.int .i64 ((rd_T47 J D).f0), .int .i64 ((rd_T47 J D).f1), .int .i64 ((rd_T47 J D).f2), .int .i64 0, .int .i64 0]) ?_ 3 _ rfl; (with_reducible repeat first | refine kN ?_ _ | refine kD ?_ | refine kA ?_ _); refine blk_put (cs := #[.int .i64 ((rd_T47 J D).f0), .int .i64 ((rd_T47 J D).f1), .int .i64 0, .int .i64 0, .int .i64 0]) ?_ 2 _ rfl; (with_reducible repeat first | refine kN ?_ _ | refine kD ?_ | refine kA ?_ _); refine blk_put (cs := #[.int .i64 ((rd_T47 J D).f0), .int .i64 0, .int .i64 0, .int .i64 0, .int .i64 0]) ?_ 1 _ rfl; (with_reducible repeat first | refine kN ?_ _ | refine kD ?_ | refine kA ?_ _); refine blk_put (cs := #[.int .i64 0, .int .i64 0, .int .i64 0, .int .i64 0, .int .i64 0]) ?_ 0 _ rfl; (with_reducible repeat first | refine kN ?_ _ | refine kD ?_ | refine kA ?_ _); exact aa.out) hb); replace HB := aM (below_step (tB1 aj) hb); (try clear hb); (try clear hb2); (try clear hk); (try clear hi); (try clear ae))); (try simp only [← ad]); go_roundg k2
          case measure => have := aD.out; have := aH.out; omega
          case rel => exact ⟨(aK), (af), (wrap64 (D + 1)), tS, H', ⟨by have := aD.out; have := aH.out; omega⟩, ⟨by (try simp only [ad]); (with_reducible repeat first | apply rA | apply rN | apply rD); exact Kd.R_mono ay.out (fun _ hk => trivial)⟩, ⟨by (try simp only [ad]); (with_reducible repeat first | apply rA | apply rN | apply rD); exact L.out⟩, ⟨by (try simp only [ad]); (with_reducible repeat first | apply rA | apply rN | apply rD); exact Kd.R_mono ac.out (fun _ hk => trivial)⟩, ⟨tB1 aj⟩⟩
         ·replace aN := Bool.eq_false_iff.mpr aN; subst aN; rw [if_neg ff_] at H; by_cases aQ : af.length < 17592186044416
          ·rw [if_pos aQ] at H; have bO := Aside0.mk aQ; clear aQ; obtain ⟨bP, aT⟩ : ∃ y_ : List Int, y_ = (af ++ [(rd_T47 J D).f0]) := ⟨_, rfl⟩
           (first | replace H := bY H aT | rw [← aT] at H | skip); have bQ := Aside0.mk aT; clear aT; have H' := Aside0.mk H; clear H; have ao : 0 ≤ (D : Int) := of_decide_eq_true ‹_›; have ap : D < (J.length : Int) := of_decide_eq_true ‹_›; obtain ⟨bC, aZ, bE, bF, bG, bH, bI⟩ := at_T47 (Kd.R_reads' ac.out).2.2 D ao ap; cases aZ
           replace ao := eq_true ao; replace ap := eq_true ap; go_wp2_with (first | ((with_reducible refine gate_dst (N := 10) rfl ?_); refine bx 10 #[.int .i64 0, .int .i64 0, .int .i64 0, .int .i64 0, .int .i64 0] 47 ?_; intro ab hg co hbox hb; replace Y := aM (Kd.R_below (qR Y) hb); replace L := aM (Kd.R_below (qR L) hb); replace ac := aM (Kd.R_below (Kd.R_elderB (qR ac) ab (Nat.le_of_eq hg.symm)) hb); have aa := aM hbox; have bJ := aM ((by rw [hg]; exact (below_size (qB HB)) : w.heap.size ≤ ab)); have aj := aM ((by rw [hg]; exact (below_size (qB HB)) : w.heap.size ≤ ab)); replace HB := aM (below_step (qB HB) hb); clear hb hbox hg; obtain ⟨cp, cq, cr, ct, cu⟩ := cz5 aa; obtain ⟨cw, cx, cy, cz, cA⟩ := fz5 aa; obtain ⟨bT, bj, bU⟩ := Kd.R_slice Y.out; subst bU) | ((with_reducible refine gate_callee (f := 73) rfl ?_); refine gl 38 Try.func73 #[.slice bT ai.length bj, .agg #[.int .i64 ((rd_T47 J D).f0), .int .i64 ((rd_T47 J D).f1), .int .i64 ((rd_T47 J D).f2), .int .i64 ((rd_T47 J D).f3), .int .i64 ((rd_T47 J D).f4)]] ?_; (with_reducible refine (impl_PutAway.calls k2 _ _ ai ((rd_T47 J D).f0) ((rd_T47 J D).f1) ((rd_T47 J D).f2) ((rd_T47 J D).f3) ((rd_T47 J D).f4) aK false _ ?side1 ?side2 bh.out).mono ?_); (case side1 => refine (Kd.R_reads' (e := 51) (base := w.heap.size) (ok := fun k_ => True) (n := ai.length) (c := bj) ?_).2.2; exact (by (with_reducible repeat first | apply rA | apply rN | apply rD); exact (far5 Y aa))); (case side2 => exact (Kd.R_reads' Y.out).2.1); rintro e cD ⟨bM, rfl, ae, hb⟩; refine ⟨_, rfl, ?_⟩; replace L := aM (Kd.R_below (by (with_reducible repeat first | apply rA | apply rN | apply rD); exact (far5 L aa)) hb); replace ac := aM (Kd.R_below (by (with_reducible repeat first | apply rA | apply rN | apply rD); exact (Kd.R_mono (Kd.R_far (p := ⟨ab, 4, none⟩) (Kd.R_far (p := ⟨ab, 3, none⟩) (Kd.R_far (p := ⟨ab, 2, none⟩) (Kd.R_far (p := ⟨ab, 1, none⟩) (Kd.R_far (p := ⟨ab, 0, none⟩) (Kd.R_mono ac.out (fun k_ hk => (⟨hk, hk.2⟩ : _ ∧ k_ ≠ ab))) (fun _ hk => hk.2) (.int .i64 ((rd_T47 J D).f0))) (fun _ hk => hk.2) (.int .i64 ((rd_T47 J D).f1))) (fun _ hk => hk.2) (.int .i64 ((rd_T47 J D).f2))) (fun _ hk => hk.2) (.int .i64 ((rd_T47 J D).f3))) (fun _ hk => hk.2) (.int .i64 ((rd_T47 J D).f4))) (fun _ h_ => h_.1))) hb); have ay := aM (Kd.R_lower (Kd.R_new' ae (Kd.R_lt (by (with_reducible repeat first | apply rA | apply rN | apply rD); exact (far5 Y aa)))) (below_size (tB1 aj))); replace Y := aM (Kd.R_elder' (by (with_reducible repeat first | apply rA | apply rN | apply rD); exact (far5 Y aa)) (Kd.R_base ae) hb); replace aa := aM (blk_below (g := ab) (o := .cells #[.int .i64 ((rd_T47 J D).f0), .int .i64 ((rd_T47 J D).f1), .int .i64 ((rd_T47 J D).f2), .int .i64 ((rd_T47 J D).f3), .int .i64 ((rd_T47 J D).f4)] 47 (0, 0)) (by (with_reducible repeat first | refine kN ?_ _ | refine kD ?_ | refine kA ?_ _); refine blk_put (cs := #[.int .i64 ((rd_T47 J D).f0), .int .i64 ((rd_T47 J D).f1), .int .i64 ((rd_T47 J D).f2), .int .i64 ((rd_T47 J D).f3), .int .i64 0]) ?_ 4 _ rfl; (with_reducible repeat first | refine kN ?_ _ | refine kD ?_ | refine kA ?_ _); refine blk_put (cs := #[.int .i64 ((rd_T47 J D).f0), .int .i64 ((rd_T47 J D).f1), .int .i64 ((rd_T47 J D).f2), .int .i64 0, .int .i64 0]) ?_ 3 _ rfl; (with_reducible repeat first | refine kN ?_ _ | refine kD ?_ | refine kA ?_ _); refine blk_put (cs := #[.int .i64 ((rd_T47 J D).f0), .int .i64 ((rd_T47 J D).f1), .int .i64 0, .int .i64 0, .int .i64 0]) ?_ 2 _ rfl; (with_reducible repeat first | refine kN ?_ _ | refine kD ?_ | refine kA ?_ _); refine blk_put (cs := #[.int .i64 ((rd_T47 J D).f0), .int .i64 0, .int .i64 0, .int .i64 0, .int .i64 0]) ?_ 1 _ rfl; (with_reducible repeat first | refine kN ?_ _ | refine kD ?_ | refine kA ?_ _); refine blk_put (cs := #[.int .i64 0, .int .i64 0, .int .i64 0, .int .i64 0, .int .i64 0]) ?_ 0 _ rfl; (with_reducible repeat first | refine kN ?_ _ | refine kD ?_ | refine kA ?_ _); exact aa.out) hb); replace HB := aM (below_step (tB1 aj) hb); (try clear hb); (try clear hb2); (try clear hk); (try clear hi); (try clear ae); obtain ⟨cE, cF, cG, cH, cI⟩ := cz5 aa; obtain ⟨cJ, cK, cL, cM, cN⟩ := fz5 aa) | ((with_reducible refine gate_builtin (b := .append) (xs := #[.tmp 43, .tmp 46]) rfl ?_); at_builtin; refine Kd.R_append (Kd.int .i64) (w0 := w) w.heap.size rfl (.tmp 43) (.tmp 46) 38 3 (.int .i64 0) 8 rfl Try.underlying38 info3 rfl (by decide) (by omega) u7 af ((rd_T47 J D).f0) [.int .i64 ((rd_T47 J D).f0)] (fun _ => True) (fun _ => False) rfl rfl ?aP (fun _ hk => hk.elim) ?aF ?aO ?aB ?aS ?aL ?_; (case aP => exact rfl); (case aB => exact (tB1 aj)); (case aF => exact (fun _ _ => trivial)); (case aO => exact (qR L)); (case aS => exact (below_size (tB1 aj))); (case aL => have := bO.out; omega); intro cP cQ ho hb hg hat; rw [← bQ.out] at ho; replace Y := aM (Kd.R_over' (qR Y) (Kd.R_typed (qR L)) (by decide) hg); replace ac := aM (Kd.R_over' (qR ac) (Kd.R_typed (qR L)) (by decide) hg); replace aa := aM (blk_grown (qK aa) hg (Kd.R_ne L.out aa.out (by decide))); replace ay := aM (Kd.R_over' (qR ay) (Kd.R_typed (qR L)) (by decide) hg); replace HB := aM hb; have bV := aM ho; clear L; clear ho hb hg hat)); (try simp only [← ad]); go_roundg k2
           case measure => have := aD.out; have := aH.out; omega
           case rel => exact ⟨(aK), (bP), (wrap64 (D + 1)), tS, H', ⟨by have := aD.out; have := aH.out; omega⟩, ⟨by (try simp only [ad]); (with_reducible repeat first | apply rA | apply rN | apply rD); exact Kd.R_mono ay.out (fun _ hk => trivial)⟩, ⟨by (try simp only [ad]); (with_reducible repeat first | apply rA | apply rN | apply rD); exact bV.out⟩, ⟨by (try simp only [ad]); (with_reducible repeat first | apply rA | apply rN | apply rD); exact Kd.R_mono ac.out (fun _ hk => trivial)⟩, ⟨tB1 aj⟩⟩
          ·rw [if_neg aQ] at H; exact absurd H (by simp)
        ·rw [if_neg aJ] at H; exact absurd H (by simp)
       ·rw [if_neg aI] at H; exact absurd H (by simp)
      ·rw [if_neg au] at H; have aY : decide (D < (ah.length : Int)) = false := decide_eq_false au; (try rw [ad] at aY); clear au; replace H := Option.bind_eq_some_iff.mp H; obtain ⟨bW, bk, H⟩ := H; have bX := Aside0.mk bk; clear bk; simp only [Option.some.injEq, Prod.mk.injEq] at H; obtain ⟨rfl, rfl⟩ := H; obtain ⟨a3, a6, bZ⟩ := Kd.R_slice L.out; subst bZ; go_wp2_with (first | ((with_reducible refine gate_callee (f := 74) rfl ?_); refine gl 50 Try.func74 #[.slice a3 af.length a6] ?_; (with_reducible refine (slices_Sort_int_int.calls (fun k_ => some k_ = (.slice a3 af.length a6 : Value).ownBlock) (.slice a3 af.length a6) af bW w _ ?side1 ?side2 bX.out).mono ?_); (case side1 => repeat (first | (with_reducible first | exact HB.out | apply bA | apply bN | apply bD) | exact HB.out)); (case side2 => exact Kd.R_tight rfl L.out); rintro e cR ⟨rfl, ax, hb, hkp⟩; refine ⟨_, rfl, ?_⟩; replace Y := aM (Kd.R_mono (ok' := fun k_ => True) (Kd.R_keptB ((Kd.R_apart' Y.out (Kd.R_typed L.out) (by decide))) hkp (fun k_ hk_ hs_ => (hk_.2) hs_)) (fun k_ hk_ => trivial)); replace ac := aM (Kd.R_mono (ok' := fun k_ => True) (Kd.R_keptB ((Kd.R_apart' ac.out (Kd.R_typed L.out) (by decide))) hkp (fun k_ hk_ hs_ => (hk_.2) hs_)) (fun k_ hk_ => trivial)); replace L := aM (Kd.R_reok rfl ax (fun k_ e_ => L.out.1 k_ e_)); replace HB := aM hb; (try clear hb); (try clear hkp); (try clear ax))); go_ret2; exact ⟨_, _, tE, tR Y, tR L, tB0⟩

/-! ### impl_CanHold: function 14 -/
def impl_CanHold.f (k : Nat) (l0 : List (S51)) (l1 : List (S47)) : Option (Bool) := (impl_AreSlots.f k l0).bind fun t177 => (if t177 = true then ((impl_AreThings.f k l1).bind fun t178 => (if t178 = true then ((impl_PutAll.f k l0 l1).bind fun bt179 => (some ((bt179.2.length : Int) == 0))) else (some false))) else (some false))
theorem impl_CanHold.mono : ∀ a0 a1 k, LeO (impl_CanHold.f k a0 a1) (impl_CanHold.f (k + 1) a0 a1) := by
 intro a0 a1 k; unfold impl_CanHold.f
 repeat' first
   | (with_reducible exact impl_AreSlots.mono _ _)
   | (with_reducible exact impl_AreThings.mono _ _)
   | (with_reducible exact impl_PutAll.mono _ _ _)
   | (with_reducible exact LeO.refl _)
   | (with_reducible exact LeO.none _)
   | (with_reducible refine LeO.ite ?_ ?_)
   | (with_reducible refine LeO.bind ?_ (fun _ => ?_))
   | exact impl_AreSlots.mono _ _
   | exact impl_AreThings.mono _ _
   | exact impl_PutAll.mono _ _ _
   | exact LeO.none _
   | refine LeO.ite ?_ ?_
   | refine LeO.bind ?_ (fun _ => ?_)
set_option maxHeartbeats 8000000 in
set_option maxRecDepth 100000 in
theorem impl_CanHold.calls (k : Nat) (A0 : Option Addr) (c0 : Nat) (l0 : List (S51)) (A1 : Option Addr) (c1 : Nat) (l1 : List (S47)) (r : Bool) (w : World) (hr0 : Kd.C k51 w A0 l0.length l0) (hc0 : l0.length ≤ c0) (hr1 : Kd.C k47 w A1 l1.length l1) (hc1 : l1.length ≤ c1) (h : impl_CanHold.f k l0 l1 = some r) :
  Calls Try.prog 14 #[.slice A0 l0.length c0, .slice A1 l1.length c1] w fun e w' => e = .returned (.bool r) ∧ Below w.heap.size w w' := by
 have D := Aside0.mk hr0; have J := Aside0.mk hc0; clear hr0 hc0; have aa := Aside0.mk hr1; have ab := Aside0.mk hc1; clear hr1 hc1; have HB := aM (Below.refl w.heap.size w); have H : ((impl_AreSlots.f k l0).bind fun ac => (if ac = true then ((impl_AreThings.f k l1).bind fun ad => (if ad = true then ((impl_PutAll.f k l0 l1).bind fun al => (some ((al.2.length : Int) == 0))) else (some false))) else (some false))) = some r := h; clear h; replace H := Option.bind_eq_some_iff.mp H; obtain ⟨ac, af, H⟩ := H; have A3 := Aside0.mk af; clear af; by_cases L : ac = true
 ·subst L; rw [if_pos rfl] at H; replace H := Option.bind_eq_some_iff.mp H; obtain ⟨ad, ag, H⟩ := H; have A5 := Aside0.mk ag; clear ag; by_cases Y : ad = true
  ·subst Y; rw [if_pos rfl] at H; replace H := Option.bind_eq_some_iff.mp H; obtain ⟨⟨am, ao⟩, ai, H⟩ := H; have A7 := Aside0.mk ai; clear ai; obtain rfl := Option.some.inj H; go_enter Try.func14, Try.ntmps14; go_wp2_with (first | ((with_reducible refine gate_callee (f := 21) rfl ?_); refine gl 8 Try.func21 #[.slice A0 l0.length c0] ?_; (with_reducible refine (impl_AreSlots.calls k _ _ l0 true _ ?side1 ?side2 A3.out).mono ?_); (case side1 => repeat (first | exact D.out | (with_reducible refine Kd.C_alloc ?_ _) | (with_reducible refine Kd.C_drewN ?_ _) | (with_reducible refine Kd.C_drew ?_))); (case side2 => exact J.out); rintro e w8 ⟨rfl, hb⟩; refine ⟨_, rfl, ?_⟩; replace HB := aM (below_step (qB HB) hb); (try clear hb); (try clear hb2); (try clear hk); (try clear hi)) | (go_at_call 22; (with_reducible refine (impl_AreThings.calls k _ _ l1 true _ ?side1 ?side2 A5.out).mono ?_); (case side1 => exact qC (Kd.C_below aa.out HB.out)); (case side2 => exact ab.out); rintro e w9 ⟨rfl, hb⟩; replace HB := aM (below_step (qB HB) hb); (try clear hb); (try clear hb2); (try clear hk); (try clear hi)) | ((with_reducible refine gate_callee (f := 19) rfl ?_); refine gl 18 Try.func19 #[.slice A0 l0.length c0, .slice A1 l1.length c1] ?_; (with_reducible refine (impl_PutAll.calls k _ _ l0 _ _ l1 am ao _ ?side1 ?side2 ?side3 ?side4 A7.out).mono ?_); (case side1 => exact qC (Kd.C_below D.out HB.out)); (case side2 => exact J.out); (case side3 => exact qC (Kd.C_below aa.out HB.out)); (case side4 => exact ab.out); rintro e aw ⟨ax, ay, rfl, aj, ak, hb⟩; refine ⟨_, rfl, ?_⟩; have az := aM (Kd.R_lower aj (below_size (qB HB))); have aq := aM (Kd.R_lower ak (below_size (qB HB))); replace HB := aM (below_step (qB HB) hb); (try clear hb); (try clear hb2); (try clear hk); (try clear hi); (try clear aj); (try clear ak); obtain ⟨aA, aC, ar⟩ := Kd.R_slice aq.out; subst ar)); go_ret; exact ⟨tE, tB0⟩
  ·replace Y := Bool.eq_false_iff.mpr Y; subst Y; rw [if_neg ff_] at H; obtain rfl := Option.some.inj H; go_enter Try.func14, Try.ntmps14; go_wp2_with (first | ((with_reducible refine gate_callee (f := 21) rfl ?_); refine gl 8 Try.func21 #[.slice A0 l0.length c0] ?_; (with_reducible refine (impl_AreSlots.calls k _ _ l0 true _ ?side1 ?side2 A3.out).mono ?_); (case side1 => repeat (first | exact D.out | (with_reducible refine Kd.C_alloc ?_ _) | (with_reducible refine Kd.C_drewN ?_ _) | (with_reducible refine Kd.C_drew ?_))); (case side2 => exact J.out); rintro e aD ⟨rfl, hb⟩; refine ⟨_, rfl, ?_⟩; replace HB := aM (below_step (qB HB) hb); (try clear hb); (try clear hb2); (try clear hk); (try clear hi)) | (go_at_call 22; (with_reducible refine (impl_AreThings.calls k _ _ l1 false _ ?side1 ?side2 A5.out).mono ?_); (case side1 => exact qC (Kd.C_below aa.out HB.out)); (case side2 => exact ab.out); rintro e aE ⟨rfl, hb⟩; replace HB := aM (below_step (qB HB) hb); (try clear hb); (try clear hb2); (try clear hk); (try clear hi))); go_ret; exact ⟨tE, tB0⟩
 ·replace L := Bool.eq_false_iff.mpr L; subst L; rw [if_neg ff_] at H; obtain rfl := Option.some.inj H; go_enter Try.func14, Try.ntmps14; go_wp2_with (first | ((with_reducible refine gate_callee (f := 21) rfl ?_); refine gl 8 Try.func21 #[.slice A0 l0.length c0] ?_; (with_reducible refine (impl_AreSlots.calls k _ _ l0 false _ ?side1 ?side2 A3.out).mono ?_); (case side1 => repeat (first | exact D.out | (with_reducible refine Kd.C_alloc ?_ _) | (with_reducible refine Kd.C_drewN ?_ _) | (with_reducible refine Kd.C_drew ?_))); (case side2 => exact J.out); rintro e aG ⟨rfl, hb⟩; refine ⟨_, rfl, ?_⟩; replace HB := aM (below_step (qB HB) hb); (try clear hb); (try clear hb2); (try clear hk); (try clear hi))); go_ret; exact ⟨tE, tB0⟩

/-! ### laws_big: function 17 -/
def laws_big.f (l0 : List Int) : Option (Bool) := some (decide ((l0.length : Int) > 1048576))
set_option maxHeartbeats 8000000 in
set_option maxRecDepth 100000 in
theorem laws_big.calls (A0 : Option Addr) (c0 : Nat) (l0 : List Int) (r : Bool) (w : World) (hr0 : Kd.C (Kd.int .u8) w A0 l0.length l0) (hc0 : l0.length ≤ c0) (h : laws_big.f l0 = some r) :
  Calls Try.prog 17 #[.slice A0 l0.length c0] w fun e w' => e = .returned (.bool r) ∧ Drawn0 w w' := by
 have HR0 := Aside0.mk hr0; have HC0 := Aside0.mk hc0; clear hr0 hc0; have H : (some (decide ((l0.length : Int) > 1048576))) = some r := h; clear h; obtain rfl := Option.some.inj H; go_enter Try.func17, Try.ntmps17; go_wp2; go_ret; exact ⟨by first | rfl | (simp; done) | (simp [*]; done), by repeat (first | exact Drawn0.refl _ | apply Drawn0.step)⟩

/-- A state of type 124 at block g of W; what its slices lead to came in by w0. -/
def IsS124 (w0 W : World) (g : Nat) (f0 : List Int) (f1 : Int) (f2 : Int) : Prop := ∃ A0 c0, W.heap[g]? = some (.cells #[.slice A0 f0.length c0, .int .i64 f1, .int .i64 f2] 124 (0, 0)) ∧ w0.heap.size ≤ g ∧ Kd.C (Kd.int .u8) w0 A0 f0.length f0
theorem IsS124.grown {w0 W : World} {g : Nat} {f0 : List Int} {f1 : Int} {f2 : Int} {W1 : World} {row : Option Nat} (h : IsS124 w0 W g f0 f1 f2) (hw : W.grownBy W1 row) (hne : some g ≠ row) : IsS124 w0 W1 g f0 f1 f2 := by
 obtain ⟨A0, c0, hb, hg, hr0⟩ := h; exact ⟨A0, c0, blk_grown hb hw hne, hg, hr0⟩
theorem IsS124.own_neN {w0 W : World} {g : Nat} {f0 : List Int} {f1 : Int} {f2 : Int} {α : Type} {d : Kd α} {e : Nat} {base : Nat} {ok : Nat → Prop} {v : Value} {xs : List α} (h : IsS124 w0 W g f0 f1 f2) (ho : Kd.N d e W base ok v xs) (ht : e ≠ 124) : some g ≠ v.ownBlock := by
 obtain ⟨A0, c0, hb, hg, hr0⟩ := h; exact Kd.N_ne ho hb ht
theorem IsS124.fresh {w0 W : World} {g : Nat} {f0 : List Int} {f1 : Int} {f2 : Int} (h : IsS124 w0 W g f0 f1 f2) : ∀ k, W.heap.size ≤ k → k ≠ g := by
 obtain ⟨A0, c0, hb, hg, hr0⟩ := h; exact Kd.freshB hb
theorem IsS124.kept {w0 W : World} {g : Nat} {f0 : List Int} {f1 : Int} {f2 : Int} {W1 : World} {S : Nat → Prop} (h : IsS124 w0 W g f0 f1 f2) (hk : Kept W W1 S) (hne : ¬ S g) : IsS124 w0 W1 g f0 f1 f2 := by
 obtain ⟨A0, c0, hb, hg, hr0⟩ := h; exact ⟨A0, c0, blk_kept hb hk hne, hg, hr0⟩
theorem IsS124.below {w0 W : World} {g : Nat} {f0 : List Int} {f1 : Int} {f2 : Int} {W1 : World} (h : IsS124 w0 W g f0 f1 f2) (hw : Below W.heap.size W W1) : IsS124 w0 W1 g f0 f1 f2 := h.grown (grown_of_below hw none) (by simp)
theorem IsS124.alloc {w0 W : World} {g : Nat} {f0 : List Int} {f1 : Int} {f2 : Int} (h : IsS124 w0 W g f0 f1 f2) (o : Obj) : IsS124 w0 (W.alloc o) g f0 f1 f2 := h.below (below_alloc (Below.refl _ _) o)
theorem IsS124.drewN {w0 W : World} {g : Nat} {f0 : List Int} {f1 : Int} {f2 : Int} (h : IsS124 w0 W g f0 f1 f2) (m : Nat) : IsS124 w0 (W.drewN m) g f0 f1 f2 := h
theorem IsS124.drew {w0 W : World} {g : Nat} {f0 : List Int} {f1 : Int} {f2 : Int} (h : IsS124 w0 W g f0 f1 f2) : IsS124 w0 W.drew g f0 f1 f2 := h
theorem IsS124.at_ {w0 W : World} {g : Nat} {f0 : List Int} {f1 : Int} {f2 : Int} {w' : World} {m : Nat} (hq : W.drewN m = w') (h : IsS124 w0 W g f0 f1 f2) : IsS124 w0 w' g f0 f1 f2 := by subst hq; exact IsS124.drewN h m
theorem IsS124.apart {w0 W : World} {g : Nat} {f0 : List Int} {f1 : Int} {f2 : Int} {α : Type} {d : Kd α} {e : Nat} {base : Nat} {ok : Nat → Prop} {v : Value} {xs : List α} (h : IsS124 w0 W g f0 f1 f2) (ho : d.R e W base ok v xs) (ht : ∀ q, q ∈ e :: d.E → q ≠ 124) : d.R e W base (fun k => ok k ∧ k ≠ g) v xs := by
 obtain ⟨A0, c0, hb, hg, hr0⟩ := h; exact Kd.R_types ho hb ht
theorem IsS124.own_ne {w0 W : World} {g : Nat} {f0 : List Int} {f1 : Int} {f2 : Int} {α : Type} {d : Kd α} {e : Nat} {base : Nat} {ok : Nat → Prop} {v : Value} {xs : List α} (h : IsS124 w0 W g f0 f1 f2) (ho : d.R e W base ok v xs) (ht : e ≠ 124) : some g ≠ v.ownBlock := by
 obtain ⟨A0, c0, hb, hg, hr0⟩ := h; exact Kd.R_ne ho hb ht
theorem IsS124.apartQ {w0 W : World} {g : Nat} {f0 : List Int} {f1 : Int} {f2 : Int} {α : Type} {d : Kd α} {e : Nat} {base : Nat} {ok : Nat → Prop} {v : Value} {xs : List α} (h : IsS124 w0 W g f0 f1 f2) (ho : d.Q e W base ok v xs) (ht : ∀ q, q ∈ e :: d.E → q ≠ 124) : d.Q e W base (fun k => ok k ∧ k ≠ g) v xs := by
 obtain ⟨A0, c0, hb, hg, hr0⟩ := h; exact Kd.Q_types ho hb ht
theorem IsS124.own_neQ {w0 W : World} {g : Nat} {f0 : List Int} {f1 : Int} {f2 : Int} {α : Type} {d : Kd α} {e : Nat} {base : Nat} {ok : Nat → Prop} {v : Value} {xs : List α} (h : IsS124 w0 W g f0 f1 f2) (ho : d.Q e W base ok v xs) (ht : e ≠ 124) : some g ≠ v.ownBlock := by
 obtain ⟨A0, c0, hb, hg, hr0⟩ := h; exact Kd.Q_ne ho hb ht
theorem IsS124.apartS {w0 W : World} {g : Nat} {f0 : List Int} {f1 : Int} {f2 : Int} {α : Type} {d : Kd α} {e : Nat} {base : Nat} {ok : Nat → Prop} {v : Value} {xs : List α} (h : IsS124 w0 W g f0 f1 f2) (ho : d.S e W base ok v xs) (ht : ∀ q, q ∈ e :: d.E → q ≠ 124) : d.S e W base (fun k => ok k ∧ k ≠ g) v xs := by
 obtain ⟨A0, c0, hb, hg, hr0⟩ := h; exact Kd.S_types ho hb ht
theorem IsS124.own_neS {w0 W : World} {g : Nat} {f0 : List Int} {f1 : Int} {f2 : Int} {α : Type} {d : Kd α} {e : Nat} {base : Nat} {ok : Nat → Prop} {v : Value} {xs : List α} (h : IsS124 w0 W g f0 f1 f2) (ho : d.S e W base ok v xs) (ht : e ≠ 124) : some g ≠ v.ownBlock := by
 obtain ⟨A0, c0, hb, hg, hr0⟩ := h; exact Kd.S_ne ho hb ht
theorem IsS124.lt {w0 W : World} {g : Nat} {f0 : List Int} {f1 : Int} {f2 : Int} (h : IsS124 w0 W g f0 f1 f2) : g < W.heap.size := by
 obtain ⟨A0, c0, hb, hg, hr0⟩ := h; exact blk_lt hb
theorem IsS124.ge {w0 W : World} {g : Nat} {f0 : List Int} {f1 : Int} {f2 : Int} (h : IsS124 w0 W g f0 f1 f2) : w0.heap.size ≤ g := by
 obtain ⟨A0, c0, hb, hg, hr0⟩ := h; exact hg
theorem IsS124.ne_blk {w0 W : World} {g : Nat} {f0 : List Int} {f1 : Int} {f2 : Int} {a : Nat} {cs : Array Value} {t : TypeId} {fr : Nat × Nat} (h : IsS124 w0 W g f0 f1 f2) (hb2 : W.heap[a]? = some (.cells cs t fr)) (ht : t ≠ 124) : g ≠ a := by
 obtain ⟨A0, c0, hb, hg, hr0⟩ := h; rintro rfl; rw [hb] at hb2; injection hb2 with hb2
 injection hb2 with _ ht2
 exact ht ht2.symm
theorem IsS124.far {w0 W : World} {g : Nat} {f0 : List Int} {f1 : Int} {f2 : Int} {p : Addr} (h : IsS124 w0 W g f0 f1 f2) (hne : g ≠ p.block) (u : Value) : IsS124 w0 (W.setCell p u) g f0 f1 f2 := by
 obtain ⟨A0, c0, hb, hg, hr0⟩ := h; exact ⟨A0, c0, blk_far hb hne u, hg, hr0⟩
theorem cellS124_0 {W : World} {g : Nat} {A0 : Option Addr} {c0 : Nat} {f0 : List Int} {f1 : Int} {f2 : Int} (h : W.heap[g]? = some (.cells #[.slice A0 f0.length c0, .int .i64 f1, .int .i64 f2] 124 (0, 0))) : W.cell? ⟨g, 0, none⟩ = some (.slice A0 f0.length c0) := (blk_cell h 0).trans rfl
theorem cellS124_1 {W : World} {g : Nat} {A0 : Option Addr} {c0 : Nat} {f0 : List Int} {f1 : Int} {f2 : Int} (h : W.heap[g]? = some (.cells #[.slice A0 f0.length c0, .int .i64 f1, .int .i64 f2] 124 (0, 0))) : W.cell? ⟨g, 1, none⟩ = some (.int .i64 f1) := (blk_cell h 1).trans rfl
theorem IsS124.set_1 {w0 W : World} {g : Nat} {f0 : List Int} {f1 : Int} {f2 : Int} (h : IsS124 w0 W g f0 f1 f2) (x : Int) : IsS124 w0 (W.setCell ⟨g, 1, none⟩ (.int .i64 x)) g f0 x f2 := by
 obtain ⟨A0, c0, hb, hg, hr0⟩ := h; exact ⟨A0, c0, by simpa using blk_set hb 1 (.int .i64 x), hg, hr0⟩
theorem cellS124_2 {W : World} {g : Nat} {A0 : Option Addr} {c0 : Nat} {f0 : List Int} {f1 : Int} {f2 : Int} (h : W.heap[g]? = some (.cells #[.slice A0 f0.length c0, .int .i64 f1, .int .i64 f2] 124 (0, 0))) : W.cell? ⟨g, 2, none⟩ = some (.int .i64 f2) := (blk_cell h 2).trans rfl
theorem IsS124.set_2 {w0 W : World} {g : Nat} {f0 : List Int} {f1 : Int} {f2 : Int} (h : IsS124 w0 W g f0 f1 f2) (x : Int) : IsS124 w0 (W.setCell ⟨g, 2, none⟩ (.int .i64 x)) g f0 f1 x := by
 obtain ⟨A0, c0, hb, hg, hr0⟩ := h; exact ⟨A0, c0, by simpa using blk_set hb 2 (.int .i64 x), hg, hr0⟩
theorem IsS124.new (w0 W : World) (A0 : Option Addr) (c0 : Nat) (f0 : List Int) (f1 : Int) (f2 : Int) (hB : Below w0.heap.size w0 W) (hr0 : Kd.C (Kd.int .u8) w0 A0 f0.length f0) : IsS124 w0 (W.alloc (.cells #[.slice A0 f0.length c0, .int .i64 f1, .int .i64 f2] 124)) W.heap.size f0 f1 f2 := ⟨A0, c0, by simpa using heap_alloc_new W _, hB.size, hr0⟩

/-! ### spec_l1New: function 65 -/
def spec_l1New.l0 : Nat → List Int → Int → Int → Option (List Int × Int × Int)
 | 0, _, _, _ => none
 | k + 1, x0, x3, x4 => if x4 < (x0.length : Int) then (if x4 < 4000 then (if 0 ≤ x4 then (spec_l1New.l0 k x0 (Go.bits .and .i64 (wrap64 ((wrap64 ((wrap64 (x3 * 137)) + (wrap64 (rd x0 x4)))) + 11)) 1073741823) (wrap64 (x4 + 1))) else (none)) else (some (x0, 0, x3))) else (some (x0, 0, x3))
def spec_l1New.f (k : Nat) (l0 : List Int) : Option (List Int × Int × Int) := spec_l1New.l0 k l0 (wrap64 (193017 + (l0.length : Int))) 0
theorem spec_l1New.mono_l : ∀ k, (∀ y0 y1 y2, LeO (spec_l1New.l0 k y0 y1 y2) (spec_l1New.l0 (k + 1) y0 y1 y2))
 | 0 => fun _ _ _ r h => by simp [spec_l1New.l0] at h
 | k + 1 => by
  have ih0 := spec_l1New.mono_l k
  ·intro y0 y1 y2; unfold spec_l1New.l0
   repeat' first
   | (with_reducible exact ih0 _ _ _)
   | (with_reducible exact LeO.refl _)
   | (with_reducible exact LeO.none _)
   | (with_reducible refine LeO.ite ?_ ?_)
   | (with_reducible refine LeO.bind ?_ (fun _ => ?_))
   | exact ih0 _ _ _
   | exact LeO.none _
   | refine LeO.ite ?_ ?_
   | refine LeO.bind ?_ (fun _ => ?_)
theorem spec_l1New.mono : ∀ a0 k, LeO (spec_l1New.f k a0) (spec_l1New.f (k + 1) a0) := by
 intro a0 k; have ih0 := spec_l1New.mono_l k; unfold spec_l1New.f
 repeat' first
   | (with_reducible exact ih0 _ _ _)
   | (with_reducible exact LeO.refl _)
   | (with_reducible exact LeO.none _)
   | (with_reducible refine LeO.ite ?_ ?_)
   | (with_reducible refine LeO.bind ?_ (fun _ => ?_))
   | exact ih0 _ _ _
   | exact LeO.none _
   | refine LeO.ite ?_ ?_
   | refine LeO.bind ?_ (fun _ => ?_)
set_option maxHeartbeats 8000000 in
set_option maxRecDepth 100000 in
theorem spec_l1New.calls (k : Nat) (A0 : Option Addr) (c0 : Nat) (l0 : List Int) (r1 : List Int) (r2 : Int) (r3 : Int) (w0 w : World) (hB : Below w0.heap.size w0 w) (hr0 : Kd.C (Kd.int .u8) w0 A0 l0.length l0) (hc0 : l0.length ≤ c0) (h : spec_l1New.f k l0 = some (r1, r2, r3)) :
  Calls Try.prog 65 #[.slice A0 l0.length c0] w fun e w' => ∃ g_ : Nat, e = .returned (.pointer (some ⟨g_, 0, none⟩)) ∧ IsS124 w0 w' g_ r1 r2 r3 ∧ Below w0.heap.size w0 w' ∧ Below w.heap.size w w' := by
 have hu124 := Try.underlying124; have ad := Aside0.mk hr0; have ax := Aside0.mk hc0; clear hr0 hc0; have HBW := aM (Below.refl w.heap.size w); have ag := Aside0.mk hB.size; have HB := Aside0.mk hB; clear hB; have H : (spec_l1New.l0 k l0 (wrap64 (193017 + (l0.length : Int))) 0) = some (r1, r2, r3) := h; clear h; have H' := Aside0.mk H; clear H; go_enter Try.func65, Try.ntmps65; go_wp2; go_loopg [3, 4] k (fun kq v3 v4 w' => ∃ (J : Int) (D : Int), v3 = .int .i64 J ∧ v4 = .int .i64 D ∧ Aside0 (spec_l1New.l0 kq l0 J D = some (r1, r2, r3)) ∧ Aside0 (kq ≤ k) ∧ Aside0 (Below w0.heap.size w0 w') ∧ Aside0 (Below w.heap.size w w'))
 case atStart => exact ⟨(wrap64 (193017 + (l0.length : Int))), (0), tS, tS, H', ⟨Nat.le_refl _⟩, ⟨tB0⟩, ⟨by repeat (first | (with_reducible first | exact HBW.out | apply bA | apply bN | apply bD) | exact HBW.out)⟩⟩
 case round =>
  clear H'; obtain ⟨J, D, rfl, rfl, HA, ah, HB, HBW⟩ := hrel; cases gk with
  | zero => exact absurd HA.out (by simp [spec_l1New.l0])
  | succ k1 =>
   have H := HA.out; clear HA; simp only [spec_l1New.l0] at H; by_cases L : D < (l0.length : Int)
   ·rw [if_pos L] at H; have ao : decide (D < (l0.length : Int)) = true := decide_eq_true L; clear L; by_cases Y : D < 4000
    ·rw [if_pos Y] at H; have ap : decide (D < 4000) = true := decide_eq_true Y; clear Y; by_cases c4 : 0 ≤ D
     ·rw [if_pos c4] at H; have ay : decide (0 ≤ D) = true := decide_eq_true c4; clear c4; have H' := Aside0.mk H; clear H; have ae : 0 ≤ (D : Int) := of_decide_eq_true ‹_›; have af : D < (l0.length : Int) := of_decide_eq_true ‹_›; obtain ⟨az, aq, ai⟩ := Kd.at_int ad.out D ae af; cases aq
      replace ai := pw_cell_below HB.out ai; replace ae := eq_true ae; replace af := eq_true af; go_wp2; go_roundg k1
      case measure => have := ah.out; omega
      case rel => exact ⟨(Go.bits .and .i64 (wrap64 ((wrap64 ((wrap64 (J * 137)) + (wrap64 (rd l0 D)))) + 11)) 1073741823), (wrap64 (D + 1)), tS, tS, H', ⟨by have := ah.out; omega⟩, ⟨tB0⟩, ⟨by repeat (first | (with_reducible first | exact HBW.out | apply bA | apply bN | apply bD) | exact HBW.out)⟩⟩
     ·rw [if_neg c4] at H; exact absurd H (by simp)
    ·rw [if_neg Y] at H; have ap : decide (D < 4000) = false := decide_eq_false Y; clear Y; simp only [Option.some.injEq, Prod.mk.injEq] at H; obtain ⟨rfl, rfl, rfl⟩ := H; go_wp2_with (first | ((with_reducible refine gate_dst (N := 31) rfl ?_); refine bx 31 #[.slice A0 l0.length c0, .int .i64 0, .int .i64 J] 124 ?_; intro ab hg w5 hbox hb; replace HB := aM (below_step (qB HB) hb); have ar := aM hbox; have au := aM ((by rw [hg]; exact (below_size (by repeat (first | (with_reducible first | exact HBW.out | apply bA | apply bN | apply bD) | exact HBW.out))) : w.heap.size ≤ ab)); have aj := aM ((Nat.le_trans ag.out (by rw [hg]; exact (below_size (by repeat (first | (with_reducible first | exact HBW.out | apply bA | apply bN | apply bD) | exact HBW.out))) : w.heap.size ≤ ab) : w0.heap.size ≤ ab)); replace HBW := aM (below_step HBW.out hb); clear hb hbox hg)); go_ret; exact ⟨_, rfl, (show IsS124 w0 _ ab l0 0 J from ⟨_, _, tK ar, aj.out, ad.out⟩), tB1 aj, by repeat (first | (with_reducible first | exact HBW.out | apply bA | apply bN | apply bD | refine bS ?_ au.out) | exact HBW.out)⟩
   ·rw [if_neg L] at H; have ao : decide (D < (l0.length : Int)) = false := decide_eq_false L; clear L; simp only [Option.some.injEq, Prod.mk.injEq] at H; obtain ⟨rfl, rfl, rfl⟩ := H; go_wp2_with (first | ((with_reducible refine gate_dst (N := 31) rfl ?_); refine bx 31 #[.slice A0 l0.length c0, .int .i64 0, .int .i64 J] 124 ?_; intro ac hg w6 hbox hb; replace HB := aM (below_step (qB HB) hb); have av := aM hbox; have aw := aM ((by rw [hg]; exact (below_size (by repeat (first | (with_reducible first | exact HBW.out | apply bA | apply bN | apply bD) | exact HBW.out))) : w.heap.size ≤ ac)); have ak := aM ((Nat.le_trans ag.out (by rw [hg]; exact (below_size (by repeat (first | (with_reducible first | exact HBW.out | apply bA | apply bN | apply bD) | exact HBW.out))) : w.heap.size ≤ ac) : w0.heap.size ≤ ac)); replace HBW := aM (below_step HBW.out hb); clear hb hbox hg)); go_ret; exact ⟨_, rfl, (show IsS124 w0 _ ac l0 0 J from ⟨_, _, tK av, ak.out, ad.out⟩), tB1 ak, by repeat (first | (with_reducible first | exact HBW.out | apply bA | apply bN | apply bD | refine bS ?_ aw.out) | exact HBW.out)⟩

/-! ### spec_SlotOf: function 58 -/
def spec_SlotOf.l0 : Nat → List (S51) → Int → Int → Option (Int)
 | 0, _, _, _ => none
 | k + 1, x0, x1, x5 => if x5 < (x0.length : Int) then (if x1 = 0 then (spec_SlotOf.l0 k x0 x1 (wrap64 (x5 + 1))) else (if 0 ≤ x5 then (if ((rd_T51 x0 x5).f2) = x1 then (some ((rd_T51 x0 x5).f0)) else (spec_SlotOf.l0 k x0 x1 (wrap64 (x5 + 1)))) else (none))) else (some 0)
def spec_SlotOf.f (k : Nat) (l0 : List (S51)) (a1 : Int) : Option (Int) := spec_SlotOf.l0 k l0 a1 0
theorem spec_SlotOf.mono_l : ∀ k, (∀ y0 y1 y2, LeO (spec_SlotOf.l0 k y0 y1 y2) (spec_SlotOf.l0 (k + 1) y0 y1 y2))
 | 0 => fun _ _ _ r h => by simp [spec_SlotOf.l0] at h
 | k + 1 => by
  have ih0 := spec_SlotOf.mono_l k
  ·intro y0 y1 y2; unfold spec_SlotOf.l0
   repeat' first
   | (with_reducible exact ih0 _ _ _)
   | (with_reducible exact LeO.refl _)
   | (with_reducible exact LeO.none _)
   | (with_reducible refine LeO.ite ?_ ?_)
   | (with_reducible refine LeO.bind ?_ (fun _ => ?_))
   | exact ih0 _ _ _
   | exact LeO.none _
   | refine LeO.ite ?_ ?_
   | refine LeO.bind ?_ (fun _ => ?_)
theorem spec_SlotOf.mono : ∀ a0 a1 k, LeO (spec_SlotOf.f k a0 a1) (spec_SlotOf.f (k + 1) a0 a1) := by
 intro a0 a1 k; have ih0 := spec_SlotOf.mono_l k; unfold spec_SlotOf.f
 repeat' first
   | (with_reducible exact ih0 _ _ _)
   | (with_reducible exact LeO.refl _)
   | (with_reducible exact LeO.none _)
   | (with_reducible refine LeO.ite ?_ ?_)
   | (with_reducible refine LeO.bind ?_ (fun _ => ?_))
   | exact ih0 _ _ _
   | exact LeO.none _
   | refine LeO.ite ?_ ?_
   | refine LeO.bind ?_ (fun _ => ?_)
set_option maxHeartbeats 8000000 in
set_option maxRecDepth 100000 in
theorem spec_SlotOf.calls (k : Nat) (A0 : Option Addr) (c0 : Nat) (l0 : List (S51)) (a1 : Int) (r : Int) (w : World) (hr0 : Kd.C k51 w A0 l0.length l0) (hc0 : l0.length ≤ c0) (h : spec_SlotOf.f k l0 a1 = some r) :
  Calls Try.prog 58 #[.slice A0 l0.length c0, .int .i64 a1] w fun e w' => e = .returned (.int .i64 r) ∧ Drawn0 w w' := by
 have ae := Aside0.mk hr0; have ax := Aside0.mk hc0; clear hr0 hc0; have H : (spec_SlotOf.l0 k l0 a1 0) = some r := h; clear h; have H' := Aside0.mk H; clear H; go_enter Try.func58, Try.ntmps58; go_wp2; go_loopg [5] k (fun kq v5 w' => ∃ (D : Int), v5 = .int .i64 D ∧ Aside0 (spec_SlotOf.l0 kq l0 a1 D = some r) ∧ Aside0 (kq ≤ k) ∧ Drawn0 w w')
 case atStart => exact ⟨(0), tS, H', ⟨Nat.le_refl _⟩, by repeat (first | exact Drawn0.refl _ | apply Drawn0.step)⟩
 case round =>
  clear H'; try clear p2
  obtain ⟨D, rfl, HA, ac, ⟨m1, rfl⟩⟩ := hrel; cases gk with
  | zero => exact absurd HA.out (by simp [spec_SlotOf.l0])
  | succ k1 =>
   have H := HA.out; clear HA; simp only [spec_SlotOf.l0] at H; by_cases c3 : D < (l0.length : Int)
   ·rw [if_pos c3] at H; have ak : decide (D < (l0.length : Int)) = true := decide_eq_true c3; clear c3; by_cases J : a1 = 0
    ·rw [if_pos J] at H; have al : (a1 == 0) = true := beq_iff_eq.mpr J; have am : (a1 != 0) = false := bne_eq_false_iff_eq.mpr J; clear J; have H' := Aside0.mk H; clear H; go_wp2; go_roundg k1
     case measure => have := ac.out; omega
     case rel => exact ⟨(wrap64 (D + 1)), tS, H', ⟨by have := ac.out; omega⟩, by repeat (first | exact Drawn0.refl _ | apply Drawn0.step)⟩
    ·rw [if_neg J] at H; have al : (a1 == 0) = false := beq_eq_false_iff_ne.mpr J; have am : (a1 != 0) = true := bne_iff_ne.mpr J; by_cases c5 : 0 ≤ D
     ·rw [if_pos c5] at H; have ay : decide (0 ≤ D) = true := decide_eq_true c5; clear c5; by_cases L : ((rd_T51 l0 D).f2) = a1
      ·rw [if_pos L] at H; have ao : (((rd_T51 l0 D).f2) == a1) = true := beq_iff_eq.mpr L; have ap : (((rd_T51 l0 D).f2) != a1) = false := bne_eq_false_iff_eq.mpr L; clear L; obtain rfl := Option.some.inj H; have Y : 0 ≤ (D : Int) := of_decide_eq_true ‹_›; have aa : D < (l0.length : Int) := of_decide_eq_true ‹_›; obtain ⟨ai, af, aq, ar, au⟩ := at_T51 ae.out D Y aa; cases af
       replace Y := eq_true Y; replace aa := eq_true aa; have ag : 0 ≤ (D : Int) := of_decide_eq_true ‹_›; have ah : D < (l0.length : Int) := of_decide_eq_true ‹_›; obtain ⟨av, aw, az, aA, aC⟩ := at_T51 ae.out D ag ah; obtain rfl : ai = av := (by injection aw)
       replace ag := eq_true ag; replace ah := eq_true ah; go_wp2; go_ret; exact ⟨by first | rfl | (simp; done) | (simp [*]; done), by repeat (first | exact Drawn0.refl _ | apply Drawn0.step)⟩
      ·rw [if_neg L] at H; have ao : (((rd_T51 l0 D).f2) == a1) = false := beq_eq_false_iff_ne.mpr L; have ap : (((rd_T51 l0 D).f2) != a1) = true := bne_iff_ne.mpr L; have H' := Aside0.mk H; clear H; have Y : 0 ≤ (D : Int) := of_decide_eq_true ‹_›; have aa : D < (l0.length : Int) := of_decide_eq_true ‹_›; obtain ⟨ai, af, aq, ar, au⟩ := at_T51 ae.out D Y aa; cases af
       replace Y := eq_true Y; replace aa := eq_true aa; go_wp2; go_roundg k1
       case measure => have := ac.out; omega
       case rel => exact ⟨(wrap64 (D + 1)), tS, H', ⟨by have := ac.out; omega⟩, by repeat (first | exact Drawn0.refl _ | apply Drawn0.step)⟩
     ·rw [if_neg c5] at H; exact absurd H (by simp)
   ·rw [if_neg c3] at H; have ak : decide (D < (l0.length : Int)) = false := decide_eq_false c3; clear c3; obtain rfl := Option.some.inj H; go_wp2; go_ret; exact ⟨by first | rfl | (simp; done) | (simp [*]; done), by repeat (first | exact Drawn0.refl _ | apply Drawn0.step)⟩

/-! ### spec_l1In: function 103 -/
def spec_l1In.f (a0 : Int) (a1 : Int) (a2 : Int) : Option (Bool) := if a0 ≥ a1 then (some (decide (a0 ≤ a2))) else (some false)
set_option maxHeartbeats 8000000 in
set_option maxRecDepth 100000 in
theorem spec_l1In.calls (a0 : Int) (a1 : Int) (a2 : Int) (r : Bool) (w : World) (h : spec_l1In.f a0 a1 a2 = some r) :
  Calls Try.prog 103 #[.int .i64 a0, .int .i64 a1, .int .i64 a2] w fun e w' => e = .returned (.bool r) ∧ Drawn0 w w' := by
 have H : (if a0 ≥ a1 then (some (decide (a0 ≤ a2))) else (some false)) = some r := h; clear h; by_cases c4 : a0 ≥ a1
 ·rw [if_pos c4] at H; have c4b0 : decide (a1 ≤ a0) = true := decide_eq_true c4; clear c4; obtain rfl := Option.some.inj H; go_enter Try.func103, Try.ntmps103; go_wp2; go_ret; exact ⟨by first | rfl | (simp; done) | (simp [*]; done), by repeat (first | exact Drawn0.refl _ | apply Drawn0.step)⟩
 ·rw [if_neg c4] at H; have c4b0 : decide (a1 ≤ a0) = false := decide_eq_false c4; clear c4; obtain rfl := Option.some.inj H; go_enter Try.func103, Try.ntmps103; go_wp2; go_ret; exact ⟨by first | rfl | (simp; done) | (simp [*]; done), by repeat (first | exact Drawn0.refl _ | apply Drawn0.step)⟩

end Go.Proofs.Ytbacepkkamfeoaa.PFnPacked
