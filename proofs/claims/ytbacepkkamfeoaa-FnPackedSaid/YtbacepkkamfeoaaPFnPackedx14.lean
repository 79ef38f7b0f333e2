-- The printed functions of one law and their contracts, over contracts of this session's own (hand.py).
import Derived.Test.YtbacepkkamfeoaaPFnPackedx0
import Derived.Test.YtbacepkkamfeoaaPFnPackedx1
import Derived.Test.YtbacepkkamfeoaaPFnPackedx2
import Derived.Test.YtbacepkkamfeoaaPFnPackedx4
import Derived.Test.YtbacepkkamfeoaaPFnPackedx5
import Derived.Test.YtbacepkkamfeoaaPFnPackedx6
import Derived.Test.YtbacepkkamfeoaaPFnPackedx7
import Derived.Test.YtbacepkkamfeoaaPFnPackedx8
import Derived.Test.YtbacepkkamfeoaaPFnPackedx10
import Derived.Test.YtbacepkkamfeoaaPFnPackedx11
import Derived.Test.YtbacepkkamfeoaaPFnPackedx12
import Derived.Test.YtbacepkkamfeoaaPFnPackedx13
namespace Go.Proofs.Ytbacepkkamfeoaa.PFnPacked
open Go.RowKit Go.Proofs.YtbacepkkamfeoaaW.PrintWords Go.Proofs.YtbacepkkamfeoaaW.PrintLast Go.Proofs.YtbacepkkamfeoaaW.PrintMore Go.Proofs.Ytbacepkkamfeoaa.Short
attribute [local go_sem] max2_int min2_int max_two min_two max_three min_three max_four min_four   -- for this text's walks alone
set_option linter.unusedVariables false
set_option linter.unusedSimpArgs false

/-! ### spec_PutAll: function 29 -/
mutual
def spec_PutAll.l0 : Nat → List (S51) → List (S47) → List (S51) → List Int → List (S47) → Int → Option ((List (S51)) × List Int)
 | 0, _, _, _, _, _, _ => none
 | k + 1, x0, x1, x6, x7, x8, x9 => if x9 < (x8.length : Int) then ((spec_AreSlots.f k x0).bind fun t473 => (if t473 = true then ((spec_AreThings.f k x1).bind fun t474 => (spec_PutAll.j1 k x0 x1 x6 x7 x8 x9 t474)) else (spec_PutAll.j1 k x0 x1 x6 x7 x8 x9 false))) else (spec_PutAll.j1 k x0 x1 x6 x7 x8 x9 false)
def spec_PutAll.j1 : Nat → List (S51) → List (S47) → List (S51) → List Int → List (S47) → Int → Bool → Option ((List (S51)) × List Int)
 | 0, _, _, _, _, _, _, _ => none
 | k + 1, x0, x1, x6, x7, x8, x9, J => if J = true then (if 0 ≤ x9 then (if x9 < (x8.length : Int) then ((spec_PutAway.f k x6 ((rd_T47 x8 x9).f0) ((rd_T47 x8 x9).f1) ((rd_T47 x8 x9).f2) ((rd_T47 x8 x9).f3) ((rd_T47 x8 x9).f4)).bind fun D => (if D.2 = true then (spec_PutAll.l0 k x0 x1 D.1 x7 x8 (wrap64 (x9 + 1))) else ((spec_l9Put.f k x7 ((rd_T47 x8 x9).f0)).bind fun L => (spec_PutAll.l0 k x0 x1 D.1 L x8 (wrap64 (x9 + 1)))))) else (none)) else (none)) else (some (x6, x7))
end
def spec_PutAll.f (k : Nat) (l0 : List (S51)) (l1 : List (S47)) : Option ((List (S51)) × List Int) := (some (([] : List (S51)) : List (S51))).bind fun y461 => (if y461.length + l0.length < 5864062014805 then ((spec_l15Sorted.f l1).bind fun t470 => (spec_PutAll.l0 k l0 l1 (y461 ++ l0) (([] : List Int)) t470 0)) else (none))
theorem spec_PutAll.mono_l : ∀ k, (∀ y0 y1 y2 y3 y4 y5, LeO (spec_PutAll.l0 k y0 y1 y2 y3 y4 y5) (spec_PutAll.l0 (k + 1) y0 y1 y2 y3 y4 y5)) ∧ (∀ y0 y1 y2 y3 y4 y5 y6, LeO (spec_PutAll.j1 k y0 y1 y2 y3 y4 y5 y6) (spec_PutAll.j1 (k + 1) y0 y1 y2 y3 y4 y5 y6))
 | 0 => ⟨fun _ _ _ _ _ _ r h => by simp [spec_PutAll.l0] at h, fun _ _ _ _ _ _ _ r h => by simp [spec_PutAll.j1] at h⟩
 | k + 1 => by
  obtain ⟨ih0, ih1⟩ := spec_PutAll.mono_l k; refine ⟨?_, ?_⟩; all_goals (intros; (first | unfold spec_PutAll.l0 | unfold spec_PutAll.j1); repeat' first | (with_reducible exact ih0 _ _ _ _ _ _) | (with_reducible exact ih1 _ _ _ _ _ _ _) | (with_reducible exact spec_AreSlots.mono _ _) | (with_reducible exact spec_AreThings.mono _ _) | (with_reducible exact spec_PutAway.mono _ _ _ _ _ _ _) | (with_reducible exact spec_l9Put.mono _ _ _) | (with_reducible exact LeO.refl _) | (with_reducible exact LeO.none _) | (with_reducible refine LeO.ite ?_ ?_) | (with_reducible refine LeO.bind ?_ (fun _ => ?_)) | exact ih0 _ _ _ _ _ _ | exact ih1 _ _ _ _ _ _ _ | exact spec_AreSlots.mono _ _ | exact spec_AreThings.mono _ _ | exact spec_PutAway.mono _ _ _ _ _ _ _ | exact spec_l9Put.mono _ _ _ | exact LeO.none _ | refine LeO.ite ?_ ?_ | refine LeO.bind ?_ (fun _ => ?_))
theorem spec_PutAll.mono : ∀ a0 a1 k, LeO (spec_PutAll.f k a0 a1) (spec_PutAll.f (k + 1) a0 a1) := by
 intro a0 a1 k; obtain ⟨ih0, ih1⟩ := spec_PutAll.mono_l k; unfold spec_PutAll.f
 repeat' first
   | (with_reducible exact ih0 _ _ _ _ _ _)
   | (with_reducible exact ih1 _ _ _ _ _ _ _)
   | (with_reducible exact spec_AreSlots.mono _ _)
   | (with_reducible exact spec_AreThings.mono _ _)
   | (with_reducible exact spec_PutAway.mono _ _ _ _ _ _ _)
   | (with_reducible exact spec_l9Put.mono _ _ _)
   | (with_reducible exact LeO.refl _)
   | (with_reducible exact LeO.none _)
   | (with_reducible refine LeO.ite ?_ ?_)
   | (with_reducible refine LeO.bind ?_ (fun _ => ?_))
   | exact ih0 _ _ _ _ _ _
   | exact ih1 _ _ _ _ _ _ _
   | exact spec_AreSlots.mono _ _
   | exact spec_AreThings.mono _ _
   | exact spec_PutAway.mono _ _ _ _ _ _ _
   | exact spec_l9Put.mono _ _ _
   | exact LeO.none _
   | refine LeO.ite ?_ ?_
   | refine LeO.bind ?_ (fun _ => ?_)
set_option maxHeartbeats 8000000 in
set_option maxRecDepth 100000 in
theorem spec_PutAll.calls (k : Nat) (A0 : Option Addr) (c0 : Nat) (l0 : List (S51)) (A1 : Option Addr) (c1 : Nat) (l1 : List (S47)) (r1 : List (S51)) (r2 : List Int) (w : World) (hr0 : Kd.C k51 w A0 l0.length l0) (hc0 : l0.length ≤ c0) (hr1 : Kd.C k47 w A1 l1.length l1) (hc1 : l1.length ≤ c1) (h : spec_PutAll.f k l0 l1 = some (r1, r2)) :
  Calls Try.prog 29 #[.slice A0 l0.length c0, .slice A1 l1.length c1] w fun e w' => ∃ v0_ v1_ : Value, e = .returned (.tuple #[v0_, v1_]) ∧ Kd.R k51 51 w' w.heap.size (fun _ => True) v0_ r1 ∧ Kd.R (Kd.int .i64) 3 w' w.heap.size (fun _ => True) v1_ r2 ∧ Below w.heap.size w w' := by
 have hu47 := Try.underlying47; have aG := Aside0.mk hr0; have aQ := Aside0.mk hc0; clear hr0 hc0; have aT := Aside0.mk hr1; have aU := Aside0.mk hc1; clear hr1 hc1; have HB := aM (Below.refl w.heap.size w); have H : ((some (([] : List (S51)) : List (S51))).bind fun ai => (if ai.length + l0.length < 5864062014805 then ((spec_l15Sorted.f l1).bind fun J => (spec_PutAll.l0 k l0 l1 (ai ++ l0) (([] : List Int)) J 0)) else (none))) = some (r1, r2) := h; clear h; obtain ⟨ai, au⟩ : ∃ y_ : List (S51), y_ = (([] : List (S51))) := ⟨_, rfl⟩
 (first | replace H := bY H au | rw [← au] at H | skip); have aV := Aside0.mk au; clear au; by_cases c3 : ai.length + l0.length < 5864062014805
 ·rw [if_pos c3] at H; have bc := Aside0.mk c3; clear c3; obtain ⟨bd, av⟩ : ∃ y_ : List (S51), y_ = (ai ++ l0) := ⟨_, rfl⟩
  (first | replace H := bY H av | rw [← av] at H | skip); have be := Aside0.mk av; clear av; obtain ⟨bf, aw⟩ : ∃ y_ : List Int, y_ = (([] : List Int)) := ⟨_, rfl⟩
  (first | replace H := bY H aw | rw [← aw] at H | skip); have aW := Aside0.mk aw; clear aw; replace H := Option.bind_eq_some_iff.mp H; obtain ⟨J, aX, H⟩ := H; have A4 := Aside0.mk aX; clear aX; have H' := Aside0.mk H; clear H; go_enter Try.func29, Try.ntmps29; go_wp2_with (first | ((with_reducible refine gate_dst (N := 12) rfl ?_); refine Kd.R_lit k51 _ 51 ?hg (N := 12) ?hd (xs := ([] : List (S51))) (inner := []) (ok := fun _ => True) (okp := fun _ => True) ?hr ?hp (fun _ hk => hk) trivial (Below.refl _ _) (Nat.le_refl _) (by simp) ?_; (case hd => rfl); (case hg => rfl); (case hr => first | (go_simp; done) | (go_simp; rfl)); (case hp => exact (Reps.none _ _)); intro bh w5 al hb hg_ hnew_; clear hg_ hnew_; (first | rw [← aV.out] at al | (simp only [Int.reduceToNat] at al; rw [← aV.out] at al)); have aY := aM (Kd.R_lower al (below_size (qB HB))); replace HB := aM (below_step (qB HB) hb); clear hb al) | ((with_reducible refine gate_builtin (b := .append) (xs := #[.tmp 12, .tmp 13]) rfl ?_); at_builtin; refine Kd.R_append_rows k51 (w0 := w) w.heap.size rfl (.tmp 12) (.tmp 13) 27 51 (.agg #[(.int .i64 0), (.int .i64 0), (.int .i64 0)]) 24 rfl Try.underlying27 info51 rfl (by decide) (by omega) bh ai l0 _ _ _ (fun _ => True) (fun _ => False) rfl rfl ?aO ?aR (fun _ _ h => h) (fun _ h => h.elim) ?aF ?aB ?aS ?aL ?_; (case aR => exact qC (Kd.C_below aG.out HB.out)); (case aB => exact (qB HB)); (case aF => exact (fun _ _ => trivial)); (case aO => exact (qR aY)); (case aS => exact (below_size (qB HB))); (case aL => have := bc.out; omega); intro b0 w7 ho hb hg hat; rw [← be.out] at ho; replace HB := aM hb; have am := aM ho; clear aY; clear ho hb hg hat) | ((with_reducible refine gate_dst (N := 15) rfl ?_); refine Kd.R_lit (Kd.int .i64) _ 3 ?hg (N := 15) ?hd (xs := ([] : List Int)) (inner := []) (ok := fun _ => True) (okp := fun _ => True) ?hr ?hp (fun _ hk => hk) trivial (Below.refl _ _) (Nat.le_refl _) (by simp) ?_; (case hd => rfl); (case hg => rfl); (case hr => first | (go_simp; done) | (go_simp; rfl)); (case hp => exact (Reps.none _ _)); intro b2 w8 ao hb hg_ hnew_; clear hg_ hnew_; (first | rw [← aW.out] at ao | (simp only [Int.reduceToNat] at ao; rw [← aW.out] at ao)); replace am := aM (Kd.R_below (qR am) hb); have aH := aM (Kd.R_lower ao (below_size (qB HB))); replace HB := aM (below_step (qB HB) hb); clear hb ao) | ((with_reducible refine gate_callee (f := 79) rfl ?_); refine gl 17 Try.func79 #[.slice A1 l1.length c1] ?_; (with_reducible refine (spec_l15Sorted.calls _ _ l1 J _ ?side1 ?side2 A4.out).mono ?_); (case side1 => exact qC (Kd.C_below aT.out HB.out)); (case side2 => exact aU.out); rintro e b4 ⟨aZ, rfl, ab, hb⟩; refine ⟨_, rfl, ?_⟩; replace am := aM (Kd.R_below (qR am) hb); replace aH := aM (Kd.R_below (qR aH) hb); have bi := aM (Kd.R_lower ab (below_size (qB HB))); replace HB := aM (below_step (qB HB) hb); (try clear hb); (try clear hb2); (try clear hk); (try clear hi); (try clear ab))); go_loopg [6, 7, 9] k (fun kq v6 v7 v9 w' => ∃ (ac : List (S51)) (ad : List Int) (D : Int), v9 = .int .i64 D ∧ Aside0 (spec_PutAll.l0 kq l0 l1 ac ad J D = some (r1, r2)) ∧ Aside0 (kq ≤ k) ∧ Aside0 (Kd.R k51 51 w' w.heap.size (fun _ => True) v6 ac) ∧ Aside0 (Kd.R (Kd.int .i64) 3 w' w.heap.size (fun _ => True) v7 ad) ∧ Aside0 (Kd.R k47 47 w' w.heap.size (fun _ => True) aZ J) ∧ Aside0 (Below w.heap.size w w'))
  case atStart => exact ⟨(bd), (bf), (0), tS, H', ⟨Nat.le_refl _⟩, ⟨tR am⟩, ⟨tR aH⟩, ⟨tR bi⟩, ⟨tB0⟩⟩
  case round =>
   clear H'; try clear c1
   try clear c2
   try clear p2
   try clear c3
   try clear c7
   obtain ⟨ac, ad, D, rfl, HA, ae, Y, aa, L, HB⟩ := hrel; cases gk with
   | zero => exact absurd HA.out (by simp [spec_PutAll.l0])
   | succ k1 =>
    have H := HA.out; clear HA; simp only [spec_PutAll.l0] at H; have aI := Aside0.mk H; clear H; go_upto_region 5 with (fail)
    go_cut [29] (fun bo wc => ∃ (kq : Nat) (ax : Bool), bo = .bool ax ∧ Aside0 (spec_PutAll.j1 kq l0 l1 ac ad J D ax = some (r1, r2)) ∧ Aside0 (kq ≤ k1) ∧ Aside0 (Kd.R k51 51 wc w.heap.size (fun _ => True) u6 ac) ∧ Aside0 (Kd.R (Kd.int .i64) 3 wc w.heap.size (fun _ => True) u7 ad) ∧ Aside0 (Kd.R k47 47 wc w.heap.size (fun _ => True) aZ J) ∧ Aside0 (Below w.heap.size w wc))
    case first =>
     have H := aI.out; clear aI; by_cases af : D < (J.length : Int)
     ·rw [if_pos af] at H; have ak : decide (D < (J.length : Int)) = true := decide_eq_true af; clear af; (first | rw [ak] | (simp only [i64_w, i32_w]; rw [ak]) | skip); replace H := Option.bind_eq_some_iff.mp H; obtain ⟨bp, a2, H⟩ := H; have a3 := Aside0.mk a2; clear a2; by_cases ap : bp = true
      ·subst ap; rw [if_pos rfl] at H; replace H := Option.bind_eq_some_iff.mp H; obtain ⟨a6, a7, H⟩ := H; have bq := Aside0.mk a7; clear a7; have H' := Aside0.mk H; clear H; obtain ⟨b5, b6, br⟩ := Kd.R_slice L.out; subst br; go_wp2_with (first | (go_at_call 59; (with_reducible refine (spec_AreSlots.calls k1 _ _ l0 true _ ?side1 ?side2 a3.out).mono ?_); (case side1 => exact qC (Kd.C_below aG.out HB.out)); (case side2 => exact aQ.out); rintro e b7 ⟨rfl, hb⟩; replace Y := aM (Kd.R_below (qR Y) hb); replace aa := aM (Kd.R_below (qR aa) hb); replace L := aM (Kd.R_below (qR L) hb); replace HB := aM (below_step (qB HB) hb); (try clear hb); (try clear hb2); (try clear hk); (try clear hi)) | (go_at_call 60; (with_reducible refine (spec_AreThings.calls k1 _ _ l1 a6 _ ?side1 ?side2 bq.out).mono ?_); (case side1 => exact qC (Kd.C_below aT.out HB.out)); (case side2 => exact aU.out); rintro e b8 ⟨rfl, hb⟩; replace Y := aM (Kd.R_below (qR Y) hb); replace aa := aM (Kd.R_below (qR aa) hb); replace L := aM (Kd.R_below (qR L) hb); replace HB := aM (below_step (qB HB) hb); (try clear hb); (try clear hb2); (try clear hk); (try clear hi))); go_meet
       case rel => exact ⟨_, (a6), tS, H', ⟨by have := ae.out; first | omega | exact Nat.le_refl _⟩, ⟨tR Y⟩, ⟨tR aa⟩, ⟨tR L⟩, ⟨tB0⟩⟩
      ·replace ap := Bool.eq_false_iff.mpr ap; subst ap; rw [if_neg ff_] at H; have H' := Aside0.mk H; clear H; obtain ⟨b9, b_, bs⟩ := Kd.R_slice L.out; subst bs; go_wp2_with (first | (go_at_call 59; (with_reducible refine (spec_AreSlots.calls k1 _ _ l0 false _ ?side1 ?side2 a3.out).mono ?_); (case side1 => exact qC (Kd.C_below aG.out HB.out)); (case side2 => exact aQ.out); rintro e ca ⟨rfl, hb⟩; replace Y := aM (Kd.R_below (qR Y) hb); replace aa := aM (Kd.R_below (qR aa) hb); replace L := aM (Kd.R_below (qR L) hb); replace HB := aM (below_step (qB HB) hb); (try clear hb); (try clear hb2); (try clear hk); (try clear hi))); go_meet
       case rel => exact ⟨_, (false), tS, H', ⟨by have := ae.out; first | omega | exact Nat.le_refl _⟩, ⟨tR Y⟩, ⟨tR aa⟩, ⟨tR L⟩, ⟨tB0⟩⟩
     ·rw [if_neg af] at H; have ak : decide (D < (J.length : Int)) = false := decide_eq_false af; clear af; (first | rw [ak] | (simp only [i64_w, i32_w]; rw [ak]) | skip); have H' := Aside0.mk H; clear H; obtain ⟨cc, cd, bt⟩ := Kd.R_slice L.out; subst bt; go_wp2; go_meet
      case rel => exact ⟨_, (false), tS, H', ⟨by have := ae.out; first | omega | exact Nat.le_refl _⟩, ⟨tR Y⟩, ⟨tR aa⟩, ⟨tR L⟩, ⟨tB0⟩⟩
    case rest =>
     clear aI; try clear c1
     try clear c2
     try clear p2
     try clear c3
     try clear c7
     try clear af
     try clear ak
     try clear ap
     try clear p2
     obtain ⟨kq, ax, rfl, HA, ay, Y, aa, L, HB⟩ := hcut; cases kq with
     | zero => exact absurd HA.out (by simp [spec_PutAll.j1])
     | succ aq =>
      have H := HA.out; clear HA; simp only [spec_PutAll.j1] at H; by_cases az : ax = true
      ·subst az; rw [if_pos rfl] at H; by_cases aA : 0 ≤ D
       ·rw [if_pos aA] at H; have ce : decide (0 ≤ D) = true := decide_eq_true aA; clear aA; by_cases aC : D < (J.length : Int)
        ·rw [if_pos aC] at H; have cf : decide (D < (J.length : Int)) = true := decide_eq_true aC; clear aC; replace H := Option.bind_eq_some_iff.mp H; obtain ⟨⟨aD, bu⟩, a8, H⟩ := H; have a9 := Aside0.mk a8; clear a8; by_cases aE : bu = true
         ·subst aE; rw [if_pos rfl] at H; have H' := Aside0.mk H; clear H; obtain ⟨cg, ch, bv⟩ := Kd.R_slice L.out; subst bv; have ag : 0 ≤ (D : Int) := of_decide_eq_true ‹_›; have ah : D < (J.length : Int) := of_decide_eq_true ‹_›; obtain ⟨a_, aJ, bw, bz, bB, bC, bE⟩ := at_T47 (Kd.R_reads' L.out).2.2 D ag ah; cases aJ
          replace ag := eq_true ag; replace ah := eq_true ah; obtain ⟨bF, bG, bH⟩ := Kd.R_slice Y.out; subst bH; go_wp2_with (first | ((with_reducible refine gate_callee (f := 80) rfl ?_); refine gl 38 Try.func80 #[.slice bF ac.length bG, .agg #[.int .i64 ((rd_T47 J D).f0), .int .i64 ((rd_T47 J D).f1), .int .i64 ((rd_T47 J D).f2), .int .i64 ((rd_T47 J D).f3), .int .i64 ((rd_T47 J D).f4)]] ?_; (with_reducible refine (spec_PutAway.calls aq _ _ ac ((rd_T47 J D).f0) ((rd_T47 J D).f1) ((rd_T47 J D).f2) ((rd_T47 J D).f3) ((rd_T47 J D).f4) aD true _ ?side1 ?side2 a9.out).mono ?_); (case side1 => exact tC Y); (case side2 => exact (Kd.R_reads' Y.out).2.1); rintro e ci ⟨bI, rfl, ab, hb⟩; refine ⟨_, rfl, ?_⟩; replace aa := aM (Kd.R_below (qR aa) hb); replace L := aM (Kd.R_below (qR L) hb); have ar := aM (Kd.R_lower (Kd.R_new' ab (Kd.R_lt (qR Y))) (below_size (qB HB))); replace Y := aM (Kd.R_elder' (qR Y) (Kd.R_base ab) hb); replace HB := aM (below_step (qB HB) hb); (try clear hb); (try clear hb2); (try clear hk); (try clear hi); (try clear ab))); go_roundg aq
          case measure => have := ae.out; have := ay.out; omega
          case rel => exact ⟨(aD), (ad), (wrap64 (D + 1)), tS, H', ⟨by have := ae.out; have := ay.out; omega⟩, ⟨by (with_reducible repeat first | apply rA | apply rN | apply rD); exact Kd.R_mono ar.out (fun _ hk => trivial)⟩, ⟨tR aa⟩, ⟨tR L⟩, ⟨tB0⟩⟩
         ·replace aE := Bool.eq_false_iff.mpr aE; subst aE; rw [if_neg ff_] at H; replace H := Option.bind_eq_some_iff.mp H; obtain ⟨ba, bb, H⟩ := H; have bJ := Aside0.mk bb; clear bb; have H' := Aside0.mk H; clear H; obtain ⟨cj, ck, bK⟩ := Kd.R_slice L.out; subst bK; have ag : 0 ≤ (D : Int) := of_decide_eq_true ‹_›; have ah : D < (J.length : Int) := of_decide_eq_true ‹_›; obtain ⟨a_, aJ, bw, bz, bB, bC, bE⟩ := at_T47 (Kd.R_reads' L.out).2.2 D ag ah; cases aJ
          replace ag := eq_true ag; replace ah := eq_true ah; obtain ⟨bL, bM, bO⟩ := Kd.R_slice Y.out; subst bO; go_wp2_with (first | ((with_reducible refine gate_callee (f := 80) rfl ?_); refine gl 38 Try.func80 #[.slice bL ac.length bM, .agg #[.int .i64 ((rd_T47 J D).f0), .int .i64 ((rd_T47 J D).f1), .int .i64 ((rd_T47 J D).f2), .int .i64 ((rd_T47 J D).f3), .int .i64 ((rd_T47 J D).f4)]] ?_; (with_reducible refine (spec_PutAway.calls aq _ _ ac ((rd_T47 J D).f0) ((rd_T47 J D).f1) ((rd_T47 J D).f2) ((rd_T47 J D).f3) ((rd_T47 J D).f4) aD false _ ?side1 ?side2 a9.out).mono ?_); (case side1 => exact tC Y); (case side2 => exact (Kd.R_reads' Y.out).2.1); rintro e cl ⟨bI, rfl, ab, hb⟩; refine ⟨_, rfl, ?_⟩; replace aa := aM (Kd.R_below (qR aa) hb); replace L := aM (Kd.R_below (qR L) hb); have ar := aM (Kd.R_lower (Kd.R_new' ab (Kd.R_lt (qR Y))) (below_size (qB HB))); replace Y := aM (Kd.R_elder' (qR Y) (Kd.R_base ab) hb); replace HB := aM (below_step (qB HB) hb); (try clear hb); (try clear hb2); (try clear hk); (try clear hi); (try clear ab); have aK : 0 ≤ (D : Int) := of_decide_eq_true ‹_›; have aN : D < (J.length : Int) := of_decide_eq_true ‹_›; obtain ⟨bP, bQ, cm, cn, co, cp, cq⟩ := at_T47 (Kd.R_reads' L.out).2.2 D aK aN; obtain rfl : a_ = bP := (by injection bQ); replace aK := eq_true aK; replace aN := eq_true aN; obtain ⟨bT, bU, bV⟩ := Kd.R_slice aa.out; subst bV) | ((with_reducible refine gate_callee (f := 81) rfl ?_); refine gl 50 Try.func81 #[.slice bT ad.length bU, .int .i64 ((rd_T47 J D).f0)] ?_; (with_reducible refine (spec_l9Put.calls aq _ _ ad ((rd_T47 J D).f0) ba _ ?side1 ?side2 bJ.out).mono ?_); (case side1 => exact tC aa); (case side2 => exact (Kd.R_reads' aa.out).2.1); rintro e cr ⟨ct, rfl, ab, hb⟩; refine ⟨_, rfl, ?_⟩; replace Y := aM (Kd.R_below (qR Y) hb); replace L := aM (Kd.R_below (qR L) hb); replace ar := aM (Kd.R_below (qR ar) hb); have bW := aM (Kd.R_lower (Kd.R_new' ab (Kd.R_lt (qR aa))) (below_size (qB HB))); replace aa := aM (Kd.R_elder' (qR aa) (Kd.R_base ab) hb); replace HB := aM (below_step (qB HB) hb); (try clear hb); (try clear hb2); (try clear hk); (try clear hi); (try clear ab))); go_roundg aq
          case measure => have := ae.out; have := ay.out; omega
          case rel => exact ⟨(aD), (ba), (wrap64 (D + 1)), tS, H', ⟨by have := ae.out; have := ay.out; omega⟩, ⟨by (with_reducible repeat first | apply rA | apply rN | apply rD); exact Kd.R_mono ar.out (fun _ hk => trivial)⟩, ⟨by (with_reducible repeat first | apply rA | apply rN | apply rD); exact Kd.R_mono bW.out (fun _ hk => trivial)⟩, ⟨tR L⟩, ⟨tB0⟩⟩
        ·rw [if_neg aC] at H; exact absurd H (by simp)
       ·rw [if_neg aA] at H; exact absurd H (by simp)
      ·replace az := Bool.eq_false_iff.mpr az; subst az; rw [if_neg ff_] at H; simp only [Option.some.injEq, Prod.mk.injEq] at H; obtain ⟨rfl, rfl⟩ := H; go_wp2; go_ret2; exact ⟨_, _, tE, tR Y, tR aa, tB0⟩
 ·rw [if_neg c3] at H; exact absurd H (by simp)

/-! ### spec_DrawWasted: function 78 -/
def spec_DrawWasted.f (k : Nat) (l0 : List Int) : Option ((List (S51)) × (List (S47))) := (spec_DrawPutAll.f k l0).bind fun bt484 => ((spec_PutAll.f k bt484.1 bt484.2).bind fun bt490 => (some (bt490.1, bt484.2)))
theorem spec_DrawWasted.mono : ∀ a0 k, LeO (spec_DrawWasted.f k a0) (spec_DrawWasted.f (k + 1) a0) := by
 intro a0 k; unfold spec_DrawWasted.f
 repeat' first
   | (with_reducible exact spec_DrawPutAll.mono _ _)
   | (with_reducible exact spec_PutAll.mono _ _ _)
   | (with_reducible exact LeO.refl _)
   | (with_reducible exact LeO.none _)
   | (with_reducible refine LeO.ite ?_ ?_)
   | (with_reducible refine LeO.bind ?_ (fun _ => ?_))
   | exact spec_DrawPutAll.mono _ _
   | exact spec_PutAll.mono _ _ _
   | exact LeO.none _
   | refine LeO.ite ?_ ?_
   | refine LeO.bind ?_ (fun _ => ?_)
set_option maxHeartbeats 8000000 in
set_option maxRecDepth 100000 in
theorem spec_DrawWasted.calls (k : Nat) (A0 : Option Addr) (c0 : Nat) (l0 : List Int) (r1 : List (S51)) (r2 : List (S47)) (w : World) (hr0 : Kd.C (Kd.int .u8) w A0 l0.length l0) (hc0 : l0.length ≤ c0) (h : spec_DrawWasted.f k l0 = some (r1, r2)) :
  Calls Try.prog 78 #[.slice A0 l0.length c0] w fun e w' => ∃ v0_ v1_ : Value, e = .returned (.tuple #[v0_, v1_]) ∧ Kd.R k51 51 w' w.heap.size (fun _ => True) v0_ r1 ∧ Kd.R k47 47 w' w.heap.size (fun _ => True) v1_ r2 ∧ Below w.heap.size w w' := by
 have af := Aside0.mk hr0; have ag := Aside0.mk hc0; clear hr0 hc0; have HB := aM (Below.refl w.heap.size w); have H : ((spec_DrawPutAll.f k l0).bind fun aa => ((spec_PutAll.f k aa.1 aa.2).bind fun ah => (some (ah.1, aa.2)))) = some (r1, r2) := h; clear h; replace H := Option.bind_eq_some_iff.mp H; obtain ⟨⟨ab, ac⟩, ad, H⟩ := H; have A2 := Aside0.mk ad; clear ad; replace H := Option.bind_eq_some_iff.mp H; obtain ⟨⟨aj, ak⟩, ae, H⟩ := H; have A3 := Aside0.mk ae; clear ae; simp only [Option.some.injEq, Prod.mk.injEq] at H; obtain ⟨rfl, rfl⟩ := H; go_enter Try.func78, Try.ntmps78; go_wp2_with (first | ((with_reducible refine gate_callee (f := 18) rfl ?_); refine gl 10 Try.func18 #[.slice A0 l0.length c0] ?_; (with_reducible refine (spec_DrawPutAll.calls k _ _ l0 ab ac _ ?side1 ?side2 A2.out).mono ?_); (case side1 => repeat (first | exact af.out | (with_reducible refine Kd.C_alloc ?_ _) | (with_reducible refine Kd.C_drewN ?_ _) | (with_reducible refine Kd.C_drew ?_))); (case side2 => exact ag.out); rintro e w4 ⟨ax, ay, rfl, D, Y, hb⟩; refine ⟨_, rfl, ?_⟩; have J := aM (Kd.R_lower D (below_size (qB HB))); have L := aM (Kd.R_lower Y (below_size (qB HB))); replace HB := aM (below_step (qB HB) hb); (try clear hb); (try clear hb2); (try clear hk); (try clear hi); (try clear D); (try clear Y); obtain ⟨am, ao, ap⟩ := Kd.R_slice J.out; subst ap; obtain ⟨aq, ar, au⟩ := Kd.R_slice L.out; subst au) | ((with_reducible refine gate_callee (f := 29) rfl ?_); refine gl 16 Try.func29 #[.slice am ab.length ao, .slice aq ac.length ar] ?_; (with_reducible refine (spec_PutAll.calls k _ _ ab _ _ ac aj ak _ ?side1 ?side2 ?side3 ?side4 A3.out).mono ?_); (case side1 => exact tC J); (case side2 => exact (Kd.R_reads' J.out).2.1); (case side3 => exact tC L); (case side4 => exact (Kd.R_reads' L.out).2.1); rintro e w7 ⟨aA, aC, rfl, D, Y, hb⟩; refine ⟨_, rfl, ?_⟩; replace L := aM (Kd.R_below (qR L) hb); have av := aM (Kd.R_lower (Kd.R_new' D (Kd.R_lt (qR J))) (below_size (qB HB))); replace J := aM (Kd.R_elder' (qR J) (Kd.R_base D) hb); have aD := aM (Kd.R_lower Y (below_size (qB HB))); replace HB := aM (below_step (qB HB) hb); (try clear hb); (try clear hb2); (try clear hk); (try clear hi); (try clear D); (try clear Y))); go_ret2; exact ⟨_, _, tE, by (with_reducible repeat first | apply rA | apply rN | apply rD); exact Kd.R_mono av.out (fun _ hk => trivial), tR L, tB0⟩

/-! ### spec_DrawTighten: function 26 -/
def spec_DrawTighten.f (k : Nat) (l0 : List Int) : Option ((List (S51)) × (List (S47))) := (spec_DrawWasted.f k l0).bind fun bt496 => (some (bt496.1, bt496.2))
theorem spec_DrawTighten.mono : ∀ a0 k, LeO (spec_DrawTighten.f k a0) (spec_DrawTighten.f (k + 1) a0) := by
 intro a0 k; unfold spec_DrawTighten.f
 repeat' first
   | (with_reducible exact spec_DrawWasted.mono _ _)
   | (with_reducible exact LeO.refl _)
   | (with_reducible exact LeO.none _)
   | (with_reducible refine LeO.ite ?_ ?_)
   | (with_reducible refine LeO.bind ?_ (fun _ => ?_))
   | exact spec_DrawWasted.mono _ _
   | exact LeO.none _
   | refine LeO.ite ?_ ?_
   | refine LeO.bind ?_ (fun _ => ?_)
set_option maxHeartbeats 8000000 in
set_option maxRecDepth 100000 in
theorem spec_DrawTighten.calls (k : Nat) (A0 : Option Addr) (c0 : Nat) (l0 : List Int) (r1 : List (S51)) (r2 : List (S47)) (w : World) (hr0 : Kd.C (Kd.int .u8) w A0 l0.length l0) (hc0 : l0.length ≤ c0) (h : spec_DrawTighten.f k l0 = some (r1, r2)) :
  Calls Try.prog 26 #[.slice A0 l0.length c0] w fun e w' => ∃ v0_ v1_ : Value, e = .returned (.tuple #[v0_, v1_]) ∧ Kd.R k51 51 w' w.heap.size (fun _ => True) v0_ r1 ∧ Kd.R k47 47 w' w.heap.size (fun _ => True) v1_ r2 ∧ Below w.heap.size w w' := by
 have HR0 := Aside0.mk hr0; have HC0 := Aside0.mk hc0; clear hr0 hc0; have HB := aM (Below.refl w.heap.size w); have H : ((spec_DrawWasted.f k l0).bind fun bt496 => (some (bt496.1, bt496.2))) = some (r1, r2) := h; clear h; replace H := Option.bind_eq_some_iff.mp H; obtain ⟨⟨t496, t497⟩, A20, H⟩ := H; have A2 := Aside0.mk A20; clear A20; simp only [Option.some.injEq, Prod.mk.injEq] at H; obtain ⟨rfl, rfl⟩ := H; go_enter Try.func26, Try.ntmps26; go_wp2_with (first | ((with_reducible refine gate_callee (f := 78) rfl ?_); refine gl 5 Try.func78 #[.slice A0 l0.length c0] ?_; (with_reducible refine (spec_DrawWasted.calls k _ _ l0 t496 t497 _ ?side1 ?side2 A2.out).mono ?_); (case side1 => repeat (first | exact HR0.out | (with_reducible refine Kd.C_alloc ?_ _) | (with_reducible refine Kd.C_drewN ?_ _) | (with_reducible refine Kd.C_drew ?_))); (case side2 => exact HC0.out); rintro e w3 ⟨v498, v500, rfl, ho0, ho1, hb⟩; refine ⟨_, rfl, ?_⟩; have HO499 := aM (Kd.R_lower ho0 (below_size (qB HB))); have HO501 := aM (Kd.R_lower ho1 (below_size (qB HB))); replace HB := aM (below_step (qB HB) hb); (try clear hb); (try clear hb2); (try clear hk); (try clear hi); (try clear ho0); (try clear ho1))); go_ret2; exact ⟨_, _, tE, tR HO499, tR HO501, tB0⟩

/-! ### impl_Tighten: function 27 -/
mutual
def impl_Tighten.j0 : Nat → List (S51) → List (S47) → Bool → Option ((List (S51)))
 | 0, _, _, _ => none
 | k + 1, x0, x1, x18 => if x18 = true then ((impl_Slot_68.f x0).bind fun t504 => (some t504)) else ((impl_Slot_68.f x0).bind fun t507 => (impl_Tighten.l0 k x0 t507 (([] : List (S47))) x1 (x1.length : Int) 0))
def impl_Tighten.l0 : Nat → List (S51) → List (S51) → List (S47) → List (S47) → Int → Int → Option ((List (S51)))
 | 0, _, _, _, _, _, _ => none
 | k + 1, x0, x5, x6, J, Y, D => if D < Y then (if 0 ≤ D then (if D < (J.length : Int) then ((impl_slotWith.f x0 ((rd_T47 J D).f0)).bind fun L => (if L ≥ 0 then (if 0 ≤ L then (if L < (x5.length : Int) then (if x6.length < 3518437208883 then (impl_Tighten.l0 k x0 (x5.set (L : Int).toNat (⟨(rd_T51 x5 L).f0, (rd_T51 x5 L).f1, 0⟩ : S51)) (x6 ++ [(⟨(rd_T47 J D).f0, (rd_T47 J D).f1, (rd_T47 J D).f2, (rd_T47 J D).f3, (rd_T47 J D).f4⟩ : S47)]) J Y (wrap64 (D + 1))) else (none)) else (none)) else (none)) else (impl_Tighten.l0 k x0 x5 x6 J Y (wrap64 (D + 1))))) else (none)) else (none)) else ((impl_PutAll.f k x5 x6).bind fun aa => (if (aa.2.length : Int) > 0 then ((impl_Slot_68.f x0).bind fun ab => (some ab)) else (some aa.1)))
end
def impl_Tighten.f (k : Nat) (l0 : List (S51)) (l1 : List (S47)) : Option ((List (S51))) := (impl_AreSlots.f k l0).bind fun t502 => (if t502 = true then ((impl_AreThings.f k l1).bind fun t503 => (impl_Tighten.j0 k l0 l1 (!t503))) else (impl_Tighten.j0 k l0 l1 true))
theorem impl_Tighten.mono_l : ∀ k, (∀ y0 y1 y2, LeO (impl_Tighten.j0 k y0 y1 y2) (impl_Tighten.j0 (k + 1) y0 y1 y2)) ∧ (∀ y0 y1 y2 y3 y4 y5, LeO (impl_Tighten.l0 k y0 y1 y2 y3 y4 y5) (impl_Tighten.l0 (k + 1) y0 y1 y2 y3 y4 y5))
 | 0 => ⟨fun _ _ _ r h => by simp [impl_Tighten.j0] at h, fun _ _ _ _ _ _ r h => by simp [impl_Tighten.l0] at h⟩
 | k + 1 => by
  obtain ⟨ih0, ih1⟩ := impl_Tighten.mono_l k; refine ⟨?_, ?_⟩; all_goals (intros; (first | unfold impl_Tighten.j0 | unfold impl_Tighten.l0); repeat' first | (with_reducible exact ih0 _ _ _) | (with_reducible exact ih1 _ _ _ _ _ _) | (with_reducible exact impl_AreSlots.mono _ _) | (with_reducible exact impl_AreThings.mono _ _) | (with_reducible exact impl_PutAll.mono _ _ _) | (with_reducible exact LeO.refl _) | (with_reducible exact LeO.none _) | (with_reducible refine LeO.ite ?_ ?_) | (with_reducible refine LeO.bind ?_ (fun _ => ?_)) | exact ih0 _ _ _ | exact ih1 _ _ _ _ _ _ | exact impl_AreSlots.mono _ _ | exact impl_AreThings.mono _ _ | exact impl_PutAll.mono _ _ _ | exact LeO.none _ | refine LeO.ite ?_ ?_ | refine LeO.bind ?_ (fun _ => ?_))
theorem impl_Tighten.mono : ∀ a0 a1 k, LeO (impl_Tighten.f k a0 a1) (impl_Tighten.f (k + 1) a0 a1) := by
 intro a0 a1 k; obtain ⟨ih0, ih1⟩ := impl_Tighten.mono_l k; unfold impl_Tighten.f
 repeat' first
   | (with_reducible exact ih0 _ _ _)
   | (with_reducible exact ih1 _ _ _ _ _ _)
   | (with_reducible exact impl_AreSlots.mono _ _)
   | (with_reducible exact impl_AreThings.mono _ _)
   | (with_reducible exact impl_PutAll.mono _ _ _)
   | (with_reducible exact LeO.refl _)
   | (with_reducible exact LeO.none _)
   | (with_reducible refine LeO.ite ?_ ?_)
   | (with_reducible refine LeO.bind ?_ (fun _ => ?_))
   | exact ih0 _ _ _
   | exact ih1 _ _ _ _ _ _
   | exact impl_AreSlots.mono _ _
   | exact impl_AreThings.mono _ _
   | exact impl_PutAll.mono _ _ _
   | exact LeO.none _
   | refine LeO.ite ?_ ?_
   | refine LeO.bind ?_ (fun _ => ?_)
set_option maxHeartbeats 8000000 in
set_option maxRecDepth 100000 in
theorem impl_Tighten.calls (k : Nat) (A0 : Option Addr) (c0 : Nat) (l0 : List (S51)) (A1 : Option Addr) (c1 : Nat) (l1 : List (S47)) (r : List (S51)) (w : World) (hr0 : Kd.C k51 w A0 l0.length l0) (hc0 : l0.length ≤ c0) (hr1 : Kd.C k47 w A1 l1.length l1) (hc1 : l1.length ≤ c1) (h : impl_Tighten.f k l0 l1 = some r) :
  Calls Try.prog 27 #[.slice A0 l0.length c0, .slice A1 l1.length c1] w fun e w' => ∃ v0_ : Value, e = .returned (v0_) ∧ Kd.R k51 51 w' w.heap.size (fun _ => True) v0_ r ∧ Below w.heap.size w w' := by
 have hu47 := Try.underlying47; have ah := Aside0.mk hr0; have ai := Aside0.mk hc0; clear hr0 hc0; have aX := Aside0.mk hr1; have bq := Aside0.mk hc1; clear hr1 hc1; have HB := aM (Below.refl w.heap.size w); have H : ((impl_AreSlots.f k l0).bind fun aY => (if aY = true then ((impl_AreThings.f k l1).bind fun aE => (impl_Tighten.j0 k l0 l1 (!aE))) else (impl_Tighten.j0 k l0 l1 true))) = some r := h; clear h; have aZ := Aside0.mk H; clear H; go_enter Try.func27, Try.ntmps27; go_upto_region 1 with (fail)
 go_cut [18] (fun br wc => ∃ (kq : Nat) (aG : Bool), br = .bool aG ∧ Aside0 (impl_Tighten.j0 kq l0 l1 aG = some r) ∧ Aside0 (kq ≤ k) ∧ Aside0 (Below w.heap.size w wc))
 case first =>
  have H := aZ.out; clear aZ; replace H := Option.bind_eq_some_iff.mp H; obtain ⟨aY, a_, H⟩ := H; have A4 := Aside0.mk a_; clear a_; by_cases c5 : aY = true
  ·subst c5; rw [if_pos rfl] at H; replace H := Option.bind_eq_some_iff.mp H; obtain ⟨aE, bb, H⟩ := H; have A6 := Aside0.mk bb; clear bb; have H' := Aside0.mk H; clear H; go_wp2_with (first | ((with_reducible refine gate_callee (f := 21) rfl ?_); refine gl 12 Try.func21 #[.slice A0 l0.length c0] ?_; (with_reducible refine (impl_AreSlots.calls k _ _ l0 true _ ?side1 ?side2 A4.out).mono ?_); (case side1 => exact qC (Kd.C_below ah.out HB.out)); (case side2 => exact ai.out); rintro e w7 ⟨rfl, hb⟩; refine ⟨_, rfl, ?_⟩; replace HB := aM (below_step (qB HB) hb); (try clear hb); (try clear hb2); (try clear hk); (try clear hi)) | (go_at_call 22; (with_reducible refine (impl_AreThings.calls k _ _ l1 aE _ ?side1 ?side2 A6.out).mono ?_); (case side1 => exact qC (Kd.C_below aX.out HB.out)); (case side2 => exact bq.out); rintro e w8 ⟨rfl, hb⟩; replace HB := aM (below_step (qB HB) hb); (try clear hb); (try clear hb2); (try clear hk); (try clear hi))); go_meet
   case rel => exact ⟨_, (!aE), tS, H', ⟨by first | omega | exact Nat.le_refl _⟩, ⟨tB0⟩⟩
  ·replace c5 := Bool.eq_false_iff.mpr c5; subst c5; rw [if_neg ff_] at H; have H' := Aside0.mk H; clear H; go_wp2_with (first | ((with_reducible refine gate_callee (f := 21) rfl ?_); refine gl 12 Try.func21 #[.slice A0 l0.length c0] ?_; (with_reducible refine (impl_AreSlots.calls k _ _ l0 false _ ?side1 ?side2 A4.out).mono ?_); (case side1 => exact qC (Kd.C_below ah.out HB.out)); (case side2 => exact ai.out); rintro e w9 ⟨rfl, hb⟩; refine ⟨_, rfl, ?_⟩; replace HB := aM (below_step (qB HB) hb); (try clear hb); (try clear hb2); (try clear hk); (try clear hi))); go_meet
   case rel => exact ⟨_, (true), tS, H', ⟨by first | omega | exact Nat.le_refl _⟩, ⟨tB0⟩⟩
 case rest =>
  clear aZ; try clear c1
  try clear c2
  try clear p2
  try clear c5
  obtain ⟨kq, aG, rfl, HA, aH, HB⟩ := hcut; cases kq with
  | zero => exact absurd HA.out (by simp [impl_Tighten.j0])
  | succ bc =>
   have H := HA.out; clear HA; simp only [impl_Tighten.j0] at H; by_cases ar : aG = true
   ·subst ar; rw [if_pos rfl] at H; replace H := Option.bind_eq_some_iff.mp H; obtain ⟨bu, bd, H⟩ := H; have bv := Aside0.mk bd; clear bd; obtain rfl := Option.some.inj H; go_wp2_with (first | ((with_reducible refine gate_callee (f := 68) rfl ?_); refine gl 20 Try.func68 #[.slice A0 l0.length c0] ?_; (with_reducible refine (impl_Slot_68.calls _ _ l0 bu _ ?side1 ?side2 bv.out).mono ?_); (case side1 => exact qC (Kd.C_below ah.out HB.out)); (case side2 => exact ai.out); rintro e cj ⟨ck, rfl, ad, hb⟩; refine ⟨_, rfl, ?_⟩; have bw := aM (Kd.R_lower ad (below_size (qB HB))); replace HB := aM (below_step (qB HB) hb); (try clear hb); (try clear hb2); (try clear hk); (try clear hi); (try clear ad))); go_ret; exact ⟨_, tE, tR bw, tB0⟩
   ·replace ar := Bool.eq_false_iff.mpr ar; subst ar; rw [if_neg ff_] at H; replace H := Option.bind_eq_some_iff.mp H; obtain ⟨be, bf, H⟩ := H; have bz := Aside0.mk bf; clear bf; obtain ⟨bB, aI⟩ : ∃ y_ : List (S47), y_ = (([] : List (S47))) := ⟨_, rfl⟩
    (first | replace H := bY H aI | rw [← aI] at H | skip); have bg := Aside0.mk aI; clear aI; have H' := Aside0.mk H; clear H; go_wp2_with (first | ((with_reducible refine gate_callee (f := 68) rfl ?_); refine gl 22 Try.func68 #[.slice A0 l0.length c0] ?_; (with_reducible refine (impl_Slot_68.calls _ _ l0 be _ ?side1 ?side2 bz.out).mono ?_); (case side1 => exact qC (Kd.C_below ah.out HB.out)); (case side2 => exact ai.out); rintro e cl ⟨bC, rfl, ad, hb⟩; refine ⟨_, rfl, ?_⟩; have a2 := aM (Kd.R_lower ad (below_size (qB HB))); replace HB := aM (below_step (qB HB) hb); (try clear hb); (try clear hb2); (try clear hk); (try clear hi); (try clear ad)) | ((with_reducible refine gate_dst (N := 23) rfl ?_); refine Kd.R_lit k47 _ 47 ?hg (N := 23) ?hd (xs := ([] : List (S47))) (inner := []) (ok := fun _ => True) (okp := fun _ => True) ?hr ?hp (fun _ hk => hk) trivial (Below.refl _ _) (Nat.le_refl _) (by simp) ?_; (case hd => rfl); (case hg => rfl); (case hr => first | (go_simp; done) | (go_simp; rfl)); (case hp => exact (Reps.none _ _)); intro cm cn au hb hg_ hnew_; clear hg_ hnew_; (first | rw [← bg.out] at au | (simp only [Int.reduceToNat] at au; rw [← bg.out] at au)); replace a2 := aM (Kd.R_below (qR a2) hb); have bE := aM (Kd.R_lower au (below_size (qB HB))); replace HB := aM (below_step (qB HB) hb); clear hb au)); go_loopg [6, 26] bc (fun kq v6 bG w' => ∃ (Y : List (S51)) (ae : List (S47)) (D : Int), bG = .int .i64 D ∧ Aside0 (impl_Tighten.l0 kq l0 Y ae l1 (l1.length : Int) D = some r) ∧ Aside0 (kq ≤ bc) ∧ Aside0 (Kd.R k51 51 w' w.heap.size (fun _ => True) bC Y) ∧ Aside0 (Kd.R k47 47 w' w.heap.size (fun _ => True) v6 ae) ∧ Aside0 (Below w.heap.size w w'))
    case atStart => exact ⟨(be), (bB), (0), tS, H', ⟨Nat.le_refl _⟩, ⟨tR a2⟩, ⟨tR bE⟩, ⟨tB0⟩⟩
    case round =>
     clear H'; try clear c1
     try clear c2
     try clear p2
     try clear c5
     try clear c6
     try clear ar
     try clear p2
     obtain ⟨Y, ae, D, rfl, HA, aJ, J, aa, HB⟩ := hrel; cases gk with
     | zero => exact absurd HA.out (by simp [impl_Tighten.l0])
     | succ k2 =>
      have H := HA.out; clear HA; simp only [impl_Tighten.l0] at H; by_cases ao : D < (l1.length : Int)
      ·rw [if_pos ao] at H; have bH : decide (D < (l1.length : Int)) = true := decide_eq_true ao; clear ao; by_cases aK : 0 ≤ D
       ·rw [if_pos aK] at H; have cp : decide (0 ≤ D) = true := decide_eq_true aK; clear aK; by_cases aN : D < (l1.length : Int)
        ·rw [if_pos aN] at H; have cq : decide (D < (l1.length : Int)) = true := decide_eq_true aN; clear aN; replace H := Option.bind_eq_some_iff.mp H; obtain ⟨L, bh, H⟩ := H; have bi := Aside0.mk bh; clear bh; by_cases ap : L ≥ 0
         ·rw [if_pos ap] at H; have bI : decide (0 ≤ L) = true := decide_eq_true ap; clear ap; by_cases aQ : 0 ≤ L
          ·rw [if_pos aQ] at H; have cr : decide (0 ≤ L) = true := decide_eq_true aQ; clear aQ; by_cases aT : L < (Y.length : Int)
           ·rw [if_pos aT] at H; have ct : decide (L < (Y.length : Int)) = true := decide_eq_true aT; clear aT; obtain ⟨bj, aU⟩ : ∃ y_ : List (S51), y_ = (Y.set (L : Int).toNat (⟨(rd_T51 Y L).f0, (rd_T51 Y L).f1, 0⟩ : S51)) := ⟨_, rfl⟩
            (first | replace H := bY H aU | rw [← aU] at H | skip); have bJ := Aside0.mk aU; clear aU; by_cases aV : ae.length < 3518437208883
            ·rw [if_pos aV] at H; have bK := Aside0.mk aV; clear aV; obtain ⟨bL, aW⟩ : ∃ y_ : List (S47), y_ = (ae ++ [(⟨(rd_T47 l1 D).f0, (rd_T47 l1 D).f1, (rd_T47 l1 D).f2, (rd_T47 l1 D).f3, (rd_T47 l1 D).f4⟩ : S47)]) := ⟨_, rfl⟩
             (first | replace H := bY H aW | rw [← aW] at H | skip); have bM := Aside0.mk aW; clear aW; have H' := Aside0.mk H; clear H; have aj : 0 ≤ (D : Int) := of_decide_eq_true ‹_›; have ak : D < (l1.length : Int) := of_decide_eq_true ‹_›; obtain ⟨bO, a3, av, aw, ax, ay, az⟩ := at_T47 aX.out D aj ak; cases a3
             replace av := cB HB av; replace aw := cB HB aw; replace ax := cB HB ax; replace ay := cB HB ay; replace az := cB HB az; replace aj := eq_true aj; replace ak := eq_true ak; go_wp2_with (first | ((with_reducible refine gate_dst (N := 8) rfl ?_); refine bx 8 #[.int .i64 0, .int .i64 0, .int .i64 0, .int .i64 0, .int .i64 0] 47 ?_; intro ab hg cu hbox hb; replace J := aM (Kd.R_below (qR J) hb); replace aa := aM (Kd.R_below (Kd.R_elderB (qR aa) ab (Nat.le_of_eq hg.symm)) hb); have ac := aM hbox; have bP := aM ((by rw [hg]; exact (below_size (qB HB)) : w.heap.size ≤ ab)); have af := aM ((by rw [hg]; exact (below_size (qB HB)) : w.heap.size ≤ ab)); replace HB := aM (below_step (qB HB) hb); clear hb hbox hg; obtain ⟨cw, cx, cy, cz, cA⟩ := cz5 ac; obtain ⟨cD, cE, cF, cG, cH⟩ := fz5 ac) | ((with_reducible refine gate_callee (f := 77) rfl ?_); refine gl 33 Try.func77 #[.slice A0 l0.length c0, .int .i64 ((rd_T47 l1 D).f0)] ?_; (with_reducible refine (impl_slotWith.calls _ _ l0 ((rd_T47 l1 D).f0) L _ ?side1 ?side2 bi.out).mono ?_); (case side1 => exact Kd.C_below ah.out (tB1 af)); (case side2 => exact ai.out); rintro e ag ⟨rfl, hb⟩; refine ⟨_, rfl, ?_⟩; replace J := aM (Kd.R_below (by (with_reducible repeat first | apply rA | apply rN | apply rD); exact (far5 J ac)) hb); replace aa := aM (Kd.R_below (by (with_reducible repeat first | apply rA | apply rN | apply rD); exact (Kd.R_mono (Kd.R_far (p := ⟨ab, 4, none⟩) (Kd.R_far (p := ⟨ab, 3, none⟩) (Kd.R_far (p := ⟨ab, 2, none⟩) (Kd.R_far (p := ⟨ab, 1, none⟩) (Kd.R_far (p := ⟨ab, 0, none⟩) (Kd.R_mono aa.out (fun k_ hk => (⟨hk, hk.2⟩ : _ ∧ k_ ≠ ab))) (fun _ hk => hk.2) (.int .i64 ((rd_T47 l1 D).f0))) (fun _ hk => hk.2) (.int .i64 ((rd_T47 l1 D).f1))) (fun _ hk => hk.2) (.int .i64 ((rd_T47 l1 D).f2))) (fun _ hk => hk.2) (.int .i64 ((rd_T47 l1 D).f3))) (fun _ hk => hk.2) (.int .i64 ((rd_T47 l1 D).f4))) (fun _ h_ => h_.1))) hb); replace ac := aM (blk_below (g := ab) (o := .cells #[.int .i64 ((rd_T47 l1 D).f0), .int .i64 ((rd_T47 l1 D).f1), .int .i64 ((rd_T47 l1 D).f2), .int .i64 ((rd_T47 l1 D).f3), .int .i64 ((rd_T47 l1 D).f4)] 47 (0, 0)) (by (with_reducible repeat first | refine kN ?_ _ | refine kD ?_ | refine kA ?_ _); refine blk_put (cs := #[.int .i64 ((rd_T47 l1 D).f0), .int .i64 ((rd_T47 l1 D).f1), .int .i64 ((rd_T47 l1 D).f2), .int .i64 ((rd_T47 l1 D).f3), .int .i64 0]) ?_ 4 _ rfl; (with_reducible repeat first | refine kN ?_ _ | refine kD ?_ | refine kA ?_ _); refine blk_put (cs := #[.int .i64 ((rd_T47 l1 D).f0), .int .i64 ((rd_T47 l1 D).f1), .int .i64 ((rd_T47 l1 D).f2), .int .i64 0, .int .i64 0]) ?_ 3 _ rfl; (with_reducible repeat first | refine kN ?_ _ | refine kD ?_ | refine kA ?_ _); refine blk_put (cs := #[.int .i64 ((rd_T47 l1 D).f0), .int .i64 ((rd_T47 l1 D).f1), .int .i64 0, .int .i64 0, .int .i64 0]) ?_ 2 _ rfl; (with_reducible repeat first | refine kN ?_ _ | refine kD ?_ | refine kA ?_ _); refine blk_put (cs := #[.int .i64 ((rd_T47 l1 D).f0), .int .i64 0, .int .i64 0, .int .i64 0, .int .i64 0]) ?_ 1 _ rfl; (with_reducible repeat first | refine kN ?_ _ | refine kD ?_ | refine kA ?_ _); refine blk_put (cs := #[.int .i64 0, .int .i64 0, .int .i64 0, .int .i64 0, .int .i64 0]) ?_ 0 _ rfl; (with_reducible repeat first | refine kN ?_ _ | refine kD ?_ | refine kA ?_ _); exact ac.out) hb); replace HB := aM (below_step (tB1 af) hb); (try clear hb); (try clear hb2); (try clear hk); (try clear hi); have a6 : 0 ≤ (L : Int) := of_decide_eq_true ‹_›; have a7 : (L : Int) < ((Y.length : Int) : Int) := of_decide_eq_true ‹_›; obtain ⟨go24, a8, bk, bl, gl24, cl24, HG24⟩ := Kd.R_form J.out (by omega); (first | cases bk | (injection bk with ea_ en_ ec_; (first | subst ea_ | (injection ea_ with ea_; subst ea_)); subst ec_; clear en_)); have GB24 := Aside0.mk bl; have GG24 := Aside0.mk HG24; clear bl gl24 HG24; obtain ⟨ce24, hcl24, hM24, hcc24, hfr24⟩ := Kd.R_elem J.out z51 (L : Int) a6 a7; obtain rfl := k51_openM hM24; have cI : ag.cell? ⟨go24, (L : Int).toNat * 3, none⟩ = some (.int .i64 ((rd_T51 Y L).f0)) := hcc24 0 _ rfl; have cJ : ag.cell? ⟨go24, (L : Int).toNat * 3 + 1, none⟩ = some (.int .i64 ((rd_T51 Y L).f1)) := hcc24 1 _ rfl; have cK : ag.cell? ⟨go24, (L : Int).toNat * 3 + 2, none⟩ = some (.int .i64 ((rd_T51 Y L).f2)) := hcc24 2 _ rfl; have hf24_0 : ag.frozen? ⟨go24, (L : Int).toNat * 3, none⟩ = false := hfr24 0; have hf24_1 : ag.frozen? ⟨go24, (L : Int).toNat * 3 + 1, none⟩ = false := hfr24 1; have hf24_2 : ag.frozen? ⟨go24, (L : Int).toNat * 3 + 2, none⟩ = false := hfr24 2; clear hcl24 hcc24 hfr24 hM24; replace a6 := eq_true a6; replace a7 := eq_true a7; have HX29 := aM (show Kd.R k51 51 ag w.heap.size (fun _ => True) (.slice (some ⟨go24, 0, none⟩) Y.length a8) Y from (qR J)); obtain ⟨ce29, hcl29, hM29, hcc29, hfr29⟩ := Kd.R_elem HX29.out z51 (L : Int) (of_decide_eq_true ‹_›) (tL L Y.length J); obtain rfl := k51_openM hM29; have HP29 := Kd.R_seg HX29.out (L : Int) (of_decide_eq_true ‹_›) (tL L Y.length J) (seg := [.int .i64 0]) (j := 2) hcl29 hcc29 (show 3 ≤ 3 from by decide) (x' := (⟨(rd_T51 Y L).f0, (rd_T51 Y L).f1, 0⟩ : S51)) (k51_mkM _ _ _ (⟨(rd_T51 Y L).f0, (rd_T51 Y L).f1, 0⟩ : S51) ) (fun _ hk => hk); have bQ := hcc29 2 _ rfl; (try simp only [show (k51).sz = 3 from rfl, Nat.mul_one, Nat.add_zero] at bQ); have hf29_2 := hfr29 2; (try simp only [show (k51).sz = 3 from rfl, Nat.mul_one, Nat.add_zero] at hf29_2); clear hcl29 hcc29 hfr29 hM29) | ((with_reducible refine gate_store (t := 3) (p := 39) rfl ?_); refine store_event (t := 3) (p := 39) (v := ?vo_w30) (w1 := (ag.setCell ⟨go24, (L : Int).toNat * 3 + 2, none⟩ (.int .i64 0))) ?hg ?ho ?hn ?hr ?_; (case ho => rfl); (case hg => rfl); (case hn => rfl); (case hr => first | (go_simp; done) | (go_simp; rfl)); intro a9 hw; have hg : ag.grownBy a9 (some go24) := (by rw [hw]; exact HP29.2); have hp_ : Kd.R k51 51 a9 w.heap.size (fun _ => True) (.slice (some ⟨go24, 0, none⟩) Y.length a8) bj := (by rw [hw, bJ.out]; exact HP29.1); clear HP29; replace aa := aM (Kd.R_over' (v := (.slice (some ⟨go24, 0, none⟩) Y.length a8)) (qR aa) (Kd.R_typed J.out) (by decide) hg); replace ac := aM (blk_grown (qK ac) hg (Kd.R_ne J.out ac.out (by decide))); replace J := aM hp_; replace HB := aM ((by rw [hw]; exact below_set (HB.out) GB24.out : Below w.heap.size w a9)); clear hg hw hp_; obtain ⟨cM, cN, cO, cP, cQ⟩ := cz5 ac; obtain ⟨cR, cS, cT, cU, cV⟩ := fz5 ac) | ((with_reducible refine gate_builtin (b := .append) (xs := #[.tmp 40, .tmp 42]) rfl ?_); at_builtin; refine Kd.R_append k47 (w0 := w) w.heap.size rfl (.tmp 40) (.tmp 42) 29 47 (.agg #[(.int .i64 0), (.int .i64 0), (.int .i64 0), (.int .i64 0), (.int .i64 0)]) 40 rfl Try.underlying29 info47 rfl (by decide) (by omega) u6 ae (⟨(rd_T47 l1 D).f0, (rd_T47 l1 D).f1, (rd_T47 l1 D).f2, (rd_T47 l1 D).f3, (rd_T47 l1 D).f4⟩ : S47) [.int .i64 ((rd_T47 l1 D).f0), .int .i64 ((rd_T47 l1 D).f1), .int .i64 ((rd_T47 l1 D).f2), .int .i64 ((rd_T47 l1 D).f3), .int .i64 ((rd_T47 l1 D).f4)] (fun k_ => k_ ≠ ab) (fun _ => False) rfl rfl ?aP (fun _ hk => hk.elim) ?aF ?aO ?aB ?aS ?aL ?_; (case aP => exact k47_mkM _ _ _ (⟨(rd_T47 l1 D).f0, (rd_T47 l1 D).f1, (rd_T47 l1 D).f2, (rd_T47 l1 D).f3, (rd_T47 l1 D).f4⟩ : S47)); (case aB => exact (tB1 af)); (case aF => exact (fun k_ hk => Kd.freshB (qK ac) k_ hk)); (case aO => exact (by (with_reducible repeat first | apply rA | apply rN | apply rD); exact Kd.R_mono aa.out (fun _ hk => hk.2))); (case aS => exact (below_size (tB1 af))); (case aL => have := bK.out; omega); intro cX cY ho hb hg hat; rw [← bM.out] at ho; replace J := aM (Kd.R_over' (qR J) (Kd.R_typed (qR aa)) (by decide) hg); replace ac := aM (blk_grown (qK ac) hg (Kd.R_away aa.out (fun _ hk => hk.2))); replace HB := aM hb; have bT := aM ho; clear aa; clear ho hb hg hat)); go_roundg k2
             case measure => have := aH.out; have := aJ.out; omega
             case rel => exact ⟨(bj), (bL), (wrap64 (D + 1)), tS, H', ⟨by have := aH.out; have := aJ.out; omega⟩, ⟨tR J⟩, ⟨by (with_reducible repeat first | apply rA | apply rN | apply rD); exact Kd.R_mono bT.out (fun _ hk => trivial)⟩, ⟨tB1 af⟩⟩
            ·rw [if_neg aV] at H; exact absurd H (by simp)
           ·rw [if_neg aT] at H; exact absurd H (by simp)
          ·rw [if_neg aQ] at H; exact absurd H (by simp)
         ·rw [if_neg ap] at H; have bI : decide (0 ≤ L) = false := decide_eq_false ap; clear ap; have H' := Aside0.mk H; clear H; have aj : 0 ≤ (D : Int) := of_decide_eq_true ‹_›; have ak : D < (l1.length : Int) := of_decide_eq_true ‹_›; obtain ⟨bO, a3, av, aw, ax, ay, az⟩ := at_T47 aX.out D aj ak; cases a3
          replace av := cB HB av; replace aw := cB HB aw; replace ax := cB HB ax; replace ay := cB HB ay; replace az := cB HB az; replace aj := eq_true aj; replace ak := eq_true ak; go_wp2_with (first | ((with_reducible refine gate_dst (N := 8) rfl ?_); refine bx 8 #[.int .i64 0, .int .i64 0, .int .i64 0, .int .i64 0, .int .i64 0] 47 ?_; intro ab hg cZ hbox hb; replace J := aM (Kd.R_below (qR J) hb); replace aa := aM (Kd.R_below (Kd.R_elderB (qR aa) ab (Nat.le_of_eq hg.symm)) hb); have ac := aM hbox; have bP := aM ((by rw [hg]; exact (below_size (qB HB)) : w.heap.size ≤ ab)); have af := aM ((by rw [hg]; exact (below_size (qB HB)) : w.heap.size ≤ ab)); replace HB := aM (below_step (qB HB) hb); clear hb hbox hg; obtain ⟨c9, c_, da, db, dd⟩ := cz5 ac; obtain ⟨de, df, dg, dh, di⟩ := fz5 ac) | ((with_reducible refine gate_callee (f := 77) rfl ?_); refine gl 33 Try.func77 #[.slice A0 l0.length c0, .int .i64 ((rd_T47 l1 D).f0)] ?_; (with_reducible refine (impl_slotWith.calls _ _ l0 ((rd_T47 l1 D).f0) L _ ?side1 ?side2 bi.out).mono ?_); (case side1 => exact Kd.C_below ah.out (tB1 af)); (case side2 => exact ai.out); rintro e dj ⟨rfl, hb⟩; refine ⟨_, rfl, ?_⟩; replace J := aM (Kd.R_below (by (with_reducible repeat first | apply rA | apply rN | apply rD); exact (far5 J ac)) hb); replace aa := aM (Kd.R_below (by (with_reducible repeat first | apply rA | apply rN | apply rD); exact (Kd.R_mono (Kd.R_far (p := ⟨ab, 4, none⟩) (Kd.R_far (p := ⟨ab, 3, none⟩) (Kd.R_far (p := ⟨ab, 2, none⟩) (Kd.R_far (p := ⟨ab, 1, none⟩) (Kd.R_far (p := ⟨ab, 0, none⟩) (Kd.R_mono aa.out (fun k_ hk => (⟨hk, hk.2⟩ : _ ∧ k_ ≠ ab))) (fun _ hk => hk.2) (.int .i64 ((rd_T47 l1 D).f0))) (fun _ hk => hk.2) (.int .i64 ((rd_T47 l1 D).f1))) (fun _ hk => hk.2) (.int .i64 ((rd_T47 l1 D).f2))) (fun _ hk => hk.2) (.int .i64 ((rd_T47 l1 D).f3))) (fun _ hk => hk.2) (.int .i64 ((rd_T47 l1 D).f4))) (fun _ h_ => h_.1))) hb); replace ac := aM (blk_below (g := ab) (o := .cells #[.int .i64 ((rd_T47 l1 D).f0), .int .i64 ((rd_T47 l1 D).f1), .int .i64 ((rd_T47 l1 D).f2), .int .i64 ((rd_T47 l1 D).f3), .int .i64 ((rd_T47 l1 D).f4)] 47 (0, 0)) (by (with_reducible repeat first | refine kN ?_ _ | refine kD ?_ | refine kA ?_ _); refine blk_put (cs := #[.int .i64 ((rd_T47 l1 D).f0), .int .i64 ((rd_T47 l1 D).f1), .int .i64 ((rd_T47 l1 D).f2), .int .i64 ((rd_T47 l1 D).f3), .int .i64 0]) ?_ 4 _ rfl; (with_reducible repeat first | refine kN ?_ _ | refine kD ?_ | refine kA ?_ _); refine blk_put (cs := #[.int .i64 ((rd_T47 l1 D).f0), .int .i64 ((rd_T47 l1 D).f1), .int .i64 ((rd_T47 l1 D).f2), .int .i64 0, .int .i64 0]) ?_ 3 _ rfl; (with_reducible repeat first | refine kN ?_ _ | refine kD ?_ | refine kA ?_ _); refine blk_put (cs := #[.int .i64 ((rd_T47 l1 D).f0), .int .i64 ((rd_T47 l1 D).f1), .int .i64 0, .int .i64 0, .int .i64 0]) ?_ 2 _ rfl; (with_reducible repeat first | refine kN ?_ _ | refine kD ?_ | refine kA ?_ _); refine blk_put (cs := #[.int .i64 ((rd_T47 l1 D).f0), .int .i64 0, .int .i64 0, .int .i64 0, .int .i64 0]) ?_ 1 _ rfl; (with_reducible repeat first | refine kN ?_ _ | refine kD ?_ | refine kA ?_ _); refine blk_put (cs := #[.int .i64 0, .int .i64 0, .int .i64 0, .int .i64 0, .int .i64 0]) ?_ 0 _ rfl; (with_reducible repeat first | refine kN ?_ _ | refine kD ?_ | refine kA ?_ _); exact ac.out) hb); replace HB := aM (below_step (tB1 af) hb); (try clear hb); (try clear hb2); (try clear hk); (try clear hi))); go_roundg k2
          case measure => have := aH.out; have := aJ.out; omega
          case rel => exact ⟨(Y), (ae), (wrap64 (D + 1)), tS, H', ⟨by have := aH.out; have := aJ.out; omega⟩, ⟨tR J⟩, ⟨by (with_reducible repeat first | apply rA | apply rN | apply rD); exact Kd.R_mono aa.out (fun _ hk => trivial)⟩, ⟨tB1 af⟩⟩
        ·rw [if_neg aN] at H; exact absurd H (by simp)
       ·rw [if_neg aK] at H; exact absurd H (by simp)
      ·rw [if_neg ao] at H; have bH : decide (D < (l1.length : Int)) = false := decide_eq_false ao; clear ao; replace H := Option.bind_eq_some_iff.mp H; obtain ⟨⟨bm, al⟩, bn, H⟩ := H; have bo := Aside0.mk bn; clear bn; by_cases aq : (al.length : Int) > 0
       ·rw [if_pos aq] at H; have bU : decide (0 < (al.length : Int)) = true := decide_eq_true aq; have bV : decide (0 < al.length) = true := decide_eq_true (by omega); clear aq; replace H := Option.bind_eq_some_iff.mp H; obtain ⟨bW, bp, H⟩ := H; have bX := Aside0.mk bp; clear bp; obtain rfl := Option.some.inj H; obtain ⟨bZ, b0, b1⟩ := Kd.R_slice J.out; subst b1; obtain ⟨b2, b3, b4⟩ := Kd.R_slice aa.out; subst b4; go_wp2_with (first | ((with_reducible refine gate_callee (f := 19) rfl ?_); refine gl 48 Try.func19 #[.slice bZ Y.length b0, .slice b2 ae.length b3] ?_; (with_reducible refine (impl_PutAll.calls k2 _ _ Y _ _ ae bm al _ ?side1 ?side2 ?side3 ?side4 bo.out).mono ?_); (case side1 => exact tC J); (case side2 => exact (Kd.R_reads' J.out).2.1); (case side3 => exact tC aa); (case side4 => exact (Kd.R_reads' aa.out).2.1); rintro e dk ⟨b5, b6, rfl, ad, aA, hb⟩; refine ⟨_, rfl, ?_⟩; replace aa := aM (Kd.R_below (qR aa) hb); have aC := aM (Kd.R_lower (Kd.R_new' ad (Kd.R_lt (qR J))) (below_size (qB HB))); replace J := aM (Kd.R_elder' (qR J) (Kd.R_base ad) hb); have aD := aM (Kd.R_lower aA (below_size (qB HB))); replace HB := aM (below_step (qB HB) hb); (try clear hb); (try clear hb2); (try clear hk); (try clear hi); (try clear ad); (try clear aA); obtain ⟨dl, dm, b7⟩ := Kd.R_slice aD.out; subst b7) | ((with_reducible refine gate_callee (f := 68) rfl ?_); refine gl 55 Try.func68 #[.slice A0 l0.length c0] ?_; (with_reducible refine (impl_Slot_68.calls _ _ l0 bW _ ?side1 ?side2 bX.out).mono ?_); (case side1 => exact qC (Kd.C_below ah.out HB.out)); (case side2 => exact ai.out); rintro e dn ⟨dp, rfl, ad, hb⟩; refine ⟨_, rfl, ?_⟩; replace aa := aM (Kd.R_below (qR aa) hb); replace aD := aM (Kd.R_below (qR aD) hb); have b8 := aM (Kd.R_lower (Kd.R_new' (Kd.R_new' ad (Kd.R_lt (qR J))) (Kd.R_lt (qR aC))) (below_size (qB HB))); replace J := aM (Kd.R_elder' (qR J) (Kd.R_base ad) hb); replace aC := aM (Kd.R_elder' (qR aC) (Kd.R_base ad) hb); replace HB := aM (below_step (qB HB) hb); (try clear hb); (try clear hb2); (try clear hk); (try clear hi); (try clear ad))); go_ret; exact ⟨_, tE, by (with_reducible repeat first | apply rA | apply rN | apply rD); exact Kd.R_mono b8.out (fun _ hk => trivial), tB0⟩
       ·rw [if_neg aq] at H; have bU : decide (0 < (al.length : Int)) = false := decide_eq_false aq; have bV : decide (0 < al.length) = false := decide_eq_false (by omega); clear aq; obtain rfl := Option.some.inj H; obtain ⟨b9, b_, ca⟩ := Kd.R_slice J.out; subst ca; obtain ⟨cc, cd, ce⟩ := Kd.R_slice aa.out; subst ce; go_wp2_with (first | ((with_reducible refine gate_callee (f := 19) rfl ?_); refine gl 48 Try.func19 #[.slice b9 Y.length b_, .slice cc ae.length cd] ?_; (with_reducible refine (impl_PutAll.calls k2 _ _ Y _ _ ae bm al _ ?side1 ?side2 ?side3 ?side4 bo.out).mono ?_); (case side1 => exact tC J); (case side2 => exact (Kd.R_reads' J.out).2.1); (case side3 => exact tC aa); (case side4 => exact (Kd.R_reads' aa.out).2.1); rintro e dq ⟨b5, b6, rfl, ad, aA, hb⟩; refine ⟨_, rfl, ?_⟩; replace aa := aM (Kd.R_below (qR aa) hb); have aC := aM (Kd.R_lower (Kd.R_new' ad (Kd.R_lt (qR J))) (below_size (qB HB))); replace J := aM (Kd.R_elder' (qR J) (Kd.R_base ad) hb); have aD := aM (Kd.R_lower aA (below_size (qB HB))); replace HB := aM (below_step (qB HB) hb); (try clear hb); (try clear hb2); (try clear hk); (try clear hi); (try clear ad); (try clear aA); obtain ⟨dr, dt, cf⟩ := Kd.R_slice aD.out; subst cf)); go_ret; exact ⟨_, tE, by (with_reducible repeat first | apply rA | apply rN | apply rD); exact Kd.R_mono aC.out (fun _ hk => trivial), tB0⟩

/-! ### impl_LargestFree: function 28 -/
def impl_LargestFree.l0 : Nat → Int → List (S51) → Int → Int → Option (Int)
 | 0, _, _, _, _ => none
 | k + 1, x3, x6, x7, x8 => if x8 < x7 then (if 0 ≤ x8 then (if x8 < (x6.length : Int) then (if ((rd_T51 x6 x8).f2) = 0 then (impl_LargestFree.l0 k (mx x3 ((rd_T51 x6 x8).f1)) x6 x7 (wrap64 (x8 + 1))) else (impl_LargestFree.l0 k x3 x6 x7 (wrap64 (x8 + 1)))) else (none)) else (none)) else (some x3)
def impl_LargestFree.f (k : Nat) (l0 : List (S51)) : Option (Int) := impl_LargestFree.l0 k 0 l0 (l0.length : Int) 0
theorem impl_LargestFree.mono_l : ∀ k, (∀ y0 y1 y2 y3, LeO (impl_LargestFree.l0 k y0 y1 y2 y3) (impl_LargestFree.l0 (k + 1) y0 y1 y2 y3))
 | 0 => fun _ _ _ _ r h => by simp [impl_LargestFree.l0] at h
 | k + 1 => by
  have ih0 := impl_LargestFree.mono_l k
  ·intro y0 y1 y2 y3; unfold impl_LargestFree.l0
   repeat' first
   | (with_reducible exact ih0 _ _ _ _)
   | (with_reducible exact LeO.refl _)
   | (with_reducible exact LeO.none _)
   | (with_reducible refine LeO.ite ?_ ?_)
   | (with_reducible refine LeO.bind ?_ (fun _ => ?_))
   | exact ih0 _ _ _ _
   | exact LeO.none _
   | refine LeO.ite ?_ ?_
   | refine LeO.bind ?_ (fun _ => ?_)
theorem impl_LargestFree.mono : ∀ a0 k, LeO (impl_LargestFree.f k a0) (impl_LargestFree.f (k + 1) a0) := by
 intro a0 k; have ih0 := impl_LargestFree.mono_l k; unfold impl_LargestFree.f
 repeat' first
   | (with_reducible exact ih0 _ _ _ _)
   | (with_reducible exact LeO.refl _)
   | (with_reducible exact LeO.none _)
   | (with_reducible refine LeO.ite ?_ ?_)
   | (with_reducible refine LeO.bind ?_ (fun _ => ?_))
   | exact ih0 _ _ _ _
   | exact LeO.none _
   | refine LeO.ite ?_ ?_
   | refine LeO.bind ?_ (fun _ => ?_)
set_option maxHeartbeats 8000000 in
set_option maxRecDepth 100000 in
theorem impl_LargestFree.calls (k : Nat) (A0 : Option Addr) (c0 : Nat) (l0 : List (S51)) (r : Int) (w : World) (hr0 : Kd.C k51 w A0 l0.length l0) (hc0 : l0.length ≤ c0) (h : impl_LargestFree.f k l0 = some r) :
  Calls Try.prog 28 #[.slice A0 l0.length c0] w fun e w' => e = .returned (.int .i64 r) ∧ Below w.heap.size w w' := by
 have hu51 := Try.underlying51; have ao := Aside0.mk hr0; have ay := Aside0.mk hc0; clear hr0 hc0; have HB := aM (Below.refl w.heap.size w); have H : (impl_LargestFree.l0 k 0 l0 (l0.length : Int) 0) = some r := h; clear h; have H' := Aside0.mk H; clear H; go_enter Try.func28, Try.ntmps28; go_wp2; go_loopg [3, 8] k (fun kq v3 v8 w' => ∃ (J : Int) (D : Int), v3 = .int .i64 J ∧ v8 = .int .i64 D ∧ Aside0 (impl_LargestFree.l0 kq J l0 (l0.length : Int) D = some r) ∧ Aside0 (kq ≤ k) ∧ Aside0 (Below w.heap.size w w'))
 case atStart => exact ⟨(0), (0), tS, tS, H', ⟨Nat.le_refl _⟩, ⟨tB0⟩⟩
 case round =>
  clear H'; obtain ⟨J, D, rfl, rfl, HA, ah, HB⟩ := hrel; cases gk with
  | zero => exact absurd HA.out (by simp [impl_LargestFree.l0])
  | succ k1 =>
   have H := HA.out; clear HA; simp only [impl_LargestFree.l0] at H; by_cases c2 : D < (l0.length : Int)
   ·rw [if_pos c2] at H; have ar : decide (D < (l0.length : Int)) = true := decide_eq_true c2; clear c2; by_cases c3 : 0 ≤ D
    ·rw [if_pos c3] at H; have az : decide (0 ≤ D) = true := decide_eq_true c3; clear c3; by_cases c4 : D < (l0.length : Int)
     ·rw [if_pos c4] at H; have aA : decide (D < (l0.length : Int)) = true := decide_eq_true c4; clear c4; by_cases L : ((rd_T51 l0 D).f2) = 0
      ·rw [if_pos L] at H; have au : (((rd_T51 l0 D).f2) == 0) = true := beq_iff_eq.mpr L; have av : (((rd_T51 l0 D).f2) != 0) = false := bne_eq_false_iff_eq.mpr L; clear L; obtain ⟨ji6, ak⟩ : ∃ j_ : Int, (mx J ((rd_T51 l0 D).f1)) = j_ := ⟨_, rfl⟩
       replace H : (impl_LargestFree.l0 k1 ji6 l0 (l0.length : Int) (wrap64 (D + 1))) = some r := by first | (rw [ak] at H; exact H) | (simp only [ak] at H ⊢; exact H)
       have aC : (if J < ((rd_T51 l0 D).f1) then ((rd_T51 l0 D).f1) else J) = ji6 := ak; have H' := Aside0.mk H; clear H; have Y : 0 ≤ (D : Int) := of_decide_eq_true ‹_›; have aa : D < (l0.length : Int) := of_decide_eq_true ‹_›; obtain ⟨aw, al, ac, ad, ae⟩ := at_T51 ao.out D Y aa; cases al
       replace ac := cB HB ac; replace ad := cB HB ad; replace ae := cB HB ae; replace Y := eq_true Y; replace aa := eq_true aa; go_wp2_with (first | ((with_reducible refine gate_dst (N := 5) rfl ?_); refine bx 5 #[.int .i64 0, .int .i64 0, .int .i64 0] 51 ?_; intro af hg w7 hbox hb; have ag := aM hbox; have ax := aM ((by rw [hg]; exact (below_size (qB HB)) : w.heap.size ≤ af)); have am := aM ((by rw [hg]; exact (below_size (qB HB)) : w.heap.size ≤ af)); replace HB := aM (below_step (qB HB) hb); clear hb hbox hg; obtain ⟨aE, aG, aH⟩ := cz3 ag; obtain ⟨aI, aJ, aK⟩ := fz3 ag)); go_roundg k1
       case measure => have := ah.out; omega
       case rel => exact ⟨(ji6), (wrap64 (D + 1)), (by first | rfl | (simp; done) | (simp only [← ak] <;> (first | rfl | simp)) | (simp [*]; done)), tS, H', ⟨by have := ah.out; omega⟩, ⟨tB1 am⟩⟩
      ·rw [if_neg L] at H; have au : (((rd_T51 l0 D).f2) == 0) = false := beq_eq_false_iff_ne.mpr L; have av : (((rd_T51 l0 D).f2) != 0) = true := bne_iff_ne.mpr L; have H' := Aside0.mk H; clear H; have Y : 0 ≤ (D : Int) := of_decide_eq_true ‹_›; have aa : D < (l0.length : Int) := of_decide_eq_true ‹_›; obtain ⟨aw, al, ac, ad, ae⟩ := at_T51 ao.out D Y aa; cases al
       replace ac := cB HB ac; replace ad := cB HB ad; replace ae := cB HB ae; replace Y := eq_true Y; replace aa := eq_true aa; go_wp2_with (first | ((with_reducible refine gate_dst (N := 5) rfl ?_); refine bx 5 #[.int .i64 0, .int .i64 0, .int .i64 0] 51 ?_; intro af hg w9 hbox hb; have ag := aM hbox; have ax := aM ((by rw [hg]; exact (below_size (qB HB)) : w.heap.size ≤ af)); have am := aM ((by rw [hg]; exact (below_size (qB HB)) : w.heap.size ≤ af)); replace HB := aM (below_step (qB HB) hb); clear hb hbox hg; obtain ⟨aQ, aT, aU⟩ := cz3 ag; obtain ⟨aV, aW, aX⟩ := fz3 ag)); go_roundg k1
       case measure => have := ah.out; omega
       case rel => exact ⟨(J), (wrap64 (D + 1)), tS, tS, H', ⟨by have := ah.out; omega⟩, ⟨tB1 am⟩⟩
     ·rw [if_neg c4] at H; exact absurd H (by simp)
    ·rw [if_neg c3] at H; exact absurd H (by simp)
   ·rw [if_neg c2] at H; have ar : decide (D < (l0.length : Int)) = false := decide_eq_false c2; clear c2; obtain rfl := Option.some.inj H; go_wp2; go_ret; exact ⟨tE, tB0⟩

end Go.Proofs.Ytbacepkkamfeoaa.PFnPacked
