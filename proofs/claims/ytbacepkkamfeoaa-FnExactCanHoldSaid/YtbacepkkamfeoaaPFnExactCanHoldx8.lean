-- The printed functions of one law and their contracts, over contracts of this session's own (hand.py).
import Derived.Test.YtbacepkkamfeoaaPFnExactCanHoldx0
import Derived.Test.YtbacepkkamfeoaaPFnExactCanHoldx2
import Derived.Test.YtbacepkkamfeoaaPFnExactCanHoldx4
import Derived.Test.YtbacepkkamfeoaaPFnExactCanHoldx5
import Derived.Test.YtbacepkkamfeoaaPFnExactCanHoldx6
import Derived.Test.YtbacepkkamfeoaaPFnExactCanHoldx7
namespace Go.Proofs.Ytbacepkkamfeoaa.PFnExactCanHold
open Go.RowKit Go.Proofs.YtbacepkkamfeoaaW.PrintWords Go.Proofs.YtbacepkkamfeoaaW.PrintLast Go.Proofs.YtbacepkkamfeoaaW.PrintMore Go.Proofs.Ytbacepkkamfeoaa.Short
attribute [local go_sem] max2_int min2_int max_two min_two max_three min_three max_four min_four   -- for this text's walks alone
set_option linter.unusedVariables false
set_option linter.unusedSimpArgs false

/-! ### spec_PutAll: function 29 -/
mutual
def spec_PutAll.l0 : Nat → List (S51) → List (S47) → List (S51) → List Int → List (S47) → Int → Option ((List (S51)) × List Int)
 | 0, _, _, _, _, _, _ => none
 | k + 1, x0, x1, x6, x7, x8, x9 => if x9 < (x8.length : Int) then ((spec_AreSlots.f k x0).bind fun t196 => (if t196 = true then ((spec_AreThings.f k x1).bind fun t197 => (spec_PutAll.j1 k x0 x1 x6 x7 x8 x9 t197)) else (spec_PutAll.j1 k x0 x1 x6 x7 x8 x9 false))) else (spec_PutAll.j1 k x0 x1 x6 x7 x8 x9 false)
def spec_PutAll.j1 : Nat → List (S51) → List (S47) → List (S51) → List Int → List (S47) → Int → Bool → Option ((List (S51)) × List Int)
 | 0, _, _, _, _, _, _, _ => none
 | k + 1, x0, x1, x6, x7, x8, x9, J => if J = true then (if 0 ≤ x9 then (if x9 < (x8.length : Int) then ((spec_PutAway.f k x6 ((rd_T47 x8 x9).f0) ((rd_T47 x8 x9).f1) ((rd_T47 x8 x9).f2) ((rd_T47 x8 x9).f3) ((rd_T47 x8 x9).f4)).bind fun D => (if D.2 = true then (spec_PutAll.l0 k x0 x1 D.1 x7 x8 (wrap64 (x9 + 1))) else ((spec_l9Put.f k x7 ((rd_T47 x8 x9).f0)).bind fun L => (spec_PutAll.l0 k x0 x1 D.1 L x8 (wrap64 (x9 + 1)))))) else (none)) else (none)) else (some (x6, x7))
end
def spec_PutAll.f (k : Nat) (l0 : List (S51)) (l1 : List (S47)) : Option ((List (S51)) × List Int) := (some (([] : List (S51)) : List (S51))).bind fun y184 => (if y184.length + l0.length < 5864062014805 then ((spec_l15Sorted.f l1).bind fun t193 => (spec_PutAll.l0 k l0 l1 (y184 ++ l0) (([] : List Int)) t193 0)) else (none))
theorem spec_PutAll.mono_l : ∀ k, (∀ y0 y1 y2 y3 y4 y5, LeO (spec_PutAll.l0 k y0 y1 y2 y3 y4 y5) (spec_PutAll.l0 (k + 1) y0 y1 y2 y3 y4 y5)) ∧ (∀ y0 y1 y2 y3 y4 y5 y6, LeO (spec_PutAll.j1 k y0 y1 y2 y3 y4 y5 y6) (spec_PutAll.j1 (k + 1) y0 y1 y2 y3 y4 y5 y6))
 | 0 => ⟨fun _ _ _ _ _ _ r h => by simp [spec_PutAll.l0] at h, fun _ _ _ _ _ _ _ r h => by simp [spec_PutAll.j1] at h⟩
 | k + 1 => by
  obtain ⟨ih0, ih1⟩ := spec_PutAll.mono_l k; refine ⟨?_, ?_⟩; all_goals (intros; (first | unfold spec_PutAll.l0 | unfold spec_PutAll.j1); repeat' first | (with_reducible exact ih0 _ _ _ _ _ _) | (with_reducible exact ih1 _ _ _ _ _ _ _) | (with_reducible exact spec_AreSlots.mono _ _) | (with_reducible exact spec_AreThings.mono _ _) | (with_reducible exact spec_PutAway.mono _ _ _ _ _ _ _) | (with_reducible exact spec_l9Put.mono _ _ _) | (with_reducible exact LeO.refl _) | (with_reducible exact LeO.none _) | (with_reducible refine LeO.ite ?_ ?_) | (with_reducible refine LeO.bind ?_ (fun _ => ?_)) | exact ih0 _ _ _ _ _ _ | exact ih1 _ _ _ _ _ _ _ | exact spec_AreSlots.mono _ _ | exact spec_AreThings.mono _ _ | exact spec_PutAway.mono _ _ _ _ _ _ _ | exact spec_l9Put.mono _ _ _ | exact LeO.none _ | refine LeO.ite ?_ ?_ | refine LeO.bind ?_ (fun _ => ?_))
theorem spec_PutAll.mono : ∀ a0 a1 k, LeO (spec_PutAll.f k a0 a1) (spec_PutAll.f (k + 1) a0 a1) := by
 intro a0 a1 k; obtain ⟨ih0, ih1⟩ := spec_PutAll.mono_l k; unfold spec_PutAll.f
 repeat' first
   | (with_reducible exact ih0 _ _ _ _ _ _)
   | (with_reducible exact ih1 _ _ _ _ _ _ _)
   | (with_reducible exact spec_AreSlots.mono _ _)
   | (with_reducible exact spec_AreThings.mono _ _)
   | (with_reducible exact spec_PutAway.mono _ _ _ _ _ _ _)
   | (with_reducible exact spec_l9Put.mono _ _ _)
   | (with_reducible exact LeO.refl _)
   | (with_reducible exact LeO.none _)
   | (with_reducible refine LeO.ite ?_ ?_)
   | (with_reducible refine LeO.bind ?_ (fun _ => ?_))
   | exact ih0 _ _ _ _ _ _
   | exact ih1 _ _ _ _ _ _ _
   | exact spec_AreSlots.mono _ _
   | exact spec_AreThings.mono _ _
   | exact spec_PutAway.mono _ _ _ _ _ _ _
   | exact spec_l9Put.mono _ _ _
   | exact LeO.none _
   | refine LeO.ite ?_ ?_
   | refine LeO.bind ?_ (fun _ => ?_)
set_option maxHeartbeats 8000000 in
set_option maxRecDepth 100000 in
theorem spec_PutAll.calls (k : Nat) (A0 : Option Addr) (c0 : Nat) (l0 : List (S51)) (A1 : Option Addr) (c1 : Nat) (l1 : List (S47)) (r1 : List (S51)) (r2 : List Int) (w : World) (hr0 : Kd.C k51 w A0 l0.length l0) (hc0 : l0.length ≤ c0) (hr1 : Kd.C k47 w A1 l1.length l1) (hc1 : l1.length ≤ c1) (h : spec_PutAll.f k l0 l1 = some (r1, r2)) :
  Calls Try.prog 29 #[.slice A0 l0.length c0, .slice A1 l1.length c1] w fun e w' => ∃ v0_ v1_ : Value, e = .returned (.tuple #[v0_, v1_]) ∧ Kd.R k51 51 w' w.heap.size (fun _ => True) v0_ r1 ∧ Kd.R (Kd.int .i64) 3 w' w.heap.size (fun _ => True) v1_ r2 ∧ Below w.heap.size w w' := by
 have hu47 := Try.underlying47; have aG := Aside0.mk hr0; have aP := Aside0.mk hc0; clear hr0 hc0; have aQ := Aside0.mk hr1; have aT := Aside0.mk hc1; clear hr1 hc1; have HB := aM (Below.refl w.heap.size w); have H : ((some (([] : List (S51)) : List (S51))).bind fun ai => (if ai.length + l0.length < 5864062014805 then ((spec_l15Sorted.f l1).bind fun J => (spec_PutAll.l0 k l0 l1 (ai ++ l0) (([] : List Int)) J 0)) else (none))) = some (r1, r2) := h; clear h; obtain ⟨ai, au⟩ : ∃ y_ : List (S51), y_ = (([] : List (S51))) := ⟨_, rfl⟩
 (first | replace H := bY H au | rw [← au] at H | skip); have aU := Aside0.mk au; clear au; by_cases c3 : ai.length + l0.length < 5864062014805
 ·rw [if_pos c3] at H; have bb := Aside0.mk c3; clear c3; obtain ⟨bc, av⟩ : ∃ y_ : List (S51), y_ = (ai ++ l0) := ⟨_, rfl⟩
  (first | replace H := bY H av | rw [← av] at H | skip); have bd := Aside0.mk av; clear av; obtain ⟨be, aw⟩ : ∃ y_ : List Int, y_ = (([] : List Int)) := ⟨_, rfl⟩
  (first | replace H := bY H aw | rw [← aw] at H | skip); have aV := Aside0.mk aw; clear aw; replace H := Option.bind_eq_some_iff.mp H; obtain ⟨J, aW, H⟩ := H; have A4 := Aside0.mk aW; clear aW; have H' := Aside0.mk H; clear H; go_enter Try.func29, Try.ntmps29; go_wp2_with (first | ((with_reducible refine gate_dst (N := 12) rfl ?_); refine Kd.R_lit k51 _ 51 ?hg (N := 12) ?hd (xs := ([] : List (S51))) (inner := []) (ok := fun _ => True) (okp := fun _ => True) ?hr ?hp (fun _ hk => hk) trivial (Below.refl _ _) (Nat.le_refl _) (by simp) ?_; (case hd => rfl); (case hg => rfl); (case hr => first | (go_simp; done) | (go_simp; rfl)); (case hp => exact (Reps.none _ _)); intro bg w5 al hb hg_ hnew_; clear hg_ hnew_; (first | rw [← aU.out] at al | (simp only [Int.reduceToNat] at al; rw [← aU.out] at al)); have aX := aM (Kd.R_lower al (below_size (qB HB))); replace HB := aM (below_step (qB HB) hb); clear hb al) | ((with_reducible refine gate_builtin (b := .append) (xs := #[.tmp 12, .tmp 13]) rfl ?_); at_builtin; refine Kd.R_append_rows k51 (w0 := w) w.heap.size rfl (.tmp 12) (.tmp 13) 27 51 (.agg #[(.int .i64 0), (.int .i64 0), (.int .i64 0)]) 24 rfl Try.underlying27 info51 rfl (by decide) (by omega) bg ai l0 _ _ _ (fun _ => True) (fun _ => False) rfl rfl ?aO ?aR (fun _ _ h => h) (fun _ h => h.elim) ?aF ?aB ?aS ?aL ?_; (case aR => exact qC (Kd.C_below aG.out HB.out)); (case aB => exact (qB HB)); (case aF => exact (fun _ _ => trivial)); (case aO => exact (qR aX)); (case aS => exact (below_size (qB HB))); (case aL => have := bb.out; omega); intro bZ w7 ho hb hg hat; rw [← bd.out] at ho; replace HB := aM hb; have am := aM ho; clear aX; clear ho hb hg hat) | ((with_reducible refine gate_dst (N := 15) rfl ?_); refine Kd.R_lit (Kd.int .i64) _ 3 ?hg (N := 15) ?hd (xs := ([] : List Int)) (inner := []) (ok := fun _ => True) (okp := fun _ => True) ?hr ?hp (fun _ hk => hk) trivial (Below.refl _ _) (Nat.le_refl _) (by simp) ?_; (case hd => rfl); (case hg => rfl); (case hr => first | (go_simp; done) | (go_simp; rfl)); (case hp => exact (Reps.none _ _)); intro b1 w8 ao hb hg_ hnew_; clear hg_ hnew_; (first | rw [← aV.out] at ao | (simp only [Int.reduceToNat] at ao; rw [← aV.out] at ao)); replace am := aM (Kd.R_below (qR am) hb); have aH := aM (Kd.R_lower ao (below_size (qB HB))); replace HB := aM (below_step (qB HB) hb); clear hb ao) | ((with_reducible refine gate_callee (f := 79) rfl ?_); refine gl 17 Try.func79 #[.slice A1 l1.length c1] ?_; (with_reducible refine (spec_l15Sorted.calls _ _ l1 J _ ?side1 ?side2 A4.out).mono ?_); (case side1 => exact qC (Kd.C_below aQ.out HB.out)); (case side2 => exact aT.out); rintro e b3 ⟨aY, rfl, ab, hb⟩; refine ⟨_, rfl, ?_⟩; replace am := aM (Kd.R_below (qR am) hb); replace aH := aM (Kd.R_below (qR aH) hb); have bh := aM (Kd.R_lower ab (below_size (qB HB))); replace HB := aM (below_step (qB HB) hb); (try clear hb); (try clear hb2); (try clear hk); (try clear hi); (try clear ab))); go_loopg [6, 7, 9] k (fun kq v6 v7 v9 w' => ∃ (ac : List (S51)) (ad : List Int) (D : Int), v9 = .int .i64 D ∧ Aside0 (spec_PutAll.l0 kq l0 l1 ac ad J D = some (r1, r2)) ∧ Aside0 (kq ≤ k) ∧ Aside0 (Kd.R k51 51 w' w.heap.size (fun _ => True) v6 ac) ∧ Aside0 (Kd.R (Kd.int .i64) 3 w' w.heap.size (fun _ => True) v7 ad) ∧ Aside0 (Kd.R k47 47 w' w.heap.size (fun _ => True) aY J) ∧ Aside0 (Below w.heap.size w w'))
  case atStart => exact ⟨(bc), (be), (0), tS, H', ⟨Nat.le_refl _⟩, ⟨tR am⟩, ⟨tR aH⟩, ⟨tR bh⟩, ⟨tB0⟩⟩
  case round =>
   clear H'; try clear c1
   try clear c2
   try clear p2
   try clear c3
   try clear c7
   obtain ⟨ac, ad, D, rfl, HA, ae, Y, aa, L, HB⟩ := hrel; cases gk with
   | zero => exact absurd HA.out (by simp [spec_PutAll.l0])
   | succ k1 =>
    have H := HA.out; clear HA; simp only [spec_PutAll.l0] at H; have aI := Aside0.mk H; clear H; go_upto_region 5 with (fail)
    go_cut [29] (fun bn wc => ∃ (kq : Nat) (ax : Bool), bn = .bool ax ∧ Aside0 (spec_PutAll.j1 kq l0 l1 ac ad J D ax = some (r1, r2)) ∧ Aside0 (kq ≤ k1) ∧ Aside0 (Kd.R k51 51 wc w.heap.size (fun _ => True) u6 ac) ∧ Aside0 (Kd.R (Kd.int .i64) 3 wc w.heap.size (fun _ => True) u7 ad) ∧ Aside0 (Kd.R k47 47 wc w.heap.size (fun _ => True) aY J) ∧ Aside0 (Below w.heap.size w wc))
    case first =>
     have H := aI.out; clear aI; by_cases af : D < (J.length : Int)
     ·rw [if_pos af] at H; have ak : decide (D < (J.length : Int)) = true := decide_eq_true af; clear af; (first | rw [ak] | (simp only [i64_w, i32_w]; rw [ak]) | skip); replace H := Option.bind_eq_some_iff.mp H; obtain ⟨bo, aZ, H⟩ := H; have a2 := Aside0.mk aZ; clear aZ; by_cases ap : bo = true
      ·subst ap; rw [if_pos rfl] at H; replace H := Option.bind_eq_some_iff.mp H; obtain ⟨a3, a6, H⟩ := H; have bp := Aside0.mk a6; clear a6; have H' := Aside0.mk H; clear H; obtain ⟨b4, b5, bq⟩ := Kd.R_slice L.out; subst bq; go_wp2_with (first | (go_at_call 59; (with_reducible refine (spec_AreSlots.calls k1 _ _ l0 true _ ?side1 ?side2 a2.out).mono ?_); (case side1 => exact qC (Kd.C_below aG.out HB.out)); (case side2 => exact aP.out); rintro e b6 ⟨rfl, hb⟩; replace Y := aM (Kd.R_below (qR Y) hb); replace aa := aM (Kd.R_below (qR aa) hb); replace L := aM (Kd.R_below (qR L) hb); replace HB := aM (below_step (qB HB) hb); (try clear hb); (try clear hb2); (try clear hk); (try clear hi)) | (go_at_call 60; (with_reducible refine (spec_AreThings.calls k1 _ _ l1 a3 _ ?side1 ?side2 bp.out).mono ?_); (case side1 => exact qC (Kd.C_below aQ.out HB.out)); (case side2 => exact aT.out); rintro e b7 ⟨rfl, hb⟩; replace Y := aM (Kd.R_below (qR Y) hb); replace aa := aM (Kd.R_below (qR aa) hb); replace L := aM (Kd.R_below (qR L) hb); replace HB := aM (below_step (qB HB) hb); (try clear hb); (try clear hb2); (try clear hk); (try clear hi))); go_meet
       case rel => exact ⟨_, (a3), tS, H', ⟨by have := ae.out; first | omega | exact Nat.le_refl _⟩, ⟨tR Y⟩, ⟨tR aa⟩, ⟨tR L⟩, ⟨tB0⟩⟩
      ·replace ap := Bool.eq_false_iff.mpr ap; subst ap; rw [if_neg ff_] at H; have H' := Aside0.mk H; clear H; obtain ⟨b8, b9, br⟩ := Kd.R_slice L.out; subst br; go_wp2_with (first | (go_at_call 59; (with_reducible refine (spec_AreSlots.calls k1 _ _ l0 false _ ?side1 ?side2 a2.out).mono ?_); (case side1 => exact qC (Kd.C_below aG.out HB.out)); (case side2 => exact aP.out); rintro e b_ ⟨rfl, hb⟩; replace Y := aM (Kd.R_below (qR Y) hb); replace aa := aM (Kd.R_below (qR aa) hb); replace L := aM (Kd.R_below (qR L) hb); replace HB := aM (below_step (qB HB) hb); (try clear hb); (try clear hb2); (try clear hk); (try clear hi))); go_meet
       case rel => exact ⟨_, (false), tS, H', ⟨by have := ae.out; first | omega | exact Nat.le_refl _⟩, ⟨tR Y⟩, ⟨tR aa⟩, ⟨tR L⟩, ⟨tB0⟩⟩
     ·rw [if_neg af] at H; have ak : decide (D < (J.length : Int)) = false := decide_eq_false af; clear af; (first | rw [ak] | (simp only [i64_w, i32_w]; rw [ak]) | skip); have H' := Aside0.mk H; clear H; obtain ⟨ca, cc, bs⟩ := Kd.R_slice L.out; subst bs; go_wp2; go_meet
      case rel => exact ⟨_, (false), tS, H', ⟨by have := ae.out; first | omega | exact Nat.le_refl _⟩, ⟨tR Y⟩, ⟨tR aa⟩, ⟨tR L⟩, ⟨tB0⟩⟩
    case rest =>
     clear aI; try clear c1
     try clear c2
     try clear p2
     try clear c3
     try clear c7
     try clear af
     try clear ak
     try clear ap
     try clear p2
     obtain ⟨kq, ax, rfl, HA, ay, Y, aa, L, HB⟩ := hcut; cases kq with
     | zero => exact absurd HA.out (by simp [spec_PutAll.j1])
     | succ aq =>
      have H := HA.out; clear HA; simp only [spec_PutAll.j1] at H; by_cases az : ax = true
      ·subst az; rw [if_pos rfl] at H; by_cases aA : 0 ≤ D
       ·rw [if_pos aA] at H; have cd : decide (0 ≤ D) = true := decide_eq_true aA; clear aA; by_cases aC : D < (J.length : Int)
        ·rw [if_pos aC] at H; have ce : decide (D < (J.length : Int)) = true := decide_eq_true aC; clear aC; replace H := Option.bind_eq_some_iff.mp H; obtain ⟨⟨aD, bt⟩, a7, H⟩ := H; have a8 := Aside0.mk a7; clear a7; by_cases aE : bt = true
         ·subst aE; rw [if_pos rfl] at H; have H' := Aside0.mk H; clear H; obtain ⟨cf, cg, bu⟩ := Kd.R_slice L.out; subst bu; have ag : 0 ≤ (D : Int) := of_decide_eq_true ‹_›; have ah : D < (J.length : Int) := of_decide_eq_true ‹_›; obtain ⟨a9, aJ, bv, bw, bz, bB, bC⟩ := at_T47 (Kd.R_reads' L.out).2.2 D ag ah; cases aJ
          replace ag := eq_true ag; replace ah := eq_true ah; obtain ⟨bE, bF, bG⟩ := Kd.R_slice Y.out; subst bG; go_wp2_with (first | ((with_reducible refine gate_callee (f := 80) rfl ?_); refine gl 38 Try.func80 #[.slice bE ac.length bF, .agg #[.int .i64 ((rd_T47 J D).f0), .int .i64 ((rd_T47 J D).f1), .int .i64 ((rd_T47 J D).f2), .int .i64 ((rd_T47 J D).f3), .int .i64 ((rd_T47 J D).f4)]] ?_; (with_reducible refine (spec_PutAway.calls aq _ _ ac ((rd_T47 J D).f0) ((rd_T47 J D).f1) ((rd_T47 J D).f2) ((rd_T47 J D).f3) ((rd_T47 J D).f4) aD true _ ?side1 ?side2 a8.out).mono ?_); (case side1 => exact tC Y); (case side2 => exact (Kd.R_reads' Y.out).2.1); rintro e ch ⟨bH, rfl, ab, hb⟩; refine ⟨_, rfl, ?_⟩; replace aa := aM (Kd.R_below (qR aa) hb); replace L := aM (Kd.R_below (qR L) hb); have ar := aM (Kd.R_lower (Kd.R_new' ab (Kd.R_lt (qR Y))) (below_size (qB HB))); replace Y := aM (Kd.R_elder' (qR Y) (Kd.R_base ab) hb); replace HB := aM (below_step (qB HB) hb); (try clear hb); (try clear hb2); (try clear hk); (try clear hi); (try clear ab))); go_roundg aq
          case measure => have := ae.out; have := ay.out; omega
          case rel => exact ⟨(aD), (ad), (wrap64 (D + 1)), tS, H', ⟨by have := ae.out; have := ay.out; omega⟩, ⟨by (with_reducible repeat first | apply rA | apply rN | apply rD); exact Kd.R_mono ar.out (fun _ hk => trivial)⟩, ⟨tR aa⟩, ⟨tR L⟩, ⟨tB0⟩⟩
         ·replace aE := Bool.eq_false_iff.mpr aE; subst aE; rw [if_neg ff_] at H; replace H := Option.bind_eq_some_iff.mp H; obtain ⟨a_, ba, H⟩ := H; have bI := Aside0.mk ba; clear ba; have H' := Aside0.mk H; clear H; obtain ⟨ci, cj, bJ⟩ := Kd.R_slice L.out; subst bJ; have ag : 0 ≤ (D : Int) := of_decide_eq_true ‹_›; have ah : D < (J.length : Int) := of_decide_eq_true ‹_›; obtain ⟨a9, aJ, bv, bw, bz, bB, bC⟩ := at_T47 (Kd.R_reads' L.out).2.2 D ag ah; cases aJ
          replace ag := eq_true ag; replace ah := eq_true ah; obtain ⟨bK, bL, bM⟩ := Kd.R_slice Y.out; subst bM; go_wp2_with (first | ((with_reducible refine gate_callee (f := 80) rfl ?_); refine gl 38 Try.func80 #[.slice bK ac.length bL, .agg #[.int .i64 ((rd_T47 J D).f0), .int .i64 ((rd_T47 J D).f1), .int .i64 ((rd_T47 J D).f2), .int .i64 ((rd_T47 J D).f3), .int .i64 ((rd_T47 J D).f4)]] ?_; (with_reducible refine (spec_PutAway.calls aq _ _ ac ((rd_T47 J D).f0) ((rd_T47 J D).f1) ((rd_T47 J D).f2) ((rd_T47 J D).f3) ((rd_T47 J D).f4) aD false _ ?side1 ?side2 a8.out).mono ?_); (case side1 => exact tC Y); (case side2 => exact (Kd.R_reads' Y.out).2.1); rintro e ck ⟨bH, rfl, ab, hb⟩; refine ⟨_, rfl, ?_⟩; replace aa := aM (Kd.R_below (qR aa) hb); replace L := aM (Kd.R_below (qR L) hb); have ar := aM (Kd.R_lower (Kd.R_new' ab (Kd.R_lt (qR Y))) (below_size (qB HB))); replace Y := aM (Kd.R_elder' (qR Y) (Kd.R_base ab) hb); replace HB := aM (below_step (qB HB) hb); (try clear hb); (try clear hb2); (try clear hk); (try clear hi); (try clear ab); have aK : 0 ≤ (D : Int) := of_decide_eq_true ‹_›; have aN : D < (J.length : Int) := of_decide_eq_true ‹_›; obtain ⟨bO, bP, cl, cm, cn, co, cp⟩ := at_T47 (Kd.R_reads' L.out).2.2 D aK aN; obtain rfl : a9 = bO := (by injection bP); replace aK := eq_true aK; replace aN := eq_true aN; obtain ⟨bQ, bT, bU⟩ := Kd.R_slice aa.out; subst bU) | ((with_reducible refine gate_callee (f := 81) rfl ?_); refine gl 50 Try.func81 #[.slice bQ ad.length bT, .int .i64 ((rd_T47 J D).f0)] ?_; (with_reducible refine (spec_l9Put.calls aq _ _ ad ((rd_T47 J D).f0) a_ _ ?side1 ?side2 bI.out).mono ?_); (case side1 => exact tC aa); (case side2 => exact (Kd.R_reads' aa.out).2.1); rintro e cq ⟨cr, rfl, ab, hb⟩; refine ⟨_, rfl, ?_⟩; replace Y := aM (Kd.R_below (qR Y) hb); replace L := aM (Kd.R_below (qR L) hb); replace ar := aM (Kd.R_below (qR ar) hb); have bV := aM (Kd.R_lower (Kd.R_new' ab (Kd.R_lt (qR aa))) (below_size (qB HB))); replace aa := aM (Kd.R_elder' (qR aa) (Kd.R_base ab) hb); replace HB := aM (below_step (qB HB) hb); (try clear hb); (try clear hb2); (try clear hk); (try clear hi); (try clear ab))); go_roundg aq
          case measure => have := ae.out; have := ay.out; omega
          case rel => exact ⟨(aD), (a_), (wrap64 (D + 1)), tS, H', ⟨by have := ae.out; have := ay.out; omega⟩, ⟨by (with_reducible repeat first | apply rA | apply rN | apply rD); exact Kd.R_mono ar.out (fun _ hk => trivial)⟩, ⟨by (with_reducible repeat first | apply rA | apply rN | apply rD); exact Kd.R_mono bV.out (fun _ hk => trivial)⟩, ⟨tR L⟩, ⟨tB0⟩⟩
        ·rw [if_neg aC] at H; exact absurd H (by simp)
       ·rw [if_neg aA] at H; exact absurd H (by simp)
      ·replace az := Bool.eq_false_iff.mpr az; subst az; rw [if_neg ff_] at H; simp only [Option.some.injEq, Prod.mk.injEq] at H; obtain ⟨rfl, rfl⟩ := H; go_wp2; go_ret2; exact ⟨_, _, tE, tR Y, tR aa, tB0⟩
 ·rw [if_neg c3] at H; exact absurd H (by simp)

/-! ### spec_CanHold: function 11 -/
def spec_CanHold.l0 : Nat → List (S51) → List (S47) → Int → Option (Bool)
 | 0, _, _, _ => none
 | k + 1, x0, x1, x5 => if x5 < (x1.length : Int) then (if 0 ≤ x5 then ((spec_SlotOf.f k x0 ((rd_T47 x1 x5).f0)).bind fun t208 => (if t208 = 0 then (spec_CanHold.l0 k x0 x1 (wrap64 (x5 + 1))) else (some false))) else (none)) else ((spec_PutAll.f k x0 x1).bind fun bt209 => ((spec_AreSlots.f k x0).bind fun t215 => (if t215 = true then ((spec_AreThings.f k x1).bind fun t216 => (if t216 = true then (some ((bt209.2.length : Int) == 0)) else (some false))) else (some false))))
def spec_CanHold.f (k : Nat) (l0 : List (S51)) (l1 : List (S47)) : Option (Bool) := spec_CanHold.l0 k l0 l1 0
theorem spec_CanHold.mono_l : ∀ k, (∀ y0 y1 y2, LeO (spec_CanHold.l0 k y0 y1 y2) (spec_CanHold.l0 (k + 1) y0 y1 y2))
 | 0 => fun _ _ _ r h => by simp [spec_CanHold.l0] at h
 | k + 1 => by
  have ih0 := spec_CanHold.mono_l k
  ·intro y0 y1 y2; unfold spec_CanHold.l0
   repeat' first
   | (with_reducible exact ih0 _ _ _)
   | (with_reducible exact spec_AreSlots.mono _ _)
   | (with_reducible exact spec_AreThings.mono _ _)
   | (with_reducible exact spec_PutAll.mono _ _ _)
   | (with_reducible exact spec_SlotOf.mono _ _ _)
   | (with_reducible exact LeO.refl _)
   | (with_reducible exact LeO.none _)
   | (with_reducible refine LeO.ite ?_ ?_)
   | (with_reducible refine LeO.bind ?_ (fun _ => ?_))
   | exact ih0 _ _ _
   | exact spec_AreSlots.mono _ _
   | exact spec_AreThings.mono _ _
   | exact spec_PutAll.mono _ _ _
   | exact spec_SlotOf.mono _ _ _
   | exact LeO.none _
   | refine LeO.ite ?_ ?_
   | refine LeO.bind ?_ (fun _ => ?_)
theorem spec_CanHold.mono : ∀ a0 a1 k, LeO (spec_CanHold.f k a0 a1) (spec_CanHold.f (k + 1) a0 a1) := by
 intro a0 a1 k; have ih0 := spec_CanHold.mono_l k; unfold spec_CanHold.f
 repeat' first
   | (with_reducible exact ih0 _ _ _)
   | (with_reducible exact spec_AreSlots.mono _ _)
   | (with_reducible exact spec_AreThings.mono _ _)
   | (with_reducible exact spec_PutAll.mono _ _ _)
   | (with_reducible exact spec_SlotOf.mono _ _ _)
   | (with_reducible exact LeO.refl _)
   | (with_reducible exact LeO.none _)
   | (with_reducible refine LeO.ite ?_ ?_)
   | (with_reducible refine LeO.bind ?_ (fun _ => ?_))
   | exact ih0 _ _ _
   | exact spec_AreSlots.mono _ _
   | exact spec_AreThings.mono _ _
   | exact spec_PutAll.mono _ _ _
   | exact spec_SlotOf.mono _ _ _
   | exact LeO.none _
   | refine LeO.ite ?_ ?_
   | refine LeO.bind ?_ (fun _ => ?_)
set_option maxHeartbeats 8000000 in
set_option maxRecDepth 100000 in
theorem spec_CanHold.calls (k : Nat) (A0 : Option Addr) (c0 : Nat) (l0 : List (S51)) (A1 : Option Addr) (c1 : Nat) (l1 : List (S47)) (r : Bool) (w : World) (hr0 : Kd.C k51 w A0 l0.length l0) (hc0 : l0.length ≤ c0) (hr1 : Kd.C k47 w A1 l1.length l1) (hc1 : l1.length ≤ c1) (h : spec_CanHold.f k l0 l1 = some r) :
  Calls Try.prog 11 #[.slice A0 l0.length c0, .slice A1 l1.length c1] w fun e w' => e = .returned (.bool r) ∧ Below w.heap.size w w' := by
 have Y := Aside0.mk hr0; have aa := Aside0.mk hc0; clear hr0 hc0; have ad := Aside0.mk hr1; have aj := Aside0.mk hc1; clear hr1 hc1; have HB := aM (Below.refl w.heap.size w); have H : (spec_CanHold.l0 k l0 l1 0) = some r := h; clear h; have H' := Aside0.mk H; clear H; go_enter Try.func11, Try.ntmps11; go_wp2; go_loopg [5] k (fun kq v5 w' => ∃ (D : Int), v5 = .int .i64 D ∧ Aside0 (spec_CanHold.l0 kq l0 l1 D = some r) ∧ Aside0 (kq ≤ k) ∧ Aside0 (Below w.heap.size w w'))
 case atStart => exact ⟨(0), tS, H', ⟨Nat.le_refl _⟩, ⟨tB0⟩⟩
 case round =>
  clear H'; try clear c1
  try clear p2
  obtain ⟨D, rfl, HA, aA, HB⟩ := hrel; cases gk with
  | zero => exact absurd HA.out (by simp [spec_CanHold.l0])
  | succ k1 =>
   have H := HA.out; clear HA; simp only [spec_CanHold.l0] at H; by_cases c3 : D < (l1.length : Int)
   ·rw [if_pos c3] at H; have aP : decide (D < (l1.length : Int)) = true := decide_eq_true c3; clear c3; by_cases c4 : 0 ≤ D
    ·rw [if_pos c4] at H; have aY : decide (0 ≤ D) = true := decide_eq_true c4; clear c4; replace H := Option.bind_eq_some_iff.mp H; obtain ⟨ae, aC, H⟩ := H; have A5 := Aside0.mk aC; clear aC; by_cases c6 : ae = 0
     ·rw [if_pos c6] at H; have aQ : (ae == 0) = true := beq_iff_eq.mpr c6; have aT : (ae != 0) = false := bne_eq_false_iff_eq.mpr c6; clear c6; have H' := Aside0.mk H; clear H; have ag : 0 ≤ (D : Int) := of_decide_eq_true ‹_›; have ah : D < (l1.length : Int) := of_decide_eq_true ‹_›; obtain ⟨aU, av, ak, al, am, ao, ap⟩ := at_T47 ad.out D ag ah; cases av
      replace ak := cB HB ak; replace al := cB HB al; replace am := cB HB am; replace ao := cB HB ao; replace ap := cB HB ap; replace ag := eq_true ag; replace ah := eq_true ah; go_wp2_with (first | ((with_reducible refine gate_callee (f := 58) rfl ?_); refine gl 20 Try.func58 #[.slice A0 l0.length c0, .int .i64 ((rd_T47 l1 D).f0)] ?_; (with_reducible refine (spec_SlotOf.calls k1 _ _ l0 ((rd_T47 l1 D).f0) ae _ ?side1 ?side2 A5.out).mono ?_); (case side1 => exact qC (Kd.C_below Y.out HB.out)); (case side2 => exact aa.out); rintro e w' ⟨rfl, ⟨nd, rfl⟩⟩; refine ⟨_, rfl, ?_⟩)); go_roundg k1
      case measure => have := aA.out; omega
      case rel => exact ⟨(wrap64 (D + 1)), tS, H', ⟨by have := aA.out; omega⟩, ⟨tB0⟩⟩
     ·rw [if_neg c6] at H; have aQ : (ae == 0) = false := beq_eq_false_iff_ne.mpr c6; have aT : (ae != 0) = true := bne_iff_ne.mpr c6; obtain rfl := Option.some.inj H; have ag : 0 ≤ (D : Int) := of_decide_eq_true ‹_›; have ah : D < (l1.length : Int) := of_decide_eq_true ‹_›; obtain ⟨aU, av, ak, al, am, ao, ap⟩ := at_T47 ad.out D ag ah; cases av
      replace ak := cB HB ak; replace al := cB HB al; replace am := cB HB am; replace ao := cB HB ao; replace ap := cB HB ap; replace ag := eq_true ag; replace ah := eq_true ah; go_wp2_with (first | ((with_reducible refine gate_callee (f := 58) rfl ?_); refine gl 20 Try.func58 #[.slice A0 l0.length c0, .int .i64 ((rd_T47 l1 D).f0)] ?_; (with_reducible refine (spec_SlotOf.calls k1 _ _ l0 ((rd_T47 l1 D).f0) ae _ ?side1 ?side2 A5.out).mono ?_); (case side1 => exact qC (Kd.C_below Y.out HB.out)); (case side2 => exact aa.out); rintro e w' ⟨rfl, ⟨nd, rfl⟩⟩; refine ⟨_, rfl, ?_⟩)); go_ret; exact ⟨tE, tB0⟩
    ·rw [if_neg c4] at H; exact absurd H (by simp)
   ·rw [if_neg c3] at H; have aP : decide (D < (l1.length : Int)) = false := decide_eq_false c3; clear c3; replace H := Option.bind_eq_some_iff.mp H; obtain ⟨⟨aw, ax⟩, aE, H⟩ := H; have A7 := Aside0.mk aE; clear aE; replace H := Option.bind_eq_some_iff.mp H; obtain ⟨aV, aG, H⟩ := H; have A8 := Aside0.mk aG; clear aG; by_cases c9 : aV = true
    ·subst c9; rw [if_pos rfl] at H; replace H := Option.bind_eq_some_iff.mp H; obtain ⟨aW, aH, H⟩ := H; have aI := Aside0.mk aH; clear aH; by_cases au : aW = true
     ·subst au; rw [if_pos rfl] at H; obtain rfl := Option.some.inj H; go_wp2_with (first | ((with_reducible refine gate_callee (f := 29) rfl ?_); refine gl 25 Try.func29 #[.slice A0 l0.length c0, .slice A1 l1.length c1] ?_; (with_reducible refine (spec_PutAll.calls k1 _ _ l0 _ _ l1 aw ax _ ?side1 ?side2 ?side3 ?side4 A7.out).mono ?_); (case side1 => exact qC (Kd.C_below Y.out HB.out)); (case side2 => exact aa.out); (case side3 => exact qC (Kd.C_below ad.out HB.out)); (case side4 => exact aj.out); rintro e aZ ⟨aJ, aK, rfl, ab, ac, hb⟩; refine ⟨_, rfl, ?_⟩; have L := aM (Kd.R_lower ab (below_size (qB HB))); have J := aM (Kd.R_lower ac (below_size (qB HB))); replace HB := aM (below_step (qB HB) hb); (try clear hb); (try clear hb2); (try clear hk); (try clear hi); (try clear ab); (try clear ac)) | ((with_reducible refine gate_callee (f := 59) rfl ?_); refine gl 29 Try.func59 #[.slice A0 l0.length c0] ?_; (with_reducible refine (spec_AreSlots.calls k1 _ _ l0 true _ ?side1 ?side2 A8.out).mono ?_); (case side1 => exact qC (Kd.C_below Y.out HB.out)); (case side2 => exact aa.out); rintro e a2 ⟨rfl, hb⟩; refine ⟨_, rfl, ?_⟩; replace L := aM (Kd.R_below (qR L) hb); replace J := aM (Kd.R_below (qR J) hb); replace HB := aM (below_step (qB HB) hb); (try clear hb); (try clear hb2); (try clear hk); (try clear hi)) | (go_at_call 60; (with_reducible refine (spec_AreThings.calls k1 _ _ l1 true _ ?side1 ?side2 aI.out).mono ?_); (case side1 => exact qC (Kd.C_below ad.out HB.out)); (case side2 => exact aj.out); rintro e a3 ⟨rfl, hb⟩; replace L := aM (Kd.R_below (qR L) hb); replace J := aM (Kd.R_below (qR J) hb); replace HB := aM (below_step (qB HB) hb); (try clear hb); (try clear hb2); (try clear hk); (try clear hi); obtain ⟨a6, a7, aX⟩ := Kd.R_slice J.out; subst aX)); go_ret; exact ⟨tE, tB0⟩
     ·replace au := Bool.eq_false_iff.mpr au; subst au; rw [if_neg ff_] at H; obtain rfl := Option.some.inj H; go_wp2_with (first | ((with_reducible refine gate_callee (f := 29) rfl ?_); refine gl 25 Try.func29 #[.slice A0 l0.length c0, .slice A1 l1.length c1] ?_; (with_reducible refine (spec_PutAll.calls k1 _ _ l0 _ _ l1 aw ax _ ?side1 ?side2 ?side3 ?side4 A7.out).mono ?_); (case side1 => exact qC (Kd.C_below Y.out HB.out)); (case side2 => exact aa.out); (case side3 => exact qC (Kd.C_below ad.out HB.out)); (case side4 => exact aj.out); rintro e a8 ⟨aJ, aK, rfl, ab, ac, hb⟩; refine ⟨_, rfl, ?_⟩; have L := aM (Kd.R_lower ab (below_size (qB HB))); have J := aM (Kd.R_lower ac (below_size (qB HB))); replace HB := aM (below_step (qB HB) hb); (try clear hb); (try clear hb2); (try clear hk); (try clear hi); (try clear ab); (try clear ac)) | ((with_reducible refine gate_callee (f := 59) rfl ?_); refine gl 29 Try.func59 #[.slice A0 l0.length c0] ?_; (with_reducible refine (spec_AreSlots.calls k1 _ _ l0 true _ ?side1 ?side2 A8.out).mono ?_); (case side1 => exact qC (Kd.C_below Y.out HB.out)); (case side2 => exact aa.out); rintro e a9 ⟨rfl, hb⟩; refine ⟨_, rfl, ?_⟩; replace L := aM (Kd.R_below (qR L) hb); replace J := aM (Kd.R_below (qR J) hb); replace HB := aM (below_step (qB HB) hb); (try clear hb); (try clear hb2); (try clear hk); (try clear hi)) | (go_at_call 60; (with_reducible refine (spec_AreThings.calls k1 _ _ l1 false _ ?side1 ?side2 aI.out).mono ?_); (case side1 => exact qC (Kd.C_below ad.out HB.out)); (case side2 => exact aj.out); rintro e a_ ⟨rfl, hb⟩; replace L := aM (Kd.R_below (qR L) hb); replace J := aM (Kd.R_below (qR J) hb); replace HB := aM (below_step (qB HB) hb); (try clear hb); (try clear hb2); (try clear hk); (try clear hi))); go_ret; exact ⟨tE, tB0⟩
    ·replace c9 := Bool.eq_false_iff.mpr c9; subst c9; rw [if_neg ff_] at H; obtain rfl := Option.some.inj H; go_wp2_with (first | ((with_reducible refine gate_callee (f := 29) rfl ?_); refine gl 25 Try.func29 #[.slice A0 l0.length c0, .slice A1 l1.length c1] ?_; (with_reducible refine (spec_PutAll.calls k1 _ _ l0 _ _ l1 aw ax _ ?side1 ?side2 ?side3 ?side4 A7.out).mono ?_); (case side1 => exact qC (Kd.C_below Y.out HB.out)); (case side2 => exact aa.out); (case side3 => exact qC (Kd.C_below ad.out HB.out)); (case side4 => exact aj.out); rintro e ba ⟨aJ, aK, rfl, ab, ac, hb⟩; refine ⟨_, rfl, ?_⟩; have L := aM (Kd.R_lower ab (below_size (qB HB))); have J := aM (Kd.R_lower ac (below_size (qB HB))); replace HB := aM (below_step (qB HB) hb); (try clear hb); (try clear hb2); (try clear hk); (try clear hi); (try clear ab); (try clear ac)) | ((with_reducible refine gate_callee (f := 59) rfl ?_); refine gl 29 Try.func59 #[.slice A0 l0.length c0] ?_; (with_reducible refine (spec_AreSlots.calls k1 _ _ l0 false _ ?side1 ?side2 A8.out).mono ?_); (case side1 => exact qC (Kd.C_below Y.out HB.out)); (case side2 => exact aa.out); rintro e bb ⟨rfl, hb⟩; refine ⟨_, rfl, ?_⟩; replace L := aM (Kd.R_below (qR L) hb); replace J := aM (Kd.R_below (qR J) hb); replace HB := aM (below_step (qB HB) hb); (try clear hb); (try clear hb2); (try clear hk); (try clear hi))); go_ret; exact ⟨tE, tB0⟩

/-! ### laws_toSlot: function 61 -/
def laws_toSlot.f (a0_0 : Int) (a0_1 : Int) (a0_2 : Int) : Option (Int × Int × Int) := some (a0_0, a0_1, a0_2)
set_option maxHeartbeats 8000000 in
set_option maxRecDepth 100000 in
theorem laws_toSlot.calls (a0_0 : Int) (a0_1 : Int) (a0_2 : Int) (r1 : Int) (r2 : Int) (r3 : Int) (w : World) (h : laws_toSlot.f a0_0 a0_1 a0_2 = some (r1, r2, r3)) :
  Calls Try.prog 61 #[.agg #[.int .i64 a0_0, .int .i64 a0_1, .int .i64 a0_2]] w fun e w' => e = .returned (.agg #[.int .i64 r1, .int .i64 r2, .int .i64 r3]) ∧ Below w.heap.size w w' := by
 have hu91 := Try.underlying91; have hu51 := Try.underlying51; have HB := aM (Below.refl w.heap.size w); have H : (some (a0_0, a0_1, a0_2)) = some (r1, r2, r3) := h; clear h; simp only [Option.some.injEq, Prod.mk.injEq] at H; obtain ⟨rfl, rfl, rfl⟩ := H; go_enter Try.func61, Try.ntmps61; go_wp2_with (first | ((with_reducible refine gate_dst (N := 1) rfl ?_); refine bx 1 #[.int .i64 a0_0, .int .i64 a0_1, .int .i64 a0_2] 91 ?_; intro aa hg w2 hbox hb; have D := aM hbox; have am := aM ((by rw [hg]; exact (below_size (qB HB)) : w.heap.size ≤ aa)); have J := aM ((by rw [hg]; exact (below_size (qB HB)) : w.heap.size ≤ aa)); replace HB := aM (below_step (qB HB) hb); clear hb hbox hg) | ((with_reducible refine gate_dst (N := 2) rfl ?_); refine bx 2 #[.int .i64 0, .int .i64 0, .int .i64 0] 51 ?_; intro L hg w3 hbox hb; have Y := aM hbox; have ap := aM ((by rw [hg]; exact (below_size (tB1 J)) : w.heap.size ≤ L)); have ac := aM ((by rw [hg]; exact (below_size (tB1 J)) : w.heap.size ≤ L)); replace HB := aM (below_step (tB1 J) hb); have af := aM ((by rw [hg]; exact Nat.ne_of_lt (blk_lt (qK D)) : aa ≠ L)); have ag := aM ((by rw [hg]; exact Nat.ne_of_gt (blk_lt (qK D)) : L ≠ aa)); replace D := aM (blk_below (qK D) hb); clear hb hbox hg) | ((with_reducible refine gate_dst (N := 3) rfl ?_); refine bx 3 #[.int .i64 0, .int .i64 0, .int .i64 0] 51 ?_; intro ab hg w4 hbox hb; have ae := aM hbox; have ar := aM ((by rw [hg]; exact (below_size (tB2 J ac)) : w.heap.size ≤ ab)); have ah := aM ((by rw [hg]; exact (below_size (tB2 J ac)) : w.heap.size ≤ ab)); replace HB := aM (below_step (tB2 J ac) hb); have ai := aM ((by rw [hg]; exact Nat.ne_of_lt (blk_lt (qK D)) : aa ≠ ab)); have aj := aM ((by rw [hg]; exact Nat.ne_of_gt (blk_lt (qK D)) : ab ≠ aa)); replace D := aM (blk_below (qK D) hb); have ad := aM ((by rw [hg]; exact Nat.ne_of_lt (blk_lt (qK Y)) : L ≠ ab)); have ak := aM ((by rw [hg]; exact Nat.ne_of_gt (blk_lt (qK Y)) : ab ≠ L)); replace Y := aM (blk_below (qK Y) hb); clear hb hbox hg; have au := af.out; have av := ag.out; have aw := ai.out; have ax := aj.out; obtain ⟨ay, az, aA⟩ := cz3 D; obtain ⟨aC, aD, aE⟩ := fz3 D; have aG := ak.out; have aH := ad.out; obtain ⟨aI, aJ, aK⟩ := cz3 ae; obtain ⟨aN, aP, aQ⟩ := fz3 ae; obtain ⟨aT, aU, aV⟩ := cz3 Y; obtain ⟨aW, aX, aY⟩ := fz3 Y)); refine bodyPost_ret (results_cell_row rfl _ _ L 51 #[.int .i64 a0_0, .int .i64 a0_1, .int .i64 a0_2] (0, 0) _ rfl (by (with_reducible repeat first | refine kN ?_ _ | refine kD ?_ | refine kA ?_ _); refine blk_put (cs := #[.int .i64 a0_0, .int .i64 a0_1, .int .i64 0]) ?_ 2 _ rfl; (with_reducible repeat first | refine kN ?_ _ | refine kD ?_ | refine kA ?_ _); refine blk_put (cs := #[.int .i64 a0_0, .int .i64 0, .int .i64 0]) ?_ 1 _ rfl; (with_reducible repeat first | refine kN ?_ _ | refine kD ?_ | refine kA ?_ _); refine blk_put (cs := #[.int .i64 0, .int .i64 0, .int .i64 0]) ?_ 0 _ rfl; (with_reducible repeat first | refine kN ?_ _ | refine kD ?_ | refine kA ?_ _); refine blk_far ?_ ad.out _; (with_reducible repeat first | refine kN ?_ _ | refine kD ?_ | refine kA ?_ _); refine blk_far ?_ ad.out _; (with_reducible repeat first | refine kN ?_ _ | refine kD ?_ | refine kA ?_ _); refine blk_far ?_ ad.out _; (with_reducible repeat first | refine kN ?_ _ | refine kD ?_ | refine kA ?_ _); exact Y.out) Try.underlying51 rfl (by kernel_rfl)) rfl ?_; exact ⟨tE, by repeat (first | (with_reducible first | exact HB.out | apply bA | apply bN | apply bD | refine bS ?_ J.out | refine bS ?_ ac.out | refine bS ?_ ah.out) | exact HB.out)⟩

/-! ### laws_toSlotS: function 12 -/
def laws_toSlotS.l0 : Nat → List (S91) → List (S51) → Int → Option ((List (S51)))
 | 0, _, _, _ => none
 | k + 1, x0, x3, x4 => if x4 < (x0.length : Int) then (if 0 ≤ x4 then ((laws_toSlot.f ((rd_T91 x0 x4).f0) ((rd_T91 x0 x4).f1) ((rd_T91 x0 x4).f2)).bind fun bt224 => (if x4 < (x3.length : Int) then (laws_toSlotS.l0 k x0 (x3.set (x4 : Int).toNat (⟨bt224.1, bt224.2.1, bt224.2.2⟩ : S51)) (wrap64 (x4 + 1))) else (none))) else (none)) else (some x3)
def laws_toSlotS.f (k : Nat) (l0 : List (S91)) : Option ((List (S51))) := if 0 ≤ (l0.length : Int) then (if ((l0.length : Int) : Int).toNat ≤ 11728124029610 then (laws_toSlotS.l0 k l0 (List.replicate ((l0.length : Int) : Int).toNat z51) 0) else (none)) else (none)
theorem laws_toSlotS.mono_l : ∀ k, (∀ y0 y1 y2, LeO (laws_toSlotS.l0 k y0 y1 y2) (laws_toSlotS.l0 (k + 1) y0 y1 y2))
 | 0 => fun _ _ _ r h => by simp [laws_toSlotS.l0] at h
 | k + 1 => by
  have ih0 := laws_toSlotS.mono_l k
  ·intro y0 y1 y2; unfold laws_toSlotS.l0
   repeat' first
   | (with_reducible exact ih0 _ _ _)
   | (with_reducible exact LeO.refl _)
   | (with_reducible exact LeO.none _)
   | (with_reducible refine LeO.ite ?_ ?_)
   | (with_reducible refine LeO.bind ?_ (fun _ => ?_))
   | exact ih0 _ _ _
   | exact LeO.none _
   | refine LeO.ite ?_ ?_
   | refine LeO.bind ?_ (fun _ => ?_)
theorem laws_toSlotS.mono : ∀ a0 k, LeO (laws_toSlotS.f k a0) (laws_toSlotS.f (k + 1) a0) := by
 intro a0 k; have ih0 := laws_toSlotS.mono_l k; unfold laws_toSlotS.f
 repeat' first
   | (with_reducible exact ih0 _ _ _)
   | (with_reducible exact LeO.refl _)
   | (with_reducible exact LeO.none _)
   | (with_reducible refine LeO.ite ?_ ?_)
   | (with_reducible refine LeO.bind ?_ (fun _ => ?_))
   | exact ih0 _ _ _
   | exact LeO.none _
   | refine LeO.ite ?_ ?_
   | refine LeO.bind ?_ (fun _ => ?_)
set_option maxHeartbeats 8000000 in
set_option maxRecDepth 100000 in
theorem laws_toSlotS.calls (k : Nat) (A0 : Option Addr) (c0 : Nat) (l0 : List (S91)) (r : List (S51)) (w : World) (hr0 : Kd.C k91 w A0 l0.length l0) (hc0 : l0.length ≤ c0) (h : laws_toSlotS.f k l0 = some r) :
  Calls Try.prog 12 #[.slice A0 l0.length c0] w fun e w' => ∃ v0_ : Value, e = .returned (v0_) ∧ Kd.R k51 51 w' w.heap.size (fun _ => True) v0_ r ∧ Below w.heap.size w w' := by
 have hu91 := Try.underlying91; have hu51 := Try.underlying51; have aE := Aside0.mk hr0; have a2 := Aside0.mk hc0; clear hr0 hc0; have HB := aM (Below.refl w.heap.size w); have H : (if 0 ≤ (l0.length : Int) then (if ((l0.length : Int) : Int).toNat ≤ 11728124029610 then (laws_toSlotS.l0 k l0 (List.replicate ((l0.length : Int) : Int).toNat z51) 0) else (none)) else (none)) = some r := h; clear h; by_cases c2 : 0 ≤ (l0.length : Int)
 ·rw [if_pos c2] at H; have aG := eq_true c2; have aH : decide (0 ≤ (l0.length : Int)) = true := decide_eq_true c2; clear c2; by_cases c3 : ((l0.length : Int) : Int).toNat ≤ 11728124029610
  ·rw [if_pos c3] at H; have aI := eq_true c3; have aJ : decide (((l0.length : Int) : Int).toNat ≤ 11728124029610) = true := decide_eq_true c3; clear c3; obtain ⟨aK, ah⟩ : ∃ y_ : List (S51), y_ = (List.replicate ((l0.length : Int) : Int).toNat z51) := ⟨_, rfl⟩
   (first | replace H := bY H ah | rw [← ah] at H | skip); have ar := Aside0.mk ah; clear ah; have H' := Aside0.mk H; clear H; go_enter Try.func12, Try.ntmps12; go_wp2_with (first | ((with_reducible refine gate_dst (N := 7) rfl ?_); refine Kd.R_make k51 _ 51 rfl (N := 7) rfl 27 _ _ rfl (l0.length : Int) rfl rfl Try.underlying27 (.agg #[(.int .i64 0), (.int .i64 0), (.int .i64 0)]) 24 info51 rfl (by decide) (by omega) z51 (ok := fun _ => True) (okp := fun _ => True) (k51_mkM _ _ _ z51 ) (fun _ hk => hk) trivial (of_decide_eq_true ‹_›) (Nat.le_trans (Nat.mul_le_mul_right _ (of_decide_eq_true ‹_› : (l0.length : Int).toNat ≤ 11728124029610)) (by omega)) (Below.refl _ _) (Nat.le_refl _) ?_; intro aN w4 ag hb hg_ hnew_; clear hg_ hnew_; (first | rw [← ar.out] at ag | (simp only [Int.reduceToNat] at ag; rw [← ar.out] at ag)); have aP := aM (Kd.R_lower ag (below_size (qB HB))); replace HB := aM (below_step (qB HB) hb); clear hb ag)); go_loopg [4] k (fun kq v4 w' => ∃ (J : List (S51)) (D : Int), v4 = .int .i64 D ∧ Aside0 (laws_toSlotS.l0 kq l0 J D = some r) ∧ Aside0 (kq ≤ k) ∧ Aside0 (Kd.R k51 51 w' w.heap.size (fun _ => True) aN J) ∧ Aside0 (Below w.heap.size w w'))
   case atStart => exact ⟨(aK), (0), tS, H', ⟨Nat.le_refl _⟩, ⟨tR aP⟩, ⟨tB0⟩⟩
   case round =>
    clear H'; try clear c1
    try clear c2
    try clear aG
    try clear aH
    try clear p2
    try clear c3
    try clear aI
    try clear aJ
    obtain ⟨J, D, rfl, HA, au, L, HB⟩ := hrel; cases gk with
    | zero => exact absurd HA.out (by simp [laws_toSlotS.l0])
    | succ k1 =>
     have H := HA.out; clear HA; simp only [laws_toSlotS.l0] at H; by_cases c6 : D < (l0.length : Int)
     ·rw [if_pos c6] at H; have aT : decide (D < (l0.length : Int)) = true := decide_eq_true c6; clear c6; by_cases c7 : 0 ≤ D
      ·rw [if_pos c7] at H; have a7 : decide (0 ≤ D) = true := decide_eq_true c7; clear c7; replace H := Option.bind_eq_some_iff.mp H; obtain ⟨⟨ad, ae, af⟩, av, H⟩ := H; have A8 := Aside0.mk av; clear av; by_cases c9 : D < (J.length : Int)
       ·rw [if_pos c9] at H; have a8 : decide (D < (J.length : Int)) = true := decide_eq_true c9; clear c9; obtain ⟨aw, ak⟩ : ∃ y_ : List (S51), y_ = (J.set (D : Int).toNat (⟨ad, ae, af⟩ : S51)) := ⟨_, rfl⟩
        (first | replace H := bY H ak | rw [← ak] at H | skip); have aV := Aside0.mk ak; clear ak; have H' := Aside0.mk H; clear H; have al : 0 ≤ (D : Int) := of_decide_eq_true ‹_›; have am : D < (l0.length : Int) := of_decide_eq_true ‹_›; obtain ⟨a9, aW, ax, ay, az⟩ := at_T91 aE.out D al am; cases aW
        replace ax := cB HB ax; replace ay := cB HB ay; replace az := cB HB az; replace al := eq_true al; replace am := eq_true am; go_wp2_with (first | ((with_reducible refine gate_callee (f := 61) rfl ?_); refine gl 20 Try.func61 #[.agg #[.int .i64 ((rd_T91 l0 D).f0), .int .i64 ((rd_T91 l0 D).f1), .int .i64 ((rd_T91 l0 D).f2)]] ?_; (with_reducible refine (laws_toSlot.calls ((rd_T91 l0 D).f0) ((rd_T91 l0 D).f1) ((rd_T91 l0 D).f2) ad ae af _ A8.out).mono ?_); rintro e Y ⟨rfl, hb⟩; refine ⟨_, rfl, ?_⟩; replace L := aM (Kd.R_below (qR L) hb); replace HB := aM (below_step (qB HB) hb); (try clear hb); (try clear hb2); (try clear hk); (try clear hi); have ao : 0 ≤ (D : Int) := of_decide_eq_true ‹_›; have ap : (D : Int) < ((J.length : Int) : Int) := of_decide_eq_true ‹_›; obtain ⟨go10, aA, aC, aD, gl10, cl10, HG10⟩ := Kd.R_form L.out (by omega); (first | cases aC | (injection aC with ea_ en_ ec_; (first | subst ea_ | (injection ea_ with ea_; subst ea_)); subst ec_; clear en_)); have GB10 := Aside0.mk aD; have GG10 := Aside0.mk HG10; clear aD gl10 HG10; obtain ⟨ce10, hcl10, hM10, hcc10, hfr10⟩ := Kd.R_elem L.out z51 (D : Int) ao ap; obtain rfl := k51_openM hM10; have a_ : Y.cell? ⟨go10, (D : Int).toNat * 3, none⟩ = some (.int .i64 ((rd_T51 J D).f0)) := hcc10 0 _ rfl; have ba : Y.cell? ⟨go10, (D : Int).toNat * 3 + 1, none⟩ = some (.int .i64 ((rd_T51 J D).f1)) := hcc10 1 _ rfl; have bb : Y.cell? ⟨go10, (D : Int).toNat * 3 + 2, none⟩ = some (.int .i64 ((rd_T51 J D).f2)) := hcc10 2 _ rfl; have hf10_0 : Y.frozen? ⟨go10, (D : Int).toNat * 3, none⟩ = false := hfr10 0; have hf10_1 : Y.frozen? ⟨go10, (D : Int).toNat * 3 + 1, none⟩ = false := hfr10 1; have hf10_2 : Y.frozen? ⟨go10, (D : Int).toNat * 3 + 2, none⟩ = false := hfr10 2; clear hcl10 hcc10 hfr10 hM10; replace ao := eq_true ao; replace ap := eq_true ap; have HX12 := aM (show Kd.R k51 51 Y w.heap.size (fun _ => True) (.slice (some ⟨go10, 0, none⟩) J.length aA) J from (qR L)); obtain ⟨ce12, hcl12, hM12, hcc12, hfr12⟩ := Kd.R_elem HX12.out z51 (D : Int) (of_decide_eq_true ‹_›) (tL D J.length L); obtain rfl := k51_openM hM12; have HP12 := Kd.R_seg HX12.out (D : Int) (of_decide_eq_true ‹_›) (tL D J.length L) (seg := [.int .i64 ad, .int .i64 ae, .int .i64 af]) (j := 0) hcl12 hcc12 (show 3 ≤ 3 from by decide) (x' := (⟨ad, ae, af⟩ : S51)) (k51_mkM _ _ _ (⟨ad, ae, af⟩ : S51) ) (fun _ hk => hk); have aX := hcc12 0 _ rfl; (try simp only [show (k51).sz = 3 from rfl, Nat.mul_one, Nat.add_zero] at aX); have hf12_0 := hfr12 0; (try simp only [show (k51).sz = 3 from rfl, Nat.mul_one, Nat.add_zero] at hf12_0); have aY := hcc12 1 _ rfl; (try simp only [show (k51).sz = 3 from rfl, Nat.mul_one, Nat.add_zero] at aY); have hf12_1 := hfr12 1; (try simp only [show (k51).sz = 3 from rfl, Nat.mul_one, Nat.add_zero] at hf12_1); have aZ := hcc12 2 _ rfl; (try simp only [show (k51).sz = 3 from rfl, Nat.mul_one, Nat.add_zero] at aZ); have hf12_2 := hfr12 2; (try simp only [show (k51).sz = 3 from rfl, Nat.mul_one, Nat.add_zero] at hf12_2); clear hcl12 hcc12 hfr12 hM12) | ((with_reducible refine gate_store (t := 51) (p := 21) rfl ?_); refine store_event (t := 51) (p := 21) (v := ?vo_w13) (w1 := (((Y.setCell ⟨go10, (D : Int).toNat * 3, none⟩ (.int .i64 ad)).setCell ⟨go10, (D : Int).toNat * 3 + 1, none⟩ (.int .i64 ae)).setCell ⟨go10, (D : Int).toNat * 3 + 2, none⟩ (.int .i64 af))) ?hg ?ho ?hn ?hr ?_; (case ho => rfl); (case hg => rfl); (case hn => rfl); (case hr => first | (go_simp; done) | (go_simp; rfl)); intro aq hw; have hg : Y.grownBy aq (some go10) := (by rw [hw]; exact HP12.2); have hp_ : Kd.R k51 51 aq w.heap.size (fun _ => True) (.slice (some ⟨go10, 0, none⟩) J.length aA) aw := (by rw [hw, aV.out]; exact HP12.1); clear HP12; replace L := aM hp_; replace HB := aM ((by rw [hw]; exact below_set (below_set (below_set (HB.out) GB10.out) GB10.out) GB10.out : Below w.heap.size w aq)); clear hg hw hp_)); go_roundg k1
        case measure => have := au.out; omega
        case rel => exact ⟨(aw), (wrap64 (D + 1)), tS, H', ⟨by have := au.out; omega⟩, ⟨tR L⟩, ⟨tB0⟩⟩
       ·rw [if_neg c9] at H; exact absurd H (by simp)
      ·rw [if_neg c7] at H; exact absurd H (by simp)
     ·rw [if_neg c6] at H; have aT : decide (D < (l0.length : Int)) = false := decide_eq_false c6; clear c6; obtain rfl := Option.some.inj H; go_wp2; go_ret; exact ⟨_, tE, tR L, tB0⟩
  ·rw [if_neg c3] at H; exact absurd H (by simp)
 ·rw [if_neg c2] at H; exact absurd H (by simp)

/-! ### laws_toThing: function 62 -/
def laws_toThing.f (a0_0 : Int) (a0_1 : Int) (a0_2 : Int) (a0_3 : Int) (a0_4 : Int) : Option (Int × Int × Int × Int × Int) := some (a0_0, a0_1, a0_2, a0_3, a0_4)
set_option maxHeartbeats 8000000 in
set_option maxRecDepth 100000 in
theorem laws_toThing.calls (a0_0 : Int) (a0_1 : Int) (a0_2 : Int) (a0_3 : Int) (a0_4 : Int) (r1 : Int) (r2 : Int) (r3 : Int) (r4 : Int) (r5 : Int) (w : World) (h : laws_toThing.f a0_0 a0_1 a0_2 a0_3 a0_4 = some (r1, r2, r3, r4, r5)) :
  Calls Try.prog 62 #[.agg #[.int .i64 a0_0, .int .i64 a0_1, .int .i64 a0_2, .int .i64 a0_3, .int .i64 a0_4]] w fun e w' => e = .returned (.agg #[.int .i64 r1, .int .i64 r2, .int .i64 r3, .int .i64 r4, .int .i64 r5]) ∧ Below w.heap.size w w' := by
 have hu55 := Try.underlying55; have hu47 := Try.underlying47; have HB := aM (Below.refl w.heap.size w); have H : (some (a0_0, a0_1, a0_2, a0_3, a0_4)) = some (r1, r2, r3, r4, r5) := h; clear h; simp only [Option.some.injEq, Prod.mk.injEq] at H; obtain ⟨rfl, rfl, rfl, rfl, rfl⟩ := H; go_enter Try.func62, Try.ntmps62; go_wp2_with (first | ((with_reducible refine gate_dst (N := 1) rfl ?_); refine bx 1 #[.int .i64 a0_0, .int .i64 a0_1, .int .i64 a0_2, .int .i64 a0_3, .int .i64 a0_4] 55 ?_; intro aa hg w2 hbox hb; have D := aM hbox; have am := aM ((by rw [hg]; exact (below_size (qB HB)) : w.heap.size ≤ aa)); have J := aM ((by rw [hg]; exact (below_size (qB HB)) : w.heap.size ≤ aa)); replace HB := aM (below_step (qB HB) hb); clear hb hbox hg) | ((with_reducible refine gate_dst (N := 2) rfl ?_); refine bx 2 #[.int .i64 0, .int .i64 0, .int .i64 0, .int .i64 0, .int .i64 0] 47 ?_; intro L hg w3 hbox hb; have Y := aM hbox; have ap := aM ((by rw [hg]; exact (below_size (tB1 J)) : w.heap.size ≤ L)); have ac := aM ((by rw [hg]; exact (below_size (tB1 J)) : w.heap.size ≤ L)); replace HB := aM (below_step (tB1 J) hb); have af := aM ((by rw [hg]; exact Nat.ne_of_lt (blk_lt (qK D)) : aa ≠ L)); have ag := aM ((by rw [hg]; exact Nat.ne_of_gt (blk_lt (qK D)) : L ≠ aa)); replace D := aM (blk_below (qK D) hb); clear hb hbox hg) | ((with_reducible refine gate_dst (N := 3) rfl ?_); refine bx 3 #[.int .i64 0, .int .i64 0, .int .i64 0, .int .i64 0, .int .i64 0] 47 ?_; intro ab hg w4 hbox hb; have ae := aM hbox; have ar := aM ((by rw [hg]; exact (below_size (tB2 J ac)) : w.heap.size ≤ ab)); have ah := aM ((by rw [hg]; exact (below_size (tB2 J ac)) : w.heap.size ≤ ab)); replace HB := aM (below_step (tB2 J ac) hb); have ai := aM ((by rw [hg]; exact Nat.ne_of_lt (blk_lt (qK D)) : aa ≠ ab)); have aj := aM ((by rw [hg]; exact Nat.ne_of_gt (blk_lt (qK D)) : ab ≠ aa)); replace D := aM (blk_below (qK D) hb); have ad := aM ((by rw [hg]; exact Nat.ne_of_lt (blk_lt (qK Y)) : L ≠ ab)); have ak := aM ((by rw [hg]; exact Nat.ne_of_gt (blk_lt (qK Y)) : ab ≠ L)); replace Y := aM (blk_below (qK Y) hb); clear hb hbox hg; have au := af.out; have av := ag.out; have aw := ai.out; have ax := aj.out; obtain ⟨ay, az, aA, aC, aD⟩ := cz5 D; obtain ⟨aE, aG, aH, aI, aJ⟩ := fz5 D; have aK := ak.out; have aN := ad.out; obtain ⟨aP, aQ, aT, aU, aV⟩ := cz5 ae; obtain ⟨aW, aX, aY, aZ, a2⟩ := fz5 ae; obtain ⟨a3, a6, a7, a8, a9⟩ := cz5 Y; obtain ⟨a_, ba, bb, bc, bd⟩ := fz5 Y)); refine bodyPost_ret (results_cell_row rfl _ _ L 47 #[.int .i64 a0_0, .int .i64 a0_1, .int .i64 a0_2, .int .i64 a0_3, .int .i64 a0_4] (0, 0) _ rfl (by (with_reducible repeat first | refine kN ?_ _ | refine kD ?_ | refine kA ?_ _); refine blk_put (cs := #[.int .i64 a0_0, .int .i64 a0_1, .int .i64 a0_2, .int .i64 a0_3, .int .i64 0]) ?_ 4 _ rfl; (with_reducible repeat first | refine kN ?_ _ | refine kD ?_ | refine kA ?_ _); refine blk_put (cs := #[.int .i64 a0_0, .int .i64 a0_1, .int .i64 a0_2, .int .i64 0, .int .i64 0]) ?_ 3 _ rfl; (with_reducible repeat first | refine kN ?_ _ | refine kD ?_ | refine kA ?_ _); refine blk_put (cs := #[.int .i64 a0_0, .int .i64 a0_1, .int .i64 0, .int .i64 0, .int .i64 0]) ?_ 2 _ rfl; (with_reducible repeat first | refine kN ?_ _ | refine kD ?_ | refine kA ?_ _); refine blk_put (cs := #[.int .i64 a0_0, .int .i64 0, .int .i64 0, .int .i64 0, .int .i64 0]) ?_ 1 _ rfl; (with_reducible repeat first | refine kN ?_ _ | refine kD ?_ | refine kA ?_ _); refine blk_put (cs := #[.int .i64 0, .int .i64 0, .int .i64 0, .int .i64 0, .int .i64 0]) ?_ 0 _ rfl; (with_reducible repeat first | refine kN ?_ _ | refine kD ?_ | refine kA ?_ _); refine blk_far ?_ ad.out _; (with_reducible repeat first | refine kN ?_ _ | refine kD ?_ | refine kA ?_ _); exact blk4 Y.out ad) Try.underlying47 rfl (by kernel_rfl)) rfl ?_; exact ⟨tE, by repeat (first | (with_reducible first | exact HB.out | apply bA | apply bN | apply bD | refine bS ?_ J.out | refine bS ?_ ac.out | refine bS ?_ ah.out) | exact HB.out)⟩

/-! ### laws_toThingS: function 13 -/
def laws_toThingS.l0 : Nat → List (S55) → List (S47) → Int → Option ((List (S47)))
 | 0, _, _, _ => none
 | k + 1, x0, x3, x4 => if x4 < (x0.length : Int) then (if 0 ≤ x4 then ((laws_toThing.f ((rd_T55 x0 x4).f0) ((rd_T55 x0 x4).f1) ((rd_T55 x0 x4).f2) ((rd_T55 x0 x4).f3) ((rd_T55 x0 x4).f4)).bind fun bt235 => (if x4 < (x3.length : Int) then (laws_toThingS.l0 k x0 (x3.set (x4 : Int).toNat (⟨bt235.1, bt235.2.1, bt235.2.2.1, bt235.2.2.2.1, bt235.2.2.2.2⟩ : S47)) (wrap64 (x4 + 1))) else (none))) else (none)) else (some x3)
def laws_toThingS.f (k : Nat) (l0 : List (S55)) : Option ((List (S47))) := if 0 ≤ (l0.length : Int) then (if ((l0.length : Int) : Int).toNat ≤ 7036874417766 then (laws_toThingS.l0 k l0 (List.replicate ((l0.length : Int) : Int).toNat z47) 0) else (none)) else (none)
theorem laws_toThingS.mono_l : ∀ k, (∀ y0 y1 y2, LeO (laws_toThingS.l0 k y0 y1 y2) (laws_toThingS.l0 (k + 1) y0 y1 y2))
 | 0 => fun _ _ _ r h => by simp [laws_toThingS.l0] at h
 | k + 1 => by
  have ih0 := laws_toThingS.mono_l k
  ·intro y0 y1 y2; unfold laws_toThingS.l0
   repeat' first
   | (with_reducible exact ih0 _ _ _)
   | (with_reducible exact LeO.refl _)
   | (with_reducible exact LeO.none _)
   | (with_reducible refine LeO.ite ?_ ?_)
   | (with_reducible refine LeO.bind ?_ (fun _ => ?_))
   | exact ih0 _ _ _
   | exact LeO.none _
   | refine LeO.ite ?_ ?_
   | refine LeO.bind ?_ (fun _ => ?_)
theorem laws_toThingS.mono : ∀ a0 k, LeO (laws_toThingS.f k a0) (laws_toThingS.f (k + 1) a0) := by
 intro a0 k; have ih0 := laws_toThingS.mono_l k; unfold laws_toThingS.f
 repeat' first
   | (with_reducible exact ih0 _ _ _)
   | (with_reducible exact LeO.refl _)
   | (with_reducible exact LeO.none _)
   | (with_reducible refine LeO.ite ?_ ?_)
   | (with_reducible refine LeO.bind ?_ (fun _ => ?_))
   | exact ih0 _ _ _
   | exact LeO.none _
   | refine LeO.ite ?_ ?_
   | refine LeO.bind ?_ (fun _ => ?_)
set_option maxHeartbeats 8000000 in
set_option maxRecDepth 100000 in
theorem laws_toThingS.calls (k : Nat) (A0 : Option Addr) (c0 : Nat) (l0 : List (S55)) (r : List (S47)) (w : World) (hr0 : Kd.C k55 w A0 l0.length l0) (hc0 : l0.length ≤ c0) (h : laws_toThingS.f k l0 = some r) :
  Calls Try.prog 13 #[.slice A0 l0.length c0] w fun e w' => ∃ v0_ : Value, e = .returned (v0_) ∧ Kd.R k47 47 w' w.heap.size (fun _ => True) v0_ r ∧ Below w.heap.size w w' := by
 have hu55 := Try.underlying55; have hu47 := Try.underlying47; have aJ := Aside0.mk hr0; have a_ := Aside0.mk hc0; clear hr0 hc0; have HB := aM (Below.refl w.heap.size w); have H : (if 0 ≤ (l0.length : Int) then (if ((l0.length : Int) : Int).toNat ≤ 7036874417766 then (laws_toThingS.l0 k l0 (List.replicate ((l0.length : Int) : Int).toNat z47) 0) else (none)) else (none)) = some r := h; clear h; by_cases c2 : 0 ≤ (l0.length : Int)
 ·rw [if_pos c2] at H; have aK := eq_true c2; have aN : decide (0 ≤ (l0.length : Int)) = true := decide_eq_true c2; clear c2; by_cases c3 : ((l0.length : Int) : Int).toNat ≤ 7036874417766
  ·rw [if_pos c3] at H; have aP := eq_true c3; have aQ : decide (((l0.length : Int) : Int).toNat ≤ 7036874417766) = true := decide_eq_true c3; clear c3; obtain ⟨aT, aj⟩ : ∃ y_ : List (S47), y_ = (List.replicate ((l0.length : Int) : Int).toNat z47) := ⟨_, rfl⟩
   (first | replace H := bY H aj | rw [← aj] at H | skip); have av := Aside0.mk aj; clear aj; have H' := Aside0.mk H; clear H; go_enter Try.func13, Try.ntmps13; go_wp2_with (first | ((with_reducible refine gate_dst (N := 7) rfl ?_); refine Kd.R_make k47 _ 47 rfl (N := 7) rfl 29 _ _ rfl (l0.length : Int) rfl rfl Try.underlying29 (.agg #[(.int .i64 0), (.int .i64 0), (.int .i64 0), (.int .i64 0), (.int .i64 0)]) 40 info47 rfl (by decide) (by omega) z47 (ok := fun _ => True) (okp := fun _ => True) (k47_mkM _ _ _ z47 ) (fun _ hk => hk) trivial (of_decide_eq_true ‹_›) (Nat.le_trans (Nat.mul_le_mul_right _ (of_decide_eq_true ‹_› : (l0.length : Int).toNat ≤ 7036874417766)) (by omega)) (Below.refl _ _) (Nat.le_refl _) ?_; intro aU w4 ai hb hg_ hnew_; clear hg_ hnew_; (first | rw [← av.out] at ai | (simp only [Int.reduceToNat] at ai; rw [← av.out] at ai)); have aV := aM (Kd.R_lower ai (below_size (qB HB))); replace HB := aM (below_step (qB HB) hb); clear hb ai)); go_loopg [4] k (fun kq v4 w' => ∃ (J : List (S47)) (D : Int), v4 = .int .i64 D ∧ Aside0 (laws_toThingS.l0 kq l0 J D = some r) ∧ Aside0 (kq ≤ k) ∧ Aside0 (Kd.R k47 47 w' w.heap.size (fun _ => True) aU J) ∧ Aside0 (Below w.heap.size w w'))
   case atStart => exact ⟨(aT), (0), tS, H', ⟨Nat.le_refl _⟩, ⟨tR aV⟩, ⟨tB0⟩⟩
   case round =>
    clear H'; try clear c1
    try clear c2
    try clear aK
    try clear aN
    try clear p2
    try clear c3
    try clear aP
    try clear aQ
    obtain ⟨J, D, rfl, HA, aw, Y, HB⟩ := hrel; cases gk with
    | zero => exact absurd HA.out (by simp [laws_toThingS.l0])
    | succ k1 =>
     have H := HA.out; clear HA; simp only [laws_toThingS.l0] at H; by_cases c6 : D < (l0.length : Int)
     ·rw [if_pos c6] at H; have aX : decide (D < (l0.length : Int)) = true := decide_eq_true c6; clear c6; by_cases c7 : 0 ≤ D
      ·rw [if_pos c7] at H; have bc : decide (0 ≤ D) = true := decide_eq_true c7; clear c7; replace H := Option.bind_eq_some_iff.mp H; obtain ⟨⟨ad, ae, af, ag, ah⟩, ax, H⟩ := H; have A8 := Aside0.mk ax; clear ax; by_cases c9 : D < (J.length : Int)
       ·rw [if_pos c9] at H; have bd : decide (D < (J.length : Int)) = true := decide_eq_true c9; clear c9; obtain ⟨ay, am⟩ : ∃ y_ : List (S47), y_ = (J.set (D : Int).toNat (⟨ad, ae, af, ag, ah⟩ : S47)) := ⟨_, rfl⟩
        (first | replace H := bY H am | rw [← am] at H | skip); have aZ := Aside0.mk am; clear am; have H' := Aside0.mk H; clear H; have ao : 0 ≤ (D : Int) := of_decide_eq_true ‹_›; have ap : D < (l0.length : Int) := of_decide_eq_true ‹_›; obtain ⟨be, a2, az, aA, aC, aD, aE⟩ := at_T55 aJ.out D ao ap; cases a2
        replace az := cB HB az; replace aA := cB HB aA; replace aC := cB HB aC; replace aD := cB HB aD; replace aE := cB HB aE; replace ao := eq_true ao; replace ap := eq_true ap; go_wp2_with (first | ((with_reducible refine gate_callee (f := 62) rfl ?_); refine gl 20 Try.func62 #[.agg #[.int .i64 ((rd_T55 l0 D).f0), .int .i64 ((rd_T55 l0 D).f1), .int .i64 ((rd_T55 l0 D).f2), .int .i64 ((rd_T55 l0 D).f3), .int .i64 ((rd_T55 l0 D).f4)]] ?_; (with_reducible refine (laws_toThing.calls ((rd_T55 l0 D).f0) ((rd_T55 l0 D).f1) ((rd_T55 l0 D).f2) ((rd_T55 l0 D).f3) ((rd_T55 l0 D).f4) ad ae af ag ah _ A8.out).mono ?_); rintro e L ⟨rfl, hb⟩; refine ⟨_, rfl, ?_⟩; replace Y := aM (Kd.R_below (qR Y) hb); replace HB := aM (below_step (qB HB) hb); (try clear hb); (try clear hb2); (try clear hk); (try clear hi); have aq : 0 ≤ (D : Int) := of_decide_eq_true ‹_›; have ar : (D : Int) < ((J.length : Int) : Int) := of_decide_eq_true ‹_›; obtain ⟨go10, aG, aH, aI, gl10, cl10, HG10⟩ := Kd.R_form Y.out (by omega); (first | cases aH | (injection aH with ea_ en_ ec_; (first | subst ea_ | (injection ea_ with ea_; subst ea_)); subst ec_; clear en_)); have GB10 := Aside0.mk aI; have GG10 := Aside0.mk HG10; clear aI gl10 HG10; obtain ⟨ce10, hcl10, hM10, hcc10, hfr10⟩ := Kd.R_elem Y.out z47 (D : Int) aq ar; obtain rfl := k47_openM hM10; have bf : L.cell? ⟨go10, (D : Int).toNat * 5, none⟩ = some (.int .i64 ((rd_T47 J D).f0)) := hcc10 0 _ rfl; have bg : L.cell? ⟨go10, (D : Int).toNat * 5 + 1, none⟩ = some (.int .i64 ((rd_T47 J D).f1)) := hcc10 1 _ rfl; have bh : L.cell? ⟨go10, (D : Int).toNat * 5 + 2, none⟩ = some (.int .i64 ((rd_T47 J D).f2)) := hcc10 2 _ rfl; have bi : L.cell? ⟨go10, (D : Int).toNat * 5 + 3, none⟩ = some (.int .i64 ((rd_T47 J D).f3)) := hcc10 3 _ rfl; have bj : L.cell? ⟨go10, (D : Int).toNat * 5 + 4, none⟩ = some (.int .i64 ((rd_T47 J D).f4)) := hcc10 4 _ rfl; have hf10_0 : L.frozen? ⟨go10, (D : Int).toNat * 5, none⟩ = false := hfr10 0; have hf10_1 : L.frozen? ⟨go10, (D : Int).toNat * 5 + 1, none⟩ = false := hfr10 1; have hf10_2 : L.frozen? ⟨go10, (D : Int).toNat * 5 + 2, none⟩ = false := hfr10 2; have hf10_3 : L.frozen? ⟨go10, (D : Int).toNat * 5 + 3, none⟩ = false := hfr10 3; have hf10_4 : L.frozen? ⟨go10, (D : Int).toNat * 5 + 4, none⟩ = false := hfr10 4; clear hcl10 hcc10 hfr10 hM10; replace aq := eq_true aq; replace ar := eq_true ar; have HX12 := aM (show Kd.R k47 47 L w.heap.size (fun _ => True) (.slice (some ⟨go10, 0, none⟩) J.length aG) J from (qR Y)); obtain ⟨ce12, hcl12, hM12, hcc12, hfr12⟩ := Kd.R_elem HX12.out z47 (D : Int) (of_decide_eq_true ‹_›) (tL D J.length Y); obtain rfl := k47_openM hM12; have HP12 := Kd.R_seg HX12.out (D : Int) (of_decide_eq_true ‹_›) (tL D J.length Y) (seg := [.int .i64 ad, .int .i64 ae, .int .i64 af, .int .i64 ag, .int .i64 ah]) (j := 0) hcl12 hcc12 (show 5 ≤ 5 from by decide) (x' := (⟨ad, ae, af, ag, ah⟩ : S47)) (k47_mkM _ _ _ (⟨ad, ae, af, ag, ah⟩ : S47) ) (fun _ hk => hk); have a3 := hcc12 0 _ rfl; (try simp only [show (k47).sz = 5 from rfl, Nat.mul_one, Nat.add_zero] at a3); have hf12_0 := hfr12 0; (try simp only [show (k47).sz = 5 from rfl, Nat.mul_one, Nat.add_zero] at hf12_0); have a6 := hcc12 1 _ rfl; (try simp only [show (k47).sz = 5 from rfl, Nat.mul_one, Nat.add_zero] at a6); have hf12_1 := hfr12 1; (try simp only [show (k47).sz = 5 from rfl, Nat.mul_one, Nat.add_zero] at hf12_1); have a7 := hcc12 2 _ rfl; (try simp only [show (k47).sz = 5 from rfl, Nat.mul_one, Nat.add_zero] at a7); have hf12_2 := hfr12 2; (try simp only [show (k47).sz = 5 from rfl, Nat.mul_one, Nat.add_zero] at hf12_2); have a8 := hcc12 3 _ rfl; (try simp only [show (k47).sz = 5 from rfl, Nat.mul_one, Nat.add_zero] at a8); have hf12_3 := hfr12 3; (try simp only [show (k47).sz = 5 from rfl, Nat.mul_one, Nat.add_zero] at hf12_3); have a9 := hcc12 4 _ rfl; (try simp only [show (k47).sz = 5 from rfl, Nat.mul_one, Nat.add_zero] at a9); have hf12_4 := hfr12 4; (try simp only [show (k47).sz = 5 from rfl, Nat.mul_one, Nat.add_zero] at hf12_4); clear hcl12 hcc12 hfr12 hM12) | ((with_reducible refine gate_store (t := 47) (p := 21) rfl ?_); refine store_event (t := 47) (p := 21) (v := ?vo_w13) (w1 := (((((L.setCell ⟨go10, (D : Int).toNat * 5, none⟩ (.int .i64 ad)).setCell ⟨go10, (D : Int).toNat * 5 + 1, none⟩ (.int .i64 ae)).setCell ⟨go10, (D : Int).toNat * 5 + 2, none⟩ (.int .i64 af)).setCell ⟨go10, (D : Int).toNat * 5 + 3, none⟩ (.int .i64 ag)).setCell ⟨go10, (D : Int).toNat * 5 + 4, none⟩ (.int .i64 ah))) ?hg ?ho ?hn ?hr ?_; (case ho => rfl); (case hg => rfl); (case hn => rfl); (case hr => first | (go_simp; done) | (go_simp; rfl)); intro au hw; have hg : L.grownBy au (some go10) := (by rw [hw]; exact HP12.2); have hp_ : Kd.R k47 47 au w.heap.size (fun _ => True) (.slice (some ⟨go10, 0, none⟩) J.length aG) ay := (by rw [hw, aZ.out]; exact HP12.1); clear HP12; replace Y := aM hp_; replace HB := aM ((by rw [hw]; exact below_set (below_set (below_set (below_set (below_set (HB.out) GB10.out) GB10.out) GB10.out) GB10.out) GB10.out : Below w.heap.size w au)); clear hg hw hp_)); go_roundg k1
        case measure => have := aw.out; omega
        case rel => exact ⟨(ay), (wrap64 (D + 1)), tS, H', ⟨by have := aw.out; omega⟩, ⟨tR Y⟩, ⟨tB0⟩⟩
       ·rw [if_neg c9] at H; exact absurd H (by simp)
      ·rw [if_neg c7] at H; exact absurd H (by simp)
     ·rw [if_neg c6] at H; have aX : decide (D < (l0.length : Int)) = false := decide_eq_false c6; clear c6; obtain rfl := Option.some.inj H; go_wp2; go_ret; exact ⟨_, tE, tR Y, tB0⟩
  ·rw [if_neg c3] at H; exact absurd H (by simp)
 ·rw [if_neg c2] at H; exact absurd H (by simp)

-- NOT PRINTED: function 116 (impl_Slot_116)

end Go.Proofs.Ytbacepkkamfeoaa.PFnExactCanHold
