-- The printed functions of one law and their contracts, over contracts of this session's own (hand.py).
import Derived.Test.YtmammjfomgfjhaaPFnMatchesx0
import Derived.Test.YtmammjfomgfjhaaPFnMatchesx7
import Derived.Test.YtmammjfomgfjhaaPFnMatchesx8
import Derived.Test.YtmammjfomgfjhaaPFnMatchesx9
namespace Go.Proofs.Ytmammjfomgfjhaa.PFnMatches
open Go.RowKit Go.Proofs.YtmammjfomgfjhaaW.PrintWords Go.Proofs.YtmammjfomgfjhaaW.PrintLast Go.Proofs.YtmammjfomgfjhaaW.PrintMore Go.Proofs.Ytmammjfomgfjhaa.Short
attribute [local go_sem] max2_int min2_int max_two min_two max_three min_three max_four min_four   -- for this text's walks alone
set_option linter.unusedVariables false
set_option linter.unusedSimpArgs false

/-! ### impl_Candidates: function 21 -/
def impl_Candidates.l0 : Nat → List Int → List (S42) → Int → Int → Int → Int → List Int → Int → Int → List Int → Int → Int → Option (List Int)
 | 0, _, _, _, _, _, _, _, _, _, _, _, _ => none
 | k + 1, x5, J, L, D, Y, aa, ab, ac, ae, af, ag, ah => if D < L then (if 0 ≤ D then (if D < (J.length : Int) then ((impl_CanBe.f k Y aa ab ac ae af ag ah ((rd_T42 J D).f0.f0) ((rd_T42 J D).f0.f1) ((rd_T42 J D).f0.f2) ((rd_T42 J D).f0.f3) ((rd_T42 J D).f0.f4) ((rd_T42 J D).f1) ((rd_T42 J D).f2) ((rd_T42 J D).f3)).bind fun ai => (if ai = true then (if x5.length < 17592186044416 then (impl_Candidates.l0 k (x5 ++ [(rd_T42 J D).f0.f0]) J L (wrap64 (D + 1)) Y aa ab ac ae af ag ah) else (none)) else (impl_Candidates.l0 k x5 J L (wrap64 (D + 1)) Y aa ab ac ae af ag ah))) else (none)) else (none)) else (some x5)
def impl_Candidates.f (k : Nat) (a0_0 a0_1 : Int) (l0_2 : List Int) (a0_3 a0_4 : Int) (l0_5 : List Int) (a0_6 a0_7 : Int) (l1 : List (S42)) : Option (List Int) := (some (([] : List Int) : List Int)).bind fun y596 => ((impl_AreFinds.f k l1).bind fun t599 => (if t599 = true then (impl_Candidates.l0 k y596 l1 (l1.length : Int) 0 a0_0 a0_1 l0_2 a0_3 a0_4 l0_5 a0_6 a0_7) else (some y596)))
theorem impl_Candidates.mono_l : ∀ k, (∀ y0 y1 y2 y3 y4 y5 y6 y7 y8 y9 y10 y11, LeO (impl_Candidates.l0 k y0 y1 y2 y3 y4 y5 y6 y7 y8 y9 y10 y11) (impl_Candidates.l0 (k + 1) y0 y1 y2 y3 y4 y5 y6 y7 y8 y9 y10 y11))
 | 0 => fun _ _ _ _ _ _ _ _ _ _ _ _ r h => by simp [impl_Candidates.l0] at h
 | k + 1 => by
  have ih0 := impl_Candidates.mono_l k
  ·intro y0 y1 y2 y3 y4 y5 y6 y7 y8 y9 y10 y11
   unfold impl_Candidates.l0
   repeat' first
   | (with_reducible exact ih0 _ _ _ _ _ _ _ _ _ _ _ _)
   | (with_reducible exact impl_AreFinds.mono _ _)
   | (with_reducible exact impl_CanBe.mono _ _ _ _ _ _ _ _ _ _ _ _ _ _ _ _ _)
   | (with_reducible exact LeO.refl _)
   | (with_reducible exact LeO.none _)
   | (with_reducible refine LeO.ite ?_ ?_)
   | (with_reducible refine LeO.bind ?_ (fun _ => ?_))
   | exact ih0 _ _ _ _ _ _ _ _ _ _ _ _
   | exact impl_AreFinds.mono _ _
   | exact impl_CanBe.mono _ _ _ _ _ _ _ _ _ _ _ _ _ _ _ _ _
   | exact LeO.none _
   | refine LeO.ite ?_ ?_
   | refine LeO.bind ?_ (fun _ => ?_)
theorem impl_Candidates.mono : ∀ a0 a1 a2 a3 a4 a5 a6 a7 a8 k, LeO (impl_Candidates.f k a0 a1 a2 a3 a4 a5 a6 a7 a8) (impl_Candidates.f (k + 1) a0 a1 a2 a3 a4 a5 a6 a7 a8) := by
 intro a0 a1 a2 a3 a4 a5 a6 a7 a8 k
 have ih0 := impl_Candidates.mono_l k
 unfold impl_Candidates.f
 repeat' first
   | (with_reducible exact ih0 _ _ _ _ _ _ _ _ _ _ _ _)
   | (with_reducible exact impl_AreFinds.mono _ _)
   | (with_reducible exact impl_CanBe.mono _ _ _ _ _ _ _ _ _ _ _ _ _ _ _ _ _)
   | (with_reducible exact LeO.refl _)
   | (with_reducible exact LeO.none _)
   | (with_reducible refine LeO.ite ?_ ?_)
   | (with_reducible refine LeO.bind ?_ (fun _ => ?_))
   | exact ih0 _ _ _ _ _ _ _ _ _ _ _ _
   | exact impl_AreFinds.mono _ _
   | exact impl_CanBe.mono _ _ _ _ _ _ _ _ _ _ _ _ _ _ _ _ _
   | exact LeO.none _
   | refine LeO.ite ?_ ?_
   | refine LeO.bind ?_ (fun _ => ?_)
set_option maxHeartbeats 8000000 in
set_option maxRecDepth 100000 in
theorem impl_Candidates.calls (k : Nat) (a0_0 a0_1 : Int) (A0_2 : Option Addr) (c0_2 : Nat) (l0_2 : List Int) (a0_3 a0_4 : Int) (A0_5 : Option Addr) (c0_5 : Nat) (l0_5 : List Int) (a0_6 a0_7 : Int) (A1 : Option Addr) (c1 : Nat) (l1 : List (S42)) (r : List Int) (w : World) (hr0_2 : Kd.C (Kd.int .i64) w A0_2 l0_2.length l0_2) (hc0_2 : l0_2.length ≤ c0_2) (hr0_5 : Kd.C (Kd.int .i64) w A0_5 l0_5.length l0_5) (hc0_5 : l0_5.length ≤ c0_5) (hr1 : Kd.C k42 w A1 l1.length l1) (hc1 : l1.length ≤ c1) (h : impl_Candidates.f k a0_0 a0_1 l0_2 a0_3 a0_4 l0_5 a0_6 a0_7 l1 = some r) :
  Calls Try.prog 21 #[.agg #[.int .i64 a0_0, .int .i64 a0_1, .slice A0_2 l0_2.length c0_2, .int .i64 a0_3, .int .i64 a0_4, .slice A0_5 l0_5.length c0_5, .int .i64 a0_6, .int .i64 a0_7], .slice A1 l1.length c1] w fun e w' => ∃ v0_ : Value, e = .returned (v0_) ∧ Kd.R (Kd.int .i64) 3 w' w.heap.size (fun _ => True) v0_ r ∧ Below w.heap.size w w' := by
 have hu30 := Try.underlying30
 have hu42 := Try.underlying42
 have bd := Aside0.mk hr0_2
 have be := Aside0.mk hc0_2
 clear hr0_2 hc0_2
 have bf := Aside0.mk hr0_5
 have bg := Aside0.mk hc0_5
 clear hr0_5 hc0_5
 have aW := Aside0.mk hr1
 have bh := Aside0.mk hc1
 clear hr1 hc1
 have HB := Aside0.mk (Below.refl w.heap.size w)
 have H : ((some (([] : List Int) : List Int)).bind fun am => ((impl_AreFinds.f k l1).bind fun aD => (if aD = true then (impl_Candidates.l0 k am l1 (l1.length : Int) 0 a0_0 a0_1 l0_2 a0_3 a0_4 l0_5 a0_6 a0_7) else (some am)))) = some r := h
 clear h
 obtain ⟨am, aG⟩ : ∃ y_ : List Int, y_ = (([] : List Int)) := ⟨_, rfl⟩
 replace H : ((impl_AreFinds.f k l1).bind fun aD => (if aD = true then (impl_Candidates.l0 k am l1 (l1.length : Int) 0 a0_0 a0_1 l0_2 a0_3 a0_4 l0_5 a0_6 a0_7) else (some am))) = some r := by first | (rw [aG]; with_reducible exact H) | (have H2_ := (Option.bind_some _ _).symm.trans H; rw [aG]; with_reducible exact H2_) | (have H2_ := (Option.bind_some _ _).symm.trans H; with_reducible exact H2_) | with_reducible exact H | (rw [aG]; exact H) | exact H
 have aX := Aside0.mk aG
 clear aG
 replace H := Option.bind_eq_some_iff.mp H
 obtain ⟨aD, bi, H⟩ := H
 replace H : (if aD = true then (impl_Candidates.l0 k am l1 (l1.length : Int) 0 a0_0 a0_1 l0_2 a0_3 a0_4 l0_5 a0_6 a0_7) else (some am)) = some r := H
 have A3 := Aside0.mk bi
 clear bi
 by_cases c4 : aD = true
 ·subst c4
  have H1 : (impl_Candidates.l0 k am l1 (l1.length : Int) 0 a0_0 a0_1 l0_2 a0_3 a0_4 l0_5 a0_6 a0_7) = some r := by rw [if_pos rfl] at H; exact H
  clear H
  have H := H1
  clear H1
  have H' := Aside0.mk H
  clear H
  go_enter Try.func21, Try.ntmps21
  go_wp2_with (first | ((with_reducible refine gate_dst (N := 2) rfl ?_); refine box_event ?hg (N := 2) ?hd (cs := #[.int .i64 a0_0, .int .i64 a0_1, .slice A0_2 l0_2.length c0_2, .int .i64 a0_3, .int .i64 a0_4, .slice A0_5 l0_5.length c0_5, .int .i64 a0_6, .int .i64 a0_7]) (t := 30) ?hr ?_; (case hd => rfl); (case hg => rfl); (case hr => first | (go_simp; done) | (go_simp; rfl)); intro ae hg w5 hbox hb; have aa := Aside0.mk (below_step (qB HB) hb); have ab := Aside0.mk (hbox); have ac := Aside0.mk ((by rw [hg]; exact (below_size (qB HB)) : w.heap.size ≤ ae)); have ag := Aside0.mk ((by rw [hg]; exact (below_size (qB HB)) : w.heap.size ≤ ae)); clear HB; have HB := aa; have J := ab; have bo := ac; have af := ag; clear aa ab ac ag; clear hb hbox hg) | ((with_reducible refine gate_dst (N := 8) rfl ?_); refine Kd.R_lit (Kd.int .i64) _ 3 ?hg (N := 8) ?hd (xs := ([] : List Int)) (inner := []) (ok := fun _ => True) (okp := fun _ => True) ?hr ?hp (fun _ hk => hk) trivial (Below.refl _ _) (Nat.le_refl _) (by simp) ?_; (case hd => rfl); (case hg => rfl); (case hr => first | (go_simp; done) | (go_simp; rfl)); (case hp => exact (Reps.none _ _)); intro bp w6 aI hb hg_ hnew_; clear hg_ hnew_; (first | rw [← aX.out] at aI | (simp only [Int.reduceToNat] at aI; rw [← aX.out] at aI)); have aa := Aside0.mk (Kd.R_lower aI (below_size (by repeat first | (with_reducible first | exact HB.out | apply bA | apply bN | apply bD | refine bS ?_ af.out) | exact HB.out))); have ab := Aside0.mk (blk_below (qK J) hb); have ac := Aside0.mk (below_step (by repeat first | (with_reducible first | exact HB.out | apply bA | apply bN | apply bD | refine bS ?_ af.out) | exact HB.out) hb); clear J; clear HB; have ao := aa; have J := ab; have HB := ac; clear aa ab ac; clear hb aI) | ((with_reducible refine gate_callee (f := 68) rfl ?_); refine goesL_ (some 10) rfl rfl Try.func68 (by kernel_rfl) rfl #[.slice A1 l1.length c1] rfl (by (try simp only [mA, mC, mN]); first | done | rfl | (simp only [lD, lT]; rfl)) ?_; (with_reducible refine (impl_AreFinds.calls k _ _ l1 true _ ?side1 ?side2 A3.out).mono ?_); (case side1 => exact qC (Kd.C_below aW.out HB.out)); (case side2 => exact bh.out); rintro e w8 ⟨rfl, hb⟩; refine ⟨_, rfl, ?_⟩; have aa := Aside0.mk (Kd.R_below (qR ao) hb); have ab := Aside0.mk (blk_below (qK J) hb); have ac := Aside0.mk (below_step (by repeat first | (with_reducible first | exact HB.out | apply bA | apply bN | apply bD | refine bS ?_ af.out) | exact HB.out) hb); clear ao; clear J; clear HB; have ao := aa; have J := ab; have HB := ac; clear aa ab ac; (try clear hb); (try clear hb2); (try clear hk); (try clear hi)))
  go_loopg [5, 15] k (fun kq v5 br w' => ∃ (ak : List Int) (D : Int), br = .int .i64 D ∧ Aside0 (impl_Candidates.l0 kq ak l1 (l1.length : Int) D a0_0 a0_1 l0_2 a0_3 a0_4 l0_5 a0_6 a0_7 = some r) ∧ Aside0 (kq ≤ k) ∧ Aside0 (Kd.R (Kd.int .i64) 3 w' w.heap.size (fun _ => True) v5 ak) ∧ Aside0 (w'.heap[ae]? = some (.cells #[.int .i64 a0_0, .int .i64 a0_1, (.slice A0_2 l0_2.length c0_2), .int .i64 a0_3, .int .i64 a0_4, (.slice A0_5 l0_5.length c0_5), .int .i64 a0_6, .int .i64 a0_7] 30 (0, 0))) ∧ Aside0 (Below w.heap.size w w'))
  case atStart => exact ⟨(am), (0), (by first | rfl | (simp; done) | (simp [*]; done)), H', ⟨Nat.le_refl _⟩, ⟨by (with_reducible repeat first | apply rA | apply rN | apply rD); exact ao.out⟩, ⟨by (with_reducible repeat first | refine kN ?_ _ | refine kD ?_ | refine kA ?_ _); exact J.out⟩, ⟨by repeat (first | (with_reducible first | exact HB.out | apply bA | apply bN | apply bD | refine bS ?_ af.out) | exact HB.out)⟩⟩
  case round =>
   clear H'
   try clear c1; try clear c2; try clear p2; try clear c4; try clear c6
   obtain ⟨ak, D, rfl, HA, aY, ah, J, HB⟩ := hrel
   cases gk with
   | zero => exact absurd HA.out (by simp [impl_Candidates.l0])
   | succ k1 =>
    have H := HA.out
    clear HA
    simp only [impl_Candidates.l0] at H
    by_cases c9 : D < (l1.length : Int)
    ·rw [if_pos c9] at H
     have bs : decide (D < (l1.length : Int)) = true := decide_eq_true c9
     clear c9
     by_cases aZ : 0 ≤ D
     ·rw [if_pos aZ] at H
      have bH : decide (0 ≤ D) = true := decide_eq_true aZ
      clear aZ
      by_cases a9 : D < (l1.length : Int)
      ·rw [if_pos a9] at H
       have bI : decide (D < (l1.length : Int)) = true := decide_eq_true a9
       clear a9
       replace H := Option.bind_eq_some_iff.mp H
       obtain ⟨bk, bl, H⟩ := H
       replace H : (if bk = true then (if ak.length < 17592186044416 then (impl_Candidates.l0 k1 (ak ++ [(rd_T42 l1 D).f0.f0]) l1 (l1.length : Int) (wrap64 (D + 1)) a0_0 a0_1 l0_2 a0_3 a0_4 l0_5 a0_6 a0_7) else (none)) else (impl_Candidates.l0 k1 ak l1 (l1.length : Int) (wrap64 (D + 1)) a0_0 a0_1 l0_2 a0_3 a0_4 l0_5 a0_6 a0_7)) = some r := H
       have bm := Aside0.mk bl
       clear bl
       by_cases a_ : bk = true
       ·subst a_
        have H1 : (if ak.length < 17592186044416 then (impl_Candidates.l0 k1 (ak ++ [(rd_T42 l1 D).f0.f0]) l1 (l1.length : Int) (wrap64 (D + 1)) a0_0 a0_1 l0_2 a0_3 a0_4 l0_5 a0_6 a0_7) else (none)) = some r := by rw [if_pos rfl] at H; exact H
        clear H
        have H := H1
        clear H1
        by_cases ba : ak.length < 17592186044416
        ·rw [if_pos ba] at H
         have bt := Aside0.mk ba
         clear ba
         obtain ⟨bn, aJ⟩ : ∃ y_ : List Int, y_ = (ak ++ [(rd_T42 l1 D).f0.f0]) := ⟨_, rfl⟩
         replace H : (impl_Candidates.l0 k1 bn l1 (l1.length : Int) (wrap64 (D + 1)) a0_0 a0_1 l0_2 a0_3 a0_4 l0_5 a0_6 a0_7) = some r := by first | (rw [aJ]; with_reducible exact H) | (have H2_ := (Option.bind_some _ _).symm.trans H; rw [aJ]; with_reducible exact H2_) | (have H2_ := (Option.bind_some _ _).symm.trans H; with_reducible exact H2_) | with_reducible exact H | (rw [aJ]; exact H) | exact H
         have bu := Aside0.mk aJ
         clear aJ
         have H' := Aside0.mk H
         clear H
         have aq : 0 ≤ (D : Int) := of_decide_eq_true ‹_›
         have ar : D < (l1.length : Int) := of_decide_eq_true ‹_›
         obtain ⟨bv, bb, au, av, aw, ax, ay, az, aA, aC⟩ := at_T42 aW.out D aq ar
         cases bb
         replace au := (HB.out.cell (World.block_lt_of_cell? w _ au)).trans au
         replace av := (HB.out.cell (World.block_lt_of_cell? w _ av)).trans av
         replace aw := (HB.out.cell (World.block_lt_of_cell? w _ aw)).trans aw
         replace ax := (HB.out.cell (World.block_lt_of_cell? w _ ax)).trans ax
         replace ay := (HB.out.cell (World.block_lt_of_cell? w _ ay)).trans ay
         replace az := (HB.out.cell (World.block_lt_of_cell? w _ az)).trans az
         replace aA := (HB.out.cell (World.block_lt_of_cell? w _ aA)).trans aA
         replace aC := (HB.out.cell (World.block_lt_of_cell? w _ aC)).trans aC
         replace aq := eq_true aq
         replace ar := eq_true ar
         go_wp2_with (first | ((with_reducible refine gate_dst (N := 7) rfl ?_); refine box_event ?hg (N := 7) ?hd (cs := #[.int .i64 0, .int .i64 0, .int .i64 0, .int .i64 0, .int .i64 0, .int .i64 0, .int .i64 0, .int .i64 0]) (t := 42) ?hr ?_; (case hd => rfl); (case hg => rfl); (case hr => first | (go_simp; done) | (go_simp; rfl)); intro Y hg ai hbox hb; have aa := Aside0.mk (Kd.R_below (qR ah) hb); have ab := Aside0.mk (blk_below (qK J) hb); have ac := Aside0.mk (below_step (by repeat first | (with_reducible first | exact HB.out | apply bA | apply bN | apply bD | refine bS ?_ af.out) | exact HB.out) hb); have ag := Aside0.mk (hbox); have aK := Aside0.mk ((by rw [hg]; exact (below_size (by repeat first | (with_reducible first | exact HB.out | apply bA | apply bN | apply bD | refine bS ?_ af.out) | exact HB.out)) : w.heap.size ≤ Y)); have aN := Aside0.mk ((by rw [hg]; exact (below_size (by repeat first | (with_reducible first | exact HB.out | apply bA | apply bN | apply bD | refine bS ?_ af.out) | exact HB.out)) : w.heap.size ≤ Y)); have aQ := Aside0.mk ((by rw [hg]; exact Nat.ne_of_lt (blk_lt (qK J)) : ae ≠ Y)); have aT := Aside0.mk ((by rw [hg]; exact Nat.ne_of_gt (blk_lt (qK J)) : Y ≠ ae)); clear ah; clear J; clear HB; have ah := aa; have J := ab; have HB := ac; have L := ag; have bw := aK; have al := aN; have aU := aQ; have bc := aT; clear aa ab ac ag aK aN aQ aT; clear hb hbox hg; have bJ := bc.out; have bK := aU.out; have bL : ai.cell? ⟨Y, 0, none⟩ = some (.int .i64 0) := cC L 0; have bM : ai.cell? ⟨Y, 1, none⟩ = some (.int .i64 0) := cC L 1; have bO : ai.cell? ⟨Y, 2, none⟩ = some (.int .i64 0) := cC L 2; have bP : ai.cell? ⟨Y, 3, none⟩ = some (.int .i64 0) := cC L 3; have bQ : ai.cell? ⟨Y, 4, none⟩ = some (.int .i64 0) := cC L 4; have bT : ai.cell? ⟨Y, 5, none⟩ = some (.int .i64 0) := cC L 5; have bU : ai.cell? ⟨Y, 6, none⟩ = some (.int .i64 0) := cC L 6; have bV : ai.cell? ⟨Y, 7, none⟩ = some (.int .i64 0) := cC L 7; have bW := blk_frozen L.out 0; have bX := blk_frozen L.out 1; have bZ := blk_frozen L.out 2; have b0 := blk_frozen L.out 3; have b1 := blk_frozen L.out 4; have b2 := blk_frozen L.out 5; have b3 := blk_frozen L.out 6; have b4 := blk_frozen L.out 7; have b5 : ai.cell? ⟨ae, 0, none⟩ = some (.int .i64 a0_0) := cC J 0; have b6 : ai.cell? ⟨ae, 1, none⟩ = some (.int .i64 a0_1) := cC J 1; have b7 : ai.cell? ⟨ae, 2, none⟩ = some (.slice A0_2 l0_2.length c0_2) := cC J 2; have b8 : ai.cell? ⟨ae, 3, none⟩ = some (.int .i64 a0_3) := cC J 3; have b9 : ai.cell? ⟨ae, 4, none⟩ = some (.int .i64 a0_4) := cC J 4; have b_ : ai.cell? ⟨ae, 5, none⟩ = some (.slice A0_5 l0_5.length c0_5) := cC J 5; have ca : ai.cell? ⟨ae, 6, none⟩ = some (.int .i64 a0_6) := cC J 6; have cc : ai.cell? ⟨ae, 7, none⟩ = some (.int .i64 a0_7) := cC J 7; have cd := blk_frozen J.out 0; have ce := blk_frozen J.out 1; have cf := blk_frozen J.out 2; have cg := blk_frozen J.out 3; have ch := blk_frozen J.out 4; have ci := blk_frozen J.out 5; have cj := blk_frozen J.out 6; have ck := blk_frozen J.out 7) | ((with_reducible refine gate_callee (f := 19) rfl ?_); refine goesL_ (some 21) rfl rfl Try.func19 (by kernel_rfl) rfl #[.agg #[.int .i64 a0_0, .int .i64 a0_1, .slice A0_2 l0_2.length c0_2, .int .i64 a0_3, .int .i64 a0_4, .slice A0_5 l0_5.length c0_5, .int .i64 a0_6, .int .i64 a0_7], .agg #[.int .i64 ((rd_T42 l1 D).f0.f0), .int .i64 ((rd_T42 l1 D).f0.f1), .int .i64 ((rd_T42 l1 D).f0.f2), .int .i64 ((rd_T42 l1 D).f0.f3), .int .i64 ((rd_T42 l1 D).f0.f4), .int .i64 ((rd_T42 l1 D).f1), .int .i64 ((rd_T42 l1 D).f2), .int .i64 ((rd_T42 l1 D).f3)]] rfl (by (try simp only [mA, mC, mN]); first | done | rfl | (simp only [lD, lT]; rfl)) ?_; (with_reducible refine (impl_CanBe.calls k1 a0_0 a0_1 _ _ l0_2 a0_3 a0_4 _ _ l0_5 a0_6 a0_7 ((rd_T42 l1 D).f0.f0) ((rd_T42 l1 D).f0.f1) ((rd_T42 l1 D).f0.f2) ((rd_T42 l1 D).f0.f3) ((rd_T42 l1 D).f0.f4) ((rd_T42 l1 D).f1) ((rd_T42 l1 D).f2) ((rd_T42 l1 D).f3) true _ ?side1 ?side2 ?side3 ?side4 bm.out).mono ?_); (case side1 => exact Kd.C_below bd.out (by repeat first | (with_reducible first | exact HB.out | apply bA | apply bN | apply bD | refine bS ?_ af.out | refine bS ?_ al.out) | exact HB.out)); (case side2 => exact be.out); (case side3 => exact Kd.C_below bf.out (by repeat first | (with_reducible first | exact HB.out | apply bA | apply bN | apply bD | refine bS ?_ af.out | refine bS ?_ al.out) | exact HB.out)); (case side4 => exact bg.out); rintro e ap ⟨rfl, hb⟩; refine ⟨_, rfl, ?_⟩; have aa := Aside0.mk (Kd.R_below (by (with_reducible repeat first | apply rA | apply rN | apply rD); exact (far8 ah L)) hb); have ab := Aside0.mk (blk_below (g := ae) (o := .cells #[.int .i64 a0_0, .int .i64 a0_1, .slice A0_2 l0_2.length c0_2, .int .i64 a0_3, .int .i64 a0_4, .slice A0_5 l0_5.length c0_5, .int .i64 a0_6, .int .i64 a0_7] 30 (0, 0)) (by (with_reducible repeat first | refine kN ?_ _ | refine kD ?_ | refine kA ?_ _); exact blk8 J.out aU) hb); have ac := Aside0.mk (blk_below (g := Y) (o := .cells #[.int .i64 ((rd_T42 l1 D).f0.f0), .int .i64 ((rd_T42 l1 D).f0.f1), .int .i64 ((rd_T42 l1 D).f0.f2), .int .i64 ((rd_T42 l1 D).f0.f3), .int .i64 ((rd_T42 l1 D).f0.f4), .int .i64 ((rd_T42 l1 D).f1), .int .i64 ((rd_T42 l1 D).f2), .int .i64 ((rd_T42 l1 D).f3)] 42 (0, 0)) (by (with_reducible repeat first | refine kN ?_ _ | refine kD ?_ | refine kA ?_ _); apply fill8; (with_reducible repeat first | refine kN ?_ _ | refine kD ?_ | refine kA ?_ _); exact L.out) hb); have ag := Aside0.mk (below_step (by repeat first | (with_reducible first | exact HB.out | apply bA | apply bN | apply bD | refine bS ?_ af.out | refine bS ?_ al.out) | exact HB.out) hb); clear ah; clear J; clear L; clear HB; have ah := aa; have J := ab; have L := ac; have HB := ag; clear aa ab ac ag; (try clear hb); (try clear hb2); (try clear hk); (try clear hi); have cl : ap.cell? ⟨Y, 0, none⟩ = some (.int .i64 ((rd_T42 l1 D).f0.f0)) := cC L 0; have cm : ap.cell? ⟨Y, 1, none⟩ = some (.int .i64 ((rd_T42 l1 D).f0.f1)) := cC L 1; have cn : ap.cell? ⟨Y, 2, none⟩ = some (.int .i64 ((rd_T42 l1 D).f0.f2)) := cC L 2; have co : ap.cell? ⟨Y, 3, none⟩ = some (.int .i64 ((rd_T42 l1 D).f0.f3)) := cC L 3; have cp : ap.cell? ⟨Y, 4, none⟩ = some (.int .i64 ((rd_T42 l1 D).f0.f4)) := cC L 4; have cq : ap.cell? ⟨Y, 5, none⟩ = some (.int .i64 ((rd_T42 l1 D).f1)) := cC L 5; have cr : ap.cell? ⟨Y, 6, none⟩ = some (.int .i64 ((rd_T42 l1 D).f2)) := cC L 6; have ct : ap.cell? ⟨Y, 7, none⟩ = some (.int .i64 ((rd_T42 l1 D).f3)) := cC L 7; have cu := blk_frozen L.out 0; have cw := blk_frozen L.out 1; have cx := blk_frozen L.out 2; have cy := blk_frozen L.out 3; have cz := blk_frozen L.out 4; have cA := blk_frozen L.out 5; have cD := blk_frozen L.out 6; have cE := blk_frozen L.out 7) | ((with_reducible refine gate_builtin (b := .append) (xs := #[.tmp 22, .tmp 26]) rfl ?_); at_builtin; refine Kd.R_append (Kd.int .i64) (w0 := w) w.heap.size rfl (.tmp 22) (.tmp 26) 22 3 (.int .i64 0) 8 rfl Try.underlying22 info3 rfl (by decide) (by omega) u5 ak ((rd_T42 l1 D).f0.f0) [.int .i64 ((rd_T42 l1 D).f0.f0)] (fun _ => True) (fun _ => False) rfl rfl ?aP (fun _ hk => hk.elim) ?aF ?aO ?aB ?aS ?aL ?_; (case aP => exact rfl); (case aB => exact (by repeat first | (with_reducible first | exact HB.out | apply bA | apply bN | apply bD | refine bS ?_ af.out | refine bS ?_ al.out) | exact HB.out)); (case aF => exact (fun _ _ => trivial)); (case aO => exact (qR ah)); (case aS => exact (below_size (by repeat first | (with_reducible first | exact HB.out | apply bA | apply bN | apply bD | refine bS ?_ af.out | refine bS ?_ al.out) | exact HB.out))); (case aL => have := bt.out; omega); intro cG cH ho hb hg hat; rw [← bu.out] at ho; have aa := Aside0.mk (blk_grown (qK J) hg (Kd.R_ne ah.out J.out (by decide))); have ab := Aside0.mk (blk_grown (qK L) hg (Kd.R_ne ah.out L.out (by decide))); have ac := Aside0.mk (hb); have ag := Aside0.mk (ho); clear J; clear L; clear HB; clear ah; have J := aa; have L := ab; have HB := ac; have bz := ag; clear aa ab ac ag; clear ho hb hg hat))
         go_roundg k1
         case measure => have := aY.out; omega
         case rel => exact ⟨(bn), (wrap64 (D + 1)), (by first | rfl | (simp; done) | (simp [*]; done)), H', ⟨by have := aY.out; omega⟩, ⟨by (with_reducible repeat first | apply rA | apply rN | apply rD); exact bz.out⟩, ⟨by (with_reducible repeat first | refine kN ?_ _ | refine kD ?_ | refine kA ?_ _); exact J.out⟩, ⟨by repeat (first | (with_reducible first | exact HB.out | apply bA | apply bN | apply bD | refine bS ?_ af.out | refine bS ?_ al.out) | exact HB.out)⟩⟩
        ·rw [if_neg ba] at H
         exact absurd H (by simp)
       ·replace a_ := Bool.eq_false_iff.mpr a_
        subst a_
        have H1 : (impl_Candidates.l0 k1 ak l1 (l1.length : Int) (wrap64 (D + 1)) a0_0 a0_1 l0_2 a0_3 a0_4 l0_5 a0_6 a0_7) = some r := by rw [if_neg (show ¬ (false = true) by decide)] at H; exact H
        clear H
        have H := H1
        clear H1
        have H' := Aside0.mk H
        clear H
        have aq : 0 ≤ (D : Int) := of_decide_eq_true ‹_›
        have ar : D < (l1.length : Int) := of_decide_eq_true ‹_›
        obtain ⟨bv, bb, au, av, aw, ax, ay, az, aA, aC⟩ := at_T42 aW.out D aq ar
        cases bb
        replace au := (HB.out.cell (World.block_lt_of_cell? w _ au)).trans au
        replace av := (HB.out.cell (World.block_lt_of_cell? w _ av)).trans av
        replace aw := (HB.out.cell (World.block_lt_of_cell? w _ aw)).trans aw
        replace ax := (HB.out.cell (World.block_lt_of_cell? w _ ax)).trans ax
        replace ay := (HB.out.cell (World.block_lt_of_cell? w _ ay)).trans ay
        replace az := (HB.out.cell (World.block_lt_of_cell? w _ az)).trans az
        replace aA := (HB.out.cell (World.block_lt_of_cell? w _ aA)).trans aA
        replace aC := (HB.out.cell (World.block_lt_of_cell? w _ aC)).trans aC
        replace aq := eq_true aq
        replace ar := eq_true ar
        go_wp2_with (first | ((with_reducible refine gate_dst (N := 7) rfl ?_); refine box_event ?hg (N := 7) ?hd (cs := #[.int .i64 0, .int .i64 0, .int .i64 0, .int .i64 0, .int .i64 0, .int .i64 0, .int .i64 0, .int .i64 0]) (t := 42) ?hr ?_; (case hd => rfl); (case hg => rfl); (case hr => first | (go_simp; done) | (go_simp; rfl)); intro Y hg aj hbox hb; have aa := Aside0.mk (Kd.R_below (qR ah) hb); have ab := Aside0.mk (blk_below (qK J) hb); have ac := Aside0.mk (below_step (by repeat first | (with_reducible first | exact HB.out | apply bA | apply bN | apply bD | refine bS ?_ af.out) | exact HB.out) hb); have ag := Aside0.mk (hbox); have aK := Aside0.mk ((by rw [hg]; exact (below_size (by repeat first | (with_reducible first | exact HB.out | apply bA | apply bN | apply bD | refine bS ?_ af.out) | exact HB.out)) : w.heap.size ≤ Y)); have aN := Aside0.mk ((by rw [hg]; exact (below_size (by repeat first | (with_reducible first | exact HB.out | apply bA | apply bN | apply bD | refine bS ?_ af.out) | exact HB.out)) : w.heap.size ≤ Y)); have aQ := Aside0.mk ((by rw [hg]; exact Nat.ne_of_lt (blk_lt (qK J)) : ae ≠ Y)); have aT := Aside0.mk ((by rw [hg]; exact Nat.ne_of_gt (blk_lt (qK J)) : Y ≠ ae)); clear ah; clear J; clear HB; have ah := aa; have J := ab; have HB := ac; have L := ag; have bw := aK; have al := aN; have aU := aQ; have bc := aT; clear aa ab ac ag aK aN aQ aT; clear hb hbox hg; have cI := bc.out; have cJ := aU.out; have cK : aj.cell? ⟨Y, 0, none⟩ = some (.int .i64 0) := cC L 0; have cL : aj.cell? ⟨Y, 1, none⟩ = some (.int .i64 0) := cC L 1; have cM : aj.cell? ⟨Y, 2, none⟩ = some (.int .i64 0) := cC L 2; have cN : aj.cell? ⟨Y, 3, none⟩ = some (.int .i64 0) := cC L 3; have cO : aj.cell? ⟨Y, 4, none⟩ = some (.int .i64 0) := cC L 4; have cP : aj.cell? ⟨Y, 5, none⟩ = some (.int .i64 0) := cC L 5; have cQ : aj.cell? ⟨Y, 6, none⟩ = some (.int .i64 0) := cC L 6; have cR : aj.cell? ⟨Y, 7, none⟩ = some (.int .i64 0) := cC L 7; have cS := blk_frozen L.out 0; have cT := blk_frozen L.out 1; have cU := blk_frozen L.out 2; have cV := blk_frozen L.out 3; have cW := blk_frozen L.out 4; have cX := blk_frozen L.out 5; have cY := blk_frozen L.out 6; have cZ := blk_frozen L.out 7; have c_ : aj.cell? ⟨ae, 0, none⟩ = some (.int .i64 a0_0) := cC J 0; have da : aj.cell? ⟨ae, 1, none⟩ = some (.int .i64 a0_1) := cC J 1; have db : aj.cell? ⟨ae, 2, none⟩ = some (.slice A0_2 l0_2.length c0_2) := cC J 2; have dd : aj.cell? ⟨ae, 3, none⟩ = some (.int .i64 a0_3) := cC J 3; have de : aj.cell? ⟨ae, 4, none⟩ = some (.int .i64 a0_4) := cC J 4; have df : aj.cell? ⟨ae, 5, none⟩ = some (.slice A0_5 l0_5.length c0_5) := cC J 5; have dg : aj.cell? ⟨ae, 6, none⟩ = some (.int .i64 a0_6) := cC J 6; have dh : aj.cell? ⟨ae, 7, none⟩ = some (.int .i64 a0_7) := cC J 7; have di := blk_frozen J.out 0; have dj := blk_frozen J.out 1; have dk := blk_frozen J.out 2; have dl := blk_frozen J.out 3; have dm := blk_frozen J.out 4; have dn := blk_frozen J.out 5; have dp := blk_frozen J.out 6; have dq := blk_frozen J.out 7) | ((with_reducible refine gate_callee (f := 19) rfl ?_); refine goesL_ (some 21) rfl rfl Try.func19 (by kernel_rfl) rfl #[.agg #[.int .i64 a0_0, .int .i64 a0_1, .slice A0_2 l0_2.length c0_2, .int .i64 a0_3, .int .i64 a0_4, .slice A0_5 l0_5.length c0_5, .int .i64 a0_6, .int .i64 a0_7], .agg #[.int .i64 ((rd_T42 l1 D).f0.f0), .int .i64 ((rd_T42 l1 D).f0.f1), .int .i64 ((rd_T42 l1 D).f0.f2), .int .i64 ((rd_T42 l1 D).f0.f3), .int .i64 ((rd_T42 l1 D).f0.f4), .int .i64 ((rd_T42 l1 D).f1), .int .i64 ((rd_T42 l1 D).f2), .int .i64 ((rd_T42 l1 D).f3)]] rfl (by (try simp only [mA, mC, mN]); first | done | rfl | (simp only [lD, lT]; rfl)) ?_; (with_reducible refine (impl_CanBe.calls k1 a0_0 a0_1 _ _ l0_2 a0_3 a0_4 _ _ l0_5 a0_6 a0_7 ((rd_T42 l1 D).f0.f0) ((rd_T42 l1 D).f0.f1) ((rd_T42 l1 D).f0.f2) ((rd_T42 l1 D).f0.f3) ((rd_T42 l1 D).f0.f4) ((rd_T42 l1 D).f1) ((rd_T42 l1 D).f2) ((rd_T42 l1 D).f3) false _ ?side1 ?side2 ?side3 ?side4 bm.out).mono ?_); (case side1 => exact Kd.C_below bd.out (by repeat first | (with_reducible first | exact HB.out | apply bA | apply bN | apply bD | refine bS ?_ af.out | refine bS ?_ al.out) | exact HB.out)); (case side2 => exact be.out); (case side3 => exact Kd.C_below bf.out (by repeat first | (with_reducible first | exact HB.out | apply bA | apply bN | apply bD | refine bS ?_ af.out | refine bS ?_ al.out) | exact HB.out)); (case side4 => exact bg.out); rintro e dr ⟨rfl, hb⟩; refine ⟨_, rfl, ?_⟩; have aa := Aside0.mk (Kd.R_below (by (with_reducible repeat first | apply rA | apply rN | apply rD); exact (far8 ah L)) hb); have ab := Aside0.mk (blk_below (g := ae) (o := .cells #[.int .i64 a0_0, .int .i64 a0_1, .slice A0_2 l0_2.length c0_2, .int .i64 a0_3, .int .i64 a0_4, .slice A0_5 l0_5.length c0_5, .int .i64 a0_6, .int .i64 a0_7] 30 (0, 0)) (by (with_reducible repeat first | refine kN ?_ _ | refine kD ?_ | refine kA ?_ _); exact blk8 J.out aU) hb); have ac := Aside0.mk (blk_below (g := Y) (o := .cells #[.int .i64 ((rd_T42 l1 D).f0.f0), .int .i64 ((rd_T42 l1 D).f0.f1), .int .i64 ((rd_T42 l1 D).f0.f2), .int .i64 ((rd_T42 l1 D).f0.f3), .int .i64 ((rd_T42 l1 D).f0.f4), .int .i64 ((rd_T42 l1 D).f1), .int .i64 ((rd_T42 l1 D).f2), .int .i64 ((rd_T42 l1 D).f3)] 42 (0, 0)) (by (with_reducible repeat first | refine kN ?_ _ | refine kD ?_ | refine kA ?_ _); apply fill8; (with_reducible repeat first | refine kN ?_ _ | refine kD ?_ | refine kA ?_ _); exact L.out) hb); have ag := Aside0.mk (below_step (by repeat first | (with_reducible first | exact HB.out | apply bA | apply bN | apply bD | refine bS ?_ af.out | refine bS ?_ al.out) | exact HB.out) hb); clear ah; clear J; clear L; clear HB; have ah := aa; have J := ab; have L := ac; have HB := ag; clear aa ab ac ag; (try clear hb); (try clear hb2); (try clear hk); (try clear hi)))
        go_roundg k1
        case measure => have := aY.out; omega
        case rel => exact ⟨(ak), (wrap64 (D + 1)), (by first | rfl | (simp; done) | (simp [*]; done)), H', ⟨by have := aY.out; omega⟩, ⟨by (with_reducible repeat first | apply rA | apply rN | apply rD); exact ah.out⟩, ⟨by (with_reducible repeat first | refine kN ?_ _ | refine kD ?_ | refine kA ?_ _); exact J.out⟩, ⟨by repeat (first | (with_reducible first | exact HB.out | apply bA | apply bN | apply bD | refine bS ?_ af.out | refine bS ?_ al.out) | exact HB.out)⟩⟩
      ·rw [if_neg a9] at H
       exact absurd H (by simp)
     ·rw [if_neg aZ] at H
      exact absurd H (by simp)
    ·rw [if_neg c9] at H
     have bs : decide (D < (l1.length : Int)) = false := decide_eq_false c9
     clear c9
     obtain rfl := Option.some.inj H
     go_wp2
     go_ret
     exact ⟨_, by first | rfl | (simp [errW_none, errW_some] <;> rfl) | (simp [*, errW_none, errW_some] <;> rfl), by (with_reducible repeat first | apply rA | apply rN | apply rD); exact ah.out, by repeat (first | (with_reducible first | exact HB.out | apply bA | apply bN | apply bD | refine bS ?_ af.out) | exact HB.out)⟩
 ·replace c4 := Bool.eq_false_iff.mpr c4
  subst c4
  have H1 : (some am) = some r := by rw [if_neg (show ¬ (false = true) by decide)] at H; exact H
  clear H
  have H := H1
  clear H1
  obtain rfl := Option.some.inj H
  go_enter Try.func21, Try.ntmps21
  go_wp2_with (first | ((with_reducible refine gate_dst (N := 2) rfl ?_); refine box_event ?hg (N := 2) ?hd (cs := #[.int .i64 a0_0, .int .i64 a0_1, .slice A0_2 l0_2.length c0_2, .int .i64 a0_3, .int .i64 a0_4, .slice A0_5 l0_5.length c0_5, .int .i64 a0_6, .int .i64 a0_7]) (t := 30) ?hr ?_; (case hd => rfl); (case hg => rfl); (case hr => first | (go_simp; done) | (go_simp; rfl)); intro ae hg dt hbox hb; have aa := Aside0.mk (below_step (qB HB) hb); have ab := Aside0.mk (hbox); have ac := Aside0.mk ((by rw [hg]; exact (below_size (qB HB)) : w.heap.size ≤ ae)); have ag := Aside0.mk ((by rw [hg]; exact (below_size (qB HB)) : w.heap.size ≤ ae)); clear HB; have HB := aa; have J := ab; have bo := ac; have af := ag; clear aa ab ac ag; clear hb hbox hg) | ((with_reducible refine gate_dst (N := 8) rfl ?_); refine Kd.R_lit (Kd.int .i64) _ 3 ?hg (N := 8) ?hd (xs := ([] : List Int)) (inner := []) (ok := fun _ => True) (okp := fun _ => True) ?hr ?hp (fun _ hk => hk) trivial (Below.refl _ _) (Nat.le_refl _) (by simp) ?_; (case hd => rfl); (case hg => rfl); (case hr => first | (go_simp; done) | (go_simp; rfl)); (case hp => exact (Reps.none _ _)); intro bp du aV hb hg_ hnew_; clear hg_ hnew_; (first | rw [← aX.out] at aV | (simp only [Int.reduceToNat] at aV; rw [← aX.out] at aV)); have aa := Aside0.mk (Kd.R_lower aV (below_size (by repeat first | (with_reducible first | exact HB.out | apply bA | apply bN | apply bD | refine bS ?_ af.out) | exact HB.out))); have ab := Aside0.mk (blk_below (qK J) hb); have ac := Aside0.mk (below_step (by repeat first | (with_reducible first | exact HB.out | apply bA | apply bN | apply bD | refine bS ?_ af.out) | exact HB.out) hb); clear J; clear HB; have ao := aa; have J := ab; have HB := ac; clear aa ab ac; clear hb aV) | ((with_reducible refine gate_callee (f := 68) rfl ?_); refine goesL_ (some 10) rfl rfl Try.func68 (by kernel_rfl) rfl #[.slice A1 l1.length c1] rfl (by (try simp only [mA, mC, mN]); first | done | rfl | (simp only [lD, lT]; rfl)) ?_; (with_reducible refine (impl_AreFinds.calls k _ _ l1 false _ ?side1 ?side2 A3.out).mono ?_); (case side1 => exact qC (Kd.C_below aW.out HB.out)); (case side2 => exact bh.out); rintro e dv ⟨rfl, hb⟩; refine ⟨_, rfl, ?_⟩; have aa := Aside0.mk (Kd.R_below (qR ao) hb); have ab := Aside0.mk (blk_below (qK J) hb); have ac := Aside0.mk (below_step (by repeat first | (with_reducible first | exact HB.out | apply bA | apply bN | apply bD | refine bS ?_ af.out) | exact HB.out) hb); clear ao; clear J; clear HB; have ao := aa; have J := ab; have HB := ac; clear aa ab ac; (try clear hb); (try clear hb2); (try clear hk); (try clear hi)))
  go_ret
  exact ⟨_, by first | rfl | (simp [errW_none, errW_some] <;> rfl) | (simp [*, errW_none, errW_some] <;> rfl), by (with_reducible repeat first | apply rA | apply rN | apply rD); exact ao.out, by repeat (first | (with_reducible first | exact HB.out | apply bA | apply bN | apply bD | refine bS ?_ af.out) | exact HB.out)⟩

/-! ### impl_BestOf: function 22 -/
def impl_BestOf.l0 : Nat → Int → Int → List (S42) → Int → Int → Int → Int → List Int → Int → Int → List Int → Int → Int → Option (Int)
 | 0, _, _, _, _, _, _, _, _, _, _, _, _, _ => none
 | k + 1, x5, x6, J, L, D, Y, aa, ab, ac, ae, af, ag, ah => if D < L then (if 0 ≤ D then (if D < (J.length : Int) then ((impl_Score.f k Y aa ab ac ae af ag ah ((rd_T42 J D).f0.f0) ((rd_T42 J D).f0.f1) ((rd_T42 J D).f0.f2) ((rd_T42 J D).f0.f3) ((rd_T42 J D).f0.f4) ((rd_T42 J D).f1) ((rd_T42 J D).f2) ((rd_T42 J D).f3)).bind fun ai => (if ai > x6 then (impl_BestOf.l0 k ((rd_T42 J D).f0.f0) ai J L (wrap64 (D + 1)) Y aa ab ac ae af ag ah) else (impl_BestOf.l0 k x5 x6 J L (wrap64 (D + 1)) Y aa ab ac ae af ag ah))) else (none)) else (none)) else (some x5)
def impl_BestOf.f (k : Nat) (a0_0 a0_1 : Int) (l0_2 : List Int) (a0_3 a0_4 : Int) (l0_5 : List Int) (a0_6 a0_7 : Int) (l1 : List (S42)) : Option (Int) := (impl_AreFinds.f k l1).bind fun t607 => (if t607 = true then (impl_BestOf.l0 k 0 0 l1 (l1.length : Int) 0 a0_0 a0_1 l0_2 a0_3 a0_4 l0_5 a0_6 a0_7) else (some 0))
theorem impl_BestOf.mono_l : ∀ k, (∀ y0 y1 y2 y3 y4 y5 y6 y7 y8 y9 y10 y11 y12, LeO (impl_BestOf.l0 k y0 y1 y2 y3 y4 y5 y6 y7 y8 y9 y10 y11 y12) (impl_BestOf.l0 (k + 1) y0 y1 y2 y3 y4 y5 y6 y7 y8 y9 y10 y11 y12))
 | 0 => fun _ _ _ _ _ _ _ _ _ _ _ _ _ r h => by simp [impl_BestOf.l0] at h
 | k + 1 => by
  have ih0 := impl_BestOf.mono_l k
  ·intro y0 y1 y2 y3 y4 y5 y6 y7 y8 y9 y10 y11 y12
   unfold impl_BestOf.l0
   repeat' first
   | (with_reducible exact ih0 _ _ _ _ _ _ _ _ _ _ _ _ _)
   | (with_reducible exact impl_AreFinds.mono _ _)
   | (with_reducible exact impl_Score.mono _ _ _ _ _ _ _ _ _ _ _ _ _ _ _ _ _)
   | (with_reducible exact LeO.refl _)
   | (with_reducible exact LeO.none _)
   | (with_reducible refine LeO.ite ?_ ?_)
   | (with_reducible refine LeO.bind ?_ (fun _ => ?_))
   | exact ih0 _ _ _ _ _ _ _ _ _ _ _ _ _
   | exact impl_AreFinds.mono _ _
   | exact impl_Score.mono _ _ _ _ _ _ _ _ _ _ _ _ _ _ _ _ _
   | exact LeO.none _
   | refine LeO.ite ?_ ?_
   | refine LeO.bind ?_ (fun _ => ?_)
theorem impl_BestOf.mono : ∀ a0 a1 a2 a3 a4 a5 a6 a7 a8 k, LeO (impl_BestOf.f k a0 a1 a2 a3 a4 a5 a6 a7 a8) (impl_BestOf.f (k + 1) a0 a1 a2 a3 a4 a5 a6 a7 a8) := by
 intro a0 a1 a2 a3 a4 a5 a6 a7 a8 k
 have ih0 := impl_BestOf.mono_l k
 unfold impl_BestOf.f
 repeat' first
   | (with_reducible exact ih0 _ _ _ _ _ _ _ _ _ _ _ _ _)
   | (with_reducible exact impl_AreFinds.mono _ _)
   | (with_reducible exact impl_Score.mono _ _ _ _ _ _ _ _ _ _ _ _ _ _ _ _ _)
   | (with_reducible exact LeO.refl _)
   | (with_reducible exact LeO.none _)
   | (with_reducible refine LeO.ite ?_ ?_)
   | (with_reducible refine LeO.bind ?_ (fun _ => ?_))
   | exact ih0 _ _ _ _ _ _ _ _ _ _ _ _ _
   | exact impl_AreFinds.mono _ _
   | exact impl_Score.mono _ _ _ _ _ _ _ _ _ _ _ _ _ _ _ _ _
   | exact LeO.none _
   | refine LeO.ite ?_ ?_
   | refine LeO.bind ?_ (fun _ => ?_)
set_option maxHeartbeats 8000000 in
set_option maxRecDepth 100000 in
theorem impl_BestOf.calls (k : Nat) (a0_0 a0_1 : Int) (A0_2 : Option Addr) (c0_2 : Nat) (l0_2 : List Int) (a0_3 a0_4 : Int) (A0_5 : Option Addr) (c0_5 : Nat) (l0_5 : List Int) (a0_6 a0_7 : Int) (A1 : Option Addr) (c1 : Nat) (l1 : List (S42)) (r : Int) (w : World) (hr0_2 : Kd.C (Kd.int .i64) w A0_2 l0_2.length l0_2) (hc0_2 : l0_2.length ≤ c0_2) (hr0_5 : Kd.C (Kd.int .i64) w A0_5 l0_5.length l0_5) (hc0_5 : l0_5.length ≤ c0_5) (hr1 : Kd.C k42 w A1 l1.length l1) (hc1 : l1.length ≤ c1) (h : impl_BestOf.f k a0_0 a0_1 l0_2 a0_3 a0_4 l0_5 a0_6 a0_7 l1 = some r) :
  Calls Try.prog 22 #[.agg #[.int .i64 a0_0, .int .i64 a0_1, .slice A0_2 l0_2.length c0_2, .int .i64 a0_3, .int .i64 a0_4, .slice A0_5 l0_5.length c0_5, .int .i64 a0_6, .int .i64 a0_7], .slice A1 l1.length c1] w fun e w' => e = .returned (.int .i64 r) ∧ Below w.heap.size w w' := by
 have hu30 := Try.underlying30
 have hu42 := Try.underlying42
 have aX := Aside0.mk hr0_2
 have aY := Aside0.mk hc0_2
 clear hr0_2 hc0_2
 have aZ := Aside0.mk hr0_5
 have a9 := Aside0.mk hc0_5
 clear hr0_5 hc0_5
 have aK := Aside0.mk hr1
 have a_ := Aside0.mk hc1
 clear hr1 hc1
 have HB := Aside0.mk (Below.refl w.heap.size w)
 have H : ((impl_AreFinds.f k l1).bind fun aN => (if aN = true then (impl_BestOf.l0 k 0 0 l1 (l1.length : Int) 0 a0_0 a0_1 l0_2 a0_3 a0_4 l0_5 a0_6 a0_7) else (some 0))) = some r := h
 clear h
 replace H := Option.bind_eq_some_iff.mp H
 obtain ⟨aN, ba, H⟩ := H
 replace H : (if aN = true then (impl_BestOf.l0 k 0 0 l1 (l1.length : Int) 0 a0_0 a0_1 l0_2 a0_3 a0_4 l0_5 a0_6 a0_7) else (some 0)) = some r := H
 have A3 := Aside0.mk ba
 clear ba
 by_cases c4 : aN = true
 ·subst c4
  have H1 : (impl_BestOf.l0 k 0 0 l1 (l1.length : Int) 0 a0_0 a0_1 l0_2 a0_3 a0_4 l0_5 a0_6 a0_7) = some r := by rw [if_pos rfl] at H; exact H
  clear H
  have H := H1
  clear H1
  have H' := Aside0.mk H
  clear H
  go_enter Try.func22, Try.ntmps22
  go_wp2_with (first | ((with_reducible refine gate_dst (N := 2) rfl ?_); refine box_event ?hg (N := 2) ?hd (cs := #[.int .i64 a0_0, .int .i64 a0_1, .slice A0_2 l0_2.length c0_2, .int .i64 a0_3, .int .i64 a0_4, .slice A0_5 l0_5.length c0_5, .int .i64 a0_6, .int .i64 a0_7]) (t := 30) ?hr ?_; (case hd => rfl); (case hg => rfl); (case hr => first | (go_simp; done) | (go_simp; rfl)); intro aa hg w5 hbox hb; have ab := Aside0.mk (below_step (qB HB) hb); have ac := Aside0.mk (hbox); have af := Aside0.mk ((by rw [hg]; exact (below_size (qB HB)) : w.heap.size ≤ aa)); have ai := Aside0.mk ((by rw [hg]; exact (below_size (qB HB)) : w.heap.size ≤ aa)); clear HB; have HB := ab; have J := ac; have be := af; have ae := ai; clear ab ac af ai; clear hb hbox hg) | ((with_reducible refine gate_callee (f := 68) rfl ?_); refine goesL_ (some 11) rfl rfl Try.func68 (by kernel_rfl) rfl #[.slice A1 l1.length c1] rfl (by (try simp only [mA, mC, mN]); first | done | rfl | (simp only [lD, lT]; rfl)) ?_; (with_reducible refine (impl_AreFinds.calls k _ _ l1 true _ ?side1 ?side2 A3.out).mono ?_); (case side1 => exact qC (Kd.C_below aK.out HB.out)); (case side2 => exact a_.out); rintro e w6 ⟨rfl, hb⟩; refine ⟨_, rfl, ?_⟩; have ab := Aside0.mk (blk_below (qK J) hb); have ac := Aside0.mk (below_step (by repeat first | (with_reducible first | exact HB.out | apply bA | apply bN | apply bD | refine bS ?_ ae.out) | exact HB.out) hb); clear J; clear HB; have J := ab; have HB := ac; clear ab ac; (try clear hb); (try clear hb2); (try clear hk); (try clear hi)))
  go_loopg [5, 6, 16] k (fun kq v5 v6 bh w' => ∃ (aE aj D : Int), v5 = .int .i64 aE ∧ v6 = .int .i64 aj ∧ bh = .int .i64 D ∧ Aside0 (impl_BestOf.l0 kq aE aj l1 (l1.length : Int) D a0_0 a0_1 l0_2 a0_3 a0_4 l0_5 a0_6 a0_7 = some r) ∧ Aside0 (kq ≤ k) ∧ Aside0 (w'.heap[aa]? = some (.cells #[.int .i64 a0_0, .int .i64 a0_1, (.slice A0_2 l0_2.length c0_2), .int .i64 a0_3, .int .i64 a0_4, (.slice A0_5 l0_5.length c0_5), .int .i64 a0_6, .int .i64 a0_7] 30 (0, 0))) ∧ Aside0 (Below w.heap.size w w'))
  case atStart => exact ⟨(0), (0), (0), (by first | rfl | (simp; done) | (simp [*]; done)), (by first | rfl | (simp; done) | (simp [*]; done)), (by first | rfl | (simp; done) | (simp [*]; done)), H', ⟨Nat.le_refl _⟩, ⟨by (with_reducible repeat first | refine kN ?_ _ | refine kD ?_ | refine kA ?_ _); exact J.out⟩, ⟨by repeat (first | (with_reducible first | exact HB.out | apply bA | apply bN | apply bD | refine bS ?_ ae.out) | exact HB.out)⟩⟩
  case round =>
   clear H'
   try clear c1; try clear c2; try clear p2; try clear c4; try clear c6
   obtain ⟨aE, aj, D, rfl, rfl, rfl, HA, aQ, J, HB⟩ := hrel
   cases gk with
   | zero => exact absurd HA.out (by simp [impl_BestOf.l0])
   | succ k1 =>
    have H := HA.out
    clear HA
    simp only [impl_BestOf.l0] at H
    by_cases c7 : D < (l1.length : Int)
    ·rw [if_pos c7] at H
     have bi : decide (D < (l1.length : Int)) = true := decide_eq_true c7
     clear c7
     by_cases c8 : 0 ≤ D
     ·rw [if_pos c8] at H
      have bq : decide (0 ≤ D) = true := decide_eq_true c8
      clear c8
      by_cases c9 : D < (l1.length : Int)
      ·rw [if_pos c9] at H
       have br : decide (D < (l1.length : Int)) = true := decide_eq_true c9
       clear c9
       replace H := Option.bind_eq_some_iff.mp H
       obtain ⟨al, bc, H⟩ := H
       replace H : (if al > aj then (impl_BestOf.l0 k1 ((rd_T42 l1 D).f0.f0) al l1 (l1.length : Int) (wrap64 (D + 1)) a0_0 a0_1 l0_2 a0_3 a0_4 l0_5 a0_6 a0_7) else (impl_BestOf.l0 k1 aE aj l1 (l1.length : Int) (wrap64 (D + 1)) a0_0 a0_1 l0_2 a0_3 a0_4 l0_5 a0_6 a0_7)) = some r := H
       have bd := Aside0.mk bc
       clear bc
       by_cases aC : al > aj
       ·rw [if_pos aC] at H
        have bj : decide (aj < al) = true := decide_eq_true aC
        clear aC
        have H' := Aside0.mk H
        clear H
        have ao : 0 ≤ (D : Int) := of_decide_eq_true ‹_›
        have ap : D < (l1.length : Int) := of_decide_eq_true ‹_›
        obtain ⟨bk, aV, aq, ar, au, av, aw, ax, ay, az⟩ := at_T42 aK.out D ao ap
        cases aV
        replace aq := (HB.out.cell (World.block_lt_of_cell? w _ aq)).trans aq
        replace ar := (HB.out.cell (World.block_lt_of_cell? w _ ar)).trans ar
        replace au := (HB.out.cell (World.block_lt_of_cell? w _ au)).trans au
        replace av := (HB.out.cell (World.block_lt_of_cell? w _ av)).trans av
        replace aw := (HB.out.cell (World.block_lt_of_cell? w _ aw)).trans aw
        replace ax := (HB.out.cell (World.block_lt_of_cell? w _ ax)).trans ax
        replace ay := (HB.out.cell (World.block_lt_of_cell? w _ ay)).trans ay
        replace az := (HB.out.cell (World.block_lt_of_cell? w _ az)).trans az
        replace ao := eq_true ao
        replace ap := eq_true ap
        go_wp2_with (first | ((with_reducible refine gate_dst (N := 8) rfl ?_); refine box_event ?hg (N := 8) ?hd (cs := #[.int .i64 0, .int .i64 0, .int .i64 0, .int .i64 0, .int .i64 0, .int .i64 0, .int .i64 0, .int .i64 0]) (t := 42) ?hr ?_; (case hd => rfl); (case hg => rfl); (case hr => first | (go_simp; done) | (go_simp; rfl)); intro Y hg ag hbox hb; have ab := Aside0.mk (blk_below (qK J) hb); have ac := Aside0.mk (below_step (by repeat first | (with_reducible first | exact HB.out | apply bA | apply bN | apply bD | refine bS ?_ ae.out) | exact HB.out) hb); have af := Aside0.mk (hbox); have ai := Aside0.mk ((by rw [hg]; exact (below_size (by repeat first | (with_reducible first | exact HB.out | apply bA | apply bN | apply bD | refine bS ?_ ae.out) | exact HB.out)) : w.heap.size ≤ Y)); have aG := Aside0.mk ((by rw [hg]; exact (below_size (by repeat first | (with_reducible first | exact HB.out | apply bA | apply bN | apply bD | refine bS ?_ ae.out) | exact HB.out)) : w.heap.size ≤ Y)); have aH := Aside0.mk ((by rw [hg]; exact Nat.ne_of_lt (blk_lt (qK J)) : aa ≠ Y)); have aI := Aside0.mk ((by rw [hg]; exact Nat.ne_of_gt (blk_lt (qK J)) : Y ≠ aa)); clear J; clear HB; have J := ab; have HB := ac; have L := af; have bl := ai; have ak := aG; have aJ := aH; have aW := aI; clear ab ac af ai aG aH aI; clear hb hbox hg; have bs := aW.out; have bt := aJ.out; have bu : ag.cell? ⟨Y, 0, none⟩ = some (.int .i64 0) := cC L 0; have bv : ag.cell? ⟨Y, 1, none⟩ = some (.int .i64 0) := cC L 1; have bw : ag.cell? ⟨Y, 2, none⟩ = some (.int .i64 0) := cC L 2; have bz : ag.cell? ⟨Y, 3, none⟩ = some (.int .i64 0) := cC L 3; have bB : ag.cell? ⟨Y, 4, none⟩ = some (.int .i64 0) := cC L 4; have bC : ag.cell? ⟨Y, 5, none⟩ = some (.int .i64 0) := cC L 5; have bE : ag.cell? ⟨Y, 6, none⟩ = some (.int .i64 0) := cC L 6; have bF : ag.cell? ⟨Y, 7, none⟩ = some (.int .i64 0) := cC L 7; have bG := blk_frozen L.out 0; have bH := blk_frozen L.out 1; have bI := blk_frozen L.out 2; have bJ := blk_frozen L.out 3; have bK := blk_frozen L.out 4; have bL := blk_frozen L.out 5; have bM := blk_frozen L.out 6; have bO := blk_frozen L.out 7; have bP : ag.cell? ⟨aa, 0, none⟩ = some (.int .i64 a0_0) := cC J 0; have bQ : ag.cell? ⟨aa, 1, none⟩ = some (.int .i64 a0_1) := cC J 1; have bT : ag.cell? ⟨aa, 2, none⟩ = some (.slice A0_2 l0_2.length c0_2) := cC J 2; have bU : ag.cell? ⟨aa, 3, none⟩ = some (.int .i64 a0_3) := cC J 3; have bV : ag.cell? ⟨aa, 4, none⟩ = some (.int .i64 a0_4) := cC J 4; have bW : ag.cell? ⟨aa, 5, none⟩ = some (.slice A0_5 l0_5.length c0_5) := cC J 5; have bX : ag.cell? ⟨aa, 6, none⟩ = some (.int .i64 a0_6) := cC J 6; have bZ : ag.cell? ⟨aa, 7, none⟩ = some (.int .i64 a0_7) := cC J 7; have b0 := blk_frozen J.out 0; have b1 := blk_frozen J.out 1; have b2 := blk_frozen J.out 2; have b3 := blk_frozen J.out 3; have b4 := blk_frozen J.out 4; have b5 := blk_frozen J.out 5; have b6 := blk_frozen J.out 6; have b7 := blk_frozen J.out 7) | ((with_reducible refine gate_callee (f := 18) rfl ?_); refine goesL_ (some 22) rfl rfl Try.func18 (by kernel_rfl) rfl #[.agg #[.int .i64 a0_0, .int .i64 a0_1, .slice A0_2 l0_2.length c0_2, .int .i64 a0_3, .int .i64 a0_4, .slice A0_5 l0_5.length c0_5, .int .i64 a0_6, .int .i64 a0_7], .agg #[.int .i64 ((rd_T42 l1 D).f0.f0), .int .i64 ((rd_T42 l1 D).f0.f1), .int .i64 ((rd_T42 l1 D).f0.f2), .int .i64 ((rd_T42 l1 D).f0.f3), .int .i64 ((rd_T42 l1 D).f0.f4), .int .i64 ((rd_T42 l1 D).f1), .int .i64 ((rd_T42 l1 D).f2), .int .i64 ((rd_T42 l1 D).f3)]] rfl (by (try simp only [mA, mC, mN]); first | done | rfl | (simp only [lD, lT]; rfl)) ?_; (with_reducible refine (impl_Score.calls k1 a0_0 a0_1 _ _ l0_2 a0_3 a0_4 _ _ l0_5 a0_6 a0_7 ((rd_T42 l1 D).f0.f0) ((rd_T42 l1 D).f0.f1) ((rd_T42 l1 D).f0.f2) ((rd_T42 l1 D).f0.f3) ((rd_T42 l1 D).f0.f4) ((rd_T42 l1 D).f1) ((rd_T42 l1 D).f2) ((rd_T42 l1 D).f3) al _ ?side1 ?side2 ?side3 ?side4 bd.out).mono ?_); (case side1 => exact Kd.C_below aX.out (by repeat first | (with_reducible first | exact HB.out | apply bA | apply bN | apply bD | refine bS ?_ ae.out | refine bS ?_ ak.out) | exact HB.out)); (case side2 => exact aY.out); (case side3 => exact Kd.C_below aZ.out (by repeat first | (with_reducible first | exact HB.out | apply bA | apply bN | apply bD | refine bS ?_ ae.out | refine bS ?_ ak.out) | exact HB.out)); (case side4 => exact a9.out); rintro e am ⟨rfl, hb⟩; refine ⟨_, rfl, ?_⟩; have ab := Aside0.mk (blk_below (g := aa) (o := .cells #[.int .i64 a0_0, .int .i64 a0_1, .slice A0_2 l0_2.length c0_2, .int .i64 a0_3, .int .i64 a0_4, .slice A0_5 l0_5.length c0_5, .int .i64 a0_6, .int .i64 a0_7] 30 (0, 0)) (by (with_reducible repeat first | refine kN ?_ _ | refine kD ?_ | refine kA ?_ _); exact blk8 J.out aJ) hb); have ac := Aside0.mk (blk_below (g := Y) (o := .cells #[.int .i64 ((rd_T42 l1 D).f0.f0), .int .i64 ((rd_T42 l1 D).f0.f1), .int .i64 ((rd_T42 l1 D).f0.f2), .int .i64 ((rd_T42 l1 D).f0.f3), .int .i64 ((rd_T42 l1 D).f0.f4), .int .i64 ((rd_T42 l1 D).f1), .int .i64 ((rd_T42 l1 D).f2), .int .i64 ((rd_T42 l1 D).f3)] 42 (0, 0)) (by (with_reducible repeat first | refine kN ?_ _ | refine kD ?_ | refine kA ?_ _); apply fill8; (with_reducible repeat first | refine kN ?_ _ | refine kD ?_ | refine kA ?_ _); exact L.out) hb); have af := Aside0.mk (below_step (by repeat first | (with_reducible first | exact HB.out | apply bA | apply bN | apply bD | refine bS ?_ ae.out | refine bS ?_ ak.out) | exact HB.out) hb); clear J; clear L; clear HB; have J := ab; have L := ac; have HB := af; clear ab ac af; (try clear hb); (try clear hb2); (try clear hk); (try clear hi); have b8 : am.cell? ⟨Y, 0, none⟩ = some (.int .i64 ((rd_T42 l1 D).f0.f0)) := cC L 0; have b9 : am.cell? ⟨Y, 1, none⟩ = some (.int .i64 ((rd_T42 l1 D).f0.f1)) := cC L 1; have b_ : am.cell? ⟨Y, 2, none⟩ = some (.int .i64 ((rd_T42 l1 D).f0.f2)) := cC L 2; have ca : am.cell? ⟨Y, 3, none⟩ = some (.int .i64 ((rd_T42 l1 D).f0.f3)) := cC L 3; have cc : am.cell? ⟨Y, 4, none⟩ = some (.int .i64 ((rd_T42 l1 D).f0.f4)) := cC L 4; have cd : am.cell? ⟨Y, 5, none⟩ = some (.int .i64 ((rd_T42 l1 D).f1)) := cC L 5; have ce : am.cell? ⟨Y, 6, none⟩ = some (.int .i64 ((rd_T42 l1 D).f2)) := cC L 6; have cf : am.cell? ⟨Y, 7, none⟩ = some (.int .i64 ((rd_T42 l1 D).f3)) := cC L 7; have cg := blk_frozen L.out 0; have ch := blk_frozen L.out 1; have ci := blk_frozen L.out 2; have cj := blk_frozen L.out 3; have ck := blk_frozen L.out 4; have cl := blk_frozen L.out 5; have cm := blk_frozen L.out 6; have cn := blk_frozen L.out 7))
        go_roundg k1
        case measure => have := aQ.out; omega
        case rel => exact ⟨((rd_T42 l1 D).f0.f0), (al), (wrap64 (D + 1)), (by first | rfl | (simp; done) | (simp [*]; done)), (by first | rfl | (simp; done) | (simp [*]; done)), (by first | rfl | (simp; done) | (simp [*]; done)), H', ⟨by have := aQ.out; omega⟩, ⟨by (with_reducible repeat first | refine kN ?_ _ | refine kD ?_ | refine kA ?_ _); exact J.out⟩, ⟨by repeat (first | (with_reducible first | exact HB.out | apply bA | apply bN | apply bD | refine bS ?_ ae.out | refine bS ?_ ak.out) | exact HB.out)⟩⟩
       ·rw [if_neg aC] at H
        have bj : decide (aj < al) = false := decide_eq_false aC
        clear aC
        have H' := Aside0.mk H
        clear H
        have ao : 0 ≤ (D : Int) := of_decide_eq_true ‹_›
        have ap : D < (l1.length : Int) := of_decide_eq_true ‹_›
        obtain ⟨bk, aV, aq, ar, au, av, aw, ax, ay, az⟩ := at_T42 aK.out D ao ap
        cases aV
        replace aq := (HB.out.cell (World.block_lt_of_cell? w _ aq)).trans aq
        replace ar := (HB.out.cell (World.block_lt_of_cell? w _ ar)).trans ar
        replace au := (HB.out.cell (World.block_lt_of_cell? w _ au)).trans au
        replace av := (HB.out.cell (World.block_lt_of_cell? w _ av)).trans av
        replace aw := (HB.out.cell (World.block_lt_of_cell? w _ aw)).trans aw
        replace ax := (HB.out.cell (World.block_lt_of_cell? w _ ax)).trans ax
        replace ay := (HB.out.cell (World.block_lt_of_cell? w _ ay)).trans ay
        replace az := (HB.out.cell (World.block_lt_of_cell? w _ az)).trans az
        replace ao := eq_true ao
        replace ap := eq_true ap
        go_wp2_with (first | ((with_reducible refine gate_dst (N := 8) rfl ?_); refine box_event ?hg (N := 8) ?hd (cs := #[.int .i64 0, .int .i64 0, .int .i64 0, .int .i64 0, .int .i64 0, .int .i64 0, .int .i64 0, .int .i64 0]) (t := 42) ?hr ?_; (case hd => rfl); (case hg => rfl); (case hr => first | (go_simp; done) | (go_simp; rfl)); intro Y hg ah hbox hb; have ab := Aside0.mk (blk_below (qK J) hb); have ac := Aside0.mk (below_step (by repeat first | (with_reducible first | exact HB.out | apply bA | apply bN | apply bD | refine bS ?_ ae.out) | exact HB.out) hb); have af := Aside0.mk (hbox); have ai := Aside0.mk ((by rw [hg]; exact (below_size (by repeat first | (with_reducible first | exact HB.out | apply bA | apply bN | apply bD | refine bS ?_ ae.out) | exact HB.out)) : w.heap.size ≤ Y)); have aG := Aside0.mk ((by rw [hg]; exact (below_size (by repeat first | (with_reducible first | exact HB.out | apply bA | apply bN | apply bD | refine bS ?_ ae.out) | exact HB.out)) : w.heap.size ≤ Y)); have aH := Aside0.mk ((by rw [hg]; exact Nat.ne_of_lt (blk_lt (qK J)) : aa ≠ Y)); have aI := Aside0.mk ((by rw [hg]; exact Nat.ne_of_gt (blk_lt (qK J)) : Y ≠ aa)); clear J; clear HB; have J := ab; have HB := ac; have L := af; have bl := ai; have ak := aG; have aJ := aH; have aW := aI; clear ab ac af ai aG aH aI; clear hb hbox hg; have co := aW.out; have cp := aJ.out; have cq : ah.cell? ⟨Y, 0, none⟩ = some (.int .i64 0) := cC L 0; have cr : ah.cell? ⟨Y, 1, none⟩ = some (.int .i64 0) := cC L 1; have ct : ah.cell? ⟨Y, 2, none⟩ = some (.int .i64 0) := cC L 2; have cu : ah.cell? ⟨Y, 3, none⟩ = some (.int .i64 0) := cC L 3; have cw : ah.cell? ⟨Y, 4, none⟩ = some (.int .i64 0) := cC L 4; have cx : ah.cell? ⟨Y, 5, none⟩ = some (.int .i64 0) := cC L 5; have cy : ah.cell? ⟨Y, 6, none⟩ = some (.int .i64 0) := cC L 6; have cz : ah.cell? ⟨Y, 7, none⟩ = some (.int .i64 0) := cC L 7; have cA := blk_frozen L.out 0; have cD := blk_frozen L.out 1; have cE := blk_frozen L.out 2; have cF := blk_frozen L.out 3; have cG := blk_frozen L.out 4; have cH := blk_frozen L.out 5; have cI := blk_frozen L.out 6; have cJ := blk_frozen L.out 7; have cK : ah.cell? ⟨aa, 0, none⟩ = some (.int .i64 a0_0) := cC J 0; have cL : ah.cell? ⟨aa, 1, none⟩ = some (.int .i64 a0_1) := cC J 1; have cM : ah.cell? ⟨aa, 2, none⟩ = some (.slice A0_2 l0_2.length c0_2) := cC J 2; have cN : ah.cell? ⟨aa, 3, none⟩ = some (.int .i64 a0_3) := cC J 3; have cO : ah.cell? ⟨aa, 4, none⟩ = some (.int .i64 a0_4) := cC J 4; have cP : ah.cell? ⟨aa, 5, none⟩ = some (.slice A0_5 l0_5.length c0_5) := cC J 5; have cQ : ah.cell? ⟨aa, 6, none⟩ = some (.int .i64 a0_6) := cC J 6; have cR : ah.cell? ⟨aa, 7, none⟩ = some (.int .i64 a0_7) := cC J 7; have cS := blk_frozen J.out 0; have cT := blk_frozen J.out 1; have cU := blk_frozen J.out 2; have cV := blk_frozen J.out 3; have cW := blk_frozen J.out 4; have cX := blk_frozen J.out 5; have cY := blk_frozen J.out 6; have cZ := blk_frozen J.out 7) | ((with_reducible refine gate_callee (f := 18) rfl ?_); refine goesL_ (some 22) rfl rfl Try.func18 (by kernel_rfl) rfl #[.agg #[.int .i64 a0_0, .int .i64 a0_1, .slice A0_2 l0_2.length c0_2, .int .i64 a0_3, .int .i64 a0_4, .slice A0_5 l0_5.length c0_5, .int .i64 a0_6, .int .i64 a0_7], .agg #[.int .i64 ((rd_T42 l1 D).f0.f0), .int .i64 ((rd_T42 l1 D).f0.f1), .int .i64 ((rd_T42 l1 D).f0.f2), .int .i64 ((rd_T42 l1 D).f0.f3), .int .i64 ((rd_T42 l1 D).f0.f4), .int .i64 ((rd_T42 l1 D).f1), .int .i64 ((rd_T42 l1 D).f2), .int .i64 ((rd_T42 l1 D).f3)]] rfl (by (try simp only [mA, mC, mN]); first | done | rfl | (simp only [lD, lT]; rfl)) ?_; (with_reducible refine (impl_Score.calls k1 a0_0 a0_1 _ _ l0_2 a0_3 a0_4 _ _ l0_5 a0_6 a0_7 ((rd_T42 l1 D).f0.f0) ((rd_T42 l1 D).f0.f1) ((rd_T42 l1 D).f0.f2) ((rd_T42 l1 D).f0.f3) ((rd_T42 l1 D).f0.f4) ((rd_T42 l1 D).f1) ((rd_T42 l1 D).f2) ((rd_T42 l1 D).f3) al _ ?side1 ?side2 ?side3 ?side4 bd.out).mono ?_); (case side1 => exact Kd.C_below aX.out (by repeat first | (with_reducible first | exact HB.out | apply bA | apply bN | apply bD | refine bS ?_ ae.out | refine bS ?_ ak.out) | exact HB.out)); (case side2 => exact aY.out); (case side3 => exact Kd.C_below aZ.out (by repeat first | (with_reducible first | exact HB.out | apply bA | apply bN | apply bD | refine bS ?_ ae.out | refine bS ?_ ak.out) | exact HB.out)); (case side4 => exact a9.out); rintro e c_ ⟨rfl, hb⟩; refine ⟨_, rfl, ?_⟩; have ab := Aside0.mk (blk_below (g := aa) (o := .cells #[.int .i64 a0_0, .int .i64 a0_1, .slice A0_2 l0_2.length c0_2, .int .i64 a0_3, .int .i64 a0_4, .slice A0_5 l0_5.length c0_5, .int .i64 a0_6, .int .i64 a0_7] 30 (0, 0)) (by (with_reducible repeat first | refine kN ?_ _ | refine kD ?_ | refine kA ?_ _); exact blk8 J.out aJ) hb); have ac := Aside0.mk (blk_below (g := Y) (o := .cells #[.int .i64 ((rd_T42 l1 D).f0.f0), .int .i64 ((rd_T42 l1 D).f0.f1), .int .i64 ((rd_T42 l1 D).f0.f2), .int .i64 ((rd_T42 l1 D).f0.f3), .int .i64 ((rd_T42 l1 D).f0.f4), .int .i64 ((rd_T42 l1 D).f1), .int .i64 ((rd_T42 l1 D).f2), .int .i64 ((rd_T42 l1 D).f3)] 42 (0, 0)) (by (with_reducible repeat first | refine kN ?_ _ | refine kD ?_ | refine kA ?_ _); apply fill8; (with_reducible repeat first | refine kN ?_ _ | refine kD ?_ | refine kA ?_ _); exact L.out) hb); have af := Aside0.mk (below_step (by repeat first | (with_reducible first | exact HB.out | apply bA | apply bN | apply bD | refine bS ?_ ae.out | refine bS ?_ ak.out) | exact HB.out) hb); clear J; clear L; clear HB; have J := ab; have L := ac; have HB := af; clear ab ac af; (try clear hb); (try clear hb2); (try clear hk); (try clear hi)))
        go_roundg k1
        case measure => have := aQ.out; omega
        case rel => exact ⟨(aE), (aj), (wrap64 (D + 1)), (by first | rfl | (simp; done) | (simp [*]; done)), (by first | rfl | (simp; done) | (simp [*]; done)), (by first | rfl | (simp; done) | (simp [*]; done)), H', ⟨by have := aQ.out; omega⟩, ⟨by (with_reducible repeat first | refine kN ?_ _ | refine kD ?_ | refine kA ?_ _); exact J.out⟩, ⟨by repeat (first | (with_reducible first | exact HB.out | apply bA | apply bN | apply bD | refine bS ?_ ae.out | refine bS ?_ ak.out) | exact HB.out)⟩⟩
      ·rw [if_neg c9] at H
       exact absurd H (by simp)
     ·rw [if_neg c8] at H
      exact absurd H (by simp)
    ·rw [if_neg c7] at H
     have bi : decide (D < (l1.length : Int)) = false := decide_eq_false c7
     clear c7
     obtain rfl := Option.some.inj H
     go_wp2
     go_ret
     exact ⟨by first | rfl | (simp [errW_none, errW_some] <;> rfl) | (simp [*, errW_none, errW_some] <;> rfl), by repeat (first | (with_reducible first | exact HB.out | apply bA | apply bN | apply bD | refine bS ?_ ae.out) | exact HB.out)⟩
 ·replace c4 := Bool.eq_false_iff.mpr c4
  subst c4
  have H1 : (some 0) = some r := by rw [if_neg (show ¬ (false = true) by decide)] at H; exact H
  clear H
  have H := H1
  clear H1
  obtain rfl := Option.some.inj H
  go_enter Try.func22, Try.ntmps22
  go_wp2_with (first | ((with_reducible refine gate_dst (N := 2) rfl ?_); refine box_event ?hg (N := 2) ?hd (cs := #[.int .i64 a0_0, .int .i64 a0_1, .slice A0_2 l0_2.length c0_2, .int .i64 a0_3, .int .i64 a0_4, .slice A0_5 l0_5.length c0_5, .int .i64 a0_6, .int .i64 a0_7]) (t := 30) ?hr ?_; (case hd => rfl); (case hg => rfl); (case hr => first | (go_simp; done) | (go_simp; rfl)); intro aa hg da hbox hb; have ab := Aside0.mk (below_step (qB HB) hb); have ac := Aside0.mk (hbox); have af := Aside0.mk ((by rw [hg]; exact (below_size (qB HB)) : w.heap.size ≤ aa)); have ai := Aside0.mk ((by rw [hg]; exact (below_size (qB HB)) : w.heap.size ≤ aa)); clear HB; have HB := ab; have J := ac; have be := af; have ae := ai; clear ab ac af ai; clear hb hbox hg) | ((with_reducible refine gate_callee (f := 68) rfl ?_); refine goesL_ (some 11) rfl rfl Try.func68 (by kernel_rfl) rfl #[.slice A1 l1.length c1] rfl (by (try simp only [mA, mC, mN]); first | done | rfl | (simp only [lD, lT]; rfl)) ?_; (with_reducible refine (impl_AreFinds.calls k _ _ l1 false _ ?side1 ?side2 A3.out).mono ?_); (case side1 => exact qC (Kd.C_below aK.out HB.out)); (case side2 => exact a_.out); rintro e db ⟨rfl, hb⟩; refine ⟨_, rfl, ?_⟩; have ab := Aside0.mk (blk_below (qK J) hb); have ac := Aside0.mk (below_step (by repeat first | (with_reducible first | exact HB.out | apply bA | apply bN | apply bD | refine bS ?_ ae.out) | exact HB.out) hb); clear J; clear HB; have J := ab; have HB := ac; clear ab ac; (try clear hb); (try clear hb2); (try clear hk); (try clear hi)))
  go_ret
  exact ⟨by first | rfl | (simp [errW_none, errW_some] <;> rfl) | (simp [*, errW_none, errW_some] <;> rfl), by repeat (first | (with_reducible first | exact HB.out | apply bA | apply bN | apply bD | refine bS ?_ ae.out) | exact HB.out)⟩

/-! ### laws_ascends: function 23 -/
def laws_ascends.l0 : Nat → List Int → Int → Option (Bool)
 | 0, _, _ => none
 | k + 1, x0, x3 => if x3 < (x0.length : Int) then (if 0 ≤ (wrap64 (x3 - 1)) then (if (wrap64 (x3 - 1)) < (x0.length : Int) then (if 0 ≤ x3 then (if (rd x0 (wrap64 (x3 - 1))) ≥ (rd x0 x3) then (some false) else (laws_ascends.l0 k x0 (wrap64 (x3 + 1)))) else (none)) else (none)) else (none)) else (some true)
def laws_ascends.f (k : Nat) (l0 : List Int) : Option (Bool) := laws_ascends.l0 k l0 1
theorem laws_ascends.mono_l : ∀ k, (∀ y0 y1, LeO (laws_ascends.l0 k y0 y1) (laws_ascends.l0 (k + 1) y0 y1))
 | 0 => fun _ _ r h => by simp [laws_ascends.l0] at h
 | k + 1 => by
  have ih0 := laws_ascends.mono_l k
  ·intro y0 y1
   unfold laws_ascends.l0
   repeat' first
   | (with_reducible exact ih0 _ _)
   | (with_reducible exact LeO.refl _)
   | (with_reducible exact LeO.none _)
   | (with_reducible refine LeO.ite ?_ ?_)
   | (with_reducible refine LeO.bind ?_ (fun _ => ?_))
   | exact ih0 _ _
   | exact LeO.none _
   | refine LeO.ite ?_ ?_
   | refine LeO.bind ?_ (fun _ => ?_)
theorem laws_ascends.mono : ∀ a0 k, LeO (laws_ascends.f k a0) (laws_ascends.f (k + 1) a0) := by
 intro a0 k
 have ih0 := laws_ascends.mono_l k
 unfold laws_ascends.f
 repeat' first
   | (with_reducible exact ih0 _ _)
   | (with_reducible exact LeO.refl _)
   | (with_reducible exact LeO.none _)
   | (with_reducible refine LeO.ite ?_ ?_)
   | (with_reducible refine LeO.bind ?_ (fun _ => ?_))
   | exact ih0 _ _
   | exact LeO.none _
   | refine LeO.ite ?_ ?_
   | refine LeO.bind ?_ (fun _ => ?_)
set_option maxHeartbeats 8000000 in
set_option maxRecDepth 100000 in
theorem laws_ascends.calls (k : Nat) (A0 : Option Addr) (c0 : Nat) (l0 : List Int) (r : Bool) (w : World) (hr0 : Kd.C (Kd.int .i64) w A0 l0.length l0) (hc0 : l0.length ≤ c0) (h : laws_ascends.f k l0 = some r) :
  Calls Try.prog 23 #[.slice A0 l0.length c0] w fun e w' => e = .returned (.bool r) ∧ Drawn0 w w' := by
 have ae := Aside0.mk hr0
 have aw := Aside0.mk hc0
 clear hr0 hc0
 have H : (laws_ascends.l0 k l0 1) = some r := h
 clear h
 have H' := Aside0.mk H
 clear H
 go_enter Try.func23, Try.ntmps23
 go_wp2
 repeat (go_quiet (fail); try go_wp2)
 go_loopg [3] k (fun kq v3 w' => ∃ (D : Int), v3 = .int .i64 D ∧ Aside0 (laws_ascends.l0 kq l0 D = some r) ∧ Aside0 (kq ≤ k) ∧ Drawn0 w w')
 case atStart => exact ⟨(1), (by first | rfl | (simp; done) | (simp [*]; done)), H', ⟨Nat.le_refl _⟩, by repeat (first | exact Drawn0.refl _ | apply Drawn0.step)⟩
 case round =>
  clear H'
  obtain ⟨D, rfl, HA, ao, ⟨m1, rfl⟩⟩ := hrel
  cases gk with
  | zero => exact absurd HA.out (by simp [laws_ascends.l0])
  | succ k1 =>
   have H := HA.out
   clear HA
   simp only [laws_ascends.l0] at H
   by_cases c2 : D < (l0.length : Int)
   ·rw [if_pos c2] at H
    have aq : decide (D < (l0.length : Int)) = true := decide_eq_true c2
    clear c2
    obtain ⟨ji3, af⟩ : ∃ j_ : Int, (wrap64 (D - 1)) = j_ := ⟨_, rfl⟩
    replace H : (if 0 ≤ (ji3) then (if (ji3) < (l0.length : Int) then (if 0 ≤ D then (if (rd l0 (ji3)) ≥ (rd l0 D) then (some false) else (laws_ascends.l0 k1 l0 (wrap64 (D + 1)))) else (none)) else (none)) else (none)) = some r := by first | (rw [af] at H; exact H) | (simp only [af] at H ⊢; exact H)
    have hji3w : (IntKind.i64.wrap (D - 1)) = ji3 := (i64_w _).trans af
    by_cases c4 : 0 ≤ (ji3)
    ·rw [if_pos c4] at H
     have ax : decide (0 ≤ (ji3)) = true := decide_eq_true c4
     clear c4
     by_cases c5 : (ji3) < (l0.length : Int)
     ·rw [if_pos c5] at H
      have ay : decide ((ji3) < (l0.length : Int)) = true := decide_eq_true c5
      clear c5
      by_cases c6 : 0 ≤ D
      ·rw [if_pos c6] at H
       have az : decide (0 ≤ D) = true := decide_eq_true c6
       clear c6
       by_cases c7 : (rd l0 (ji3)) ≥ (rd l0 D)
       ·rw [if_pos c7] at H
        have ar : decide ((rd l0 D) ≤ (rd l0 (ji3))) = true := decide_eq_true c7
        clear c7
        obtain rfl := Option.some.inj H
        have J : 0 ≤ ((ji3) : Int) := of_decide_eq_true ‹_›
        have L : (ji3) < (l0.length : Int) := of_decide_eq_true ‹_›
        obtain ⟨aj, ak, au⟩ := Kd.at_int ae.out (ji3) J L
        cases ak
        replace J := eq_true J
        replace L := eq_true L
        have Y : 0 ≤ (D : Int) := of_decide_eq_true ‹_›
        have aa : D < (l0.length : Int) := of_decide_eq_true ‹_›
        obtain ⟨al, am, av⟩ := Kd.at_int ae.out D Y aa
        obtain rfl : aj = al := (by injection am)
        replace Y := eq_true Y
        replace aa := eq_true aa
        go_wp2
        repeat (go_quiet (fail); try go_wp2)
        go_ret
        exact ⟨by first | rfl | (simp; done) | (simp only [← af] <;> (first | rfl | simp)) | (simp [*]; done), by repeat (first | exact Drawn0.refl _ | apply Drawn0.step)⟩
       ·rw [if_neg c7] at H
        have ar : decide ((rd l0 D) ≤ (rd l0 (ji3))) = false := decide_eq_false c7
        clear c7
        have H' := Aside0.mk H
        clear H
        have J : 0 ≤ ((ji3) : Int) := of_decide_eq_true ‹_›
        have L : (ji3) < (l0.length : Int) := of_decide_eq_true ‹_›
        obtain ⟨aj, ak, au⟩ := Kd.at_int ae.out (ji3) J L
        cases ak
        replace J := eq_true J
        replace L := eq_true L
        have Y : 0 ≤ (D : Int) := of_decide_eq_true ‹_›
        have aa : D < (l0.length : Int) := of_decide_eq_true ‹_›
        obtain ⟨al, am, av⟩ := Kd.at_int ae.out D Y aa
        obtain rfl : aj = al := (by injection am)
        replace Y := eq_true Y
        replace aa := eq_true aa
        go_wp2
        repeat (go_quiet (fail); try go_wp2)
        go_roundg k1
        case measure => have := ao.out; omega
        case rel => exact ⟨(wrap64 (D + 1)), (by first | rfl | (simp; done) | (simp [*]; done)), H', ⟨by have := ao.out; omega⟩, by repeat (first | exact Drawn0.refl _ | apply Drawn0.step)⟩
      ·rw [if_neg c6] at H
       exact absurd H (by simp)
     ·rw [if_neg c5] at H
      exact absurd H (by simp)
    ·rw [if_neg c4] at H
     exact absurd H (by simp)
   ·rw [if_neg c2] at H
    have aq : decide (D < (l0.length : Int)) = false := decide_eq_false c2
    clear c2
    obtain rfl := Option.some.inj H
    go_wp2
    repeat (go_quiet (fail); try go_wp2)
    go_ret
    exact ⟨by first | rfl | (simp; done) | (simp [*]; done), by repeat (first | exact Drawn0.refl _ | apply Drawn0.step)⟩

/-! ### laws_contains: function 24 -/
def laws_contains.l0 : Nat → List Int → Int → Int → Option (Bool)
 | 0, _, _, _ => none
 | k + 1, x0, x1, x5 => if x5 < (x0.length : Int) then (if 0 ≤ x5 then (if (rd x0 x5) = x1 then (some true) else (laws_contains.l0 k x0 x1 (wrap64 (x5 + 1)))) else (none)) else (some false)
def laws_contains.f (k : Nat) (l0 : List Int) (a1 : Int) : Option (Bool) := laws_contains.l0 k l0 a1 0
theorem laws_contains.mono_l : ∀ k, (∀ y0 y1 y2, LeO (laws_contains.l0 k y0 y1 y2) (laws_contains.l0 (k + 1) y0 y1 y2))
 | 0 => fun _ _ _ r h => by simp [laws_contains.l0] at h
 | k + 1 => by
  have ih0 := laws_contains.mono_l k
  ·intro y0 y1 y2
   unfold laws_contains.l0
   repeat' first
   | (with_reducible exact ih0 _ _ _)
   | (with_reducible exact LeO.refl _)
   | (with_reducible exact LeO.none _)
   | (with_reducible refine LeO.ite ?_ ?_)
   | (with_reducible refine LeO.bind ?_ (fun _ => ?_))
   | exact ih0 _ _ _
   | exact LeO.none _
   | refine LeO.ite ?_ ?_
   | refine LeO.bind ?_ (fun _ => ?_)
theorem laws_contains.mono : ∀ a0 a1 k, LeO (laws_contains.f k a0 a1) (laws_contains.f (k + 1) a0 a1) := by
 intro a0 a1 k
 have ih0 := laws_contains.mono_l k
 unfold laws_contains.f
 repeat' first
   | (with_reducible exact ih0 _ _ _)
   | (with_reducible exact LeO.refl _)
   | (with_reducible exact LeO.none _)
   | (with_reducible refine LeO.ite ?_ ?_)
   | (with_reducible refine LeO.bind ?_ (fun _ => ?_))
   | exact ih0 _ _ _
   | exact LeO.none _
   | refine LeO.ite ?_ ?_
   | refine LeO.bind ?_ (fun _ => ?_)
set_option maxHeartbeats 8000000 in
set_option maxRecDepth 100000 in
theorem laws_contains.calls (k : Nat) (A0 : Option Addr) (c0 : Nat) (l0 : List Int) (a1 : Int) (r : Bool) (w : World) (hr0 : Kd.C (Kd.int .i64) w A0 l0.length l0) (hc0 : l0.length ≤ c0) (h : laws_contains.f k l0 a1 = some r) :
  Calls Try.prog 24 #[.slice A0 l0.length c0, .int .i64 a1] w fun e w' => e = .returned (.bool r) ∧ Drawn0 w w' := by
 have ae := Aside0.mk hr0
 have am := Aside0.mk hc0
 clear hr0 hc0
 have H : (laws_contains.l0 k l0 a1 0) = some r := h
 clear h
 have H' := Aside0.mk H
 clear H
 go_enter Try.func24, Try.ntmps24
 go_wp2
 go_loopg [5] k (fun kq v5 w' => ∃ (D : Int), v5 = .int .i64 D ∧ Aside0 (laws_contains.l0 kq l0 a1 D = some r) ∧ Aside0 (kq ≤ k) ∧ Drawn0 w w')
 case atStart => exact ⟨(0), (by first | rfl | (simp; done) | (simp [*]; done)), H', ⟨Nat.le_refl _⟩, by repeat (first | exact Drawn0.refl _ | apply Drawn0.step)⟩
 case round =>
  clear H'
  try clear c2; try clear p2
  obtain ⟨D, rfl, HA, af, ⟨m1, rfl⟩⟩ := hrel
  cases gk with
  | zero => exact absurd HA.out (by simp [laws_contains.l0])
  | succ k1 =>
   have H := HA.out
   clear HA
   simp only [laws_contains.l0] at H
   by_cases c3 : D < (l0.length : Int)
   ·rw [if_pos c3] at H
    have ah : decide (D < (l0.length : Int)) = true := decide_eq_true c3
    clear c3
    by_cases c4 : 0 ≤ D
    ·rw [if_pos c4] at H
     have ap : decide (0 ≤ D) = true := decide_eq_true c4
     clear c4
     by_cases J : (rd l0 D) = a1
     ·rw [if_pos J] at H
      have ai : ((rd l0 D) == a1) = true := beq_iff_eq.mpr J
      have aj : ((rd l0 D) != a1) = false := bne_eq_false_iff_eq.mpr J
      clear J
      obtain rfl := Option.some.inj H
      have L : 0 ≤ (D : Int) := of_decide_eq_true ‹_›
      have Y : D < (l0.length : Int) := of_decide_eq_true ‹_›
      obtain ⟨ak, ac, al⟩ := Kd.at_int ae.out D L Y
      cases ac
      replace L := eq_true L
      replace Y := eq_true Y
      go_wp2
      go_ret
      exact ⟨by first | rfl | (simp; done) | (simp [*]; done), by repeat (first | exact Drawn0.refl _ | apply Drawn0.step)⟩
     ·rw [if_neg J] at H
      have ai : ((rd l0 D) == a1) = false := beq_eq_false_iff_ne.mpr J
      have aj : ((rd l0 D) != a1) = true := bne_iff_ne.mpr J
      have H' := Aside0.mk H
      clear H
      have L : 0 ≤ (D : Int) := of_decide_eq_true ‹_›
      have Y : D < (l0.length : Int) := of_decide_eq_true ‹_›
      obtain ⟨ak, ac, al⟩ := Kd.at_int ae.out D L Y
      cases ac
      replace L := eq_true L
      replace Y := eq_true Y
      go_wp2
      go_roundg k1
      case measure => have := af.out; omega
      case rel => exact ⟨(wrap64 (D + 1)), (by first | rfl | (simp; done) | (simp [*]; done)), H', ⟨by have := af.out; omega⟩, by repeat (first | exact Drawn0.refl _ | apply Drawn0.step)⟩
    ·rw [if_neg c4] at H
     exact absurd H (by simp)
   ·rw [if_neg c3] at H
    have ah : decide (D < (l0.length : Int)) = false := decide_eq_false c3
    clear c3
    obtain rfl := Option.some.inj H
    go_wp2
    go_ret
    exact ⟨by first | rfl | (simp; done) | (simp [*]; done), by repeat (first | exact Drawn0.refl _ | apply Drawn0.step)⟩

-- NOT PRINTED: function 69 (impl_Find)

/-! ### slices.IndexFunc at S42: function 69 -/
def idxF42 (p : S42 → Bool) : List S42 → Int → Int
 | [], _ => -1
 | x :: r, i => if p x = true then i else idxF42 p r (i + 1)
set_option maxHeartbeats 2000000 in
set_option maxRecDepth 100000 in
theorem idxF42_calls (p : S42 → Bool) (g : Nat) (lb : Array Value) (eg : ∀ args w, (callFunc g args).run Try.prog w = .ok (.enter g args) w) (A0 : Option Addr) (c0 : Nat) (l0 : List S42) (w : World)
  (hr0 : Kd.C k42 w A0 l0.length l0) (hc0 : l0.length ≤ c0)
  (hp : ∀ (W : World) (x : S42), Below w.heap.size w W → Calls Try.prog g (#[.agg #[.int .i64 x.f0.f0, .int .i64 x.f0.f1, .int .i64 x.f0.f2, .int .i64 x.f0.f3, .int .i64 x.f0.f4, .int .i64 x.f1, .int .i64 x.f2, .int .i64 x.f3]] ++ lb) W fun e w' => e = .returned (.bool (p x)) ∧ Below w.heap.size w w') :
  Calls Try.prog 69 #[.slice A0 l0.length c0, .func (.func g) #[] lb] w fun e w' => e = .returned (.int .i64 (idxF42 p l0 0)) ∧ Below w.heap.size w w' := by
 have hu42 := Try.underlying42
 have D := Aside0.mk hr0
 have HP := Aside0.mk hp
 have hlen : l0.length ≤ 9223372036854775807 := hr0.2.1
 clear hr0 hc0 hp
 go_enter Try.func69, Try.ntmps69
 go_wp2
 go_loopg [5, 8] l0.length (fun gg _ J wr => ∃ x : Int, J = .int .i64 x ∧ Aside0 (0 ≤ x ∧ x ≤ (l0.length : Int) ∧ (l0.length : Int) - x ≤ (gg : Int)) ∧ Aside0 (Below w.heap.size w wr) ∧ Aside0 (idxF42 p l0 0 = idxF42 p (l0.drop x.toNat) x))
 case atStart => exact ⟨0, rfl, ⟨by omega⟩, ⟨Below.refl _ w⟩, ⟨rfl⟩⟩
 case round =>
  obtain ⟨x, rfl, HX, HB, HA⟩ := hrel
  by_cases hlt : x < (l0.length : Int)
  ·obtain ⟨ad, e, hx0, hx1, hx2, hx3, hx4, hx5, hx6, hx7⟩ := at_T42 D.out x HX.out.1 hlt
   cases e
   replace hx0 := (HB.out.cell (World.block_lt_of_cell? w _ hx0)).trans hx0
   replace hx1 := (HB.out.cell (World.block_lt_of_cell? w _ hx1)).trans hx1
   replace hx2 := (HB.out.cell (World.block_lt_of_cell? w _ hx2)).trans hx2
   replace hx3 := (HB.out.cell (World.block_lt_of_cell? w _ hx3)).trans hx3
   replace hx4 := (HB.out.cell (World.block_lt_of_cell? w _ hx4)).trans hx4
   replace hx5 := (HB.out.cell (World.block_lt_of_cell? w _ hx5)).trans hx5
   replace hx6 := (HB.out.cell (World.block_lt_of_cell? w _ hx6)).trans hx6
   replace hx7 := (HB.out.cell (World.block_lt_of_cell? w _ hx7)).trans hx7
   have hd : l0.drop x.toNat = rd_T42 l0 x :: l0.drop (x.toNat + 1) := by
    have hlt2 : x.toNat < l0.length := by have := HX.out.1; omega
    rw [show rd_T42 l0 x = l0[x.toNat] by simp [rd_T42, hlt2]]
    exact List.drop_eq_getElem_cons hlt2
   have hcall := HP.out wr (rd_T42 l0 x) HB.out
   have HD := Aside0.mk hd
   have HL := Aside0.mk hlt
   have HW := Aside0.mk (show wrap64 (x + 1) = x + 1 by unfold wrap64; have := HX.out; omega)
   have hb1 : decide (x < (l0.length : Int)) = true := decide_eq_true hlt
   have p0 : 0 ≤ x := HX.out.1
   replace p0 := eq_true p0
   replace hlt := eq_true hlt
   clear hd
   cases hq : p (rd_T42 l0 x) with
   | true =>
    rw [hq] at hcall
    have HQ := Aside0.mk hq
    clear hq
    go_wp2_with (go_at_fn g; refine hcall.mono ?_; rintro e w' ⟨rfl, hb'⟩)
    go_ret
    refine ⟨?_, hb'⟩
    rw [HA.out, HD.out]
    simp only [idxF42]
    rw [if_pos HQ.out]
    rfl
   | false =>
    rw [hq] at hcall
    have HQ := Aside0.mk hq
    clear hq
    go_wp2_with (go_at_fn g; refine hcall.mono ?_; rintro e w' ⟨rfl, hb'⟩)
    go_roundg (l0.length - (x.toNat + 1))
    case measure => have := HX.out; have := HL.out; omega
    case rel =>
     refine ⟨x + 1, ?_, ⟨by have := HX.out; have := HL.out; omega⟩, ⟨hb'⟩, ⟨?_⟩⟩
     ·rw [HW.out]
     ·rw [HA.out, HD.out]
      simp only [idxF42]
      rw [if_neg (by rw [HQ.out]; decide), show (x + 1).toNat = x.toNat + 1 by have := HX.out; omega]
  ·have hb1 : decide (x < (l0.length : Int)) = false := decide_eq_false hlt
   have HL := Aside0.mk hlt
   clear hlt
   go_wp2
   go_ret
   refine ⟨?_, HB.out⟩
   rw [HA.out, List.drop_of_length_le (by have := HX.out; have := HL.out; omega)]
   rfl

/-! ### impl_FindThing: function 25 -/
def impl_FindThing.f (l0 : List (S42)) (a1 : Int) : Option (Int) := some (idxF42 (fun x => x.f0.f0 == a1) l0 0)
theorem impl_FindThing_pred (th : Int) (B : Nat) (w : World) (hB : B < w.heap.size) (hcell : w.cell? ⟨B, 0, none⟩ = some (.int .i64 th)) :
  ∀ (W : World) (x : S42), Below w.heap.size w W → Calls Try.prog 70 (#[.agg #[.int .i64 x.f0.f0, .int .i64 x.f0.f1, .int .i64 x.f0.f2, .int .i64 x.f0.f3, .int .i64 x.f0.f4, .int .i64 x.f1, .int .i64 x.f2, .int .i64 x.f3]] ++ #[.pointer (some ⟨B, 0, none⟩)]) W fun e w' => e = .returned (.bool (x.f0.f0 == th)) ∧ Below w.heap.size w w' := fun W x hb => by
 have hc : W.cell? ⟨B, 0, none⟩ = some (.int .i64 th) := (hb.cell (p := ⟨B, 0, none⟩) hB).trans hcell
 have hBW : B < W.heap.size := Nat.lt_of_lt_of_le hB hb.size
 have hne : B ≠ W.heap.size := by omega
 show Calls Try.prog 70 #[.agg #[.int .i64 x.f0.f0, .int .i64 x.f0.f1, .int .i64 x.f0.f2, .int .i64 x.f0.f3, .int .i64 x.f0.f4, .int .i64 x.f1, .int .i64 x.f2, .int .i64 x.f3], .pointer (some ⟨B, 0, none⟩)] W _
 go_enter Try.func70, Try.ntmps70
 go_wp2
 all_goals (go_ret; exact ⟨by simp_all, hb.alloc hb.size _⟩)
set_option maxHeartbeats 2000000 in
set_option maxRecDepth 100000 in
theorem impl_FindThing.calls (A0 : Option Addr) (c0 : Nat) (l0 : List (S42)) (a1 r : Int) (w : World) (hr0 : Kd.C k42 w A0 l0.length l0) (hc0 : l0.length ≤ c0) (h : impl_FindThing.f l0 a1 = some r) :
  Calls Try.prog 25 #[.slice A0 l0.length c0, .int .i64 a1] w fun e w' => e = .returned (.int .i64 r) ∧ Below w.heap.size w w' := by
 have eg : ∀ args w, (callFunc 70 args).run Try.prog w = .ok (.enter 70 args) w := enters_of Try.func70 (by kernel_rfl) rfl
 have hb1 : Below w.heap.size w (w.alloc (.cells #[.int .i64 a1] 3)) := (Below.refl _ w).alloc (Nat.le_refl _) _
 have hcon := idxF42_calls (fun x => x.f0.f0 == a1) 70 #[.pointer (some ⟨w.heap.size, 0, none⟩)] eg A0 c0 l0 (w.alloc (.cells #[.int .i64 a1] 3)) (Kd.C_below hr0 hb1) hc0 (impl_FindThing_pred a1 w.heap.size _ (by simp) (by simp))
 have HB := Aside0.mk hb1
 clear hr0 hb1
 rw [impl_FindThing.f] at h
 injection h with h
 generalize idxF42 (fun x => x.f0.f0 == a1) l0 0 = rr at hcon h
 subst h
 go_enter Try.func25, Try.ntmps25
 go_wp2_with (go_at_call 69; refine hcon.mono ?_; rintro e w' ⟨rfl, hb'⟩)
 go_ret
 exact ⟨rfl, HB.out.trans (hb'.mono (by simp))⟩

end Go.Proofs.Ytmammjfomgfjhaa.PFnMatches
