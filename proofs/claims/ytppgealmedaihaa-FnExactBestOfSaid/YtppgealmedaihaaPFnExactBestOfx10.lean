-- The printed functions of one law and their contracts, over contracts of this session's own (hand.py).
import Derived.Test.YtppgealmedaihaaFar
import Derived.Test.YtppgealmedaihaaPFnExactBestOfx0
import Derived.Test.YtppgealmedaihaaPFnExactBestOfx8
import Derived.Test.YtppgealmedaihaaPFnExactBestOfx9
namespace Go.Proofs.Ytppgealmedaihaa.PFnExactBestOf
open Go.RowKit Go.Proofs.YtppgealmedaihaaW.PrintWords Go.Proofs.YtppgealmedaihaaW.PrintLast Go.Proofs.YtppgealmedaihaaW.PrintMore Go.Proofs.Ytppgealmedaihaa.Short
attribute [local go_sem] max2_int min2_int max_two min_two max_three min_three max_four min_four   -- for this text's walks alone
set_option linter.unusedVariables false
set_option linter.unusedSimpArgs false

/-! ### impl_BestOf: function 76 -/
def impl_BestOf.l0 : Nat → Int → Int → List (S98) → Int → Int → Int → Int → List Int → Int → Int → List Int → Int → Int → Option (Int)
 | 0, _, _, _, _, _, _, _, _, _, _, _, _, _ => none
 | k + 1, x5, x6, x14, x15, x16, x255000, x255001, x255002, x255003, x255004, x255005, x255006, x255007 => if x16 < x15 then (if 0 ≤ x16 then (if x16 < (x14.length : Int) then ((impl_Score.f k x255000 x255001 x255002 x255003 x255004 x255005 x255006 x255007 ((rd_T98 x14 x16).f0.f0) ((rd_T98 x14 x16).f0.f1) ((rd_T98 x14 x16).f0.f2) ((rd_T98 x14 x16).f0.f3) ((rd_T98 x14 x16).f0.f4) ((rd_T98 x14 x16).f1) ((rd_T98 x14 x16).f2) ((rd_T98 x14 x16).f3)).bind fun t258 => (if t258 > x6 then (impl_BestOf.l0 k ((rd_T98 x14 x16).f0.f0) t258 x14 x15 (wrap64 (x16 + 1)) x255000 x255001 x255002 x255003 x255004 x255005 x255006 x255007) else (impl_BestOf.l0 k x5 x6 x14 x15 (wrap64 (x16 + 1)) x255000 x255001 x255002 x255003 x255004 x255005 x255006 x255007))) else (none)) else (none)) else (some x5)
def impl_BestOf.f (k : Nat) (a0_0 : Int) (a0_1 : Int) (l0_2 : List Int) (a0_3 : Int) (a0_4 : Int) (l0_5 : List Int) (a0_6 : Int) (a0_7 : Int) (l1 : List (S98)) : Option (Int) := (impl_AreFinds.f k l1).bind fun t255 => (if t255 = true then (impl_BestOf.l0 k 0 0 l1 (l1.length : Int) 0 a0_0 a0_1 l0_2 a0_3 a0_4 l0_5 a0_6 a0_7) else (some 0))
theorem impl_BestOf.mono_l : ∀ k, (∀ y0 y1 y2 y3 y4 y5 y6 y7 y8 y9 y10 y11 y12, LeO (impl_BestOf.l0 k y0 y1 y2 y3 y4 y5 y6 y7 y8 y9 y10 y11 y12) (impl_BestOf.l0 (k + 1) y0 y1 y2 y3 y4 y5 y6 y7 y8 y9 y10 y11 y12))
 | 0 => fun _ _ _ _ _ _ _ _ _ _ _ _ _ r h => by simp [impl_BestOf.l0] at h
 | k + 1 => by
  have ih0 := impl_BestOf.mono_l k
  ·intro y0 y1 y2 y3 y4 y5 y6 y7 y8 y9 y10 y11 y12
   unfold impl_BestOf.l0
   repeat' first
   | (with_reducible exact ih0 _ _ _ _ _ _ _ _ _ _ _ _ _)
   | (with_reducible exact impl_AreFinds.mono _ _)
   | (with_reducible exact impl_Score.mono _ _ _ _ _ _ _ _ _ _ _ _ _ _ _ _ _)
   | (with_reducible exact LeO.refl _)
   | (with_reducible exact LeO.none _)
   | (with_reducible refine LeO.ite ?_ ?_)
   | (with_reducible refine LeO.bind ?_ (fun _ => ?_))
   | exact ih0 _ _ _ _ _ _ _ _ _ _ _ _ _
   | exact impl_AreFinds.mono _ _
   | exact impl_Score.mono _ _ _ _ _ _ _ _ _ _ _ _ _ _ _ _ _
   | exact LeO.none _
   | refine LeO.ite ?_ ?_
   | refine LeO.bind ?_ (fun _ => ?_)
theorem impl_BestOf.mono : ∀ a0 a1 a2 a3 a4 a5 a6 a7 a8 k, LeO (impl_BestOf.f k a0 a1 a2 a3 a4 a5 a6 a7 a8) (impl_BestOf.f (k + 1) a0 a1 a2 a3 a4 a5 a6 a7 a8) := by
 intro a0 a1 a2 a3 a4 a5 a6 a7 a8 k
 have ih0 := impl_BestOf.mono_l k
 unfold impl_BestOf.f
 repeat' first
   | (with_reducible exact ih0 _ _ _ _ _ _ _ _ _ _ _ _ _)
   | (with_reducible exact impl_AreFinds.mono _ _)
   | (with_reducible exact impl_Score.mono _ _ _ _ _ _ _ _ _ _ _ _ _ _ _ _ _)
   | (with_reducible exact LeO.refl _)
   | (with_reducible exact LeO.none _)
   | (with_reducible refine LeO.ite ?_ ?_)
   | (with_reducible refine LeO.bind ?_ (fun _ => ?_))
   | exact ih0 _ _ _ _ _ _ _ _ _ _ _ _ _
   | exact impl_AreFinds.mono _ _
   | exact impl_Score.mono _ _ _ _ _ _ _ _ _ _ _ _ _ _ _ _ _
   | exact LeO.none _
   | refine LeO.ite ?_ ?_
   | refine LeO.bind ?_ (fun _ => ?_)
set_option maxHeartbeats 8000000 in
set_option maxRecDepth 100000 in
theorem impl_BestOf.calls (k : Nat) (a0_0 : Int) (a0_1 : Int) (A0_2 : Option Addr) (c0_2 : Nat) (l0_2 : List Int) (a0_3 : Int) (a0_4 : Int) (A0_5 : Option Addr) (c0_5 : Nat) (l0_5 : List Int) (a0_6 : Int) (a0_7 : Int) (A1 : Option Addr) (c1 : Nat) (l1 : List (S98)) (r : Int) (w : World) (hr0_2 : Kd.C (Kd.int .i64) w A0_2 l0_2.length l0_2) (hc0_2 : l0_2.length ≤ c0_2) (hr0_5 : Kd.C (Kd.int .i64) w A0_5 l0_5.length l0_5) (hc0_5 : l0_5.length ≤ c0_5) (hr1 : Kd.C k98 w A1 l1.length l1) (hc1 : l1.length ≤ c1) (h : impl_BestOf.f k a0_0 a0_1 l0_2 a0_3 a0_4 l0_5 a0_6 a0_7 l1 = some r) :
  Calls Try.prog 76 #[.agg #[.int .i64 a0_0, .int .i64 a0_1, .slice A0_2 l0_2.length c0_2, .int .i64 a0_3, .int .i64 a0_4, .slice A0_5 l0_5.length c0_5, .int .i64 a0_6, .int .i64 a0_7], .slice A1 l1.length c1] w fun e w' => e = .returned (.int .i64 r) ∧ Below w.heap.size w w' := by
 have hu44 := Try.underlying44
 have hu98 := Try.underlying98
 have HR0_2 := Aside0.mk hr0_2
 have HC0_2 := Aside0.mk hc0_2
 clear hr0_2 hc0_2
 have HR0_5 := Aside0.mk hr0_5
 have HC0_5 := Aside0.mk hc0_5
 clear hr0_5 hc0_5
 have HR1 := Aside0.mk hr1
 have HC1 := Aside0.mk hc1
 clear hr1 hc1
 have HB := Aside0.mk (Below.refl w.heap.size w)
 have H : ((impl_AreFinds.f k l1).bind fun t255 => (if t255 = true then (impl_BestOf.l0 k 0 0 l1 (l1.length : Int) 0 a0_0 a0_1 l0_2 a0_3 a0_4 l0_5 a0_6 a0_7) else (some 0))) = some r := h
 clear h
 replace H := Option.bind_eq_some_iff.mp H
 obtain ⟨t255, A30, H⟩ := H
 replace H : (if t255 = true then (impl_BestOf.l0 k 0 0 l1 (l1.length : Int) 0 a0_0 a0_1 l0_2 a0_3 a0_4 l0_5 a0_6 a0_7) else (some 0)) = some r := H
 have A3 := Aside0.mk A30
 clear A30
 by_cases c4 : t255 = true
 ·subst c4
  have H1 : (impl_BestOf.l0 k 0 0 l1 (l1.length : Int) 0 a0_0 a0_1 l0_2 a0_3 a0_4 l0_5 a0_6 a0_7) = some r := by rw [if_pos rfl] at H; exact H
  clear H
  have H := H1
  clear H1
  have H' := Aside0.mk H
  clear H
  go_enter Try.func76, Try.ntmps76
  go_wp2_with (first | ((with_reducible refine gate_dst (N := 2) rfl ?_); refine box_event ?hg (N := 2) ?hd (cs := #[.int .i64 a0_0, .int .i64 a0_1, .slice A0_2 l0_2.length c0_2, .int .i64 a0_3, .int .i64 a0_4, .slice A0_5 l0_5.length c0_5, .int .i64 a0_6, .int .i64 a0_7]) (t := 44) ?hr ?_; (case hd => rfl); (case hg => rfl); (case hr => first | (go_simp; done) | (go_simp; rfl)); intro gb254 hg w5 hbox hb; have n0_ := Aside0.mk (below_step (qB HB) hb); have n1_ := Aside0.mk (hbox); have n2_ := Aside0.mk ((by rw [hg]; exact (below_size (qB HB)) : w.heap.size ≤ gb254)); have n3_ := Aside0.mk ((by rw [hg]; exact (below_size (qB HB)) : w.heap.size ≤ gb254)); clear HB; have HB := n0_; have BK254 := n1_; have GW254 := n2_; have GE254 := n3_; clear n0_ n1_ n2_ n3_; clear hb hbox hg) | ((with_reducible refine gate_callee (f := 144) rfl ?_); refine goesL_ (some 11) rfl rfl Try.func144 (by kernel_rfl) rfl #[.slice A1 l1.length c1] rfl (by (try simp only [mA, mC, mN]); first | done | rfl | (simp only [lD, lT]; rfl)) ?_; (with_reducible refine (impl_AreFinds.calls k _ _ l1 true _ ?side1 ?side2 A3.out).mono ?_); (case side1 => exact qC (Kd.C_below HR1.out HB.out)); (case side2 => exact HC1.out); rintro e w6 ⟨rfl, hb⟩; refine ⟨_, rfl, ?_⟩; have n0_ := Aside0.mk (blk_below (qK BK254) hb); have n1_ := Aside0.mk (below_step (by repeat first | (with_reducible first | exact HB.out | apply bA | apply bN | apply bD | refine bS ?_ GE254.out) | exact HB.out) hb); clear BK254; clear HB; have BK254 := n0_; have HB := n1_; clear n0_ n1_; (try clear hb); (try clear hb2); (try clear hk); (try clear hi)))
  go_loopg [5, 6, 16] k (fun kq v5 v6 v16 w' => ∃ (x5_1 : Int) (x6_1 : Int) (x16_1 : Int), v5 = .int .i64 x5_1 ∧ v6 = .int .i64 x6_1 ∧ v16 = .int .i64 x16_1 ∧ Aside0 (impl_BestOf.l0 kq x5_1 x6_1 l1 (l1.length : Int) x16_1 a0_0 a0_1 l0_2 a0_3 a0_4 l0_5 a0_6 a0_7 = some r) ∧ Aside0 (kq ≤ k) ∧ Aside0 (w'.heap[gb254]? = some (.cells #[.int .i64 a0_0, .int .i64 a0_1, (.slice A0_2 l0_2.length c0_2), .int .i64 a0_3, .int .i64 a0_4, (.slice A0_5 l0_5.length c0_5), .int .i64 a0_6, .int .i64 a0_7] 44 (0, 0))) ∧ Aside0 (Below w.heap.size w w'))
  case atStart => exact ⟨(0), (0), (0), (by first | rfl | (simp; done) | (simp [*]; done)), (by first | rfl | (simp; done) | (simp [*]; done)), (by first | rfl | (simp; done) | (simp [*]; done)), H', ⟨Nat.le_refl _⟩, ⟨by (with_reducible repeat first | refine kN ?_ _ | refine kD ?_ | refine kA ?_ _); exact BK254.out⟩, ⟨by repeat (first | (with_reducible first | exact HB.out | apply bA | apply bN | apply bD | refine bS ?_ GE254.out) | exact HB.out)⟩⟩
  case round =>
   clear H'
   try clear c1
   try clear p2
   try clear c4
   obtain ⟨x5_1, x6_1, x16_1, rfl, rfl, rfl, HA, HK1, BK254, HB⟩ := hrel
   cases gk with
   | zero => exact absurd HA.out (by simp [impl_BestOf.l0])
   | succ k1 =>
    have H := HA.out
    clear HA
    simp only [impl_BestOf.l0] at H
    by_cases c7 : x16_1 < (l1.length : Int)
    ·rw [if_pos c7] at H
     have c7b0 : decide (x16_1 < (l1.length : Int)) = true := decide_eq_true c7
     clear c7
     by_cases c8 : 0 ≤ x16_1
     ·rw [if_pos c8] at H
      have c8b0 : decide (0 ≤ x16_1) = true := decide_eq_true c8
      clear c8
      by_cases c9 : x16_1 < (l1.length : Int)
      ·rw [if_pos c9] at H
       have c9b0 : decide (x16_1 < (l1.length : Int)) = true := decide_eq_true c9
       clear c9
       replace H := Option.bind_eq_some_iff.mp H
       obtain ⟨t258, A100, H⟩ := H
       replace H : (if t258 > x6_1 then (impl_BestOf.l0 k1 ((rd_T98 l1 x16_1).f0.f0) t258 l1 (l1.length : Int) (wrap64 (x16_1 + 1)) a0_0 a0_1 l0_2 a0_3 a0_4 l0_5 a0_6 a0_7) else (impl_BestOf.l0 k1 x5_1 x6_1 l1 (l1.length : Int) (wrap64 (x16_1 + 1)) a0_0 a0_1 l0_2 a0_3 a0_4 l0_5 a0_6 a0_7)) = some r := H
       have A10 := Aside0.mk A100
       clear A100
       by_cases c11 : t258 > x6_1
       ·rw [if_pos c11] at H
        have c11b0 : decide (x6_1 < t258) = true := decide_eq_true c11
        clear c11
        have H' := Aside0.mk H
        clear H
        have p256 : 0 ≤ (x16_1 : Int) := of_decide_eq_true ‹_›
        have q256 : x16_1 < (l1.length : Int) := of_decide_eq_true ‹_›
        obtain ⟨ad256, e256, hx256_0, hx256_1, hx256_2, hx256_3, hx256_4, hx256_5, hx256_6, hx256_7⟩ := at_T98 HR1.out x16_1 p256 q256
        cases e256
        replace hx256_0 := (HB.out.cell (World.block_lt_of_cell? w _ hx256_0)).trans hx256_0
        replace hx256_1 := (HB.out.cell (World.block_lt_of_cell? w _ hx256_1)).trans hx256_1
        replace hx256_2 := (HB.out.cell (World.block_lt_of_cell? w _ hx256_2)).trans hx256_2
        replace hx256_3 := (HB.out.cell (World.block_lt_of_cell? w _ hx256_3)).trans hx256_3
        replace hx256_4 := (HB.out.cell (World.block_lt_of_cell? w _ hx256_4)).trans hx256_4
        replace hx256_5 := (HB.out.cell (World.block_lt_of_cell? w _ hx256_5)).trans hx256_5
        replace hx256_6 := (HB.out.cell (World.block_lt_of_cell? w _ hx256_6)).trans hx256_6
        replace hx256_7 := (HB.out.cell (World.block_lt_of_cell? w _ hx256_7)).trans hx256_7
        replace p256 := eq_true p256
        replace q256 := eq_true q256
        go_wp2_with (first | ((with_reducible refine gate_dst (N := 8) rfl ?_); refine box_event ?hg (N := 8) ?hd (cs := #[.int .i64 0, .int .i64 0, .int .i64 0, .int .i64 0, .int .i64 0, .int .i64 0, .int .i64 0, .int .i64 0]) (t := 98) ?hr ?_; (case hd => rfl); (case hg => rfl); (case hr => first | (go_simp; done) | (go_simp; rfl)); intro gb257 hg w12 hbox hb; have n0_ := Aside0.mk (blk_below (qK BK254) hb); have n1_ := Aside0.mk (below_step (by repeat first | (with_reducible first | exact HB.out | apply bA | apply bN | apply bD | refine bS ?_ GE254.out) | exact HB.out) hb); have n2_ := Aside0.mk (hbox); have n3_ := Aside0.mk ((by rw [hg]; exact (below_size (by repeat first | (with_reducible first | exact HB.out | apply bA | apply bN | apply bD | refine bS ?_ GE254.out) | exact HB.out)) : w.heap.size ≤ gb257)); have n4_ := Aside0.mk ((by rw [hg]; exact (below_size (by repeat first | (with_reducible first | exact HB.out | apply bA | apply bN | apply bD | refine bS ?_ GE254.out) | exact HB.out)) : w.heap.size ≤ gb257)); have n5_ := Aside0.mk ((by rw [hg]; exact Nat.ne_of_lt (blk_lt (qK BK254)) : gb254 ≠ gb257)); have n6_ := Aside0.mk ((by rw [hg]; exact Nat.ne_of_gt (blk_lt (qK BK254)) : gb257 ≠ gb254)); clear BK254; clear HB; have BK254 := n0_; have HB := n1_; have BK257 := n2_; have GW257 := n3_; have GE257 := n4_; have NB254_257 := n5_; have NB257_254 := n6_; clear n0_ n1_ n2_ n3_ n4_ n5_ n6_; clear hb hbox hg; have hnb13 := NB257_254.out; have hnc13 := NB254_257.out; have hcz14_0 : w12.cell? ⟨gb257, 0, none⟩ = some (.int .i64 0) := cC BK257 0; have hcz14_1 : w12.cell? ⟨gb257, 1, none⟩ = some (.int .i64 0) := cC BK257 1; have hcz14_2 : w12.cell? ⟨gb257, 2, none⟩ = some (.int .i64 0) := cC BK257 2; have hcz14_3 : w12.cell? ⟨gb257, 3, none⟩ = some (.int .i64 0) := cC BK257 3; have hcz14_4 : w12.cell? ⟨gb257, 4, none⟩ = some (.int .i64 0) := cC BK257 4; have hcz14_5 : w12.cell? ⟨gb257, 5, none⟩ = some (.int .i64 0) := cC BK257 5; have hcz14_6 : w12.cell? ⟨gb257, 6, none⟩ = some (.int .i64 0) := cC BK257 6; have hcz14_7 : w12.cell? ⟨gb257, 7, none⟩ = some (.int .i64 0) := cC BK257 7; have hfz14_0 := blk_frozen BK257.out 0; have hfz14_1 := blk_frozen BK257.out 1; have hfz14_2 := blk_frozen BK257.out 2; have hfz14_3 := blk_frozen BK257.out 3; have hfz14_4 := blk_frozen BK257.out 4; have hfz14_5 := blk_frozen BK257.out 5; have hfz14_6 := blk_frozen BK257.out 6; have hfz14_7 := blk_frozen BK257.out 7; have hcz15_0 : w12.cell? ⟨gb254, 0, none⟩ = some (.int .i64 a0_0) := cC BK254 0; have hcz15_1 : w12.cell? ⟨gb254, 1, none⟩ = some (.int .i64 a0_1) := cC BK254 1; have hcz15_2 : w12.cell? ⟨gb254, 2, none⟩ = some (.slice A0_2 l0_2.length c0_2) := cC BK254 2; have hcz15_3 : w12.cell? ⟨gb254, 3, none⟩ = some (.int .i64 a0_3) := cC BK254 3; have hcz15_4 : w12.cell? ⟨gb254, 4, none⟩ = some (.int .i64 a0_4) := cC BK254 4; have hcz15_5 : w12.cell? ⟨gb254, 5, none⟩ = some (.slice A0_5 l0_5.length c0_5) := cC BK254 5; have hcz15_6 : w12.cell? ⟨gb254, 6, none⟩ = some (.int .i64 a0_6) := cC BK254 6; have hcz15_7 : w12.cell? ⟨gb254, 7, none⟩ = some (.int .i64 a0_7) := cC BK254 7; have hfz15_0 := blk_frozen BK254.out 0; have hfz15_1 := blk_frozen BK254.out 1; have hfz15_2 := blk_frozen BK254.out 2; have hfz15_3 := blk_frozen BK254.out 3; have hfz15_4 := blk_frozen BK254.out 4; have hfz15_5 := blk_frozen BK254.out 5; have hfz15_6 := blk_frozen BK254.out 6; have hfz15_7 := blk_frozen BK254.out 7) | ((with_reducible refine gate_callee (f := 93) rfl ?_); refine goesL_ (some 22) rfl rfl Try.func93 (by kernel_rfl) rfl #[.agg #[.int .i64 a0_0, .int .i64 a0_1, .slice A0_2 l0_2.length c0_2, .int .i64 a0_3, .int .i64 a0_4, .slice A0_5 l0_5.length c0_5, .int .i64 a0_6, .int .i64 a0_7], .agg #[.int .i64 ((rd_T98 l1 x16_1).f0.f0), .int .i64 ((rd_T98 l1 x16_1).f0.f1), .int .i64 ((rd_T98 l1 x16_1).f0.f2), .int .i64 ((rd_T98 l1 x16_1).f0.f3), .int .i64 ((rd_T98 l1 x16_1).f0.f4), .int .i64 ((rd_T98 l1 x16_1).f1), .int .i64 ((rd_T98 l1 x16_1).f2), .int .i64 ((rd_T98 l1 x16_1).f3)]] rfl (by (try simp only [mA, mC, mN]); first | done | rfl | (simp only [lD, lT]; rfl)) ?_; (with_reducible refine (impl_Score.calls k1 a0_0 a0_1 _ _ l0_2 a0_3 a0_4 _ _ l0_5 a0_6 a0_7 ((rd_T98 l1 x16_1).f0.f0) ((rd_T98 l1 x16_1).f0.f1) ((rd_T98 l1 x16_1).f0.f2) ((rd_T98 l1 x16_1).f0.f3) ((rd_T98 l1 x16_1).f0.f4) ((rd_T98 l1 x16_1).f1) ((rd_T98 l1 x16_1).f2) ((rd_T98 l1 x16_1).f3) t258 _ ?side1 ?side2 ?side3 ?side4 A10.out).mono ?_); (case side1 => exact Kd.C_below HR0_2.out (by repeat first | (with_reducible first | exact HB.out | apply bA | apply bN | apply bD | refine bS ?_ GE254.out | refine bS ?_ GE257.out) | exact HB.out)); (case side2 => exact HC0_2.out); (case side3 => exact Kd.C_below HR0_5.out (by repeat first | (with_reducible first | exact HB.out | apply bA | apply bN | apply bD | refine bS ?_ GE254.out | refine bS ?_ GE257.out) | exact HB.out)); (case side4 => exact HC0_5.out); rintro e w16 ⟨rfl, hb⟩; refine ⟨_, rfl, ?_⟩; have n0_ := Aside0.mk (blk_below (g := gb254) (o := .cells #[.int .i64 a0_0, .int .i64 a0_1, .slice A0_2 l0_2.length c0_2, .int .i64 a0_3, .int .i64 a0_4, .slice A0_5 l0_5.length c0_5, .int .i64 a0_6, .int .i64 a0_7] 44 (0, 0)) (by (with_reducible repeat first | refine kN ?_ _ | refine kD ?_ | refine kA ?_ _); exact blk8 BK254.out NB254_257) hb); have n1_ := Aside0.mk (blk_below (g := gb257) (o := .cells #[.int .i64 ((rd_T98 l1 x16_1).f0.f0), .int .i64 ((rd_T98 l1 x16_1).f0.f1), .int .i64 ((rd_T98 l1 x16_1).f0.f2), .int .i64 ((rd_T98 l1 x16_1).f0.f3), .int .i64 ((rd_T98 l1 x16_1).f0.f4), .int .i64 ((rd_T98 l1 x16_1).f1), .int .i64 ((rd_T98 l1 x16_1).f2), .int .i64 ((rd_T98 l1 x16_1).f3)] 98 (0, 0)) (by (with_reducible repeat first | refine kN ?_ _ | refine kD ?_ | refine kA ?_ _); refine blk_put (cs := #[.int .i64 ((rd_T98 l1 x16_1).f0.f0), .int .i64 ((rd_T98 l1 x16_1).f0.f1), .int .i64 ((rd_T98 l1 x16_1).f0.f2), .int .i64 ((rd_T98 l1 x16_1).f0.f3), .int .i64 ((rd_T98 l1 x16_1).f0.f4), .int .i64 ((rd_T98 l1 x16_1).f1), .int .i64 ((rd_T98 l1 x16_1).f2), .int .i64 0]) ?_ 7 _ rfl; (with_reducible repeat first | refine kN ?_ _ | refine kD ?_ | refine kA ?_ _); refine blk_put (cs := #[.int .i64 ((rd_T98 l1 x16_1).f0.f0), .int .i64 ((rd_T98 l1 x16_1).f0.f1), .int .i64 ((rd_T98 l1 x16_1).f0.f2), .int .i64 ((rd_T98 l1 x16_1).f0.f3), .int .i64 ((rd_T98 l1 x16_1).f0.f4), .int .i64 ((rd_T98 l1 x16_1).f1), .int .i64 0, .int .i64 0]) ?_ 6 _ rfl; (with_reducible repeat first | refine kN ?_ _ | refine kD ?_ | refine kA ?_ _); refine blk_put (cs := #[.int .i64 ((rd_T98 l1 x16_1).f0.f0), .int .i64 ((rd_T98 l1 x16_1).f0.f1), .int .i64 ((rd_T98 l1 x16_1).f0.f2), .int .i64 ((rd_T98 l1 x16_1).f0.f3), .int .i64 ((rd_T98 l1 x16_1).f0.f4), .int .i64 0, .int .i64 0, .int .i64 0]) ?_ 5 _ rfl; (with_reducible repeat first | refine kN ?_ _ | refine kD ?_ | refine kA ?_ _); refine blk_put (cs := #[.int .i64 ((rd_T98 l1 x16_1).f0.f0), .int .i64 ((rd_T98 l1 x16_1).f0.f1), .int .i64 ((rd_T98 l1 x16_1).f0.f2), .int .i64 ((rd_T98 l1 x16_1).f0.f3), .int .i64 0, .int .i64 0, .int .i64 0, .int .i64 0]) ?_ 4 _ rfl; (with_reducible repeat first | refine kN ?_ _ | refine kD ?_ | refine kA ?_ _); refine blk_put (cs := #[.int .i64 ((rd_T98 l1 x16_1).f0.f0), .int .i64 ((rd_T98 l1 x16_1).f0.f1), .int .i64 ((rd_T98 l1 x16_1).f0.f2), .int .i64 0, .int .i64 0, .int .i64 0, .int .i64 0, .int .i64 0]) ?_ 3 _ rfl; (with_reducible repeat first | refine kN ?_ _ | refine kD ?_ | refine kA ?_ _); refine blk_put (cs := #[.int .i64 ((rd_T98 l1 x16_1).f0.f0), .int .i64 ((rd_T98 l1 x16_1).f0.f1), .int .i64 0, .int .i64 0, .int .i64 0, .int .i64 0, .int .i64 0, .int .i64 0]) ?_ 2 _ rfl; (with_reducible repeat first | refine kN ?_ _ | refine kD ?_ | refine kA ?_ _); refine blk_put (cs := #[.int .i64 ((rd_T98 l1 x16_1).f0.f0), .int .i64 0, .int .i64 0, .int .i64 0, .int .i64 0, .int .i64 0, .int .i64 0, .int .i64 0]) ?_ 1 _ rfl; (with_reducible repeat first | refine kN ?_ _ | refine kD ?_ | refine kA ?_ _); refine blk_put (cs := #[.int .i64 0, .int .i64 0, .int .i64 0, .int .i64 0, .int .i64 0, .int .i64 0, .int .i64 0, .int .i64 0]) ?_ 0 _ rfl; (with_reducible repeat first | refine kN ?_ _ | refine kD ?_ | refine kA ?_ _); exact BK257.out) hb); have n2_ := Aside0.mk (below_step (by repeat first | (with_reducible first | exact HB.out | apply bA | apply bN | apply bD | refine bS ?_ GE254.out | refine bS ?_ GE257.out) | exact HB.out) hb); clear BK254; clear BK257; clear HB; have BK254 := n0_; have BK257 := n1_; have HB := n2_; clear n0_ n1_ n2_; (try clear hb); (try clear hb2); (try clear hk); (try clear hi); have hcz17_0 : w16.cell? ⟨gb257, 0, none⟩ = some (.int .i64 ((rd_T98 l1 x16_1).f0.f0)) := cC BK257 0; have hcz17_1 : w16.cell? ⟨gb257, 1, none⟩ = some (.int .i64 ((rd_T98 l1 x16_1).f0.f1)) := cC BK257 1; have hcz17_2 : w16.cell? ⟨gb257, 2, none⟩ = some (.int .i64 ((rd_T98 l1 x16_1).f0.f2)) := cC BK257 2; have hcz17_3 : w16.cell? ⟨gb257, 3, none⟩ = some (.int .i64 ((rd_T98 l1 x16_1).f0.f3)) := cC BK257 3; have hcz17_4 : w16.cell? ⟨gb257, 4, none⟩ = some (.int .i64 ((rd_T98 l1 x16_1).f0.f4)) := cC BK257 4; have hcz17_5 : w16.cell? ⟨gb257, 5, none⟩ = some (.int .i64 ((rd_T98 l1 x16_1).f1)) := cC BK257 5; have hcz17_6 : w16.cell? ⟨gb257, 6, none⟩ = some (.int .i64 ((rd_T98 l1 x16_1).f2)) := cC BK257 6; have hcz17_7 : w16.cell? ⟨gb257, 7, none⟩ = some (.int .i64 ((rd_T98 l1 x16_1).f3)) := cC BK257 7; have hfz17_0 := blk_frozen BK257.out 0; have hfz17_1 := blk_frozen BK257.out 1; have hfz17_2 := blk_frozen BK257.out 2; have hfz17_3 := blk_frozen BK257.out 3; have hfz17_4 := blk_frozen BK257.out 4; have hfz17_5 := blk_frozen BK257.out 5; have hfz17_6 := blk_frozen BK257.out 6; have hfz17_7 := blk_frozen BK257.out 7))
        go_roundg k1
        case measure => have := HK1.out; omega
        case rel => exact ⟨((rd_T98 l1 x16_1).f0.f0), (t258), (wrap64 (x16_1 + 1)), (by first | rfl | (simp; done) | (simp [*]; done)), (by first | rfl | (simp; done) | (simp [*]; done)), (by first | rfl | (simp; done) | (simp [*]; done)), H', ⟨by have := HK1.out; omega⟩, ⟨by (with_reducible repeat first | refine kN ?_ _ | refine kD ?_ | refine kA ?_ _); exact BK254.out⟩, ⟨by repeat (first | (with_reducible first | exact HB.out | apply bA | apply bN | apply bD | refine bS ?_ GE254.out | refine bS ?_ GE257.out) | exact HB.out)⟩⟩
       ·rw [if_neg c11] at H
        have c11b0 : decide (x6_1 < t258) = false := decide_eq_false c11
        clear c11
        have H' := Aside0.mk H
        clear H
        have p256 : 0 ≤ (x16_1 : Int) := of_decide_eq_true ‹_›
        have q256 : x16_1 < (l1.length : Int) := of_decide_eq_true ‹_›
        obtain ⟨ad256, e256, hx256_0, hx256_1, hx256_2, hx256_3, hx256_4, hx256_5, hx256_6, hx256_7⟩ := at_T98 HR1.out x16_1 p256 q256
        cases e256
        replace hx256_0 := (HB.out.cell (World.block_lt_of_cell? w _ hx256_0)).trans hx256_0
        replace hx256_1 := (HB.out.cell (World.block_lt_of_cell? w _ hx256_1)).trans hx256_1
        replace hx256_2 := (HB.out.cell (World.block_lt_of_cell? w _ hx256_2)).trans hx256_2
        replace hx256_3 := (HB.out.cell (World.block_lt_of_cell? w _ hx256_3)).trans hx256_3
        replace hx256_4 := (HB.out.cell (World.block_lt_of_cell? w _ hx256_4)).trans hx256_4
        replace hx256_5 := (HB.out.cell (World.block_lt_of_cell? w _ hx256_5)).trans hx256_5
        replace hx256_6 := (HB.out.cell (World.block_lt_of_cell? w _ hx256_6)).trans hx256_6
        replace hx256_7 := (HB.out.cell (World.block_lt_of_cell? w _ hx256_7)).trans hx256_7
        replace p256 := eq_true p256
        replace q256 := eq_true q256
        go_wp2_with (first | ((with_reducible refine gate_dst (N := 8) rfl ?_); refine box_event ?hg (N := 8) ?hd (cs := #[.int .i64 0, .int .i64 0, .int .i64 0, .int .i64 0, .int .i64 0, .int .i64 0, .int .i64 0, .int .i64 0]) (t := 98) ?hr ?_; (case hd => rfl); (case hg => rfl); (case hr => first | (go_simp; done) | (go_simp; rfl)); intro gb257 hg w18 hbox hb; have n0_ := Aside0.mk (blk_below (qK BK254) hb); have n1_ := Aside0.mk (below_step (by repeat first | (with_reducible first | exact HB.out | apply bA | apply bN | apply bD | refine bS ?_ GE254.out) | exact HB.out) hb); have n2_ := Aside0.mk (hbox); have n3_ := Aside0.mk ((by rw [hg]; exact (below_size (by repeat first | (with_reducible first | exact HB.out | apply bA | apply bN | apply bD | refine bS ?_ GE254.out) | exact HB.out)) : w.heap.size ≤ gb257)); have n4_ := Aside0.mk ((by rw [hg]; exact (below_size (by repeat first | (with_reducible first | exact HB.out | apply bA | apply bN | apply bD | refine bS ?_ GE254.out) | exact HB.out)) : w.heap.size ≤ gb257)); have n5_ := Aside0.mk ((by rw [hg]; exact Nat.ne_of_lt (blk_lt (qK BK254)) : gb254 ≠ gb257)); have n6_ := Aside0.mk ((by rw [hg]; exact Nat.ne_of_gt (blk_lt (qK BK254)) : gb257 ≠ gb254)); clear BK254; clear HB; have BK254 := n0_; have HB := n1_; have BK257 := n2_; have GW257 := n3_; have GE257 := n4_; have NB254_257 := n5_; have NB257_254 := n6_; clear n0_ n1_ n2_ n3_ n4_ n5_ n6_; clear hb hbox hg; have hnb19 := NB257_254.out; have hnc19 := NB254_257.out; have hcz20_0 : w18.cell? ⟨gb257, 0, none⟩ = some (.int .i64 0) := cC BK257 0; have hcz20_1 : w18.cell? ⟨gb257, 1, none⟩ = some (.int .i64 0) := cC BK257 1; have hcz20_2 : w18.cell? ⟨gb257, 2, none⟩ = some (.int .i64 0) := cC BK257 2; have hcz20_3 : w18.cell? ⟨gb257, 3, none⟩ = some (.int .i64 0) := cC BK257 3; have hcz20_4 : w18.cell? ⟨gb257, 4, none⟩ = some (.int .i64 0) := cC BK257 4; have hcz20_5 : w18.cell? ⟨gb257, 5, none⟩ = some (.int .i64 0) := cC BK257 5; have hcz20_6 : w18.cell? ⟨gb257, 6, none⟩ = some (.int .i64 0) := cC BK257 6; have hcz20_7 : w18.cell? ⟨gb257, 7, none⟩ = some (.int .i64 0) := cC BK257 7; have hfz20_0 := blk_frozen BK257.out 0; have hfz20_1 := blk_frozen BK257.out 1; have hfz20_2 := blk_frozen BK257.out 2; have hfz20_3 := blk_frozen BK257.out 3; have hfz20_4 := blk_frozen BK257.out 4; have hfz20_5 := blk_frozen BK257.out 5; have hfz20_6 := blk_frozen BK257.out 6; have hfz20_7 := blk_frozen BK257.out 7; have hcz21_0 : w18.cell? ⟨gb254, 0, none⟩ = some (.int .i64 a0_0) := cC BK254 0; have hcz21_1 : w18.cell? ⟨gb254, 1, none⟩ = some (.int .i64 a0_1) := cC BK254 1; have hcz21_2 : w18.cell? ⟨gb254, 2, none⟩ = some (.slice A0_2 l0_2.length c0_2) := cC BK254 2; have hcz21_3 : w18.cell? ⟨gb254, 3, none⟩ = some (.int .i64 a0_3) := cC BK254 3; have hcz21_4 : w18.cell? ⟨gb254, 4, none⟩ = some (.int .i64 a0_4) := cC BK254 4; have hcz21_5 : w18.cell? ⟨gb254, 5, none⟩ = some (.slice A0_5 l0_5.length c0_5) := cC BK254 5; have hcz21_6 : w18.cell? ⟨gb254, 6, none⟩ = some (.int .i64 a0_6) := cC BK254 6; have hcz21_7 : w18.cell? ⟨gb254, 7, none⟩ = some (.int .i64 a0_7) := cC BK254 7; have hfz21_0 := blk_frozen BK254.out 0; have hfz21_1 := blk_frozen BK254.out 1; have hfz21_2 := blk_frozen BK254.out 2; have hfz21_3 := blk_frozen BK254.out 3; have hfz21_4 := blk_frozen BK254.out 4; have hfz21_5 := blk_frozen BK254.out 5; have hfz21_6 := blk_frozen BK254.out 6; have hfz21_7 := blk_frozen BK254.out 7) | ((with_reducible refine gate_callee (f := 93) rfl ?_); refine goesL_ (some 22) rfl rfl Try.func93 (by kernel_rfl) rfl #[.agg #[.int .i64 a0_0, .int .i64 a0_1, .slice A0_2 l0_2.length c0_2, .int .i64 a0_3, .int .i64 a0_4, .slice A0_5 l0_5.length c0_5, .int .i64 a0_6, .int .i64 a0_7], .agg #[.int .i64 ((rd_T98 l1 x16_1).f0.f0), .int .i64 ((rd_T98 l1 x16_1).f0.f1), .int .i64 ((rd_T98 l1 x16_1).f0.f2), .int .i64 ((rd_T98 l1 x16_1).f0.f3), .int .i64 ((rd_T98 l1 x16_1).f0.f4), .int .i64 ((rd_T98 l1 x16_1).f1), .int .i64 ((rd_T98 l1 x16_1).f2), .int .i64 ((rd_T98 l1 x16_1).f3)]] rfl (by (try simp only [mA, mC, mN]); first | done | rfl | (simp only [lD, lT]; rfl)) ?_; (with_reducible refine (impl_Score.calls k1 a0_0 a0_1 _ _ l0_2 a0_3 a0_4 _ _ l0_5 a0_6 a0_7 ((rd_T98 l1 x16_1).f0.f0) ((rd_T98 l1 x16_1).f0.f1) ((rd_T98 l1 x16_1).f0.f2) ((rd_T98 l1 x16_1).f0.f3) ((rd_T98 l1 x16_1).f0.f4) ((rd_T98 l1 x16_1).f1) ((rd_T98 l1 x16_1).f2) ((rd_T98 l1 x16_1).f3) t258 _ ?side1 ?side2 ?side3 ?side4 A10.out).mono ?_); (case side1 => exact Kd.C_below HR0_2.out (by repeat first | (with_reducible first | exact HB.out | apply bA | apply bN | apply bD | refine bS ?_ GE254.out | refine bS ?_ GE257.out) | exact HB.out)); (case side2 => exact HC0_2.out); (case side3 => exact Kd.C_below HR0_5.out (by repeat first | (with_reducible first | exact HB.out | apply bA | apply bN | apply bD | refine bS ?_ GE254.out | refine bS ?_ GE257.out) | exact HB.out)); (case side4 => exact HC0_5.out); rintro e w22 ⟨rfl, hb⟩; refine ⟨_, rfl, ?_⟩; have n0_ := Aside0.mk (blk_below (g := gb254) (o := .cells #[.int .i64 a0_0, .int .i64 a0_1, .slice A0_2 l0_2.length c0_2, .int .i64 a0_3, .int .i64 a0_4, .slice A0_5 l0_5.length c0_5, .int .i64 a0_6, .int .i64 a0_7] 44 (0, 0)) (by (with_reducible repeat first | refine kN ?_ _ | refine kD ?_ | refine kA ?_ _); exact blk8 BK254.out NB254_257) hb); have n1_ := Aside0.mk (blk_below (g := gb257) (o := .cells #[.int .i64 ((rd_T98 l1 x16_1).f0.f0), .int .i64 ((rd_T98 l1 x16_1).f0.f1), .int .i64 ((rd_T98 l1 x16_1).f0.f2), .int .i64 ((rd_T98 l1 x16_1).f0.f3), .int .i64 ((rd_T98 l1 x16_1).f0.f4), .int .i64 ((rd_T98 l1 x16_1).f1), .int .i64 ((rd_T98 l1 x16_1).f2), .int .i64 ((rd_T98 l1 x16_1).f3)] 98 (0, 0)) (by (with_reducible repeat first | refine kN ?_ _ | refine kD ?_ | refine kA ?_ _); refine blk_put (cs := #[.int .i64 ((rd_T98 l1 x16_1).f0.f0), .int .i64 ((rd_T98 l1 x16_1).f0.f1), .int .i64 ((rd_T98 l1 x16_1).f0.f2), .int .i64 ((rd_T98 l1 x16_1).f0.f3), .int .i64 ((rd_T98 l1 x16_1).f0.f4), .int .i64 ((rd_T98 l1 x16_1).f1), .int .i64 ((rd_T98 l1 x16_1).f2), .int .i64 0]) ?_ 7 _ rfl; (with_reducible repeat first | refine kN ?_ _ | refine kD ?_ | refine kA ?_ _); refine blk_put (cs := #[.int .i64 ((rd_T98 l1 x16_1).f0.f0), .int .i64 ((rd_T98 l1 x16_1).f0.f1), .int .i64 ((rd_T98 l1 x16_1).f0.f2), .int .i64 ((rd_T98 l1 x16_1).f0.f3), .int .i64 ((rd_T98 l1 x16_1).f0.f4), .int .i64 ((rd_T98 l1 x16_1).f1), .int .i64 0, .int .i64 0]) ?_ 6 _ rfl; (with_reducible repeat first | refine kN ?_ _ | refine kD ?_ | refine kA ?_ _); refine blk_put (cs := #[.int .i64 ((rd_T98 l1 x16_1).f0.f0), .int .i64 ((rd_T98 l1 x16_1).f0.f1), .int .i64 ((rd_T98 l1 x16_1).f0.f2), .int .i64 ((rd_T98 l1 x16_1).f0.f3), .int .i64 ((rd_T98 l1 x16_1).f0.f4), .int .i64 0, .int .i64 0, .int .i64 0]) ?_ 5 _ rfl; (with_reducible repeat first | refine kN ?_ _ | refine kD ?_ | refine kA ?_ _); refine blk_put (cs := #[.int .i64 ((rd_T98 l1 x16_1).f0.f0), .int .i64 ((rd_T98 l1 x16_1).f0.f1), .int .i64 ((rd_T98 l1 x16_1).f0.f2), .int .i64 ((rd_T98 l1 x16_1).f0.f3), .int .i64 0, .int .i64 0, .int .i64 0, .int .i64 0]) ?_ 4 _ rfl; (with_reducible repeat first | refine kN ?_ _ | refine kD ?_ | refine kA ?_ _); refine blk_put (cs := #[.int .i64 ((rd_T98 l1 x16_1).f0.f0), .int .i64 ((rd_T98 l1 x16_1).f0.f1), .int .i64 ((rd_T98 l1 x16_1).f0.f2), .int .i64 0, .int .i64 0, .int .i64 0, .int .i64 0, .int .i64 0]) ?_ 3 _ rfl; (with_reducible repeat first | refine kN ?_ _ | refine kD ?_ | refine kA ?_ _); refine blk_put (cs := #[.int .i64 ((rd_T98 l1 x16_1).f0.f0), .int .i64 ((rd_T98 l1 x16_1).f0.f1), .int .i64 0, .int .i64 0, .int .i64 0, .int .i64 0, .int .i64 0, .int .i64 0]) ?_ 2 _ rfl; (with_reducible repeat first | refine kN ?_ _ | refine kD ?_ | refine kA ?_ _); refine blk_put (cs := #[.int .i64 ((rd_T98 l1 x16_1).f0.f0), .int .i64 0, .int .i64 0, .int .i64 0, .int .i64 0, .int .i64 0, .int .i64 0, .int .i64 0]) ?_ 1 _ rfl; (with_reducible repeat first | refine kN ?_ _ | refine kD ?_ | refine kA ?_ _); refine blk_put (cs := #[.int .i64 0, .int .i64 0, .int .i64 0, .int .i64 0, .int .i64 0, .int .i64 0, .int .i64 0, .int .i64 0]) ?_ 0 _ rfl; (with_reducible repeat first | refine kN ?_ _ | refine kD ?_ | refine kA ?_ _); exact BK257.out) hb); have n2_ := Aside0.mk (below_step (by repeat first | (with_reducible first | exact HB.out | apply bA | apply bN | apply bD | refine bS ?_ GE254.out | refine bS ?_ GE257.out) | exact HB.out) hb); clear BK254; clear BK257; clear HB; have BK254 := n0_; have BK257 := n1_; have HB := n2_; clear n0_ n1_ n2_; (try clear hb); (try clear hb2); (try clear hk); (try clear hi)))
        go_roundg k1
        case measure => have := HK1.out; omega
        case rel => exact ⟨(x5_1), (x6_1), (wrap64 (x16_1 + 1)), (by first | rfl | (simp; done) | (simp [*]; done)), (by first | rfl | (simp; done) | (simp [*]; done)), (by first | rfl | (simp; done) | (simp [*]; done)), H', ⟨by have := HK1.out; omega⟩, ⟨by (with_reducible repeat first | refine kN ?_ _ | refine kD ?_ | refine kA ?_ _); exact BK254.out⟩, ⟨by repeat (first | (with_reducible first | exact HB.out | apply bA | apply bN | apply bD | refine bS ?_ GE254.out | refine bS ?_ GE257.out) | exact HB.out)⟩⟩
      ·rw [if_neg c9] at H
       exact absurd H (by simp)
     ·rw [if_neg c8] at H
      exact absurd H (by simp)
    ·rw [if_neg c7] at H
     have c7b0 : decide (x16_1 < (l1.length : Int)) = false := decide_eq_false c7
     clear c7
     obtain rfl := Option.some.inj H
     go_wp2
     go_ret
     exact ⟨by first | rfl | (simp [errW_none, errW_some] <;> rfl) | (simp [*, errW_none, errW_some] <;> rfl), by repeat (first | (with_reducible first | exact HB.out | apply bA | apply bN | apply bD | refine bS ?_ GE254.out) | exact HB.out)⟩
 ·replace c4 := Bool.eq_false_iff.mpr c4
  subst c4
  have H1 : (some 0) = some r := by rw [if_neg (show ¬ (false = true) by decide)] at H; exact H
  clear H
  have H := H1
  clear H1
  obtain rfl := Option.some.inj H
  go_enter Try.func76, Try.ntmps76
  go_wp2_with (first | ((with_reducible refine gate_dst (N := 2) rfl ?_); refine box_event ?hg (N := 2) ?hd (cs := #[.int .i64 a0_0, .int .i64 a0_1, .slice A0_2 l0_2.length c0_2, .int .i64 a0_3, .int .i64 a0_4, .slice A0_5 l0_5.length c0_5, .int .i64 a0_6, .int .i64 a0_7]) (t := 44) ?hr ?_; (case hd => rfl); (case hg => rfl); (case hr => first | (go_simp; done) | (go_simp; rfl)); intro gb254 hg w23 hbox hb; have n0_ := Aside0.mk (below_step (qB HB) hb); have n1_ := Aside0.mk (hbox); have n2_ := Aside0.mk ((by rw [hg]; exact (below_size (qB HB)) : w.heap.size ≤ gb254)); have n3_ := Aside0.mk ((by rw [hg]; exact (below_size (qB HB)) : w.heap.size ≤ gb254)); clear HB; have HB := n0_; have BK254 := n1_; have GW254 := n2_; have GE254 := n3_; clear n0_ n1_ n2_ n3_; clear hb hbox hg) | ((with_reducible refine gate_callee (f := 144) rfl ?_); refine goesL_ (some 11) rfl rfl Try.func144 (by kernel_rfl) rfl #[.slice A1 l1.length c1] rfl (by (try simp only [mA, mC, mN]); first | done | rfl | (simp only [lD, lT]; rfl)) ?_; (with_reducible refine (impl_AreFinds.calls k _ _ l1 false _ ?side1 ?side2 A3.out).mono ?_); (case side1 => exact qC (Kd.C_below HR1.out HB.out)); (case side2 => exact HC1.out); rintro e w24 ⟨rfl, hb⟩; refine ⟨_, rfl, ?_⟩; have n0_ := Aside0.mk (blk_below (qK BK254) hb); have n1_ := Aside0.mk (below_step (by repeat first | (with_reducible first | exact HB.out | apply bA | apply bN | apply bD | refine bS ?_ GE254.out) | exact HB.out) hb); clear BK254; clear HB; have BK254 := n0_; have HB := n1_; clear n0_ n1_; (try clear hb); (try clear hb2); (try clear hk); (try clear hi)))
  go_ret
  exact ⟨by first | rfl | (simp [errW_none, errW_some] <;> rfl) | (simp [*, errW_none, errW_some] <;> rfl), by repeat (first | (with_reducible first | exact HB.out | apply bA | apply bN | apply bD | refine bS ?_ GE254.out) | exact HB.out)⟩

/-! ### laws_eqThing: function 183 -/
def laws_eqThing.f (a0_0 : Int) (a0_1 : Int) (a0_2 : Int) (a0_3 : Int) (a0_4 : Int) (a1_0 : Int) (a1_1 : Int) (a1_2 : Int) (a1_3 : Int) (a1_4 : Int) : Option (Bool) := if a0_0 = a1_0 then (if a0_1 = a1_1 then (if a0_2 = a1_2 then (if a0_3 = a1_3 then (if a0_4 = a1_4 then (some true) else (some false)) else (some false)) else (some false)) else (some false)) else (some false)
set_option maxHeartbeats 8000000 in
set_option maxRecDepth 100000 in
theorem laws_eqThing.calls (a0_0 : Int) (a0_1 : Int) (a0_2 : Int) (a0_3 : Int) (a0_4 : Int) (a1_0 : Int) (a1_1 : Int) (a1_2 : Int) (a1_3 : Int) (a1_4 : Int) (r : Bool) (w : World) (h : laws_eqThing.f a0_0 a0_1 a0_2 a0_3 a0_4 a1_0 a1_1 a1_2 a1_3 a1_4 = some r) :
  Calls Try.prog 183 #[.agg #[.int .i64 a0_0, .int .i64 a0_1, .int .i64 a0_2, .int .i64 a0_3, .int .i64 a0_4], .agg #[.int .i64 a1_0, .int .i64 a1_1, .int .i64 a1_2, .int .i64 a1_3, .int .i64 a1_4]] w fun e w' => e = .returned (.bool r) ∧ Below w.heap.size w w' := by
 have hu96 := Try.underlying96
 have HB := Aside0.mk (Below.refl w.heap.size w)
 have H : (if a0_0 = a1_0 then (if a0_1 = a1_1 then (if a0_2 = a1_2 then (if a0_3 = a1_3 then (if a0_4 = a1_4 then (some true) else (some false)) else (some false)) else (some false)) else (some false)) else (some false)) = some r := h
 clear h
 by_cases c3 : a0_0 = a1_0
 ·rw [if_pos c3] at H
  have c3b0 : (a0_0 == a1_0) = true := beq_iff_eq.mpr c3
  have c3b1 : (a0_0 != a1_0) = false := bne_eq_false_iff_eq.mpr c3
  clear c3
  by_cases c4 : a0_1 = a1_1
  ·rw [if_pos c4] at H
   have c4b0 : (a0_1 == a1_1) = true := beq_iff_eq.mpr c4
   have c4b1 : (a0_1 != a1_1) = false := bne_eq_false_iff_eq.mpr c4
   clear c4
   by_cases c5 : a0_2 = a1_2
   ·rw [if_pos c5] at H
    have c5b0 : (a0_2 == a1_2) = true := beq_iff_eq.mpr c5
    have c5b1 : (a0_2 != a1_2) = false := bne_eq_false_iff_eq.mpr c5
    clear c5
    by_cases c6 : a0_3 = a1_3
    ·rw [if_pos c6] at H
     have c6b0 : (a0_3 == a1_3) = true := beq_iff_eq.mpr c6
     have c6b1 : (a0_3 != a1_3) = false := bne_eq_false_iff_eq.mpr c6
     clear c6
     by_cases c7 : a0_4 = a1_4
     ·rw [if_pos c7] at H
      have c7b0 : (a0_4 == a1_4) = true := beq_iff_eq.mpr c7
      have c7b1 : (a0_4 != a1_4) = false := bne_eq_false_iff_eq.mpr c7
      clear c7
      obtain rfl := Option.some.inj H
      go_enter Try.func183, Try.ntmps183
      go_wp2_with (first | ((with_reducible refine gate_dst (N := 2) rfl ?_); refine box_event ?hg (N := 2) ?hd (cs := #[.int .i64 a0_0, .int .i64 a0_1, .int .i64 a0_2, .int .i64 a0_3, .int .i64 a0_4]) (t := 96) ?hr ?_; (case hd => rfl); (case hg => rfl); (case hr => first | (go_simp; done) | (go_simp; rfl)); intro gb259 hg w8 hbox hb; have n0_ := Aside0.mk (below_step (qB HB) hb); have n1_ := Aside0.mk (hbox); have n2_ := Aside0.mk ((by rw [hg]; exact (below_size (qB HB)) : w.heap.size ≤ gb259)); have n3_ := Aside0.mk ((by rw [hg]; exact (below_size (qB HB)) : w.heap.size ≤ gb259)); clear HB; have HB := n0_; have BK259 := n1_; have GW259 := n2_; have GE259 := n3_; clear n0_ n1_ n2_ n3_; clear hb hbox hg) | ((with_reducible refine gate_dst (N := 3) rfl ?_); refine box_event ?hg (N := 3) ?hd (cs := #[.int .i64 a1_0, .int .i64 a1_1, .int .i64 a1_2, .int .i64 a1_3, .int .i64 a1_4]) (t := 96) ?hr ?_; (case hd => rfl); (case hg => rfl); (case hr => first | (go_simp; done) | (go_simp; rfl)); intro gb260 hg w9 hbox hb; have n0_ := Aside0.mk (blk_below (qK BK259) hb); have n1_ := Aside0.mk (below_step (by repeat first | (with_reducible first | exact HB.out | apply bA | apply bN | apply bD | refine bS ?_ GE259.out) | exact HB.out) hb); have n2_ := Aside0.mk (hbox); have n3_ := Aside0.mk ((by rw [hg]; exact (below_size (by repeat first | (with_reducible first | exact HB.out | apply bA | apply bN | apply bD | refine bS ?_ GE259.out) | exact HB.out)) : w.heap.size ≤ gb260)); have n4_ := Aside0.mk ((by rw [hg]; exact (below_size (by repeat first | (with_reducible first | exact HB.out | apply bA | apply bN | apply bD | refine bS ?_ GE259.out) | exact HB.out)) : w.heap.size ≤ gb260)); have n5_ := Aside0.mk ((by rw [hg]; exact Nat.ne_of_lt (blk_lt (qK BK259)) : gb259 ≠ gb260)); have n6_ := Aside0.mk ((by rw [hg]; exact Nat.ne_of_gt (blk_lt (qK BK259)) : gb260 ≠ gb259)); clear BK259; clear HB; have BK259 := n0_; have HB := n1_; have BK260 := n2_; have GW260 := n3_; have GE260 := n4_; have NB259_260 := n5_; have NB260_259 := n6_; clear n0_ n1_ n2_ n3_ n4_ n5_ n6_; clear hb hbox hg; have hnb10 := NB259_260.out; have hnc10 := NB260_259.out; have hcz11_0 : w9.cell? ⟨gb259, 0, none⟩ = some (.int .i64 a0_0) := cC BK259 0; have hcz11_1 : w9.cell? ⟨gb259, 1, none⟩ = some (.int .i64 a0_1) := cC BK259 1; have hcz11_2 : w9.cell? ⟨gb259, 2, none⟩ = some (.int .i64 a0_2) := cC BK259 2; have hcz11_3 : w9.cell? ⟨gb259, 3, none⟩ = some (.int .i64 a0_3) := cC BK259 3; have hcz11_4 : w9.cell? ⟨gb259, 4, none⟩ = some (.int .i64 a0_4) := cC BK259 4; have hfz11_0 := blk_frozen BK259.out 0; have hfz11_1 := blk_frozen BK259.out 1; have hfz11_2 := blk_frozen BK259.out 2; have hfz11_3 := blk_frozen BK259.out 3; have hfz11_4 := blk_frozen BK259.out 4; have hcz12_0 : w9.cell? ⟨gb260, 0, none⟩ = some (.int .i64 a1_0) := cC BK260 0; have hcz12_1 : w9.cell? ⟨gb260, 1, none⟩ = some (.int .i64 a1_1) := cC BK260 1; have hcz12_2 : w9.cell? ⟨gb260, 2, none⟩ = some (.int .i64 a1_2) := cC BK260 2; have hcz12_3 : w9.cell? ⟨gb260, 3, none⟩ = some (.int .i64 a1_3) := cC BK260 3; have hcz12_4 : w9.cell? ⟨gb260, 4, none⟩ = some (.int .i64 a1_4) := cC BK260 4; have hfz12_0 := blk_frozen BK260.out 0; have hfz12_1 := blk_frozen BK260.out 1; have hfz12_2 := blk_frozen BK260.out 2; have hfz12_3 := blk_frozen BK260.out 3; have hfz12_4 := blk_frozen BK260.out 4))
      go_ret
      exact ⟨by first | rfl | (simp [errW_none, errW_some] <;> rfl) | (simp [*, errW_none, errW_some] <;> rfl), by repeat (first | (with_reducible first | exact HB.out | apply bA | apply bN | apply bD | refine bS ?_ GE259.out | refine bS ?_ GE260.out) | exact HB.out)⟩
     ·rw [if_neg c7] at H
      have c7b0 : (a0_4 == a1_4) = false := beq_eq_false_iff_ne.mpr c7
      have c7b1 : (a0_4 != a1_4) = true := bne_iff_ne.mpr c7
      obtain rfl := Option.some.inj H
      go_enter Try.func183, Try.ntmps183
      go_wp2_with (first | ((with_reducible refine gate_dst (N := 2) rfl ?_); refine box_event ?hg (N := 2) ?hd (cs := #[.int .i64 a0_0, .int .i64 a0_1, .int .i64 a0_2, .int .i64 a0_3, .int .i64 a0_4]) (t := 96) ?hr ?_; (case hd => rfl); (case hg => rfl); (case hr => first | (go_simp; done) | (go_simp; rfl)); intro gb259 hg w13 hbox hb; have n0_ := Aside0.mk (below_step (qB HB) hb); have n1_ := Aside0.mk (hbox); have n2_ := Aside0.mk ((by rw [hg]; exact (below_size (qB HB)) : w.heap.size ≤ gb259)); have n3_ := Aside0.mk ((by rw [hg]; exact (below_size (qB HB)) : w.heap.size ≤ gb259)); clear HB; have HB := n0_; have BK259 := n1_; have GW259 := n2_; have GE259 := n3_; clear n0_ n1_ n2_ n3_; clear hb hbox hg) | ((with_reducible refine gate_dst (N := 3) rfl ?_); refine box_event ?hg (N := 3) ?hd (cs := #[.int .i64 a1_0, .int .i64 a1_1, .int .i64 a1_2, .int .i64 a1_3, .int .i64 a1_4]) (t := 96) ?hr ?_; (case hd => rfl); (case hg => rfl); (case hr => first | (go_simp; done) | (go_simp; rfl)); intro gb260 hg w14 hbox hb; have n0_ := Aside0.mk (blk_below (qK BK259) hb); have n1_ := Aside0.mk (below_step (by repeat first | (with_reducible first | exact HB.out | apply bA | apply bN | apply bD | refine bS ?_ GE259.out) | exact HB.out) hb); have n2_ := Aside0.mk (hbox); have n3_ := Aside0.mk ((by rw [hg]; exact (below_size (by repeat first | (with_reducible first | exact HB.out | apply bA | apply bN | apply bD | refine bS ?_ GE259.out) | exact HB.out)) : w.heap.size ≤ gb260)); have n4_ := Aside0.mk ((by rw [hg]; exact (below_size (by repeat first | (with_reducible first | exact HB.out | apply bA | apply bN | apply bD | refine bS ?_ GE259.out) | exact HB.out)) : w.heap.size ≤ gb260)); have n5_ := Aside0.mk ((by rw [hg]; exact Nat.ne_of_lt (blk_lt (qK BK259)) : gb259 ≠ gb260)); have n6_ := Aside0.mk ((by rw [hg]; exact Nat.ne_of_gt (blk_lt (qK BK259)) : gb260 ≠ gb259)); clear BK259; clear HB; have BK259 := n0_; have HB := n1_; have BK260 := n2_; have GW260 := n3_; have GE260 := n4_; have NB259_260 := n5_; have NB260_259 := n6_; clear n0_ n1_ n2_ n3_ n4_ n5_ n6_; clear hb hbox hg; have hnb15 := NB259_260.out; have hnc15 := NB260_259.out; have hcz16_0 : w14.cell? ⟨gb259, 0, none⟩ = some (.int .i64 a0_0) := cC BK259 0; have hcz16_1 : w14.cell? ⟨gb259, 1, none⟩ = some (.int .i64 a0_1) := cC BK259 1; have hcz16_2 : w14.cell? ⟨gb259, 2, none⟩ = some (.int .i64 a0_2) := cC BK259 2; have hcz16_3 : w14.cell? ⟨gb259, 3, none⟩ = some (.int .i64 a0_3) := cC BK259 3; have hcz16_4 : w14.cell? ⟨gb259, 4, none⟩ = some (.int .i64 a0_4) := cC BK259 4; have hfz16_0 := blk_frozen BK259.out 0; have hfz16_1 := blk_frozen BK259.out 1; have hfz16_2 := blk_frozen BK259.out 2; have hfz16_3 := blk_frozen BK259.out 3; have hfz16_4 := blk_frozen BK259.out 4; have hcz17_0 : w14.cell? ⟨gb260, 0, none⟩ = some (.int .i64 a1_0) := cC BK260 0; have hcz17_1 : w14.cell? ⟨gb260, 1, none⟩ = some (.int .i64 a1_1) := cC BK260 1; have hcz17_2 : w14.cell? ⟨gb260, 2, none⟩ = some (.int .i64 a1_2) := cC BK260 2; have hcz17_3 : w14.cell? ⟨gb260, 3, none⟩ = some (.int .i64 a1_3) := cC BK260 3; have hcz17_4 : w14.cell? ⟨gb260, 4, none⟩ = some (.int .i64 a1_4) := cC BK260 4; have hfz17_0 := blk_frozen BK260.out 0; have hfz17_1 := blk_frozen BK260.out 1; have hfz17_2 := blk_frozen BK260.out 2; have hfz17_3 := blk_frozen BK260.out 3; have hfz17_4 := blk_frozen BK260.out 4))
      go_ret
      exact ⟨by first | rfl | (simp [errW_none, errW_some] <;> rfl) | (simp [*, errW_none, errW_some] <;> rfl), by repeat (first | (with_reducible first | exact HB.out | apply bA | apply bN | apply bD | refine bS ?_ GE259.out | refine bS ?_ GE260.out) | exact HB.out)⟩
    ·rw [if_neg c6] at H
     have c6b0 : (a0_3 == a1_3) = false := beq_eq_false_iff_ne.mpr c6
     have c6b1 : (a0_3 != a1_3) = true := bne_iff_ne.mpr c6
     obtain rfl := Option.some.inj H
     go_enter Try.func183, Try.ntmps183
     go_wp2_with (first | ((with_reducible refine gate_dst (N := 2) rfl ?_); refine box_event ?hg (N := 2) ?hd (cs := #[.int .i64 a0_0, .int .i64 a0_1, .int .i64 a0_2, .int .i64 a0_3, .int .i64 a0_4]) (t := 96) ?hr ?_; (case hd => rfl); (case hg => rfl); (case hr => first | (go_simp; done) | (go_simp; rfl)); intro gb259 hg w18 hbox hb; have n0_ := Aside0.mk (below_step (qB HB) hb); have n1_ := Aside0.mk (hbox); have n2_ := Aside0.mk ((by rw [hg]; exact (below_size (qB HB)) : w.heap.size ≤ gb259)); have n3_ := Aside0.mk ((by rw [hg]; exact (below_size (qB HB)) : w.heap.size ≤ gb259)); clear HB; have HB := n0_; have BK259 := n1_; have GW259 := n2_; have GE259 := n3_; clear n0_ n1_ n2_ n3_; clear hb hbox hg) | ((with_reducible refine gate_dst (N := 3) rfl ?_); refine box_event ?hg (N := 3) ?hd (cs := #[.int .i64 a1_0, .int .i64 a1_1, .int .i64 a1_2, .int .i64 a1_3, .int .i64 a1_4]) (t := 96) ?hr ?_; (case hd => rfl); (case hg => rfl); (case hr => first | (go_simp; done) | (go_simp; rfl)); intro gb260 hg w19 hbox hb; have n0_ := Aside0.mk (blk_below (qK BK259) hb); have n1_ := Aside0.mk (below_step (by repeat first | (with_reducible first | exact HB.out | apply bA | apply bN | apply bD | refine bS ?_ GE259.out) | exact HB.out) hb); have n2_ := Aside0.mk (hbox); have n3_ := Aside0.mk ((by rw [hg]; exact (below_size (by repeat first | (with_reducible first | exact HB.out | apply bA | apply bN | apply bD | refine bS ?_ GE259.out) | exact HB.out)) : w.heap.size ≤ gb260)); have n4_ := Aside0.mk ((by rw [hg]; exact (below_size (by repeat first | (with_reducible first | exact HB.out | apply bA | apply bN | apply bD | refine bS ?_ GE259.out) | exact HB.out)) : w.heap.size ≤ gb260)); have n5_ := Aside0.mk ((by rw [hg]; exact Nat.ne_of_lt (blk_lt (qK BK259)) : gb259 ≠ gb260)); have n6_ := Aside0.mk ((by rw [hg]; exact Nat.ne_of_gt (blk_lt (qK BK259)) : gb260 ≠ gb259)); clear BK259; clear HB; have BK259 := n0_; have HB := n1_; have BK260 := n2_; have GW260 := n3_; have GE260 := n4_; have NB259_260 := n5_; have NB260_259 := n6_; clear n0_ n1_ n2_ n3_ n4_ n5_ n6_; clear hb hbox hg; have hnb20 := NB259_260.out; have hnc20 := NB260_259.out; have hcz21_0 : w19.cell? ⟨gb259, 0, none⟩ = some (.int .i64 a0_0) := cC BK259 0; have hcz21_1 : w19.cell? ⟨gb259, 1, none⟩ = some (.int .i64 a0_1) := cC BK259 1; have hcz21_2 : w19.cell? ⟨gb259, 2, none⟩ = some (.int .i64 a0_2) := cC BK259 2; have hcz21_3 : w19.cell? ⟨gb259, 3, none⟩ = some (.int .i64 a0_3) := cC BK259 3; have hcz21_4 : w19.cell? ⟨gb259, 4, none⟩ = some (.int .i64 a0_4) := cC BK259 4; have hfz21_0 := blk_frozen BK259.out 0; have hfz21_1 := blk_frozen BK259.out 1; have hfz21_2 := blk_frozen BK259.out 2; have hfz21_3 := blk_frozen BK259.out 3; have hfz21_4 := blk_frozen BK259.out 4; have hcz22_0 : w19.cell? ⟨gb260, 0, none⟩ = some (.int .i64 a1_0) := cC BK260 0; have hcz22_1 : w19.cell? ⟨gb260, 1, none⟩ = some (.int .i64 a1_1) := cC BK260 1; have hcz22_2 : w19.cell? ⟨gb260, 2, none⟩ = some (.int .i64 a1_2) := cC BK260 2; have hcz22_3 : w19.cell? ⟨gb260, 3, none⟩ = some (.int .i64 a1_3) := cC BK260 3; have hcz22_4 : w19.cell? ⟨gb260, 4, none⟩ = some (.int .i64 a1_4) := cC BK260 4; have hfz22_0 := blk_frozen BK260.out 0; have hfz22_1 := blk_frozen BK260.out 1; have hfz22_2 := blk_frozen BK260.out 2; have hfz22_3 := blk_frozen BK260.out 3; have hfz22_4 := blk_frozen BK260.out 4))
     go_ret
     exact ⟨by first | rfl | (simp [errW_none, errW_some] <;> rfl) | (simp [*, errW_none, errW_some] <;> rfl), by repeat (first | (with_reducible first | exact HB.out | apply bA | apply bN | apply bD | refine bS ?_ GE259.out | refine bS ?_ GE260.out) | exact HB.out)⟩
   ·rw [if_neg c5] at H
    have c5b0 : (a0_2 == a1_2) = false := beq_eq_false_iff_ne.mpr c5
    have c5b1 : (a0_2 != a1_2) = true := bne_iff_ne.mpr c5
    obtain rfl := Option.some.inj H
    go_enter Try.func183, Try.ntmps183
    go_wp2_with (first | ((with_reducible refine gate_dst (N := 2) rfl ?_); refine box_event ?hg (N := 2) ?hd (cs := #[.int .i64 a0_0, .int .i64 a0_1, .int .i64 a0_2, .int .i64 a0_3, .int .i64 a0_4]) (t := 96) ?hr ?_; (case hd => rfl); (case hg => rfl); (case hr => first | (go_simp; done) | (go_simp; rfl)); intro gb259 hg w23 hbox hb; have n0_ := Aside0.mk (below_step (qB HB) hb); have n1_ := Aside0.mk (hbox); have n2_ := Aside0.mk ((by rw [hg]; exact (below_size (qB HB)) : w.heap.size ≤ gb259)); have n3_ := Aside0.mk ((by rw [hg]; exact (below_size (qB HB)) : w.heap.size ≤ gb259)); clear HB; have HB := n0_; have BK259 := n1_; have GW259 := n2_; have GE259 := n3_; clear n0_ n1_ n2_ n3_; clear hb hbox hg) | ((with_reducible refine gate_dst (N := 3) rfl ?_); refine box_event ?hg (N := 3) ?hd (cs := #[.int .i64 a1_0, .int .i64 a1_1, .int .i64 a1_2, .int .i64 a1_3, .int .i64 a1_4]) (t := 96) ?hr ?_; (case hd => rfl); (case hg => rfl); (case hr => first | (go_simp; done) | (go_simp; rfl)); intro gb260 hg w24 hbox hb; have n0_ := Aside0.mk (blk_below (qK BK259) hb); have n1_ := Aside0.mk (below_step (by repeat first | (with_reducible first | exact HB.out | apply bA | apply bN | apply bD | refine bS ?_ GE259.out) | exact HB.out) hb); have n2_ := Aside0.mk (hbox); have n3_ := Aside0.mk ((by rw [hg]; exact (below_size (by repeat first | (with_reducible first | exact HB.out | apply bA | apply bN | apply bD | refine bS ?_ GE259.out) | exact HB.out)) : w.heap.size ≤ gb260)); have n4_ := Aside0.mk ((by rw [hg]; exact (below_size (by repeat first | (with_reducible first | exact HB.out | apply bA | apply bN | apply bD | refine bS ?_ GE259.out) | exact HB.out)) : w.heap.size ≤ gb260)); have n5_ := Aside0.mk ((by rw [hg]; exact Nat.ne_of_lt (blk_lt (qK BK259)) : gb259 ≠ gb260)); have n6_ := Aside0.mk ((by rw [hg]; exact Nat.ne_of_gt (blk_lt (qK BK259)) : gb260 ≠ gb259)); clear BK259; clear HB; have BK259 := n0_; have HB := n1_; have BK260 := n2_; have GW260 := n3_; have GE260 := n4_; have NB259_260 := n5_; have NB260_259 := n6_; clear n0_ n1_ n2_ n3_ n4_ n5_ n6_; clear hb hbox hg; have hnb25 := NB259_260.out; have hnc25 := NB260_259.out; have hcz26_0 : w24.cell? ⟨gb259, 0, none⟩ = some (.int .i64 a0_0) := cC BK259 0; have hcz26_1 : w24.cell? ⟨gb259, 1, none⟩ = some (.int .i64 a0_1) := cC BK259 1; have hcz26_2 : w24.cell? ⟨gb259, 2, none⟩ = some (.int .i64 a0_2) := cC BK259 2; have hcz26_3 : w24.cell? ⟨gb259, 3, none⟩ = some (.int .i64 a0_3) := cC BK259 3; have hcz26_4 : w24.cell? ⟨gb259, 4, none⟩ = some (.int .i64 a0_4) := cC BK259 4; have hfz26_0 := blk_frozen BK259.out 0; have hfz26_1 := blk_frozen BK259.out 1; have hfz26_2 := blk_frozen BK259.out 2; have hfz26_3 := blk_frozen BK259.out 3; have hfz26_4 := blk_frozen BK259.out 4; have hcz27_0 : w24.cell? ⟨gb260, 0, none⟩ = some (.int .i64 a1_0) := cC BK260 0; have hcz27_1 : w24.cell? ⟨gb260, 1, none⟩ = some (.int .i64 a1_1) := cC BK260 1; have hcz27_2 : w24.cell? ⟨gb260, 2, none⟩ = some (.int .i64 a1_2) := cC BK260 2; have hcz27_3 : w24.cell? ⟨gb260, 3, none⟩ = some (.int .i64 a1_3) := cC BK260 3; have hcz27_4 : w24.cell? ⟨gb260, 4, none⟩ = some (.int .i64 a1_4) := cC BK260 4; have hfz27_0 := blk_frozen BK260.out 0; have hfz27_1 := blk_frozen BK260.out 1; have hfz27_2 := blk_frozen BK260.out 2; have hfz27_3 := blk_frozen BK260.out 3; have hfz27_4 := blk_frozen BK260.out 4))
    go_ret
    exact ⟨by first | rfl | (simp [errW_none, errW_some] <;> rfl) | (simp [*, errW_none, errW_some] <;> rfl), by repeat (first | (with_reducible first | exact HB.out | apply bA | apply bN | apply bD | refine bS ?_ GE259.out | refine bS ?_ GE260.out) | exact HB.out)⟩
  ·rw [if_neg c4] at H
   have c4b0 : (a0_1 == a1_1) = false := beq_eq_false_iff_ne.mpr c4
   have c4b1 : (a0_1 != a1_1) = true := bne_iff_ne.mpr c4
   obtain rfl := Option.some.inj H
   go_enter Try.func183, Try.ntmps183
   go_wp2_with (first | ((with_reducible refine gate_dst (N := 2) rfl ?_); refine box_event ?hg (N := 2) ?hd (cs := #[.int .i64 a0_0, .int .i64 a0_1, .int .i64 a0_2, .int .i64 a0_3, .int .i64 a0_4]) (t := 96) ?hr ?_; (case hd => rfl); (case hg => rfl); (case hr => first | (go_simp; done) | (go_simp; rfl)); intro gb259 hg w28 hbox hb; have n0_ := Aside0.mk (below_step (qB HB) hb); have n1_ := Aside0.mk (hbox); have n2_ := Aside0.mk ((by rw [hg]; exact (below_size (qB HB)) : w.heap.size ≤ gb259)); have n3_ := Aside0.mk ((by rw [hg]; exact (below_size (qB HB)) : w.heap.size ≤ gb259)); clear HB; have HB := n0_; have BK259 := n1_; have GW259 := n2_; have GE259 := n3_; clear n0_ n1_ n2_ n3_; clear hb hbox hg) | ((with_reducible refine gate_dst (N := 3) rfl ?_); refine box_event ?hg (N := 3) ?hd (cs := #[.int .i64 a1_0, .int .i64 a1_1, .int .i64 a1_2, .int .i64 a1_3, .int .i64 a1_4]) (t := 96) ?hr ?_; (case hd => rfl); (case hg => rfl); (case hr => first | (go_simp; done) | (go_simp; rfl)); intro gb260 hg w29 hbox hb; have n0_ := Aside0.mk (blk_below (qK BK259) hb); have n1_ := Aside0.mk (below_step (by repeat first | (with_reducible first | exact HB.out | apply bA | apply bN | apply bD | refine bS ?_ GE259.out) | exact HB.out) hb); have n2_ := Aside0.mk (hbox); have n3_ := Aside0.mk ((by rw [hg]; exact (below_size (by repeat first | (with_reducible first | exact HB.out | apply bA | apply bN | apply bD | refine bS ?_ GE259.out) | exact HB.out)) : w.heap.size ≤ gb260)); have n4_ := Aside0.mk ((by rw [hg]; exact (below_size (by repeat first | (with_reducible first | exact HB.out | apply bA | apply bN | apply bD | refine bS ?_ GE259.out) | exact HB.out)) : w.heap.size ≤ gb260)); have n5_ := Aside0.mk ((by rw [hg]; exact Nat.ne_of_lt (blk_lt (qK BK259)) : gb259 ≠ gb260)); have n6_ := Aside0.mk ((by rw [hg]; exact Nat.ne_of_gt (blk_lt (qK BK259)) : gb260 ≠ gb259)); clear BK259; clear HB; have BK259 := n0_; have HB := n1_; have BK260 := n2_; have GW260 := n3_; have GE260 := n4_; have NB259_260 := n5_; have NB260_259 := n6_; clear n0_ n1_ n2_ n3_ n4_ n5_ n6_; clear hb hbox hg; have hnb30 := NB259_260.out; have hnc30 := NB260_259.out; have hcz31_0 : w29.cell? ⟨gb259, 0, none⟩ = some (.int .i64 a0_0) := cC BK259 0; have hcz31_1 : w29.cell? ⟨gb259, 1, none⟩ = some (.int .i64 a0_1) := cC BK259 1; have hcz31_2 : w29.cell? ⟨gb259, 2, none⟩ = some (.int .i64 a0_2) := cC BK259 2; have hcz31_3 : w29.cell? ⟨gb259, 3, none⟩ = some (.int .i64 a0_3) := cC BK259 3; have hcz31_4 : w29.cell? ⟨gb259, 4, none⟩ = some (.int .i64 a0_4) := cC BK259 4; have hfz31_0 := blk_frozen BK259.out 0; have hfz31_1 := blk_frozen BK259.out 1; have hfz31_2 := blk_frozen BK259.out 2; have hfz31_3 := blk_frozen BK259.out 3; have hfz31_4 := blk_frozen BK259.out 4; have hcz32_0 : w29.cell? ⟨gb260, 0, none⟩ = some (.int .i64 a1_0) := cC BK260 0; have hcz32_1 : w29.cell? ⟨gb260, 1, none⟩ = some (.int .i64 a1_1) := cC BK260 1; have hcz32_2 : w29.cell? ⟨gb260, 2, none⟩ = some (.int .i64 a1_2) := cC BK260 2; have hcz32_3 : w29.cell? ⟨gb260, 3, none⟩ = some (.int .i64 a1_3) := cC BK260 3; have hcz32_4 : w29.cell? ⟨gb260, 4, none⟩ = some (.int .i64 a1_4) := cC BK260 4; have hfz32_0 := blk_frozen BK260.out 0; have hfz32_1 := blk_frozen BK260.out 1; have hfz32_2 := blk_frozen BK260.out 2; have hfz32_3 := blk_frozen BK260.out 3; have hfz32_4 := blk_frozen BK260.out 4))
   go_ret
   exact ⟨by first | rfl | (simp [errW_none, errW_some] <;> rfl) | (simp [*, errW_none, errW_some] <;> rfl), by repeat (first | (with_reducible first | exact HB.out | apply bA | apply bN | apply bD | refine bS ?_ GE259.out | refine bS ?_ GE260.out) | exact HB.out)⟩
 ·rw [if_neg c3] at H
  have c3b0 : (a0_0 == a1_0) = false := beq_eq_false_iff_ne.mpr c3
  have c3b1 : (a0_0 != a1_0) = true := bne_iff_ne.mpr c3
  obtain rfl := Option.some.inj H
  go_enter Try.func183, Try.ntmps183
  go_wp2_with (first | ((with_reducible refine gate_dst (N := 2) rfl ?_); refine box_event ?hg (N := 2) ?hd (cs := #[.int .i64 a0_0, .int .i64 a0_1, .int .i64 a0_2, .int .i64 a0_3, .int .i64 a0_4]) (t := 96) ?hr ?_; (case hd => rfl); (case hg => rfl); (case hr => first | (go_simp; done) | (go_simp; rfl)); intro gb259 hg w33 hbox hb; have n0_ := Aside0.mk (below_step (qB HB) hb); have n1_ := Aside0.mk (hbox); have n2_ := Aside0.mk ((by rw [hg]; exact (below_size (qB HB)) : w.heap.size ≤ gb259)); have n3_ := Aside0.mk ((by rw [hg]; exact (below_size (qB HB)) : w.heap.size ≤ gb259)); clear HB; have HB := n0_; have BK259 := n1_; have GW259 := n2_; have GE259 := n3_; clear n0_ n1_ n2_ n3_; clear hb hbox hg) | ((with_reducible refine gate_dst (N := 3) rfl ?_); refine box_event ?hg (N := 3) ?hd (cs := #[.int .i64 a1_0, .int .i64 a1_1, .int .i64 a1_2, .int .i64 a1_3, .int .i64 a1_4]) (t := 96) ?hr ?_; (case hd => rfl); (case hg => rfl); (case hr => first | (go_simp; done) | (go_simp; rfl)); intro gb260 hg w34 hbox hb; have n0_ := Aside0.mk (blk_below (qK BK259) hb); have n1_ := Aside0.mk (below_step (by repeat first | (with_reducible first | exact HB.out | apply bA | apply bN | apply bD | refine bS ?_ GE259.out) | exact HB.out) hb); have n2_ := Aside0.mk (hbox); have n3_ := Aside0.mk ((by rw [hg]; exact (below_size (by repeat first | (with_reducible first | exact HB.out | apply bA | apply bN | apply bD | refine bS ?_ GE259.out) | exact HB.out)) : w.heap.size ≤ gb260)); have n4_ := Aside0.mk ((by rw [hg]; exact (below_size (by repeat first | (with_reducible first | exact HB.out | apply bA | apply bN | apply bD | refine bS ?_ GE259.out) | exact HB.out)) : w.heap.size ≤ gb260)); have n5_ := Aside0.mk ((by rw [hg]; exact Nat.ne_of_lt (blk_lt (qK BK259)) : gb259 ≠ gb260)); have n6_ := Aside0.mk ((by rw [hg]; exact Nat.ne_of_gt (blk_lt (qK BK259)) : gb260 ≠ gb259)); clear BK259; clear HB; have BK259 := n0_; have HB := n1_; have BK260 := n2_; have GW260 := n3_; have GE260 := n4_; have NB259_260 := n5_; have NB260_259 := n6_; clear n0_ n1_ n2_ n3_ n4_ n5_ n6_; clear hb hbox hg; have hnb35 := NB259_260.out; have hnc35 := NB260_259.out; have hcz36_0 : w34.cell? ⟨gb259, 0, none⟩ = some (.int .i64 a0_0) := cC BK259 0; have hcz36_1 : w34.cell? ⟨gb259, 1, none⟩ = some (.int .i64 a0_1) := cC BK259 1; have hcz36_2 : w34.cell? ⟨gb259, 2, none⟩ = some (.int .i64 a0_2) := cC BK259 2; have hcz36_3 : w34.cell? ⟨gb259, 3, none⟩ = some (.int .i64 a0_3) := cC BK259 3; have hcz36_4 : w34.cell? ⟨gb259, 4, none⟩ = some (.int .i64 a0_4) := cC BK259 4; have hfz36_0 := blk_frozen BK259.out 0; have hfz36_1 := blk_frozen BK259.out 1; have hfz36_2 := blk_frozen BK259.out 2; have hfz36_3 := blk_frozen BK259.out 3; have hfz36_4 := blk_frozen BK259.out 4; have hcz37_0 : w34.cell? ⟨gb260, 0, none⟩ = some (.int .i64 a1_0) := cC BK260 0; have hcz37_1 : w34.cell? ⟨gb260, 1, none⟩ = some (.int .i64 a1_1) := cC BK260 1; have hcz37_2 : w34.cell? ⟨gb260, 2, none⟩ = some (.int .i64 a1_2) := cC BK260 2; have hcz37_3 : w34.cell? ⟨gb260, 3, none⟩ = some (.int .i64 a1_3) := cC BK260 3; have hcz37_4 : w34.cell? ⟨gb260, 4, none⟩ = some (.int .i64 a1_4) := cC BK260 4; have hfz37_0 := blk_frozen BK260.out 0; have hfz37_1 := blk_frozen BK260.out 1; have hfz37_2 := blk_frozen BK260.out 2; have hfz37_3 := blk_frozen BK260.out 3; have hfz37_4 := blk_frozen BK260.out 4))
  go_ret
  exact ⟨by first | rfl | (simp [errW_none, errW_some] <;> rfl) | (simp [*, errW_none, errW_some] <;> rfl), by repeat (first | (with_reducible first | exact HB.out | apply bA | apply bN | apply bD | refine bS ?_ GE259.out | refine bS ?_ GE260.out) | exact HB.out)⟩

/-! ### laws_eqFind: function 145 -/
def laws_eqFind.f (a0_0 : Int) (a0_1 : Int) (a0_2 : Int) (a0_3 : Int) (a0_4 : Int) (a0_5 : Int) (a0_6 : Int) (a0_7 : Int) (a1_0 : Int) (a1_1 : Int) (a1_2 : Int) (a1_3 : Int) (a1_4 : Int) (a1_5 : Int) (a1_6 : Int) (a1_7 : Int) : Option (Bool) := (laws_eqThing.f a0_0 a0_1 a0_2 a0_3 a0_4 a1_0 a1_1 a1_2 a1_3 a1_4).bind fun t263 => (if t263 = true then (if a0_5 = a1_5 then (if a0_6 = a1_6 then (if a0_7 = a1_7 then (some true) else (some false)) else (some false)) else (some false)) else (some false))
set_option maxHeartbeats 8000000 in
set_option maxRecDepth 100000 in
theorem laws_eqFind.calls (a0_0 : Int) (a0_1 : Int) (a0_2 : Int) (a0_3 : Int) (a0_4 : Int) (a0_5 : Int) (a0_6 : Int) (a0_7 : Int) (a1_0 : Int) (a1_1 : Int) (a1_2 : Int) (a1_3 : Int) (a1_4 : Int) (a1_5 : Int) (a1_6 : Int) (a1_7 : Int) (r : Bool) (w : World) (h : laws_eqFind.f a0_0 a0_1 a0_2 a0_3 a0_4 a0_5 a0_6 a0_7 a1_0 a1_1 a1_2 a1_3 a1_4 a1_5 a1_6 a1_7 = some r) :
  Calls Try.prog 145 #[.agg #[.int .i64 a0_0, .int .i64 a0_1, .int .i64 a0_2, .int .i64 a0_3, .int .i64 a0_4, .int .i64 a0_5, .int .i64 a0_6, .int .i64 a0_7], .agg #[.int .i64 a1_0, .int .i64 a1_1, .int .i64 a1_2, .int .i64 a1_3, .int .i64 a1_4, .int .i64 a1_5, .int .i64 a1_6, .int .i64 a1_7]] w fun e w' => e = .returned (.bool r) ∧ Below w.heap.size w w' := by
 have hu98 := Try.underlying98
 have hu96 := Try.underlying96
 have HB := Aside0.mk (Below.refl w.heap.size w)
 have H : ((laws_eqThing.f a0_0 a0_1 a0_2 a0_3 a0_4 a1_0 a1_1 a1_2 a1_3 a1_4).bind fun t263 => (if t263 = true then (if a0_5 = a1_5 then (if a0_6 = a1_6 then (if a0_7 = a1_7 then (some true) else (some false)) else (some false)) else (some false)) else (some false))) = some r := h
 clear h
 replace H := Option.bind_eq_some_iff.mp H
 obtain ⟨t263, A30, H⟩ := H
 replace H : (if t263 = true then (if a0_5 = a1_5 then (if a0_6 = a1_6 then (if a0_7 = a1_7 then (some true) else (some false)) else (some false)) else (some false)) else (some false)) = some r := H
 have A3 := Aside0.mk A30
 clear A30
 by_cases c4 : t263 = true
 ·subst c4
  have H1 : (if a0_5 = a1_5 then (if a0_6 = a1_6 then (if a0_7 = a1_7 then (some true) else (some false)) else (some false)) else (some false)) = some r := by rw [if_pos rfl] at H; exact H
  clear H
  have H := H1
  clear H1
  by_cases c5 : a0_5 = a1_5
  ·rw [if_pos c5] at H
   have c5b0 : (a0_5 == a1_5) = true := beq_iff_eq.mpr c5
   have c5b1 : (a0_5 != a1_5) = false := bne_eq_false_iff_eq.mpr c5
   clear c5
   by_cases c6 : a0_6 = a1_6
   ·rw [if_pos c6] at H
    have c6b0 : (a0_6 == a1_6) = true := beq_iff_eq.mpr c6
    have c6b1 : (a0_6 != a1_6) = false := bne_eq_false_iff_eq.mpr c6
    clear c6
    by_cases c7 : a0_7 = a1_7
    ·rw [if_pos c7] at H
     have c7b0 : (a0_7 == a1_7) = true := beq_iff_eq.mpr c7
     have c7b1 : (a0_7 != a1_7) = false := bne_eq_false_iff_eq.mpr c7
     clear c7
     obtain rfl := Option.some.inj H
     go_enter Try.func145, Try.ntmps145
     go_wp2_with (first | ((with_reducible refine gate_dst (N := 2) rfl ?_); refine box_event ?hg (N := 2) ?hd (cs := #[.int .i64 a0_0, .int .i64 a0_1, .int .i64 a0_2, .int .i64 a0_3, .int .i64 a0_4, .int .i64 a0_5, .int .i64 a0_6, .int .i64 a0_7]) (t := 98) ?hr ?_; (case hd => rfl); (case hg => rfl); (case hr => first | (go_simp; done) | (go_simp; rfl)); intro gb261 hg w8 hbox hb; have n0_ := Aside0.mk (below_step (qB HB) hb); have n1_ := Aside0.mk (hbox); have n2_ := Aside0.mk ((by rw [hg]; exact (below_size (qB HB)) : w.heap.size ≤ gb261)); have n3_ := Aside0.mk ((by rw [hg]; exact (below_size (qB HB)) : w.heap.size ≤ gb261)); clear HB; have HB := n0_; have BK261 := n1_; have GW261 := n2_; have GE261 := n3_; clear n0_ n1_ n2_ n3_; clear hb hbox hg) | ((with_reducible refine gate_dst (N := 3) rfl ?_); refine box_event ?hg (N := 3) ?hd (cs := #[.int .i64 a1_0, .int .i64 a1_1, .int .i64 a1_2, .int .i64 a1_3, .int .i64 a1_4, .int .i64 a1_5, .int .i64 a1_6, .int .i64 a1_7]) (t := 98) ?hr ?_; (case hd => rfl); (case hg => rfl); (case hr => first | (go_simp; done) | (go_simp; rfl)); intro gb262 hg w9 hbox hb; have n0_ := Aside0.mk (blk_below (qK BK261) hb); have n1_ := Aside0.mk (below_step (by repeat first | (with_reducible first | exact HB.out | apply bA | apply bN | apply bD | refine bS ?_ GE261.out) | exact HB.out) hb); have n2_ := Aside0.mk (hbox); have n3_ := Aside0.mk ((by rw [hg]; exact (below_size (by repeat first | (with_reducible first | exact HB.out | apply bA | apply bN | apply bD | refine bS ?_ GE261.out) | exact HB.out)) : w.heap.size ≤ gb262)); have n4_ := Aside0.mk ((by rw [hg]; exact (below_size (by repeat first | (with_reducible first | exact HB.out | apply bA | apply bN | apply bD | refine bS ?_ GE261.out) | exact HB.out)) : w.heap.size ≤ gb262)); have n5_ := Aside0.mk ((by rw [hg]; exact Nat.ne_of_lt (blk_lt (qK BK261)) : gb261 ≠ gb262)); have n6_ := Aside0.mk ((by rw [hg]; exact Nat.ne_of_gt (blk_lt (qK BK261)) : gb262 ≠ gb261)); clear BK261; clear HB; have BK261 := n0_; have HB := n1_; have BK262 := n2_; have GW262 := n3_; have GE262 := n4_; have NB261_262 := n5_; have NB262_261 := n6_; clear n0_ n1_ n2_ n3_ n4_ n5_ n6_; clear hb hbox hg; have hnb10 := NB261_262.out; have hnc10 := NB262_261.out; have hcz11_0 : w9.cell? ⟨gb261, 0, none⟩ = some (.int .i64 a0_0) := cC BK261 0; have hcz11_1 : w9.cell? ⟨gb261, 1, none⟩ = some (.int .i64 a0_1) := cC BK261 1; have hcz11_2 : w9.cell? ⟨gb261, 2, none⟩ = some (.int .i64 a0_2) := cC BK261 2; have hcz11_3 : w9.cell? ⟨gb261, 3, none⟩ = some (.int .i64 a0_3) := cC BK261 3; have hcz11_4 : w9.cell? ⟨gb261, 4, none⟩ = some (.int .i64 a0_4) := cC BK261 4; have hcz11_5 : w9.cell? ⟨gb261, 5, none⟩ = some (.int .i64 a0_5) := cC BK261 5; have hcz11_6 : w9.cell? ⟨gb261, 6, none⟩ = some (.int .i64 a0_6) := cC BK261 6; have hcz11_7 : w9.cell? ⟨gb261, 7, none⟩ = some (.int .i64 a0_7) := cC BK261 7; have hfz11_0 := blk_frozen BK261.out 0; have hfz11_1 := blk_frozen BK261.out 1; have hfz11_2 := blk_frozen BK261.out 2; have hfz11_3 := blk_frozen BK261.out 3; have hfz11_4 := blk_frozen BK261.out 4; have hfz11_5 := blk_frozen BK261.out 5; have hfz11_6 := blk_frozen BK261.out 6; have hfz11_7 := blk_frozen BK261.out 7; have hcz12_0 : w9.cell? ⟨gb262, 0, none⟩ = some (.int .i64 a1_0) := cC BK262 0; have hcz12_1 : w9.cell? ⟨gb262, 1, none⟩ = some (.int .i64 a1_1) := cC BK262 1; have hcz12_2 : w9.cell? ⟨gb262, 2, none⟩ = some (.int .i64 a1_2) := cC BK262 2; have hcz12_3 : w9.cell? ⟨gb262, 3, none⟩ = some (.int .i64 a1_3) := cC BK262 3; have hcz12_4 : w9.cell? ⟨gb262, 4, none⟩ = some (.int .i64 a1_4) := cC BK262 4; have hcz12_5 : w9.cell? ⟨gb262, 5, none⟩ = some (.int .i64 a1_5) := cC BK262 5; have hcz12_6 : w9.cell? ⟨gb262, 6, none⟩ = some (.int .i64 a1_6) := cC BK262 6; have hcz12_7 : w9.cell? ⟨gb262, 7, none⟩ = some (.int .i64 a1_7) := cC BK262 7; have hfz12_0 := blk_frozen BK262.out 0; have hfz12_1 := blk_frozen BK262.out 1; have hfz12_2 := blk_frozen BK262.out 2; have hfz12_3 := blk_frozen BK262.out 3; have hfz12_4 := blk_frozen BK262.out 4; have hfz12_5 := blk_frozen BK262.out 5; have hfz12_6 := blk_frozen BK262.out 6; have hfz12_7 := blk_frozen BK262.out 7) | ((with_reducible refine gate_callee (f := 183) rfl ?_); refine goesL_ (some 9) rfl rfl Try.func183 (by kernel_rfl) rfl #[.agg #[.int .i64 a0_0, .int .i64 a0_1, .int .i64 a0_2, .int .i64 a0_3, .int .i64 a0_4], .agg #[.int .i64 a1_0, .int .i64 a1_1, .int .i64 a1_2, .int .i64 a1_3, .int .i64 a1_4]] rfl (by (try simp only [mA, mC, mN]); first | done | rfl | (simp only [lD, lT]; rfl)) ?_; (with_reducible refine (laws_eqThing.calls a0_0 a0_1 a0_2 a0_3 a0_4 a1_0 a1_1 a1_2 a1_3 a1_4 true _ A3.out).mono ?_); rintro e w13 ⟨rfl, hb⟩; refine ⟨_, rfl, ?_⟩; have n0_ := Aside0.mk (blk_below (qK BK261) hb); have n1_ := Aside0.mk (blk_below (qK BK262) hb); have n2_ := Aside0.mk (below_step (by repeat first | (with_reducible first | exact HB.out | apply bA | apply bN | apply bD | refine bS ?_ GE261.out | refine bS ?_ GE262.out) | exact HB.out) hb); clear BK261; clear BK262; clear HB; have BK261 := n0_; have BK262 := n1_; have HB := n2_; clear n0_ n1_ n2_; (try clear hb); (try clear hb2); (try clear hk); (try clear hi); have hcz14_0 : w13.cell? ⟨gb261, 0, none⟩ = some (.int .i64 a0_0) := cC BK261 0; have hcz14_1 : w13.cell? ⟨gb261, 1, none⟩ = some (.int .i64 a0_1) := cC BK261 1; have hcz14_2 : w13.cell? ⟨gb261, 2, none⟩ = some (.int .i64 a0_2) := cC BK261 2; have hcz14_3 : w13.cell? ⟨gb261, 3, none⟩ = some (.int .i64 a0_3) := cC BK261 3; have hcz14_4 : w13.cell? ⟨gb261, 4, none⟩ = some (.int .i64 a0_4) := cC BK261 4; have hcz14_5 : w13.cell? ⟨gb261, 5, none⟩ = some (.int .i64 a0_5) := cC BK261 5; have hcz14_6 : w13.cell? ⟨gb261, 6, none⟩ = some (.int .i64 a0_6) := cC BK261 6; have hcz14_7 : w13.cell? ⟨gb261, 7, none⟩ = some (.int .i64 a0_7) := cC BK261 7; have hfz14_0 := blk_frozen BK261.out 0; have hfz14_1 := blk_frozen BK261.out 1; have hfz14_2 := blk_frozen BK261.out 2; have hfz14_3 := blk_frozen BK261.out 3; have hfz14_4 := blk_frozen BK261.out 4; have hfz14_5 := blk_frozen BK261.out 5; have hfz14_6 := blk_frozen BK261.out 6; have hfz14_7 := blk_frozen BK261.out 7; have hcz15_0 : w13.cell? ⟨gb262, 0, none⟩ = some (.int .i64 a1_0) := cC BK262 0; have hcz15_1 : w13.cell? ⟨gb262, 1, none⟩ = some (.int .i64 a1_1) := cC BK262 1; have hcz15_2 : w13.cell? ⟨gb262, 2, none⟩ = some (.int .i64 a1_2) := cC BK262 2; have hcz15_3 : w13.cell? ⟨gb262, 3, none⟩ = some (.int .i64 a1_3) := cC BK262 3; have hcz15_4 : w13.cell? ⟨gb262, 4, none⟩ = some (.int .i64 a1_4) := cC BK262 4; have hcz15_5 : w13.cell? ⟨gb262, 5, none⟩ = some (.int .i64 a1_5) := cC BK262 5; have hcz15_6 : w13.cell? ⟨gb262, 6, none⟩ = some (.int .i64 a1_6) := cC BK262 6; have hcz15_7 : w13.cell? ⟨gb262, 7, none⟩ = some (.int .i64 a1_7) := cC BK262 7; have hfz15_0 := blk_frozen BK262.out 0; have hfz15_1 := blk_frozen BK262.out 1; have hfz15_2 := blk_frozen BK262.out 2; have hfz15_3 := blk_frozen BK262.out 3; have hfz15_4 := blk_frozen BK262.out 4; have hfz15_5 := blk_frozen BK262.out 5; have hfz15_6 := blk_frozen BK262.out 6; have hfz15_7 := blk_frozen BK262.out 7))
     go_ret
     exact ⟨by first | rfl | (simp [errW_none, errW_some] <;> rfl) | (simp [*, errW_none, errW_some] <;> rfl), by repeat (first | (with_reducible first | exact HB.out | apply bA | apply bN | apply bD | refine bS ?_ GE261.out | refine bS ?_ GE262.out) | exact HB.out)⟩
    ·rw [if_neg c7] at H
     have c7b0 : (a0_7 == a1_7) = false := beq_eq_false_iff_ne.mpr c7
     have c7b1 : (a0_7 != a1_7) = true := bne_iff_ne.mpr c7
     obtain rfl := Option.some.inj H
     go_enter Try.func145, Try.ntmps145
     go_wp2_with (first | ((with_reducible refine gate_dst (N := 2) rfl ?_); refine box_event ?hg (N := 2) ?hd (cs := #[.int .i64 a0_0, .int .i64 a0_1, .int .i64 a0_2, .int .i64 a0_3, .int .i64 a0_4, .int .i64 a0_5, .int .i64 a0_6, .int .i64 a0_7]) (t := 98) ?hr ?_; (case hd => rfl); (case hg => rfl); (case hr => first | (go_simp; done) | (go_simp; rfl)); intro gb261 hg w16 hbox hb; have n0_ := Aside0.mk (below_step (qB HB) hb); have n1_ := Aside0.mk (hbox); have n2_ := Aside0.mk ((by rw [hg]; exact (below_size (qB HB)) : w.heap.size ≤ gb261)); have n3_ := Aside0.mk ((by rw [hg]; exact (below_size (qB HB)) : w.heap.size ≤ gb261)); clear HB; have HB := n0_; have BK261 := n1_; have GW261 := n2_; have GE261 := n3_; clear n0_ n1_ n2_ n3_; clear hb hbox hg) | ((with_reducible refine gate_dst (N := 3) rfl ?_); refine box_event ?hg (N := 3) ?hd (cs := #[.int .i64 a1_0, .int .i64 a1_1, .int .i64 a1_2, .int .i64 a1_3, .int .i64 a1_4, .int .i64 a1_5, .int .i64 a1_6, .int .i64 a1_7]) (t := 98) ?hr ?_; (case hd => rfl); (case hg => rfl); (case hr => first | (go_simp; done) | (go_simp; rfl)); intro gb262 hg w17 hbox hb; have n0_ := Aside0.mk (blk_below (qK BK261) hb); have n1_ := Aside0.mk (below_step (by repeat first | (with_reducible first | exact HB.out | apply bA | apply bN | apply bD | refine bS ?_ GE261.out) | exact HB.out) hb); have n2_ := Aside0.mk (hbox); have n3_ := Aside0.mk ((by rw [hg]; exact (below_size (by repeat first | (with_reducible first | exact HB.out | apply bA | apply bN | apply bD | refine bS ?_ GE261.out) | exact HB.out)) : w.heap.size ≤ gb262)); have n4_ := Aside0.mk ((by rw [hg]; exact (below_size (by repeat first | (with_reducible first | exact HB.out | apply bA | apply bN | apply bD | refine bS ?_ GE261.out) | exact HB.out)) : w.heap.size ≤ gb262)); have n5_ := Aside0.mk ((by rw [hg]; exact Nat.ne_of_lt (blk_lt (qK BK261)) : gb261 ≠ gb262)); have n6_ := Aside0.mk ((by rw [hg]; exact Nat.ne_of_gt (blk_lt (qK BK261)) : gb262 ≠ gb261)); clear BK261; clear HB; have BK261 := n0_; have HB := n1_; have BK262 := n2_; have GW262 := n3_; have GE262 := n4_; have NB261_262 := n5_; have NB262_261 := n6_; clear n0_ n1_ n2_ n3_ n4_ n5_ n6_; clear hb hbox hg; have hnb18 := NB261_262.out; have hnc18 := NB262_261.out; have hcz19_0 : w17.cell? ⟨gb261, 0, none⟩ = some (.int .i64 a0_0) := cC BK261 0; have hcz19_1 : w17.cell? ⟨gb261, 1, none⟩ = some (.int .i64 a0_1) := cC BK261 1; have hcz19_2 : w17.cell? ⟨gb261, 2, none⟩ = some (.int .i64 a0_2) := cC BK261 2; have hcz19_3 : w17.cell? ⟨gb261, 3, none⟩ = some (.int .i64 a0_3) := cC BK261 3; have hcz19_4 : w17.cell? ⟨gb261, 4, none⟩ = some (.int .i64 a0_4) := cC BK261 4; have hcz19_5 : w17.cell? ⟨gb261, 5, none⟩ = some (.int .i64 a0_5) := cC BK261 5; have hcz19_6 : w17.cell? ⟨gb261, 6, none⟩ = some (.int .i64 a0_6) := cC BK261 6; have hcz19_7 : w17.cell? ⟨gb261, 7, none⟩ = some (.int .i64 a0_7) := cC BK261 7; have hfz19_0 := blk_frozen BK261.out 0; have hfz19_1 := blk_frozen BK261.out 1; have hfz19_2 := blk_frozen BK261.out 2; have hfz19_3 := blk_frozen BK261.out 3; have hfz19_4 := blk_frozen BK261.out 4; have hfz19_5 := blk_frozen BK261.out 5; have hfz19_6 := blk_frozen BK261.out 6; have hfz19_7 := blk_frozen BK261.out 7; have hcz20_0 : w17.cell? ⟨gb262, 0, none⟩ = some (.int .i64 a1_0) := cC BK262 0; have hcz20_1 : w17.cell? ⟨gb262, 1, none⟩ = some (.int .i64 a1_1) := cC BK262 1; have hcz20_2 : w17.cell? ⟨gb262, 2, none⟩ = some (.int .i64 a1_2) := cC BK262 2; have hcz20_3 : w17.cell? ⟨gb262, 3, none⟩ = some (.int .i64 a1_3) := cC BK262 3; have hcz20_4 : w17.cell? ⟨gb262, 4, none⟩ = some (.int .i64 a1_4) := cC BK262 4; have hcz20_5 : w17.cell? ⟨gb262, 5, none⟩ = some (.int .i64 a1_5) := cC BK262 5; have hcz20_6 : w17.cell? ⟨gb262, 6, none⟩ = some (.int .i64 a1_6) := cC BK262 6; have hcz20_7 : w17.cell? ⟨gb262, 7, none⟩ = some (.int .i64 a1_7) := cC BK262 7; have hfz20_0 := blk_frozen BK262.out 0; have hfz20_1 := blk_frozen BK262.out 1; have hfz20_2 := blk_frozen BK262.out 2; have hfz20_3 := blk_frozen BK262.out 3; have hfz20_4 := blk_frozen BK262.out 4; have hfz20_5 := blk_frozen BK262.out 5; have hfz20_6 := blk_frozen BK262.out 6; have hfz20_7 := blk_frozen BK262.out 7) | ((with_reducible refine gate_callee (f := 183) rfl ?_); refine goesL_ (some 9) rfl rfl Try.func183 (by kernel_rfl) rfl #[.agg #[.int .i64 a0_0, .int .i64 a0_1, .int .i64 a0_2, .int .i64 a0_3, .int .i64 a0_4], .agg #[.int .i64 a1_0, .int .i64 a1_1, .int .i64 a1_2, .int .i64 a1_3, .int .i64 a1_4]] rfl (by (try simp only [mA, mC, mN]); first | done | rfl | (simp only [lD, lT]; rfl)) ?_; (with_reducible refine (laws_eqThing.calls a0_0 a0_1 a0_2 a0_3 a0_4 a1_0 a1_1 a1_2 a1_3 a1_4 true _ A3.out).mono ?_); rintro e w21 ⟨rfl, hb⟩; refine ⟨_, rfl, ?_⟩; have n0_ := Aside0.mk (blk_below (qK BK261) hb); have n1_ := Aside0.mk (blk_below (qK BK262) hb); have n2_ := Aside0.mk (below_step (by repeat first | (with_reducible first | exact HB.out | apply bA | apply bN | apply bD | refine bS ?_ GE261.out | refine bS ?_ GE262.out) | exact HB.out) hb); clear BK261; clear BK262; clear HB; have BK261 := n0_; have BK262 := n1_; have HB := n2_; clear n0_ n1_ n2_; (try clear hb); (try clear hb2); (try clear hk); (try clear hi); have hcz22_0 : w21.cell? ⟨gb261, 0, none⟩ = some (.int .i64 a0_0) := cC BK261 0; have hcz22_1 : w21.cell? ⟨gb261, 1, none⟩ = some (.int .i64 a0_1) := cC BK261 1; have hcz22_2 : w21.cell? ⟨gb261, 2, none⟩ = some (.int .i64 a0_2) := cC BK261 2; have hcz22_3 : w21.cell? ⟨gb261, 3, none⟩ = some (.int .i64 a0_3) := cC BK261 3; have hcz22_4 : w21.cell? ⟨gb261, 4, none⟩ = some (.int .i64 a0_4) := cC BK261 4; have hcz22_5 : w21.cell? ⟨gb261, 5, none⟩ = some (.int .i64 a0_5) := cC BK261 5; have hcz22_6 : w21.cell? ⟨gb261, 6, none⟩ = some (.int .i64 a0_6) := cC BK261 6; have hcz22_7 : w21.cell? ⟨gb261, 7, none⟩ = some (.int .i64 a0_7) := cC BK261 7; have hfz22_0 := blk_frozen BK261.out 0; have hfz22_1 := blk_frozen BK261.out 1; have hfz22_2 := blk_frozen BK261.out 2; have hfz22_3 := blk_frozen BK261.out 3; have hfz22_4 := blk_frozen BK261.out 4; have hfz22_5 := blk_frozen BK261.out 5; have hfz22_6 := blk_frozen BK261.out 6; have hfz22_7 := blk_frozen BK261.out 7; have hcz23_0 : w21.cell? ⟨gb262, 0, none⟩ = some (.int .i64 a1_0) := cC BK262 0; have hcz23_1 : w21.cell? ⟨gb262, 1, none⟩ = some (.int .i64 a1_1) := cC BK262 1; have hcz23_2 : w21.cell? ⟨gb262, 2, none⟩ = some (.int .i64 a1_2) := cC BK262 2; have hcz23_3 : w21.cell? ⟨gb262, 3, none⟩ = some (.int .i64 a1_3) := cC BK262 3; have hcz23_4 : w21.cell? ⟨gb262, 4, none⟩ = some (.int .i64 a1_4) := cC BK262 4; have hcz23_5 : w21.cell? ⟨gb262, 5, none⟩ = some (.int .i64 a1_5) := cC BK262 5; have hcz23_6 : w21.cell? ⟨gb262, 6, none⟩ = some (.int .i64 a1_6) := cC BK262 6; have hcz23_7 : w21.cell? ⟨gb262, 7, none⟩ = some (.int .i64 a1_7) := cC BK262 7; have hfz23_0 := blk_frozen BK262.out 0; have hfz23_1 := blk_frozen BK262.out 1; have hfz23_2 := blk_frozen BK262.out 2; have hfz23_3 := blk_frozen BK262.out 3; have hfz23_4 := blk_frozen BK262.out 4; have hfz23_5 := blk_frozen BK262.out 5; have hfz23_6 := blk_frozen BK262.out 6; have hfz23_7 := blk_frozen BK262.out 7))
     go_ret
     exact ⟨by first | rfl | (simp [errW_none, errW_some] <;> rfl) | (simp [*, errW_none, errW_some] <;> rfl), by repeat (first | (with_reducible first | exact HB.out | apply bA | apply bN | apply bD | refine bS ?_ GE261.out | refine bS ?_ GE262.out) | exact HB.out)⟩
   ·rw [if_neg c6] at H
    have c6b0 : (a0_6 == a1_6) = false := beq_eq_false_iff_ne.mpr c6
    have c6b1 : (a0_6 != a1_6) = true := bne_iff_ne.mpr c6
    obtain rfl := Option.some.inj H
    go_enter Try.func145, Try.ntmps145
    go_wp2_with (first | ((with_reducible refine gate_dst (N := 2) rfl ?_); refine box_event ?hg (N := 2) ?hd (cs := #[.int .i64 a0_0, .int .i64 a0_1, .int .i64 a0_2, .int .i64 a0_3, .int .i64 a0_4, .int .i64 a0_5, .int .i64 a0_6, .int .i64 a0_7]) (t := 98) ?hr ?_; (case hd => rfl); (case hg => rfl); (case hr => first | (go_simp; done) | (go_simp; rfl)); intro gb261 hg w24 hbox hb; have n0_ := Aside0.mk (below_step (qB HB) hb); have n1_ := Aside0.mk (hbox); have n2_ := Aside0.mk ((by rw [hg]; exact (below_size (qB HB)) : w.heap.size ≤ gb261)); have n3_ := Aside0.mk ((by rw [hg]; exact (below_size (qB HB)) : w.heap.size ≤ gb261)); clear HB; have HB := n0_; have BK261 := n1_; have GW261 := n2_; have GE261 := n3_; clear n0_ n1_ n2_ n3_; clear hb hbox hg) | ((with_reducible refine gate_dst (N := 3) rfl ?_); refine box_event ?hg (N := 3) ?hd (cs := #[.int .i64 a1_0, .int .i64 a1_1, .int .i64 a1_2, .int .i64 a1_3, .int .i64 a1_4, .int .i64 a1_5, .int .i64 a1_6, .int .i64 a1_7]) (t := 98) ?hr ?_; (case hd => rfl); (case hg => rfl); (case hr => first | (go_simp; done) | (go_simp; rfl)); intro gb262 hg w25 hbox hb; have n0_ := Aside0.mk (blk_below (qK BK261) hb); have n1_ := Aside0.mk (below_step (by repeat first | (with_reducible first | exact HB.out | apply bA | apply bN | apply bD | refine bS ?_ GE261.out) | exact HB.out) hb); have n2_ := Aside0.mk (hbox); have n3_ := Aside0.mk ((by rw [hg]; exact (below_size (by repeat first | (with_reducible first | exact HB.out | apply bA | apply bN | apply bD | refine bS ?_ GE261.out) | exact HB.out)) : w.heap.size ≤ gb262)); have n4_ := Aside0.mk ((by rw [hg]; exact (below_size (by repeat first | (with_reducible first | exact HB.out | apply bA | apply bN | apply bD | refine bS ?_ GE261.out) | exact HB.out)) : w.heap.size ≤ gb262)); have n5_ := Aside0.mk ((by rw [hg]; exact Nat.ne_of_lt (blk_lt (qK BK261)) : gb261 ≠ gb262)); have n6_ := Aside0.mk ((by rw [hg]; exact Nat.ne_of_gt (blk_lt (qK BK261)) : gb262 ≠ gb261)); clear BK261; clear HB; have BK261 := n0_; have HB := n1_; have BK262 := n2_; have GW262 := n3_; have GE262 := n4_; have NB261_262 := n5_; have NB262_261 := n6_; clear n0_ n1_ n2_ n3_ n4_ n5_ n6_; clear hb hbox hg; have hnb26 := NB261_262.out; have hnc26 := NB262_261.out; have hcz27_0 : w25.cell? ⟨gb261, 0, none⟩ = some (.int .i64 a0_0) := cC BK261 0; have hcz27_1 : w25.cell? ⟨gb261, 1, none⟩ = some (.int .i64 a0_1) := cC BK261 1; have hcz27_2 : w25.cell? ⟨gb261, 2, none⟩ = some (.int .i64 a0_2) := cC BK261 2; have hcz27_3 : w25.cell? ⟨gb261, 3, none⟩ = some (.int .i64 a0_3) := cC BK261 3; have hcz27_4 : w25.cell? ⟨gb261, 4, none⟩ = some (.int .i64 a0_4) := cC BK261 4; have hcz27_5 : w25.cell? ⟨gb261, 5, none⟩ = some (.int .i64 a0_5) := cC BK261 5; have hcz27_6 : w25.cell? ⟨gb261, 6, none⟩ = some (.int .i64 a0_6) := cC BK261 6; have hcz27_7 : w25.cell? ⟨gb261, 7, none⟩ = some (.int .i64 a0_7) := cC BK261 7; have hfz27_0 := blk_frozen BK261.out 0; have hfz27_1 := blk_frozen BK261.out 1; have hfz27_2 := blk_frozen BK261.out 2; have hfz27_3 := blk_frozen BK261.out 3; have hfz27_4 := blk_frozen BK261.out 4; have hfz27_5 := blk_frozen BK261.out 5; have hfz27_6 := blk_frozen BK261.out 6; have hfz27_7 := blk_frozen BK261.out 7; have hcz28_0 : w25.cell? ⟨gb262, 0, none⟩ = some (.int .i64 a1_0) := cC BK262 0; have hcz28_1 : w25.cell? ⟨gb262, 1, none⟩ = some (.int .i64 a1_1) := cC BK262 1; have hcz28_2 : w25.cell? ⟨gb262, 2, none⟩ = some (.int .i64 a1_2) := cC BK262 2; have hcz28_3 : w25.cell? ⟨gb262, 3, none⟩ = some (.int .i64 a1_3) := cC BK262 3; have hcz28_4 : w25.cell? ⟨gb262, 4, none⟩ = some (.int .i64 a1_4) := cC BK262 4; have hcz28_5 : w25.cell? ⟨gb262, 5, none⟩ = some (.int .i64 a1_5) := cC BK262 5; have hcz28_6 : w25.cell? ⟨gb262, 6, none⟩ = some (.int .i64 a1_6) := cC BK262 6; have hcz28_7 : w25.cell? ⟨gb262, 7, none⟩ = some (.int .i64 a1_7) := cC BK262 7; have hfz28_0 := blk_frozen BK262.out 0; have hfz28_1 := blk_frozen BK262.out 1; have hfz28_2 := blk_frozen BK262.out 2; have hfz28_3 := blk_frozen BK262.out 3; have hfz28_4 := blk_frozen BK262.out 4; have hfz28_5 := blk_frozen BK262.out 5; have hfz28_6 := blk_frozen BK262.out 6; have hfz28_7 := blk_frozen BK262.out 7) | ((with_reducible refine gate_callee (f := 183) rfl ?_); refine goesL_ (some 9) rfl rfl Try.func183 (by kernel_rfl) rfl #[.agg #[.int .i64 a0_0, .int .i64 a0_1, .int .i64 a0_2, .int .i64 a0_3, .int .i64 a0_4], .agg #[.int .i64 a1_0, .int .i64 a1_1, .int .i64 a1_2, .int .i64 a1_3, .int .i64 a1_4]] rfl (by (try simp only [mA, mC, mN]); first | done | rfl | (simp only [lD, lT]; rfl)) ?_; (with_reducible refine (laws_eqThing.calls a0_0 a0_1 a0_2 a0_3 a0_4 a1_0 a1_1 a1_2 a1_3 a1_4 true _ A3.out).mono ?_); rintro e w29 ⟨rfl, hb⟩; refine ⟨_, rfl, ?_⟩; have n0_ := Aside0.mk (blk_below (qK BK261) hb); have n1_ := Aside0.mk (blk_below (qK BK262) hb); have n2_ := Aside0.mk (below_step (by repeat first | (with_reducible first | exact HB.out | apply bA | apply bN | apply bD | refine bS ?_ GE261.out | refine bS ?_ GE262.out) | exact HB.out) hb); clear BK261; clear BK262; clear HB; have BK261 := n0_; have BK262 := n1_; have HB := n2_; clear n0_ n1_ n2_; (try clear hb); (try clear hb2); (try clear hk); (try clear hi); have hcz30_0 : w29.cell? ⟨gb261, 0, none⟩ = some (.int .i64 a0_0) := cC BK261 0; have hcz30_1 : w29.cell? ⟨gb261, 1, none⟩ = some (.int .i64 a0_1) := cC BK261 1; have hcz30_2 : w29.cell? ⟨gb261, 2, none⟩ = some (.int .i64 a0_2) := cC BK261 2; have hcz30_3 : w29.cell? ⟨gb261, 3, none⟩ = some (.int .i64 a0_3) := cC BK261 3; have hcz30_4 : w29.cell? ⟨gb261, 4, none⟩ = some (.int .i64 a0_4) := cC BK261 4; have hcz30_5 : w29.cell? ⟨gb261, 5, none⟩ = some (.int .i64 a0_5) := cC BK261 5; have hcz30_6 : w29.cell? ⟨gb261, 6, none⟩ = some (.int .i64 a0_6) := cC BK261 6; have hcz30_7 : w29.cell? ⟨gb261, 7, none⟩ = some (.int .i64 a0_7) := cC BK261 7; have hfz30_0 := blk_frozen BK261.out 0; have hfz30_1 := blk_frozen BK261.out 1; have hfz30_2 := blk_frozen BK261.out 2; have hfz30_3 := blk_frozen BK261.out 3; have hfz30_4 := blk_frozen BK261.out 4; have hfz30_5 := blk_frozen BK261.out 5; have hfz30_6 := blk_frozen BK261.out 6; have hfz30_7 := blk_frozen BK261.out 7; have hcz31_0 : w29.cell? ⟨gb262, 0, none⟩ = some (.int .i64 a1_0) := cC BK262 0; have hcz31_1 : w29.cell? ⟨gb262, 1, none⟩ = some (.int .i64 a1_1) := cC BK262 1; have hcz31_2 : w29.cell? ⟨gb262, 2, none⟩ = some (.int .i64 a1_2) := cC BK262 2; have hcz31_3 : w29.cell? ⟨gb262, 3, none⟩ = some (.int .i64 a1_3) := cC BK262 3; have hcz31_4 : w29.cell? ⟨gb262, 4, none⟩ = some (.int .i64 a1_4) := cC BK262 4; have hcz31_5 : w29.cell? ⟨gb262, 5, none⟩ = some (.int .i64 a1_5) := cC BK262 5; have hcz31_6 : w29.cell? ⟨gb262, 6, none⟩ = some (.int .i64 a1_6) := cC BK262 6; have hcz31_7 : w29.cell? ⟨gb262, 7, none⟩ = some (.int .i64 a1_7) := cC BK262 7; have hfz31_0 := blk_frozen BK262.out 0; have hfz31_1 := blk_frozen BK262.out 1; have hfz31_2 := blk_frozen BK262.out 2; have hfz31_3 := blk_frozen BK262.out 3; have hfz31_4 := blk_frozen BK262.out 4; have hfz31_5 := blk_frozen BK262.out 5; have hfz31_6 := blk_frozen BK262.out 6; have hfz31_7 := blk_frozen BK262.out 7))
    go_ret
    exact ⟨by first | rfl | (simp [errW_none, errW_some] <;> rfl) | (simp [*, errW_none, errW_some] <;> rfl), by repeat (first | (with_reducible first | exact HB.out | apply bA | apply bN | apply bD | refine bS ?_ GE261.out | refine bS ?_ GE262.out) | exact HB.out)⟩
  ·rw [if_neg c5] at H
   have c5b0 : (a0_5 == a1_5) = false := beq_eq_false_iff_ne.mpr c5
   have c5b1 : (a0_5 != a1_5) = true := bne_iff_ne.mpr c5
   obtain rfl := Option.some.inj H
   go_enter Try.func145, Try.ntmps145
   go_wp2_with (first | ((with_reducible refine gate_dst (N := 2) rfl ?_); refine box_event ?hg (N := 2) ?hd (cs := #[.int .i64 a0_0, .int .i64 a0_1, .int .i64 a0_2, .int .i64 a0_3, .int .i64 a0_4, .int .i64 a0_5, .int .i64 a0_6, .int .i64 a0_7]) (t := 98) ?hr ?_; (case hd => rfl); (case hg => rfl); (case hr => first | (go_simp; done) | (go_simp; rfl)); intro gb261 hg w32 hbox hb; have n0_ := Aside0.mk (below_step (qB HB) hb); have n1_ := Aside0.mk (hbox); have n2_ := Aside0.mk ((by rw [hg]; exact (below_size (qB HB)) : w.heap.size ≤ gb261)); have n3_ := Aside0.mk ((by rw [hg]; exact (below_size (qB HB)) : w.heap.size ≤ gb261)); clear HB; have HB := n0_; have BK261 := n1_; have GW261 := n2_; have GE261 := n3_; clear n0_ n1_ n2_ n3_; clear hb hbox hg) | ((with_reducible refine gate_dst (N := 3) rfl ?_); refine box_event ?hg (N := 3) ?hd (cs := #[.int .i64 a1_0, .int .i64 a1_1, .int .i64 a1_2, .int .i64 a1_3, .int .i64 a1_4, .int .i64 a1_5, .int .i64 a1_6, .int .i64 a1_7]) (t := 98) ?hr ?_; (case hd => rfl); (case hg => rfl); (case hr => first | (go_simp; done) | (go_simp; rfl)); intro gb262 hg w33 hbox hb; have n0_ := Aside0.mk (blk_below (qK BK261) hb); have n1_ := Aside0.mk (below_step (by repeat first | (with_reducible first | exact HB.out | apply bA | apply bN | apply bD | refine bS ?_ GE261.out) | exact HB.out) hb); have n2_ := Aside0.mk (hbox); have n3_ := Aside0.mk ((by rw [hg]; exact (below_size (by repeat first | (with_reducible first | exact HB.out | apply bA | apply bN | apply bD | refine bS ?_ GE261.out) | exact HB.out)) : w.heap.size ≤ gb262)); have n4_ := Aside0.mk ((by rw [hg]; exact (below_size (by repeat first | (with_reducible first | exact HB.out | apply bA | apply bN | apply bD | refine bS ?_ GE261.out) | exact HB.out)) : w.heap.size ≤ gb262)); have n5_ := Aside0.mk ((by rw [hg]; exact Nat.ne_of_lt (blk_lt (qK BK261)) : gb261 ≠ gb262)); have n6_ := Aside0.mk ((by rw [hg]; exact Nat.ne_of_gt (blk_lt (qK BK261)) : gb262 ≠ gb261)); clear BK261; clear HB; have BK261 := n0_; have HB := n1_; have BK262 := n2_; have GW262 := n3_; have GE262 := n4_; have NB261_262 := n5_; have NB262_261 := n6_; clear n0_ n1_ n2_ n3_ n4_ n5_ n6_; clear hb hbox hg; have hnb34 := NB261_262.out; have hnc34 := NB262_261.out; have hcz35_0 : w33.cell? ⟨gb261, 0, none⟩ = some (.int .i64 a0_0) := cC BK261 0; have hcz35_1 : w33.cell? ⟨gb261, 1, none⟩ = some (.int .i64 a0_1) := cC BK261 1; have hcz35_2 : w33.cell? ⟨gb261, 2, none⟩ = some (.int .i64 a0_2) := cC BK261 2; have hcz35_3 : w33.cell? ⟨gb261, 3, none⟩ = some (.int .i64 a0_3) := cC BK261 3; have hcz35_4 : w33.cell? ⟨gb261, 4, none⟩ = some (.int .i64 a0_4) := cC BK261 4; have hcz35_5 : w33.cell? ⟨gb261, 5, none⟩ = some (.int .i64 a0_5) := cC BK261 5; have hcz35_6 : w33.cell? ⟨gb261, 6, none⟩ = some (.int .i64 a0_6) := cC BK261 6; have hcz35_7 : w33.cell? ⟨gb261, 7, none⟩ = some (.int .i64 a0_7) := cC BK261 7; have hfz35_0 := blk_frozen BK261.out 0; have hfz35_1 := blk_frozen BK261.out 1; have hfz35_2 := blk_frozen BK261.out 2; have hfz35_3 := blk_frozen BK261.out 3; have hfz35_4 := blk_frozen BK261.out 4; have hfz35_5 := blk_frozen BK261.out 5; have hfz35_6 := blk_frozen BK261.out 6; have hfz35_7 := blk_frozen BK261.out 7; have hcz36_0 : w33.cell? ⟨gb262, 0, none⟩ = some (.int .i64 a1_0) := cC BK262 0; have hcz36_1 : w33.cell? ⟨gb262, 1, none⟩ = some (.int .i64 a1_1) := cC BK262 1; have hcz36_2 : w33.cell? ⟨gb262, 2, none⟩ = some (.int .i64 a1_2) := cC BK262 2; have hcz36_3 : w33.cell? ⟨gb262, 3, none⟩ = some (.int .i64 a1_3) := cC BK262 3; have hcz36_4 : w33.cell? ⟨gb262, 4, none⟩ = some (.int .i64 a1_4) := cC BK262 4; have hcz36_5 : w33.cell? ⟨gb262, 5, none⟩ = some (.int .i64 a1_5) := cC BK262 5; have hcz36_6 : w33.cell? ⟨gb262, 6, none⟩ = some (.int .i64 a1_6) := cC BK262 6; have hcz36_7 : w33.cell? ⟨gb262, 7, none⟩ = some (.int .i64 a1_7) := cC BK262 7; have hfz36_0 := blk_frozen BK262.out 0; have hfz36_1 := blk_frozen BK262.out 1; have hfz36_2 := blk_frozen BK262.out 2; have hfz36_3 := blk_frozen BK262.out 3; have hfz36_4 := blk_frozen BK262.out 4; have hfz36_5 := blk_frozen BK262.out 5; have hfz36_6 := blk_frozen BK262.out 6; have hfz36_7 := blk_frozen BK262.out 7) | ((with_reducible refine gate_callee (f := 183) rfl ?_); refine goesL_ (some 9) rfl rfl Try.func183 (by kernel_rfl) rfl #[.agg #[.int .i64 a0_0, .int .i64 a0_1, .int .i64 a0_2, .int .i64 a0_3, .int .i64 a0_4], .agg #[.int .i64 a1_0, .int .i64 a1_1, .int .i64 a1_2, .int .i64 a1_3, .int .i64 a1_4]] rfl (by (try simp only [mA, mC, mN]); first | done | rfl | (simp only [lD, lT]; rfl)) ?_; (with_reducible refine (laws_eqThing.calls a0_0 a0_1 a0_2 a0_3 a0_4 a1_0 a1_1 a1_2 a1_3 a1_4 true _ A3.out).mono ?_); rintro e w37 ⟨rfl, hb⟩; refine ⟨_, rfl, ?_⟩; have n0_ := Aside0.mk (blk_below (qK BK261) hb); have n1_ := Aside0.mk (blk_below (qK BK262) hb); have n2_ := Aside0.mk (below_step (by repeat first | (with_reducible first | exact HB.out | apply bA | apply bN | apply bD | refine bS ?_ GE261.out | refine bS ?_ GE262.out) | exact HB.out) hb); clear BK261; clear BK262; clear HB; have BK261 := n0_; have BK262 := n1_; have HB := n2_; clear n0_ n1_ n2_; (try clear hb); (try clear hb2); (try clear hk); (try clear hi); have hcz38_0 : w37.cell? ⟨gb261, 0, none⟩ = some (.int .i64 a0_0) := cC BK261 0; have hcz38_1 : w37.cell? ⟨gb261, 1, none⟩ = some (.int .i64 a0_1) := cC BK261 1; have hcz38_2 : w37.cell? ⟨gb261, 2, none⟩ = some (.int .i64 a0_2) := cC BK261 2; have hcz38_3 : w37.cell? ⟨gb261, 3, none⟩ = some (.int .i64 a0_3) := cC BK261 3; have hcz38_4 : w37.cell? ⟨gb261, 4, none⟩ = some (.int .i64 a0_4) := cC BK261 4; have hcz38_5 : w37.cell? ⟨gb261, 5, none⟩ = some (.int .i64 a0_5) := cC BK261 5; have hcz38_6 : w37.cell? ⟨gb261, 6, none⟩ = some (.int .i64 a0_6) := cC BK261 6; have hcz38_7 : w37.cell? ⟨gb261, 7, none⟩ = some (.int .i64 a0_7) := cC BK261 7; have hfz38_0 := blk_frozen BK261.out 0; have hfz38_1 := blk_frozen BK261.out 1; have hfz38_2 := blk_frozen BK261.out 2; have hfz38_3 := blk_frozen BK261.out 3; have hfz38_4 := blk_frozen BK261.out 4; have hfz38_5 := blk_frozen BK261.out 5; have hfz38_6 := blk_frozen BK261.out 6; have hfz38_7 := blk_frozen BK261.out 7; have hcz39_0 : w37.cell? ⟨gb262, 0, none⟩ = some (.int .i64 a1_0) := cC BK262 0; have hcz39_1 : w37.cell? ⟨gb262, 1, none⟩ = some (.int .i64 a1_1) := cC BK262 1; have hcz39_2 : w37.cell? ⟨gb262, 2, none⟩ = some (.int .i64 a1_2) := cC BK262 2; have hcz39_3 : w37.cell? ⟨gb262, 3, none⟩ = some (.int .i64 a1_3) := cC BK262 3; have hcz39_4 : w37.cell? ⟨gb262, 4, none⟩ = some (.int .i64 a1_4) := cC BK262 4; have hcz39_5 : w37.cell? ⟨gb262, 5, none⟩ = some (.int .i64 a1_5) := cC BK262 5; have hcz39_6 : w37.cell? ⟨gb262, 6, none⟩ = some (.int .i64 a1_6) := cC BK262 6; have hcz39_7 : w37.cell? ⟨gb262, 7, none⟩ = some (.int .i64 a1_7) := cC BK262 7; have hfz39_0 := blk_frozen BK262.out 0; have hfz39_1 := blk_frozen BK262.out 1; have hfz39_2 := blk_frozen BK262.out 2; have hfz39_3 := blk_frozen BK262.out 3; have hfz39_4 := blk_frozen BK262.out 4; have hfz39_5 := blk_frozen BK262.out 5; have hfz39_6 := blk_frozen BK262.out 6; have hfz39_7 := blk_frozen BK262.out 7))
   go_ret
   exact ⟨by first | rfl | (simp [errW_none, errW_some] <;> rfl) | (simp [*, errW_none, errW_some] <;> rfl), by repeat (first | (with_reducible first | exact HB.out | apply bA | apply bN | apply bD | refine bS ?_ GE261.out | refine bS ?_ GE262.out) | exact HB.out)⟩
 ·replace c4 := Bool.eq_false_iff.mpr c4
  subst c4
  have H1 : (some false) = some r := by rw [if_neg (show ¬ (false = true) by decide)] at H; exact H
  clear H
  have H := H1
  clear H1
  obtain rfl := Option.some.inj H
  go_enter Try.func145, Try.ntmps145
  go_wp2_with (first | ((with_reducible refine gate_dst (N := 2) rfl ?_); refine box_event ?hg (N := 2) ?hd (cs := #[.int .i64 a0_0, .int .i64 a0_1, .int .i64 a0_2, .int .i64 a0_3, .int .i64 a0_4, .int .i64 a0_5, .int .i64 a0_6, .int .i64 a0_7]) (t := 98) ?hr ?_; (case hd => rfl); (case hg => rfl); (case hr => first | (go_simp; done) | (go_simp; rfl)); intro gb261 hg w40 hbox hb; have n0_ := Aside0.mk (below_step (qB HB) hb); have n1_ := Aside0.mk (hbox); have n2_ := Aside0.mk ((by rw [hg]; exact (below_size (qB HB)) : w.heap.size ≤ gb261)); have n3_ := Aside0.mk ((by rw [hg]; exact (below_size (qB HB)) : w.heap.size ≤ gb261)); clear HB; have HB := n0_; have BK261 := n1_; have GW261 := n2_; have GE261 := n3_; clear n0_ n1_ n2_ n3_; clear hb hbox hg) | ((with_reducible refine gate_dst (N := 3) rfl ?_); refine box_event ?hg (N := 3) ?hd (cs := #[.int .i64 a1_0, .int .i64 a1_1, .int .i64 a1_2, .int .i64 a1_3, .int .i64 a1_4, .int .i64 a1_5, .int .i64 a1_6, .int .i64 a1_7]) (t := 98) ?hr ?_; (case hd => rfl); (case hg => rfl); (case hr => first | (go_simp; done) | (go_simp; rfl)); intro gb262 hg w41 hbox hb; have n0_ := Aside0.mk (blk_below (qK BK261) hb); have n1_ := Aside0.mk (below_step (by repeat first | (with_reducible first | exact HB.out | apply bA | apply bN | apply bD | refine bS ?_ GE261.out) | exact HB.out) hb); have n2_ := Aside0.mk (hbox); have n3_ := Aside0.mk ((by rw [hg]; exact (below_size (by repeat first | (with_reducible first | exact HB.out | apply bA | apply bN | apply bD | refine bS ?_ GE261.out) | exact HB.out)) : w.heap.size ≤ gb262)); have n4_ := Aside0.mk ((by rw [hg]; exact (below_size (by repeat first | (with_reducible first | exact HB.out | apply bA | apply bN | apply bD | refine bS ?_ GE261.out) | exact HB.out)) : w.heap.size ≤ gb262)); have n5_ := Aside0.mk ((by rw [hg]; exact Nat.ne_of_lt (blk_lt (qK BK261)) : gb261 ≠ gb262)); have n6_ := Aside0.mk ((by rw [hg]; exact Nat.ne_of_gt (blk_lt (qK BK261)) : gb262 ≠ gb261)); clear BK261; clear HB; have BK261 := n0_; have HB := n1_; have BK262 := n2_; have GW262 := n3_; have GE262 := n4_; have NB261_262 := n5_; have NB262_261 := n6_; clear n0_ n1_ n2_ n3_ n4_ n5_ n6_; clear hb hbox hg; have hnb42 := NB261_262.out; have hnc42 := NB262_261.out; have hcz43_0 : w41.cell? ⟨gb261, 0, none⟩ = some (.int .i64 a0_0) := cC BK261 0; have hcz43_1 : w41.cell? ⟨gb261, 1, none⟩ = some (.int .i64 a0_1) := cC BK261 1; have hcz43_2 : w41.cell? ⟨gb261, 2, none⟩ = some (.int .i64 a0_2) := cC BK261 2; have hcz43_3 : w41.cell? ⟨gb261, 3, none⟩ = some (.int .i64 a0_3) := cC BK261 3; have hcz43_4 : w41.cell? ⟨gb261, 4, none⟩ = some (.int .i64 a0_4) := cC BK261 4; have hcz43_5 : w41.cell? ⟨gb261, 5, none⟩ = some (.int .i64 a0_5) := cC BK261 5; have hcz43_6 : w41.cell? ⟨gb261, 6, none⟩ = some (.int .i64 a0_6) := cC BK261 6; have hcz43_7 : w41.cell? ⟨gb261, 7, none⟩ = some (.int .i64 a0_7) := cC BK261 7; have hfz43_0 := blk_frozen BK261.out 0; have hfz43_1 := blk_frozen BK261.out 1; have hfz43_2 := blk_frozen BK261.out 2; have hfz43_3 := blk_frozen BK261.out 3; have hfz43_4 := blk_frozen BK261.out 4; have hfz43_5 := blk_frozen BK261.out 5; have hfz43_6 := blk_frozen BK261.out 6; have hfz43_7 := blk_frozen BK261.out 7; have hcz44_0 : w41.cell? ⟨gb262, 0, none⟩ = some (.int .i64 a1_0) := cC BK262 0; have hcz44_1 : w41.cell? ⟨gb262, 1, none⟩ = some (.int .i64 a1_1) := cC BK262 1; have hcz44_2 : w41.cell? ⟨gb262, 2, none⟩ = some (.int .i64 a1_2) := cC BK262 2; have hcz44_3 : w41.cell? ⟨gb262, 3, none⟩ = some (.int .i64 a1_3) := cC BK262 3; have hcz44_4 : w41.cell? ⟨gb262, 4, none⟩ = some (.int .i64 a1_4) := cC BK262 4; have hcz44_5 : w41.cell? ⟨gb262, 5, none⟩ = some (.int .i64 a1_5) := cC BK262 5; have hcz44_6 : w41.cell? ⟨gb262, 6, none⟩ = some (.int .i64 a1_6) := cC BK262 6; have hcz44_7 : w41.cell? ⟨gb262, 7, none⟩ = some (.int .i64 a1_7) := cC BK262 7; have hfz44_0 := blk_frozen BK262.out 0; have hfz44_1 := blk_frozen BK262.out 1; have hfz44_2 := blk_frozen BK262.out 2; have hfz44_3 := blk_frozen BK262.out 3; have hfz44_4 := blk_frozen BK262.out 4; have hfz44_5 := blk_frozen BK262.out 5; have hfz44_6 := blk_frozen BK262.out 6; have hfz44_7 := blk_frozen BK262.out 7) | ((with_reducible refine gate_callee (f := 183) rfl ?_); refine goesL_ (some 9) rfl rfl Try.func183 (by kernel_rfl) rfl #[.agg #[.int .i64 a0_0, .int .i64 a0_1, .int .i64 a0_2, .int .i64 a0_3, .int .i64 a0_4], .agg #[.int .i64 a1_0, .int .i64 a1_1, .int .i64 a1_2, .int .i64 a1_3, .int .i64 a1_4]] rfl (by (try simp only [mA, mC, mN]); first | done | rfl | (simp only [lD, lT]; rfl)) ?_; (with_reducible refine (laws_eqThing.calls a0_0 a0_1 a0_2 a0_3 a0_4 a1_0 a1_1 a1_2 a1_3 a1_4 false _ A3.out).mono ?_); rintro e w45 ⟨rfl, hb⟩; refine ⟨_, rfl, ?_⟩; have n0_ := Aside0.mk (blk_below (qK BK261) hb); have n1_ := Aside0.mk (blk_below (qK BK262) hb); have n2_ := Aside0.mk (below_step (by repeat first | (with_reducible first | exact HB.out | apply bA | apply bN | apply bD | refine bS ?_ GE261.out | refine bS ?_ GE262.out) | exact HB.out) hb); clear BK261; clear BK262; clear HB; have BK261 := n0_; have BK262 := n1_; have HB := n2_; clear n0_ n1_ n2_; (try clear hb); (try clear hb2); (try clear hk); (try clear hi)))
  go_ret
  exact ⟨by first | rfl | (simp [errW_none, errW_some] <;> rfl) | (simp [*, errW_none, errW_some] <;> rfl), by repeat (first | (with_reducible first | exact HB.out | apply bA | apply bN | apply bD | refine bS ?_ GE261.out | refine bS ?_ GE262.out) | exact HB.out)⟩

/-! ### laws_eqFindS: function 77 -/
def laws_eqFindS.l0 : Nat → List (S98) → List (S98) → Int → Option (Bool)
 | 0, _, _, _ => none
 | k + 1, x0, x1, x5 => if x5 < (x0.length : Int) then (if 0 ≤ x5 then (if x5 < (x1.length : Int) then ((laws_eqFind.f ((rd_T98 x0 x5).f0.f0) ((rd_T98 x0 x5).f0.f1) ((rd_T98 x0 x5).f0.f2) ((rd_T98 x0 x5).f0.f3) ((rd_T98 x0 x5).f0.f4) ((rd_T98 x0 x5).f1) ((rd_T98 x0 x5).f2) ((rd_T98 x0 x5).f3) ((rd_T98 x1 x5).f0.f0) ((rd_T98 x1 x5).f0.f1) ((rd_T98 x1 x5).f0.f2) ((rd_T98 x1 x5).f0.f3) ((rd_T98 x1 x5).f0.f4) ((rd_T98 x1 x5).f1) ((rd_T98 x1 x5).f2) ((rd_T98 x1 x5).f3)).bind fun t266 => (if t266 = true then (laws_eqFindS.l0 k x0 x1 (wrap64 (x5 + 1))) else (some false))) else (none)) else (none)) else (some true)
def laws_eqFindS.f (k : Nat) (l0 : List (S98)) (l1 : List (S98)) : Option (Bool) := if (l0.length : Int) = (l1.length : Int) then (laws_eqFindS.l0 k l0 l1 0) else (some false)
theorem laws_eqFindS.mono_l : ∀ k, (∀ y0 y1 y2, LeO (laws_eqFindS.l0 k y0 y1 y2) (laws_eqFindS.l0 (k + 1) y0 y1 y2))
 | 0 => fun _ _ _ r h => by simp [laws_eqFindS.l0] at h
 | k + 1 => by
  have ih0 := laws_eqFindS.mono_l k
  ·intro y0 y1 y2
   unfold laws_eqFindS.l0
   repeat' first
   | (with_reducible exact ih0 _ _ _)
   | (with_reducible exact LeO.refl _)
   | (with_reducible exact LeO.none _)
   | (with_reducible refine LeO.ite ?_ ?_)
   | (with_reducible refine LeO.bind ?_ (fun _ => ?_))
   | exact ih0 _ _ _
   | exact LeO.none _
   | refine LeO.ite ?_ ?_
   | refine LeO.bind ?_ (fun _ => ?_)
theorem laws_eqFindS.mono : ∀ a0 a1 k, LeO (laws_eqFindS.f k a0 a1) (laws_eqFindS.f (k + 1) a0 a1) := by
 intro a0 a1 k
 have ih0 := laws_eqFindS.mono_l k
 unfold laws_eqFindS.f
 repeat' first
   | (with_reducible exact ih0 _ _ _)
   | (with_reducible exact LeO.refl _)
   | (with_reducible exact LeO.none _)
   | (with_reducible refine LeO.ite ?_ ?_)
   | (with_reducible refine LeO.bind ?_ (fun _ => ?_))
   | exact ih0 _ _ _
   | exact LeO.none _
   | refine LeO.ite ?_ ?_
   | refine LeO.bind ?_ (fun _ => ?_)
def laws_eqFindS.T6 : Bool × List (List Nat × List Nat) := (true, [([], []), ([], []), ([0, 1], [0, 1]), ([2], [2]), ([], []), ([], []), ([4, 5], [4, 5]), ([6], [6]), ([3, 7], [3, 7]), ([8], [8])])
def laws_eqFindS.B6 : List Nat := [0, 0, 3, 7, 0, 0, 48, 112, 255, 511]
theorem laws_eqFindS.tab6 : rtab .any (opsOf Try.f77 6) = laws_eqFindS.T6 := by kernel_rfl
theorem laws_eqFindS.bits6 : waitsOk laws_eqFindS.T6.2 laws_eqFindS.B6 = true := by kernel_rfl
set_option maxHeartbeats 8000000 in
set_option maxRecDepth 100000 in
theorem laws_eqFindS.calls (k : Nat) (A0 : Option Addr) (c0 : Nat) (l0 : List (S98)) (A1 : Option Addr) (c1 : Nat) (l1 : List (S98)) (r : Bool) (w : World) (hr0 : Kd.C k98 w A0 l0.length l0) (hc0 : l0.length ≤ c0) (hr1 : Kd.C k98 w A1 l1.length l1) (hc1 : l1.length ≤ c1) (h : laws_eqFindS.f k l0 l1 = some r) :
  Calls Try.prog 77 #[.slice A0 l0.length c0, .slice A1 l1.length c1] w fun e w' => e = .returned (.bool r) ∧ Below w.heap.size w w' := by
 have hu98 := Try.underlying98
 have HR0 := Aside0.mk hr0
 have HC0 := Aside0.mk hc0
 clear hr0 hc0
 have HR1 := Aside0.mk hr1
 have HC1 := Aside0.mk hc1
 clear hr1 hc1
 have HB := Aside0.mk (Below.refl w.heap.size w)
 have H : (if (l0.length : Int) = (l1.length : Int) then (laws_eqFindS.l0 k l0 l1 0) else (some false)) = some r := h
 clear h
 by_cases c3 : (l0.length : Int) = (l1.length : Int)
 ·rw [if_pos c3] at H
  have c3b0 : ((l0.length : Int) == (l1.length : Int)) = true := beq_iff_eq.mpr c3
  have c3b1 : ((l0.length : Int) != (l1.length : Int)) = false := bne_eq_false_iff_eq.mpr c3
  have c3b2 : (l0.length == l1.length) = true := by first | simpa using c3 | (simp at c3 ⊢; omega)
  clear c3
  have H' := Aside0.mk H
  clear H
  go_enter Try.func77, Try.ntmps77
  go_wp2
  go_loopg [5] k (fun kq v5 w' => ∃ (x5_1 : Int), v5 = .int .i64 x5_1 ∧ Aside0 (laws_eqFindS.l0 kq l0 l1 x5_1 = some r) ∧ Aside0 (kq ≤ k) ∧ Aside0 (Below w.heap.size w w'))
  case atStart => exact ⟨(0), (by first | rfl | (simp; done) | (simp [*]; done)), H', ⟨Nat.le_refl _⟩, ⟨by repeat (first | (with_reducible first | exact HB.out | apply bA | apply bN | apply bD) | exact HB.out)⟩⟩
  case round =>
   clear H'
   try clear c1
   try clear p2
   try clear c3
   try clear c3b0
   try clear c3b1
   try clear c3b2
   obtain ⟨x5_1, rfl, HA, HK1, HB⟩ := hrel
   cases gk with
   | zero => exact absurd HA.out (by simp [laws_eqFindS.l0])
   | succ k1 =>
    have H := HA.out
    clear HA
    simp only [laws_eqFindS.l0] at H
    by_cases c4 : x5_1 < (l0.length : Int)
    ·rw [if_pos c4] at H
     have c4b0 : decide (x5_1 < (l0.length : Int)) = true := decide_eq_true c4
     clear c4
     by_cases c5 : 0 ≤ x5_1
     ·rw [if_pos c5] at H
      have c5b0 : decide (0 ≤ x5_1) = true := decide_eq_true c5
      clear c5
      by_cases c6 : x5_1 < (l1.length : Int)
      ·rw [if_pos c6] at H
       have c6b0 : decide (x5_1 < (l1.length : Int)) = true := decide_eq_true c6
       clear c6
       replace H := Option.bind_eq_some_iff.mp H
       obtain ⟨t266, A70, H⟩ := H
       replace H : (if t266 = true then (laws_eqFindS.l0 k1 l0 l1 (wrap64 (x5_1 + 1))) else (some false)) = some r := H
       have A7 := Aside0.mk A70
       clear A70
       by_cases c8 : t266 = true
       ·subst c8
        have H1 : (laws_eqFindS.l0 k1 l0 l1 (wrap64 (x5_1 + 1))) = some r := by rw [if_pos rfl] at H; exact H
        clear H
        have H := H1
        clear H1
        have H' := Aside0.mk H
        clear H
        try go_wp2
        have n0_ := Aside0.mk (below_drew1 HB.out)
        clear HB
        have HB := n0_
        clear n0_
        have p264 : 0 ≤ (x5_1 : Int) := of_decide_eq_true ‹_›
        have q264 : x5_1 < (l0.length : Int) := of_decide_eq_true ‹_›
        obtain ⟨ad264, e264, hx264_0, hx264_1, hx264_2, hx264_3, hx264_4, hx264_5, hx264_6, hx264_7⟩ := at_T98 HR0.out x5_1 p264 q264
        have hw264_7 := hx264_7
        have hw264_6 := hx264_6
        have hw264_5 := hx264_5
        have hw264_4 := hx264_4
        have hw264_3 := hx264_3
        have hw264_2 := hx264_2
        have hw264_1 := hx264_1
        have hw264_0 := hx264_0
        cases e264
        replace hx264_0 := (HB.out.cell (World.block_lt_of_cell? w _ hx264_0)).trans hx264_0
        replace hx264_1 := (HB.out.cell (World.block_lt_of_cell? w _ hx264_1)).trans hx264_1
        replace hx264_2 := (HB.out.cell (World.block_lt_of_cell? w _ hx264_2)).trans hx264_2
        replace hx264_3 := (HB.out.cell (World.block_lt_of_cell? w _ hx264_3)).trans hx264_3
        replace hx264_4 := (HB.out.cell (World.block_lt_of_cell? w _ hx264_4)).trans hx264_4
        replace hx264_5 := (HB.out.cell (World.block_lt_of_cell? w _ hx264_5)).trans hx264_5
        replace hx264_6 := (HB.out.cell (World.block_lt_of_cell? w _ hx264_6)).trans hx264_6
        replace hx264_7 := (HB.out.cell (World.block_lt_of_cell? w _ hx264_7)).trans hx264_7
        replace p264 := eq_true p264
        replace q264 := eq_true q264
        have p265 : 0 ≤ (x5_1 : Int) := of_decide_eq_true ‹_›
        have q265 : x5_1 < (l1.length : Int) := of_decide_eq_true ‹_›
        obtain ⟨ad265, e265, hx265_0, hx265_1, hx265_2, hx265_3, hx265_4, hx265_5, hx265_6, hx265_7⟩ := at_T98 HR1.out x5_1 p265 q265
        have hw265_7 := hx265_7
        have hw265_6 := hx265_6
        have hw265_5 := hx265_5
        have hw265_4 := hx265_4
        have hw265_3 := hx265_3
        have hw265_2 := hx265_2
        have hw265_1 := hx265_1
        have hw265_0 := hx265_0
        cases e265
        replace hx265_0 := (HB.out.cell (World.block_lt_of_cell? w _ hx265_0)).trans hx265_0
        replace hx265_1 := (HB.out.cell (World.block_lt_of_cell? w _ hx265_1)).trans hx265_1
        replace hx265_2 := (HB.out.cell (World.block_lt_of_cell? w _ hx265_2)).trans hx265_2
        replace hx265_3 := (HB.out.cell (World.block_lt_of_cell? w _ hx265_3)).trans hx265_3
        replace hx265_4 := (HB.out.cell (World.block_lt_of_cell? w _ hx265_4)).trans hx265_4
        replace hx265_5 := (HB.out.cell (World.block_lt_of_cell? w _ hx265_5)).trans hx265_5
        replace hx265_6 := (HB.out.cell (World.block_lt_of_cell? w _ hx265_6)).trans hx265_6
        replace hx265_7 := (HB.out.cell (World.block_lt_of_cell? w _ hx265_7)).trans hx265_7
        replace p265 := eq_true p265
        replace q265 := eq_true q265
        refine start_ (n := 10) (S := fun w' => w'.cell? (ad264.add ((x5_1).toNat * 8)) = some (.int .i64 ((rd_T98 l0 x5_1).f0.f0)) ∧ w'.cell? ⟨(ad264.add ((x5_1).toNat * 8)).block, (ad264.add ((x5_1).toNat * 8)).off + 1, none⟩ = some (.int .i64 ((rd_T98 l0 x5_1).f0.f1)) ∧ w'.cell? ⟨(ad264.add ((x5_1).toNat * 8)).block, (ad264.add ((x5_1).toNat * 8)).off + 2, none⟩ = some (.int .i64 ((rd_T98 l0 x5_1).f0.f2)) ∧ w'.cell? ⟨(ad264.add ((x5_1).toNat * 8)).block, (ad264.add ((x5_1).toNat * 8)).off + 3, none⟩ = some (.int .i64 ((rd_T98 l0 x5_1).f0.f3)) ∧ w'.cell? ⟨(ad264.add ((x5_1).toNat * 8)).block, (ad264.add ((x5_1).toNat * 8)).off + 4, none⟩ = some (.int .i64 ((rd_T98 l0 x5_1).f0.f4)) ∧ w'.cell? ⟨(ad264.add ((x5_1).toNat * 8)).block, (ad264.add ((x5_1).toNat * 8)).off + 5, none⟩ = some (.int .i64 ((rd_T98 l0 x5_1).f1)) ∧ w'.cell? ⟨(ad264.add ((x5_1).toNat * 8)).block, (ad264.add ((x5_1).toNat * 8)).off + 6, none⟩ = some (.int .i64 ((rd_T98 l0 x5_1).f2)) ∧ w'.cell? ⟨(ad264.add ((x5_1).toNat * 8)).block, (ad264.add ((x5_1).toNat * 8)).off + 7, none⟩ = some (.int .i64 ((rd_T98 l0 x5_1).f3)) ∧ w'.cell? (ad265.add ((x5_1).toNat * 8)) = some (.int .i64 ((rd_T98 l1 x5_1).f0.f0)) ∧ w'.cell? ⟨(ad265.add ((x5_1).toNat * 8)).block, (ad265.add ((x5_1).toNat * 8)).off + 1, none⟩ = some (.int .i64 ((rd_T98 l1 x5_1).f0.f1)) ∧ w'.cell? ⟨(ad265.add ((x5_1).toNat * 8)).block, (ad265.add ((x5_1).toNat * 8)).off + 2, none⟩ = some (.int .i64 ((rd_T98 l1 x5_1).f0.f2)) ∧ w'.cell? ⟨(ad265.add ((x5_1).toNat * 8)).block, (ad265.add ((x5_1).toNat * 8)).off + 3, none⟩ = some (.int .i64 ((rd_T98 l1 x5_1).f0.f3)) ∧ w'.cell? ⟨(ad265.add ((x5_1).toNat * 8)).block, (ad265.add ((x5_1).toNat * 8)).off + 4, none⟩ = some (.int .i64 ((rd_T98 l1 x5_1).f0.f4)) ∧ w'.cell? ⟨(ad265.add ((x5_1).toNat * 8)).block, (ad265.add ((x5_1).toNat * 8)).off + 5, none⟩ = some (.int .i64 ((rd_T98 l1 x5_1).f1)) ∧ w'.cell? ⟨(ad265.add ((x5_1).toNat * 8)).block, (ad265.add ((x5_1).toNat * 8)).off + 6, none⟩ = some (.int .i64 ((rd_T98 l1 x5_1).f2)) ∧ w'.cell? ⟨(ad265.add ((x5_1).toNat * 8)).block, (ad265.add ((x5_1).toNat * 8)).off + 7, none⟩ = some (.int .i64 ((rd_T98 l1 x5_1).f3))) (ds := []) (bR [0, 10]) (by kernel_rfl) rfl rfl ⟨((HB.out.cell (World.block_lt_of_cell? w _ hw264_0)).trans hw264_0), ((HB.out.cell (World.block_lt_of_cell? w _ hw264_1)).trans hw264_1), ((HB.out.cell (World.block_lt_of_cell? w _ hw264_2)).trans hw264_2), ((HB.out.cell (World.block_lt_of_cell? w _ hw264_3)).trans hw264_3), ((HB.out.cell (World.block_lt_of_cell? w _ hw264_4)).trans hw264_4), ((HB.out.cell (World.block_lt_of_cell? w _ hw264_5)).trans hw264_5), ((HB.out.cell (World.block_lt_of_cell? w _ hw264_6)).trans hw264_6), ((HB.out.cell (World.block_lt_of_cell? w _ hw264_7)).trans hw264_7), ((HB.out.cell (World.block_lt_of_cell? w _ hw265_0)).trans hw265_0), ((HB.out.cell (World.block_lt_of_cell? w _ hw265_1)).trans hw265_1), ((HB.out.cell (World.block_lt_of_cell? w _ hw265_2)).trans hw265_2), ((HB.out.cell (World.block_lt_of_cell? w _ hw265_3)).trans hw265_3), ((HB.out.cell (World.block_lt_of_cell? w _ hw265_4)).trans hw265_4), ((HB.out.cell (World.block_lt_of_cell? w _ hw265_5)).trans hw265_5), ((HB.out.cell (World.block_lt_of_cell? w _ hw265_6)).trans hw265_6), ((HB.out.cell (World.block_lt_of_cell? w _ hw265_7)).trans hw265_7)⟩ (fun hHeld => ?_); refine with_tabW laws_eqFindS.tab6 laws_eqFindS.bits6 (fun HT_ HW_ => ?_)
        generalize wr.drew = w9 at HB hx264_0 hx264_1 hx264_2 hx264_3 hx264_4 hx264_5 hx264_6 hx264_7 hx265_0 hx265_1 hx265_2 hx265_3 hx265_4 hx265_5 hx265_6 hx265_7 hHeld ⊢
        refine pP 0 17 (bR [1, 9]) rfl rfl HT_ ?_
        refine pP 1 18 (bR [2, 8]) rfl rfl HT_ ?_
        refine pP 2 19 (bR [3, 7]) rfl rfl HT_ ?_
        refine pP 4 21 (bR [3, 1, 1, 5]) rfl rfl HT_ ?_
        refine pP 5 22 (bR [3, 1, 2, 4]) rfl rfl HT_ ?_
        refine pP 6 23 (bR [3, 1, 3, 3]) rfl rfl HT_ ?_
        refine take_ (i := 3) (N := some 20) (v := ?_) (a' := ?_) (bR [7, 3]) rfl rfl (take_ofW HT_.out HW_.out (by kernel_rfl)) (fun _ _ _ h => h) (Or.inl ⟨by rfl, ?_⟩) hHeld ?_ ?_
        rotate_left; (rintro w' ⟨s0, s1, s2, s3, s4, s5, s6, s7, s8, s9, s10, s11, s12, s13, s14, s15⟩; go_simp; with_reducible rfl); rotate_left; (simp only [Act.put, sA, sZ, sS, i64_w]; rfl)
        refine take_ (i := 7) (N := some 24) (v := ?_) (a' := ?_) (bR [8, 2]) rfl rfl (take_ofW HT_.out HW_.out (by kernel_rfl)) (fun _ _ _ h => h) (Or.inl ⟨by rfl, ?_⟩) hHeld ?_ ?_
        rotate_left; (rintro w' ⟨s0, s1, s2, s3, s4, s5, s6, s7, s8, s9, s10, s11, s12, s13, s14, s15⟩; go_simp; with_reducible rfl); rotate_left; (simp only [Act.put, sA, sZ, sS, i64_w]; rfl)
        refine one_ (i := 8) (N := some 25) (bR [9, 1]) rfl rfl (one_of HT_.out (by kernel_rfl)) (by decide) (fun K hK => ?_)
        refine goes_ Try.func145 (by kernel_rfl) rfl #[.agg #[.int .i64 ((rd_T98 l0 x5_1).f0.f0), .int .i64 ((rd_T98 l0 x5_1).f0.f1), .int .i64 ((rd_T98 l0 x5_1).f0.f2), .int .i64 ((rd_T98 l0 x5_1).f0.f3), .int .i64 ((rd_T98 l0 x5_1).f0.f4), .int .i64 ((rd_T98 l0 x5_1).f1), .int .i64 ((rd_T98 l0 x5_1).f2), .int .i64 ((rd_T98 l0 x5_1).f3)], .agg #[.int .i64 ((rd_T98 l1 x5_1).f0.f0), .int .i64 ((rd_T98 l1 x5_1).f0.f1), .int .i64 ((rd_T98 l1 x5_1).f0.f2), .int .i64 ((rd_T98 l1 x5_1).f0.f3), .int .i64 ((rd_T98 l1 x5_1).f0.f4), .int .i64 ((rd_T98 l1 x5_1).f1), .int .i64 ((rd_T98 l1 x5_1).f2), .int .i64 ((rd_T98 l1 x5_1).f3)]] (by rfl) rfl rfl (by (try simp only [mA, mC, mN]); first | done | rfl | (simp only [lD, lT]; rfl)) ?_
        with_reducible refine (laws_eqFind.calls ((rd_T98 l0 x5_1).f0.f0) ((rd_T98 l0 x5_1).f0.f1) ((rd_T98 l0 x5_1).f0.f2) ((rd_T98 l0 x5_1).f0.f3) ((rd_T98 l0 x5_1).f0.f4) ((rd_T98 l0 x5_1).f1) ((rd_T98 l0 x5_1).f2) ((rd_T98 l0 x5_1).f3) ((rd_T98 l1 x5_1).f0.f0) ((rd_T98 l1 x5_1).f0.f1) ((rd_T98 l1 x5_1).f0.f2) ((rd_T98 l1 x5_1).f0.f3) ((rd_T98 l1 x5_1).f0.f4) ((rd_T98 l1 x5_1).f1) ((rd_T98 l1 x5_1).f2) ((rd_T98 l1 x5_1).f3) true _ A7.out).mono ?_
        rintro e w10 ⟨rfl, hb⟩
        refine ⟨_, rfl, ?_⟩
        have n0_ := Aside0.mk (below_step (qB HB) hb)
        clear HB
        have HB := n0_
        clear n0_
        (try clear hb)
        (try clear hb2)
        (try clear hk)
        (try clear hi)
        refine hK.out _ _ ⟨((HB.out.cell (World.block_lt_of_cell? w _ hw264_0)).trans hw264_0), ((HB.out.cell (World.block_lt_of_cell? w _ hw264_1)).trans hw264_1), ((HB.out.cell (World.block_lt_of_cell? w _ hw264_2)).trans hw264_2), ((HB.out.cell (World.block_lt_of_cell? w _ hw264_3)).trans hw264_3), ((HB.out.cell (World.block_lt_of_cell? w _ hw264_4)).trans hw264_4), ((HB.out.cell (World.block_lt_of_cell? w _ hw264_5)).trans hw264_5), ((HB.out.cell (World.block_lt_of_cell? w _ hw264_6)).trans hw264_6), ((HB.out.cell (World.block_lt_of_cell? w _ hw264_7)).trans hw264_7), ((HB.out.cell (World.block_lt_of_cell? w _ hw265_0)).trans hw265_0), ((HB.out.cell (World.block_lt_of_cell? w _ hw265_1)).trans hw265_1), ((HB.out.cell (World.block_lt_of_cell? w _ hw265_2)).trans hw265_2), ((HB.out.cell (World.block_lt_of_cell? w _ hw265_3)).trans hw265_3), ((HB.out.cell (World.block_lt_of_cell? w _ hw265_4)).trans hw265_4), ((HB.out.cell (World.block_lt_of_cell? w _ hw265_5)).trans hw265_5), ((HB.out.cell (World.block_lt_of_cell? w _ hw265_6)).trans hw265_6), ((HB.out.cell (World.block_lt_of_cell? w _ hw265_7)).trans hw265_7)⟩ (fun hHeld => ?_)
        clear hK K
        refine norm_ (a' := ?_) ?_ ?_
        rotate_left
        ·show Act.put _ (some 25) _ = _
         simp only [Act.put, sA, sZ, sS, i64_w]
         rfl
        refine pP 9 26 (bR [10]) rfl rfl HT_ ?_
        refine done_ (done_of HT_.out (by kernel_rfl)) ?_
        try go_wp2
        go_roundg k1
        case measure => have := HK1.out; omega
        case rel => exact ⟨(wrap64 (x5_1 + 1)), (by first | rfl | (simp; done) | (simp [*]; done)), H', ⟨by have := HK1.out; omega⟩, ⟨by repeat (first | (with_reducible first | exact HB.out | apply bA | apply bN | apply bD) | exact HB.out)⟩⟩
       ·replace c8 := Bool.eq_false_iff.mpr c8
        subst c8
        have H1 : (some false) = some r := by rw [if_neg (show ¬ (false = true) by decide)] at H; exact H
        clear H
        have H := H1
        clear H1
        obtain rfl := Option.some.inj H
        try go_wp2
        have n0_ := Aside0.mk (below_drew1 HB.out)
        clear HB
        have HB := n0_
        clear n0_
        have p264 : 0 ≤ (x5_1 : Int) := of_decide_eq_true ‹_›
        have q264 : x5_1 < (l0.length : Int) := of_decide_eq_true ‹_›
        obtain ⟨ad264, e264, hx264_0, hx264_1, hx264_2, hx264_3, hx264_4, hx264_5, hx264_6, hx264_7⟩ := at_T98 HR0.out x5_1 p264 q264
        have hw264_7 := hx264_7
        have hw264_6 := hx264_6
        have hw264_5 := hx264_5
        have hw264_4 := hx264_4
        have hw264_3 := hx264_3
        have hw264_2 := hx264_2
        have hw264_1 := hx264_1
        have hw264_0 := hx264_0
        cases e264
        replace hx264_0 := (HB.out.cell (World.block_lt_of_cell? w _ hx264_0)).trans hx264_0
        replace hx264_1 := (HB.out.cell (World.block_lt_of_cell? w _ hx264_1)).trans hx264_1
        replace hx264_2 := (HB.out.cell (World.block_lt_of_cell? w _ hx264_2)).trans hx264_2
        replace hx264_3 := (HB.out.cell (World.block_lt_of_cell? w _ hx264_3)).trans hx264_3
        replace hx264_4 := (HB.out.cell (World.block_lt_of_cell? w _ hx264_4)).trans hx264_4
        replace hx264_5 := (HB.out.cell (World.block_lt_of_cell? w _ hx264_5)).trans hx264_5
        replace hx264_6 := (HB.out.cell (World.block_lt_of_cell? w _ hx264_6)).trans hx264_6
        replace hx264_7 := (HB.out.cell (World.block_lt_of_cell? w _ hx264_7)).trans hx264_7
        replace p264 := eq_true p264
        replace q264 := eq_true q264
        have p265 : 0 ≤ (x5_1 : Int) := of_decide_eq_true ‹_›
        have q265 : x5_1 < (l1.length : Int) := of_decide_eq_true ‹_›
        obtain ⟨ad265, e265, hx265_0, hx265_1, hx265_2, hx265_3, hx265_4, hx265_5, hx265_6, hx265_7⟩ := at_T98 HR1.out x5_1 p265 q265
        have hw265_7 := hx265_7
        have hw265_6 := hx265_6
        have hw265_5 := hx265_5
        have hw265_4 := hx265_4
        have hw265_3 := hx265_3
        have hw265_2 := hx265_2
        have hw265_1 := hx265_1
        have hw265_0 := hx265_0
        cases e265
        replace hx265_0 := (HB.out.cell (World.block_lt_of_cell? w _ hx265_0)).trans hx265_0
        replace hx265_1 := (HB.out.cell (World.block_lt_of_cell? w _ hx265_1)).trans hx265_1
        replace hx265_2 := (HB.out.cell (World.block_lt_of_cell? w _ hx265_2)).trans hx265_2
        replace hx265_3 := (HB.out.cell (World.block_lt_of_cell? w _ hx265_3)).trans hx265_3
        replace hx265_4 := (HB.out.cell (World.block_lt_of_cell? w _ hx265_4)).trans hx265_4
        replace hx265_5 := (HB.out.cell (World.block_lt_of_cell? w _ hx265_5)).trans hx265_5
        replace hx265_6 := (HB.out.cell (World.block_lt_of_cell? w _ hx265_6)).trans hx265_6
        replace hx265_7 := (HB.out.cell (World.block_lt_of_cell? w _ hx265_7)).trans hx265_7
        replace p265 := eq_true p265
        replace q265 := eq_true q265
        refine start_ (n := 10) (S := fun w' => w'.cell? (ad264.add ((x5_1).toNat * 8)) = some (.int .i64 ((rd_T98 l0 x5_1).f0.f0)) ∧ w'.cell? ⟨(ad264.add ((x5_1).toNat * 8)).block, (ad264.add ((x5_1).toNat * 8)).off + 1, none⟩ = some (.int .i64 ((rd_T98 l0 x5_1).f0.f1)) ∧ w'.cell? ⟨(ad264.add ((x5_1).toNat * 8)).block, (ad264.add ((x5_1).toNat * 8)).off + 2, none⟩ = some (.int .i64 ((rd_T98 l0 x5_1).f0.f2)) ∧ w'.cell? ⟨(ad264.add ((x5_1).toNat * 8)).block, (ad264.add ((x5_1).toNat * 8)).off + 3, none⟩ = some (.int .i64 ((rd_T98 l0 x5_1).f0.f3)) ∧ w'.cell? ⟨(ad264.add ((x5_1).toNat * 8)).block, (ad264.add ((x5_1).toNat * 8)).off + 4, none⟩ = some (.int .i64 ((rd_T98 l0 x5_1).f0.f4)) ∧ w'.cell? ⟨(ad264.add ((x5_1).toNat * 8)).block, (ad264.add ((x5_1).toNat * 8)).off + 5, none⟩ = some (.int .i64 ((rd_T98 l0 x5_1).f1)) ∧ w'.cell? ⟨(ad264.add ((x5_1).toNat * 8)).block, (ad264.add ((x5_1).toNat * 8)).off + 6, none⟩ = some (.int .i64 ((rd_T98 l0 x5_1).f2)) ∧ w'.cell? ⟨(ad264.add ((x5_1).toNat * 8)).block, (ad264.add ((x5_1).toNat * 8)).off + 7, none⟩ = some (.int .i64 ((rd_T98 l0 x5_1).f3)) ∧ w'.cell? (ad265.add ((x5_1).toNat * 8)) = some (.int .i64 ((rd_T98 l1 x5_1).f0.f0)) ∧ w'.cell? ⟨(ad265.add ((x5_1).toNat * 8)).block, (ad265.add ((x5_1).toNat * 8)).off + 1, none⟩ = some (.int .i64 ((rd_T98 l1 x5_1).f0.f1)) ∧ w'.cell? ⟨(ad265.add ((x5_1).toNat * 8)).block, (ad265.add ((x5_1).toNat * 8)).off + 2, none⟩ = some (.int .i64 ((rd_T98 l1 x5_1).f0.f2)) ∧ w'.cell? ⟨(ad265.add ((x5_1).toNat * 8)).block, (ad265.add ((x5_1).toNat * 8)).off + 3, none⟩ = some (.int .i64 ((rd_T98 l1 x5_1).f0.f3)) ∧ w'.cell? ⟨(ad265.add ((x5_1).toNat * 8)).block, (ad265.add ((x5_1).toNat * 8)).off + 4, none⟩ = some (.int .i64 ((rd_T98 l1 x5_1).f0.f4)) ∧ w'.cell? ⟨(ad265.add ((x5_1).toNat * 8)).block, (ad265.add ((x5_1).toNat * 8)).off + 5, none⟩ = some (.int .i64 ((rd_T98 l1 x5_1).f1)) ∧ w'.cell? ⟨(ad265.add ((x5_1).toNat * 8)).block, (ad265.add ((x5_1).toNat * 8)).off + 6, none⟩ = some (.int .i64 ((rd_T98 l1 x5_1).f2)) ∧ w'.cell? ⟨(ad265.add ((x5_1).toNat * 8)).block, (ad265.add ((x5_1).toNat * 8)).off + 7, none⟩ = some (.int .i64 ((rd_T98 l1 x5_1).f3))) (ds := []) (bR [0, 10]) (by kernel_rfl) rfl rfl ⟨((HB.out.cell (World.block_lt_of_cell? w _ hw264_0)).trans hw264_0), ((HB.out.cell (World.block_lt_of_cell? w _ hw264_1)).trans hw264_1), ((HB.out.cell (World.block_lt_of_cell? w _ hw264_2)).trans hw264_2), ((HB.out.cell (World.block_lt_of_cell? w _ hw264_3)).trans hw264_3), ((HB.out.cell (World.block_lt_of_cell? w _ hw264_4)).trans hw264_4), ((HB.out.cell (World.block_lt_of_cell? w _ hw264_5)).trans hw264_5), ((HB.out.cell (World.block_lt_of_cell? w _ hw264_6)).trans hw264_6), ((HB.out.cell (World.block_lt_of_cell? w _ hw264_7)).trans hw264_7), ((HB.out.cell (World.block_lt_of_cell? w _ hw265_0)).trans hw265_0), ((HB.out.cell (World.block_lt_of_cell? w _ hw265_1)).trans hw265_1), ((HB.out.cell (World.block_lt_of_cell? w _ hw265_2)).trans hw265_2), ((HB.out.cell (World.block_lt_of_cell? w _ hw265_3)).trans hw265_3), ((HB.out.cell (World.block_lt_of_cell? w _ hw265_4)).trans hw265_4), ((HB.out.cell (World.block_lt_of_cell? w _ hw265_5)).trans hw265_5), ((HB.out.cell (World.block_lt_of_cell? w _ hw265_6)).trans hw265_6), ((HB.out.cell (World.block_lt_of_cell? w _ hw265_7)).trans hw265_7)⟩ (fun hHeld => ?_); refine with_tabW laws_eqFindS.tab6 laws_eqFindS.bits6 (fun HT_ HW_ => ?_)
        generalize wr.drew = w11 at HB hx264_0 hx264_1 hx264_2 hx264_3 hx264_4 hx264_5 hx264_6 hx264_7 hx265_0 hx265_1 hx265_2 hx265_3 hx265_4 hx265_5 hx265_6 hx265_7 hHeld ⊢
        refine pP 0 17 (bR [1, 9]) rfl rfl HT_ ?_
        refine pP 1 18 (bR [2, 8]) rfl rfl HT_ ?_
        refine pP 2 19 (bR [3, 7]) rfl rfl HT_ ?_
        refine pP 4 21 (bR [3, 1, 1, 5]) rfl rfl HT_ ?_
        refine pP 5 22 (bR [3, 1, 2, 4]) rfl rfl HT_ ?_
        refine pP 6 23 (bR [3, 1, 3, 3]) rfl rfl HT_ ?_
        refine take_ (i := 3) (N := some 20) (v := ?_) (a' := ?_) (bR [7, 3]) rfl rfl (take_ofW HT_.out HW_.out (by kernel_rfl)) (fun _ _ _ h => h) (Or.inl ⟨by rfl, ?_⟩) hHeld ?_ ?_
        rotate_left; (rintro w' ⟨s0, s1, s2, s3, s4, s5, s6, s7, s8, s9, s10, s11, s12, s13, s14, s15⟩; go_simp; with_reducible rfl); rotate_left; (simp only [Act.put, sA, sZ, sS, i64_w]; rfl)
        refine take_ (i := 7) (N := some 24) (v := ?_) (a' := ?_) (bR [8, 2]) rfl rfl (take_ofW HT_.out HW_.out (by kernel_rfl)) (fun _ _ _ h => h) (Or.inl ⟨by rfl, ?_⟩) hHeld ?_ ?_
        rotate_left; (rintro w' ⟨s0, s1, s2, s3, s4, s5, s6, s7, s8, s9, s10, s11, s12, s13, s14, s15⟩; go_simp; with_reducible rfl); rotate_left; (simp only [Act.put, sA, sZ, sS, i64_w]; rfl)
        refine one_ (i := 8) (N := some 25) (bR [9, 1]) rfl rfl (one_of HT_.out (by kernel_rfl)) (by decide) (fun K hK => ?_)
        refine goes_ Try.func145 (by kernel_rfl) rfl #[.agg #[.int .i64 ((rd_T98 l0 x5_1).f0.f0), .int .i64 ((rd_T98 l0 x5_1).f0.f1), .int .i64 ((rd_T98 l0 x5_1).f0.f2), .int .i64 ((rd_T98 l0 x5_1).f0.f3), .int .i64 ((rd_T98 l0 x5_1).f0.f4), .int .i64 ((rd_T98 l0 x5_1).f1), .int .i64 ((rd_T98 l0 x5_1).f2), .int .i64 ((rd_T98 l0 x5_1).f3)], .agg #[.int .i64 ((rd_T98 l1 x5_1).f0.f0), .int .i64 ((rd_T98 l1 x5_1).f0.f1), .int .i64 ((rd_T98 l1 x5_1).f0.f2), .int .i64 ((rd_T98 l1 x5_1).f0.f3), .int .i64 ((rd_T98 l1 x5_1).f0.f4), .int .i64 ((rd_T98 l1 x5_1).f1), .int .i64 ((rd_T98 l1 x5_1).f2), .int .i64 ((rd_T98 l1 x5_1).f3)]] (by rfl) rfl rfl (by (try simp only [mA, mC, mN]); first | done | rfl | (simp only [lD, lT]; rfl)) ?_
        with_reducible refine (laws_eqFind.calls ((rd_T98 l0 x5_1).f0.f0) ((rd_T98 l0 x5_1).f0.f1) ((rd_T98 l0 x5_1).f0.f2) ((rd_T98 l0 x5_1).f0.f3) ((rd_T98 l0 x5_1).f0.f4) ((rd_T98 l0 x5_1).f1) ((rd_T98 l0 x5_1).f2) ((rd_T98 l0 x5_1).f3) ((rd_T98 l1 x5_1).f0.f0) ((rd_T98 l1 x5_1).f0.f1) ((rd_T98 l1 x5_1).f0.f2) ((rd_T98 l1 x5_1).f0.f3) ((rd_T98 l1 x5_1).f0.f4) ((rd_T98 l1 x5_1).f1) ((rd_T98 l1 x5_1).f2) ((rd_T98 l1 x5_1).f3) false _ A7.out).mono ?_
        rintro e w12 ⟨rfl, hb⟩
        refine ⟨_, rfl, ?_⟩
        have n0_ := Aside0.mk (below_step (qB HB) hb)
        clear HB
        have HB := n0_
        clear n0_
        (try clear hb)
        (try clear hb2)
        (try clear hk)
        (try clear hi)
        refine hK.out _ _ ⟨((HB.out.cell (World.block_lt_of_cell? w _ hw264_0)).trans hw264_0), ((HB.out.cell (World.block_lt_of_cell? w _ hw264_1)).trans hw264_1), ((HB.out.cell (World.block_lt_of_cell? w _ hw264_2)).trans hw264_2), ((HB.out.cell (World.block_lt_of_cell? w _ hw264_3)).trans hw264_3), ((HB.out.cell (World.block_lt_of_cell? w _ hw264_4)).trans hw264_4), ((HB.out.cell (World.block_lt_of_cell? w _ hw264_5)).trans hw264_5), ((HB.out.cell (World.block_lt_of_cell? w _ hw264_6)).trans hw264_6), ((HB.out.cell (World.block_lt_of_cell? w _ hw264_7)).trans hw264_7), ((HB.out.cell (World.block_lt_of_cell? w _ hw265_0)).trans hw265_0), ((HB.out.cell (World.block_lt_of_cell? w _ hw265_1)).trans hw265_1), ((HB.out.cell (World.block_lt_of_cell? w _ hw265_2)).trans hw265_2), ((HB.out.cell (World.block_lt_of_cell? w _ hw265_3)).trans hw265_3), ((HB.out.cell (World.block_lt_of_cell? w _ hw265_4)).trans hw265_4), ((HB.out.cell (World.block_lt_of_cell? w _ hw265_5)).trans hw265_5), ((HB.out.cell (World.block_lt_of_cell? w _ hw265_6)).trans hw265_6), ((HB.out.cell (World.block_lt_of_cell? w _ hw265_7)).trans hw265_7)⟩ (fun hHeld => ?_)
        clear hK K
        refine norm_ (a' := ?_) ?_ ?_
        rotate_left
        ·show Act.put _ (some 25) _ = _
         simp only [Act.put, sA, sZ, sS, i64_w]
         rfl
        refine pP 9 26 (bR [10]) rfl rfl HT_ ?_
        refine done_ (done_of HT_.out (by kernel_rfl)) ?_
        try go_wp2
        go_ret
        exact ⟨by first | rfl | (simp [errW_none, errW_some] <;> rfl) | (simp [*, errW_none, errW_some] <;> rfl), by repeat (first | (with_reducible first | exact HB.out | apply bA | apply bN | apply bD) | exact HB.out)⟩
      ·rw [if_neg c6] at H
       exact absurd H (by simp)
     ·rw [if_neg c5] at H
      exact absurd H (by simp)
    ·rw [if_neg c4] at H
     have c4b0 : decide (x5_1 < (l0.length : Int)) = false := decide_eq_false c4
     clear c4
     obtain rfl := Option.some.inj H
     go_wp2
     go_ret
     exact ⟨by first | rfl | (simp [errW_none, errW_some] <;> rfl) | (simp [*, errW_none, errW_some] <;> rfl), by repeat (first | (with_reducible first | exact HB.out | apply bA | apply bN | apply bD) | exact HB.out)⟩
 ·rw [if_neg c3] at H
  have c3b0 : ((l0.length : Int) == (l1.length : Int)) = false := beq_eq_false_iff_ne.mpr c3
  have c3b1 : ((l0.length : Int) != (l1.length : Int)) = true := bne_iff_ne.mpr c3
  have c3b2 : (l0.length == l1.length) = false := by first | simpa using c3 | (simp at c3 ⊢; omega)
  obtain rfl := Option.some.inj H
  go_enter Try.func77, Try.ntmps77
  go_wp2
  go_ret
  exact ⟨by first | rfl | (simp [errW_none, errW_some] <;> rfl) | (simp [*, errW_none, errW_some] <;> rfl), by repeat (first | (with_reducible first | exact HB.out | apply bA | apply bN | apply bD) | exact HB.out)⟩

end Go.Proofs.Ytppgealmedaihaa.PFnExactBestOf
