-- The printed functions of one law and their contracts, over contracts of this session's own (hand.py).
import Derived.Test.YtppgealmedaihaaPFnExactAddClaimx0
import Derived.Test.YtppgealmedaihaaPFnExactAddClaimx2
namespace Go.Proofs.Ytppgealmedaihaa.PFnExactAddClaim
open Go.RowKit Go.Proofs.YtppgealmedaihaaW.PrintWords Go.Proofs.YtppgealmedaihaaW.PrintLast Go.Proofs.YtppgealmedaihaaW.PrintMore Go.Proofs.Ytppgealmedaihaa.Short
attribute [local go_sem] max2_int min2_int max_two min_two max_three min_three max_four min_four   -- for this text's walks alone
set_option linter.unusedVariables false
set_option linter.unusedSimpArgs false

/-! ### spec_AddClaim: function 48 -/
def spec_AddClaim.l0 : Nat → List (S84) → Int → Bool → Int → Int → Int → Int → Int → Int → Option ((List (S84)) × Bool)
 | 0, _, _, _, _, _, _, _, _, _ => none
 | k + 1, x0, x6, x7, x8, x112000, x112001, x112002, x112003, x112004 => if x8 < (x0.length : Int) then (if x7 = true then (if 0 ≤ x8 then (if ((rd_T84 x0 x8).f0) < x112000 then (spec_AddClaim.l0 k x0 (wrap64 (x8 + 1)) true (wrap64 (x8 + 1)) x112000 x112001 x112002 x112003 x112004) else (spec_AddClaim.l0 k x0 x6 true (wrap64 (x8 + 1)) x112000 x112001 x112002 x112003 x112004)) else (none)) else (if 0 ≤ x8 then (if ((rd_T84 x0 x8).f1) = x112001 then (if ((rd_T84 x0 x8).f0) < x112000 then (spec_AddClaim.l0 k x0 (wrap64 (x8 + 1)) (((rd_T84 x0 x8).f2) == x112002) (wrap64 (x8 + 1)) x112000 x112001 x112002 x112003 x112004) else (spec_AddClaim.l0 k x0 x6 (((rd_T84 x0 x8).f2) == x112002) (wrap64 (x8 + 1)) x112000 x112001 x112002 x112003 x112004)) else (if ((rd_T84 x0 x8).f0) < x112000 then (spec_AddClaim.l0 k x0 (wrap64 (x8 + 1)) false (wrap64 (x8 + 1)) x112000 x112001 x112002 x112003 x112004) else (spec_AddClaim.l0 k x0 x6 false (wrap64 (x8 + 1)) x112000 x112001 x112002 x112003 x112004))) else (none))) else ((some (([] : List (S84)) : List (S84))).bind fun y117 => (if 0 ≤ x6 then (if x6 ≤ (x0.length : Int) then ((some (x0.take (x6 : Int).toNat : List (S84))).bind fun y120 => (if y117.length + y120.length < 3518437208883 then ((some (y117 ++ y120 : List (S84))).bind fun y124 => ((some (([(⟨x112000, x112001, x112002, x112003, x112004⟩ : S84)] : List (S84)) : List (S84))).bind fun y127 => (if y124.length + y127.length < 3518437208883 then ((some (y124 ++ y127 : List (S84))).bind fun y130 => ((some (x0.drop (x6 : Int).toNat : List (S84))).bind fun y133 => (if y130.length + y133.length < 3518437208883 then ((some (y130 ++ y133 : List (S84))).bind fun y137 => (if x7 = true then ((some (([] : List (S84)) : List (S84))).bind fun y140 => (if y140.length + x0.length < 3518437208883 then (some ((y140 ++ x0), false)) else (none))) else ((spec_AreClaims.f k y137).bind fun t146 => (if t146 = true then (some (y137, true)) else ((some (([] : List (S84)) : List (S84))).bind fun y147 => (if y147.length + x0.length < 3518437208883 then (some ((y147 ++ x0), false)) else (none))))))) else (none)))) else (none)))) else (none))) else (none)) else (none)))
def spec_AddClaim.f (k : Nat) (l0 : List (S84)) (a1_0 : Int) (a1_1 : Int) (a1_2 : Int) (a1_3 : Int) (a1_4 : Int) : Option ((List (S84)) × Bool) := spec_AddClaim.l0 k l0 0 (a1_4 != 0) 0 a1_0 a1_1 a1_2 a1_3 a1_4
theorem spec_AddClaim.mono_l : ∀ k, (∀ y0 y1 y2 y3 y4 y5 y6 y7 y8, LeO (spec_AddClaim.l0 k y0 y1 y2 y3 y4 y5 y6 y7 y8) (spec_AddClaim.l0 (k + 1) y0 y1 y2 y3 y4 y5 y6 y7 y8))
 | 0 => fun _ _ _ _ _ _ _ _ _ r h => by simp [spec_AddClaim.l0] at h
 | k + 1 => by
  have ih0 := spec_AddClaim.mono_l k
  ·intro y0 y1 y2 y3 y4 y5 y6 y7 y8
   unfold spec_AddClaim.l0
   repeat' first
   | (with_reducible exact ih0 _ _ _ _ _ _ _ _ _)
   | (with_reducible exact spec_AreClaims.mono _ _)
   | (with_reducible exact LeO.refl _)
   | (with_reducible exact LeO.none _)
   | (with_reducible refine LeO.ite ?_ ?_)
   | (with_reducible refine LeO.bind ?_ (fun _ => ?_))
   | exact ih0 _ _ _ _ _ _ _ _ _
   | exact spec_AreClaims.mono _ _
   | exact LeO.none _
   | refine LeO.ite ?_ ?_
   | refine LeO.bind ?_ (fun _ => ?_)
theorem spec_AddClaim.mono : ∀ a0 a1 a2 a3 a4 a5 k, LeO (spec_AddClaim.f k a0 a1 a2 a3 a4 a5) (spec_AddClaim.f (k + 1) a0 a1 a2 a3 a4 a5) := by
 intro a0 a1 a2 a3 a4 a5 k
 have ih0 := spec_AddClaim.mono_l k
 unfold spec_AddClaim.f
 repeat' first
   | (with_reducible exact ih0 _ _ _ _ _ _ _ _ _)
   | (with_reducible exact spec_AreClaims.mono _ _)
   | (with_reducible exact LeO.refl _)
   | (with_reducible exact LeO.none _)
   | (with_reducible refine LeO.ite ?_ ?_)
   | (with_reducible refine LeO.bind ?_ (fun _ => ?_))
   | exact ih0 _ _ _ _ _ _ _ _ _
   | exact spec_AreClaims.mono _ _
   | exact LeO.none _
   | refine LeO.ite ?_ ?_
   | refine LeO.bind ?_ (fun _ => ?_)
def spec_AddClaim.T6 : Bool × List (List Nat × List Nat) := (true, [([], []), ([0], [0]), ([1], [1]), ([1], [1]), ([2, 3, 1], [1, 2, 3]), ([4, 1], [1, 4]), ([5, 1], [1, 5]), ([1], [1]), ([7, 1], [1, 7]), ([6, 8, 1], [1, 6, 8]), ([9, 1, 1], [1, 9]), ([10], [10]), ([10], [10]), ([11, 12, 10], [10, 11, 12]), ([13, 10], [10, 13]), ([14, 10], [10, 14]), ([10], [10]), ([16, 10], [10, 16]), ([15, 17, 10], [10, 15, 17]), ([10, 18, 1], [1, 10, 18]), ([1, 19], [1, 19]), ([20, 10, 0, 1, 2, 3, 4, 5, 6, 7, 8, 9, 10, 11, 12, 13, 14, 15, 16, 17, 18, 19, 20], [0, 20])])
def spec_AddClaim.B6 : List Nat := [0, 1, 3, 3, 15, 31, 63, 3, 131, 511, 1023, 2047, 2047, 8191, 16383, 32767, 2047, 67583, 262143, 524287, 1048575, 2097151]
theorem spec_AddClaim.tab6 : rtab .any (opsOf Try.f48 6) = spec_AddClaim.T6 := by kernel_rfl
theorem spec_AddClaim.bits6 : waitsOk spec_AddClaim.T6.2 spec_AddClaim.B6 = true := by kernel_rfl
def spec_AddClaim.T7 : Bool × List (List Nat × List Nat) := (true, [([], []), ([], []), ([0, 1], [0, 1]), ([2], [2]), ([3], [3]), ([], []), ([5], [5]), ([4, 6], [4, 6])])
def spec_AddClaim.B7 : List Nat := [0, 0, 3, 7, 15, 0, 32, 127]
theorem spec_AddClaim.tab7 : rtab .any (opsOf Try.f48 7) = spec_AddClaim.T7 := by kernel_rfl
theorem spec_AddClaim.bits7 : waitsOk spec_AddClaim.T7.2 spec_AddClaim.B7 = true := by kernel_rfl
def spec_AddClaim.T9 : Bool × List (List Nat × List Nat) := (true, [([], []), ([], []), ([], []), ([1, 2], [1, 2]), ([0, 3], [0, 3]), ([], []), ([5], [5]), ([4, 6, 4], [4, 6]), ([], []), ([], []), ([8, 9], [8, 9]), ([7, 10, 7], [7, 10]), ([11, 11, 0, 1, 2, 3, 4, 5, 6, 7, 8, 9, 10, 11], [11])])
def spec_AddClaim.B9 : List Nat := [0, 0, 0, 6, 15, 0, 32, 127, 0, 0, 768, 2047, 4095]
theorem spec_AddClaim.tab9 : rtab .any (opsOf Try.f48 9) = spec_AddClaim.T9 := by kernel_rfl
theorem spec_AddClaim.bits9 : waitsOk spec_AddClaim.T9.2 spec_AddClaim.B9 = true := by kernel_rfl
set_option maxHeartbeats 8000000 in
set_option maxRecDepth 100000 in
theorem spec_AddClaim.calls (k : Nat) (A0 : Option Addr) (c0 : Nat) (l0 : List (S84)) (a1_0 : Int) (a1_1 : Int) (a1_2 : Int) (a1_3 : Int) (a1_4 : Int) (r1 : List (S84)) (r2 : Bool) (w : World) (hr0 : Kd.C k84 w A0 l0.length l0) (hc0 : l0.length ≤ c0) (h : spec_AddClaim.f k l0 a1_0 a1_1 a1_2 a1_3 a1_4 = some (r1, r2)) :
  Calls Try.prog 48 #[.slice A0 l0.length c0, .agg #[.int .i64 a1_0, .int .i64 a1_1, .int .i64 a1_2, .int .i64 a1_3, .int .i64 a1_4]] w fun e w' => ∃ v0_ : Value, e = .returned (.tuple #[v0_, .bool r2]) ∧ Kd.R k84 84 w' w.heap.size (fun _ => True) v0_ r1 ∧ Below w.heap.size w w' := by
 have hu84 := Try.underlying84
 have HR0 := Aside0.mk hr0
 have HC0 := Aside0.mk hc0
 clear hr0 hc0
 have HB := Aside0.mk (Below.refl w.heap.size w)
 have H : (spec_AddClaim.l0 k l0 0 (a1_4 != 0) 0 a1_0 a1_1 a1_2 a1_3 a1_4) = some (r1, r2) := h
 clear h
 have H' := Aside0.mk H
 clear H
 go_enter Try.func48, Try.ntmps48
 go_wp2_with (first | ((with_reducible refine gate_dst (N := 3) rfl ?_); refine box_event ?hg (N := 3) ?hd (cs := #[.int .i64 a1_0, .int .i64 a1_1, .int .i64 a1_2, .int .i64 a1_3, .int .i64 a1_4]) (t := 84) ?hr ?_; (case hd => rfl); (case hg => rfl); (case hr => first | (go_simp; done) | (go_simp; rfl)); intro gb111 hg w3 hbox hb; have n0_ := Aside0.mk (below_step (qB HB) hb); have n1_ := Aside0.mk (hbox); have n2_ := Aside0.mk ((by rw [hg]; exact (below_size (qB HB)) : w.heap.size ≤ gb111)); have n3_ := Aside0.mk ((by rw [hg]; exact (below_size (qB HB)) : w.heap.size ≤ gb111)); clear HB; have HB := n0_; have BK111 := n1_; have GW111 := n2_; have GE111 := n3_; clear n0_ n1_ n2_ n3_; clear hb hbox hg; have hcz4_0 : w3.cell? ⟨gb111, 0, none⟩ = some (.int .i64 a1_0) := cC BK111 0; have hcz4_1 : w3.cell? ⟨gb111, 1, none⟩ = some (.int .i64 a1_1) := cC BK111 1; have hcz4_2 : w3.cell? ⟨gb111, 2, none⟩ = some (.int .i64 a1_2) := cC BK111 2; have hcz4_3 : w3.cell? ⟨gb111, 3, none⟩ = some (.int .i64 a1_3) := cC BK111 3; have hcz4_4 : w3.cell? ⟨gb111, 4, none⟩ = some (.int .i64 a1_4) := cC BK111 4; have hfz4_0 := blk_frozen BK111.out 0; have hfz4_1 := blk_frozen BK111.out 1; have hfz4_2 := blk_frozen BK111.out 2; have hfz4_3 := blk_frozen BK111.out 3; have hfz4_4 := blk_frozen BK111.out 4))
 go_loopg [6, 7, 8] k (fun kq v6 v7 v8 w' => ∃ (x6_1 : Int) (x7_1 : Bool) (x8_1 : Int), v6 = .int .i64 x6_1 ∧ v7 = .bool x7_1 ∧ v8 = .int .i64 x8_1 ∧ Aside0 (spec_AddClaim.l0 kq l0 x6_1 x7_1 x8_1 a1_0 a1_1 a1_2 a1_3 a1_4 = some (r1, r2)) ∧ Aside0 (kq ≤ k) ∧ Aside0 (w'.heap[gb111]? = some (.cells #[.int .i64 a1_0, .int .i64 a1_1, .int .i64 a1_2, .int .i64 a1_3, .int .i64 a1_4] 84 (0, 0))) ∧ Aside0 (Below w.heap.size w w'))
 case atStart => exact ⟨(0), ((a1_4 != 0)), (0), (by first | rfl | (simp; done) | (simp [*]; done)), (by first | rfl | (simp; done) | (simp [*]; done)), (by first | rfl | (simp; done) | (simp [*]; done)), H', ⟨Nat.le_refl _⟩, ⟨by (with_reducible repeat first | refine kN ?_ _ | refine kD ?_ | refine kA ?_ _); exact BK111.out⟩, ⟨by repeat (first | (with_reducible first | exact HB.out | apply bA | apply bN | apply bD | refine bS ?_ GE111.out) | exact HB.out)⟩⟩
 case round =>
  clear H'
  try clear p2
  try clear c4
  try clear hcz4_0
  try clear hcz4_1
  try clear hcz4_2
  try clear hcz4_3
  try clear hcz4_4
  try clear hfz4_0
  try clear hfz4_1
  try clear hfz4_2
  try clear hfz4_3
  try clear hfz4_4
  obtain ⟨x6_1, x7_1, x8_1, rfl, rfl, rfl, HA, HK1, BK111, HB⟩ := hrel
  cases gk with
  | zero => exact absurd HA.out (by simp [spec_AddClaim.l0])
  | succ k1 =>
   have H := HA.out
   clear HA
   simp only [spec_AddClaim.l0] at H
   by_cases c5 : x8_1 < (l0.length : Int)
   ·rw [if_pos c5] at H
    have c5b0 : decide (x8_1 < (l0.length : Int)) = true := decide_eq_true c5
    clear c5
    by_cases c6 : x7_1 = true
    ·subst c6
     have H1 : (if 0 ≤ x8_1 then (if ((rd_T84 l0 x8_1).f0) < a1_0 then (spec_AddClaim.l0 k1 l0 (wrap64 (x8_1 + 1)) true (wrap64 (x8_1 + 1)) a1_0 a1_1 a1_2 a1_3 a1_4) else (spec_AddClaim.l0 k1 l0 x6_1 true (wrap64 (x8_1 + 1)) a1_0 a1_1 a1_2 a1_3 a1_4)) else (none)) = some (r1, r2) := by rw [if_pos rfl] at H; exact H
     clear H
     have H := H1
     clear H1
     by_cases c7 : 0 ≤ x8_1
     ·rw [if_pos c7] at H
      have c7b0 : decide (0 ≤ x8_1) = true := decide_eq_true c7
      clear c7
      by_cases c8 : ((rd_T84 l0 x8_1).f0) < a1_0
      ·rw [if_pos c8] at H
       have c8b0 : decide (((rd_T84 l0 x8_1).f0) < a1_0) = true := decide_eq_true c8
       clear c8
       have H' := Aside0.mk H
       clear H
       try go_wp2
       have n0_ := Aside0.mk (blk_drew BK111.out)
       have n1_ := Aside0.mk (below_drew1 HB.out)
       clear BK111
       clear HB
       have BK111 := n0_
       have HB := n1_
       clear n0_ n1_
       refine start_ (n := 22) (S := fun w' => True) (ds := []) (bR [0, 22]) (by kernel_rfl) rfl rfl trivial (fun hHeld => ?_); refine with_tabW spec_AddClaim.tab6 spec_AddClaim.bits6 (fun HT_ HW_ => ?_)
       generalize wr.drew = w9 at BK111 HB hHeld ⊢
       refine pP 0 19 (bR [1, 21]) rfl rfl HT_ ?_
       refine pP 1 20 (bR [2, 20]) rfl rfl HT_ ?_
       refine pU 2 21 (bR [3, 19]) rfl rfl HT_ ?_
       refine pU 3 22 (bR [4, 18]) rfl rfl HT_ ?_
       refine pU 4 23 (bR [5, 17]) rfl rfl HT_ ?_
       refine pU 5 24 (bR [6, 16]) rfl rfl HT_ ?_
       refine pU 6 25 (bR [7, 15]) rfl rfl HT_ ?_
       refine pU 7 26 (bR [8, 14]) rfl rfl HT_ ?_
       refine pU 8 27 (bR [9, 13]) rfl rfl HT_ ?_
       refine pU 9 28 (bR [10, 12]) rfl rfl HT_ ?_
       refine pU 10 29 (bR [11, 11]) rfl rfl HT_ ?_
       refine pU 11 30 (bR [12, 10]) rfl rfl HT_ ?_
       refine pU 12 31 (bR [13, 9]) rfl rfl HT_ ?_
       refine pU 13 32 (bR [14, 8]) rfl rfl HT_ ?_
       refine pU 14 33 (bR [15, 7]) rfl rfl HT_ ?_
       refine pU 15 34 (bR [16, 6]) rfl rfl HT_ ?_
       refine pU 16 35 (bR [17, 5]) rfl rfl HT_ ?_
       refine pU 17 36 (bR [18, 4]) rfl rfl HT_ ?_
       refine pU 18 37 (bR [19, 3]) rfl rfl HT_ ?_
       refine pU 19 38 (bR [20, 2]) rfl rfl HT_ ?_
       refine pP 20 39 (bR [21, 1]) rfl rfl HT_ ?_
       refine pP 21 7 (bR [22]) rfl rfl HT_ ?_
       refine done_ (done_of HT_.out (by kernel_rfl)) ?_
       try go_wp2
       have n0_ := Aside0.mk (blk_drew BK111.out)
       have n1_ := Aside0.mk (below_drew1 HB.out)
       clear BK111
       clear HB
       have BK111 := n0_
       have HB := n1_
       clear n0_ n1_
       have p112 : 0 ≤ (x8_1 : Int) := of_decide_eq_true ‹_›
       have q112 : x8_1 < (l0.length : Int) := of_decide_eq_true ‹_›
       obtain ⟨ad112, e112, hx112_0, hx112_1, hx112_2, hx112_3, hx112_4⟩ := at_T84 HR0.out x8_1 p112 q112
       have hw112_4 := hx112_4
       have hw112_3 := hx112_3
       have hw112_2 := hx112_2
       have hw112_1 := hx112_1
       have hw112_0 := hx112_0
       cases e112
       replace hx112_0 := (HB.out.cell (World.block_lt_of_cell? w _ hx112_0)).trans hx112_0
       replace hx112_1 := (HB.out.cell (World.block_lt_of_cell? w _ hx112_1)).trans hx112_1
       replace hx112_2 := (HB.out.cell (World.block_lt_of_cell? w _ hx112_2)).trans hx112_2
       replace hx112_3 := (HB.out.cell (World.block_lt_of_cell? w _ hx112_3)).trans hx112_3
       replace hx112_4 := (HB.out.cell (World.block_lt_of_cell? w _ hx112_4)).trans hx112_4
       replace p112 := eq_true p112
       replace q112 := eq_true q112
       refine start_ (n := 8) (S := fun w' => w'.cell? ⟨gb111, 0, none⟩ = some (.int .i64 a1_0) ∧ w'.cell? ⟨gb111, 1, none⟩ = some (.int .i64 a1_1) ∧ w'.cell? ⟨gb111, 2, none⟩ = some (.int .i64 a1_2) ∧ w'.cell? ⟨gb111, 3, none⟩ = some (.int .i64 a1_3) ∧ w'.cell? ⟨gb111, 4, none⟩ = some (.int .i64 a1_4) ∧ w'.cell? (ad112.add ((x8_1).toNat * 5)) = some (.int .i64 ((rd_T84 l0 x8_1).f0)) ∧ w'.cell? ⟨(ad112.add ((x8_1).toNat * 5)).block, (ad112.add ((x8_1).toNat * 5)).off + 1, none⟩ = some (.int .i64 ((rd_T84 l0 x8_1).f1)) ∧ w'.cell? ⟨(ad112.add ((x8_1).toNat * 5)).block, (ad112.add ((x8_1).toNat * 5)).off + 2, none⟩ = some (.int .i64 ((rd_T84 l0 x8_1).f2)) ∧ w'.cell? ⟨(ad112.add ((x8_1).toNat * 5)).block, (ad112.add ((x8_1).toNat * 5)).off + 3, none⟩ = some (.int .i64 ((rd_T84 l0 x8_1).f3)) ∧ w'.cell? ⟨(ad112.add ((x8_1).toNat * 5)).block, (ad112.add ((x8_1).toNat * 5)).off + 4, none⟩ = some (.int .i64 ((rd_T84 l0 x8_1).f4))) (ds := []) (bR [0, 8]) (by kernel_rfl) rfl rfl ⟨cC BK111 0, cC BK111 1, cC BK111 2, cC BK111 3, cC BK111 4, ((HB.out.cell (World.block_lt_of_cell? w _ hw112_0)).trans hw112_0), ((HB.out.cell (World.block_lt_of_cell? w _ hw112_1)).trans hw112_1), ((HB.out.cell (World.block_lt_of_cell? w _ hw112_2)).trans hw112_2), ((HB.out.cell (World.block_lt_of_cell? w _ hw112_3)).trans hw112_3), ((HB.out.cell (World.block_lt_of_cell? w _ hw112_4)).trans hw112_4)⟩ (fun hHeld => ?_); refine with_tabW spec_AddClaim.tab7 spec_AddClaim.bits7 (fun HT_ HW_ => ?_)
       generalize w9.drew = w10 at BK111 HB hx112_0 hx112_1 hx112_2 hx112_3 hx112_4 hHeld ⊢
       refine pP 0 40 (bR [1, 7]) rfl rfl HT_ ?_
       refine pP 1 41 (bR [2, 6]) rfl rfl HT_ ?_
       refine pP 2 42 (bR [3, 5]) rfl rfl HT_ ?_
       refine pP 3 43 (bR [4, 4]) rfl rfl HT_ ?_
       refine pP 5 45 (bR [4, 1, 1, 2]) rfl rfl HT_ ?_
       refine take_ (i := 4) (N := some 44) (v := ?_) (a' := ?_) (bR [6, 2]) rfl rfl (take_ofW HT_.out HW_.out (by kernel_rfl)) (fun _ _ _ h => h) (Or.inl ⟨by rfl, ?_⟩) hHeld ?_ ?_
       rotate_left; (rintro w' ⟨s0, s1, s2, s3, s4, s5, s6, s7, s8, s9⟩; go_simp; with_reducible rfl); rotate_left; (simp only [Act.put, sA, sZ, sS, i64_w]; rfl)
       refine take_ (i := 6) (N := some 46) (v := ?_) (a' := ?_) (bR [7, 1]) rfl rfl (take_ofW HT_.out HW_.out (by kernel_rfl)) (fun _ _ _ h => h) (Or.inl ⟨by rfl, ?_⟩) hHeld ?_ ?_
       rotate_left; (rintro w' ⟨s0, s1, s2, s3, s4, s5, s6, s7, s8, s9⟩; go_simp; with_reducible rfl); rotate_left; (simp only [Act.put, sA, sZ, sS, i64_w]; rfl)
       refine pP 7 47 (bR [8]) rfl rfl HT_ ?_
       refine done_ (done_of HT_.out (by kernel_rfl)) ?_
       try go_wp2
       go_roundg k1
       case measure => have := HK1.out; omega
       case rel => exact ⟨(wrap64 (x8_1 + 1)), (true), (wrap64 (x8_1 + 1)), (by first | rfl | (simp; done) | (simp [*]; done)), (by first | rfl | (simp; done) | (simp [*]; done)), (by first | rfl | (simp; done) | (simp [*]; done)), H', ⟨by have := HK1.out; omega⟩, ⟨by (with_reducible repeat first | refine kN ?_ _ | refine kD ?_ | refine kA ?_ _); exact BK111.out⟩, ⟨by repeat (first | (with_reducible first | exact HB.out | apply bA | apply bN | apply bD | refine bS ?_ GE111.out) | exact HB.out)⟩⟩
      ·rw [if_neg c8] at H
       have c8b0 : decide (((rd_T84 l0 x8_1).f0) < a1_0) = false := decide_eq_false c8
       clear c8
       have H' := Aside0.mk H
       clear H
       try go_wp2
       have n0_ := Aside0.mk (blk_drew BK111.out)
       have n1_ := Aside0.mk (below_drew1 HB.out)
       clear BK111
       clear HB
       have BK111 := n0_
       have HB := n1_
       clear n0_ n1_
       refine start_ (n := 22) (S := fun w' => True) (ds := []) (bR [0, 22]) (by kernel_rfl) rfl rfl trivial (fun hHeld => ?_); refine with_tabW spec_AddClaim.tab6 spec_AddClaim.bits6 (fun HT_ HW_ => ?_)
       generalize wr.drew = w11 at BK111 HB hHeld ⊢
       refine pP 0 19 (bR [1, 21]) rfl rfl HT_ ?_
       refine pP 1 20 (bR [2, 20]) rfl rfl HT_ ?_
       refine pU 2 21 (bR [3, 19]) rfl rfl HT_ ?_
       refine pU 3 22 (bR [4, 18]) rfl rfl HT_ ?_
       refine pU 4 23 (bR [5, 17]) rfl rfl HT_ ?_
       refine pU 5 24 (bR [6, 16]) rfl rfl HT_ ?_
       refine pU 6 25 (bR [7, 15]) rfl rfl HT_ ?_
       refine pU 7 26 (bR [8, 14]) rfl rfl HT_ ?_
       refine pU 8 27 (bR [9, 13]) rfl rfl HT_ ?_
       refine pU 9 28 (bR [10, 12]) rfl rfl HT_ ?_
       refine pU 10 29 (bR [11, 11]) rfl rfl HT_ ?_
       refine pU 11 30 (bR [12, 10]) rfl rfl HT_ ?_
       refine pU 12 31 (bR [13, 9]) rfl rfl HT_ ?_
       refine pU 13 32 (bR [14, 8]) rfl rfl HT_ ?_
       refine pU 14 33 (bR [15, 7]) rfl rfl HT_ ?_
       refine pU 15 34 (bR [16, 6]) rfl rfl HT_ ?_
       refine pU 16 35 (bR [17, 5]) rfl rfl HT_ ?_
       refine pU 17 36 (bR [18, 4]) rfl rfl HT_ ?_
       refine pU 18 37 (bR [19, 3]) rfl rfl HT_ ?_
       refine pU 19 38 (bR [20, 2]) rfl rfl HT_ ?_
       refine pP 20 39 (bR [21, 1]) rfl rfl HT_ ?_
       refine pP 21 7 (bR [22]) rfl rfl HT_ ?_
       refine done_ (done_of HT_.out (by kernel_rfl)) ?_
       try go_wp2
       have n0_ := Aside0.mk (blk_drew BK111.out)
       have n1_ := Aside0.mk (below_drew1 HB.out)
       clear BK111
       clear HB
       have BK111 := n0_
       have HB := n1_
       clear n0_ n1_
       have p112 : 0 ≤ (x8_1 : Int) := of_decide_eq_true ‹_›
       have q112 : x8_1 < (l0.length : Int) := of_decide_eq_true ‹_›
       obtain ⟨ad112, e112, hx112_0, hx112_1, hx112_2, hx112_3, hx112_4⟩ := at_T84 HR0.out x8_1 p112 q112
       have hw112_4 := hx112_4
       have hw112_3 := hx112_3
       have hw112_2 := hx112_2
       have hw112_1 := hx112_1
       have hw112_0 := hx112_0
       cases e112
       replace hx112_0 := (HB.out.cell (World.block_lt_of_cell? w _ hx112_0)).trans hx112_0
       replace hx112_1 := (HB.out.cell (World.block_lt_of_cell? w _ hx112_1)).trans hx112_1
       replace hx112_2 := (HB.out.cell (World.block_lt_of_cell? w _ hx112_2)).trans hx112_2
       replace hx112_3 := (HB.out.cell (World.block_lt_of_cell? w _ hx112_3)).trans hx112_3
       replace hx112_4 := (HB.out.cell (World.block_lt_of_cell? w _ hx112_4)).trans hx112_4
       replace p112 := eq_true p112
       replace q112 := eq_true q112
       refine start_ (n := 8) (S := fun w' => w'.cell? ⟨gb111, 0, none⟩ = some (.int .i64 a1_0) ∧ w'.cell? ⟨gb111, 1, none⟩ = some (.int .i64 a1_1) ∧ w'.cell? ⟨gb111, 2, none⟩ = some (.int .i64 a1_2) ∧ w'.cell? ⟨gb111, 3, none⟩ = some (.int .i64 a1_3) ∧ w'.cell? ⟨gb111, 4, none⟩ = some (.int .i64 a1_4) ∧ w'.cell? (ad112.add ((x8_1).toNat * 5)) = some (.int .i64 ((rd_T84 l0 x8_1).f0)) ∧ w'.cell? ⟨(ad112.add ((x8_1).toNat * 5)).block, (ad112.add ((x8_1).toNat * 5)).off + 1, none⟩ = some (.int .i64 ((rd_T84 l0 x8_1).f1)) ∧ w'.cell? ⟨(ad112.add ((x8_1).toNat * 5)).block, (ad112.add ((x8_1).toNat * 5)).off + 2, none⟩ = some (.int .i64 ((rd_T84 l0 x8_1).f2)) ∧ w'.cell? ⟨(ad112.add ((x8_1).toNat * 5)).block, (ad112.add ((x8_1).toNat * 5)).off + 3, none⟩ = some (.int .i64 ((rd_T84 l0 x8_1).f3)) ∧ w'.cell? ⟨(ad112.add ((x8_1).toNat * 5)).block, (ad112.add ((x8_1).toNat * 5)).off + 4, none⟩ = some (.int .i64 ((rd_T84 l0 x8_1).f4))) (ds := []) (bR [0, 8]) (by kernel_rfl) rfl rfl ⟨cC BK111 0, cC BK111 1, cC BK111 2, cC BK111 3, cC BK111 4, ((HB.out.cell (World.block_lt_of_cell? w _ hw112_0)).trans hw112_0), ((HB.out.cell (World.block_lt_of_cell? w _ hw112_1)).trans hw112_1), ((HB.out.cell (World.block_lt_of_cell? w _ hw112_2)).trans hw112_2), ((HB.out.cell (World.block_lt_of_cell? w _ hw112_3)).trans hw112_3), ((HB.out.cell (World.block_lt_of_cell? w _ hw112_4)).trans hw112_4)⟩ (fun hHeld => ?_); refine with_tabW spec_AddClaim.tab7 spec_AddClaim.bits7 (fun HT_ HW_ => ?_)
       generalize w11.drew = w12 at BK111 HB hx112_0 hx112_1 hx112_2 hx112_3 hx112_4 hHeld ⊢
       refine pP 0 40 (bR [1, 7]) rfl rfl HT_ ?_
       refine pP 1 41 (bR [2, 6]) rfl rfl HT_ ?_
       refine pP 2 42 (bR [3, 5]) rfl rfl HT_ ?_
       refine pP 3 43 (bR [4, 4]) rfl rfl HT_ ?_
       refine pP 5 45 (bR [4, 1, 1, 2]) rfl rfl HT_ ?_
       refine take_ (i := 4) (N := some 44) (v := ?_) (a' := ?_) (bR [6, 2]) rfl rfl (take_ofW HT_.out HW_.out (by kernel_rfl)) (fun _ _ _ h => h) (Or.inl ⟨by rfl, ?_⟩) hHeld ?_ ?_
       rotate_left; (rintro w' ⟨s0, s1, s2, s3, s4, s5, s6, s7, s8, s9⟩; go_simp; with_reducible rfl); rotate_left; (simp only [Act.put, sA, sZ, sS, i64_w]; rfl)
       refine take_ (i := 6) (N := some 46) (v := ?_) (a' := ?_) (bR [7, 1]) rfl rfl (take_ofW HT_.out HW_.out (by kernel_rfl)) (fun _ _ _ h => h) (Or.inl ⟨by rfl, ?_⟩) hHeld ?_ ?_
       rotate_left; (rintro w' ⟨s0, s1, s2, s3, s4, s5, s6, s7, s8, s9⟩; go_simp; with_reducible rfl); rotate_left; (simp only [Act.put, sA, sZ, sS, i64_w]; rfl)
       refine pP 7 47 (bR [8]) rfl rfl HT_ ?_
       refine done_ (done_of HT_.out (by kernel_rfl)) ?_
       try go_wp2
       go_roundg k1
       case measure => have := HK1.out; omega
       case rel => exact ⟨(x6_1), (true), (wrap64 (x8_1 + 1)), (by first | rfl | (simp; done) | (simp [*]; done)), (by first | rfl | (simp; done) | (simp [*]; done)), (by first | rfl | (simp; done) | (simp [*]; done)), H', ⟨by have := HK1.out; omega⟩, ⟨by (with_reducible repeat first | refine kN ?_ _ | refine kD ?_ | refine kA ?_ _); exact BK111.out⟩, ⟨by repeat (first | (with_reducible first | exact HB.out | apply bA | apply bN | apply bD | refine bS ?_ GE111.out) | exact HB.out)⟩⟩
     ·rw [if_neg c7] at H
      exact absurd H (by simp)
    ·replace c6 := Bool.eq_false_iff.mpr c6
     subst c6
     have H1 : (if 0 ≤ x8_1 then (if ((rd_T84 l0 x8_1).f1) = a1_1 then (if ((rd_T84 l0 x8_1).f0) < a1_0 then (spec_AddClaim.l0 k1 l0 (wrap64 (x8_1 + 1)) (((rd_T84 l0 x8_1).f2) == a1_2) (wrap64 (x8_1 + 1)) a1_0 a1_1 a1_2 a1_3 a1_4) else (spec_AddClaim.l0 k1 l0 x6_1 (((rd_T84 l0 x8_1).f2) == a1_2) (wrap64 (x8_1 + 1)) a1_0 a1_1 a1_2 a1_3 a1_4)) else (if ((rd_T84 l0 x8_1).f0) < a1_0 then (spec_AddClaim.l0 k1 l0 (wrap64 (x8_1 + 1)) false (wrap64 (x8_1 + 1)) a1_0 a1_1 a1_2 a1_3 a1_4) else (spec_AddClaim.l0 k1 l0 x6_1 false (wrap64 (x8_1 + 1)) a1_0 a1_1 a1_2 a1_3 a1_4))) else (none)) = some (r1, r2) := by rw [if_neg (show ¬ (false = true) by decide)] at H; exact H
     clear H
     have H := H1
     clear H1
     by_cases c13 : 0 ≤ x8_1
     ·rw [if_pos c13] at H
      have c13b0 : decide (0 ≤ x8_1) = true := decide_eq_true c13
      clear c13
      by_cases c14 : ((rd_T84 l0 x8_1).f1) = a1_1
      ·rw [if_pos c14] at H
       have c14b0 : (((rd_T84 l0 x8_1).f1) == a1_1) = true := beq_iff_eq.mpr c14
       have c14b1 : (((rd_T84 l0 x8_1).f1) != a1_1) = false := bne_eq_false_iff_eq.mpr c14
       clear c14
       by_cases c15 : ((rd_T84 l0 x8_1).f0) < a1_0
       ·rw [if_pos c15] at H
        have c15b0 : decide (((rd_T84 l0 x8_1).f0) < a1_0) = true := decide_eq_true c15
        clear c15
        have H' := Aside0.mk H
        clear H
        try go_wp2
        have n0_ := Aside0.mk (blk_drew BK111.out)
        have n1_ := Aside0.mk (below_drew1 HB.out)
        clear BK111
        clear HB
        have BK111 := n0_
        have HB := n1_
        clear n0_ n1_
        have p113 : 0 ≤ (x8_1 : Int) := of_decide_eq_true ‹_›
        have q113 : x8_1 < (l0.length : Int) := of_decide_eq_true ‹_›
        obtain ⟨ad113, e113, hx113_0, hx113_1, hx113_2, hx113_3, hx113_4⟩ := at_T84 HR0.out x8_1 p113 q113
        have hw113_4 := hx113_4
        have hw113_3 := hx113_3
        have hw113_2 := hx113_2
        have hw113_1 := hx113_1
        have hw113_0 := hx113_0
        cases e113
        replace hx113_0 := (HB.out.cell (World.block_lt_of_cell? w _ hx113_0)).trans hx113_0
        replace hx113_1 := (HB.out.cell (World.block_lt_of_cell? w _ hx113_1)).trans hx113_1
        replace hx113_2 := (HB.out.cell (World.block_lt_of_cell? w _ hx113_2)).trans hx113_2
        replace hx113_3 := (HB.out.cell (World.block_lt_of_cell? w _ hx113_3)).trans hx113_3
        replace hx113_4 := (HB.out.cell (World.block_lt_of_cell? w _ hx113_4)).trans hx113_4
        replace p113 := eq_true p113
        replace q113 := eq_true q113
        have p114 : 0 ≤ (x8_1 : Int) := of_decide_eq_true ‹_›
        have q114 : x8_1 < (l0.length : Int) := of_decide_eq_true ‹_›
        obtain ⟨ad114, e114, hx114_0, hx114_1, hx114_2, hx114_3, hx114_4⟩ := at_T84 HR0.out x8_1 p114 q114
        have hw114_4 := hx114_4
        have hw114_3 := hx114_3
        have hw114_2 := hx114_2
        have hw114_1 := hx114_1
        have hw114_0 := hx114_0
        obtain rfl : ad113 = ad114 := (by injection e114)
        replace hx114_0 := (HB.out.cell (World.block_lt_of_cell? w _ hx114_0)).trans hx114_0
        replace hx114_1 := (HB.out.cell (World.block_lt_of_cell? w _ hx114_1)).trans hx114_1
        replace hx114_2 := (HB.out.cell (World.block_lt_of_cell? w _ hx114_2)).trans hx114_2
        replace hx114_3 := (HB.out.cell (World.block_lt_of_cell? w _ hx114_3)).trans hx114_3
        replace hx114_4 := (HB.out.cell (World.block_lt_of_cell? w _ hx114_4)).trans hx114_4
        replace p114 := eq_true p114
        replace q114 := eq_true q114
        refine start_ (n := 22) (S := fun w' => w'.cell? ⟨gb111, 0, none⟩ = some (.int .i64 a1_0) ∧ w'.cell? ⟨gb111, 1, none⟩ = some (.int .i64 a1_1) ∧ w'.cell? ⟨gb111, 2, none⟩ = some (.int .i64 a1_2) ∧ w'.cell? ⟨gb111, 3, none⟩ = some (.int .i64 a1_3) ∧ w'.cell? ⟨gb111, 4, none⟩ = some (.int .i64 a1_4) ∧ w'.cell? (ad113.add ((x8_1).toNat * 5)) = some (.int .i64 ((rd_T84 l0 x8_1).f0)) ∧ w'.cell? ⟨(ad113.add ((x8_1).toNat * 5)).block, (ad113.add ((x8_1).toNat * 5)).off + 1, none⟩ = some (.int .i64 ((rd_T84 l0 x8_1).f1)) ∧ w'.cell? ⟨(ad113.add ((x8_1).toNat * 5)).block, (ad113.add ((x8_1).toNat * 5)).off + 2, none⟩ = some (.int .i64 ((rd_T84 l0 x8_1).f2)) ∧ w'.cell? ⟨(ad113.add ((x8_1).toNat * 5)).block, (ad113.add ((x8_1).toNat * 5)).off + 3, none⟩ = some (.int .i64 ((rd_T84 l0 x8_1).f3)) ∧ w'.cell? ⟨(ad113.add ((x8_1).toNat * 5)).block, (ad113.add ((x8_1).toNat * 5)).off + 4, none⟩ = some (.int .i64 ((rd_T84 l0 x8_1).f4)) ∧ w'.cell? (ad113.add ((x8_1).toNat * 5)) = some (.int .i64 ((rd_T84 l0 x8_1).f0)) ∧ w'.cell? ⟨(ad113.add ((x8_1).toNat * 5)).block, (ad113.add ((x8_1).toNat * 5)).off + 1, none⟩ = some (.int .i64 ((rd_T84 l0 x8_1).f1)) ∧ w'.cell? ⟨(ad113.add ((x8_1).toNat * 5)).block, (ad113.add ((x8_1).toNat * 5)).off + 2, none⟩ = some (.int .i64 ((rd_T84 l0 x8_1).f2)) ∧ w'.cell? ⟨(ad113.add ((x8_1).toNat * 5)).block, (ad113.add ((x8_1).toNat * 5)).off + 3, none⟩ = some (.int .i64 ((rd_T84 l0 x8_1).f3)) ∧ w'.cell? ⟨(ad113.add ((x8_1).toNat * 5)).block, (ad113.add ((x8_1).toNat * 5)).off + 4, none⟩ = some (.int .i64 ((rd_T84 l0 x8_1).f4))) (ds := []) (bR [0, 22]) (by kernel_rfl) rfl rfl ⟨cC BK111 0, cC BK111 1, cC BK111 2, cC BK111 3, cC BK111 4, ((HB.out.cell (World.block_lt_of_cell? w _ hw113_0)).trans hw113_0), ((HB.out.cell (World.block_lt_of_cell? w _ hw113_1)).trans hw113_1), ((HB.out.cell (World.block_lt_of_cell? w _ hw113_2)).trans hw113_2), ((HB.out.cell (World.block_lt_of_cell? w _ hw113_3)).trans hw113_3), ((HB.out.cell (World.block_lt_of_cell? w _ hw113_4)).trans hw113_4), ((HB.out.cell (World.block_lt_of_cell? w _ hw114_0)).trans hw114_0), ((HB.out.cell (World.block_lt_of_cell? w _ hw114_1)).trans hw114_1), ((HB.out.cell (World.block_lt_of_cell? w _ hw114_2)).trans hw114_2), ((HB.out.cell (World.block_lt_of_cell? w _ hw114_3)).trans hw114_3), ((HB.out.cell (World.block_lt_of_cell? w _ hw114_4)).trans hw114_4)⟩ (fun hHeld => ?_); refine with_tabW spec_AddClaim.tab6 spec_AddClaim.bits6 (fun HT_ HW_ => ?_)
        generalize wr.drew = w16 at BK111 HB hx113_0 hx113_1 hx113_2 hx113_3 hx113_4 hx114_0 hx114_1 hx114_2 hx114_3 hx114_4 hHeld ⊢
        refine pP 0 19 (bR [1, 21]) rfl rfl HT_ ?_
        refine pP 1 20 (bR [2, 20]) rfl rfl HT_ ?_
        refine pP 2 21 (bR [3, 19]) rfl rfl HT_ ?_
        refine pP 3 22 (bR [4, 18]) rfl rfl HT_ ?_
        refine pP 4 23 (bR [5, 17]) rfl rfl HT_ ?_
        refine pP 5 24 (bR [6, 16]) rfl rfl HT_ ?_
        refine pP 7 26 (bR [6, 1, 1, 14]) rfl rfl HT_ ?_
        refine take_ (i := 6) (N := some 25) (v := ?_) (a' := ?_) (bR [8, 14]) rfl rfl (take_ofW HT_.out HW_.out (by kernel_rfl)) (fun _ _ _ h => h) (Or.inl ⟨by rfl, ?_⟩) hHeld ?_ ?_
        rotate_left; (rintro w' ⟨s0, s1, s2, s3, s4, s5, s6, s7, s8, s9, s10, s11, s12, s13, s14⟩; go_simp; with_reducible rfl); rotate_left; (simp only [Act.put, sA, sZ, sS, i64_w]; rfl)
        refine take_ (i := 8) (N := some 27) (v := ?_) (a' := ?_) (bR [9, 13]) rfl rfl (take_ofW HT_.out HW_.out (by kernel_rfl)) (fun _ _ _ h => h) (Or.inl ⟨by rfl, ?_⟩) hHeld ?_ ?_
        rotate_left; (rintro w' ⟨s0, s1, s2, s3, s4, s5, s6, s7, s8, s9, s10, s11, s12, s13, s14⟩; go_simp; with_reducible rfl); rotate_left; (simp only [Act.put, sA, sZ, sS, i64_w]; rfl)
        refine pP 9 28 (bR [10, 12]) rfl rfl HT_ ?_
        refine pP 10 29 (bR [11, 11]) rfl rfl HT_ ?_
        refine pP 11 30 (bR [12, 10]) rfl rfl HT_ ?_
        refine pP 12 31 (bR [13, 9]) rfl rfl HT_ ?_
        refine pP 13 32 (bR [14, 8]) rfl rfl HT_ ?_
        refine pP 14 33 (bR [15, 7]) rfl rfl HT_ ?_
        refine pP 16 35 (bR [15, 1, 1, 5]) rfl rfl HT_ ?_
        refine take_ (i := 15) (N := some 34) (v := ?_) (a' := ?_) (bR [17, 5]) rfl rfl (take_ofW HT_.out HW_.out (by kernel_rfl)) (fun _ _ _ h => h) (Or.inl ⟨by rfl, ?_⟩) hHeld ?_ ?_
        rotate_left; (rintro w' ⟨s0, s1, s2, s3, s4, s5, s6, s7, s8, s9, s10, s11, s12, s13, s14⟩; go_simp; with_reducible rfl); rotate_left; (simp only [Act.put, sA, sZ, sS, i64_w]; rfl)
        refine take_ (i := 17) (N := some 36) (v := ?_) (a' := ?_) (bR [18, 4]) rfl rfl (take_ofW HT_.out HW_.out (by kernel_rfl)) (fun _ _ _ h => h) (Or.inl ⟨by rfl, ?_⟩) hHeld ?_ ?_
        rotate_left; (rintro w' ⟨s0, s1, s2, s3, s4, s5, s6, s7, s8, s9, s10, s11, s12, s13, s14⟩; go_simp; with_reducible rfl); rotate_left; (simp only [Act.put, sA, sZ, sS, i64_w]; rfl)
        refine pP 18 37 (bR [19, 3]) rfl rfl HT_ ?_
        refine pP 19 38 (bR [20, 2]) rfl rfl HT_ ?_
        refine pP 20 39 (bR [21, 1]) rfl rfl HT_ ?_
        refine pP 21 7 (bR [22]) rfl rfl HT_ ?_
        refine done_ (done_of HT_.out (by kernel_rfl)) ?_
        try go_wp2
        have n0_ := Aside0.mk (blk_drew BK111.out)
        have n1_ := Aside0.mk (below_drew1 HB.out)
        clear BK111
        clear HB
        have BK111 := n0_
        have HB := n1_
        clear n0_ n1_
        have p115 : 0 ≤ (x8_1 : Int) := of_decide_eq_true ‹_›
        have q115 : x8_1 < (l0.length : Int) := of_decide_eq_true ‹_›
        obtain ⟨ad115, e115, hx115_0, hx115_1, hx115_2, hx115_3, hx115_4⟩ := at_T84 HR0.out x8_1 p115 q115
        have hw115_4 := hx115_4
        have hw115_3 := hx115_3
        have hw115_2 := hx115_2
        have hw115_1 := hx115_1
        have hw115_0 := hx115_0
        obtain rfl : ad113 = ad115 := (by injection e115)
        replace hx115_0 := (HB.out.cell (World.block_lt_of_cell? w _ hx115_0)).trans hx115_0
        replace hx115_1 := (HB.out.cell (World.block_lt_of_cell? w _ hx115_1)).trans hx115_1
        replace hx115_2 := (HB.out.cell (World.block_lt_of_cell? w _ hx115_2)).trans hx115_2
        replace hx115_3 := (HB.out.cell (World.block_lt_of_cell? w _ hx115_3)).trans hx115_3
        replace hx115_4 := (HB.out.cell (World.block_lt_of_cell? w _ hx115_4)).trans hx115_4
        replace p115 := eq_true p115
        replace q115 := eq_true q115
        refine start_ (n := 8) (S := fun w' => w'.cell? ⟨gb111, 0, none⟩ = some (.int .i64 a1_0) ∧ w'.cell? ⟨gb111, 1, none⟩ = some (.int .i64 a1_1) ∧ w'.cell? ⟨gb111, 2, none⟩ = some (.int .i64 a1_2) ∧ w'.cell? ⟨gb111, 3, none⟩ = some (.int .i64 a1_3) ∧ w'.cell? ⟨gb111, 4, none⟩ = some (.int .i64 a1_4) ∧ w'.cell? (ad113.add ((x8_1).toNat * 5)) = some (.int .i64 ((rd_T84 l0 x8_1).f0)) ∧ w'.cell? ⟨(ad113.add ((x8_1).toNat * 5)).block, (ad113.add ((x8_1).toNat * 5)).off + 1, none⟩ = some (.int .i64 ((rd_T84 l0 x8_1).f1)) ∧ w'.cell? ⟨(ad113.add ((x8_1).toNat * 5)).block, (ad113.add ((x8_1).toNat * 5)).off + 2, none⟩ = some (.int .i64 ((rd_T84 l0 x8_1).f2)) ∧ w'.cell? ⟨(ad113.add ((x8_1).toNat * 5)).block, (ad113.add ((x8_1).toNat * 5)).off + 3, none⟩ = some (.int .i64 ((rd_T84 l0 x8_1).f3)) ∧ w'.cell? ⟨(ad113.add ((x8_1).toNat * 5)).block, (ad113.add ((x8_1).toNat * 5)).off + 4, none⟩ = some (.int .i64 ((rd_T84 l0 x8_1).f4))) (ds := []) (bR [0, 8]) (by kernel_rfl) rfl rfl ⟨cC BK111 0, cC BK111 1, cC BK111 2, cC BK111 3, cC BK111 4, ((HB.out.cell (World.block_lt_of_cell? w _ hw115_0)).trans hw115_0), ((HB.out.cell (World.block_lt_of_cell? w _ hw115_1)).trans hw115_1), ((HB.out.cell (World.block_lt_of_cell? w _ hw115_2)).trans hw115_2), ((HB.out.cell (World.block_lt_of_cell? w _ hw115_3)).trans hw115_3), ((HB.out.cell (World.block_lt_of_cell? w _ hw115_4)).trans hw115_4)⟩ (fun hHeld => ?_); refine with_tabW spec_AddClaim.tab7 spec_AddClaim.bits7 (fun HT_ HW_ => ?_)
        generalize w16.drew = w17 at BK111 HB hx115_0 hx115_1 hx115_2 hx115_3 hx115_4 hHeld ⊢
        refine pP 0 40 (bR [1, 7]) rfl rfl HT_ ?_
        refine pP 1 41 (bR [2, 6]) rfl rfl HT_ ?_
        refine pP 2 42 (bR [3, 5]) rfl rfl HT_ ?_
        refine pP 3 43 (bR [4, 4]) rfl rfl HT_ ?_
        refine pP 5 45 (bR [4, 1, 1, 2]) rfl rfl HT_ ?_
        refine take_ (i := 4) (N := some 44) (v := ?_) (a' := ?_) (bR [6, 2]) rfl rfl (take_ofW HT_.out HW_.out (by kernel_rfl)) (fun _ _ _ h => h) (Or.inl ⟨by rfl, ?_⟩) hHeld ?_ ?_
        rotate_left; (rintro w' ⟨s0, s1, s2, s3, s4, s5, s6, s7, s8, s9⟩; go_simp; with_reducible rfl); rotate_left; (simp only [Act.put, sA, sZ, sS, i64_w]; rfl)
        refine take_ (i := 6) (N := some 46) (v := ?_) (a' := ?_) (bR [7, 1]) rfl rfl (take_ofW HT_.out HW_.out (by kernel_rfl)) (fun _ _ _ h => h) (Or.inl ⟨by rfl, ?_⟩) hHeld ?_ ?_
        rotate_left; (rintro w' ⟨s0, s1, s2, s3, s4, s5, s6, s7, s8, s9⟩; go_simp; with_reducible rfl); rotate_left; (simp only [Act.put, sA, sZ, sS, i64_w]; rfl)
        refine pP 7 47 (bR [8]) rfl rfl HT_ ?_
        refine done_ (done_of HT_.out (by kernel_rfl)) ?_
        try go_wp2
        go_roundg k1
        case measure => have := HK1.out; omega
        case rel => exact ⟨(wrap64 (x8_1 + 1)), ((((rd_T84 l0 x8_1).f2) == a1_2)), (wrap64 (x8_1 + 1)), (by first | rfl | (simp; done) | (simp [*]; done)), (by first | rfl | (simp; done) | (simp [*]; done)), (by first | rfl | (simp; done) | (simp [*]; done)), H', ⟨by have := HK1.out; omega⟩, ⟨by (with_reducible repeat first | refine kN ?_ _ | refine kD ?_ | refine kA ?_ _); exact BK111.out⟩, ⟨by repeat (first | (with_reducible first | exact HB.out | apply bA | apply bN | apply bD | refine bS ?_ GE111.out) | exact HB.out)⟩⟩
       ·rw [if_neg c15] at H
        have c15b0 : decide (((rd_T84 l0 x8_1).f0) < a1_0) = false := decide_eq_false c15
        clear c15
        have H' := Aside0.mk H
        clear H
        try go_wp2
        have n0_ := Aside0.mk (blk_drew BK111.out)
        have n1_ := Aside0.mk (below_drew1 HB.out)
        clear BK111
        clear HB
        have BK111 := n0_
        have HB := n1_
        clear n0_ n1_
        have p113 : 0 ≤ (x8_1 : Int) := of_decide_eq_true ‹_›
        have q113 : x8_1 < (l0.length : Int) := of_decide_eq_true ‹_›
        obtain ⟨ad113, e113, hx113_0, hx113_1, hx113_2, hx113_3, hx113_4⟩ := at_T84 HR0.out x8_1 p113 q113
        have hw113_4 := hx113_4
        have hw113_3 := hx113_3
        have hw113_2 := hx113_2
        have hw113_1 := hx113_1
        have hw113_0 := hx113_0
        cases e113
        replace hx113_0 := (HB.out.cell (World.block_lt_of_cell? w _ hx113_0)).trans hx113_0
        replace hx113_1 := (HB.out.cell (World.block_lt_of_cell? w _ hx113_1)).trans hx113_1
        replace hx113_2 := (HB.out.cell (World.block_lt_of_cell? w _ hx113_2)).trans hx113_2
        replace hx113_3 := (HB.out.cell (World.block_lt_of_cell? w _ hx113_3)).trans hx113_3
        replace hx113_4 := (HB.out.cell (World.block_lt_of_cell? w _ hx113_4)).trans hx113_4
        replace p113 := eq_true p113
        replace q113 := eq_true q113
        have p114 : 0 ≤ (x8_1 : Int) := of_decide_eq_true ‹_›
        have q114 : x8_1 < (l0.length : Int) := of_decide_eq_true ‹_›
        obtain ⟨ad114, e114, hx114_0, hx114_1, hx114_2, hx114_3, hx114_4⟩ := at_T84 HR0.out x8_1 p114 q114
        have hw114_4 := hx114_4
        have hw114_3 := hx114_3
        have hw114_2 := hx114_2
        have hw114_1 := hx114_1
        have hw114_0 := hx114_0
        obtain rfl : ad113 = ad114 := (by injection e114)
        replace hx114_0 := (HB.out.cell (World.block_lt_of_cell? w _ hx114_0)).trans hx114_0
        replace hx114_1 := (HB.out.cell (World.block_lt_of_cell? w _ hx114_1)).trans hx114_1
        replace hx114_2 := (HB.out.cell (World.block_lt_of_cell? w _ hx114_2)).trans hx114_2
        replace hx114_3 := (HB.out.cell (World.block_lt_of_cell? w _ hx114_3)).trans hx114_3
        replace hx114_4 := (HB.out.cell (World.block_lt_of_cell? w _ hx114_4)).trans hx114_4
        replace p114 := eq_true p114
        replace q114 := eq_true q114
        refine start_ (n := 22) (S := fun w' => w'.cell? ⟨gb111, 0, none⟩ = some (.int .i64 a1_0) ∧ w'.cell? ⟨gb111, 1, none⟩ = some (.int .i64 a1_1) ∧ w'.cell? ⟨gb111, 2, none⟩ = some (.int .i64 a1_2) ∧ w'.cell? ⟨gb111, 3, none⟩ = some (.int .i64 a1_3) ∧ w'.cell? ⟨gb111, 4, none⟩ = some (.int .i64 a1_4) ∧ w'.cell? (ad113.add ((x8_1).toNat * 5)) = some (.int .i64 ((rd_T84 l0 x8_1).f0)) ∧ w'.cell? ⟨(ad113.add ((x8_1).toNat * 5)).block, (ad113.add ((x8_1).toNat * 5)).off + 1, none⟩ = some (.int .i64 ((rd_T84 l0 x8_1).f1)) ∧ w'.cell? ⟨(ad113.add ((x8_1).toNat * 5)).block, (ad113.add ((x8_1).toNat * 5)).off + 2, none⟩ = some (.int .i64 ((rd_T84 l0 x8_1).f2)) ∧ w'.cell? ⟨(ad113.add ((x8_1).toNat * 5)).block, (ad113.add ((x8_1).toNat * 5)).off + 3, none⟩ = some (.int .i64 ((rd_T84 l0 x8_1).f3)) ∧ w'.cell? ⟨(ad113.add ((x8_1).toNat * 5)).block, (ad113.add ((x8_1).toNat * 5)).off + 4, none⟩ = some (.int .i64 ((rd_T84 l0 x8_1).f4)) ∧ w'.cell? (ad113.add ((x8_1).toNat * 5)) = some (.int .i64 ((rd_T84 l0 x8_1).f0)) ∧ w'.cell? ⟨(ad113.add ((x8_1).toNat * 5)).block, (ad113.add ((x8_1).toNat * 5)).off + 1, none⟩ = some (.int .i64 ((rd_T84 l0 x8_1).f1)) ∧ w'.cell? ⟨(ad113.add ((x8_1).toNat * 5)).block, (ad113.add ((x8_1).toNat * 5)).off + 2, none⟩ = some (.int .i64 ((rd_T84 l0 x8_1).f2)) ∧ w'.cell? ⟨(ad113.add ((x8_1).toNat * 5)).block, (ad113.add ((x8_1).toNat * 5)).off + 3, none⟩ = some (.int .i64 ((rd_T84 l0 x8_1).f3)) ∧ w'.cell? ⟨(ad113.add ((x8_1).toNat * 5)).block, (ad113.add ((x8_1).toNat * 5)).off + 4, none⟩ = some (.int .i64 ((rd_T84 l0 x8_1).f4))) (ds := []) (bR [0, 22]) (by kernel_rfl) rfl rfl ⟨cC BK111 0, cC BK111 1, cC BK111 2, cC BK111 3, cC BK111 4, ((HB.out.cell (World.block_lt_of_cell? w _ hw113_0)).trans hw113_0), ((HB.out.cell (World.block_lt_of_cell? w _ hw113_1)).trans hw113_1), ((HB.out.cell (World.block_lt_of_cell? w _ hw113_2)).trans hw113_2), ((HB.out.cell (World.block_lt_of_cell? w _ hw113_3)).trans hw113_3), ((HB.out.cell (World.block_lt_of_cell? w _ hw113_4)).trans hw113_4), ((HB.out.cell (World.block_lt_of_cell? w _ hw114_0)).trans hw114_0), ((HB.out.cell (World.block_lt_of_cell? w _ hw114_1)).trans hw114_1), ((HB.out.cell (World.block_lt_of_cell? w _ hw114_2)).trans hw114_2), ((HB.out.cell (World.block_lt_of_cell? w _ hw114_3)).trans hw114_3), ((HB.out.cell (World.block_lt_of_cell? w _ hw114_4)).trans hw114_4)⟩ (fun hHeld => ?_); refine with_tabW spec_AddClaim.tab6 spec_AddClaim.bits6 (fun HT_ HW_ => ?_)
        generalize wr.drew = w18 at BK111 HB hx113_0 hx113_1 hx113_2 hx113_3 hx113_4 hx114_0 hx114_1 hx114_2 hx114_3 hx114_4 hHeld ⊢
        refine pP 0 19 (bR [1, 21]) rfl rfl HT_ ?_
        refine pP 1 20 (bR [2, 20]) rfl rfl HT_ ?_
        refine pP 2 21 (bR [3, 19]) rfl rfl HT_ ?_
        refine pP 3 22 (bR [4, 18]) rfl rfl HT_ ?_
        refine pP 4 23 (bR [5, 17]) rfl rfl HT_ ?_
        refine pP 5 24 (bR [6, 16]) rfl rfl HT_ ?_
        refine pP 7 26 (bR [6, 1, 1, 14]) rfl rfl HT_ ?_
        refine take_ (i := 6) (N := some 25) (v := ?_) (a' := ?_) (bR [8, 14]) rfl rfl (take_ofW HT_.out HW_.out (by kernel_rfl)) (fun _ _ _ h => h) (Or.inl ⟨by rfl, ?_⟩) hHeld ?_ ?_
        rotate_left; (rintro w' ⟨s0, s1, s2, s3, s4, s5, s6, s7, s8, s9, s10, s11, s12, s13, s14⟩; go_simp; with_reducible rfl); rotate_left; (simp only [Act.put, sA, sZ, sS, i64_w]; rfl)
        refine take_ (i := 8) (N := some 27) (v := ?_) (a' := ?_) (bR [9, 13]) rfl rfl (take_ofW HT_.out HW_.out (by kernel_rfl)) (fun _ _ _ h => h) (Or.inl ⟨by rfl, ?_⟩) hHeld ?_ ?_
        rotate_left; (rintro w' ⟨s0, s1, s2, s3, s4, s5, s6, s7, s8, s9, s10, s11, s12, s13, s14⟩; go_simp; with_reducible rfl); rotate_left; (simp only [Act.put, sA, sZ, sS, i64_w]; rfl)
        refine pP 9 28 (bR [10, 12]) rfl rfl HT_ ?_
        refine pP 10 29 (bR [11, 11]) rfl rfl HT_ ?_
        refine pP 11 30 (bR [12, 10]) rfl rfl HT_ ?_
        refine pP 12 31 (bR [13, 9]) rfl rfl HT_ ?_
        refine pP 13 32 (bR [14, 8]) rfl rfl HT_ ?_
        refine pP 14 33 (bR [15, 7]) rfl rfl HT_ ?_
        refine pP 16 35 (bR [15, 1, 1, 5]) rfl rfl HT_ ?_
        refine take_ (i := 15) (N := some 34) (v := ?_) (a' := ?_) (bR [17, 5]) rfl rfl (take_ofW HT_.out HW_.out (by kernel_rfl)) (fun _ _ _ h => h) (Or.inl ⟨by rfl, ?_⟩) hHeld ?_ ?_
        rotate_left; (rintro w' ⟨s0, s1, s2, s3, s4, s5, s6, s7, s8, s9, s10, s11, s12, s13, s14⟩; go_simp; with_reducible rfl); rotate_left; (simp only [Act.put, sA, sZ, sS, i64_w]; rfl)
        refine take_ (i := 17) (N := some 36) (v := ?_) (a' := ?_) (bR [18, 4]) rfl rfl (take_ofW HT_.out HW_.out (by kernel_rfl)) (fun _ _ _ h => h) (Or.inl ⟨by rfl, ?_⟩) hHeld ?_ ?_
        rotate_left; (rintro w' ⟨s0, s1, s2, s3, s4, s5, s6, s7, s8, s9, s10, s11, s12, s13, s14⟩; go_simp; with_reducible rfl); rotate_left; (simp only [Act.put, sA, sZ, sS, i64_w]; rfl)
        refine pP 18 37 (bR [19, 3]) rfl rfl HT_ ?_
        refine pP 19 38 (bR [20, 2]) rfl rfl HT_ ?_
        refine pP 20 39 (bR [21, 1]) rfl rfl HT_ ?_
        refine pP 21 7 (bR [22]) rfl rfl HT_ ?_
        refine done_ (done_of HT_.out (by kernel_rfl)) ?_
        try go_wp2
        have n0_ := Aside0.mk (blk_drew BK111.out)
        have n1_ := Aside0.mk (below_drew1 HB.out)
        clear BK111
        clear HB
        have BK111 := n0_
        have HB := n1_
        clear n0_ n1_
        have p115 : 0 ≤ (x8_1 : Int) := of_decide_eq_true ‹_›
        have q115 : x8_1 < (l0.length : Int) := of_decide_eq_true ‹_›
        obtain ⟨ad115, e115, hx115_0, hx115_1, hx115_2, hx115_3, hx115_4⟩ := at_T84 HR0.out x8_1 p115 q115
        have hw115_4 := hx115_4
        have hw115_3 := hx115_3
        have hw115_2 := hx115_2
        have hw115_1 := hx115_1
        have hw115_0 := hx115_0
        obtain rfl : ad113 = ad115 := (by injection e115)
        replace hx115_0 := (HB.out.cell (World.block_lt_of_cell? w _ hx115_0)).trans hx115_0
        replace hx115_1 := (HB.out.cell (World.block_lt_of_cell? w _ hx115_1)).trans hx115_1
        replace hx115_2 := (HB.out.cell (World.block_lt_of_cell? w _ hx115_2)).trans hx115_2
        replace hx115_3 := (HB.out.cell (World.block_lt_of_cell? w _ hx115_3)).trans hx115_3
        replace hx115_4 := (HB.out.cell (World.block_lt_of_cell? w _ hx115_4)).trans hx115_4
        replace p115 := eq_true p115
        replace q115 := eq_true q115
        refine start_ (n := 8) (S := fun w' => w'.cell? ⟨gb111, 0, none⟩ = some (.int .i64 a1_0) ∧ w'.cell? ⟨gb111, 1, none⟩ = some (.int .i64 a1_1) ∧ w'.cell? ⟨gb111, 2, none⟩ = some (.int .i64 a1_2) ∧ w'.cell? ⟨gb111, 3, none⟩ = some (.int .i64 a1_3) ∧ w'.cell? ⟨gb111, 4, none⟩ = some (.int .i64 a1_4) ∧ w'.cell? (ad113.add ((x8_1).toNat * 5)) = some (.int .i64 ((rd_T84 l0 x8_1).f0)) ∧ w'.cell? ⟨(ad113.add ((x8_1).toNat * 5)).block, (ad113.add ((x8_1).toNat * 5)).off + 1, none⟩ = some (.int .i64 ((rd_T84 l0 x8_1).f1)) ∧ w'.cell? ⟨(ad113.add ((x8_1).toNat * 5)).block, (ad113.add ((x8_1).toNat * 5)).off + 2, none⟩ = some (.int .i64 ((rd_T84 l0 x8_1).f2)) ∧ w'.cell? ⟨(ad113.add ((x8_1).toNat * 5)).block, (ad113.add ((x8_1).toNat * 5)).off + 3, none⟩ = some (.int .i64 ((rd_T84 l0 x8_1).f3)) ∧ w'.cell? ⟨(ad113.add ((x8_1).toNat * 5)).block, (ad113.add ((x8_1).toNat * 5)).off + 4, none⟩ = some (.int .i64 ((rd_T84 l0 x8_1).f4))) (ds := []) (bR [0, 8]) (by kernel_rfl) rfl rfl ⟨cC BK111 0, cC BK111 1, cC BK111 2, cC BK111 3, cC BK111 4, ((HB.out.cell (World.block_lt_of_cell? w _ hw115_0)).trans hw115_0), ((HB.out.cell (World.block_lt_of_cell? w _ hw115_1)).trans hw115_1), ((HB.out.cell (World.block_lt_of_cell? w _ hw115_2)).trans hw115_2), ((HB.out.cell (World.block_lt_of_cell? w _ hw115_3)).trans hw115_3), ((HB.out.cell (World.block_lt_of_cell? w _ hw115_4)).trans hw115_4)⟩ (fun hHeld => ?_); refine with_tabW spec_AddClaim.tab7 spec_AddClaim.bits7 (fun HT_ HW_ => ?_)
        generalize w18.drew = w19 at BK111 HB hx115_0 hx115_1 hx115_2 hx115_3 hx115_4 hHeld ⊢
        refine pP 0 40 (bR [1, 7]) rfl rfl HT_ ?_
        refine pP 1 41 (bR [2, 6]) rfl rfl HT_ ?_
        refine pP 2 42 (bR [3, 5]) rfl rfl HT_ ?_
        refine pP 3 43 (bR [4, 4]) rfl rfl HT_ ?_
        refine pP 5 45 (bR [4, 1, 1, 2]) rfl rfl HT_ ?_
        refine take_ (i := 4) (N := some 44) (v := ?_) (a' := ?_) (bR [6, 2]) rfl rfl (take_ofW HT_.out HW_.out (by kernel_rfl)) (fun _ _ _ h => h) (Or.inl ⟨by rfl, ?_⟩) hHeld ?_ ?_
        rotate_left; (rintro w' ⟨s0, s1, s2, s3, s4, s5, s6, s7, s8, s9⟩; go_simp; with_reducible rfl); rotate_left; (simp only [Act.put, sA, sZ, sS, i64_w]; rfl)
        refine take_ (i := 6) (N := some 46) (v := ?_) (a' := ?_) (bR [7, 1]) rfl rfl (take_ofW HT_.out HW_.out (by kernel_rfl)) (fun _ _ _ h => h) (Or.inl ⟨by rfl, ?_⟩) hHeld ?_ ?_
        rotate_left; (rintro w' ⟨s0, s1, s2, s3, s4, s5, s6, s7, s8, s9⟩; go_simp; with_reducible rfl); rotate_left; (simp only [Act.put, sA, sZ, sS, i64_w]; rfl)
        refine pP 7 47 (bR [8]) rfl rfl HT_ ?_
        refine done_ (done_of HT_.out (by kernel_rfl)) ?_
        try go_wp2
        go_roundg k1
        case measure => have := HK1.out; omega
        case rel => exact ⟨(x6_1), ((((rd_T84 l0 x8_1).f2) == a1_2)), (wrap64 (x8_1 + 1)), (by first | rfl | (simp; done) | (simp [*]; done)), (by first | rfl | (simp; done) | (simp [*]; done)), (by first | rfl | (simp; done) | (simp [*]; done)), H', ⟨by have := HK1.out; omega⟩, ⟨by (with_reducible repeat first | refine kN ?_ _ | refine kD ?_ | refine kA ?_ _); exact BK111.out⟩, ⟨by repeat (first | (with_reducible first | exact HB.out | apply bA | apply bN | apply bD | refine bS ?_ GE111.out) | exact HB.out)⟩⟩
      ·rw [if_neg c14] at H
       have c14b0 : (((rd_T84 l0 x8_1).f1) == a1_1) = false := beq_eq_false_iff_ne.mpr c14
       have c14b1 : (((rd_T84 l0 x8_1).f1) != a1_1) = true := bne_iff_ne.mpr c14
       by_cases c20 : ((rd_T84 l0 x8_1).f0) < a1_0
       ·rw [if_pos c20] at H
        have c20b0 : decide (((rd_T84 l0 x8_1).f0) < a1_0) = true := decide_eq_true c20
        clear c20
        have H' := Aside0.mk H
        clear H
        try go_wp2
        have n0_ := Aside0.mk (blk_drew BK111.out)
        have n1_ := Aside0.mk (below_drew1 HB.out)
        clear BK111
        clear HB
        have BK111 := n0_
        have HB := n1_
        clear n0_ n1_
        have p113 : 0 ≤ (x8_1 : Int) := of_decide_eq_true ‹_›
        have q113 : x8_1 < (l0.length : Int) := of_decide_eq_true ‹_›
        obtain ⟨ad113, e113, hx113_0, hx113_1, hx113_2, hx113_3, hx113_4⟩ := at_T84 HR0.out x8_1 p113 q113
        have hw113_4 := hx113_4
        have hw113_3 := hx113_3
        have hw113_2 := hx113_2
        have hw113_1 := hx113_1
        have hw113_0 := hx113_0
        cases e113
        replace hx113_0 := (HB.out.cell (World.block_lt_of_cell? w _ hx113_0)).trans hx113_0
        replace hx113_1 := (HB.out.cell (World.block_lt_of_cell? w _ hx113_1)).trans hx113_1
        replace hx113_2 := (HB.out.cell (World.block_lt_of_cell? w _ hx113_2)).trans hx113_2
        replace hx113_3 := (HB.out.cell (World.block_lt_of_cell? w _ hx113_3)).trans hx113_3
        replace hx113_4 := (HB.out.cell (World.block_lt_of_cell? w _ hx113_4)).trans hx113_4
        replace p113 := eq_true p113
        replace q113 := eq_true q113
        refine start_ (n := 22) (S := fun w' => w'.cell? ⟨gb111, 0, none⟩ = some (.int .i64 a1_0) ∧ w'.cell? ⟨gb111, 1, none⟩ = some (.int .i64 a1_1) ∧ w'.cell? ⟨gb111, 2, none⟩ = some (.int .i64 a1_2) ∧ w'.cell? ⟨gb111, 3, none⟩ = some (.int .i64 a1_3) ∧ w'.cell? ⟨gb111, 4, none⟩ = some (.int .i64 a1_4) ∧ w'.cell? (ad113.add ((x8_1).toNat * 5)) = some (.int .i64 ((rd_T84 l0 x8_1).f0)) ∧ w'.cell? ⟨(ad113.add ((x8_1).toNat * 5)).block, (ad113.add ((x8_1).toNat * 5)).off + 1, none⟩ = some (.int .i64 ((rd_T84 l0 x8_1).f1)) ∧ w'.cell? ⟨(ad113.add ((x8_1).toNat * 5)).block, (ad113.add ((x8_1).toNat * 5)).off + 2, none⟩ = some (.int .i64 ((rd_T84 l0 x8_1).f2)) ∧ w'.cell? ⟨(ad113.add ((x8_1).toNat * 5)).block, (ad113.add ((x8_1).toNat * 5)).off + 3, none⟩ = some (.int .i64 ((rd_T84 l0 x8_1).f3)) ∧ w'.cell? ⟨(ad113.add ((x8_1).toNat * 5)).block, (ad113.add ((x8_1).toNat * 5)).off + 4, none⟩ = some (.int .i64 ((rd_T84 l0 x8_1).f4))) (ds := []) (bR [0, 22]) (by kernel_rfl) rfl rfl ⟨cC BK111 0, cC BK111 1, cC BK111 2, cC BK111 3, cC BK111 4, ((HB.out.cell (World.block_lt_of_cell? w _ hw113_0)).trans hw113_0), ((HB.out.cell (World.block_lt_of_cell? w _ hw113_1)).trans hw113_1), ((HB.out.cell (World.block_lt_of_cell? w _ hw113_2)).trans hw113_2), ((HB.out.cell (World.block_lt_of_cell? w _ hw113_3)).trans hw113_3), ((HB.out.cell (World.block_lt_of_cell? w _ hw113_4)).trans hw113_4)⟩ (fun hHeld => ?_); refine with_tabW spec_AddClaim.tab6 spec_AddClaim.bits6 (fun HT_ HW_ => ?_)
        generalize wr.drew = w21 at BK111 HB hx113_0 hx113_1 hx113_2 hx113_3 hx113_4 hHeld ⊢
        refine pP 0 19 (bR [1, 21]) rfl rfl HT_ ?_
        refine pP 1 20 (bR [2, 20]) rfl rfl HT_ ?_
        refine pP 2 21 (bR [3, 19]) rfl rfl HT_ ?_
        refine pP 3 22 (bR [4, 18]) rfl rfl HT_ ?_
        refine pP 4 23 (bR [5, 17]) rfl rfl HT_ ?_
        refine pP 5 24 (bR [6, 16]) rfl rfl HT_ ?_
        refine pP 7 26 (bR [6, 1, 1, 14]) rfl rfl HT_ ?_
        refine take_ (i := 6) (N := some 25) (v := ?_) (a' := ?_) (bR [8, 14]) rfl rfl (take_ofW HT_.out HW_.out (by kernel_rfl)) (fun _ _ _ h => h) (Or.inl ⟨by rfl, ?_⟩) hHeld ?_ ?_
        rotate_left; (rintro w' ⟨s0, s1, s2, s3, s4, s5, s6, s7, s8, s9⟩; go_simp; with_reducible rfl); rotate_left; (simp only [Act.put, sA, sZ, sS, i64_w]; rfl)
        refine take_ (i := 8) (N := some 27) (v := ?_) (a' := ?_) (bR [9, 13]) rfl rfl (take_ofW HT_.out HW_.out (by kernel_rfl)) (fun _ _ _ h => h) (Or.inl ⟨by rfl, ?_⟩) hHeld ?_ ?_
        rotate_left; (rintro w' ⟨s0, s1, s2, s3, s4, s5, s6, s7, s8, s9⟩; go_simp; with_reducible rfl); rotate_left; (simp only [Act.put, sA, sZ, sS, i64_w]; rfl)
        refine pP 9 28 (bR [10, 12]) rfl rfl HT_ ?_
        refine pP 10 29 (bR [11, 11]) rfl rfl HT_ ?_
        refine pU 11 30 (bR [12, 10]) rfl rfl HT_ ?_
        refine pU 12 31 (bR [13, 9]) rfl rfl HT_ ?_
        refine pU 13 32 (bR [14, 8]) rfl rfl HT_ ?_
        refine pU 14 33 (bR [15, 7]) rfl rfl HT_ ?_
        refine pU 15 34 (bR [16, 6]) rfl rfl HT_ ?_
        refine pU 16 35 (bR [17, 5]) rfl rfl HT_ ?_
        refine pU 17 36 (bR [18, 4]) rfl rfl HT_ ?_
        refine pU 18 37 (bR [19, 3]) rfl rfl HT_ ?_
        refine pP 19 38 (bR [20, 2]) rfl rfl HT_ ?_
        refine pP 20 39 (bR [21, 1]) rfl rfl HT_ ?_
        refine pP 21 7 (bR [22]) rfl rfl HT_ ?_
        refine done_ (done_of HT_.out (by kernel_rfl)) ?_
        try go_wp2
        have n0_ := Aside0.mk (blk_drew BK111.out)
        have n1_ := Aside0.mk (below_drew1 HB.out)
        clear BK111
        clear HB
        have BK111 := n0_
        have HB := n1_
        clear n0_ n1_
        have p116 : 0 ≤ (x8_1 : Int) := of_decide_eq_true ‹_›
        have q116 : x8_1 < (l0.length : Int) := of_decide_eq_true ‹_›
        obtain ⟨ad116, e116, hx116_0, hx116_1, hx116_2, hx116_3, hx116_4⟩ := at_T84 HR0.out x8_1 p116 q116
        have hw116_4 := hx116_4
        have hw116_3 := hx116_3
        have hw116_2 := hx116_2
        have hw116_1 := hx116_1
        have hw116_0 := hx116_0
        obtain rfl : ad113 = ad116 := (by injection e116)
        replace hx116_0 := (HB.out.cell (World.block_lt_of_cell? w _ hx116_0)).trans hx116_0
        replace hx116_1 := (HB.out.cell (World.block_lt_of_cell? w _ hx116_1)).trans hx116_1
        replace hx116_2 := (HB.out.cell (World.block_lt_of_cell? w _ hx116_2)).trans hx116_2
        replace hx116_3 := (HB.out.cell (World.block_lt_of_cell? w _ hx116_3)).trans hx116_3
        replace hx116_4 := (HB.out.cell (World.block_lt_of_cell? w _ hx116_4)).trans hx116_4
        replace p116 := eq_true p116
        replace q116 := eq_true q116
        refine start_ (n := 8) (S := fun w' => w'.cell? ⟨gb111, 0, none⟩ = some (.int .i64 a1_0) ∧ w'.cell? ⟨gb111, 1, none⟩ = some (.int .i64 a1_1) ∧ w'.cell? ⟨gb111, 2, none⟩ = some (.int .i64 a1_2) ∧ w'.cell? ⟨gb111, 3, none⟩ = some (.int .i64 a1_3) ∧ w'.cell? ⟨gb111, 4, none⟩ = some (.int .i64 a1_4) ∧ w'.cell? (ad113.add ((x8_1).toNat * 5)) = some (.int .i64 ((rd_T84 l0 x8_1).f0)) ∧ w'.cell? ⟨(ad113.add ((x8_1).toNat * 5)).block, (ad113.add ((x8_1).toNat * 5)).off + 1, none⟩ = some (.int .i64 ((rd_T84 l0 x8_1).f1)) ∧ w'.cell? ⟨(ad113.add ((x8_1).toNat * 5)).block, (ad113.add ((x8_1).toNat * 5)).off + 2, none⟩ = some (.int .i64 ((rd_T84 l0 x8_1).f2)) ∧ w'.cell? ⟨(ad113.add ((x8_1).toNat * 5)).block, (ad113.add ((x8_1).toNat * 5)).off + 3, none⟩ = some (.int .i64 ((rd_T84 l0 x8_1).f3)) ∧ w'.cell? ⟨(ad113.add ((x8_1).toNat * 5)).block, (ad113.add ((x8_1).toNat * 5)).off + 4, none⟩ = some (.int .i64 ((rd_T84 l0 x8_1).f4))) (ds := []) (bR [0, 8]) (by kernel_rfl) rfl rfl ⟨cC BK111 0, cC BK111 1, cC BK111 2, cC BK111 3, cC BK111 4, ((HB.out.cell (World.block_lt_of_cell? w _ hw116_0)).trans hw116_0), ((HB.out.cell (World.block_lt_of_cell? w _ hw116_1)).trans hw116_1), ((HB.out.cell (World.block_lt_of_cell? w _ hw116_2)).trans hw116_2), ((HB.out.cell (World.block_lt_of_cell? w _ hw116_3)).trans hw116_3), ((HB.out.cell (World.block_lt_of_cell? w _ hw116_4)).trans hw116_4)⟩ (fun hHeld => ?_); refine with_tabW spec_AddClaim.tab7 spec_AddClaim.bits7 (fun HT_ HW_ => ?_)
        generalize w21.drew = w22 at BK111 HB hx116_0 hx116_1 hx116_2 hx116_3 hx116_4 hHeld ⊢
        refine pP 0 40 (bR [1, 7]) rfl rfl HT_ ?_
        refine pP 1 41 (bR [2, 6]) rfl rfl HT_ ?_
        refine pP 2 42 (bR [3, 5]) rfl rfl HT_ ?_
        refine pP 3 43 (bR [4, 4]) rfl rfl HT_ ?_
        refine pP 5 45 (bR [4, 1, 1, 2]) rfl rfl HT_ ?_
        refine take_ (i := 4) (N := some 44) (v := ?_) (a' := ?_) (bR [6, 2]) rfl rfl (take_ofW HT_.out HW_.out (by kernel_rfl)) (fun _ _ _ h => h) (Or.inl ⟨by rfl, ?_⟩) hHeld ?_ ?_
        rotate_left; (rintro w' ⟨s0, s1, s2, s3, s4, s5, s6, s7, s8, s9⟩; go_simp; with_reducible rfl); rotate_left; (simp only [Act.put, sA, sZ, sS, i64_w]; rfl)
        refine take_ (i := 6) (N := some 46) (v := ?_) (a' := ?_) (bR [7, 1]) rfl rfl (take_ofW HT_.out HW_.out (by kernel_rfl)) (fun _ _ _ h => h) (Or.inl ⟨by rfl, ?_⟩) hHeld ?_ ?_
        rotate_left; (rintro w' ⟨s0, s1, s2, s3, s4, s5, s6, s7, s8, s9⟩; go_simp; with_reducible rfl); rotate_left; (simp only [Act.put, sA, sZ, sS, i64_w]; rfl)
        refine pP 7 47 (bR [8]) rfl rfl HT_ ?_
        refine done_ (done_of HT_.out (by kernel_rfl)) ?_
        try go_wp2
        go_roundg k1
        case measure => have := HK1.out; omega
        case rel => exact ⟨(wrap64 (x8_1 + 1)), (false), (wrap64 (x8_1 + 1)), (by first | rfl | (simp; done) | (simp [*]; done)), (by first | rfl | (simp; done) | (simp [*]; done)), (by first | rfl | (simp; done) | (simp [*]; done)), H', ⟨by have := HK1.out; omega⟩, ⟨by (with_reducible repeat first | refine kN ?_ _ | refine kD ?_ | refine kA ?_ _); exact BK111.out⟩, ⟨by repeat (first | (with_reducible first | exact HB.out | apply bA | apply bN | apply bD | refine bS ?_ GE111.out) | exact HB.out)⟩⟩
       ·rw [if_neg c20] at H
        have c20b0 : decide (((rd_T84 l0 x8_1).f0) < a1_0) = false := decide_eq_false c20
        clear c20
        have H' := Aside0.mk H
        clear H
        try go_wp2
        have n0_ := Aside0.mk (blk_drew BK111.out)
        have n1_ := Aside0.mk (below_drew1 HB.out)
        clear BK111
        clear HB
        have BK111 := n0_
        have HB := n1_
        clear n0_ n1_
        have p113 : 0 ≤ (x8_1 : Int) := of_decide_eq_true ‹_›
        have q113 : x8_1 < (l0.length : Int) := of_decide_eq_true ‹_›
        obtain ⟨ad113, e113, hx113_0, hx113_1, hx113_2, hx113_3, hx113_4⟩ := at_T84 HR0.out x8_1 p113 q113
        have hw113_4 := hx113_4
        have hw113_3 := hx113_3
        have hw113_2 := hx113_2
        have hw113_1 := hx113_1
        have hw113_0 := hx113_0
        cases e113
        replace hx113_0 := (HB.out.cell (World.block_lt_of_cell? w _ hx113_0)).trans hx113_0
        replace hx113_1 := (HB.out.cell (World.block_lt_of_cell? w _ hx113_1)).trans hx113_1
        replace hx113_2 := (HB.out.cell (World.block_lt_of_cell? w _ hx113_2)).trans hx113_2
        replace hx113_3 := (HB.out.cell (World.block_lt_of_cell? w _ hx113_3)).trans hx113_3
        replace hx113_4 := (HB.out.cell (World.block_lt_of_cell? w _ hx113_4)).trans hx113_4
        replace p113 := eq_true p113
        replace q113 := eq_true q113
        refine start_ (n := 22) (S := fun w' => w'.cell? ⟨gb111, 0, none⟩ = some (.int .i64 a1_0) ∧ w'.cell? ⟨gb111, 1, none⟩ = some (.int .i64 a1_1) ∧ w'.cell? ⟨gb111, 2, none⟩ = some (.int .i64 a1_2) ∧ w'.cell? ⟨gb111, 3, none⟩ = some (.int .i64 a1_3) ∧ w'.cell? ⟨gb111, 4, none⟩ = some (.int .i64 a1_4) ∧ w'.cell? (ad113.add ((x8_1).toNat * 5)) = some (.int .i64 ((rd_T84 l0 x8_1).f0)) ∧ w'.cell? ⟨(ad113.add ((x8_1).toNat * 5)).block, (ad113.add ((x8_1).toNat * 5)).off + 1, none⟩ = some (.int .i64 ((rd_T84 l0 x8_1).f1)) ∧ w'.cell? ⟨(ad113.add ((x8_1).toNat * 5)).block, (ad113.add ((x8_1).toNat * 5)).off + 2, none⟩ = some (.int .i64 ((rd_T84 l0 x8_1).f2)) ∧ w'.cell? ⟨(ad113.add ((x8_1).toNat * 5)).block, (ad113.add ((x8_1).toNat * 5)).off + 3, none⟩ = some (.int .i64 ((rd_T84 l0 x8_1).f3)) ∧ w'.cell? ⟨(ad113.add ((x8_1).toNat * 5)).block, (ad113.add ((x8_1).toNat * 5)).off + 4, none⟩ = some (.int .i64 ((rd_T84 l0 x8_1).f4))) (ds := []) (bR [0, 22]) (by kernel_rfl) rfl rfl ⟨cC BK111 0, cC BK111 1, cC BK111 2, cC BK111 3, cC BK111 4, ((HB.out.cell (World.block_lt_of_cell? w _ hw113_0)).trans hw113_0), ((HB.out.cell (World.block_lt_of_cell? w _ hw113_1)).trans hw113_1), ((HB.out.cell (World.block_lt_of_cell? w _ hw113_2)).trans hw113_2), ((HB.out.cell (World.block_lt_of_cell? w _ hw113_3)).trans hw113_3), ((HB.out.cell (World.block_lt_of_cell? w _ hw113_4)).trans hw113_4)⟩ (fun hHeld => ?_); refine with_tabW spec_AddClaim.tab6 spec_AddClaim.bits6 (fun HT_ HW_ => ?_)
        generalize wr.drew = w23 at BK111 HB hx113_0 hx113_1 hx113_2 hx113_3 hx113_4 hHeld ⊢
        refine pP 0 19 (bR [1, 21]) rfl rfl HT_ ?_
        refine pP 1 20 (bR [2, 20]) rfl rfl HT_ ?_
        refine pP 2 21 (bR [3, 19]) rfl rfl HT_ ?_
        refine pP 3 22 (bR [4, 18]) rfl rfl HT_ ?_
        refine pP 4 23 (bR [5, 17]) rfl rfl HT_ ?_
        refine pP 5 24 (bR [6, 16]) rfl rfl HT_ ?_
        refine pP 7 26 (bR [6, 1, 1, 14]) rfl rfl HT_ ?_
        refine take_ (i := 6) (N := some 25) (v := ?_) (a' := ?_) (bR [8, 14]) rfl rfl (take_ofW HT_.out HW_.out (by kernel_rfl)) (fun _ _ _ h => h) (Or.inl ⟨by rfl, ?_⟩) hHeld ?_ ?_
        rotate_left; (rintro w' ⟨s0, s1, s2, s3, s4, s5, s6, s7, s8, s9⟩; go_simp; with_reducible rfl); rotate_left; (simp only [Act.put, sA, sZ, sS, i64_w]; rfl)
        refine take_ (i := 8) (N := some 27) (v := ?_) (a' := ?_) (bR [9, 13]) rfl rfl (take_ofW HT_.out HW_.out (by kernel_rfl)) (fun _ _ _ h => h) (Or.inl ⟨by rfl, ?_⟩) hHeld ?_ ?_
        rotate_left; (rintro w' ⟨s0, s1, s2, s3, s4, s5, s6, s7, s8, s9⟩; go_simp; with_reducible rfl); rotate_left; (simp only [Act.put, sA, sZ, sS, i64_w]; rfl)
        refine pP 9 28 (bR [10, 12]) rfl rfl HT_ ?_
        refine pP 10 29 (bR [11, 11]) rfl rfl HT_ ?_
        refine pU 11 30 (bR [12, 10]) rfl rfl HT_ ?_
        refine pU 12 31 (bR [13, 9]) rfl rfl HT_ ?_
        refine pU 13 32 (bR [14, 8]) rfl rfl HT_ ?_
        refine pU 14 33 (bR [15, 7]) rfl rfl HT_ ?_
        refine pU 15 34 (bR [16, 6]) rfl rfl HT_ ?_
        refine pU 16 35 (bR [17, 5]) rfl rfl HT_ ?_
        refine pU 17 36 (bR [18, 4]) rfl rfl HT_ ?_
        refine pU 18 37 (bR [19, 3]) rfl rfl HT_ ?_
        refine pP 19 38 (bR [20, 2]) rfl rfl HT_ ?_
        refine pP 20 39 (bR [21, 1]) rfl rfl HT_ ?_
        refine pP 21 7 (bR [22]) rfl rfl HT_ ?_
        refine done_ (done_of HT_.out (by kernel_rfl)) ?_
        try go_wp2
        have n0_ := Aside0.mk (blk_drew BK111.out)
        have n1_ := Aside0.mk (below_drew1 HB.out)
        clear BK111
        clear HB
        have BK111 := n0_
        have HB := n1_
        clear n0_ n1_
        have p116 : 0 ≤ (x8_1 : Int) := of_decide_eq_true ‹_›
        have q116 : x8_1 < (l0.length : Int) := of_decide_eq_true ‹_›
        obtain ⟨ad116, e116, hx116_0, hx116_1, hx116_2, hx116_3, hx116_4⟩ := at_T84 HR0.out x8_1 p116 q116
        have hw116_4 := hx116_4
        have hw116_3 := hx116_3
        have hw116_2 := hx116_2
        have hw116_1 := hx116_1
        have hw116_0 := hx116_0
        obtain rfl : ad113 = ad116 := (by injection e116)
        replace hx116_0 := (HB.out.cell (World.block_lt_of_cell? w _ hx116_0)).trans hx116_0
        replace hx116_1 := (HB.out.cell (World.block_lt_of_cell? w _ hx116_1)).trans hx116_1
        replace hx116_2 := (HB.out.cell (World.block_lt_of_cell? w _ hx116_2)).trans hx116_2
        replace hx116_3 := (HB.out.cell (World.block_lt_of_cell? w _ hx116_3)).trans hx116_3
        replace hx116_4 := (HB.out.cell (World.block_lt_of_cell? w _ hx116_4)).trans hx116_4
        replace p116 := eq_true p116
        replace q116 := eq_true q116
        refine start_ (n := 8) (S := fun w' => w'.cell? ⟨gb111, 0, none⟩ = some (.int .i64 a1_0) ∧ w'.cell? ⟨gb111, 1, none⟩ = some (.int .i64 a1_1) ∧ w'.cell? ⟨gb111, 2, none⟩ = some (.int .i64 a1_2) ∧ w'.cell? ⟨gb111, 3, none⟩ = some (.int .i64 a1_3) ∧ w'.cell? ⟨gb111, 4, none⟩ = some (.int .i64 a1_4) ∧ w'.cell? (ad113.add ((x8_1).toNat * 5)) = some (.int .i64 ((rd_T84 l0 x8_1).f0)) ∧ w'.cell? ⟨(ad113.add ((x8_1).toNat * 5)).block, (ad113.add ((x8_1).toNat * 5)).off + 1, none⟩ = some (.int .i64 ((rd_T84 l0 x8_1).f1)) ∧ w'.cell? ⟨(ad113.add ((x8_1).toNat * 5)).block, (ad113.add ((x8_1).toNat * 5)).off + 2, none⟩ = some (.int .i64 ((rd_T84 l0 x8_1).f2)) ∧ w'.cell? ⟨(ad113.add ((x8_1).toNat * 5)).block, (ad113.add ((x8_1).toNat * 5)).off + 3, none⟩ = some (.int .i64 ((rd_T84 l0 x8_1).f3)) ∧ w'.cell? ⟨(ad113.add ((x8_1).toNat * 5)).block, (ad113.add ((x8_1).toNat * 5)).off + 4, none⟩ = some (.int .i64 ((rd_T84 l0 x8_1).f4))) (ds := []) (bR [0, 8]) (by kernel_rfl) rfl rfl ⟨cC BK111 0, cC BK111 1, cC BK111 2, cC BK111 3, cC BK111 4, ((HB.out.cell (World.block_lt_of_cell? w _ hw116_0)).trans hw116_0), ((HB.out.cell (World.block_lt_of_cell? w _ hw116_1)).trans hw116_1), ((HB.out.cell (World.block_lt_of_cell? w _ hw116_2)).trans hw116_2), ((HB.out.cell (World.block_lt_of_cell? w _ hw116_3)).trans hw116_3), ((HB.out.cell (World.block_lt_of_cell? w _ hw116_4)).trans hw116_4)⟩ (fun hHeld => ?_); refine with_tabW spec_AddClaim.tab7 spec_AddClaim.bits7 (fun HT_ HW_ => ?_)
        generalize w23.drew = w24 at BK111 HB hx116_0 hx116_1 hx116_2 hx116_3 hx116_4 hHeld ⊢
        refine pP 0 40 (bR [1, 7]) rfl rfl HT_ ?_
        refine pP 1 41 (bR [2, 6]) rfl rfl HT_ ?_
        refine pP 2 42 (bR [3, 5]) rfl rfl HT_ ?_
        refine pP 3 43 (bR [4, 4]) rfl rfl HT_ ?_
        refine pP 5 45 (bR [4, 1, 1, 2]) rfl rfl HT_ ?_
        refine take_ (i := 4) (N := some 44) (v := ?_) (a' := ?_) (bR [6, 2]) rfl rfl (take_ofW HT_.out HW_.out (by kernel_rfl)) (fun _ _ _ h => h) (Or.inl ⟨by rfl, ?_⟩) hHeld ?_ ?_
        rotate_left; (rintro w' ⟨s0, s1, s2, s3, s4, s5, s6, s7, s8, s9⟩; go_simp; with_reducible rfl); rotate_left; (simp only [Act.put, sA, sZ, sS, i64_w]; rfl)
        refine take_ (i := 6) (N := some 46) (v := ?_) (a' := ?_) (bR [7, 1]) rfl rfl (take_ofW HT_.out HW_.out (by kernel_rfl)) (fun _ _ _ h => h) (Or.inl ⟨by rfl, ?_⟩) hHeld ?_ ?_
        rotate_left; (rintro w' ⟨s0, s1, s2, s3, s4, s5, s6, s7, s8, s9⟩; go_simp; with_reducible rfl); rotate_left; (simp only [Act.put, sA, sZ, sS, i64_w]; rfl)
        refine pP 7 47 (bR [8]) rfl rfl HT_ ?_
        refine done_ (done_of HT_.out (by kernel_rfl)) ?_
        try go_wp2
        go_roundg k1
        case measure => have := HK1.out; omega
        case rel => exact ⟨(x6_1), (false), (wrap64 (x8_1 + 1)), (by first | rfl | (simp; done) | (simp [*]; done)), (by first | rfl | (simp; done) | (simp [*]; done)), (by first | rfl | (simp; done) | (simp [*]; done)), H', ⟨by have := HK1.out; omega⟩, ⟨by (with_reducible repeat first | refine kN ?_ _ | refine kD ?_ | refine kA ?_ _); exact BK111.out⟩, ⟨by repeat (first | (with_reducible first | exact HB.out | apply bA | apply bN | apply bD | refine bS ?_ GE111.out) | exact HB.out)⟩⟩
     ·rw [if_neg c13] at H
      exact absurd H (by simp)
   ·rw [if_neg c5] at H
    have c5b0 : decide (x8_1 < (l0.length : Int)) = false := decide_eq_false c5
    clear c5
    obtain ⟨y117, hy117⟩ : ∃ y_ : List (S84), y_ = (([] : List (S84))) := ⟨_, rfl⟩
    replace H : (if 0 ≤ x6_1 then (if x6_1 ≤ (l0.length : Int) then ((some (l0.take (x6_1 : Int).toNat : List (S84))).bind fun y120 => (if y117.length + y120.length < 3518437208883 then ((some (y117 ++ y120 : List (S84))).bind fun y124 => ((some (([(⟨a1_0, a1_1, a1_2, a1_3, a1_4⟩ : S84)] : List (S84)) : List (S84))).bind fun y127 => (if y124.length + y127.length < 3518437208883 then ((some (y124 ++ y127 : List (S84))).bind fun y130 => ((some (l0.drop (x6_1 : Int).toNat : List (S84))).bind fun y133 => (if y130.length + y133.length < 3518437208883 then ((some (y130 ++ y133 : List (S84))).bind fun y137 => (if x7_1 = true then ((some (([] : List (S84)) : List (S84))).bind fun y140 => (if y140.length + l0.length < 3518437208883 then (some ((y140 ++ l0), false)) else (none))) else ((spec_AreClaims.f k1 y137).bind fun t146 => (if t146 = true then (some (y137, true)) else ((some (([] : List (S84)) : List (S84))).bind fun y147 => (if y147.length + l0.length < 3518437208883 then (some ((y147 ++ l0), false)) else (none))))))) else (none)))) else (none)))) else (none))) else (none)) else (none)) = some (r1, r2) := by first | (rw [hy117]; with_reducible exact H) | (have H2_ := (Option.bind_some _ _).symm.trans H; rw [hy117]; with_reducible exact H2_) | (have H2_ := (Option.bind_some _ _).symm.trans H; with_reducible exact H2_) | with_reducible exact H | (rw [hy117]; exact H) | exact H
    have Ny117 := Aside0.mk hy117
    clear hy117
    by_cases c25 : 0 ≤ x6_1
    ·rw [if_pos c25] at H
     have c25b0 := eq_true c25
     have c25b1 : decide (0 ≤ x6_1) = true := decide_eq_true c25
     clear c25
     by_cases c26 : x6_1 ≤ (l0.length : Int)
     ·rw [if_pos c26] at H
      have c26b0 := eq_true c26
      have c26b1 : decide (x6_1 ≤ (l0.length : Int)) = true := decide_eq_true c26
      clear c26
      obtain ⟨y120, hy120⟩ : ∃ y_ : List (S84), y_ = (l0.take (x6_1 : Int).toNat) := ⟨_, rfl⟩
      replace H : (if y117.length + y120.length < 3518437208883 then ((some (y117 ++ y120 : List (S84))).bind fun y124 => ((some (([(⟨a1_0, a1_1, a1_2, a1_3, a1_4⟩ : S84)] : List (S84)) : List (S84))).bind fun y127 => (if y124.length + y127.length < 3518437208883 then ((some (y124 ++ y127 : List (S84))).bind fun y130 => ((some (l0.drop (x6_1 : Int).toNat : List (S84))).bind fun y133 => (if y130.length + y133.length < 3518437208883 then ((some (y130 ++ y133 : List (S84))).bind fun y137 => (if x7_1 = true then ((some (([] : List (S84)) : List (S84))).bind fun y140 => (if y140.length + l0.length < 3518437208883 then (some ((y140 ++ l0), false)) else (none))) else ((spec_AreClaims.f k1 y137).bind fun t146 => (if t146 = true then (some (y137, true)) else ((some (([] : List (S84)) : List (S84))).bind fun y147 => (if y147.length + l0.length < 3518437208883 then (some ((y147 ++ l0), false)) else (none))))))) else (none)))) else (none)))) else (none)) = some (r1, r2) := by first | (rw [hy120]; with_reducible exact H) | (have H2_ := (Option.bind_some _ _).symm.trans H; rw [hy120]; with_reducible exact H2_) | (have H2_ := (Option.bind_some _ _).symm.trans H; with_reducible exact H2_) | with_reducible exact H | (rw [hy120]; exact H) | exact H
      have Ny120 := Aside0.mk hy120
      clear hy120
      by_cases c27 : y117.length + y120.length < 3518437208883
      ·rw [if_pos c27] at H
       have LMc27 := Aside0.mk c27
       clear c27
       obtain ⟨y124, hy124⟩ : ∃ y_ : List (S84), y_ = (y117 ++ y120) := ⟨_, rfl⟩
       replace H : ((some (([(⟨a1_0, a1_1, a1_2, a1_3, a1_4⟩ : S84)] : List (S84)) : List (S84))).bind fun y127 => (if y124.length + y127.length < 3518437208883 then ((some (y124 ++ y127 : List (S84))).bind fun y130 => ((some (l0.drop (x6_1 : Int).toNat : List (S84))).bind fun y133 => (if y130.length + y133.length < 3518437208883 then ((some (y130 ++ y133 : List (S84))).bind fun y137 => (if x7_1 = true then ((some (([] : List (S84)) : List (S84))).bind fun y140 => (if y140.length + l0.length < 3518437208883 then (some ((y140 ++ l0), false)) else (none))) else ((spec_AreClaims.f k1 y137).bind fun t146 => (if t146 = true then (some (y137, true)) else ((some (([] : List (S84)) : List (S84))).bind fun y147 => (if y147.length + l0.length < 3518437208883 then (some ((y147 ++ l0), false)) else (none))))))) else (none)))) else (none))) = some (r1, r2) := by first | (rw [hy124]; with_reducible exact H) | (have H2_ := (Option.bind_some _ _).symm.trans H; rw [hy124]; with_reducible exact H2_) | (have H2_ := (Option.bind_some _ _).symm.trans H; with_reducible exact H2_) | with_reducible exact H | (rw [hy124]; exact H) | exact H
       have Ny124 := Aside0.mk hy124
       clear hy124
       obtain ⟨y127, hy127⟩ : ∃ y_ : List (S84), y_ = (([(⟨a1_0, a1_1, a1_2, a1_3, a1_4⟩ : S84)] : List (S84))) := ⟨_, rfl⟩
       replace H : (if y124.length + y127.length < 3518437208883 then ((some (y124 ++ y127 : List (S84))).bind fun y130 => ((some (l0.drop (x6_1 : Int).toNat : List (S84))).bind fun y133 => (if y130.length + y133.length < 3518437208883 then ((some (y130 ++ y133 : List (S84))).bind fun y137 => (if x7_1 = true then ((some (([] : List (S84)) : List (S84))).bind fun y140 => (if y140.length + l0.length < 3518437208883 then (some ((y140 ++ l0), false)) else (none))) else ((spec_AreClaims.f k1 y137).bind fun t146 => (if t146 = true then (some (y137, true)) else ((some (([] : List (S84)) : List (S84))).bind fun y147 => (if y147.length + l0.length < 3518437208883 then (some ((y147 ++ l0), false)) else (none))))))) else (none)))) else (none)) = some (r1, r2) := by first | (rw [hy127]; with_reducible exact H) | (have H2_ := (Option.bind_some _ _).symm.trans H; rw [hy127]; with_reducible exact H2_) | (have H2_ := (Option.bind_some _ _).symm.trans H; with_reducible exact H2_) | with_reducible exact H | (rw [hy127]; exact H) | exact H
       have Ny127 := Aside0.mk hy127
       clear hy127
       by_cases c28 : y124.length + y127.length < 3518437208883
       ·rw [if_pos c28] at H
        have LMc28 := Aside0.mk c28
        clear c28
        obtain ⟨y130, hy130⟩ : ∃ y_ : List (S84), y_ = (y124 ++ y127) := ⟨_, rfl⟩
        replace H : ((some (l0.drop (x6_1 : Int).toNat : List (S84))).bind fun y133 => (if y130.length + y133.length < 3518437208883 then ((some (y130 ++ y133 : List (S84))).bind fun y137 => (if x7_1 = true then ((some (([] : List (S84)) : List (S84))).bind fun y140 => (if y140.length + l0.length < 3518437208883 then (some ((y140 ++ l0), false)) else (none))) else ((spec_AreClaims.f k1 y137).bind fun t146 => (if t146 = true then (some (y137, true)) else ((some (([] : List (S84)) : List (S84))).bind fun y147 => (if y147.length + l0.length < 3518437208883 then (some ((y147 ++ l0), false)) else (none))))))) else (none))) = some (r1, r2) := by first | (rw [hy130]; with_reducible exact H) | (have H2_ := (Option.bind_some _ _).symm.trans H; rw [hy130]; with_reducible exact H2_) | (have H2_ := (Option.bind_some _ _).symm.trans H; with_reducible exact H2_) | with_reducible exact H | (rw [hy130]; exact H) | exact H
        have Ny130 := Aside0.mk hy130
        clear hy130
        have c29b0 := eq_true (of_decide_eq_true ‹_› : 0 ≤ x6_1)
        have c30b0 := eq_true (of_decide_eq_true ‹_› : x6_1 ≤ (l0.length : Int))
        obtain ⟨y133, hy133⟩ : ∃ y_ : List (S84), y_ = (l0.drop (x6_1 : Int).toNat) := ⟨_, rfl⟩
        replace H : (if y130.length + y133.length < 3518437208883 then ((some (y130 ++ y133 : List (S84))).bind fun y137 => (if x7_1 = true then ((some (([] : List (S84)) : List (S84))).bind fun y140 => (if y140.length + l0.length < 3518437208883 then (some ((y140 ++ l0), false)) else (none))) else ((spec_AreClaims.f k1 y137).bind fun t146 => (if t146 = true then (some (y137, true)) else ((some (([] : List (S84)) : List (S84))).bind fun y147 => (if y147.length + l0.length < 3518437208883 then (some ((y147 ++ l0), false)) else (none))))))) else (none)) = some (r1, r2) := by first | (rw [hy133]; with_reducible exact H) | (have H2_ := (Option.bind_some _ _).symm.trans H; rw [hy133]; with_reducible exact H2_) | (have H2_ := (Option.bind_some _ _).symm.trans H; with_reducible exact H2_) | with_reducible exact H | (rw [hy133]; exact H) | exact H
        have Ny133 := Aside0.mk hy133
        clear hy133
        by_cases c31 : y130.length + y133.length < 3518437208883
        ·rw [if_pos c31] at H
         have LMc31 := Aside0.mk c31
         clear c31
         obtain ⟨y137, hy137⟩ : ∃ y_ : List (S84), y_ = (y130 ++ y133) := ⟨_, rfl⟩
         replace H : (if x7_1 = true then ((some (([] : List (S84)) : List (S84))).bind fun y140 => (if y140.length + l0.length < 3518437208883 then (some ((y140 ++ l0), false)) else (none))) else ((spec_AreClaims.f k1 y137).bind fun t146 => (if t146 = true then (some (y137, true)) else ((some (([] : List (S84)) : List (S84))).bind fun y147 => (if y147.length + l0.length < 3518437208883 then (some ((y147 ++ l0), false)) else (none)))))) = some (r1, r2) := by first | (rw [hy137]; with_reducible exact H) | (have H2_ := (Option.bind_some _ _).symm.trans H; rw [hy137]; with_reducible exact H2_) | (have H2_ := (Option.bind_some _ _).symm.trans H; with_reducible exact H2_) | with_reducible exact H | (rw [hy137]; exact H) | exact H
         have Ny137 := Aside0.mk hy137
         clear hy137
         by_cases c32 : x7_1 = true
         ·subst c32
          have H1 : ((some (([] : List (S84)) : List (S84))).bind fun y140 => (if y140.length + l0.length < 3518437208883 then (some ((y140 ++ l0), false)) else (none))) = some (r1, r2) := by rw [if_pos rfl] at H; exact H
          clear H
          have H := H1
          clear H1
          obtain ⟨y140, hy140⟩ : ∃ y_ : List (S84), y_ = (([] : List (S84))) := ⟨_, rfl⟩
          replace H : (if y140.length + l0.length < 3518437208883 then (some ((y140 ++ l0), false)) else (none)) = some (r1, r2) := by first | (rw [hy140]; with_reducible exact H) | (have H2_ := (Option.bind_some _ _).symm.trans H; rw [hy140]; with_reducible exact H2_) | (have H2_ := (Option.bind_some _ _).symm.trans H; with_reducible exact H2_) | with_reducible exact H | (rw [hy140]; exact H) | exact H
          have Ny140 := Aside0.mk hy140
          clear hy140
          by_cases c33 : y140.length + l0.length < 3518437208883
          ·rw [if_pos c33] at H
           have LMc33 := Aside0.mk c33
           clear c33
           obtain ⟨y143, hy143⟩ : ∃ y_ : List (S84), y_ = (y140 ++ l0) := ⟨_, rfl⟩
           replace H : (some (y143, false)) = some (r1, r2) := by first | (rw [hy143]; with_reducible exact H) | (have H2_ := (Option.bind_some _ _).symm.trans H; rw [hy143]; with_reducible exact H2_) | (have H2_ := (Option.bind_some _ _).symm.trans H; with_reducible exact H2_) | with_reducible exact H | (rw [hy143]; exact H) | exact H
           have Ny143 := Aside0.mk hy143
           clear hy143
           simp only [Option.some.injEq, Prod.mk.injEq] at H
           obtain ⟨rfl, rfl⟩ := H
           try go_wp2
           have n0_ := Aside0.mk (blk_drew BK111.out)
           have n1_ := Aside0.mk (below_drew1 HB.out)
           clear BK111
           clear HB
           have BK111 := n0_
           have HB := n1_
           clear n0_ n1_
           have q35 : (x6_1 : Int) ≤ ((l0.length : Int) : Int) := of_decide_eq_true ‹_›
           obtain ⟨i035, hi035, _, hsz35, _⟩ := info_parts info84
           have hroom35 : l0.length ≤ c0 := HC0.out
           have hC35 : Kd.C k84 _ A0 l0.length l0 := HR0.out
           have hcut35 := cut_to (P := Try.prog) 80 84 .i64 Try.underlying80 hi035 A0 l0.length c0 x6_1 (of_decide_eq_true ‹_›) q35 hroom35
           have hr35 := Kd.C_take (m := (x6_1 : Int).toNat) hC35 (by omega)
           have hy35 : y120.length = (x6_1 : Int).toNat := (by rw [Ny120.out, List.length_take]; omega)
           rw [← Ny120.out] at hr35
           rw [← hy35] at hcut35
           have HR123 := Aside0.mk hr35
           have HC123 := Aside0.mk (show y120.length ≤ c0 from by omega)
           clear hr35 hC35 hroom35 hi035 hsz35
           have KY35 := Aside0.mk hy35
           clear hy35
           replace q35 := eq_true q35
           have q36 : (x6_1 : Int) ≤ ((l0.length : Int) : Int) := of_decide_eq_true ‹_›
           obtain ⟨i036, hi036, _, hsz36, _⟩ := info_parts info84
           have hroom36 : l0.length ≤ c0 := HC0.out
           have hC36 : Kd.C k84 _ A0 l0.length l0 := HR0.out
           have q036 : (0 : Int) ≤ (x6_1 : Int) := of_decide_eq_true ‹_›
           have hcut36 := cut_from (P := Try.prog) 80 84 .i64 Try.underlying80 hi036 5 hsz36 A0 l0.length c0 x6_1 q036 q36
           have hr36 := Kd.C_drop (m := (x6_1 : Int).toNat) (c := c0) hC36 (by omega) hroom36
           obtain ⟨A36, hA36⟩ : ∃ A1, A1 = (if c0 = (x6_1 : Int).toNat then A0 else (A0 : Option Addr).map (·.add ((x6_1 : Int).toNat * 5))) := ⟨_, rfl⟩
           obtain ⟨c36, hc36⟩ : ∃ c1, c1 = c0 - (x6_1 : Int).toNat := ⟨_, rfl⟩
           have hy36 : y133.length = l0.length - (x6_1 : Int).toNat := (by rw [Ny133.out, List.length_drop] <;> omega)
           rw [show (l0).drop (x6_1 : Int).toNat = y133 from Ny133.out.symm] at hr36
           replace hr36 : Kd.C k84 _ A36 y133.length y133 := (by rw [hA36]; exact hr36)
           rw [← hy36, ← hA36, ← hc36] at hcut36
           have HR136 := Aside0.mk hr36
           have HC136 := Aside0.mk (show y133.length ≤ c36 from by rw [hy36, hc36]; exact Nat.sub_le_sub_right hroom36 _)
           clear hr36 hC36 hroom36 hi036 hsz36 hc36
           have KY36 := Aside0.mk hy36
           have KA36 := Aside0.mk hA36
           clear hy36 hA36
           replace q36 := eq_true q36
           refine start_ (n := 13) (S := fun w' => w'.cell? ⟨gb111, 0, none⟩ = some (.int .i64 a1_0) ∧ w'.cell? ⟨gb111, 1, none⟩ = some (.int .i64 a1_1) ∧ w'.cell? ⟨gb111, 2, none⟩ = some (.int .i64 a1_2) ∧ w'.cell? ⟨gb111, 3, none⟩ = some (.int .i64 a1_3) ∧ w'.cell? ⟨gb111, 4, none⟩ = some (.int .i64 a1_4)) (ds := []) (bR [0, 13]) (by kernel_rfl) rfl rfl ⟨cC BK111 0, cC BK111 1, cC BK111 2, cC BK111 3, cC BK111 4⟩ (fun hHeld => ?_); refine with_tabW spec_AddClaim.tab9 spec_AddClaim.bits9 (fun HT_ HW_ => ?_)
           generalize wr.drew = w34 at BK111 HB HR123 HR136 hHeld ⊢
           refine pP 1 51 (bR [0, 1, 1, 11]) rfl rfl HT_ ?_
           refine pP 2 52 (bR [0, 1, 2, 10]) rfl rfl HT_ ?_
           refine pP 3 53 (bR [0, 1, 3, 9]) rfl rfl HT_ ?_
           refine pP 8 58 (bR [0, 1, 3, 4, 1, 4]) rfl rfl HT_ ?_
           refine pP 9 59 (bR [0, 1, 3, 4, 2, 3]) rfl rfl HT_ ?_
           refine pP 10 60 (bR [0, 1, 3, 4, 3, 2]) rfl rfl HT_ ?_
           refine take_ (i := 5) (N := some 55) (v := ?_) (a' := ?_) (bR [0, 1, 3, 1, 1, 2, 3, 2]) rfl rfl (take_ofW HT_.out HW_.out (by kernel_rfl)) (fun _ _ _ h => h) (Or.inl ⟨by rfl, ?_⟩) hHeld ?_ ?_
           rotate_left; (rintro w' ⟨s0, s1, s2, s3, s4⟩; go_simp; with_reducible rfl); rotate_left; (simp only [Act.put, sA, sZ, sS, i64_w]; rfl)
           refine join_ (σ := Value × Value × Value) 3 (bR [7, 1, 3, 2]) (fun s_ => [(50, s_.1), (54, s_.2.1), (56, s_.2.2)]) (fun s_ w' => (w'.cell? ⟨gb111, 0, none⟩ = some (.int .i64 a1_0) ∧ w'.cell? ⟨gb111, 1, none⟩ = some (.int .i64 a1_1) ∧ w'.cell? ⟨gb111, 2, none⟩ = some (.int .i64 a1_2) ∧ w'.cell? ⟨gb111, 3, none⟩ = some (.int .i64 a1_3) ∧ w'.cell? ⟨gb111, 4, none⟩ = some (.int .i64 a1_4)) ∧ (Kd.R k84 84 w' w.heap.size (fun k_ => some k_ ≠ (s_.2.2 : Value).ownBlock ∧ k_ ≠ gb111) s_.2.1 y124) ∧ (Kd.R k84 84 w' w.heap.size (fun k_ => some k_ ≠ (s_.2.1 : Value).ownBlock ∧ k_ ≠ gb111) s_.2.2 y127) ∧ (w'.heap[gb111]? = some (.cells #[.int .i64 a1_0, .int .i64 a1_1, .int .i64 a1_2, .int .i64 a1_3, .int .i64 a1_4] 84 (0, 0))) ∧ (Below w.heap.size w w')) ?_ ?_
           rotate_left
           ·intro hCont
            refine two_ (i := 0) (j := 6) (Ni := some 50) (Nj := some 56) (bR [4, 1, 1, 2, 3, 2]) (bR [0, 1, 3, 1, 2, 1, 3, 2]) rfl rfl rfl rfl (two_of HT_.out (by kernel_rfl)) (by decide) (by decide) (fun K hK => ?_) (fun K hK => ?_)
            ·skip
             refine Kd.R_lit_step k84 _ 84 ?hg (N := 50) ?hd (xs := ([] : List (S84))) (inner := []) (ok := fun _ => True) (okp := fun _ => True) ?hr ?hp (fun _ hk => hk) trivial (Below.refl _ _) (Nat.le_refl _) (by simp) ?_; (case hd => rfl); (case hg => rfl); (case hr => first | (go_simp; done) | (go_simp; rfl)); (case hp => exact (Reps.none _ _))
             intro v118 w37 ho38 hb hg_ hnew_
             clear hg_ hnew_
             (first | rw [← Ny117.out] at ho38 | (simp only [Int.reduceToNat] at ho38; rw [← Ny117.out] at ho38))
             have n0_ := Aside0.mk (Kd.R_lower (Kd.R_newB ho38 (qK BK111)) (below_size (by repeat first | (with_reducible first | exact HB.out | apply bA | apply bN | apply bD | refine bS ?_ GE111.out) | exact HB.out)))
             have n1_ := Aside0.mk (blk_below (qK BK111) hb)
             have n2_ := Aside0.mk (below_step (by repeat first | (with_reducible first | exact HB.out | apply bA | apply bN | apply bD | refine bS ?_ GE111.out) | exact HB.out) hb)
             clear BK111
             clear HB
             have HO119 := n0_
             have BK111 := n1_
             have HB := n2_
             clear n0_ n1_ n2_
             clear hb ho38
             refine hK.out _ _ ⟨cC BK111 0, cC BK111 1, cC BK111 2, cC BK111 3, cC BK111 4⟩ (fun hHeld => ?_)
             clear hK K
             refine norm_ (a' := ?_) ?_ ?_
             rotate_left
             ·show Act.put _ (some 50) _ = _
              simp only [Act.put, sA, sZ, sS, i64_w]
              rfl
             refine two_ (i := 4) (j := 6) (Ni := some 54) (Nj := some 56) (bR [6, 2, 3, 2]) (bR [4, 1, 2, 1, 3, 2]) rfl rfl rfl rfl (two_of HT_.out (by kernel_rfl)) (by decide) (by decide) (fun K hK => ?_) (fun K hK => ?_)
             ·skip
              refine Kd.R_append_rows_step k84 (w0 := w) w.heap.size (by rfl) (.tmp 50) (.tmp 53) 80 84 (.agg #[(.int .i64 0), (.int .i64 0), (.int .i64 0), (.int .i64 0), (.int .i64 0)]) 40 rfl Try.underlying80 info84 rfl (by decide) (by omega) v118 y117 y120 _ _ _ (fun k_ => k_ ≠ gb111) (fun _ => False) rfl rfl ?aO ?aR (fun _ _ h => h) (fun _ h => h.elim) ?aF ?aB ?aS ?aL ?_
              (case aR => exact qC (Kd.C_below HR123.out HB.out))
              (case aB => exact (by repeat first | (with_reducible first | exact HB.out | apply bA | apply bN | apply bD | refine bS ?_ GE111.out) | exact HB.out))
              (case aF => exact (fun k_ hk => Kd.freshB (qK BK111) k_ hk))
              (case aO => exact (by (with_reducible repeat first | apply rA | apply rN | apply rD); exact Kd.R_mono HO119.out (fun _ hk => hk.2)))
              (case aS => exact (below_size (by repeat first | (with_reducible first | exact HB.out | apply bA | apply bN | apply bD | refine bS ?_ GE111.out) | exact HB.out)))
              (case aL => have := LMc27.out; omega)
              intro v125 w39 ho hb hg hat
              rw [← Ny124.out] at ho
              have n0_ := Aside0.mk (blk_grown (qK BK111) hg (Kd.R_away HO119.out (fun _ hk => hk.2)))
              have n1_ := Aside0.mk (hb)
              have n2_ := Aside0.mk (ho)
              clear BK111
              clear HB
              clear HO119
              have BK111 := n0_
              have HB := n1_
              have HO126 := n2_
              clear n0_ n1_ n2_
              clear ho hb hg hat
              refine hK.out _ _ ⟨cC BK111 0, cC BK111 1, cC BK111 2, cC BK111 3, cC BK111 4⟩ (fun hHeld => ?_)
              clear hK K
              refine norm_ (a' := ?_) ?_ ?_
              rotate_left
              ·show Act.put _ (some 54) _ = _
               simp only [Act.put, sA, sZ, sS, i64_w]
               rfl
              refine one_ (i := 6) (N := some 56) (bR [7, 1, 3, 2]) rfl rfl (one_of HT_.out (by kernel_rfl)) (by decide) (fun K hK => ?_)
              refine Kd.R_lit_step k84 _ 84 ?hg (N := 56) ?hd (xs := ([(⟨a1_0, a1_1, a1_2, a1_3, a1_4⟩ : S84)] : List (S84))) (inner := [.int .i64 a1_0, .int .i64 a1_1, .int .i64 a1_2, .int .i64 a1_3, .int .i64 a1_4]) (ok := fun _ => True) (okp := fun _ => True) ?hr ?hp (fun _ hk => hk) trivial (Below.refl _ _) (Nat.le_refl _) (by simp) ?_; (case hd => rfl); (case hg => rfl); (case hr => first | (go_simp; done) | (go_simp; rfl)); (case hp => exact (Reps.c5 (show Kd.M k84 _ _ _ (⟨a1_0, a1_1, a1_2, a1_3, a1_4⟩ : S84) [.int .i64 a1_0, .int .i64 a1_1, .int .i64 a1_2, .int .i64 a1_3, .int .i64 a1_4] from (k84_mkM _ _ _ (⟨a1_0, a1_1, a1_2, a1_3, a1_4⟩ : S84) )) (Reps.none _ _)))
              intro v128 w40 ho41 hb hg_ hnew_
              clear hg_ hnew_
              (first | rw [← Ny127.out] at ho41 | (simp only [Int.reduceToNat] at ho41; rw [← Ny127.out] at ho41))
              have n0_ := Aside0.mk (Kd.R_elder' (qR HO126) (Kd.R_base ho41) hb)
              have n1_ := Aside0.mk (Kd.R_lower (Kd.R_newB (Kd.R_new' ho41 (Kd.R_lt (qR HO126))) (qK BK111)) (below_size (by repeat first | (with_reducible first | exact HB.out | apply bA | apply bN | apply bD | refine bS ?_ GE111.out) | exact HB.out)))
              have n2_ := Aside0.mk (blk_below (qK BK111) hb)
              have n3_ := Aside0.mk (below_step (by repeat first | (with_reducible first | exact HB.out | apply bA | apply bN | apply bD | refine bS ?_ GE111.out) | exact HB.out) hb)
              clear HO126
              clear BK111
              clear HB
              have HO126 := n0_
              have HO129 := n1_
              have BK111 := n2_
              have HB := n3_
              clear n0_ n1_ n2_ n3_
              clear hb ho41
              refine hK.out _ _ ⟨cC BK111 0, cC BK111 1, cC BK111 2, cC BK111 3, cC BK111 4⟩ (fun hHeld => ?_)
              clear hK K
              refine norm_ (a' := ?_) ?_ ?_
              rotate_left
              ·show Act.put _ (some 56) _ = _
               simp only [Act.put, sA, sZ, sS, i64_w]
               rfl
              exact norm_ (by simp only [putAll, Act.put, sA, sZ, sS]) (hCont (v118, v125, v128) _ ⟨hHeld, (by (with_reducible repeat first | apply rA | apply rN | apply rD); exact Kd.R_mono HO126.out (fun _ hk => ⟨hk.2, hk.1⟩)), (by (with_reducible repeat first | apply rA | apply rN | apply rD); exact Kd.R_mono HO129.out (fun _ hk => ⟨hk.1.2, hk.2⟩)), (qK BK111), (by repeat first | (with_reducible first | exact HB.out | apply bA | apply bN | apply bD | refine bS ?_ GE111.out) | exact HB.out)⟩)
             ·skip
              refine Kd.R_lit_step k84 _ 84 ?hg (N := 56) ?hd (xs := ([(⟨a1_0, a1_1, a1_2, a1_3, a1_4⟩ : S84)] : List (S84))) (inner := [.int .i64 a1_0, .int .i64 a1_1, .int .i64 a1_2, .int .i64 a1_3, .int .i64 a1_4]) (ok := fun _ => True) (okp := fun _ => True) ?hr ?hp (fun _ hk => hk) trivial (Below.refl _ _) (Nat.le_refl _) (by simp) ?_; (case hd => rfl); (case hg => rfl); (case hr => first | (go_simp; done) | (go_simp; rfl)); (case hp => exact (Reps.c5 (show Kd.M k84 _ _ _ (⟨a1_0, a1_1, a1_2, a1_3, a1_4⟩ : S84) [.int .i64 a1_0, .int .i64 a1_1, .int .i64 a1_2, .int .i64 a1_3, .int .i64 a1_4] from (k84_mkM _ _ _ (⟨a1_0, a1_1, a1_2, a1_3, a1_4⟩ : S84) )) (Reps.none _ _)))
              intro v128 w39 ho40 hb hg_ hnew_
              clear hg_ hnew_
              (first | rw [← Ny127.out] at ho40 | (simp only [Int.reduceToNat] at ho40; rw [← Ny127.out] at ho40))
              have n0_ := Aside0.mk (Kd.R_elder' (qR HO119) (Kd.R_base ho40) hb)
              have n1_ := Aside0.mk (Kd.R_lower (Kd.R_newB (Kd.R_new' ho40 (Kd.R_lt (qR HO119))) (qK BK111)) (below_size (by repeat first | (with_reducible first | exact HB.out | apply bA | apply bN | apply bD | refine bS ?_ GE111.out) | exact HB.out)))
              have n2_ := Aside0.mk (blk_below (qK BK111) hb)
              have n3_ := Aside0.mk (below_step (by repeat first | (with_reducible first | exact HB.out | apply bA | apply bN | apply bD | refine bS ?_ GE111.out) | exact HB.out) hb)
              clear HO119
              clear BK111
              clear HB
              have HO119 := n0_
              have HO129 := n1_
              have BK111 := n2_
              have HB := n3_
              clear n0_ n1_ n2_ n3_
              clear hb ho40
              refine hK.out _ _ ⟨cC BK111 0, cC BK111 1, cC BK111 2, cC BK111 3, cC BK111 4⟩ (fun hHeld => ?_)
              clear hK K
              refine norm_ (a' := ?_) ?_ ?_
              rotate_left
              ·show Act.put _ (some 56) _ = _
               simp only [Act.put, sA, sZ, sS, i64_w]
               rfl
              refine one_ (i := 4) (N := some 54) (bR [7, 1, 3, 2]) rfl rfl (one_of HT_.out (by kernel_rfl)) (by decide) (fun K hK => ?_)
              refine Kd.R_append_rows_step k84 (w0 := w) w.heap.size (by rfl) (.tmp 50) (.tmp 53) 80 84 (.agg #[(.int .i64 0), (.int .i64 0), (.int .i64 0), (.int .i64 0), (.int .i64 0)]) 40 rfl Try.underlying80 info84 rfl (by decide) (by omega) v118 y117 y120 _ _ _ (fun k_ => some k_ ≠ (v128 : Value).ownBlock ∧ k_ ≠ gb111) (fun _ => False) rfl rfl ?aO ?aR (fun _ _ h => h) (fun _ h => h.elim) ?aF ?aB ?aS ?aL ?_
              (case aR => exact qC (Kd.C_below HR123.out HB.out))
              (case aB => exact (by repeat first | (with_reducible first | exact HB.out | apply bA | apply bN | apply bD | refine bS ?_ GE111.out) | exact HB.out))
              (case aF => exact (fun k_ hk => ⟨Kd.fresh' (Kd.R_lt (qR HO129)) k_ hk, Kd.freshB (qK BK111) k_ hk⟩))
              (case aO => exact (by (with_reducible repeat first | apply rA | apply rN | apply rD); exact Kd.R_mono HO119.out (fun _ hk => ⟨hk.2, hk.1.2⟩)))
              (case aS => exact (below_size (by repeat first | (with_reducible first | exact HB.out | apply bA | apply bN | apply bD | refine bS ?_ GE111.out) | exact HB.out)))
              (case aL => have := LMc27.out; omega)
              intro v125 w41 ho hb hg hat
              rw [← Ny124.out] at ho
              have n0_ := Aside0.mk (blk_grown (qK BK111) hg (Kd.R_away HO119.out (fun _ hk => hk.1.2)))
              have n1_ := Aside0.mk (Kd.R_after (ok := (fun k_ => k_ ≠ gb111)) (by (with_reducible repeat first | apply rA | apply rN | apply rD); exact Kd.R_mono HO129.out (fun _ hk => ⟨hk.2, hk.1.2⟩)) hg hat)
              have n2_ := Aside0.mk (hb)
              have n3_ := Aside0.mk (ho)
              clear BK111
              clear HO129
              clear HB
              clear HO119
              have BK111 := n0_
              have HO129 := n1_
              have HB := n2_
              have HO126 := n3_
              clear n0_ n1_ n2_ n3_
              clear ho hb hg hat
              refine hK.out _ _ ⟨cC BK111 0, cC BK111 1, cC BK111 2, cC BK111 3, cC BK111 4⟩ (fun hHeld => ?_)
              clear hK K
              refine norm_ (a' := ?_) ?_ ?_
              rotate_left
              ·show Act.put _ (some 54) _ = _
               simp only [Act.put, sA, sZ, sS, i64_w]
               rfl
              exact norm_ (by simp only [putAll, Act.put, sA, sZ, sS]) (hCont (v118, v125, v128) _ ⟨hHeld, (qR HO126), (by (with_reducible repeat first | apply rA | apply rN | apply rD); exact Kd.R_mono HO129.out (fun _ hk => ⟨hk.2, hk.1⟩)), (qK BK111), (by repeat first | (with_reducible first | exact HB.out | apply bA | apply bN | apply bD | refine bS ?_ GE111.out) | exact HB.out)⟩)
            ·skip
             refine Kd.R_lit_step k84 _ 84 ?hg (N := 56) ?hd (xs := ([(⟨a1_0, a1_1, a1_2, a1_3, a1_4⟩ : S84)] : List (S84))) (inner := [.int .i64 a1_0, .int .i64 a1_1, .int .i64 a1_2, .int .i64 a1_3, .int .i64 a1_4]) (ok := fun _ => True) (okp := fun _ => True) ?hr ?hp (fun _ hk => hk) trivial (Below.refl _ _) (Nat.le_refl _) (by simp) ?_; (case hd => rfl); (case hg => rfl); (case hr => first | (go_simp; done) | (go_simp; rfl)); (case hp => exact (Reps.c5 (show Kd.M k84 _ _ _ (⟨a1_0, a1_1, a1_2, a1_3, a1_4⟩ : S84) [.int .i64 a1_0, .int .i64 a1_1, .int .i64 a1_2, .int .i64 a1_3, .int .i64 a1_4] from (k84_mkM _ _ _ (⟨a1_0, a1_1, a1_2, a1_3, a1_4⟩ : S84) )) (Reps.none _ _)))
             intro v128 w37 ho38 hb hg_ hnew_
             clear hg_ hnew_
             (first | rw [← Ny127.out] at ho38 | (simp only [Int.reduceToNat] at ho38; rw [← Ny127.out] at ho38))
             have n0_ := Aside0.mk (Kd.R_lower (Kd.R_newB ho38 (qK BK111)) (below_size (by repeat first | (with_reducible first | exact HB.out | apply bA | apply bN | apply bD | refine bS ?_ GE111.out) | exact HB.out)))
             have n1_ := Aside0.mk (blk_below (qK BK111) hb)
             have n2_ := Aside0.mk (below_step (by repeat first | (with_reducible first | exact HB.out | apply bA | apply bN | apply bD | refine bS ?_ GE111.out) | exact HB.out) hb)
             clear BK111
             clear HB
             have HO129 := n0_
             have BK111 := n1_
             have HB := n2_
             clear n0_ n1_ n2_
             clear hb ho38
             refine hK.out _ _ ⟨cC BK111 0, cC BK111 1, cC BK111 2, cC BK111 3, cC BK111 4⟩ (fun hHeld => ?_)
             clear hK K
             refine norm_ (a' := ?_) ?_ ?_
             rotate_left
             ·show Act.put _ (some 56) _ = _
              simp only [Act.put, sA, sZ, sS, i64_w]
              rfl
             refine one_ (i := 0) (N := some 50) (bR [4, 1, 2, 1, 3, 2]) rfl rfl (one_of HT_.out (by kernel_rfl)) (by decide) (fun K hK => ?_)
             refine Kd.R_lit_step k84 _ 84 ?hg (N := 50) ?hd (xs := ([] : List (S84))) (inner := []) (ok := fun _ => True) (okp := fun _ => True) ?hr ?hp (fun _ hk => hk) trivial (Below.refl _ _) (Nat.le_refl _) (by simp) ?_; (case hd => rfl); (case hg => rfl); (case hr => first | (go_simp; done) | (go_simp; rfl)); (case hp => exact (Reps.none _ _))
             intro v118 w39 ho40 hb hg_ hnew_
             clear hg_ hnew_
             (first | rw [← Ny117.out] at ho40 | (simp only [Int.reduceToNat] at ho40; rw [← Ny117.out] at ho40))
             have n0_ := Aside0.mk (Kd.R_elder' (qR HO129) (Kd.R_base ho40) hb)
             have n1_ := Aside0.mk (Kd.R_lower (Kd.R_newB (Kd.R_new' ho40 (Kd.R_lt (qR HO129))) (qK BK111)) (below_size (by repeat first | (with_reducible first | exact HB.out | apply bA | apply bN | apply bD | refine bS ?_ GE111.out) | exact HB.out)))
             have n2_ := Aside0.mk (blk_below (qK BK111) hb)
             have n3_ := Aside0.mk (below_step (by repeat first | (with_reducible first | exact HB.out | apply bA | apply bN | apply bD | refine bS ?_ GE111.out) | exact HB.out) hb)
             clear HO129
             clear BK111
             clear HB
             have HO129 := n0_
             have HO119 := n1_
             have BK111 := n2_
             have HB := n3_
             clear n0_ n1_ n2_ n3_
             clear hb ho40
             refine hK.out _ _ ⟨cC BK111 0, cC BK111 1, cC BK111 2, cC BK111 3, cC BK111 4⟩ (fun hHeld => ?_)
             clear hK K
             refine norm_ (a' := ?_) ?_ ?_
             rotate_left
             ·show Act.put _ (some 50) _ = _
              simp only [Act.put, sA, sZ, sS, i64_w]
              rfl
             refine one_ (i := 4) (N := some 54) (bR [7, 1, 3, 2]) rfl rfl (one_of HT_.out (by kernel_rfl)) (by decide) (fun K hK => ?_)
             refine Kd.R_append_rows_step k84 (w0 := w) w.heap.size (by rfl) (.tmp 50) (.tmp 53) 80 84 (.agg #[(.int .i64 0), (.int .i64 0), (.int .i64 0), (.int .i64 0), (.int .i64 0)]) 40 rfl Try.underlying80 info84 rfl (by decide) (by omega) v118 y117 y120 _ _ _ (fun k_ => some k_ ≠ (v128 : Value).ownBlock ∧ k_ ≠ gb111) (fun _ => False) rfl rfl ?aO ?aR (fun _ _ h => h) (fun _ h => h.elim) ?aF ?aB ?aS ?aL ?_
             (case aR => exact qC (Kd.C_below HR123.out HB.out))
             (case aB => exact (by repeat first | (with_reducible first | exact HB.out | apply bA | apply bN | apply bD | refine bS ?_ GE111.out) | exact HB.out))
             (case aF => exact (fun k_ hk => ⟨Kd.fresh' (Kd.R_lt (qR HO129)) k_ hk, Kd.freshB (qK BK111) k_ hk⟩))
             (case aO => exact (by (with_reducible repeat first | apply rA | apply rN | apply rD); exact Kd.R_mono HO119.out (fun _ hk => ⟨hk.1.2, hk.2⟩)))
             (case aS => exact (below_size (by repeat first | (with_reducible first | exact HB.out | apply bA | apply bN | apply bD | refine bS ?_ GE111.out) | exact HB.out)))
             (case aL => have := LMc27.out; omega)
             intro v125 w41 ho hb hg hat
             rw [← Ny124.out] at ho
             have n0_ := Aside0.mk (blk_grown (qK BK111) hg (Kd.R_away HO119.out (fun _ hk => hk.2)))
             have n1_ := Aside0.mk (Kd.R_after (ok := (fun k_ => k_ ≠ gb111)) (by (with_reducible repeat first | apply rA | apply rN | apply rD); exact Kd.R_mono HO129.out (fun _ hk => ⟨hk.1.2, hk.2⟩)) hg hat)
             have n2_ := Aside0.mk (hb)
             have n3_ := Aside0.mk (ho)
             clear BK111
             clear HO129
             clear HB
             clear HO119
             have BK111 := n0_
             have HO129 := n1_
             have HB := n2_
             have HO126 := n3_
             clear n0_ n1_ n2_ n3_
             clear ho hb hg hat
             refine hK.out _ _ ⟨cC BK111 0, cC BK111 1, cC BK111 2, cC BK111 3, cC BK111 4⟩ (fun hHeld => ?_)
             clear hK K
             refine norm_ (a' := ?_) ?_ ?_
             rotate_left
             ·show Act.put _ (some 54) _ = _
              simp only [Act.put, sA, sZ, sS, i64_w]
              rfl
             exact norm_ (by simp only [putAll, Act.put, sA, sZ, sS]) (hCont (v118, v125, v128) _ ⟨hHeld, (qR HO126), (by (with_reducible repeat first | apply rA | apply rN | apply rD); exact Kd.R_mono HO129.out (fun _ hk => ⟨hk.2, hk.1⟩)), (qK BK111), (by repeat first | (with_reducible first | exact HB.out | apply bA | apply bN | apply bD | refine bS ?_ GE111.out) | exact HB.out)⟩)
           rintro ⟨v118, v125, v128⟩ w42 ⟨hS_, h0_, h1_, h2_, h3_⟩
           have n0_ : Aside0 (Kd.R k84 84 w42 w.heap.size (fun k_ => some k_ ≠ (v128 : Value).ownBlock ∧ k_ ≠ gb111) v125 y124) := ⟨h0_⟩
           have n1_ : Aside0 (Kd.R k84 84 w42 w.heap.size (fun k_ => some k_ ≠ (v125 : Value).ownBlock ∧ k_ ≠ gb111) v128 y127) := ⟨h1_⟩
           have n2_ : Aside0 (w42.heap[gb111]? = some (.cells #[.int .i64 a1_0, .int .i64 a1_1, .int .i64 a1_2, .int .i64 a1_3, .int .i64 a1_4] 84 (0, 0))) := ⟨h2_⟩
           have n3_ : Aside0 (Below w.heap.size w w42) := ⟨h3_⟩
           clear BK111
           clear HB
           clear h0_ h1_ h2_ h3_
           have HO126 := n0_
           have HO129 := n1_
           have BK111 := n2_
           have HB := n3_
           clear n0_ n1_ n2_ n3_
           have hHeld : w42.cell? ⟨gb111, 0, none⟩ = some (.int .i64 a1_0) ∧ w42.cell? ⟨gb111, 1, none⟩ = some (.int .i64 a1_1) ∧ w42.cell? ⟨gb111, 2, none⟩ = some (.int .i64 a1_2) ∧ w42.cell? ⟨gb111, 3, none⟩ = some (.int .i64 a1_3) ∧ w42.cell? ⟨gb111, 4, none⟩ = some (.int .i64 a1_4) := hS_
           obtain ⟨Ao44, co44, eo44⟩ := Kd.R_slice HO129.out
           (first | subst eo44 | (injection eo44 with f1_ f2_ f3_; have f4_ := f1_.symm; have f5_ := f3_.symm; clear f1_ f2_ f3_; subst f4_; subst f5_))
           refine norm_ (a' := ?_) ?_ ?_
           rotate_left; (simp only [putAll, Act.put, sA, sZ, sS]; rfl)
           refine one_ (i := 7) (N := some 57) (bR [11, 2]) rfl rfl (one_of HT_.out (by kernel_rfl)) (by decide) (fun K hK => ?_)
           refine Kd.R_append_rows_step k84 (w0 := w) w.heap.size (by rfl) (.tmp 54) (.tmp 56) 80 84 (.agg #[(.int .i64 0), (.int .i64 0), (.int .i64 0), (.int .i64 0), (.int .i64 0)]) 40 rfl Try.underlying80 info84 rfl (by decide) (by omega) v125 y124 y127 _ _ _ (fun k_ => some k_ ≠ (.slice Ao44 y127.length co44 : Value).ownBlock ∧ k_ ≠ gb111) (fun _ => False) rfl rfl ?aO ?aR (fun _ _ h => h) (fun _ h => h.elim) ?aF ?aB ?aS ?aL ?_
           (case aR => repeat (first | exact (Kd.R_reads' HO129.out).2.2 | (with_reducible refine Kd.C_alloc ?_ _) | (with_reducible refine Kd.C_drewN ?_ _) | (with_reducible refine Kd.C_drew ?_)))
           (case aB => exact (by repeat first | (with_reducible first | exact HB.out | apply bA | apply bN | apply bD | refine bS ?_ GE111.out) | exact HB.out))
           (case aF => exact (fun k_ hk => ⟨Kd.fresh' (Kd.R_lt (qR HO129)) k_ hk, Kd.freshB (qK BK111) k_ hk⟩))
           (case aO => exact (qR HO126))
           (case aS => exact (below_size (by repeat first | (with_reducible first | exact HB.out | apply bA | apply bN | apply bD | refine bS ?_ GE111.out) | exact HB.out)))
           (case aL => have := LMc28.out; omega)
           intro v131 w43 ho hb hg hat
           rw [← Ny130.out] at ho
           have n0_ := Aside0.mk (blk_grown (qK BK111) hg (Kd.R_away HO126.out (fun _ hk => hk.2)))
           have n1_ := Aside0.mk (Kd.R_after (ok := (fun k_ => k_ ≠ gb111)) (by (with_reducible repeat first | apply rA | apply rN | apply rD); exact Kd.R_mono HO129.out (fun _ hk => ⟨hk.2, hk.1⟩)) hg hat)
           have n2_ := Aside0.mk (hb)
           have n3_ := Aside0.mk (ho)
           clear BK111
           clear HO129
           clear HB
           clear HO126
           have BK111 := n0_
           have HO129 := n1_
           have HB := n2_
           have HO132 := n3_
           clear n0_ n1_ n2_ n3_
           clear ho hb hg hat
           refine hK.out _ _ ⟨cC BK111 0, cC BK111 1, cC BK111 2, cC BK111 3, cC BK111 4⟩ (fun hHeld => ?_)
           clear hK K
           refine norm_ (a' := ?_) ?_ ?_
           rotate_left
           ·show Act.put _ (some 57) _ = _
            simp only [Act.put, sA, sZ, sS, i64_w]
            rfl
           refine one_ (i := 11) (N := some 61) (bR [12, 1]) rfl rfl (one_of HT_.out (by kernel_rfl)) (by decide) (fun K hK => ?_)
           refine Kd.R_append_rows_step k84 (w0 := w) w.heap.size (by rfl) (.tmp 57) (.tmp 60) 80 84 (.agg #[(.int .i64 0), (.int .i64 0), (.int .i64 0), (.int .i64 0), (.int .i64 0)]) 40 rfl Try.underlying80 info84 rfl (by decide) (by omega) v131 y130 y133 _ _ _ (fun k_ => some k_ ≠ (.slice Ao44 y127.length co44 : Value).ownBlock ∧ k_ ≠ gb111) (fun _ => False) rfl rfl ?aO ?aR (fun _ _ h => h) (fun _ h => h.elim) ?aF ?aB ?aS ?aL ?_
           (case aR => exact qC (Kd.C_below HR136.out HB.out))
           (case aB => exact (by repeat first | (with_reducible first | exact HB.out | apply bA | apply bN | apply bD | refine bS ?_ GE111.out) | exact HB.out))
           (case aF => exact (fun k_ hk => ⟨Kd.fresh' (Kd.R_lt (qR HO129)) k_ hk, Kd.freshB (qK BK111) k_ hk⟩))
           (case aO => exact (qR HO132))
           (case aS => exact (below_size (by repeat first | (with_reducible first | exact HB.out | apply bA | apply bN | apply bD | refine bS ?_ GE111.out) | exact HB.out)))
           (case aL => have := LMc31.out; omega)
           intro v138 w45 ho hb hg hat
           rw [← Ny137.out] at ho
           have n0_ := Aside0.mk (blk_grown (qK BK111) hg (Kd.R_away HO132.out (fun _ hk => hk.2)))
           have n1_ := Aside0.mk (Kd.R_after (ok := (fun k_ => k_ ≠ gb111)) (qR HO129) hg hat)
           have n2_ := Aside0.mk (hb)
           have n3_ := Aside0.mk (ho)
           clear BK111
           clear HO129
           clear HB
           clear HO132
           have BK111 := n0_
           have HO129 := n1_
           have HB := n2_
           have HO139 := n3_
           clear n0_ n1_ n2_ n3_
           clear ho hb hg hat
           refine hK.out _ _ ⟨cC BK111 0, cC BK111 1, cC BK111 2, cC BK111 3, cC BK111 4⟩ (fun hHeld => ?_)
           clear hK K
           refine norm_ (a' := ?_) ?_ ?_
           rotate_left
           ·show Act.put _ (some 61) _ = _
            simp only [Act.put, sA, sZ, sS, i64_w]
            rfl
           refine pP 12 9 (bR [13]) rfl rfl HT_ ?_
           refine done_ (done_of HT_.out (by kernel_rfl)) ?_
           try go_wp2_with (first | ((with_reducible refine gate_dst (N := 68) rfl ?_); refine Kd.R_lit k84 _ 84 ?hg (N := 68) ?hd (xs := ([] : List (S84))) (inner := []) (ok := fun _ => True) (okp := fun _ => True) ?hr ?hp (fun _ hk => hk) trivial (Below.refl _ _) (Nat.le_refl _) (by simp) ?_; (case hd => rfl); (case hg => rfl); (case hr => first | (go_simp; done) | (go_simp; rfl)); (case hp => exact (Reps.none _ _)); intro v141 w46 ho47 hb hg_ hnew_; clear hg_ hnew_; (first | rw [← Ny140.out] at ho47 | (simp only [Int.reduceToNat] at ho47; rw [← Ny140.out] at ho47)); have n0_ := Aside0.mk (Kd.R_elder' (qR HO129) (Kd.R_base ho47) hb); have n1_ := Aside0.mk (Kd.R_elder' (qR HO139) (Kd.R_base ho47) hb); have n2_ := Aside0.mk (Kd.R_lower (Kd.R_newB (Kd.R_new' (Kd.R_new' ho47 (Kd.R_lt (qR HO129))) (Kd.R_lt (qR HO139))) (qK BK111)) (below_size (by repeat first | (with_reducible first | exact HB.out | apply bA | apply bN | apply bD | refine bS ?_ GE111.out) | exact HB.out))); have n3_ := Aside0.mk (blk_below (qK BK111) hb); have n4_ := Aside0.mk (below_step (by repeat first | (with_reducible first | exact HB.out | apply bA | apply bN | apply bD | refine bS ?_ GE111.out) | exact HB.out) hb); clear HO129; clear HO139; clear BK111; clear HB; have HO129 := n0_; have HO139 := n1_; have HO142 := n2_; have BK111 := n3_; have HB := n4_; clear n0_ n1_ n2_ n3_ n4_; clear hb ho47) | ((with_reducible refine gate_builtin (b := .append) (xs := #[.tmp 68, .tmp 69]) rfl ?_); at_builtin; refine Kd.R_append_rows k84 (w0 := w) w.heap.size rfl (.tmp 68) (.tmp 69) 80 84 (.agg #[(.int .i64 0), (.int .i64 0), (.int .i64 0), (.int .i64 0), (.int .i64 0)]) 40 rfl Try.underlying80 info84 rfl (by decide) (by omega) v141 y140 l0 _ _ _ (fun k_ => some k_ ≠ (.slice Ao44 y127.length co44 : Value).ownBlock ∧ some k_ ≠ (v138 : Value).ownBlock ∧ k_ ≠ gb111) (fun _ => False) rfl rfl ?aO ?aR (fun _ _ h => h) (fun _ h => h.elim) ?aF ?aB ?aS ?aL ?_; (case aR => exact qC (Kd.C_below HR0.out HB.out)); (case aB => exact (by repeat first | (with_reducible first | exact HB.out | apply bA | apply bN | apply bD | refine bS ?_ GE111.out) | exact HB.out)); (case aF => exact (fun k_ hk => ⟨Kd.fresh' (Kd.R_lt (qR HO129)) k_ hk, Kd.fresh' (Kd.R_lt (qR HO139)) k_ hk, Kd.freshB (qK BK111) k_ hk⟩)); (case aO => exact (by (with_reducible repeat first | apply rA | apply rN | apply rD); exact Kd.R_mono HO142.out (fun _ hk => ⟨hk.1.1.2, ⟨hk.1.2, hk.2⟩⟩))); (case aS => exact (below_size (by repeat first | (with_reducible first | exact HB.out | apply bA | apply bN | apply bD | refine bS ?_ GE111.out) | exact HB.out))); (case aL => have := LMc33.out; omega); intro v144 w48 ho hb hg hat; rw [← Ny143.out] at ho; have n0_ := Aside0.mk (blk_grown (qK BK111) hg (Kd.R_away HO142.out (fun _ hk => hk.2))); have n1_ := Aside0.mk (Kd.R_after (ok := (fun k_ => some k_ ≠ (v138 : Value).ownBlock ∧ k_ ≠ gb111)) (by (with_reducible repeat first | apply rA | apply rN | apply rD); exact Kd.R_mono HO129.out (fun _ hk => ⟨⟨hk.1.2, hk.1.1⟩, hk.2⟩)) hg hat); have n2_ := Aside0.mk (Kd.R_after (ok := (fun k_ => some k_ ≠ (.slice Ao44 y127.length co44 : Value).ownBlock ∧ k_ ≠ gb111)) (qR HO139) hg hat); have n3_ := Aside0.mk (hb); have n4_ := Aside0.mk (ho); clear BK111; clear HO129; clear HO139; clear HB; clear HO142; have BK111 := n0_; have HO129 := n1_; have HO139 := n2_; have HB := n3_; have HO145 := n4_; clear n0_ n1_ n2_ n3_ n4_; clear ho hb hg hat))
           go_ret2
           exact ⟨_, by first | rfl | (simp [errW_none, errW_some] <;> rfl) | (simp [*, errW_none, errW_some] <;> rfl), by (with_reducible repeat first | apply rA | apply rN | apply rD); exact Kd.R_mono HO145.out (fun _ hk => trivial), by repeat (first | (with_reducible first | exact HB.out | apply bA | apply bN | apply bD | refine bS ?_ GE111.out) | exact HB.out)⟩
          ·rw [if_neg c33] at H
           exact absurd H (by simp)
         ·replace c32 := Bool.eq_false_iff.mpr c32
          subst c32
          have H1 : ((spec_AreClaims.f k1 y137).bind fun t146 => (if t146 = true then (some (y137, true)) else ((some (([] : List (S84)) : List (S84))).bind fun y147 => (if y147.length + l0.length < 3518437208883 then (some ((y147 ++ l0), false)) else (none))))) = some (r1, r2) := by rw [if_neg (show ¬ (false = true) by decide)] at H; exact H
          clear H
          have H := H1
          clear H1
          replace H := Option.bind_eq_some_iff.mp H
          obtain ⟨t146, A490, H⟩ := H
          replace H : (if t146 = true then (some (y137, true)) else ((some (([] : List (S84)) : List (S84))).bind fun y147 => (if y147.length + l0.length < 3518437208883 then (some ((y147 ++ l0), false)) else (none)))) = some (r1, r2) := H
          have A49 := Aside0.mk A490
          clear A490
          by_cases c50 : t146 = true
          ·subst c50
           have H1 : (some (y137, true)) = some (r1, r2) := by rw [if_pos rfl] at H; exact H
           clear H
           have H := H1
           clear H1
           simp only [Option.some.injEq, Prod.mk.injEq] at H
           obtain ⟨rfl, rfl⟩ := H
           try go_wp2
           have n0_ := Aside0.mk (blk_drew BK111.out)
           have n1_ := Aside0.mk (below_drew1 HB.out)
           clear BK111
           clear HB
           have BK111 := n0_
           have HB := n1_
           clear n0_ n1_
           have q52 : (x6_1 : Int) ≤ ((l0.length : Int) : Int) := of_decide_eq_true ‹_›
           obtain ⟨i052, hi052, _, hsz52, _⟩ := info_parts info84
           have hroom52 : l0.length ≤ c0 := HC0.out
           have hC52 : Kd.C k84 _ A0 l0.length l0 := HR0.out
           have hcut52 := cut_to (P := Try.prog) 80 84 .i64 Try.underlying80 hi052 A0 l0.length c0 x6_1 (of_decide_eq_true ‹_›) q52 hroom52
           have hr52 := Kd.C_take (m := (x6_1 : Int).toNat) hC52 (by omega)
           have hy52 : y120.length = (x6_1 : Int).toNat := (by rw [Ny120.out, List.length_take]; omega)
           rw [← Ny120.out] at hr52
           rw [← hy52] at hcut52
           have HR123 := Aside0.mk hr52
           have HC123 := Aside0.mk (show y120.length ≤ c0 from by omega)
           clear hr52 hC52 hroom52 hi052 hsz52
           have KY52 := Aside0.mk hy52
           clear hy52
           replace q52 := eq_true q52
           have q53 : (x6_1 : Int) ≤ ((l0.length : Int) : Int) := of_decide_eq_true ‹_›
           obtain ⟨i053, hi053, _, hsz53, _⟩ := info_parts info84
           have hroom53 : l0.length ≤ c0 := HC0.out
           have hC53 : Kd.C k84 _ A0 l0.length l0 := HR0.out
           have q053 : (0 : Int) ≤ (x6_1 : Int) := of_decide_eq_true ‹_›
           have hcut53 := cut_from (P := Try.prog) 80 84 .i64 Try.underlying80 hi053 5 hsz53 A0 l0.length c0 x6_1 q053 q53
           have hr53 := Kd.C_drop (m := (x6_1 : Int).toNat) (c := c0) hC53 (by omega) hroom53
           obtain ⟨A53, hA53⟩ : ∃ A1, A1 = (if c0 = (x6_1 : Int).toNat then A0 else (A0 : Option Addr).map (·.add ((x6_1 : Int).toNat * 5))) := ⟨_, rfl⟩
           obtain ⟨c53, hc53⟩ : ∃ c1, c1 = c0 - (x6_1 : Int).toNat := ⟨_, rfl⟩
           have hy53 : y133.length = l0.length - (x6_1 : Int).toNat := (by rw [Ny133.out, List.length_drop] <;> omega)
           rw [show (l0).drop (x6_1 : Int).toNat = y133 from Ny133.out.symm] at hr53
           replace hr53 : Kd.C k84 _ A53 y133.length y133 := (by rw [hA53]; exact hr53)
           rw [← hy53, ← hA53, ← hc53] at hcut53
           have HR136 := Aside0.mk hr53
           have HC136 := Aside0.mk (show y133.length ≤ c53 from by rw [hy53, hc53]; exact Nat.sub_le_sub_right hroom53 _)
           clear hr53 hC53 hroom53 hi053 hsz53 hc53
           have KY53 := Aside0.mk hy53
           have KA53 := Aside0.mk hA53
           clear hy53 hA53
           replace q53 := eq_true q53
           refine start_ (n := 13) (S := fun w' => w'.cell? ⟨gb111, 0, none⟩ = some (.int .i64 a1_0) ∧ w'.cell? ⟨gb111, 1, none⟩ = some (.int .i64 a1_1) ∧ w'.cell? ⟨gb111, 2, none⟩ = some (.int .i64 a1_2) ∧ w'.cell? ⟨gb111, 3, none⟩ = some (.int .i64 a1_3) ∧ w'.cell? ⟨gb111, 4, none⟩ = some (.int .i64 a1_4)) (ds := []) (bR [0, 13]) (by kernel_rfl) rfl rfl ⟨cC BK111 0, cC BK111 1, cC BK111 2, cC BK111 3, cC BK111 4⟩ (fun hHeld => ?_); refine with_tabW spec_AddClaim.tab9 spec_AddClaim.bits9 (fun HT_ HW_ => ?_)
           generalize wr.drew = w51 at BK111 HB HR123 HR136 hHeld ⊢
           refine pP 1 51 (bR [0, 1, 1, 11]) rfl rfl HT_ ?_
           refine pP 2 52 (bR [0, 1, 2, 10]) rfl rfl HT_ ?_
           refine pP 3 53 (bR [0, 1, 3, 9]) rfl rfl HT_ ?_
           refine pP 8 58 (bR [0, 1, 3, 4, 1, 4]) rfl rfl HT_ ?_
           refine pP 9 59 (bR [0, 1, 3, 4, 2, 3]) rfl rfl HT_ ?_
           refine pP 10 60 (bR [0, 1, 3, 4, 3, 2]) rfl rfl HT_ ?_
           refine take_ (i := 5) (N := some 55) (v := ?_) (a' := ?_) (bR [0, 1, 3, 1, 1, 2, 3, 2]) rfl rfl (take_ofW HT_.out HW_.out (by kernel_rfl)) (fun _ _ _ h => h) (Or.inl ⟨by rfl, ?_⟩) hHeld ?_ ?_
           rotate_left; (rintro w' ⟨s0, s1, s2, s3, s4⟩; go_simp; with_reducible rfl); rotate_left; (simp only [Act.put, sA, sZ, sS, i64_w]; rfl)
           refine join_ (σ := Value × Value × Value) 3 (bR [7, 1, 3, 2]) (fun s_ => [(50, s_.1), (54, s_.2.1), (56, s_.2.2)]) (fun s_ w' => (w'.cell? ⟨gb111, 0, none⟩ = some (.int .i64 a1_0) ∧ w'.cell? ⟨gb111, 1, none⟩ = some (.int .i64 a1_1) ∧ w'.cell? ⟨gb111, 2, none⟩ = some (.int .i64 a1_2) ∧ w'.cell? ⟨gb111, 3, none⟩ = some (.int .i64 a1_3) ∧ w'.cell? ⟨gb111, 4, none⟩ = some (.int .i64 a1_4)) ∧ (Kd.R k84 84 w' w.heap.size (fun k_ => some k_ ≠ (s_.2.2 : Value).ownBlock ∧ k_ ≠ gb111) s_.2.1 y124) ∧ (Kd.R k84 84 w' w.heap.size (fun k_ => some k_ ≠ (s_.2.1 : Value).ownBlock ∧ k_ ≠ gb111) s_.2.2 y127) ∧ (w'.heap[gb111]? = some (.cells #[.int .i64 a1_0, .int .i64 a1_1, .int .i64 a1_2, .int .i64 a1_3, .int .i64 a1_4] 84 (0, 0))) ∧ (Below w.heap.size w w')) ?_ ?_
           rotate_left
           ·intro hCont
            refine two_ (i := 0) (j := 6) (Ni := some 50) (Nj := some 56) (bR [4, 1, 1, 2, 3, 2]) (bR [0, 1, 3, 1, 2, 1, 3, 2]) rfl rfl rfl rfl (two_of HT_.out (by kernel_rfl)) (by decide) (by decide) (fun K hK => ?_) (fun K hK => ?_)
            ·skip
             refine Kd.R_lit_step k84 _ 84 ?hg (N := 50) ?hd (xs := ([] : List (S84))) (inner := []) (ok := fun _ => True) (okp := fun _ => True) ?hr ?hp (fun _ hk => hk) trivial (Below.refl _ _) (Nat.le_refl _) (by simp) ?_; (case hd => rfl); (case hg => rfl); (case hr => first | (go_simp; done) | (go_simp; rfl)); (case hp => exact (Reps.none _ _))
             intro v118 w54 ho55 hb hg_ hnew_
             clear hg_ hnew_
             (first | rw [← Ny117.out] at ho55 | (simp only [Int.reduceToNat] at ho55; rw [← Ny117.out] at ho55))
             have n0_ := Aside0.mk (Kd.R_lower (Kd.R_newB ho55 (qK BK111)) (below_size (by repeat first | (with_reducible first | exact HB.out | apply bA | apply bN | apply bD | refine bS ?_ GE111.out) | exact HB.out)))
             have n1_ := Aside0.mk (blk_below (qK BK111) hb)
             have n2_ := Aside0.mk (below_step (by repeat first | (with_reducible first | exact HB.out | apply bA | apply bN | apply bD | refine bS ?_ GE111.out) | exact HB.out) hb)
             clear BK111
             clear HB
             have HO119 := n0_
             have BK111 := n1_
             have HB := n2_
             clear n0_ n1_ n2_
             clear hb ho55
             refine hK.out _ _ ⟨cC BK111 0, cC BK111 1, cC BK111 2, cC BK111 3, cC BK111 4⟩ (fun hHeld => ?_)
             clear hK K
             refine norm_ (a' := ?_) ?_ ?_
             rotate_left
             ·show Act.put _ (some 50) _ = _
              simp only [Act.put, sA, sZ, sS, i64_w]
              rfl
             refine two_ (i := 4) (j := 6) (Ni := some 54) (Nj := some 56) (bR [6, 2, 3, 2]) (bR [4, 1, 2, 1, 3, 2]) rfl rfl rfl rfl (two_of HT_.out (by kernel_rfl)) (by decide) (by decide) (fun K hK => ?_) (fun K hK => ?_)
             ·skip
              refine Kd.R_append_rows_step k84 (w0 := w) w.heap.size (by rfl) (.tmp 50) (.tmp 53) 80 84 (.agg #[(.int .i64 0), (.int .i64 0), (.int .i64 0), (.int .i64 0), (.int .i64 0)]) 40 rfl Try.underlying80 info84 rfl (by decide) (by omega) v118 y117 y120 _ _ _ (fun k_ => k_ ≠ gb111) (fun _ => False) rfl rfl ?aO ?aR (fun _ _ h => h) (fun _ h => h.elim) ?aF ?aB ?aS ?aL ?_
              (case aR => exact qC (Kd.C_below HR123.out HB.out))
              (case aB => exact (by repeat first | (with_reducible first | exact HB.out | apply bA | apply bN | apply bD | refine bS ?_ GE111.out) | exact HB.out))
              (case aF => exact (fun k_ hk => Kd.freshB (qK BK111) k_ hk))
              (case aO => exact (by (with_reducible repeat first | apply rA | apply rN | apply rD); exact Kd.R_mono HO119.out (fun _ hk => hk.2)))
              (case aS => exact (below_size (by repeat first | (with_reducible first | exact HB.out | apply bA | apply bN | apply bD | refine bS ?_ GE111.out) | exact HB.out)))
              (case aL => have := LMc27.out; omega)
              intro v125 w56 ho hb hg hat
              rw [← Ny124.out] at ho
              have n0_ := Aside0.mk (blk_grown (qK BK111) hg (Kd.R_away HO119.out (fun _ hk => hk.2)))
              have n1_ := Aside0.mk (hb)
              have n2_ := Aside0.mk (ho)
              clear BK111
              clear HB
              clear HO119
              have BK111 := n0_
              have HB := n1_
              have HO126 := n2_
              clear n0_ n1_ n2_
              clear ho hb hg hat
              refine hK.out _ _ ⟨cC BK111 0, cC BK111 1, cC BK111 2, cC BK111 3, cC BK111 4⟩ (fun hHeld => ?_)
              clear hK K
              refine norm_ (a' := ?_) ?_ ?_
              rotate_left
              ·show Act.put _ (some 54) _ = _
               simp only [Act.put, sA, sZ, sS, i64_w]
               rfl
              refine one_ (i := 6) (N := some 56) (bR [7, 1, 3, 2]) rfl rfl (one_of HT_.out (by kernel_rfl)) (by decide) (fun K hK => ?_)
              refine Kd.R_lit_step k84 _ 84 ?hg (N := 56) ?hd (xs := ([(⟨a1_0, a1_1, a1_2, a1_3, a1_4⟩ : S84)] : List (S84))) (inner := [.int .i64 a1_0, .int .i64 a1_1, .int .i64 a1_2, .int .i64 a1_3, .int .i64 a1_4]) (ok := fun _ => True) (okp := fun _ => True) ?hr ?hp (fun _ hk => hk) trivial (Below.refl _ _) (Nat.le_refl _) (by simp) ?_; (case hd => rfl); (case hg => rfl); (case hr => first | (go_simp; done) | (go_simp; rfl)); (case hp => exact (Reps.c5 (show Kd.M k84 _ _ _ (⟨a1_0, a1_1, a1_2, a1_3, a1_4⟩ : S84) [.int .i64 a1_0, .int .i64 a1_1, .int .i64 a1_2, .int .i64 a1_3, .int .i64 a1_4] from (k84_mkM _ _ _ (⟨a1_0, a1_1, a1_2, a1_3, a1_4⟩ : S84) )) (Reps.none _ _)))
              intro v128 w57 ho58 hb hg_ hnew_
              clear hg_ hnew_
              (first | rw [← Ny127.out] at ho58 | (simp only [Int.reduceToNat] at ho58; rw [← Ny127.out] at ho58))
              have n0_ := Aside0.mk (Kd.R_elder' (qR HO126) (Kd.R_base ho58) hb)
              have n1_ := Aside0.mk (Kd.R_lower (Kd.R_newB (Kd.R_new' ho58 (Kd.R_lt (qR HO126))) (qK BK111)) (below_size (by repeat first | (with_reducible first | exact HB.out | apply bA | apply bN | apply bD | refine bS ?_ GE111.out) | exact HB.out)))
              have n2_ := Aside0.mk (blk_below (qK BK111) hb)
              have n3_ := Aside0.mk (below_step (by repeat first | (with_reducible first | exact HB.out | apply bA | apply bN | apply bD | refine bS ?_ GE111.out) | exact HB.out) hb)
              clear HO126
              clear BK111
              clear HB
              have HO126 := n0_
              have HO129 := n1_
              have BK111 := n2_
              have HB := n3_
              clear n0_ n1_ n2_ n3_
              clear hb ho58
              refine hK.out _ _ ⟨cC BK111 0, cC BK111 1, cC BK111 2, cC BK111 3, cC BK111 4⟩ (fun hHeld => ?_)
              clear hK K
              refine norm_ (a' := ?_) ?_ ?_
              rotate_left
              ·show Act.put _ (some 56) _ = _
               simp only [Act.put, sA, sZ, sS, i64_w]
               rfl
              exact norm_ (by simp only [putAll, Act.put, sA, sZ, sS]) (hCont (v118, v125, v128) _ ⟨hHeld, (by (with_reducible repeat first | apply rA | apply rN | apply rD); exact Kd.R_mono HO126.out (fun _ hk => ⟨hk.2, hk.1⟩)), (by (with_reducible repeat first | apply rA | apply rN | apply rD); exact Kd.R_mono HO129.out (fun _ hk => ⟨hk.1.2, hk.2⟩)), (qK BK111), (by repeat first | (with_reducible first | exact HB.out | apply bA | apply bN | apply bD | refine bS ?_ GE111.out) | exact HB.out)⟩)
             ·skip
              refine Kd.R_lit_step k84 _ 84 ?hg (N := 56) ?hd (xs := ([(⟨a1_0, a1_1, a1_2, a1_3, a1_4⟩ : S84)] : List (S84))) (inner := [.int .i64 a1_0, .int .i64 a1_1, .int .i64 a1_2, .int .i64 a1_3, .int .i64 a1_4]) (ok := fun _ => True) (okp := fun _ => True) ?hr ?hp (fun _ hk => hk) trivial (Below.refl _ _) (Nat.le_refl _) (by simp) ?_; (case hd => rfl); (case hg => rfl); (case hr => first | (go_simp; done) | (go_simp; rfl)); (case hp => exact (Reps.c5 (show Kd.M k84 _ _ _ (⟨a1_0, a1_1, a1_2, a1_3, a1_4⟩ : S84) [.int .i64 a1_0, .int .i64 a1_1, .int .i64 a1_2, .int .i64 a1_3, .int .i64 a1_4] from (k84_mkM _ _ _ (⟨a1_0, a1_1, a1_2, a1_3, a1_4⟩ : S84) )) (Reps.none _ _)))
              intro v128 w56 ho57 hb hg_ hnew_
              clear hg_ hnew_
              (first | rw [← Ny127.out] at ho57 | (simp only [Int.reduceToNat] at ho57; rw [← Ny127.out] at ho57))
              have n0_ := Aside0.mk (Kd.R_elder' (qR HO119) (Kd.R_base ho57) hb)
              have n1_ := Aside0.mk (Kd.R_lower (Kd.R_newB (Kd.R_new' ho57 (Kd.R_lt (qR HO119))) (qK BK111)) (below_size (by repeat first | (with_reducible first | exact HB.out | apply bA | apply bN | apply bD | refine bS ?_ GE111.out) | exact HB.out)))
              have n2_ := Aside0.mk (blk_below (qK BK111) hb)
              have n3_ := Aside0.mk (below_step (by repeat first | (with_reducible first | exact HB.out | apply bA | apply bN | apply bD | refine bS ?_ GE111.out) | exact HB.out) hb)
              clear HO119
              clear BK111
              clear HB
              have HO119 := n0_
              have HO129 := n1_
              have BK111 := n2_
              have HB := n3_
              clear n0_ n1_ n2_ n3_
              clear hb ho57
              refine hK.out _ _ ⟨cC BK111 0, cC BK111 1, cC BK111 2, cC BK111 3, cC BK111 4⟩ (fun hHeld => ?_)
              clear hK K
              refine norm_ (a' := ?_) ?_ ?_
              rotate_left
              ·show Act.put _ (some 56) _ = _
               simp only [Act.put, sA, sZ, sS, i64_w]
               rfl
              refine one_ (i := 4) (N := some 54) (bR [7, 1, 3, 2]) rfl rfl (one_of HT_.out (by kernel_rfl)) (by decide) (fun K hK => ?_)
              refine Kd.R_append_rows_step k84 (w0 := w) w.heap.size (by rfl) (.tmp 50) (.tmp 53) 80 84 (.agg #[(.int .i64 0), (.int .i64 0), (.int .i64 0), (.int .i64 0), (.int .i64 0)]) 40 rfl Try.underlying80 info84 rfl (by decide) (by omega) v118 y117 y120 _ _ _ (fun k_ => some k_ ≠ (v128 : Value).ownBlock ∧ k_ ≠ gb111) (fun _ => False) rfl rfl ?aO ?aR (fun _ _ h => h) (fun _ h => h.elim) ?aF ?aB ?aS ?aL ?_
              (case aR => exact qC (Kd.C_below HR123.out HB.out))
              (case aB => exact (by repeat first | (with_reducible first | exact HB.out | apply bA | apply bN | apply bD | refine bS ?_ GE111.out) | exact HB.out))
              (case aF => exact (fun k_ hk => ⟨Kd.fresh' (Kd.R_lt (qR HO129)) k_ hk, Kd.freshB (qK BK111) k_ hk⟩))
              (case aO => exact (by (with_reducible repeat first | apply rA | apply rN | apply rD); exact Kd.R_mono HO119.out (fun _ hk => ⟨hk.2, hk.1.2⟩)))
              (case aS => exact (below_size (by repeat first | (with_reducible first | exact HB.out | apply bA | apply bN | apply bD | refine bS ?_ GE111.out) | exact HB.out)))
              (case aL => have := LMc27.out; omega)
              intro v125 w58 ho hb hg hat
              rw [← Ny124.out] at ho
              have n0_ := Aside0.mk (blk_grown (qK BK111) hg (Kd.R_away HO119.out (fun _ hk => hk.1.2)))
              have n1_ := Aside0.mk (Kd.R_after (ok := (fun k_ => k_ ≠ gb111)) (by (with_reducible repeat first | apply rA | apply rN | apply rD); exact Kd.R_mono HO129.out (fun _ hk => ⟨hk.2, hk.1.2⟩)) hg hat)
              have n2_ := Aside0.mk (hb)
              have n3_ := Aside0.mk (ho)
              clear BK111
              clear HO129
              clear HB
              clear HO119
              have BK111 := n0_
              have HO129 := n1_
              have HB := n2_
              have HO126 := n3_
              clear n0_ n1_ n2_ n3_
              clear ho hb hg hat
              refine hK.out _ _ ⟨cC BK111 0, cC BK111 1, cC BK111 2, cC BK111 3, cC BK111 4⟩ (fun hHeld => ?_)
              clear hK K
              refine norm_ (a' := ?_) ?_ ?_
              rotate_left
              ·show Act.put _ (some 54) _ = _
               simp only [Act.put, sA, sZ, sS, i64_w]
               rfl
              exact norm_ (by simp only [putAll, Act.put, sA, sZ, sS]) (hCont (v118, v125, v128) _ ⟨hHeld, (qR HO126), (by (with_reducible repeat first | apply rA | apply rN | apply rD); exact Kd.R_mono HO129.out (fun _ hk => ⟨hk.2, hk.1⟩)), (qK BK111), (by repeat first | (with_reducible first | exact HB.out | apply bA | apply bN | apply bD | refine bS ?_ GE111.out) | exact HB.out)⟩)
            ·skip
             refine Kd.R_lit_step k84 _ 84 ?hg (N := 56) ?hd (xs := ([(⟨a1_0, a1_1, a1_2, a1_3, a1_4⟩ : S84)] : List (S84))) (inner := [.int .i64 a1_0, .int .i64 a1_1, .int .i64 a1_2, .int .i64 a1_3, .int .i64 a1_4]) (ok := fun _ => True) (okp := fun _ => True) ?hr ?hp (fun _ hk => hk) trivial (Below.refl _ _) (Nat.le_refl _) (by simp) ?_; (case hd => rfl); (case hg => rfl); (case hr => first | (go_simp; done) | (go_simp; rfl)); (case hp => exact (Reps.c5 (show Kd.M k84 _ _ _ (⟨a1_0, a1_1, a1_2, a1_3, a1_4⟩ : S84) [.int .i64 a1_0, .int .i64 a1_1, .int .i64 a1_2, .int .i64 a1_3, .int .i64 a1_4] from (k84_mkM _ _ _ (⟨a1_0, a1_1, a1_2, a1_3, a1_4⟩ : S84) )) (Reps.none _ _)))
             intro v128 w54 ho55 hb hg_ hnew_
             clear hg_ hnew_
             (first | rw [← Ny127.out] at ho55 | (simp only [Int.reduceToNat] at ho55; rw [← Ny127.out] at ho55))
             have n0_ := Aside0.mk (Kd.R_lower (Kd.R_newB ho55 (qK BK111)) (below_size (by repeat first | (with_reducible first | exact HB.out | apply bA | apply bN | apply bD | refine bS ?_ GE111.out) | exact HB.out)))
             have n1_ := Aside0.mk (blk_below (qK BK111) hb)
             have n2_ := Aside0.mk (below_step (by repeat first | (with_reducible first | exact HB.out | apply bA | apply bN | apply bD | refine bS ?_ GE111.out) | exact HB.out) hb)
             clear BK111
             clear HB
             have HO129 := n0_
             have BK111 := n1_
             have HB := n2_
             clear n0_ n1_ n2_
             clear hb ho55
             refine hK.out _ _ ⟨cC BK111 0, cC BK111 1, cC BK111 2, cC BK111 3, cC BK111 4⟩ (fun hHeld => ?_)
             clear hK K
             refine norm_ (a' := ?_) ?_ ?_
             rotate_left
             ·show Act.put _ (some 56) _ = _
              simp only [Act.put, sA, sZ, sS, i64_w]
              rfl
             refine one_ (i := 0) (N := some 50) (bR [4, 1, 2, 1, 3, 2]) rfl rfl (one_of HT_.out (by kernel_rfl)) (by decide) (fun K hK => ?_)
             refine Kd.R_lit_step k84 _ 84 ?hg (N := 50) ?hd (xs := ([] : List (S84))) (inner := []) (ok := fun _ => True) (okp := fun _ => True) ?hr ?hp (fun _ hk => hk) trivial (Below.refl _ _) (Nat.le_refl _) (by simp) ?_; (case hd => rfl); (case hg => rfl); (case hr => first | (go_simp; done) | (go_simp; rfl)); (case hp => exact (Reps.none _ _))
             intro v118 w56 ho57 hb hg_ hnew_
             clear hg_ hnew_
             (first | rw [← Ny117.out] at ho57 | (simp only [Int.reduceToNat] at ho57; rw [← Ny117.out] at ho57))
             have n0_ := Aside0.mk (Kd.R_elder' (qR HO129) (Kd.R_base ho57) hb)
             have n1_ := Aside0.mk (Kd.R_lower (Kd.R_newB (Kd.R_new' ho57 (Kd.R_lt (qR HO129))) (qK BK111)) (below_size (by repeat first | (with_reducible first | exact HB.out | apply bA | apply bN | apply bD | refine bS ?_ GE111.out) | exact HB.out)))
             have n2_ := Aside0.mk (blk_below (qK BK111) hb)
             have n3_ := Aside0.mk (below_step (by repeat first | (with_reducible first | exact HB.out | apply bA | apply bN | apply bD | refine bS ?_ GE111.out) | exact HB.out) hb)
             clear HO129
             clear BK111
             clear HB
             have HO129 := n0_
             have HO119 := n1_
             have BK111 := n2_
             have HB := n3_
             clear n0_ n1_ n2_ n3_
             clear hb ho57
             refine hK.out _ _ ⟨cC BK111 0, cC BK111 1, cC BK111 2, cC BK111 3, cC BK111 4⟩ (fun hHeld => ?_)
             clear hK K
             refine norm_ (a' := ?_) ?_ ?_
             rotate_left
             ·show Act.put _ (some 50) _ = _
              simp only [Act.put, sA, sZ, sS, i64_w]
              rfl
             refine one_ (i := 4) (N := some 54) (bR [7, 1, 3, 2]) rfl rfl (one_of HT_.out (by kernel_rfl)) (by decide) (fun K hK => ?_)
             refine Kd.R_append_rows_step k84 (w0 := w) w.heap.size (by rfl) (.tmp 50) (.tmp 53) 80 84 (.agg #[(.int .i64 0), (.int .i64 0), (.int .i64 0), (.int .i64 0), (.int .i64 0)]) 40 rfl Try.underlying80 info84 rfl (by decide) (by omega) v118 y117 y120 _ _ _ (fun k_ => some k_ ≠ (v128 : Value).ownBlock ∧ k_ ≠ gb111) (fun _ => False) rfl rfl ?aO ?aR (fun _ _ h => h) (fun _ h => h.elim) ?aF ?aB ?aS ?aL ?_
             (case aR => exact qC (Kd.C_below HR123.out HB.out))
             (case aB => exact (by repeat first | (with_reducible first | exact HB.out | apply bA | apply bN | apply bD | refine bS ?_ GE111.out) | exact HB.out))
             (case aF => exact (fun k_ hk => ⟨Kd.fresh' (Kd.R_lt (qR HO129)) k_ hk, Kd.freshB (qK BK111) k_ hk⟩))
             (case aO => exact (by (with_reducible repeat first | apply rA | apply rN | apply rD); exact Kd.R_mono HO119.out (fun _ hk => ⟨hk.1.2, hk.2⟩)))
             (case aS => exact (below_size (by repeat first | (with_reducible first | exact HB.out | apply bA | apply bN | apply bD | refine bS ?_ GE111.out) | exact HB.out)))
             (case aL => have := LMc27.out; omega)
             intro v125 w58 ho hb hg hat
             rw [← Ny124.out] at ho
             have n0_ := Aside0.mk (blk_grown (qK BK111) hg (Kd.R_away HO119.out (fun _ hk => hk.2)))
             have n1_ := Aside0.mk (Kd.R_after (ok := (fun k_ => k_ ≠ gb111)) (by (with_reducible repeat first | apply rA | apply rN | apply rD); exact Kd.R_mono HO129.out (fun _ hk => ⟨hk.1.2, hk.2⟩)) hg hat)
             have n2_ := Aside0.mk (hb)
             have n3_ := Aside0.mk (ho)
             clear BK111
             clear HO129
             clear HB
             clear HO119
             have BK111 := n0_
             have HO129 := n1_
             have HB := n2_
             have HO126 := n3_
             clear n0_ n1_ n2_ n3_
             clear ho hb hg hat
             refine hK.out _ _ ⟨cC BK111 0, cC BK111 1, cC BK111 2, cC BK111 3, cC BK111 4⟩ (fun hHeld => ?_)
             clear hK K
             refine norm_ (a' := ?_) ?_ ?_
             rotate_left
             ·show Act.put _ (some 54) _ = _
              simp only [Act.put, sA, sZ, sS, i64_w]
              rfl
             exact norm_ (by simp only [putAll, Act.put, sA, sZ, sS]) (hCont (v118, v125, v128) _ ⟨hHeld, (qR HO126), (by (with_reducible repeat first | apply rA | apply rN | apply rD); exact Kd.R_mono HO129.out (fun _ hk => ⟨hk.2, hk.1⟩)), (qK BK111), (by repeat first | (with_reducible first | exact HB.out | apply bA | apply bN | apply bD | refine bS ?_ GE111.out) | exact HB.out)⟩)
           rintro ⟨v118, v125, v128⟩ w59 ⟨hS_, h0_, h1_, h2_, h3_⟩
           have n0_ : Aside0 (Kd.R k84 84 w59 w.heap.size (fun k_ => some k_ ≠ (v128 : Value).ownBlock ∧ k_ ≠ gb111) v125 y124) := ⟨h0_⟩
           have n1_ : Aside0 (Kd.R k84 84 w59 w.heap.size (fun k_ => some k_ ≠ (v125 : Value).ownBlock ∧ k_ ≠ gb111) v128 y127) := ⟨h1_⟩
           have n2_ : Aside0 (w59.heap[gb111]? = some (.cells #[.int .i64 a1_0, .int .i64 a1_1, .int .i64 a1_2, .int .i64 a1_3, .int .i64 a1_4] 84 (0, 0))) := ⟨h2_⟩
           have n3_ : Aside0 (Below w.heap.size w w59) := ⟨h3_⟩
           clear BK111
           clear HB
           clear h0_ h1_ h2_ h3_
           have HO126 := n0_
           have HO129 := n1_
           have BK111 := n2_
           have HB := n3_
           clear n0_ n1_ n2_ n3_
           have hHeld : w59.cell? ⟨gb111, 0, none⟩ = some (.int .i64 a1_0) ∧ w59.cell? ⟨gb111, 1, none⟩ = some (.int .i64 a1_1) ∧ w59.cell? ⟨gb111, 2, none⟩ = some (.int .i64 a1_2) ∧ w59.cell? ⟨gb111, 3, none⟩ = some (.int .i64 a1_3) ∧ w59.cell? ⟨gb111, 4, none⟩ = some (.int .i64 a1_4) := hS_
           obtain ⟨Ao61, co61, eo61⟩ := Kd.R_slice HO129.out
           (first | subst eo61 | (injection eo61 with f1_ f2_ f3_; have f4_ := f1_.symm; have f5_ := f3_.symm; clear f1_ f2_ f3_; subst f4_; subst f5_))
           refine norm_ (a' := ?_) ?_ ?_
           rotate_left; (simp only [putAll, Act.put, sA, sZ, sS]; rfl)
           refine one_ (i := 7) (N := some 57) (bR [11, 2]) rfl rfl (one_of HT_.out (by kernel_rfl)) (by decide) (fun K hK => ?_)
           refine Kd.R_append_rows_step k84 (w0 := w) w.heap.size (by rfl) (.tmp 54) (.tmp 56) 80 84 (.agg #[(.int .i64 0), (.int .i64 0), (.int .i64 0), (.int .i64 0), (.int .i64 0)]) 40 rfl Try.underlying80 info84 rfl (by decide) (by omega) v125 y124 y127 _ _ _ (fun k_ => some k_ ≠ (.slice Ao61 y127.length co61 : Value).ownBlock ∧ k_ ≠ gb111) (fun _ => False) rfl rfl ?aO ?aR (fun _ _ h => h) (fun _ h => h.elim) ?aF ?aB ?aS ?aL ?_
           (case aR => repeat (first | exact (Kd.R_reads' HO129.out).2.2 | (with_reducible refine Kd.C_alloc ?_ _) | (with_reducible refine Kd.C_drewN ?_ _) | (with_reducible refine Kd.C_drew ?_)))
           (case aB => exact (by repeat first | (with_reducible first | exact HB.out | apply bA | apply bN | apply bD | refine bS ?_ GE111.out) | exact HB.out))
           (case aF => exact (fun k_ hk => ⟨Kd.fresh' (Kd.R_lt (qR HO129)) k_ hk, Kd.freshB (qK BK111) k_ hk⟩))
           (case aO => exact (qR HO126))
           (case aS => exact (below_size (by repeat first | (with_reducible first | exact HB.out | apply bA | apply bN | apply bD | refine bS ?_ GE111.out) | exact HB.out)))
           (case aL => have := LMc28.out; omega)
           intro v131 w60 ho hb hg hat
           rw [← Ny130.out] at ho
           have n0_ := Aside0.mk (blk_grown (qK BK111) hg (Kd.R_away HO126.out (fun _ hk => hk.2)))
           have n1_ := Aside0.mk (Kd.R_after (ok := (fun k_ => k_ ≠ gb111)) (by (with_reducible repeat first | apply rA | apply rN | apply rD); exact Kd.R_mono HO129.out (fun _ hk => ⟨hk.2, hk.1⟩)) hg hat)
           have n2_ := Aside0.mk (hb)
           have n3_ := Aside0.mk (ho)
           clear BK111
           clear HO129
           clear HB
           clear HO126
           have BK111 := n0_
           have HO129 := n1_
           have HB := n2_
           have HO132 := n3_
           clear n0_ n1_ n2_ n3_
           clear ho hb hg hat
           refine hK.out _ _ ⟨cC BK111 0, cC BK111 1, cC BK111 2, cC BK111 3, cC BK111 4⟩ (fun hHeld => ?_)
           clear hK K
           refine norm_ (a' := ?_) ?_ ?_
           rotate_left
           ·show Act.put _ (some 57) _ = _
            simp only [Act.put, sA, sZ, sS, i64_w]
            rfl
           refine one_ (i := 11) (N := some 61) (bR [12, 1]) rfl rfl (one_of HT_.out (by kernel_rfl)) (by decide) (fun K hK => ?_)
           refine Kd.R_append_rows_step k84 (w0 := w) w.heap.size (by rfl) (.tmp 57) (.tmp 60) 80 84 (.agg #[(.int .i64 0), (.int .i64 0), (.int .i64 0), (.int .i64 0), (.int .i64 0)]) 40 rfl Try.underlying80 info84 rfl (by decide) (by omega) v131 y130 y133 _ _ _ (fun k_ => some k_ ≠ (.slice Ao61 y127.length co61 : Value).ownBlock ∧ k_ ≠ gb111) (fun _ => False) rfl rfl ?aO ?aR (fun _ _ h => h) (fun _ h => h.elim) ?aF ?aB ?aS ?aL ?_
           (case aR => exact qC (Kd.C_below HR136.out HB.out))
           (case aB => exact (by repeat first | (with_reducible first | exact HB.out | apply bA | apply bN | apply bD | refine bS ?_ GE111.out) | exact HB.out))
           (case aF => exact (fun k_ hk => ⟨Kd.fresh' (Kd.R_lt (qR HO129)) k_ hk, Kd.freshB (qK BK111) k_ hk⟩))
           (case aO => exact (qR HO132))
           (case aS => exact (below_size (by repeat first | (with_reducible first | exact HB.out | apply bA | apply bN | apply bD | refine bS ?_ GE111.out) | exact HB.out)))
           (case aL => have := LMc31.out; omega)
           intro v138 w62 ho hb hg hat
           rw [← Ny137.out] at ho
           have n0_ := Aside0.mk (blk_grown (qK BK111) hg (Kd.R_away HO132.out (fun _ hk => hk.2)))
           have n1_ := Aside0.mk (Kd.R_after (ok := (fun k_ => k_ ≠ gb111)) (qR HO129) hg hat)
           have n2_ := Aside0.mk (hb)
           have n3_ := Aside0.mk (ho)
           clear BK111
           clear HO129
           clear HB
           clear HO132
           have BK111 := n0_
           have HO129 := n1_
           have HB := n2_
           have HO139 := n3_
           clear n0_ n1_ n2_ n3_
           clear ho hb hg hat
           refine hK.out _ _ ⟨cC BK111 0, cC BK111 1, cC BK111 2, cC BK111 3, cC BK111 4⟩ (fun hHeld => ?_)
           clear hK K
           refine norm_ (a' := ?_) ?_ ?_
           rotate_left
           ·show Act.put _ (some 61) _ = _
            simp only [Act.put, sA, sZ, sS, i64_w]
            rfl
           refine pP 12 9 (bR [13]) rfl rfl HT_ ?_
           refine done_ (done_of HT_.out (by kernel_rfl)) ?_
           obtain ⟨Ao63, co63, eo63⟩ := Kd.R_slice HO139.out
           subst eo63
           try go_wp2_with (first | (go_at_call 87; (with_reducible refine (spec_AreClaims.calls k1 _ _ y137 true _ ?side1 ?side2 A49.out).mono ?_); (case side1 => repeat (first | exact (Kd.R_reads' HO139.out).2.2 | (with_reducible refine Kd.C_alloc ?_ _) | (with_reducible refine Kd.C_drewN ?_ _) | (with_reducible refine Kd.C_drew ?_))); (case side2 => exact (Kd.R_reads' HO139.out).2.1); rintro e w64 ⟨rfl, hb⟩; have n0_ := Aside0.mk (Kd.R_below (qR HO129) hb); have n1_ := Aside0.mk (Kd.R_below (qR HO139) hb); have n2_ := Aside0.mk (blk_below (qK BK111) hb); have n3_ := Aside0.mk (below_step (by repeat first | (with_reducible first | exact HB.out | apply bA | apply bN | apply bD | refine bS ?_ GE111.out) | exact HB.out) hb); clear HO129; clear HO139; clear BK111; clear HB; have HO129 := n0_; have HO139 := n1_; have BK111 := n2_; have HB := n3_; clear n0_ n1_ n2_ n3_; (try clear hb); (try clear hb2); (try clear hk); (try clear hi)))
           go_ret2
           exact ⟨_, by first | rfl | (simp [errW_none, errW_some] <;> rfl) | (simp [*, errW_none, errW_some] <;> rfl), by (with_reducible repeat first | apply rA | apply rN | apply rD); exact Kd.R_mono HO139.out (fun _ hk => trivial), by repeat (first | (with_reducible first | exact HB.out | apply bA | apply bN | apply bD | refine bS ?_ GE111.out) | exact HB.out)⟩
          ·replace c50 := Bool.eq_false_iff.mpr c50
           subst c50
           have H1 : ((some (([] : List (S84)) : List (S84))).bind fun y147 => (if y147.length + l0.length < 3518437208883 then (some ((y147 ++ l0), false)) else (none))) = some (r1, r2) := by rw [if_neg (show ¬ (false = true) by decide)] at H; exact H
           clear H
           have H := H1
           clear H1
           obtain ⟨y147, hy147⟩ : ∃ y_ : List (S84), y_ = (([] : List (S84))) := ⟨_, rfl⟩
           replace H : (if y147.length + l0.length < 3518437208883 then (some ((y147 ++ l0), false)) else (none)) = some (r1, r2) := by first | (rw [hy147]; with_reducible exact H) | (have H2_ := (Option.bind_some _ _).symm.trans H; rw [hy147]; with_reducible exact H2_) | (have H2_ := (Option.bind_some _ _).symm.trans H; with_reducible exact H2_) | with_reducible exact H | (rw [hy147]; exact H) | exact H
           have Ny147 := Aside0.mk hy147
           clear hy147
           by_cases c65 : y147.length + l0.length < 3518437208883
           ·rw [if_pos c65] at H
            have LMc65 := Aside0.mk c65
            clear c65
            obtain ⟨y150, hy150⟩ : ∃ y_ : List (S84), y_ = (y147 ++ l0) := ⟨_, rfl⟩
            replace H : (some (y150, false)) = some (r1, r2) := by first | (rw [hy150]; with_reducible exact H) | (have H2_ := (Option.bind_some _ _).symm.trans H; rw [hy150]; with_reducible exact H2_) | (have H2_ := (Option.bind_some _ _).symm.trans H; with_reducible exact H2_) | with_reducible exact H | (rw [hy150]; exact H) | exact H
            have Ny150 := Aside0.mk hy150
            clear hy150
            simp only [Option.some.injEq, Prod.mk.injEq] at H
            obtain ⟨rfl, rfl⟩ := H
            try go_wp2
            have n0_ := Aside0.mk (blk_drew BK111.out)
            have n1_ := Aside0.mk (below_drew1 HB.out)
            clear BK111
            clear HB
            have BK111 := n0_
            have HB := n1_
            clear n0_ n1_
            have q67 : (x6_1 : Int) ≤ ((l0.length : Int) : Int) := of_decide_eq_true ‹_›
            obtain ⟨i067, hi067, _, hsz67, _⟩ := info_parts info84
            have hroom67 : l0.length ≤ c0 := HC0.out
            have hC67 : Kd.C k84 _ A0 l0.length l0 := HR0.out
            have hcut67 := cut_to (P := Try.prog) 80 84 .i64 Try.underlying80 hi067 A0 l0.length c0 x6_1 (of_decide_eq_true ‹_›) q67 hroom67
            have hr67 := Kd.C_take (m := (x6_1 : Int).toNat) hC67 (by omega)
            have hy67 : y120.length = (x6_1 : Int).toNat := (by rw [Ny120.out, List.length_take]; omega)
            rw [← Ny120.out] at hr67
            rw [← hy67] at hcut67
            have HR123 := Aside0.mk hr67
            have HC123 := Aside0.mk (show y120.length ≤ c0 from by omega)
            clear hr67 hC67 hroom67 hi067 hsz67
            have KY67 := Aside0.mk hy67
            clear hy67
            replace q67 := eq_true q67
            have q68 : (x6_1 : Int) ≤ ((l0.length : Int) : Int) := of_decide_eq_true ‹_›
            obtain ⟨i068, hi068, _, hsz68, _⟩ := info_parts info84
            have hroom68 : l0.length ≤ c0 := HC0.out
            have hC68 : Kd.C k84 _ A0 l0.length l0 := HR0.out
            have q068 : (0 : Int) ≤ (x6_1 : Int) := of_decide_eq_true ‹_›
            have hcut68 := cut_from (P := Try.prog) 80 84 .i64 Try.underlying80 hi068 5 hsz68 A0 l0.length c0 x6_1 q068 q68
            have hr68 := Kd.C_drop (m := (x6_1 : Int).toNat) (c := c0) hC68 (by omega) hroom68
            obtain ⟨A68, hA68⟩ : ∃ A1, A1 = (if c0 = (x6_1 : Int).toNat then A0 else (A0 : Option Addr).map (·.add ((x6_1 : Int).toNat * 5))) := ⟨_, rfl⟩
            obtain ⟨c68, hc68⟩ : ∃ c1, c1 = c0 - (x6_1 : Int).toNat := ⟨_, rfl⟩
            have hy68 : y133.length = l0.length - (x6_1 : Int).toNat := (by rw [Ny133.out, List.length_drop] <;> omega)
            rw [show (l0).drop (x6_1 : Int).toNat = y133 from Ny133.out.symm] at hr68
            replace hr68 : Kd.C k84 _ A68 y133.length y133 := (by rw [hA68]; exact hr68)
            rw [← hy68, ← hA68, ← hc68] at hcut68
            have HR136 := Aside0.mk hr68
            have HC136 := Aside0.mk (show y133.length ≤ c68 from by rw [hy68, hc68]; exact Nat.sub_le_sub_right hroom68 _)
            clear hr68 hC68 hroom68 hi068 hsz68 hc68
            have KY68 := Aside0.mk hy68
            have KA68 := Aside0.mk hA68
            clear hy68 hA68
            replace q68 := eq_true q68
            refine start_ (n := 13) (S := fun w' => w'.cell? ⟨gb111, 0, none⟩ = some (.int .i64 a1_0) ∧ w'.cell? ⟨gb111, 1, none⟩ = some (.int .i64 a1_1) ∧ w'.cell? ⟨gb111, 2, none⟩ = some (.int .i64 a1_2) ∧ w'.cell? ⟨gb111, 3, none⟩ = some (.int .i64 a1_3) ∧ w'.cell? ⟨gb111, 4, none⟩ = some (.int .i64 a1_4)) (ds := []) (bR [0, 13]) (by kernel_rfl) rfl rfl ⟨cC BK111 0, cC BK111 1, cC BK111 2, cC BK111 3, cC BK111 4⟩ (fun hHeld => ?_); refine with_tabW spec_AddClaim.tab9 spec_AddClaim.bits9 (fun HT_ HW_ => ?_)
            generalize wr.drew = w66 at BK111 HB HR123 HR136 hHeld ⊢
            refine pP 1 51 (bR [0, 1, 1, 11]) rfl rfl HT_ ?_
            refine pP 2 52 (bR [0, 1, 2, 10]) rfl rfl HT_ ?_
            refine pP 3 53 (bR [0, 1, 3, 9]) rfl rfl HT_ ?_
            refine pP 8 58 (bR [0, 1, 3, 4, 1, 4]) rfl rfl HT_ ?_
            refine pP 9 59 (bR [0, 1, 3, 4, 2, 3]) rfl rfl HT_ ?_
            refine pP 10 60 (bR [0, 1, 3, 4, 3, 2]) rfl rfl HT_ ?_
            refine take_ (i := 5) (N := some 55) (v := ?_) (a' := ?_) (bR [0, 1, 3, 1, 1, 2, 3, 2]) rfl rfl (take_ofW HT_.out HW_.out (by kernel_rfl)) (fun _ _ _ h => h) (Or.inl ⟨by rfl, ?_⟩) hHeld ?_ ?_
            rotate_left; (rintro w' ⟨s0, s1, s2, s3, s4⟩; go_simp; with_reducible rfl); rotate_left; (simp only [Act.put, sA, sZ, sS, i64_w]; rfl)
            refine join_ (σ := Value × Value × Value) 3 (bR [7, 1, 3, 2]) (fun s_ => [(50, s_.1), (54, s_.2.1), (56, s_.2.2)]) (fun s_ w' => (w'.cell? ⟨gb111, 0, none⟩ = some (.int .i64 a1_0) ∧ w'.cell? ⟨gb111, 1, none⟩ = some (.int .i64 a1_1) ∧ w'.cell? ⟨gb111, 2, none⟩ = some (.int .i64 a1_2) ∧ w'.cell? ⟨gb111, 3, none⟩ = some (.int .i64 a1_3) ∧ w'.cell? ⟨gb111, 4, none⟩ = some (.int .i64 a1_4)) ∧ (Kd.R k84 84 w' w.heap.size (fun k_ => some k_ ≠ (s_.2.2 : Value).ownBlock ∧ k_ ≠ gb111) s_.2.1 y124) ∧ (Kd.R k84 84 w' w.heap.size (fun k_ => some k_ ≠ (s_.2.1 : Value).ownBlock ∧ k_ ≠ gb111) s_.2.2 y127) ∧ (w'.heap[gb111]? = some (.cells #[.int .i64 a1_0, .int .i64 a1_1, .int .i64 a1_2, .int .i64 a1_3, .int .i64 a1_4] 84 (0, 0))) ∧ (Below w.heap.size w w')) ?_ ?_
            rotate_left
            ·intro hCont
             refine two_ (i := 0) (j := 6) (Ni := some 50) (Nj := some 56) (bR [4, 1, 1, 2, 3, 2]) (bR [0, 1, 3, 1, 2, 1, 3, 2]) rfl rfl rfl rfl (two_of HT_.out (by kernel_rfl)) (by decide) (by decide) (fun K hK => ?_) (fun K hK => ?_)
             ·skip
              refine Kd.R_lit_step k84 _ 84 ?hg (N := 50) ?hd (xs := ([] : List (S84))) (inner := []) (ok := fun _ => True) (okp := fun _ => True) ?hr ?hp (fun _ hk => hk) trivial (Below.refl _ _) (Nat.le_refl _) (by simp) ?_; (case hd => rfl); (case hg => rfl); (case hr => first | (go_simp; done) | (go_simp; rfl)); (case hp => exact (Reps.none _ _))
              intro v118 w69 ho70 hb hg_ hnew_
              clear hg_ hnew_
              (first | rw [← Ny117.out] at ho70 | (simp only [Int.reduceToNat] at ho70; rw [← Ny117.out] at ho70))
              have n0_ := Aside0.mk (Kd.R_lower (Kd.R_newB ho70 (qK BK111)) (below_size (by repeat first | (with_reducible first | exact HB.out | apply bA | apply bN | apply bD | refine bS ?_ GE111.out) | exact HB.out)))
              have n1_ := Aside0.mk (blk_below (qK BK111) hb)
              have n2_ := Aside0.mk (below_step (by repeat first | (with_reducible first | exact HB.out | apply bA | apply bN | apply bD | refine bS ?_ GE111.out) | exact HB.out) hb)
              clear BK111
              clear HB
              have HO119 := n0_
              have BK111 := n1_
              have HB := n2_
              clear n0_ n1_ n2_
              clear hb ho70
              refine hK.out _ _ ⟨cC BK111 0, cC BK111 1, cC BK111 2, cC BK111 3, cC BK111 4⟩ (fun hHeld => ?_)
              clear hK K
              refine norm_ (a' := ?_) ?_ ?_
              rotate_left
              ·show Act.put _ (some 50) _ = _
               simp only [Act.put, sA, sZ, sS, i64_w]
               rfl
              refine two_ (i := 4) (j := 6) (Ni := some 54) (Nj := some 56) (bR [6, 2, 3, 2]) (bR [4, 1, 2, 1, 3, 2]) rfl rfl rfl rfl (two_of HT_.out (by kernel_rfl)) (by decide) (by decide) (fun K hK => ?_) (fun K hK => ?_)
              ·skip
               refine Kd.R_append_rows_step k84 (w0 := w) w.heap.size (by rfl) (.tmp 50) (.tmp 53) 80 84 (.agg #[(.int .i64 0), (.int .i64 0), (.int .i64 0), (.int .i64 0), (.int .i64 0)]) 40 rfl Try.underlying80 info84 rfl (by decide) (by omega) v118 y117 y120 _ _ _ (fun k_ => k_ ≠ gb111) (fun _ => False) rfl rfl ?aO ?aR (fun _ _ h => h) (fun _ h => h.elim) ?aF ?aB ?aS ?aL ?_
               (case aR => exact qC (Kd.C_below HR123.out HB.out))
               (case aB => exact (by repeat first | (with_reducible first | exact HB.out | apply bA | apply bN | apply bD | refine bS ?_ GE111.out) | exact HB.out))
               (case aF => exact (fun k_ hk => Kd.freshB (qK BK111) k_ hk))
               (case aO => exact (by (with_reducible repeat first | apply rA | apply rN | apply rD); exact Kd.R_mono HO119.out (fun _ hk => hk.2)))
               (case aS => exact (below_size (by repeat first | (with_reducible first | exact HB.out | apply bA | apply bN | apply bD | refine bS ?_ GE111.out) | exact HB.out)))
               (case aL => have := LMc27.out; omega)
               intro v125 w71 ho hb hg hat
               rw [← Ny124.out] at ho
               have n0_ := Aside0.mk (blk_grown (qK BK111) hg (Kd.R_away HO119.out (fun _ hk => hk.2)))
               have n1_ := Aside0.mk (hb)
               have n2_ := Aside0.mk (ho)
               clear BK111
               clear HB
               clear HO119
               have BK111 := n0_
               have HB := n1_
               have HO126 := n2_
               clear n0_ n1_ n2_
               clear ho hb hg hat
               refine hK.out _ _ ⟨cC BK111 0, cC BK111 1, cC BK111 2, cC BK111 3, cC BK111 4⟩ (fun hHeld => ?_)
               clear hK K
               refine norm_ (a' := ?_) ?_ ?_
               rotate_left
               ·show Act.put _ (some 54) _ = _
                simp only [Act.put, sA, sZ, sS, i64_w]
                rfl
               refine one_ (i := 6) (N := some 56) (bR [7, 1, 3, 2]) rfl rfl (one_of HT_.out (by kernel_rfl)) (by decide) (fun K hK => ?_)
               refine Kd.R_lit_step k84 _ 84 ?hg (N := 56) ?hd (xs := ([(⟨a1_0, a1_1, a1_2, a1_3, a1_4⟩ : S84)] : List (S84))) (inner := [.int .i64 a1_0, .int .i64 a1_1, .int .i64 a1_2, .int .i64 a1_3, .int .i64 a1_4]) (ok := fun _ => True) (okp := fun _ => True) ?hr ?hp (fun _ hk => hk) trivial (Below.refl _ _) (Nat.le_refl _) (by simp) ?_; (case hd => rfl); (case hg => rfl); (case hr => first | (go_simp; done) | (go_simp; rfl)); (case hp => exact (Reps.c5 (show Kd.M k84 _ _ _ (⟨a1_0, a1_1, a1_2, a1_3, a1_4⟩ : S84) [.int .i64 a1_0, .int .i64 a1_1, .int .i64 a1_2, .int .i64 a1_3, .int .i64 a1_4] from (k84_mkM _ _ _ (⟨a1_0, a1_1, a1_2, a1_3, a1_4⟩ : S84) )) (Reps.none _ _)))
               intro v128 w72 ho73 hb hg_ hnew_
               clear hg_ hnew_
               (first | rw [← Ny127.out] at ho73 | (simp only [Int.reduceToNat] at ho73; rw [← Ny127.out] at ho73))
               have n0_ := Aside0.mk (Kd.R_elder' (qR HO126) (Kd.R_base ho73) hb)
               have n1_ := Aside0.mk (Kd.R_lower (Kd.R_newB (Kd.R_new' ho73 (Kd.R_lt (qR HO126))) (qK BK111)) (below_size (by repeat first | (with_reducible first | exact HB.out | apply bA | apply bN | apply bD | refine bS ?_ GE111.out) | exact HB.out)))
               have n2_ := Aside0.mk (blk_below (qK BK111) hb)
               have n3_ := Aside0.mk (below_step (by repeat first | (with_reducible first | exact HB.out | apply bA | apply bN | apply bD | refine bS ?_ GE111.out) | exact HB.out) hb)
               clear HO126
               clear BK111
               clear HB
               have HO126 := n0_
               have HO129 := n1_
               have BK111 := n2_
               have HB := n3_
               clear n0_ n1_ n2_ n3_
               clear hb ho73
               refine hK.out _ _ ⟨cC BK111 0, cC BK111 1, cC BK111 2, cC BK111 3, cC BK111 4⟩ (fun hHeld => ?_)
               clear hK K
               refine norm_ (a' := ?_) ?_ ?_
               rotate_left
               ·show Act.put _ (some 56) _ = _
                simp only [Act.put, sA, sZ, sS, i64_w]
                rfl
               exact norm_ (by simp only [putAll, Act.put, sA, sZ, sS]) (hCont (v118, v125, v128) _ ⟨hHeld, (by (with_reducible repeat first | apply rA | apply rN | apply rD); exact Kd.R_mono HO126.out (fun _ hk => ⟨hk.2, hk.1⟩)), (by (with_reducible repeat first | apply rA | apply rN | apply rD); exact Kd.R_mono HO129.out (fun _ hk => ⟨hk.1.2, hk.2⟩)), (qK BK111), (by repeat first | (with_reducible first | exact HB.out | apply bA | apply bN | apply bD | refine bS ?_ GE111.out) | exact HB.out)⟩)
              ·skip
               refine Kd.R_lit_step k84 _ 84 ?hg (N := 56) ?hd (xs := ([(⟨a1_0, a1_1, a1_2, a1_3, a1_4⟩ : S84)] : List (S84))) (inner := [.int .i64 a1_0, .int .i64 a1_1, .int .i64 a1_2, .int .i64 a1_3, .int .i64 a1_4]) (ok := fun _ => True) (okp := fun _ => True) ?hr ?hp (fun _ hk => hk) trivial (Below.refl _ _) (Nat.le_refl _) (by simp) ?_; (case hd => rfl); (case hg => rfl); (case hr => first | (go_simp; done) | (go_simp; rfl)); (case hp => exact (Reps.c5 (show Kd.M k84 _ _ _ (⟨a1_0, a1_1, a1_2, a1_3, a1_4⟩ : S84) [.int .i64 a1_0, .int .i64 a1_1, .int .i64 a1_2, .int .i64 a1_3, .int .i64 a1_4] from (k84_mkM _ _ _ (⟨a1_0, a1_1, a1_2, a1_3, a1_4⟩ : S84) )) (Reps.none _ _)))
               intro v128 w71 ho72 hb hg_ hnew_
               clear hg_ hnew_
               (first | rw [← Ny127.out] at ho72 | (simp only [Int.reduceToNat] at ho72; rw [← Ny127.out] at ho72))
               have n0_ := Aside0.mk (Kd.R_elder' (qR HO119) (Kd.R_base ho72) hb)
               have n1_ := Aside0.mk (Kd.R_lower (Kd.R_newB (Kd.R_new' ho72 (Kd.R_lt (qR HO119))) (qK BK111)) (below_size (by repeat first | (with_reducible first | exact HB.out | apply bA | apply bN | apply bD | refine bS ?_ GE111.out) | exact HB.out)))
               have n2_ := Aside0.mk (blk_below (qK BK111) hb)
               have n3_ := Aside0.mk (below_step (by repeat first | (with_reducible first | exact HB.out | apply bA | apply bN | apply bD | refine bS ?_ GE111.out) | exact HB.out) hb)
               clear HO119
               clear BK111
               clear HB
               have HO119 := n0_
               have HO129 := n1_
               have BK111 := n2_
               have HB := n3_
               clear n0_ n1_ n2_ n3_
               clear hb ho72
               refine hK.out _ _ ⟨cC BK111 0, cC BK111 1, cC BK111 2, cC BK111 3, cC BK111 4⟩ (fun hHeld => ?_)
               clear hK K
               refine norm_ (a' := ?_) ?_ ?_
               rotate_left
               ·show Act.put _ (some 56) _ = _
                simp only [Act.put, sA, sZ, sS, i64_w]
                rfl
               refine one_ (i := 4) (N := some 54) (bR [7, 1, 3, 2]) rfl rfl (one_of HT_.out (by kernel_rfl)) (by decide) (fun K hK => ?_)
               refine Kd.R_append_rows_step k84 (w0 := w) w.heap.size (by rfl) (.tmp 50) (.tmp 53) 80 84 (.agg #[(.int .i64 0), (.int .i64 0), (.int .i64 0), (.int .i64 0), (.int .i64 0)]) 40 rfl Try.underlying80 info84 rfl (by decide) (by omega) v118 y117 y120 _ _ _ (fun k_ => some k_ ≠ (v128 : Value).ownBlock ∧ k_ ≠ gb111) (fun _ => False) rfl rfl ?aO ?aR (fun _ _ h => h) (fun _ h => h.elim) ?aF ?aB ?aS ?aL ?_
               (case aR => exact qC (Kd.C_below HR123.out HB.out))
               (case aB => exact (by repeat first | (with_reducible first | exact HB.out | apply bA | apply bN | apply bD | refine bS ?_ GE111.out) | exact HB.out))
               (case aF => exact (fun k_ hk => ⟨Kd.fresh' (Kd.R_lt (qR HO129)) k_ hk, Kd.freshB (qK BK111) k_ hk⟩))
               (case aO => exact (by (with_reducible repeat first | apply rA | apply rN | apply rD); exact Kd.R_mono HO119.out (fun _ hk => ⟨hk.2, hk.1.2⟩)))
               (case aS => exact (below_size (by repeat first | (with_reducible first | exact HB.out | apply bA | apply bN | apply bD | refine bS ?_ GE111.out) | exact HB.out)))
               (case aL => have := LMc27.out; omega)
               intro v125 w73 ho hb hg hat
               rw [← Ny124.out] at ho
               have n0_ := Aside0.mk (blk_grown (qK BK111) hg (Kd.R_away HO119.out (fun _ hk => hk.1.2)))
               have n1_ := Aside0.mk (Kd.R_after (ok := (fun k_ => k_ ≠ gb111)) (by (with_reducible repeat first | apply rA | apply rN | apply rD); exact Kd.R_mono HO129.out (fun _ hk => ⟨hk.2, hk.1.2⟩)) hg hat)
               have n2_ := Aside0.mk (hb)
               have n3_ := Aside0.mk (ho)
               clear BK111
               clear HO129
               clear HB
               clear HO119
               have BK111 := n0_
               have HO129 := n1_
               have HB := n2_
               have HO126 := n3_
               clear n0_ n1_ n2_ n3_
               clear ho hb hg hat
               refine hK.out _ _ ⟨cC BK111 0, cC BK111 1, cC BK111 2, cC BK111 3, cC BK111 4⟩ (fun hHeld => ?_)
               clear hK K
               refine norm_ (a' := ?_) ?_ ?_
               rotate_left
               ·show Act.put _ (some 54) _ = _
                simp only [Act.put, sA, sZ, sS, i64_w]
                rfl
               exact norm_ (by simp only [putAll, Act.put, sA, sZ, sS]) (hCont (v118, v125, v128) _ ⟨hHeld, (qR HO126), (by (with_reducible repeat first | apply rA | apply rN | apply rD); exact Kd.R_mono HO129.out (fun _ hk => ⟨hk.2, hk.1⟩)), (qK BK111), (by repeat first | (with_reducible first | exact HB.out | apply bA | apply bN | apply bD | refine bS ?_ GE111.out) | exact HB.out)⟩)
             ·skip
              refine Kd.R_lit_step k84 _ 84 ?hg (N := 56) ?hd (xs := ([(⟨a1_0, a1_1, a1_2, a1_3, a1_4⟩ : S84)] : List (S84))) (inner := [.int .i64 a1_0, .int .i64 a1_1, .int .i64 a1_2, .int .i64 a1_3, .int .i64 a1_4]) (ok := fun _ => True) (okp := fun _ => True) ?hr ?hp (fun _ hk => hk) trivial (Below.refl _ _) (Nat.le_refl _) (by simp) ?_; (case hd => rfl); (case hg => rfl); (case hr => first | (go_simp; done) | (go_simp; rfl)); (case hp => exact (Reps.c5 (show Kd.M k84 _ _ _ (⟨a1_0, a1_1, a1_2, a1_3, a1_4⟩ : S84) [.int .i64 a1_0, .int .i64 a1_1, .int .i64 a1_2, .int .i64 a1_3, .int .i64 a1_4] from (k84_mkM _ _ _ (⟨a1_0, a1_1, a1_2, a1_3, a1_4⟩ : S84) )) (Reps.none _ _)))
              intro v128 w69 ho70 hb hg_ hnew_
              clear hg_ hnew_
              (first | rw [← Ny127.out] at ho70 | (simp only [Int.reduceToNat] at ho70; rw [← Ny127.out] at ho70))
              have n0_ := Aside0.mk (Kd.R_lower (Kd.R_newB ho70 (qK BK111)) (below_size (by repeat first | (with_reducible first | exact HB.out | apply bA | apply bN | apply bD | refine bS ?_ GE111.out) | exact HB.out)))
              have n1_ := Aside0.mk (blk_below (qK BK111) hb)
              have n2_ := Aside0.mk (below_step (by repeat first | (with_reducible first | exact HB.out | apply bA | apply bN | apply bD | refine bS ?_ GE111.out) | exact HB.out) hb)
              clear BK111
              clear HB
              have HO129 := n0_
              have BK111 := n1_
              have HB := n2_
              clear n0_ n1_ n2_
              clear hb ho70
              refine hK.out _ _ ⟨cC BK111 0, cC BK111 1, cC BK111 2, cC BK111 3, cC BK111 4⟩ (fun hHeld => ?_)
              clear hK K
              refine norm_ (a' := ?_) ?_ ?_
              rotate_left
              ·show Act.put _ (some 56) _ = _
               simp only [Act.put, sA, sZ, sS, i64_w]
               rfl
              refine one_ (i := 0) (N := some 50) (bR [4, 1, 2, 1, 3, 2]) rfl rfl (one_of HT_.out (by kernel_rfl)) (by decide) (fun K hK => ?_)
              refine Kd.R_lit_step k84 _ 84 ?hg (N := 50) ?hd (xs := ([] : List (S84))) (inner := []) (ok := fun _ => True) (okp := fun _ => True) ?hr ?hp (fun _ hk => hk) trivial (Below.refl _ _) (Nat.le_refl _) (by simp) ?_; (case hd => rfl); (case hg => rfl); (case hr => first | (go_simp; done) | (go_simp; rfl)); (case hp => exact (Reps.none _ _))
              intro v118 w71 ho72 hb hg_ hnew_
              clear hg_ hnew_
              (first | rw [← Ny117.out] at ho72 | (simp only [Int.reduceToNat] at ho72; rw [← Ny117.out] at ho72))
              have n0_ := Aside0.mk (Kd.R_elder' (qR HO129) (Kd.R_base ho72) hb)
              have n1_ := Aside0.mk (Kd.R_lower (Kd.R_newB (Kd.R_new' ho72 (Kd.R_lt (qR HO129))) (qK BK111)) (below_size (by repeat first | (with_reducible first | exact HB.out | apply bA | apply bN | apply bD | refine bS ?_ GE111.out) | exact HB.out)))
              have n2_ := Aside0.mk (blk_below (qK BK111) hb)
              have n3_ := Aside0.mk (below_step (by repeat first | (with_reducible first | exact HB.out | apply bA | apply bN | apply bD | refine bS ?_ GE111.out) | exact HB.out) hb)
              clear HO129
              clear BK111
              clear HB
              have HO129 := n0_
              have HO119 := n1_
              have BK111 := n2_
              have HB := n3_
              clear n0_ n1_ n2_ n3_
              clear hb ho72
              refine hK.out _ _ ⟨cC BK111 0, cC BK111 1, cC BK111 2, cC BK111 3, cC BK111 4⟩ (fun hHeld => ?_)
              clear hK K
              refine norm_ (a' := ?_) ?_ ?_
              rotate_left
              ·show Act.put _ (some 50) _ = _
               simp only [Act.put, sA, sZ, sS, i64_w]
               rfl
              refine one_ (i := 4) (N := some 54) (bR [7, 1, 3, 2]) rfl rfl (one_of HT_.out (by kernel_rfl)) (by decide) (fun K hK => ?_)
              refine Kd.R_append_rows_step k84 (w0 := w) w.heap.size (by rfl) (.tmp 50) (.tmp 53) 80 84 (.agg #[(.int .i64 0), (.int .i64 0), (.int .i64 0), (.int .i64 0), (.int .i64 0)]) 40 rfl Try.underlying80 info84 rfl (by decide) (by omega) v118 y117 y120 _ _ _ (fun k_ => some k_ ≠ (v128 : Value).ownBlock ∧ k_ ≠ gb111) (fun _ => False) rfl rfl ?aO ?aR (fun _ _ h => h) (fun _ h => h.elim) ?aF ?aB ?aS ?aL ?_
              (case aR => exact qC (Kd.C_below HR123.out HB.out))
              (case aB => exact (by repeat first | (with_reducible first | exact HB.out | apply bA | apply bN | apply bD | refine bS ?_ GE111.out) | exact HB.out))
              (case aF => exact (fun k_ hk => ⟨Kd.fresh' (Kd.R_lt (qR HO129)) k_ hk, Kd.freshB (qK BK111) k_ hk⟩))
              (case aO => exact (by (with_reducible repeat first | apply rA | apply rN | apply rD); exact Kd.R_mono HO119.out (fun _ hk => ⟨hk.1.2, hk.2⟩)))
              (case aS => exact (below_size (by repeat first | (with_reducible first | exact HB.out | apply bA | apply bN | apply bD | refine bS ?_ GE111.out) | exact HB.out)))
              (case aL => have := LMc27.out; omega)
              intro v125 w73 ho hb hg hat
              rw [← Ny124.out] at ho
              have n0_ := Aside0.mk (blk_grown (qK BK111) hg (Kd.R_away HO119.out (fun _ hk => hk.2)))
              have n1_ := Aside0.mk (Kd.R_after (ok := (fun k_ => k_ ≠ gb111)) (by (with_reducible repeat first | apply rA | apply rN | apply rD); exact Kd.R_mono HO129.out (fun _ hk => ⟨hk.1.2, hk.2⟩)) hg hat)
              have n2_ := Aside0.mk (hb)
              have n3_ := Aside0.mk (ho)
              clear BK111
              clear HO129
              clear HB
              clear HO119
              have BK111 := n0_
              have HO129 := n1_
              have HB := n2_
              have HO126 := n3_
              clear n0_ n1_ n2_ n3_
              clear ho hb hg hat
              refine hK.out _ _ ⟨cC BK111 0, cC BK111 1, cC BK111 2, cC BK111 3, cC BK111 4⟩ (fun hHeld => ?_)
              clear hK K
              refine norm_ (a' := ?_) ?_ ?_
              rotate_left
              ·show Act.put _ (some 54) _ = _
               simp only [Act.put, sA, sZ, sS, i64_w]
               rfl
              exact norm_ (by simp only [putAll, Act.put, sA, sZ, sS]) (hCont (v118, v125, v128) _ ⟨hHeld, (qR HO126), (by (with_reducible repeat first | apply rA | apply rN | apply rD); exact Kd.R_mono HO129.out (fun _ hk => ⟨hk.2, hk.1⟩)), (qK BK111), (by repeat first | (with_reducible first | exact HB.out | apply bA | apply bN | apply bD | refine bS ?_ GE111.out) | exact HB.out)⟩)
            rintro ⟨v118, v125, v128⟩ w74 ⟨hS_, h0_, h1_, h2_, h3_⟩
            have n0_ : Aside0 (Kd.R k84 84 w74 w.heap.size (fun k_ => some k_ ≠ (v128 : Value).ownBlock ∧ k_ ≠ gb111) v125 y124) := ⟨h0_⟩
            have n1_ : Aside0 (Kd.R k84 84 w74 w.heap.size (fun k_ => some k_ ≠ (v125 : Value).ownBlock ∧ k_ ≠ gb111) v128 y127) := ⟨h1_⟩
            have n2_ : Aside0 (w74.heap[gb111]? = some (.cells #[.int .i64 a1_0, .int .i64 a1_1, .int .i64 a1_2, .int .i64 a1_3, .int .i64 a1_4] 84 (0, 0))) := ⟨h2_⟩
            have n3_ : Aside0 (Below w.heap.size w w74) := ⟨h3_⟩
            clear BK111
            clear HB
            clear h0_ h1_ h2_ h3_
            have HO126 := n0_
            have HO129 := n1_
            have BK111 := n2_
            have HB := n3_
            clear n0_ n1_ n2_ n3_
            have hHeld : w74.cell? ⟨gb111, 0, none⟩ = some (.int .i64 a1_0) ∧ w74.cell? ⟨gb111, 1, none⟩ = some (.int .i64 a1_1) ∧ w74.cell? ⟨gb111, 2, none⟩ = some (.int .i64 a1_2) ∧ w74.cell? ⟨gb111, 3, none⟩ = some (.int .i64 a1_3) ∧ w74.cell? ⟨gb111, 4, none⟩ = some (.int .i64 a1_4) := hS_
            obtain ⟨Ao76, co76, eo76⟩ := Kd.R_slice HO129.out
            (first | subst eo76 | (injection eo76 with f1_ f2_ f3_; have f4_ := f1_.symm; have f5_ := f3_.symm; clear f1_ f2_ f3_; subst f4_; subst f5_))
            refine norm_ (a' := ?_) ?_ ?_
            rotate_left; (simp only [putAll, Act.put, sA, sZ, sS]; rfl)
            refine one_ (i := 7) (N := some 57) (bR [11, 2]) rfl rfl (one_of HT_.out (by kernel_rfl)) (by decide) (fun K hK => ?_)
            refine Kd.R_append_rows_step k84 (w0 := w) w.heap.size (by rfl) (.tmp 54) (.tmp 56) 80 84 (.agg #[(.int .i64 0), (.int .i64 0), (.int .i64 0), (.int .i64 0), (.int .i64 0)]) 40 rfl Try.underlying80 info84 rfl (by decide) (by omega) v125 y124 y127 _ _ _ (fun k_ => some k_ ≠ (.slice Ao76 y127.length co76 : Value).ownBlock ∧ k_ ≠ gb111) (fun _ => False) rfl rfl ?aO ?aR (fun _ _ h => h) (fun _ h => h.elim) ?aF ?aB ?aS ?aL ?_
            (case aR => repeat (first | exact (Kd.R_reads' HO129.out).2.2 | (with_reducible refine Kd.C_alloc ?_ _) | (with_reducible refine Kd.C_drewN ?_ _) | (with_reducible refine Kd.C_drew ?_)))
            (case aB => exact (by repeat first | (with_reducible first | exact HB.out | apply bA | apply bN | apply bD | refine bS ?_ GE111.out) | exact HB.out))
            (case aF => exact (fun k_ hk => ⟨Kd.fresh' (Kd.R_lt (qR HO129)) k_ hk, Kd.freshB (qK BK111) k_ hk⟩))
            (case aO => exact (qR HO126))
            (case aS => exact (below_size (by repeat first | (with_reducible first | exact HB.out | apply bA | apply bN | apply bD | refine bS ?_ GE111.out) | exact HB.out)))
            (case aL => have := LMc28.out; omega)
            intro v131 w75 ho hb hg hat
            rw [← Ny130.out] at ho
            have n0_ := Aside0.mk (blk_grown (qK BK111) hg (Kd.R_away HO126.out (fun _ hk => hk.2)))
            have n1_ := Aside0.mk (Kd.R_after (ok := (fun k_ => k_ ≠ gb111)) (by (with_reducible repeat first | apply rA | apply rN | apply rD); exact Kd.R_mono HO129.out (fun _ hk => ⟨hk.2, hk.1⟩)) hg hat)
            have n2_ := Aside0.mk (hb)
            have n3_ := Aside0.mk (ho)
            clear BK111
            clear HO129
            clear HB
            clear HO126
            have BK111 := n0_
            have HO129 := n1_
            have HB := n2_
            have HO132 := n3_
            clear n0_ n1_ n2_ n3_
            clear ho hb hg hat
            refine hK.out _ _ ⟨cC BK111 0, cC BK111 1, cC BK111 2, cC BK111 3, cC BK111 4⟩ (fun hHeld => ?_)
            clear hK K
            refine norm_ (a' := ?_) ?_ ?_
            rotate_left
            ·show Act.put _ (some 57) _ = _
             simp only [Act.put, sA, sZ, sS, i64_w]
             rfl
            refine one_ (i := 11) (N := some 61) (bR [12, 1]) rfl rfl (one_of HT_.out (by kernel_rfl)) (by decide) (fun K hK => ?_)
            refine Kd.R_append_rows_step k84 (w0 := w) w.heap.size (by rfl) (.tmp 57) (.tmp 60) 80 84 (.agg #[(.int .i64 0), (.int .i64 0), (.int .i64 0), (.int .i64 0), (.int .i64 0)]) 40 rfl Try.underlying80 info84 rfl (by decide) (by omega) v131 y130 y133 _ _ _ (fun k_ => some k_ ≠ (.slice Ao76 y127.length co76 : Value).ownBlock ∧ k_ ≠ gb111) (fun _ => False) rfl rfl ?aO ?aR (fun _ _ h => h) (fun _ h => h.elim) ?aF ?aB ?aS ?aL ?_
            (case aR => exact qC (Kd.C_below HR136.out HB.out))
            (case aB => exact (by repeat first | (with_reducible first | exact HB.out | apply bA | apply bN | apply bD | refine bS ?_ GE111.out) | exact HB.out))
            (case aF => exact (fun k_ hk => ⟨Kd.fresh' (Kd.R_lt (qR HO129)) k_ hk, Kd.freshB (qK BK111) k_ hk⟩))
            (case aO => exact (qR HO132))
            (case aS => exact (below_size (by repeat first | (with_reducible first | exact HB.out | apply bA | apply bN | apply bD | refine bS ?_ GE111.out) | exact HB.out)))
            (case aL => have := LMc31.out; omega)
            intro v138 w77 ho hb hg hat
            rw [← Ny137.out] at ho
            have n0_ := Aside0.mk (blk_grown (qK BK111) hg (Kd.R_away HO132.out (fun _ hk => hk.2)))
            have n1_ := Aside0.mk (Kd.R_after (ok := (fun k_ => k_ ≠ gb111)) (qR HO129) hg hat)
            have n2_ := Aside0.mk (hb)
            have n3_ := Aside0.mk (ho)
            clear BK111
            clear HO129
            clear HB
            clear HO132
            have BK111 := n0_
            have HO129 := n1_
            have HB := n2_
            have HO139 := n3_
            clear n0_ n1_ n2_ n3_
            clear ho hb hg hat
            refine hK.out _ _ ⟨cC BK111 0, cC BK111 1, cC BK111 2, cC BK111 3, cC BK111 4⟩ (fun hHeld => ?_)
            clear hK K
            refine norm_ (a' := ?_) ?_ ?_
            rotate_left
            ·show Act.put _ (some 61) _ = _
             simp only [Act.put, sA, sZ, sS, i64_w]
             rfl
            refine pP 12 9 (bR [13]) rfl rfl HT_ ?_
            refine done_ (done_of HT_.out (by kernel_rfl)) ?_
            obtain ⟨Ao78, co78, eo78⟩ := Kd.R_slice HO139.out
            subst eo78
            try go_wp2_with (first | (go_at_call 87; (with_reducible refine (spec_AreClaims.calls k1 _ _ y137 false _ ?side1 ?side2 A49.out).mono ?_); (case side1 => repeat (first | exact (Kd.R_reads' HO139.out).2.2 | (with_reducible refine Kd.C_alloc ?_ _) | (with_reducible refine Kd.C_drewN ?_ _) | (with_reducible refine Kd.C_drew ?_))); (case side2 => exact (Kd.R_reads' HO139.out).2.1); rintro e w79 ⟨rfl, hb⟩; have n0_ := Aside0.mk (Kd.R_below (qR HO129) hb); have n1_ := Aside0.mk (Kd.R_below (qR HO139) hb); have n2_ := Aside0.mk (blk_below (qK BK111) hb); have n3_ := Aside0.mk (below_step (by repeat first | (with_reducible first | exact HB.out | apply bA | apply bN | apply bD | refine bS ?_ GE111.out) | exact HB.out) hb); clear HO129; clear HO139; clear BK111; clear HB; have HO129 := n0_; have HO139 := n1_; have BK111 := n2_; have HB := n3_; clear n0_ n1_ n2_ n3_; (try clear hb); (try clear hb2); (try clear hk); (try clear hi)) | ((with_reducible refine gate_dst (N := 68) rfl ?_); refine Kd.R_lit k84 _ 84 ?hg (N := 68) ?hd (xs := ([] : List (S84))) (inner := []) (ok := fun _ => True) (okp := fun _ => True) ?hr ?hp (fun _ hk => hk) trivial (Below.refl _ _) (Nat.le_refl _) (by simp) ?_; (case hd => rfl); (case hg => rfl); (case hr => first | (go_simp; done) | (go_simp; rfl)); (case hp => exact (Reps.none _ _)); intro v148 w80 ho81 hb hg_ hnew_; clear hg_ hnew_; (first | rw [← Ny147.out] at ho81 | (simp only [Int.reduceToNat] at ho81; rw [← Ny147.out] at ho81)); have n0_ := Aside0.mk (Kd.R_elder' (qR HO129) (Kd.R_base ho81) hb); have n1_ := Aside0.mk (Kd.R_elder' (qR HO139) (Kd.R_base ho81) hb); have n2_ := Aside0.mk (Kd.R_lower (Kd.R_newB (Kd.R_new' (Kd.R_new' ho81 (Kd.R_lt (qR HO129))) (Kd.R_lt (qR HO139))) (qK BK111)) (below_size (by repeat first | (with_reducible first | exact HB.out | apply bA | apply bN | apply bD | refine bS ?_ GE111.out) | exact HB.out))); have n3_ := Aside0.mk (blk_below (qK BK111) hb); have n4_ := Aside0.mk (below_step (by repeat first | (with_reducible first | exact HB.out | apply bA | apply bN | apply bD | refine bS ?_ GE111.out) | exact HB.out) hb); clear HO129; clear HO139; clear BK111; clear HB; have HO129 := n0_; have HO139 := n1_; have HO149 := n2_; have BK111 := n3_; have HB := n4_; clear n0_ n1_ n2_ n3_ n4_; clear hb ho81) | ((with_reducible refine gate_builtin (b := .append) (xs := #[.tmp 68, .tmp 69]) rfl ?_); at_builtin; refine Kd.R_append_rows k84 (w0 := w) w.heap.size rfl (.tmp 68) (.tmp 69) 80 84 (.agg #[(.int .i64 0), (.int .i64 0), (.int .i64 0), (.int .i64 0), (.int .i64 0)]) 40 rfl Try.underlying80 info84 rfl (by decide) (by omega) v148 y147 l0 _ _ _ (fun k_ => some k_ ≠ (.slice Ao76 y127.length co76 : Value).ownBlock ∧ some k_ ≠ (.slice Ao78 y137.length co78 : Value).ownBlock ∧ k_ ≠ gb111) (fun _ => False) rfl rfl ?aO ?aR (fun _ _ h => h) (fun _ h => h.elim) ?aF ?aB ?aS ?aL ?_; (case aR => exact qC (Kd.C_below HR0.out HB.out)); (case aB => exact (by repeat first | (with_reducible first | exact HB.out | apply bA | apply bN | apply bD | refine bS ?_ GE111.out) | exact HB.out)); (case aF => exact (fun k_ hk => ⟨Kd.fresh' (Kd.R_lt (qR HO129)) k_ hk, Kd.fresh' (Kd.R_lt (qR HO139)) k_ hk, Kd.freshB (qK BK111) k_ hk⟩)); (case aO => exact (by (with_reducible repeat first | apply rA | apply rN | apply rD); exact Kd.R_mono HO149.out (fun _ hk => ⟨hk.1.1.2, ⟨hk.1.2, hk.2⟩⟩))); (case aS => exact (below_size (by repeat first | (with_reducible first | exact HB.out | apply bA | apply bN | apply bD | refine bS ?_ GE111.out) | exact HB.out))); (case aL => have := LMc65.out; omega); intro v151 w82 ho hb hg hat; rw [← Ny150.out] at ho; have n0_ := Aside0.mk (blk_grown (qK BK111) hg (Kd.R_away HO149.out (fun _ hk => hk.2))); have n1_ := Aside0.mk (Kd.R_after (ok := (fun k_ => some k_ ≠ (.slice Ao78 y137.length co78 : Value).ownBlock ∧ k_ ≠ gb111)) (by (with_reducible repeat first | apply rA | apply rN | apply rD); exact Kd.R_mono HO129.out (fun _ hk => ⟨⟨hk.1.2, hk.1.1⟩, hk.2⟩)) hg hat); have n2_ := Aside0.mk (Kd.R_after (ok := (fun k_ => some k_ ≠ (.slice Ao76 y127.length co76 : Value).ownBlock ∧ k_ ≠ gb111)) (qR HO139) hg hat); have n3_ := Aside0.mk (hb); have n4_ := Aside0.mk (ho); clear BK111; clear HO129; clear HO139; clear HB; clear HO149; have BK111 := n0_; have HO129 := n1_; have HO139 := n2_; have HB := n3_; have HO152 := n4_; clear n0_ n1_ n2_ n3_ n4_; clear ho hb hg hat))
            go_ret2
            exact ⟨_, by first | rfl | (simp [errW_none, errW_some] <;> rfl) | (simp [*, errW_none, errW_some] <;> rfl), by (with_reducible repeat first | apply rA | apply rN | apply rD); exact Kd.R_mono HO152.out (fun _ hk => trivial), by repeat (first | (with_reducible first | exact HB.out | apply bA | apply bN | apply bD | refine bS ?_ GE111.out) | exact HB.out)⟩
           ·rw [if_neg c65] at H
            exact absurd H (by simp)
        ·rw [if_neg c31] at H
         exact absurd H (by simp)
       ·rw [if_neg c28] at H
        exact absurd H (by simp)
      ·rw [if_neg c27] at H
       exact absurd H (by simp)
     ·rw [if_neg c26] at H
      exact absurd H (by simp)
    ·rw [if_neg c25] at H
     exact absurd H (by simp)

end Go.Proofs.Ytppgealmedaihaa.PFnExactAddClaim
