-- The printed functions of one law and their contracts, over contracts of this session's own (hand.py).
import Derived.Test.YtkfalbaklodnjaaPFnExactLeftBetweenx0
import Derived.Test.YtkfalbaklodnjaaPFnExactLeftBetweenx1
namespace Go.Proofs.Ytkfalbaklodnjaa.PFnExactLeftBetween
open Go.RowKit Go.Proofs.YtkfalbaklodnjaaW.PrintWords Go.Proofs.YtkfalbaklodnjaaW.PrintLast Go.Proofs.YtkfalbaklodnjaaW.PrintMore Go.Proofs.Ytkfalbaklodnjaa.Short
attribute [local go_sem] max2_int min2_int max_two min_two max_three min_three max_four min_four   -- for this text's walks alone
set_option linter.unusedVariables false
set_option linter.unusedSimpArgs false

/-! ### spec_IsRoute: function 109 -/
def spec_IsRoute.l0 : Nat → List (S130) → Int → Option (Bool)
 | 0, _, _ => none
 | k + 1, x0, x3 => if x3 < (x0.length : Int) then (if 0 ≤ x3 then ((spec_l1In.f ((rd_T130 x0 x3).f0) 1 30).bind fun t103 => (if t103 = true then (if ((rd_T130 x0 x3).f1) < 0 then (some false) else (if ((rd_T130 x0 x3).f1) > ((rd_T130 x0 x3).f2) then (some false) else (if ((rd_T130 x0 x3).f2) > 100000 then (some false) else (if x3 > 0 then (if 0 ≤ (wrap64 (x3 - 1)) then (if (wrap64 (x3 - 1)) < (x0.length : Int) then (if ((rd_T130 x0 x3).f1) < ((rd_T130 x0 (wrap64 (x3 - 1))).f2) then (some false) else (spec_IsRoute.l0 k x0 (wrap64 (x3 + 1)))) else (none)) else (none)) else (spec_IsRoute.l0 k x0 (wrap64 (x3 + 1))))))) else (some false))) else (none)) else ((spec_l1In.f (x0.length : Int) 1 10).bind fun t105 => (some t105))
def spec_IsRoute.f (k : Nat) (l0 : List (S130)) : Option (Bool) := spec_IsRoute.l0 k l0 0
theorem spec_IsRoute.mono_l : ∀ k, (∀ y0 y1, LeO (spec_IsRoute.l0 k y0 y1) (spec_IsRoute.l0 (k + 1) y0 y1))
 | 0 => fun _ _ r h => by simp [spec_IsRoute.l0] at h
 | k + 1 => by
  have ih0 := spec_IsRoute.mono_l k
  ·intro y0 y1
   unfold spec_IsRoute.l0
   repeat' first
   | (with_reducible exact ih0 _ _)
   | (with_reducible exact LeO.refl _)
   | (with_reducible exact LeO.none _)
   | (with_reducible refine LeO.ite ?_ ?_)
   | (with_reducible refine LeO.bind ?_ (fun _ => ?_))
   | exact ih0 _ _
   | exact LeO.none _
   | refine LeO.ite ?_ ?_
   | refine LeO.bind ?_ (fun _ => ?_)
theorem spec_IsRoute.mono : ∀ a0 k, LeO (spec_IsRoute.f k a0) (spec_IsRoute.f (k + 1) a0) := by
 intro a0 k
 have ih0 := spec_IsRoute.mono_l k
 unfold spec_IsRoute.f
 repeat' first
   | (with_reducible exact ih0 _ _)
   | (with_reducible exact LeO.refl _)
   | (with_reducible exact LeO.none _)
   | (with_reducible refine LeO.ite ?_ ?_)
   | (with_reducible refine LeO.bind ?_ (fun _ => ?_))
   | exact ih0 _ _
   | exact LeO.none _
   | refine LeO.ite ?_ ?_
   | refine LeO.bind ?_ (fun _ => ?_)
def spec_IsRoute.T5 : Bool × List (List Nat × List Nat) := (true, [([], []), ([0], [0]), ([1], [1]), ([2], [2]), ([3, 2], [3]), ([4], [4]), ([5, 4], [4, 5]), ([6, 4], [4, 6]), ([4, 7], [4, 7]), ([8, 4], [8]), ([9], [9]), ([10, 9], [9, 10]), ([9], [9]), ([12, 9], [9, 12]), ([11, 13, 9], [9, 11, 13]), ([9, 14], [9, 14]), ([15, 9], [15]), ([16], [16]), ([17, 16], [16, 17]), ([18, 16], [16, 18]), ([16, 19], [16, 19]), ([20, 16], [20]), ([21], [21]), ([22, 21], [21, 22]), ([23, 21, 21], [21, 23]), ([24], [24]), ([25, 24], [24, 25]), ([24], [24]), ([24], [24]), ([28, 24], [24, 28]), ([27, 29, 24], [24, 27, 29]), ([30, 24], [24, 30]), ([31, 24], [24, 31]), ([26, 32, 24], [24, 26, 32]), ([24, 33, 21], [21, 24, 33]), ([21, 34], [21, 34])])
def spec_IsRoute.B5 : List Nat := [0, 1, 3, 7, 15, 31, 63, 127, 255, 511, 1023, 2047, 1023, 5119, 16383, 32767, 65535, 131071, 262143, 524287, 1048575, 2097151, 4194303, 8388607, 16777215, 33554431, 67108863, 33554431, 33554431, 301989887, 973078527, 2046820351, 4194303999, 8589934591, 17179869183, 34359738367]
theorem spec_IsRoute.tab5 : rtab .any (opsOf Try.f109 5) = spec_IsRoute.T5 := by kernel_rfl
theorem spec_IsRoute.bits5 : waitsOk spec_IsRoute.T5.2 spec_IsRoute.B5 = true := by kernel_rfl
set_option maxHeartbeats 8000000 in
set_option maxRecDepth 100000 in
theorem spec_IsRoute.calls (k : Nat) (A0 : Option Addr) (c0 : Nat) (l0 : List (S130)) (r : Bool) (w : World) (hr0 : Kd.C k130 w A0 l0.length l0) (hc0 : l0.length ≤ c0) (h : spec_IsRoute.f k l0 = some r) :
  Calls Try.prog 109 #[.slice A0 l0.length c0] w fun e w' => e = .returned (.bool r) ∧ Below w.heap.size w w' := by
 have hu130 := Try.underlying130
 have HR0 := Aside0.mk hr0
 have HC0 := Aside0.mk hc0
 clear hr0 hc0
 have HB := Aside0.mk (Below.refl w.heap.size w)
 have H : (spec_IsRoute.l0 k l0 0) = some r := h
 clear h
 have H' := Aside0.mk H
 clear H
 go_enter Try.func109, Try.ntmps109
 go_wp2
 go_loopg [3] k (fun kq v3 w' => ∃ (x3_1 : Int), v3 = .int .i64 x3_1 ∧ Aside0 (spec_IsRoute.l0 kq l0 x3_1 = some r) ∧ Aside0 (kq ≤ k) ∧ Aside0 (Below w.heap.size w w'))
 case atStart => exact ⟨(0), (by first | rfl | (simp; done) | (simp [*]; done)), H', ⟨Nat.le_refl _⟩, ⟨by repeat (first | (with_reducible first | exact HB.out | apply bA | apply bN | apply bD) | exact HB.out)⟩⟩
 case round =>
  clear H'
  try clear c1
  obtain ⟨x3_1, rfl, HA, HK1, HB⟩ := hrel
  cases gk with
  | zero => exact absurd HA.out (by simp [spec_IsRoute.l0])
  | succ k1 =>
   have H := HA.out
   clear HA
   simp only [spec_IsRoute.l0] at H
   by_cases c2 : x3_1 < (l0.length : Int)
   ·rw [if_pos c2] at H
    have c2b0 : decide (x3_1 < (l0.length : Int)) = true := decide_eq_true c2
    clear c2
    by_cases c3 : 0 ≤ x3_1
    ·rw [if_pos c3] at H
     have c3b0 : decide (0 ≤ x3_1) = true := decide_eq_true c3
     clear c3
     replace H := Option.bind_eq_some_iff.mp H
     obtain ⟨t103, A40, H⟩ := H
     replace H : (if t103 = true then (if ((rd_T130 l0 x3_1).f1) < 0 then (some false) else (if ((rd_T130 l0 x3_1).f1) > ((rd_T130 l0 x3_1).f2) then (some false) else (if ((rd_T130 l0 x3_1).f2) > 100000 then (some false) else (if x3_1 > 0 then (if 0 ≤ (wrap64 (x3_1 - 1)) then (if (wrap64 (x3_1 - 1)) < (l0.length : Int) then (if ((rd_T130 l0 x3_1).f1) < ((rd_T130 l0 (wrap64 (x3_1 - 1))).f2) then (some false) else (spec_IsRoute.l0 k1 l0 (wrap64 (x3_1 + 1)))) else (none)) else (none)) else (spec_IsRoute.l0 k1 l0 (wrap64 (x3_1 + 1))))))) else (some false)) = some r := H
     have A4 := Aside0.mk A40
     clear A40
     by_cases c5 : t103 = true
     ·subst c5
      have H1 : (if ((rd_T130 l0 x3_1).f1) < 0 then (some false) else (if ((rd_T130 l0 x3_1).f1) > ((rd_T130 l0 x3_1).f2) then (some false) else (if ((rd_T130 l0 x3_1).f2) > 100000 then (some false) else (if x3_1 > 0 then (if 0 ≤ (wrap64 (x3_1 - 1)) then (if (wrap64 (x3_1 - 1)) < (l0.length : Int) then (if ((rd_T130 l0 x3_1).f1) < ((rd_T130 l0 (wrap64 (x3_1 - 1))).f2) then (some false) else (spec_IsRoute.l0 k1 l0 (wrap64 (x3_1 + 1)))) else (none)) else (none)) else (spec_IsRoute.l0 k1 l0 (wrap64 (x3_1 + 1))))))) = some r := by rw [if_pos rfl] at H; exact H
      clear H
      have H := H1
      clear H1
      by_cases c6 : ((rd_T130 l0 x3_1).f1) < 0
      ·rw [if_pos c6] at H
       have c6b0 : decide (((rd_T130 l0 x3_1).f1) < 0) = true := decide_eq_true c6
       clear c6
       obtain rfl := Option.some.inj H
       have p101 : 0 ≤ (x3_1 : Int) := of_decide_eq_true ‹_›
       have q101 : x3_1 < (l0.length : Int) := of_decide_eq_true ‹_›
       obtain ⟨ad101, e101, hx101_0, hx101_1, hx101_2⟩ := at_T130 HR0.out x3_1 p101 q101
       cases e101
       replace hx101_0 := (HB.out.cell (World.block_lt_of_cell? w _ hx101_0)).trans hx101_0
       replace hx101_1 := (HB.out.cell (World.block_lt_of_cell? w _ hx101_1)).trans hx101_1
       replace hx101_2 := (HB.out.cell (World.block_lt_of_cell? w _ hx101_2)).trans hx101_2
       replace p101 := eq_true p101
       replace q101 := eq_true q101
       try go_wp2_with (first | ((with_reducible refine gate_dst (N := 4) rfl ?_); refine box_event ?hg (N := 4) ?hd (cs := #[.int .i64 0, .int .i64 0, .int .i64 0]) (t := 130) ?hr ?_; (case hd => rfl); (case hg => rfl); (case hr => first | (go_simp; done) | (go_simp; rfl)); intro gb102 hg w7 hbox hb; have n0_ := Aside0.mk (below_step (qB HB) hb); have n1_ := Aside0.mk (hbox); have n2_ := Aside0.mk ((by rw [hg]; exact (below_size (qB HB)) : w.heap.size ≤ gb102)); have n3_ := Aside0.mk ((by rw [hg]; exact (below_size (qB HB)) : w.heap.size ≤ gb102)); clear HB; have HB := n0_; have BK102 := n1_; have GW102 := n2_; have GE102 := n3_; clear n0_ n1_ n2_ n3_; clear hb hbox hg; have hcz8_0 : w7.cell? ⟨gb102, 0, none⟩ = some (.int .i64 0) := cC BK102 0; have hcz8_1 : w7.cell? ⟨gb102, 1, none⟩ = some (.int .i64 0) := cC BK102 1; have hcz8_2 : w7.cell? ⟨gb102, 2, none⟩ = some (.int .i64 0) := cC BK102 2; have hfz8_0 := blk_frozen BK102.out 0; have hfz8_1 := blk_frozen BK102.out 1; have hfz8_2 := blk_frozen BK102.out 2))
       have n0_ : Aside0 ((((w7.setCell ⟨gb102, 0, none⟩ (.int .i64 ((rd_T130 l0 x3_1).f0))).setCell ⟨gb102, 1, none⟩ (.int .i64 ((rd_T130 l0 x3_1).f1))).setCell ⟨gb102, 2, none⟩ (.int .i64 ((rd_T130 l0 x3_1).f2))).heap[gb102]? = some (.cells #[.int .i64 ((rd_T130 l0 x3_1).f0), .int .i64 ((rd_T130 l0 x3_1).f1), .int .i64 ((rd_T130 l0 x3_1).f2)] 130 (0, 0))) := ⟨by (with_reducible repeat first | refine kN ?_ _ | refine kD ?_ | refine kA ?_ _); refine blk_put (cs := #[.int .i64 ((rd_T130 l0 x3_1).f0), .int .i64 ((rd_T130 l0 x3_1).f1), .int .i64 0]) ?_ 2 _ rfl; (with_reducible repeat first | refine kN ?_ _ | refine kD ?_ | refine kA ?_ _); refine blk_put (cs := #[.int .i64 ((rd_T130 l0 x3_1).f0), .int .i64 0, .int .i64 0]) ?_ 1 _ rfl; (with_reducible repeat first | refine kN ?_ _ | refine kD ?_ | refine kA ?_ _); refine blk_put (cs := #[.int .i64 0, .int .i64 0, .int .i64 0]) ?_ 0 _ rfl; (with_reducible repeat first | refine kN ?_ _ | refine kD ?_ | refine kA ?_ _); exact BK102.out⟩
       have n1_ : Aside0 (Below w.heap.size w (((w7.setCell ⟨gb102, 0, none⟩ (.int .i64 ((rd_T130 l0 x3_1).f0))).setCell ⟨gb102, 1, none⟩ (.int .i64 ((rd_T130 l0 x3_1).f1))).setCell ⟨gb102, 2, none⟩ (.int .i64 ((rd_T130 l0 x3_1).f2)))) := ⟨by repeat (first | (with_reducible first | exact HB.out | apply bA | apply bN | apply bD | refine bS ?_ GE102.out) | exact HB.out)⟩
       (try clear BK102)
       (try clear HB)
       generalize (((w7.setCell ⟨gb102, 0, none⟩ (.int .i64 ((rd_T130 l0 x3_1).f0))).setCell ⟨gb102, 1, none⟩ (.int .i64 ((rd_T130 l0 x3_1).f1))).setCell ⟨gb102, 2, none⟩ (.int .i64 ((rd_T130 l0 x3_1).f2))) = w9 at n0_ n1_ ⊢
       have BK102 := n0_
       have HB := n1_
       clear n0_ n1_
       have n0_ := Aside0.mk (blk_drew BK102.out)
       have n1_ := Aside0.mk (below_drew1 HB.out)
       clear BK102
       clear HB
       have BK102 := n0_
       have HB := n1_
       clear n0_ n1_
       refine start_ (n := 36) (S := fun w' => w'.cell? ⟨gb102, 0, none⟩ = some (.int .i64 ((rd_T130 l0 x3_1).f0)) ∧ w'.cell? ⟨gb102, 1, none⟩ = some (.int .i64 ((rd_T130 l0 x3_1).f1)) ∧ w'.cell? ⟨gb102, 2, none⟩ = some (.int .i64 ((rd_T130 l0 x3_1).f2))) (ds := []) (bR [0, 36]) (by kernel_rfl) rfl rfl ⟨cC BK102 0, cC BK102 1, cC BK102 2⟩ (fun hHeld => ?_); refine with_tabW spec_IsRoute.tab5 spec_IsRoute.bits5 (fun HT_ HW_ => ?_)
       generalize w9.drew = w10 at BK102 HB hHeld ⊢
       refine pP 0 15 (bR [1, 35]) rfl rfl HT_ ?_
       refine take_ (i := 1) (N := some 16) (v := ?_) (a' := ?_) (bR [2, 34]) rfl rfl (take_ofW HT_.out HW_.out (by kernel_rfl)) (fun _ _ _ h => h) (Or.inl ⟨by rfl, ?_⟩) hHeld ?_ ?_
       rotate_left; (rintro w' ⟨s0, s1, s2⟩; go_simp; with_reducible rfl); rotate_left; (simp only [Act.put, sA, sZ, sS, i64_w]; rfl)
       refine one_ (i := 2) (N := some 17) (bR [3, 33]) rfl rfl (one_of HT_.out (by kernel_rfl)) (by decide) (fun K hK => ?_)
       refine goes_ Try.func176 (by kernel_rfl) rfl #[.int .i64 ((rd_T130 l0 x3_1).f0), .int .i64 1, .int .i64 30] (by rfl) rfl rfl (by (try simp only [mA, mC, mN]); first | done | rfl | (simp only [lD, lT]; rfl)) ?_
       with_reducible refine (spec_l1In.calls ((rd_T130 l0 x3_1).f0) 1 30 true _ A4.out).mono ?_
       rintro e w' ⟨rfl, ⟨nd, rfl⟩⟩
       refine ⟨_, rfl, ?_⟩
       refine hK.out _ _ ⟨cC BK102 0, cC BK102 1, cC BK102 2⟩ (fun hHeld => ?_)
       clear hK K
       refine norm_ (a' := ?_) ?_ ?_
       rotate_left
       ·show Act.put _ (some 17) _ = _
        simp only [Act.put, sA, sZ, sS, i64_w]
        rfl
       refine pP 3 18 (bR [4, 32]) rfl rfl HT_ ?_
       refine pP 4 19 (bR [5, 31]) rfl rfl HT_ ?_
       refine pP 5 20 (bR [6, 30]) rfl rfl HT_ ?_
       refine take_ (i := 6) (N := some 21) (v := ?_) (a' := ?_) (bR [7, 29]) rfl rfl (take_ofW HT_.out HW_.out (by kernel_rfl)) (fun _ _ _ h => h) (Or.inl ⟨by rfl, ?_⟩) hHeld ?_ ?_
       rotate_left; (rintro w' ⟨s0, s1, s2⟩; go_simp; with_reducible rfl); rotate_left; (simp only [Act.put, sA, sZ, sS, i64_w]; rfl)
       refine pP 7 22 (bR [8, 28]) rfl rfl HT_ ?_
       refine pP 8 23 (bR [9, 27]) rfl rfl HT_ ?_
       refine pP 9 24 (bR [10, 26]) rfl rfl HT_ ?_
       refine pU 10 25 (bR [11, 25]) rfl rfl HT_ ?_
       refine pU 11 26 (bR [12, 24]) rfl rfl HT_ ?_
       refine pU 12 27 (bR [13, 23]) rfl rfl HT_ ?_
       refine pU 13 28 (bR [14, 22]) rfl rfl HT_ ?_
       refine pU 14 29 (bR [15, 21]) rfl rfl HT_ ?_
       refine pP 15 30 (bR [16, 20]) rfl rfl HT_ ?_
       refine pP 16 31 (bR [17, 19]) rfl rfl HT_ ?_
       refine pU 17 32 (bR [18, 18]) rfl rfl HT_ ?_
       refine pU 18 33 (bR [19, 17]) rfl rfl HT_ ?_
       refine pU 19 34 (bR [20, 16]) rfl rfl HT_ ?_
       refine pP 20 35 (bR [21, 15]) rfl rfl HT_ ?_
       refine pP 21 36 (bR [22, 14]) rfl rfl HT_ ?_
       refine pU 22 37 (bR [23, 13]) rfl rfl HT_ ?_
       refine pU 23 38 (bR [24, 12]) rfl rfl HT_ ?_
       refine pU 24 39 (bR [25, 11]) rfl rfl HT_ ?_
       refine pU 25 40 (bR [26, 10]) rfl rfl HT_ ?_
       refine pU 26 41 (bR [27, 9]) rfl rfl HT_ ?_
       refine pU 27 42 (bR [28, 8]) rfl rfl HT_ ?_
       refine pU 28 43 (bR [29, 7]) rfl rfl HT_ ?_
       refine pU 29 44 (bR [30, 6]) rfl rfl HT_ ?_
       refine pU 30 45 (bR [31, 5]) rfl rfl HT_ ?_
       refine pU 31 46 (bR [32, 4]) rfl rfl HT_ ?_
       refine pU 32 47 (bR [33, 3]) rfl rfl HT_ ?_
       refine pU 33 48 (bR [34, 2]) rfl rfl HT_ ?_
       refine pU 34 49 (bR [35, 1]) rfl rfl HT_ ?_
       refine pP 35 50 (bR [36]) rfl rfl HT_ ?_
       refine done_ (done_of HT_.out (by kernel_rfl)) ?_
       try go_wp2
       go_ret
       exact ⟨by first | rfl | (simp [errW_none, errW_some] <;> rfl) | (simp [*, errW_none, errW_some] <;> rfl), by repeat (first | (with_reducible first | exact HB.out | apply bA | apply bN | apply bD | refine bS ?_ GE102.out) | exact HB.out)⟩
      ·rw [if_neg c6] at H
       have c6b0 : decide (((rd_T130 l0 x3_1).f1) < 0) = false := decide_eq_false c6
       clear c6
       by_cases c11 : ((rd_T130 l0 x3_1).f1) > ((rd_T130 l0 x3_1).f2)
       ·rw [if_pos c11] at H
        have c11b0 : decide (((rd_T130 l0 x3_1).f2) < ((rd_T130 l0 x3_1).f1)) = true := decide_eq_true c11
        clear c11
        obtain rfl := Option.some.inj H
        have p101 : 0 ≤ (x3_1 : Int) := of_decide_eq_true ‹_›
        have q101 : x3_1 < (l0.length : Int) := of_decide_eq_true ‹_›
        obtain ⟨ad101, e101, hx101_0, hx101_1, hx101_2⟩ := at_T130 HR0.out x3_1 p101 q101
        cases e101
        replace hx101_0 := (HB.out.cell (World.block_lt_of_cell? w _ hx101_0)).trans hx101_0
        replace hx101_1 := (HB.out.cell (World.block_lt_of_cell? w _ hx101_1)).trans hx101_1
        replace hx101_2 := (HB.out.cell (World.block_lt_of_cell? w _ hx101_2)).trans hx101_2
        replace p101 := eq_true p101
        replace q101 := eq_true q101
        try go_wp2_with (first | ((with_reducible refine gate_dst (N := 4) rfl ?_); refine box_event ?hg (N := 4) ?hd (cs := #[.int .i64 0, .int .i64 0, .int .i64 0]) (t := 130) ?hr ?_; (case hd => rfl); (case hg => rfl); (case hr => first | (go_simp; done) | (go_simp; rfl)); intro gb102 hg w12 hbox hb; have n0_ := Aside0.mk (below_step (qB HB) hb); have n1_ := Aside0.mk (hbox); have n2_ := Aside0.mk ((by rw [hg]; exact (below_size (qB HB)) : w.heap.size ≤ gb102)); have n3_ := Aside0.mk ((by rw [hg]; exact (below_size (qB HB)) : w.heap.size ≤ gb102)); clear HB; have HB := n0_; have BK102 := n1_; have GW102 := n2_; have GE102 := n3_; clear n0_ n1_ n2_ n3_; clear hb hbox hg; have hcz13_0 : w12.cell? ⟨gb102, 0, none⟩ = some (.int .i64 0) := cC BK102 0; have hcz13_1 : w12.cell? ⟨gb102, 1, none⟩ = some (.int .i64 0) := cC BK102 1; have hcz13_2 : w12.cell? ⟨gb102, 2, none⟩ = some (.int .i64 0) := cC BK102 2; have hfz13_0 := blk_frozen BK102.out 0; have hfz13_1 := blk_frozen BK102.out 1; have hfz13_2 := blk_frozen BK102.out 2))
        have n0_ : Aside0 ((((w12.setCell ⟨gb102, 0, none⟩ (.int .i64 ((rd_T130 l0 x3_1).f0))).setCell ⟨gb102, 1, none⟩ (.int .i64 ((rd_T130 l0 x3_1).f1))).setCell ⟨gb102, 2, none⟩ (.int .i64 ((rd_T130 l0 x3_1).f2))).heap[gb102]? = some (.cells #[.int .i64 ((rd_T130 l0 x3_1).f0), .int .i64 ((rd_T130 l0 x3_1).f1), .int .i64 ((rd_T130 l0 x3_1).f2)] 130 (0, 0))) := ⟨by (with_reducible repeat first | refine kN ?_ _ | refine kD ?_ | refine kA ?_ _); refine blk_put (cs := #[.int .i64 ((rd_T130 l0 x3_1).f0), .int .i64 ((rd_T130 l0 x3_1).f1), .int .i64 0]) ?_ 2 _ rfl; (with_reducible repeat first | refine kN ?_ _ | refine kD ?_ | refine kA ?_ _); refine blk_put (cs := #[.int .i64 ((rd_T130 l0 x3_1).f0), .int .i64 0, .int .i64 0]) ?_ 1 _ rfl; (with_reducible repeat first | refine kN ?_ _ | refine kD ?_ | refine kA ?_ _); refine blk_put (cs := #[.int .i64 0, .int .i64 0, .int .i64 0]) ?_ 0 _ rfl; (with_reducible repeat first | refine kN ?_ _ | refine kD ?_ | refine kA ?_ _); exact BK102.out⟩
        have n1_ : Aside0 (Below w.heap.size w (((w12.setCell ⟨gb102, 0, none⟩ (.int .i64 ((rd_T130 l0 x3_1).f0))).setCell ⟨gb102, 1, none⟩ (.int .i64 ((rd_T130 l0 x3_1).f1))).setCell ⟨gb102, 2, none⟩ (.int .i64 ((rd_T130 l0 x3_1).f2)))) := ⟨by repeat (first | (with_reducible first | exact HB.out | apply bA | apply bN | apply bD | refine bS ?_ GE102.out) | exact HB.out)⟩
        (try clear BK102)
        (try clear HB)
        generalize (((w12.setCell ⟨gb102, 0, none⟩ (.int .i64 ((rd_T130 l0 x3_1).f0))).setCell ⟨gb102, 1, none⟩ (.int .i64 ((rd_T130 l0 x3_1).f1))).setCell ⟨gb102, 2, none⟩ (.int .i64 ((rd_T130 l0 x3_1).f2))) = w14 at n0_ n1_ ⊢
        have BK102 := n0_
        have HB := n1_
        clear n0_ n1_
        have n0_ := Aside0.mk (blk_drew BK102.out)
        have n1_ := Aside0.mk (below_drew1 HB.out)
        clear BK102
        clear HB
        have BK102 := n0_
        have HB := n1_
        clear n0_ n1_
        refine start_ (n := 36) (S := fun w' => w'.cell? ⟨gb102, 0, none⟩ = some (.int .i64 ((rd_T130 l0 x3_1).f0)) ∧ w'.cell? ⟨gb102, 1, none⟩ = some (.int .i64 ((rd_T130 l0 x3_1).f1)) ∧ w'.cell? ⟨gb102, 2, none⟩ = some (.int .i64 ((rd_T130 l0 x3_1).f2))) (ds := []) (bR [0, 36]) (by kernel_rfl) rfl rfl ⟨cC BK102 0, cC BK102 1, cC BK102 2⟩ (fun hHeld => ?_); refine with_tabW spec_IsRoute.tab5 spec_IsRoute.bits5 (fun HT_ HW_ => ?_)
        generalize w14.drew = w15 at BK102 HB hHeld ⊢
        refine pP 0 15 (bR [1, 35]) rfl rfl HT_ ?_
        refine take_ (i := 1) (N := some 16) (v := ?_) (a' := ?_) (bR [2, 34]) rfl rfl (take_ofW HT_.out HW_.out (by kernel_rfl)) (fun _ _ _ h => h) (Or.inl ⟨by rfl, ?_⟩) hHeld ?_ ?_
        rotate_left; (rintro w' ⟨s0, s1, s2⟩; go_simp; with_reducible rfl); rotate_left; (simp only [Act.put, sA, sZ, sS, i64_w]; rfl)
        refine one_ (i := 2) (N := some 17) (bR [3, 33]) rfl rfl (one_of HT_.out (by kernel_rfl)) (by decide) (fun K hK => ?_)
        refine goes_ Try.func176 (by kernel_rfl) rfl #[.int .i64 ((rd_T130 l0 x3_1).f0), .int .i64 1, .int .i64 30] (by rfl) rfl rfl (by (try simp only [mA, mC, mN]); first | done | rfl | (simp only [lD, lT]; rfl)) ?_
        with_reducible refine (spec_l1In.calls ((rd_T130 l0 x3_1).f0) 1 30 true _ A4.out).mono ?_
        rintro e w' ⟨rfl, ⟨nd, rfl⟩⟩
        refine ⟨_, rfl, ?_⟩
        refine hK.out _ _ ⟨cC BK102 0, cC BK102 1, cC BK102 2⟩ (fun hHeld => ?_)
        clear hK K
        refine norm_ (a' := ?_) ?_ ?_
        rotate_left
        ·show Act.put _ (some 17) _ = _
         simp only [Act.put, sA, sZ, sS, i64_w]
         rfl
        refine pP 3 18 (bR [4, 32]) rfl rfl HT_ ?_
        refine pP 4 19 (bR [5, 31]) rfl rfl HT_ ?_
        refine pP 5 20 (bR [6, 30]) rfl rfl HT_ ?_
        refine take_ (i := 6) (N := some 21) (v := ?_) (a' := ?_) (bR [7, 29]) rfl rfl (take_ofW HT_.out HW_.out (by kernel_rfl)) (fun _ _ _ h => h) (Or.inl ⟨by rfl, ?_⟩) hHeld ?_ ?_
        rotate_left; (rintro w' ⟨s0, s1, s2⟩; go_simp; with_reducible rfl); rotate_left; (simp only [Act.put, sA, sZ, sS, i64_w]; rfl)
        refine pP 7 22 (bR [8, 28]) rfl rfl HT_ ?_
        refine pP 8 23 (bR [9, 27]) rfl rfl HT_ ?_
        refine pP 9 24 (bR [10, 26]) rfl rfl HT_ ?_
        refine pP 10 25 (bR [11, 25]) rfl rfl HT_ ?_
        refine pP 12 27 (bR [11, 1, 1, 23]) rfl rfl HT_ ?_
        refine take_ (i := 11) (N := some 26) (v := ?_) (a' := ?_) (bR [13, 23]) rfl rfl (take_ofW HT_.out HW_.out (by kernel_rfl)) (fun _ _ _ h => h) (Or.inl ⟨by rfl, ?_⟩) hHeld ?_ ?_
        rotate_left; (rintro w' ⟨s0, s1, s2⟩; go_simp; with_reducible rfl); rotate_left; (simp only [Act.put, sA, sZ, sS, i64_w]; rfl)
        refine take_ (i := 13) (N := some 28) (v := ?_) (a' := ?_) (bR [14, 22]) rfl rfl (take_ofW HT_.out HW_.out (by kernel_rfl)) (fun _ _ _ h => h) (Or.inl ⟨by rfl, ?_⟩) hHeld ?_ ?_
        rotate_left; (rintro w' ⟨s0, s1, s2⟩; go_simp; with_reducible rfl); rotate_left; (simp only [Act.put, sA, sZ, sS, i64_w]; rfl)
        refine pP 14 29 (bR [15, 21]) rfl rfl HT_ ?_
        refine pP 15 30 (bR [16, 20]) rfl rfl HT_ ?_
        refine pP 16 31 (bR [17, 19]) rfl rfl HT_ ?_
        refine pU 17 32 (bR [18, 18]) rfl rfl HT_ ?_
        refine pU 18 33 (bR [19, 17]) rfl rfl HT_ ?_
        refine pU 19 34 (bR [20, 16]) rfl rfl HT_ ?_
        refine pP 20 35 (bR [21, 15]) rfl rfl HT_ ?_
        refine pP 21 36 (bR [22, 14]) rfl rfl HT_ ?_
        refine pU 22 37 (bR [23, 13]) rfl rfl HT_ ?_
        refine pU 23 38 (bR [24, 12]) rfl rfl HT_ ?_
        refine pU 24 39 (bR [25, 11]) rfl rfl HT_ ?_
        refine pU 25 40 (bR [26, 10]) rfl rfl HT_ ?_
        refine pU 26 41 (bR [27, 9]) rfl rfl HT_ ?_
        refine pU 27 42 (bR [28, 8]) rfl rfl HT_ ?_
        refine pU 28 43 (bR [29, 7]) rfl rfl HT_ ?_
        refine pU 29 44 (bR [30, 6]) rfl rfl HT_ ?_
        refine pU 30 45 (bR [31, 5]) rfl rfl HT_ ?_
        refine pU 31 46 (bR [32, 4]) rfl rfl HT_ ?_
        refine pU 32 47 (bR [33, 3]) rfl rfl HT_ ?_
        refine pU 33 48 (bR [34, 2]) rfl rfl HT_ ?_
        refine pU 34 49 (bR [35, 1]) rfl rfl HT_ ?_
        refine pP 35 50 (bR [36]) rfl rfl HT_ ?_
        refine done_ (done_of HT_.out (by kernel_rfl)) ?_
        try go_wp2
        go_ret
        exact ⟨by first | rfl | (simp [errW_none, errW_some] <;> rfl) | (simp [*, errW_none, errW_some] <;> rfl), by repeat (first | (with_reducible first | exact HB.out | apply bA | apply bN | apply bD | refine bS ?_ GE102.out) | exact HB.out)⟩
       ·rw [if_neg c11] at H
        have c11b0 : decide (((rd_T130 l0 x3_1).f2) < ((rd_T130 l0 x3_1).f1)) = false := decide_eq_false c11
        clear c11
        by_cases c16 : ((rd_T130 l0 x3_1).f2) > 100000
        ·rw [if_pos c16] at H
         have c16b0 : decide (100000 < ((rd_T130 l0 x3_1).f2)) = true := decide_eq_true c16
         clear c16
         obtain rfl := Option.some.inj H
         have p101 : 0 ≤ (x3_1 : Int) := of_decide_eq_true ‹_›
         have q101 : x3_1 < (l0.length : Int) := of_decide_eq_true ‹_›
         obtain ⟨ad101, e101, hx101_0, hx101_1, hx101_2⟩ := at_T130 HR0.out x3_1 p101 q101
         cases e101
         replace hx101_0 := (HB.out.cell (World.block_lt_of_cell? w _ hx101_0)).trans hx101_0
         replace hx101_1 := (HB.out.cell (World.block_lt_of_cell? w _ hx101_1)).trans hx101_1
         replace hx101_2 := (HB.out.cell (World.block_lt_of_cell? w _ hx101_2)).trans hx101_2
         replace p101 := eq_true p101
         replace q101 := eq_true q101
         try go_wp2_with (first | ((with_reducible refine gate_dst (N := 4) rfl ?_); refine box_event ?hg (N := 4) ?hd (cs := #[.int .i64 0, .int .i64 0, .int .i64 0]) (t := 130) ?hr ?_; (case hd => rfl); (case hg => rfl); (case hr => first | (go_simp; done) | (go_simp; rfl)); intro gb102 hg w17 hbox hb; have n0_ := Aside0.mk (below_step (qB HB) hb); have n1_ := Aside0.mk (hbox); have n2_ := Aside0.mk ((by rw [hg]; exact (below_size (qB HB)) : w.heap.size ≤ gb102)); have n3_ := Aside0.mk ((by rw [hg]; exact (below_size (qB HB)) : w.heap.size ≤ gb102)); clear HB; have HB := n0_; have BK102 := n1_; have GW102 := n2_; have GE102 := n3_; clear n0_ n1_ n2_ n3_; clear hb hbox hg; have hcz18_0 : w17.cell? ⟨gb102, 0, none⟩ = some (.int .i64 0) := cC BK102 0; have hcz18_1 : w17.cell? ⟨gb102, 1, none⟩ = some (.int .i64 0) := cC BK102 1; have hcz18_2 : w17.cell? ⟨gb102, 2, none⟩ = some (.int .i64 0) := cC BK102 2; have hfz18_0 := blk_frozen BK102.out 0; have hfz18_1 := blk_frozen BK102.out 1; have hfz18_2 := blk_frozen BK102.out 2))
         have n0_ : Aside0 ((((w17.setCell ⟨gb102, 0, none⟩ (.int .i64 ((rd_T130 l0 x3_1).f0))).setCell ⟨gb102, 1, none⟩ (.int .i64 ((rd_T130 l0 x3_1).f1))).setCell ⟨gb102, 2, none⟩ (.int .i64 ((rd_T130 l0 x3_1).f2))).heap[gb102]? = some (.cells #[.int .i64 ((rd_T130 l0 x3_1).f0), .int .i64 ((rd_T130 l0 x3_1).f1), .int .i64 ((rd_T130 l0 x3_1).f2)] 130 (0, 0))) := ⟨by (with_reducible repeat first | refine kN ?_ _ | refine kD ?_ | refine kA ?_ _); refine blk_put (cs := #[.int .i64 ((rd_T130 l0 x3_1).f0), .int .i64 ((rd_T130 l0 x3_1).f1), .int .i64 0]) ?_ 2 _ rfl; (with_reducible repeat first | refine kN ?_ _ | refine kD ?_ | refine kA ?_ _); refine blk_put (cs := #[.int .i64 ((rd_T130 l0 x3_1).f0), .int .i64 0, .int .i64 0]) ?_ 1 _ rfl; (with_reducible repeat first | refine kN ?_ _ | refine kD ?_ | refine kA ?_ _); refine blk_put (cs := #[.int .i64 0, .int .i64 0, .int .i64 0]) ?_ 0 _ rfl; (with_reducible repeat first | refine kN ?_ _ | refine kD ?_ | refine kA ?_ _); exact BK102.out⟩
         have n1_ : Aside0 (Below w.heap.size w (((w17.setCell ⟨gb102, 0, none⟩ (.int .i64 ((rd_T130 l0 x3_1).f0))).setCell ⟨gb102, 1, none⟩ (.int .i64 ((rd_T130 l0 x3_1).f1))).setCell ⟨gb102, 2, none⟩ (.int .i64 ((rd_T130 l0 x3_1).f2)))) := ⟨by repeat (first | (with_reducible first | exact HB.out | apply bA | apply bN | apply bD | refine bS ?_ GE102.out) | exact HB.out)⟩
         (try clear BK102)
         (try clear HB)
         generalize (((w17.setCell ⟨gb102, 0, none⟩ (.int .i64 ((rd_T130 l0 x3_1).f0))).setCell ⟨gb102, 1, none⟩ (.int .i64 ((rd_T130 l0 x3_1).f1))).setCell ⟨gb102, 2, none⟩ (.int .i64 ((rd_T130 l0 x3_1).f2))) = w19 at n0_ n1_ ⊢
         have BK102 := n0_
         have HB := n1_
         clear n0_ n1_
         have n0_ := Aside0.mk (blk_drew BK102.out)
         have n1_ := Aside0.mk (below_drew1 HB.out)
         clear BK102
         clear HB
         have BK102 := n0_
         have HB := n1_
         clear n0_ n1_
         refine start_ (n := 36) (S := fun w' => w'.cell? ⟨gb102, 0, none⟩ = some (.int .i64 ((rd_T130 l0 x3_1).f0)) ∧ w'.cell? ⟨gb102, 1, none⟩ = some (.int .i64 ((rd_T130 l0 x3_1).f1)) ∧ w'.cell? ⟨gb102, 2, none⟩ = some (.int .i64 ((rd_T130 l0 x3_1).f2))) (ds := []) (bR [0, 36]) (by kernel_rfl) rfl rfl ⟨cC BK102 0, cC BK102 1, cC BK102 2⟩ (fun hHeld => ?_); refine with_tabW spec_IsRoute.tab5 spec_IsRoute.bits5 (fun HT_ HW_ => ?_)
         generalize w19.drew = w20 at BK102 HB hHeld ⊢
         refine pP 0 15 (bR [1, 35]) rfl rfl HT_ ?_
         refine take_ (i := 1) (N := some 16) (v := ?_) (a' := ?_) (bR [2, 34]) rfl rfl (take_ofW HT_.out HW_.out (by kernel_rfl)) (fun _ _ _ h => h) (Or.inl ⟨by rfl, ?_⟩) hHeld ?_ ?_
         rotate_left; (rintro w' ⟨s0, s1, s2⟩; go_simp; with_reducible rfl); rotate_left; (simp only [Act.put, sA, sZ, sS, i64_w]; rfl)
         refine one_ (i := 2) (N := some 17) (bR [3, 33]) rfl rfl (one_of HT_.out (by kernel_rfl)) (by decide) (fun K hK => ?_)
         refine goes_ Try.func176 (by kernel_rfl) rfl #[.int .i64 ((rd_T130 l0 x3_1).f0), .int .i64 1, .int .i64 30] (by rfl) rfl rfl (by (try simp only [mA, mC, mN]); first | done | rfl | (simp only [lD, lT]; rfl)) ?_
         with_reducible refine (spec_l1In.calls ((rd_T130 l0 x3_1).f0) 1 30 true _ A4.out).mono ?_
         rintro e w' ⟨rfl, ⟨nd, rfl⟩⟩
         refine ⟨_, rfl, ?_⟩
         refine hK.out _ _ ⟨cC BK102 0, cC BK102 1, cC BK102 2⟩ (fun hHeld => ?_)
         clear hK K
         refine norm_ (a' := ?_) ?_ ?_
         rotate_left
         ·show Act.put _ (some 17) _ = _
          simp only [Act.put, sA, sZ, sS, i64_w]
          rfl
         refine pP 3 18 (bR [4, 32]) rfl rfl HT_ ?_
         refine pP 4 19 (bR [5, 31]) rfl rfl HT_ ?_
         refine pP 5 20 (bR [6, 30]) rfl rfl HT_ ?_
         refine take_ (i := 6) (N := some 21) (v := ?_) (a' := ?_) (bR [7, 29]) rfl rfl (take_ofW HT_.out HW_.out (by kernel_rfl)) (fun _ _ _ h => h) (Or.inl ⟨by rfl, ?_⟩) hHeld ?_ ?_
         rotate_left; (rintro w' ⟨s0, s1, s2⟩; go_simp; with_reducible rfl); rotate_left; (simp only [Act.put, sA, sZ, sS, i64_w]; rfl)
         refine pP 7 22 (bR [8, 28]) rfl rfl HT_ ?_
         refine pP 8 23 (bR [9, 27]) rfl rfl HT_ ?_
         refine pP 9 24 (bR [10, 26]) rfl rfl HT_ ?_
         refine pP 10 25 (bR [11, 25]) rfl rfl HT_ ?_
         refine pP 12 27 (bR [11, 1, 1, 23]) rfl rfl HT_ ?_
         refine take_ (i := 11) (N := some 26) (v := ?_) (a' := ?_) (bR [13, 23]) rfl rfl (take_ofW HT_.out HW_.out (by kernel_rfl)) (fun _ _ _ h => h) (Or.inl ⟨by rfl, ?_⟩) hHeld ?_ ?_
         rotate_left; (rintro w' ⟨s0, s1, s2⟩; go_simp; with_reducible rfl); rotate_left; (simp only [Act.put, sA, sZ, sS, i64_w]; rfl)
         refine take_ (i := 13) (N := some 28) (v := ?_) (a' := ?_) (bR [14, 22]) rfl rfl (take_ofW HT_.out HW_.out (by kernel_rfl)) (fun _ _ _ h => h) (Or.inl ⟨by rfl, ?_⟩) hHeld ?_ ?_
         rotate_left; (rintro w' ⟨s0, s1, s2⟩; go_simp; with_reducible rfl); rotate_left; (simp only [Act.put, sA, sZ, sS, i64_w]; rfl)
         refine pP 14 29 (bR [15, 21]) rfl rfl HT_ ?_
         refine pP 15 30 (bR [16, 20]) rfl rfl HT_ ?_
         refine pP 16 31 (bR [17, 19]) rfl rfl HT_ ?_
         refine pP 17 32 (bR [18, 18]) rfl rfl HT_ ?_
         refine take_ (i := 18) (N := some 33) (v := ?_) (a' := ?_) (bR [19, 17]) rfl rfl (take_ofW HT_.out HW_.out (by kernel_rfl)) (fun _ _ _ h => h) (Or.inl ⟨by rfl, ?_⟩) hHeld ?_ ?_
         rotate_left; (rintro w' ⟨s0, s1, s2⟩; go_simp; with_reducible rfl); rotate_left; (simp only [Act.put, sA, sZ, sS, i64_w]; rfl)
         refine pP 19 34 (bR [20, 16]) rfl rfl HT_ ?_
         refine pP 20 35 (bR [21, 15]) rfl rfl HT_ ?_
         refine pP 21 36 (bR [22, 14]) rfl rfl HT_ ?_
         refine pU 22 37 (bR [23, 13]) rfl rfl HT_ ?_
         refine pU 23 38 (bR [24, 12]) rfl rfl HT_ ?_
         refine pU 24 39 (bR [25, 11]) rfl rfl HT_ ?_
         refine pU 25 40 (bR [26, 10]) rfl rfl HT_ ?_
         refine pU 26 41 (bR [27, 9]) rfl rfl HT_ ?_
         refine pU 27 42 (bR [28, 8]) rfl rfl HT_ ?_
         refine pU 28 43 (bR [29, 7]) rfl rfl HT_ ?_
         refine pU 29 44 (bR [30, 6]) rfl rfl HT_ ?_
         refine pU 30 45 (bR [31, 5]) rfl rfl HT_ ?_
         refine pU 31 46 (bR [32, 4]) rfl rfl HT_ ?_
         refine pU 32 47 (bR [33, 3]) rfl rfl HT_ ?_
         refine pU 33 48 (bR [34, 2]) rfl rfl HT_ ?_
         refine pU 34 49 (bR [35, 1]) rfl rfl HT_ ?_
         refine pP 35 50 (bR [36]) rfl rfl HT_ ?_
         refine done_ (done_of HT_.out (by kernel_rfl)) ?_
         try go_wp2
         go_ret
         exact ⟨by first | rfl | (simp [errW_none, errW_some] <;> rfl) | (simp [*, errW_none, errW_some] <;> rfl), by repeat (first | (with_reducible first | exact HB.out | apply bA | apply bN | apply bD | refine bS ?_ GE102.out) | exact HB.out)⟩
        ·rw [if_neg c16] at H
         have c16b0 : decide (100000 < ((rd_T130 l0 x3_1).f2)) = false := decide_eq_false c16
         clear c16
         by_cases c21 : x3_1 > 0
         ·rw [if_pos c21] at H
          have c21b0 : decide (0 < x3_1) = true := decide_eq_true c21
          clear c21
          obtain ⟨ji22, hji22⟩ : ∃ j_ : Int, (wrap64 (x3_1 - 1)) = j_ := ⟨_, rfl⟩
          replace H : (if 0 ≤ (ji22) then (if (ji22) < (l0.length : Int) then (if ((rd_T130 l0 x3_1).f1) < ((rd_T130 l0 (ji22)).f2) then (some false) else (spec_IsRoute.l0 k1 l0 (wrap64 (x3_1 + 1)))) else (none)) else (none)) = some r := by first | (rw [hji22] at H; exact H) | (simp only [hji22] at H ⊢; exact H)
          (try rw [hji22] at A4)
          have hji22w : (IntKind.i64.wrap (x3_1 - 1)) = ji22 := (i64_w _).trans hji22
          by_cases c23 : 0 ≤ (ji22)
          ·rw [if_pos c23] at H
           have c23b0 : decide (0 ≤ (ji22)) = true := decide_eq_true c23
           clear c23
           by_cases c24 : (ji22) < (l0.length : Int)
           ·rw [if_pos c24] at H
            have c24b0 : decide ((ji22) < (l0.length : Int)) = true := decide_eq_true c24
            clear c24
            by_cases c25 : ((rd_T130 l0 x3_1).f1) < ((rd_T130 l0 (ji22)).f2)
            ·rw [if_pos c25] at H
             have c25b0 : decide (((rd_T130 l0 x3_1).f1) < ((rd_T130 l0 (ji22)).f2)) = true := decide_eq_true c25
             clear c25
             obtain rfl := Option.some.inj H
             have p101 : 0 ≤ (x3_1 : Int) := of_decide_eq_true ‹_›
             have q101 : x3_1 < (l0.length : Int) := of_decide_eq_true ‹_›
             obtain ⟨ad101, e101, hx101_0, hx101_1, hx101_2⟩ := at_T130 HR0.out x3_1 p101 q101
             cases e101
             replace hx101_0 := (HB.out.cell (World.block_lt_of_cell? w _ hx101_0)).trans hx101_0
             replace hx101_1 := (HB.out.cell (World.block_lt_of_cell? w _ hx101_1)).trans hx101_1
             replace hx101_2 := (HB.out.cell (World.block_lt_of_cell? w _ hx101_2)).trans hx101_2
             replace p101 := eq_true p101
             replace q101 := eq_true q101
             try go_wp2_with (first | ((with_reducible refine gate_dst (N := 4) rfl ?_); refine box_event ?hg (N := 4) ?hd (cs := #[.int .i64 0, .int .i64 0, .int .i64 0]) (t := 130) ?hr ?_; (case hd => rfl); (case hg => rfl); (case hr => first | (go_simp; done) | (go_simp; rfl)); intro gb102 hg w26 hbox hb; have n0_ := Aside0.mk (below_step (qB HB) hb); have n1_ := Aside0.mk (hbox); have n2_ := Aside0.mk ((by rw [hg]; exact (below_size (qB HB)) : w.heap.size ≤ gb102)); have n3_ := Aside0.mk ((by rw [hg]; exact (below_size (qB HB)) : w.heap.size ≤ gb102)); clear HB; have HB := n0_; have BK102 := n1_; have GW102 := n2_; have GE102 := n3_; clear n0_ n1_ n2_ n3_; clear hb hbox hg; have hcz27_0 : w26.cell? ⟨gb102, 0, none⟩ = some (.int .i64 0) := cC BK102 0; have hcz27_1 : w26.cell? ⟨gb102, 1, none⟩ = some (.int .i64 0) := cC BK102 1; have hcz27_2 : w26.cell? ⟨gb102, 2, none⟩ = some (.int .i64 0) := cC BK102 2; have hfz27_0 := blk_frozen BK102.out 0; have hfz27_1 := blk_frozen BK102.out 1; have hfz27_2 := blk_frozen BK102.out 2))
             have n0_ : Aside0 ((((w26.setCell ⟨gb102, 0, none⟩ (.int .i64 ((rd_T130 l0 x3_1).f0))).setCell ⟨gb102, 1, none⟩ (.int .i64 ((rd_T130 l0 x3_1).f1))).setCell ⟨gb102, 2, none⟩ (.int .i64 ((rd_T130 l0 x3_1).f2))).heap[gb102]? = some (.cells #[.int .i64 ((rd_T130 l0 x3_1).f0), .int .i64 ((rd_T130 l0 x3_1).f1), .int .i64 ((rd_T130 l0 x3_1).f2)] 130 (0, 0))) := ⟨by (with_reducible repeat first | refine kN ?_ _ | refine kD ?_ | refine kA ?_ _); refine blk_put (cs := #[.int .i64 ((rd_T130 l0 x3_1).f0), .int .i64 ((rd_T130 l0 x3_1).f1), .int .i64 0]) ?_ 2 _ rfl; (with_reducible repeat first | refine kN ?_ _ | refine kD ?_ | refine kA ?_ _); refine blk_put (cs := #[.int .i64 ((rd_T130 l0 x3_1).f0), .int .i64 0, .int .i64 0]) ?_ 1 _ rfl; (with_reducible repeat first | refine kN ?_ _ | refine kD ?_ | refine kA ?_ _); refine blk_put (cs := #[.int .i64 0, .int .i64 0, .int .i64 0]) ?_ 0 _ rfl; (with_reducible repeat first | refine kN ?_ _ | refine kD ?_ | refine kA ?_ _); exact BK102.out⟩
             have n1_ : Aside0 (Below w.heap.size w (((w26.setCell ⟨gb102, 0, none⟩ (.int .i64 ((rd_T130 l0 x3_1).f0))).setCell ⟨gb102, 1, none⟩ (.int .i64 ((rd_T130 l0 x3_1).f1))).setCell ⟨gb102, 2, none⟩ (.int .i64 ((rd_T130 l0 x3_1).f2)))) := ⟨by repeat (first | (with_reducible first | exact HB.out | apply bA | apply bN | apply bD | refine bS ?_ GE102.out) | exact HB.out)⟩
             (try clear BK102)
             (try clear HB)
             generalize (((w26.setCell ⟨gb102, 0, none⟩ (.int .i64 ((rd_T130 l0 x3_1).f0))).setCell ⟨gb102, 1, none⟩ (.int .i64 ((rd_T130 l0 x3_1).f1))).setCell ⟨gb102, 2, none⟩ (.int .i64 ((rd_T130 l0 x3_1).f2))) = w28 at n0_ n1_ ⊢
             have BK102 := n0_
             have HB := n1_
             clear n0_ n1_
             have n0_ := Aside0.mk (blk_drew BK102.out)
             have n1_ := Aside0.mk (below_drew1 HB.out)
             clear BK102
             clear HB
             have BK102 := n0_
             have HB := n1_
             clear n0_ n1_
             have p104 : 0 ≤ ((ji22) : Int) := of_decide_eq_true ‹_›
             have q104 : (ji22) < (l0.length : Int) := of_decide_eq_true ‹_›
             obtain ⟨ad104, e104, hx104_0, hx104_1, hx104_2⟩ := at_T130 HR0.out (ji22) p104 q104
             have hw104_2 := hx104_2
             have hw104_1 := hx104_1
             have hw104_0 := hx104_0
             obtain rfl : ad101 = ad104 := (by injection e104)
             replace hx104_0 := (HB.out.cell (World.block_lt_of_cell? w _ hx104_0)).trans hx104_0
             replace hx104_1 := (HB.out.cell (World.block_lt_of_cell? w _ hx104_1)).trans hx104_1
             replace hx104_2 := (HB.out.cell (World.block_lt_of_cell? w _ hx104_2)).trans hx104_2
             replace p104 := eq_true p104
             replace q104 := eq_true q104
             refine start_ (n := 36) (S := fun w' => w'.cell? ⟨gb102, 0, none⟩ = some (.int .i64 ((rd_T130 l0 x3_1).f0)) ∧ w'.cell? ⟨gb102, 1, none⟩ = some (.int .i64 ((rd_T130 l0 x3_1).f1)) ∧ w'.cell? ⟨gb102, 2, none⟩ = some (.int .i64 ((rd_T130 l0 x3_1).f2)) ∧ w'.cell? (ad101.add (((ji22)).toNat * 3)) = some (.int .i64 ((rd_T130 l0 (ji22)).f0)) ∧ w'.cell? ⟨(ad101.add (((ji22)).toNat * 3)).block, (ad101.add (((ji22)).toNat * 3)).off + 1, none⟩ = some (.int .i64 ((rd_T130 l0 (ji22)).f1)) ∧ w'.cell? ⟨(ad101.add (((ji22)).toNat * 3)).block, (ad101.add (((ji22)).toNat * 3)).off + 2, none⟩ = some (.int .i64 ((rd_T130 l0 (ji22)).f2))) (ds := []) (bR [0, 36]) (by kernel_rfl) rfl rfl ⟨cC BK102 0, cC BK102 1, cC BK102 2, ((HB.out.cell (World.block_lt_of_cell? w _ hw104_0)).trans hw104_0), ((HB.out.cell (World.block_lt_of_cell? w _ hw104_1)).trans hw104_1), ((HB.out.cell (World.block_lt_of_cell? w _ hw104_2)).trans hw104_2)⟩ (fun hHeld => ?_); refine with_tabW spec_IsRoute.tab5 spec_IsRoute.bits5 (fun HT_ HW_ => ?_)
             generalize w28.drew = w29 at BK102 HB hx104_0 hx104_1 hx104_2 hHeld ⊢
             refine pP 0 15 (bR [1, 35]) rfl rfl HT_ ?_
             refine take_ (i := 1) (N := some 16) (v := ?_) (a' := ?_) (bR [2, 34]) rfl rfl (take_ofW HT_.out HW_.out (by kernel_rfl)) (fun _ _ _ h => h) (Or.inl ⟨by rfl, ?_⟩) hHeld ?_ ?_
             rotate_left; (rintro w' ⟨s0, s1, s2, s3, s4, s5⟩; go_simp; with_reducible rfl); rotate_left; (simp only [Act.put, sA, sZ, sS, i64_w]; rfl)
             refine one_ (i := 2) (N := some 17) (bR [3, 33]) rfl rfl (one_of HT_.out (by kernel_rfl)) (by decide) (fun K hK => ?_)
             refine goes_ Try.func176 (by kernel_rfl) rfl #[.int .i64 ((rd_T130 l0 x3_1).f0), .int .i64 1, .int .i64 30] (by rfl) rfl rfl (by (try simp only [mA, mC, mN]); first | done | rfl | (simp only [lD, lT]; rfl)) ?_
             with_reducible refine (spec_l1In.calls ((rd_T130 l0 x3_1).f0) 1 30 true _ A4.out).mono ?_
             rintro e w' ⟨rfl, ⟨nd, rfl⟩⟩
             refine ⟨_, rfl, ?_⟩
             refine hK.out _ _ ⟨cC BK102 0, cC BK102 1, cC BK102 2, ((HB.out.cell (World.block_lt_of_cell? w _ hw104_0)).trans hw104_0), ((HB.out.cell (World.block_lt_of_cell? w _ hw104_1)).trans hw104_1), ((HB.out.cell (World.block_lt_of_cell? w _ hw104_2)).trans hw104_2)⟩ (fun hHeld => ?_)
             clear hK K
             refine norm_ (a' := ?_) ?_ ?_
             rotate_left
             ·show Act.put _ (some 17) _ = _
              simp only [Act.put, sA, sZ, sS, i64_w]
              rfl
             refine pP 3 18 (bR [4, 32]) rfl rfl HT_ ?_
             refine pP 4 19 (bR [5, 31]) rfl rfl HT_ ?_
             refine pP 5 20 (bR [6, 30]) rfl rfl HT_ ?_
             refine take_ (i := 6) (N := some 21) (v := ?_) (a' := ?_) (bR [7, 29]) rfl rfl (take_ofW HT_.out HW_.out (by kernel_rfl)) (fun _ _ _ h => h) (Or.inl ⟨by rfl, ?_⟩) hHeld ?_ ?_
             rotate_left; (rintro w' ⟨s0, s1, s2, s3, s4, s5⟩; go_simp; with_reducible rfl); rotate_left; (simp only [Act.put, sA, sZ, sS, i64_w]; rfl)
             refine pP 7 22 (bR [8, 28]) rfl rfl HT_ ?_
             refine pP 8 23 (bR [9, 27]) rfl rfl HT_ ?_
             refine pP 9 24 (bR [10, 26]) rfl rfl HT_ ?_
             refine pP 10 25 (bR [11, 25]) rfl rfl HT_ ?_
             refine pP 12 27 (bR [11, 1, 1, 23]) rfl rfl HT_ ?_
             refine take_ (i := 11) (N := some 26) (v := ?_) (a' := ?_) (bR [13, 23]) rfl rfl (take_ofW HT_.out HW_.out (by kernel_rfl)) (fun _ _ _ h => h) (Or.inl ⟨by rfl, ?_⟩) hHeld ?_ ?_
             rotate_left; (rintro w' ⟨s0, s1, s2, s3, s4, s5⟩; go_simp; with_reducible rfl); rotate_left; (simp only [Act.put, sA, sZ, sS, i64_w]; rfl)
             refine take_ (i := 13) (N := some 28) (v := ?_) (a' := ?_) (bR [14, 22]) rfl rfl (take_ofW HT_.out HW_.out (by kernel_rfl)) (fun _ _ _ h => h) (Or.inl ⟨by rfl, ?_⟩) hHeld ?_ ?_
             rotate_left; (rintro w' ⟨s0, s1, s2, s3, s4, s5⟩; go_simp; with_reducible rfl); rotate_left; (simp only [Act.put, sA, sZ, sS, i64_w]; rfl)
             refine pP 14 29 (bR [15, 21]) rfl rfl HT_ ?_
             refine pP 15 30 (bR [16, 20]) rfl rfl HT_ ?_
             refine pP 16 31 (bR [17, 19]) rfl rfl HT_ ?_
             refine pP 17 32 (bR [18, 18]) rfl rfl HT_ ?_
             refine take_ (i := 18) (N := some 33) (v := ?_) (a' := ?_) (bR [19, 17]) rfl rfl (take_ofW HT_.out HW_.out (by kernel_rfl)) (fun _ _ _ h => h) (Or.inl ⟨by rfl, ?_⟩) hHeld ?_ ?_
             rotate_left; (rintro w' ⟨s0, s1, s2, s3, s4, s5⟩; go_simp; with_reducible rfl); rotate_left; (simp only [Act.put, sA, sZ, sS, i64_w]; rfl)
             refine pP 19 34 (bR [20, 16]) rfl rfl HT_ ?_
             refine pP 20 35 (bR [21, 15]) rfl rfl HT_ ?_
             refine pP 21 36 (bR [22, 14]) rfl rfl HT_ ?_
             refine pP 22 37 (bR [23, 13]) rfl rfl HT_ ?_
             refine pP 23 38 (bR [24, 12]) rfl rfl HT_ ?_
             refine pP 24 39 (bR [25, 11]) rfl rfl HT_ ?_
             refine pP 25 40 (bR [26, 10]) rfl rfl HT_ ?_
             refine pP 27 42 (bR [26, 1, 1, 8]) rfl rfl HT_ ?_
             refine pP 28 43 (bR [26, 1, 2, 7]) rfl rfl HT_ ?_
             refine pP 29 44 (bR [26, 1, 3, 6]) rfl rfl HT_ ?_
             refine pP 30 45 (bR [26, 1, 4, 5]) rfl rfl HT_ ?_
             refine pP 31 46 (bR [26, 1, 5, 4]) rfl rfl HT_ ?_
             refine take_ (i := 26) (N := some 41) (v := ?_) (a' := ?_) (bR [32, 4]) rfl rfl (take_ofW HT_.out HW_.out (by kernel_rfl)) (fun _ _ _ h => h) (Or.inl ⟨by rfl, ?_⟩) hHeld ?_ ?_
             rotate_left; (rintro w' ⟨s0, s1, s2, s3, s4, s5⟩; go_simp; with_reducible rfl); rotate_left; (simp only [Act.put, sA, sZ, sS, i64_w]; rfl)
             refine take_ (i := 32) (N := some 47) (v := ?_) (a' := ?_) (bR [33, 3]) rfl rfl (take_ofW HT_.out HW_.out (by kernel_rfl)) (fun _ _ _ h => h) (Or.inl ⟨by rfl, ?_⟩) hHeld ?_ ?_
             rotate_left; (rintro w' ⟨s0, s1, s2, s3, s4, s5⟩; go_simp; with_reducible rfl); rotate_left; (simp only [Act.put, sA, sZ, sS, i64_w]; rfl)
             refine pP 33 48 (bR [34, 2]) rfl rfl HT_ ?_
             refine pP 34 49 (bR [35, 1]) rfl rfl HT_ ?_
             refine pP 35 50 (bR [36]) rfl rfl HT_ ?_
             refine done_ (done_of HT_.out (by kernel_rfl)) ?_
             try go_wp2
             go_ret
             exact ⟨by first | rfl | (simp [errW_none, errW_some] <;> rfl) | (simp only [← hji22]; first | rfl | (simp [errW_none, errW_some] <;> rfl)) | (simp [*, errW_none, errW_some] <;> rfl), by repeat (first | (with_reducible first | exact HB.out | apply bA | apply bN | apply bD | refine bS ?_ GE102.out) | exact HB.out)⟩
            ·rw [if_neg c25] at H
             have c25b0 : decide (((rd_T130 l0 x3_1).f1) < ((rd_T130 l0 (ji22)).f2)) = false := decide_eq_false c25
             clear c25
             have H' := Aside0.mk H
             clear H
             have p101 : 0 ≤ (x3_1 : Int) := of_decide_eq_true ‹_›
             have q101 : x3_1 < (l0.length : Int) := of_decide_eq_true ‹_›
             obtain ⟨ad101, e101, hx101_0, hx101_1, hx101_2⟩ := at_T130 HR0.out x3_1 p101 q101
             cases e101
             replace hx101_0 := (HB.out.cell (World.block_lt_of_cell? w _ hx101_0)).trans hx101_0
             replace hx101_1 := (HB.out.cell (World.block_lt_of_cell? w _ hx101_1)).trans hx101_1
             replace hx101_2 := (HB.out.cell (World.block_lt_of_cell? w _ hx101_2)).trans hx101_2
             replace p101 := eq_true p101
             replace q101 := eq_true q101
             try go_wp2_with (first | ((with_reducible refine gate_dst (N := 4) rfl ?_); refine box_event ?hg (N := 4) ?hd (cs := #[.int .i64 0, .int .i64 0, .int .i64 0]) (t := 130) ?hr ?_; (case hd => rfl); (case hg => rfl); (case hr => first | (go_simp; done) | (go_simp; rfl)); intro gb102 hg w30 hbox hb; have n0_ := Aside0.mk (below_step (qB HB) hb); have n1_ := Aside0.mk (hbox); have n2_ := Aside0.mk ((by rw [hg]; exact (below_size (qB HB)) : w.heap.size ≤ gb102)); have n3_ := Aside0.mk ((by rw [hg]; exact (below_size (qB HB)) : w.heap.size ≤ gb102)); clear HB; have HB := n0_; have BK102 := n1_; have GW102 := n2_; have GE102 := n3_; clear n0_ n1_ n2_ n3_; clear hb hbox hg; have hcz31_0 : w30.cell? ⟨gb102, 0, none⟩ = some (.int .i64 0) := cC BK102 0; have hcz31_1 : w30.cell? ⟨gb102, 1, none⟩ = some (.int .i64 0) := cC BK102 1; have hcz31_2 : w30.cell? ⟨gb102, 2, none⟩ = some (.int .i64 0) := cC BK102 2; have hfz31_0 := blk_frozen BK102.out 0; have hfz31_1 := blk_frozen BK102.out 1; have hfz31_2 := blk_frozen BK102.out 2))
             have n0_ : Aside0 ((((w30.setCell ⟨gb102, 0, none⟩ (.int .i64 ((rd_T130 l0 x3_1).f0))).setCell ⟨gb102, 1, none⟩ (.int .i64 ((rd_T130 l0 x3_1).f1))).setCell ⟨gb102, 2, none⟩ (.int .i64 ((rd_T130 l0 x3_1).f2))).heap[gb102]? = some (.cells #[.int .i64 ((rd_T130 l0 x3_1).f0), .int .i64 ((rd_T130 l0 x3_1).f1), .int .i64 ((rd_T130 l0 x3_1).f2)] 130 (0, 0))) := ⟨by (with_reducible repeat first | refine kN ?_ _ | refine kD ?_ | refine kA ?_ _); refine blk_put (cs := #[.int .i64 ((rd_T130 l0 x3_1).f0), .int .i64 ((rd_T130 l0 x3_1).f1), .int .i64 0]) ?_ 2 _ rfl; (with_reducible repeat first | refine kN ?_ _ | refine kD ?_ | refine kA ?_ _); refine blk_put (cs := #[.int .i64 ((rd_T130 l0 x3_1).f0), .int .i64 0, .int .i64 0]) ?_ 1 _ rfl; (with_reducible repeat first | refine kN ?_ _ | refine kD ?_ | refine kA ?_ _); refine blk_put (cs := #[.int .i64 0, .int .i64 0, .int .i64 0]) ?_ 0 _ rfl; (with_reducible repeat first | refine kN ?_ _ | refine kD ?_ | refine kA ?_ _); exact BK102.out⟩
             have n1_ : Aside0 (Below w.heap.size w (((w30.setCell ⟨gb102, 0, none⟩ (.int .i64 ((rd_T130 l0 x3_1).f0))).setCell ⟨gb102, 1, none⟩ (.int .i64 ((rd_T130 l0 x3_1).f1))).setCell ⟨gb102, 2, none⟩ (.int .i64 ((rd_T130 l0 x3_1).f2)))) := ⟨by repeat (first | (with_reducible first | exact HB.out | apply bA | apply bN | apply bD | refine bS ?_ GE102.out) | exact HB.out)⟩
             (try clear BK102)
             (try clear HB)
             generalize (((w30.setCell ⟨gb102, 0, none⟩ (.int .i64 ((rd_T130 l0 x3_1).f0))).setCell ⟨gb102, 1, none⟩ (.int .i64 ((rd_T130 l0 x3_1).f1))).setCell ⟨gb102, 2, none⟩ (.int .i64 ((rd_T130 l0 x3_1).f2))) = w32 at n0_ n1_ ⊢
             have BK102 := n0_
             have HB := n1_
             clear n0_ n1_
             have n0_ := Aside0.mk (blk_drew BK102.out)
             have n1_ := Aside0.mk (below_drew1 HB.out)
             clear BK102
             clear HB
             have BK102 := n0_
             have HB := n1_
             clear n0_ n1_
             have p104 : 0 ≤ ((ji22) : Int) := of_decide_eq_true ‹_›
             have q104 : (ji22) < (l0.length : Int) := of_decide_eq_true ‹_›
             obtain ⟨ad104, e104, hx104_0, hx104_1, hx104_2⟩ := at_T130 HR0.out (ji22) p104 q104
             have hw104_2 := hx104_2
             have hw104_1 := hx104_1
             have hw104_0 := hx104_0
             obtain rfl : ad101 = ad104 := (by injection e104)
             replace hx104_0 := (HB.out.cell (World.block_lt_of_cell? w _ hx104_0)).trans hx104_0
             replace hx104_1 := (HB.out.cell (World.block_lt_of_cell? w _ hx104_1)).trans hx104_1
             replace hx104_2 := (HB.out.cell (World.block_lt_of_cell? w _ hx104_2)).trans hx104_2
             replace p104 := eq_true p104
             replace q104 := eq_true q104
             refine start_ (n := 36) (S := fun w' => w'.cell? ⟨gb102, 0, none⟩ = some (.int .i64 ((rd_T130 l0 x3_1).f0)) ∧ w'.cell? ⟨gb102, 1, none⟩ = some (.int .i64 ((rd_T130 l0 x3_1).f1)) ∧ w'.cell? ⟨gb102, 2, none⟩ = some (.int .i64 ((rd_T130 l0 x3_1).f2)) ∧ w'.cell? (ad101.add (((ji22)).toNat * 3)) = some (.int .i64 ((rd_T130 l0 (ji22)).f0)) ∧ w'.cell? ⟨(ad101.add (((ji22)).toNat * 3)).block, (ad101.add (((ji22)).toNat * 3)).off + 1, none⟩ = some (.int .i64 ((rd_T130 l0 (ji22)).f1)) ∧ w'.cell? ⟨(ad101.add (((ji22)).toNat * 3)).block, (ad101.add (((ji22)).toNat * 3)).off + 2, none⟩ = some (.int .i64 ((rd_T130 l0 (ji22)).f2))) (ds := []) (bR [0, 36]) (by kernel_rfl) rfl rfl ⟨cC BK102 0, cC BK102 1, cC BK102 2, ((HB.out.cell (World.block_lt_of_cell? w _ hw104_0)).trans hw104_0), ((HB.out.cell (World.block_lt_of_cell? w _ hw104_1)).trans hw104_1), ((HB.out.cell (World.block_lt_of_cell? w _ hw104_2)).trans hw104_2)⟩ (fun hHeld => ?_); refine with_tabW spec_IsRoute.tab5 spec_IsRoute.bits5 (fun HT_ HW_ => ?_)
             generalize w32.drew = w33 at BK102 HB hx104_0 hx104_1 hx104_2 hHeld ⊢
             refine pP 0 15 (bR [1, 35]) rfl rfl HT_ ?_
             refine take_ (i := 1) (N := some 16) (v := ?_) (a' := ?_) (bR [2, 34]) rfl rfl (take_ofW HT_.out HW_.out (by kernel_rfl)) (fun _ _ _ h => h) (Or.inl ⟨by rfl, ?_⟩) hHeld ?_ ?_
             rotate_left; (rintro w' ⟨s0, s1, s2, s3, s4, s5⟩; go_simp; with_reducible rfl); rotate_left; (simp only [Act.put, sA, sZ, sS, i64_w]; rfl)
             refine one_ (i := 2) (N := some 17) (bR [3, 33]) rfl rfl (one_of HT_.out (by kernel_rfl)) (by decide) (fun K hK => ?_)
             refine goes_ Try.func176 (by kernel_rfl) rfl #[.int .i64 ((rd_T130 l0 x3_1).f0), .int .i64 1, .int .i64 30] (by rfl) rfl rfl (by (try simp only [mA, mC, mN]); first | done | rfl | (simp only [lD, lT]; rfl)) ?_
             with_reducible refine (spec_l1In.calls ((rd_T130 l0 x3_1).f0) 1 30 true _ A4.out).mono ?_
             rintro e w' ⟨rfl, ⟨nd, rfl⟩⟩
             refine ⟨_, rfl, ?_⟩
             refine hK.out _ _ ⟨cC BK102 0, cC BK102 1, cC BK102 2, ((HB.out.cell (World.block_lt_of_cell? w _ hw104_0)).trans hw104_0), ((HB.out.cell (World.block_lt_of_cell? w _ hw104_1)).trans hw104_1), ((HB.out.cell (World.block_lt_of_cell? w _ hw104_2)).trans hw104_2)⟩ (fun hHeld => ?_)
             clear hK K
             refine norm_ (a' := ?_) ?_ ?_
             rotate_left
             ·show Act.put _ (some 17) _ = _
              simp only [Act.put, sA, sZ, sS, i64_w]
              rfl
             refine pP 3 18 (bR [4, 32]) rfl rfl HT_ ?_
             refine pP 4 19 (bR [5, 31]) rfl rfl HT_ ?_
             refine pP 5 20 (bR [6, 30]) rfl rfl HT_ ?_
             refine take_ (i := 6) (N := some 21) (v := ?_) (a' := ?_) (bR [7, 29]) rfl rfl (take_ofW HT_.out HW_.out (by kernel_rfl)) (fun _ _ _ h => h) (Or.inl ⟨by rfl, ?_⟩) hHeld ?_ ?_
             rotate_left; (rintro w' ⟨s0, s1, s2, s3, s4, s5⟩; go_simp; with_reducible rfl); rotate_left; (simp only [Act.put, sA, sZ, sS, i64_w]; rfl)
             refine pP 7 22 (bR [8, 28]) rfl rfl HT_ ?_
             refine pP 8 23 (bR [9, 27]) rfl rfl HT_ ?_
             refine pP 9 24 (bR [10, 26]) rfl rfl HT_ ?_
             refine pP 10 25 (bR [11, 25]) rfl rfl HT_ ?_
             refine pP 12 27 (bR [11, 1, 1, 23]) rfl rfl HT_ ?_
             refine take_ (i := 11) (N := some 26) (v := ?_) (a' := ?_) (bR [13, 23]) rfl rfl (take_ofW HT_.out HW_.out (by kernel_rfl)) (fun _ _ _ h => h) (Or.inl ⟨by rfl, ?_⟩) hHeld ?_ ?_
             rotate_left; (rintro w' ⟨s0, s1, s2, s3, s4, s5⟩; go_simp; with_reducible rfl); rotate_left; (simp only [Act.put, sA, sZ, sS, i64_w]; rfl)
             refine take_ (i := 13) (N := some 28) (v := ?_) (a' := ?_) (bR [14, 22]) rfl rfl (take_ofW HT_.out HW_.out (by kernel_rfl)) (fun _ _ _ h => h) (Or.inl ⟨by rfl, ?_⟩) hHeld ?_ ?_
             rotate_left; (rintro w' ⟨s0, s1, s2, s3, s4, s5⟩; go_simp; with_reducible rfl); rotate_left; (simp only [Act.put, sA, sZ, sS, i64_w]; rfl)
             refine pP 14 29 (bR [15, 21]) rfl rfl HT_ ?_
             refine pP 15 30 (bR [16, 20]) rfl rfl HT_ ?_
             refine pP 16 31 (bR [17, 19]) rfl rfl HT_ ?_
             refine pP 17 32 (bR [18, 18]) rfl rfl HT_ ?_
             refine take_ (i := 18) (N := some 33) (v := ?_) (a' := ?_) (bR [19, 17]) rfl rfl (take_ofW HT_.out HW_.out (by kernel_rfl)) (fun _ _ _ h => h) (Or.inl ⟨by rfl, ?_⟩) hHeld ?_ ?_
             rotate_left; (rintro w' ⟨s0, s1, s2, s3, s4, s5⟩; go_simp; with_reducible rfl); rotate_left; (simp only [Act.put, sA, sZ, sS, i64_w]; rfl)
             refine pP 19 34 (bR [20, 16]) rfl rfl HT_ ?_
             refine pP 20 35 (bR [21, 15]) rfl rfl HT_ ?_
             refine pP 21 36 (bR [22, 14]) rfl rfl HT_ ?_
             refine pP 22 37 (bR [23, 13]) rfl rfl HT_ ?_
             refine pP 23 38 (bR [24, 12]) rfl rfl HT_ ?_
             refine pP 24 39 (bR [25, 11]) rfl rfl HT_ ?_
             refine pP 25 40 (bR [26, 10]) rfl rfl HT_ ?_
             refine pP 27 42 (bR [26, 1, 1, 8]) rfl rfl HT_ ?_
             refine pP 28 43 (bR [26, 1, 2, 7]) rfl rfl HT_ ?_
             refine pP 29 44 (bR [26, 1, 3, 6]) rfl rfl HT_ ?_
             refine pP 30 45 (bR [26, 1, 4, 5]) rfl rfl HT_ ?_
             refine pP 31 46 (bR [26, 1, 5, 4]) rfl rfl HT_ ?_
             refine take_ (i := 26) (N := some 41) (v := ?_) (a' := ?_) (bR [32, 4]) rfl rfl (take_ofW HT_.out HW_.out (by kernel_rfl)) (fun _ _ _ h => h) (Or.inl ⟨by rfl, ?_⟩) hHeld ?_ ?_
             rotate_left; (rintro w' ⟨s0, s1, s2, s3, s4, s5⟩; go_simp; with_reducible rfl); rotate_left; (simp only [Act.put, sA, sZ, sS, i64_w]; rfl)
             refine take_ (i := 32) (N := some 47) (v := ?_) (a' := ?_) (bR [33, 3]) rfl rfl (take_ofW HT_.out HW_.out (by kernel_rfl)) (fun _ _ _ h => h) (Or.inl ⟨by rfl, ?_⟩) hHeld ?_ ?_
             rotate_left; (rintro w' ⟨s0, s1, s2, s3, s4, s5⟩; go_simp; with_reducible rfl); rotate_left; (simp only [Act.put, sA, sZ, sS, i64_w]; rfl)
             refine pP 33 48 (bR [34, 2]) rfl rfl HT_ ?_
             refine pP 34 49 (bR [35, 1]) rfl rfl HT_ ?_
             refine pP 35 50 (bR [36]) rfl rfl HT_ ?_
             refine done_ (done_of HT_.out (by kernel_rfl)) ?_
             try go_wp2
             go_roundg k1
             case measure => have := HK1.out; omega
             case rel => exact ⟨(wrap64 (x3_1 + 1)), (by first | rfl | (simp; done) | (simp [*]; done)), H', ⟨by have := HK1.out; omega⟩, ⟨by repeat (first | (with_reducible first | exact HB.out | apply bA | apply bN | apply bD | refine bS ?_ GE102.out) | exact HB.out)⟩⟩
           ·rw [if_neg c24] at H
            exact absurd H (by simp)
          ·rw [if_neg c23] at H
           exact absurd H (by simp)
         ·rw [if_neg c21] at H
          have c21b0 : decide (0 < x3_1) = false := decide_eq_false c21
          clear c21
          have H' := Aside0.mk H
          clear H
          have p101 : 0 ≤ (x3_1 : Int) := of_decide_eq_true ‹_›
          have q101 : x3_1 < (l0.length : Int) := of_decide_eq_true ‹_›
          obtain ⟨ad101, e101, hx101_0, hx101_1, hx101_2⟩ := at_T130 HR0.out x3_1 p101 q101
          cases e101
          replace hx101_0 := (HB.out.cell (World.block_lt_of_cell? w _ hx101_0)).trans hx101_0
          replace hx101_1 := (HB.out.cell (World.block_lt_of_cell? w _ hx101_1)).trans hx101_1
          replace hx101_2 := (HB.out.cell (World.block_lt_of_cell? w _ hx101_2)).trans hx101_2
          replace p101 := eq_true p101
          replace q101 := eq_true q101
          try go_wp2_with (first | ((with_reducible refine gate_dst (N := 4) rfl ?_); refine box_event ?hg (N := 4) ?hd (cs := #[.int .i64 0, .int .i64 0, .int .i64 0]) (t := 130) ?hr ?_; (case hd => rfl); (case hg => rfl); (case hr => first | (go_simp; done) | (go_simp; rfl)); intro gb102 hg w34 hbox hb; have n0_ := Aside0.mk (below_step (qB HB) hb); have n1_ := Aside0.mk (hbox); have n2_ := Aside0.mk ((by rw [hg]; exact (below_size (qB HB)) : w.heap.size ≤ gb102)); have n3_ := Aside0.mk ((by rw [hg]; exact (below_size (qB HB)) : w.heap.size ≤ gb102)); clear HB; have HB := n0_; have BK102 := n1_; have GW102 := n2_; have GE102 := n3_; clear n0_ n1_ n2_ n3_; clear hb hbox hg; have hcz35_0 : w34.cell? ⟨gb102, 0, none⟩ = some (.int .i64 0) := cC BK102 0; have hcz35_1 : w34.cell? ⟨gb102, 1, none⟩ = some (.int .i64 0) := cC BK102 1; have hcz35_2 : w34.cell? ⟨gb102, 2, none⟩ = some (.int .i64 0) := cC BK102 2; have hfz35_0 := blk_frozen BK102.out 0; have hfz35_1 := blk_frozen BK102.out 1; have hfz35_2 := blk_frozen BK102.out 2))
          have n0_ : Aside0 ((((w34.setCell ⟨gb102, 0, none⟩ (.int .i64 ((rd_T130 l0 x3_1).f0))).setCell ⟨gb102, 1, none⟩ (.int .i64 ((rd_T130 l0 x3_1).f1))).setCell ⟨gb102, 2, none⟩ (.int .i64 ((rd_T130 l0 x3_1).f2))).heap[gb102]? = some (.cells #[.int .i64 ((rd_T130 l0 x3_1).f0), .int .i64 ((rd_T130 l0 x3_1).f1), .int .i64 ((rd_T130 l0 x3_1).f2)] 130 (0, 0))) := ⟨by (with_reducible repeat first | refine kN ?_ _ | refine kD ?_ | refine kA ?_ _); refine blk_put (cs := #[.int .i64 ((rd_T130 l0 x3_1).f0), .int .i64 ((rd_T130 l0 x3_1).f1), .int .i64 0]) ?_ 2 _ rfl; (with_reducible repeat first | refine kN ?_ _ | refine kD ?_ | refine kA ?_ _); refine blk_put (cs := #[.int .i64 ((rd_T130 l0 x3_1).f0), .int .i64 0, .int .i64 0]) ?_ 1 _ rfl; (with_reducible repeat first | refine kN ?_ _ | refine kD ?_ | refine kA ?_ _); refine blk_put (cs := #[.int .i64 0, .int .i64 0, .int .i64 0]) ?_ 0 _ rfl; (with_reducible repeat first | refine kN ?_ _ | refine kD ?_ | refine kA ?_ _); exact BK102.out⟩
          have n1_ : Aside0 (Below w.heap.size w (((w34.setCell ⟨gb102, 0, none⟩ (.int .i64 ((rd_T130 l0 x3_1).f0))).setCell ⟨gb102, 1, none⟩ (.int .i64 ((rd_T130 l0 x3_1).f1))).setCell ⟨gb102, 2, none⟩ (.int .i64 ((rd_T130 l0 x3_1).f2)))) := ⟨by repeat (first | (with_reducible first | exact HB.out | apply bA | apply bN | apply bD | refine bS ?_ GE102.out) | exact HB.out)⟩
          (try clear BK102)
          (try clear HB)
          generalize (((w34.setCell ⟨gb102, 0, none⟩ (.int .i64 ((rd_T130 l0 x3_1).f0))).setCell ⟨gb102, 1, none⟩ (.int .i64 ((rd_T130 l0 x3_1).f1))).setCell ⟨gb102, 2, none⟩ (.int .i64 ((rd_T130 l0 x3_1).f2))) = w36 at n0_ n1_ ⊢
          have BK102 := n0_
          have HB := n1_
          clear n0_ n1_
          have n0_ := Aside0.mk (blk_drew BK102.out)
          have n1_ := Aside0.mk (below_drew1 HB.out)
          clear BK102
          clear HB
          have BK102 := n0_
          have HB := n1_
          clear n0_ n1_
          refine start_ (n := 36) (S := fun w' => w'.cell? ⟨gb102, 0, none⟩ = some (.int .i64 ((rd_T130 l0 x3_1).f0)) ∧ w'.cell? ⟨gb102, 1, none⟩ = some (.int .i64 ((rd_T130 l0 x3_1).f1)) ∧ w'.cell? ⟨gb102, 2, none⟩ = some (.int .i64 ((rd_T130 l0 x3_1).f2))) (ds := []) (bR [0, 36]) (by kernel_rfl) rfl rfl ⟨cC BK102 0, cC BK102 1, cC BK102 2⟩ (fun hHeld => ?_); refine with_tabW spec_IsRoute.tab5 spec_IsRoute.bits5 (fun HT_ HW_ => ?_)
          generalize w36.drew = w37 at BK102 HB hHeld ⊢
          refine pP 0 15 (bR [1, 35]) rfl rfl HT_ ?_
          refine take_ (i := 1) (N := some 16) (v := ?_) (a' := ?_) (bR [2, 34]) rfl rfl (take_ofW HT_.out HW_.out (by kernel_rfl)) (fun _ _ _ h => h) (Or.inl ⟨by rfl, ?_⟩) hHeld ?_ ?_
          rotate_left; (rintro w' ⟨s0, s1, s2⟩; go_simp; with_reducible rfl); rotate_left; (simp only [Act.put, sA, sZ, sS, i64_w]; rfl)
          refine one_ (i := 2) (N := some 17) (bR [3, 33]) rfl rfl (one_of HT_.out (by kernel_rfl)) (by decide) (fun K hK => ?_)
          refine goes_ Try.func176 (by kernel_rfl) rfl #[.int .i64 ((rd_T130 l0 x3_1).f0), .int .i64 1, .int .i64 30] (by rfl) rfl rfl (by (try simp only [mA, mC, mN]); first | done | rfl | (simp only [lD, lT]; rfl)) ?_
          with_reducible refine (spec_l1In.calls ((rd_T130 l0 x3_1).f0) 1 30 true _ A4.out).mono ?_
          rintro e w' ⟨rfl, ⟨nd, rfl⟩⟩
          refine ⟨_, rfl, ?_⟩
          refine hK.out _ _ ⟨cC BK102 0, cC BK102 1, cC BK102 2⟩ (fun hHeld => ?_)
          clear hK K
          refine norm_ (a' := ?_) ?_ ?_
          rotate_left
          ·show Act.put _ (some 17) _ = _
           simp only [Act.put, sA, sZ, sS, i64_w]
           rfl
          refine pP 3 18 (bR [4, 32]) rfl rfl HT_ ?_
          refine pP 4 19 (bR [5, 31]) rfl rfl HT_ ?_
          refine pP 5 20 (bR [6, 30]) rfl rfl HT_ ?_
          refine take_ (i := 6) (N := some 21) (v := ?_) (a' := ?_) (bR [7, 29]) rfl rfl (take_ofW HT_.out HW_.out (by kernel_rfl)) (fun _ _ _ h => h) (Or.inl ⟨by rfl, ?_⟩) hHeld ?_ ?_
          rotate_left; (rintro w' ⟨s0, s1, s2⟩; go_simp; with_reducible rfl); rotate_left; (simp only [Act.put, sA, sZ, sS, i64_w]; rfl)
          refine pP 7 22 (bR [8, 28]) rfl rfl HT_ ?_
          refine pP 8 23 (bR [9, 27]) rfl rfl HT_ ?_
          refine pP 9 24 (bR [10, 26]) rfl rfl HT_ ?_
          refine pP 10 25 (bR [11, 25]) rfl rfl HT_ ?_
          refine pP 12 27 (bR [11, 1, 1, 23]) rfl rfl HT_ ?_
          refine take_ (i := 11) (N := some 26) (v := ?_) (a' := ?_) (bR [13, 23]) rfl rfl (take_ofW HT_.out HW_.out (by kernel_rfl)) (fun _ _ _ h => h) (Or.inl ⟨by rfl, ?_⟩) hHeld ?_ ?_
          rotate_left; (rintro w' ⟨s0, s1, s2⟩; go_simp; with_reducible rfl); rotate_left; (simp only [Act.put, sA, sZ, sS, i64_w]; rfl)
          refine take_ (i := 13) (N := some 28) (v := ?_) (a' := ?_) (bR [14, 22]) rfl rfl (take_ofW HT_.out HW_.out (by kernel_rfl)) (fun _ _ _ h => h) (Or.inl ⟨by rfl, ?_⟩) hHeld ?_ ?_
          rotate_left; (rintro w' ⟨s0, s1, s2⟩; go_simp; with_reducible rfl); rotate_left; (simp only [Act.put, sA, sZ, sS, i64_w]; rfl)
          refine pP 14 29 (bR [15, 21]) rfl rfl HT_ ?_
          refine pP 15 30 (bR [16, 20]) rfl rfl HT_ ?_
          refine pP 16 31 (bR [17, 19]) rfl rfl HT_ ?_
          refine pP 17 32 (bR [18, 18]) rfl rfl HT_ ?_
          refine take_ (i := 18) (N := some 33) (v := ?_) (a' := ?_) (bR [19, 17]) rfl rfl (take_ofW HT_.out HW_.out (by kernel_rfl)) (fun _ _ _ h => h) (Or.inl ⟨by rfl, ?_⟩) hHeld ?_ ?_
          rotate_left; (rintro w' ⟨s0, s1, s2⟩; go_simp; with_reducible rfl); rotate_left; (simp only [Act.put, sA, sZ, sS, i64_w]; rfl)
          refine pP 19 34 (bR [20, 16]) rfl rfl HT_ ?_
          refine pP 20 35 (bR [21, 15]) rfl rfl HT_ ?_
          refine pP 21 36 (bR [22, 14]) rfl rfl HT_ ?_
          refine pP 22 37 (bR [23, 13]) rfl rfl HT_ ?_
          refine pP 23 38 (bR [24, 12]) rfl rfl HT_ ?_
          refine pP 24 39 (bR [25, 11]) rfl rfl HT_ ?_
          refine pU 25 40 (bR [26, 10]) rfl rfl HT_ ?_
          refine pU 26 41 (bR [27, 9]) rfl rfl HT_ ?_
          refine pU 27 42 (bR [28, 8]) rfl rfl HT_ ?_
          refine pU 28 43 (bR [29, 7]) rfl rfl HT_ ?_
          refine pU 29 44 (bR [30, 6]) rfl rfl HT_ ?_
          refine pU 30 45 (bR [31, 5]) rfl rfl HT_ ?_
          refine pU 31 46 (bR [32, 4]) rfl rfl HT_ ?_
          refine pU 32 47 (bR [33, 3]) rfl rfl HT_ ?_
          refine pU 33 48 (bR [34, 2]) rfl rfl HT_ ?_
          refine pP 34 49 (bR [35, 1]) rfl rfl HT_ ?_
          refine pP 35 50 (bR [36]) rfl rfl HT_ ?_
          refine done_ (done_of HT_.out (by kernel_rfl)) ?_
          try go_wp2
          go_roundg k1
          case measure => have := HK1.out; omega
          case rel => exact ⟨(wrap64 (x3_1 + 1)), (by first | rfl | (simp; done) | (simp [*]; done)), H', ⟨by have := HK1.out; omega⟩, ⟨by repeat (first | (with_reducible first | exact HB.out | apply bA | apply bN | apply bD | refine bS ?_ GE102.out) | exact HB.out)⟩⟩
     ·replace c5 := Bool.eq_false_iff.mpr c5
      subst c5
      have H1 : (some false) = some r := by rw [if_neg (show ¬ (false = true) by decide)] at H; exact H
      clear H
      have H := H1
      clear H1
      obtain rfl := Option.some.inj H
      have p101 : 0 ≤ (x3_1 : Int) := of_decide_eq_true ‹_›
      have q101 : x3_1 < (l0.length : Int) := of_decide_eq_true ‹_›
      obtain ⟨ad101, e101, hx101_0, hx101_1, hx101_2⟩ := at_T130 HR0.out x3_1 p101 q101
      cases e101
      replace hx101_0 := (HB.out.cell (World.block_lt_of_cell? w _ hx101_0)).trans hx101_0
      replace hx101_1 := (HB.out.cell (World.block_lt_of_cell? w _ hx101_1)).trans hx101_1
      replace hx101_2 := (HB.out.cell (World.block_lt_of_cell? w _ hx101_2)).trans hx101_2
      replace p101 := eq_true p101
      replace q101 := eq_true q101
      try go_wp2_with (first | ((with_reducible refine gate_dst (N := 4) rfl ?_); refine box_event ?hg (N := 4) ?hd (cs := #[.int .i64 0, .int .i64 0, .int .i64 0]) (t := 130) ?hr ?_; (case hd => rfl); (case hg => rfl); (case hr => first | (go_simp; done) | (go_simp; rfl)); intro gb102 hg w38 hbox hb; have n0_ := Aside0.mk (below_step (qB HB) hb); have n1_ := Aside0.mk (hbox); have n2_ := Aside0.mk ((by rw [hg]; exact (below_size (qB HB)) : w.heap.size ≤ gb102)); have n3_ := Aside0.mk ((by rw [hg]; exact (below_size (qB HB)) : w.heap.size ≤ gb102)); clear HB; have HB := n0_; have BK102 := n1_; have GW102 := n2_; have GE102 := n3_; clear n0_ n1_ n2_ n3_; clear hb hbox hg; have hcz39_0 : w38.cell? ⟨gb102, 0, none⟩ = some (.int .i64 0) := cC BK102 0; have hcz39_1 : w38.cell? ⟨gb102, 1, none⟩ = some (.int .i64 0) := cC BK102 1; have hcz39_2 : w38.cell? ⟨gb102, 2, none⟩ = some (.int .i64 0) := cC BK102 2; have hfz39_0 := blk_frozen BK102.out 0; have hfz39_1 := blk_frozen BK102.out 1; have hfz39_2 := blk_frozen BK102.out 2))
      have n0_ : Aside0 ((((w38.setCell ⟨gb102, 0, none⟩ (.int .i64 ((rd_T130 l0 x3_1).f0))).setCell ⟨gb102, 1, none⟩ (.int .i64 ((rd_T130 l0 x3_1).f1))).setCell ⟨gb102, 2, none⟩ (.int .i64 ((rd_T130 l0 x3_1).f2))).heap[gb102]? = some (.cells #[.int .i64 ((rd_T130 l0 x3_1).f0), .int .i64 ((rd_T130 l0 x3_1).f1), .int .i64 ((rd_T130 l0 x3_1).f2)] 130 (0, 0))) := ⟨by (with_reducible repeat first | refine kN ?_ _ | refine kD ?_ | refine kA ?_ _); refine blk_put (cs := #[.int .i64 ((rd_T130 l0 x3_1).f0), .int .i64 ((rd_T130 l0 x3_1).f1), .int .i64 0]) ?_ 2 _ rfl; (with_reducible repeat first | refine kN ?_ _ | refine kD ?_ | refine kA ?_ _); refine blk_put (cs := #[.int .i64 ((rd_T130 l0 x3_1).f0), .int .i64 0, .int .i64 0]) ?_ 1 _ rfl; (with_reducible repeat first | refine kN ?_ _ | refine kD ?_ | refine kA ?_ _); refine blk_put (cs := #[.int .i64 0, .int .i64 0, .int .i64 0]) ?_ 0 _ rfl; (with_reducible repeat first | refine kN ?_ _ | refine kD ?_ | refine kA ?_ _); exact BK102.out⟩
      have n1_ : Aside0 (Below w.heap.size w (((w38.setCell ⟨gb102, 0, none⟩ (.int .i64 ((rd_T130 l0 x3_1).f0))).setCell ⟨gb102, 1, none⟩ (.int .i64 ((rd_T130 l0 x3_1).f1))).setCell ⟨gb102, 2, none⟩ (.int .i64 ((rd_T130 l0 x3_1).f2)))) := ⟨by repeat (first | (with_reducible first | exact HB.out | apply bA | apply bN | apply bD | refine bS ?_ GE102.out) | exact HB.out)⟩
      (try clear BK102)
      (try clear HB)
      generalize (((w38.setCell ⟨gb102, 0, none⟩ (.int .i64 ((rd_T130 l0 x3_1).f0))).setCell ⟨gb102, 1, none⟩ (.int .i64 ((rd_T130 l0 x3_1).f1))).setCell ⟨gb102, 2, none⟩ (.int .i64 ((rd_T130 l0 x3_1).f2))) = w40 at n0_ n1_ ⊢
      have BK102 := n0_
      have HB := n1_
      clear n0_ n1_
      have n0_ := Aside0.mk (blk_drew BK102.out)
      have n1_ := Aside0.mk (below_drew1 HB.out)
      clear BK102
      clear HB
      have BK102 := n0_
      have HB := n1_
      clear n0_ n1_
      refine start_ (n := 36) (S := fun w' => w'.cell? ⟨gb102, 0, none⟩ = some (.int .i64 ((rd_T130 l0 x3_1).f0)) ∧ w'.cell? ⟨gb102, 1, none⟩ = some (.int .i64 ((rd_T130 l0 x3_1).f1)) ∧ w'.cell? ⟨gb102, 2, none⟩ = some (.int .i64 ((rd_T130 l0 x3_1).f2))) (ds := []) (bR [0, 36]) (by kernel_rfl) rfl rfl ⟨cC BK102 0, cC BK102 1, cC BK102 2⟩ (fun hHeld => ?_); refine with_tabW spec_IsRoute.tab5 spec_IsRoute.bits5 (fun HT_ HW_ => ?_)
      generalize w40.drew = w41 at BK102 HB hHeld ⊢
      refine pP 0 15 (bR [1, 35]) rfl rfl HT_ ?_
      refine take_ (i := 1) (N := some 16) (v := ?_) (a' := ?_) (bR [2, 34]) rfl rfl (take_ofW HT_.out HW_.out (by kernel_rfl)) (fun _ _ _ h => h) (Or.inl ⟨by rfl, ?_⟩) hHeld ?_ ?_
      rotate_left; (rintro w' ⟨s0, s1, s2⟩; go_simp; with_reducible rfl); rotate_left; (simp only [Act.put, sA, sZ, sS, i64_w]; rfl)
      refine one_ (i := 2) (N := some 17) (bR [3, 33]) rfl rfl (one_of HT_.out (by kernel_rfl)) (by decide) (fun K hK => ?_)
      refine goes_ Try.func176 (by kernel_rfl) rfl #[.int .i64 ((rd_T130 l0 x3_1).f0), .int .i64 1, .int .i64 30] (by rfl) rfl rfl (by (try simp only [mA, mC, mN]); first | done | rfl | (simp only [lD, lT]; rfl)) ?_
      with_reducible refine (spec_l1In.calls ((rd_T130 l0 x3_1).f0) 1 30 false _ A4.out).mono ?_
      rintro e w' ⟨rfl, ⟨nd, rfl⟩⟩
      refine ⟨_, rfl, ?_⟩
      refine hK.out _ _ ⟨cC BK102 0, cC BK102 1, cC BK102 2⟩ (fun hHeld => ?_)
      clear hK K
      refine norm_ (a' := ?_) ?_ ?_
      rotate_left
      ·show Act.put _ (some 17) _ = _
       simp only [Act.put, sA, sZ, sS, i64_w]
       rfl
      refine pP 3 18 (bR [4, 32]) rfl rfl HT_ ?_
      refine pP 4 19 (bR [5, 31]) rfl rfl HT_ ?_
      refine pU 5 20 (bR [6, 30]) rfl rfl HT_ ?_
      refine pU 6 21 (bR [7, 29]) rfl rfl HT_ ?_
      refine pU 7 22 (bR [8, 28]) rfl rfl HT_ ?_
      refine pP 8 23 (bR [9, 27]) rfl rfl HT_ ?_
      refine pP 9 24 (bR [10, 26]) rfl rfl HT_ ?_
      refine pU 10 25 (bR [11, 25]) rfl rfl HT_ ?_
      refine pU 11 26 (bR [12, 24]) rfl rfl HT_ ?_
      refine pU 12 27 (bR [13, 23]) rfl rfl HT_ ?_
      refine pU 13 28 (bR [14, 22]) rfl rfl HT_ ?_
      refine pU 14 29 (bR [15, 21]) rfl rfl HT_ ?_
      refine pP 15 30 (bR [16, 20]) rfl rfl HT_ ?_
      refine pP 16 31 (bR [17, 19]) rfl rfl HT_ ?_
      refine pU 17 32 (bR [18, 18]) rfl rfl HT_ ?_
      refine pU 18 33 (bR [19, 17]) rfl rfl HT_ ?_
      refine pU 19 34 (bR [20, 16]) rfl rfl HT_ ?_
      refine pP 20 35 (bR [21, 15]) rfl rfl HT_ ?_
      refine pP 21 36 (bR [22, 14]) rfl rfl HT_ ?_
      refine pU 22 37 (bR [23, 13]) rfl rfl HT_ ?_
      refine pU 23 38 (bR [24, 12]) rfl rfl HT_ ?_
      refine pU 24 39 (bR [25, 11]) rfl rfl HT_ ?_
      refine pU 25 40 (bR [26, 10]) rfl rfl HT_ ?_
      refine pU 26 41 (bR [27, 9]) rfl rfl HT_ ?_
      refine pU 27 42 (bR [28, 8]) rfl rfl HT_ ?_
      refine pU 28 43 (bR [29, 7]) rfl rfl HT_ ?_
      refine pU 29 44 (bR [30, 6]) rfl rfl HT_ ?_
      refine pU 30 45 (bR [31, 5]) rfl rfl HT_ ?_
      refine pU 31 46 (bR [32, 4]) rfl rfl HT_ ?_
      refine pU 32 47 (bR [33, 3]) rfl rfl HT_ ?_
      refine pU 33 48 (bR [34, 2]) rfl rfl HT_ ?_
      refine pU 34 49 (bR [35, 1]) rfl rfl HT_ ?_
      refine pP 35 50 (bR [36]) rfl rfl HT_ ?_
      refine done_ (done_of HT_.out (by kernel_rfl)) ?_
      try go_wp2
      go_ret
      exact ⟨by first | rfl | (simp [errW_none, errW_some] <;> rfl) | (simp [*, errW_none, errW_some] <;> rfl), by repeat (first | (with_reducible first | exact HB.out | apply bA | apply bN | apply bD | refine bS ?_ GE102.out) | exact HB.out)⟩
    ·rw [if_neg c3] at H
     exact absurd H (by simp)
   ·rw [if_neg c2] at H
    have c2b0 : decide (x3_1 < (l0.length : Int)) = false := decide_eq_false c2
    clear c2
    replace H := Option.bind_eq_some_iff.mp H
    obtain ⟨t105, A420, H⟩ := H
    replace H : (some t105) = some r := H
    have A42 := Aside0.mk A420
    clear A420
    obtain rfl := Option.some.inj H
    go_wp2_with (first | ((with_reducible refine gate_callee (f := 176) rfl ?_); refine goesL_ (some 53) rfl rfl Try.func176 (by kernel_rfl) rfl #[.int .i64 (l0.length : Int), .int .i64 1, .int .i64 10] rfl (by (try simp only [mA, mC, mN]); first | done | rfl | (simp only [lD, lT]; rfl)) ?_; (with_reducible refine (spec_l1In.calls (l0.length : Int) 1 10 t105 _ A42.out).mono ?_); rintro e w' ⟨rfl, ⟨nd, rfl⟩⟩; refine ⟨_, rfl, ?_⟩))
    go_ret
    exact ⟨by first | rfl | (simp [errW_none, errW_some] <;> rfl) | (simp [*, errW_none, errW_some] <;> rfl), by repeat (first | (with_reducible first | exact HB.out | apply bA | apply bN | apply bD) | exact HB.out)⟩

end Go.Proofs.Ytkfalbaklodnjaa.PFnExactLeftBetween
