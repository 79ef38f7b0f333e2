-- The printed functions of one law and their contracts, over contracts of this session's own (hand.py).
import Derived.Test.YtkfalbaklodnjaaPFnExactLeftBetweenx0
import Derived.Test.YtkfalbaklodnjaaPFnExactLeftBetweenx7
namespace Go.Proofs.Ytkfalbaklodnjaa.PFnExactLeftBetween
open Go.RowKit Go.Proofs.YtkfalbaklodnjaaW.PrintWords Go.Proofs.YtkfalbaklodnjaaW.PrintLast Go.Proofs.YtkfalbaklodnjaaW.PrintMore Go.Proofs.Ytkfalbaklodnjaa.Short
attribute [local go_sem] max2_int min2_int max_two min_two max_three min_three max_four min_four   -- for this text's walks alone
set_option linter.unusedVariables false
set_option linter.unusedSimpArgs false

/-! ### impl_IsRoute: function 87 -/
def impl_IsRoute.l0 : Nat → List (S130) → List (S130) → Int → Int → Option (Bool)
 | 0, _, _, _, _ => none
 | k + 1, x0, x9, x10, x11 => if x11 < x10 then (if 0 ≤ x11 then (if x11 < (x9.length : Int) then ((impl_InRange.f ((rd_T130 x9 x11).f0) 1 30).bind fun t197 => (if t197 = true then (if ((rd_T130 x9 x11).f1) < 0 then (some false) else (if ((rd_T130 x9 x11).f1) > ((rd_T130 x9 x11).f2) then (some false) else (if ((rd_T130 x9 x11).f2) > 100000 then (some false) else (if x11 > 0 then (if 0 ≤ (wrap64 (x11 - 1)) then (if (wrap64 (x11 - 1)) < (x0.length : Int) then (if ((rd_T130 x9 x11).f1) < ((rd_T130 x0 (wrap64 (x11 - 1))).f2) then (some false) else (impl_IsRoute.l0 k x0 x9 x10 (wrap64 (x11 + 1)))) else (none)) else (none)) else (impl_IsRoute.l0 k x0 x9 x10 (wrap64 (x11 + 1))))))) else (some false))) else (none)) else (none)) else (some true)
def impl_IsRoute.f (k : Nat) (l0 : List (S130)) : Option (Bool) := (impl_InRange.f (l0.length : Int) 1 10).bind fun t194 => (if t194 = true then (impl_IsRoute.l0 k l0 l0 (l0.length : Int) 0) else (some false))
theorem impl_IsRoute.mono_l : ∀ k, (∀ y0 y1 y2 y3, LeO (impl_IsRoute.l0 k y0 y1 y2 y3) (impl_IsRoute.l0 (k + 1) y0 y1 y2 y3))
 | 0 => fun _ _ _ _ r h => by simp [impl_IsRoute.l0] at h
 | k + 1 => by
  have ih0 := impl_IsRoute.mono_l k
  ·intro y0 y1 y2 y3
   unfold impl_IsRoute.l0
   repeat' first
   | (with_reducible exact ih0 _ _ _ _)
   | (with_reducible exact LeO.refl _)
   | (with_reducible exact LeO.none _)
   | (with_reducible refine LeO.ite ?_ ?_)
   | (with_reducible refine LeO.bind ?_ (fun _ => ?_))
   | exact ih0 _ _ _ _
   | exact LeO.none _
   | refine LeO.ite ?_ ?_
   | refine LeO.bind ?_ (fun _ => ?_)
theorem impl_IsRoute.mono : ∀ a0 k, LeO (impl_IsRoute.f k a0) (impl_IsRoute.f (k + 1) a0) := by
 intro a0 k
 have ih0 := impl_IsRoute.mono_l k
 unfold impl_IsRoute.f
 repeat' first
   | (with_reducible exact ih0 _ _ _ _)
   | (with_reducible exact LeO.refl _)
   | (with_reducible exact LeO.none _)
   | (with_reducible refine LeO.ite ?_ ?_)
   | (with_reducible refine LeO.bind ?_ (fun _ => ?_))
   | exact ih0 _ _ _ _
   | exact LeO.none _
   | refine LeO.ite ?_ ?_
   | refine LeO.bind ?_ (fun _ => ?_)
def impl_IsRoute.T6 : Bool × List (List Nat × List Nat) := (true, [([], []), ([0], [0]), ([1], [1]), ([2], [2]), ([3, 2], [3]), ([4], [4]), ([5, 4], [4, 5]), ([6, 4], [4, 6]), ([4, 7], [4, 7]), ([8, 4], [8]), ([9], [9]), ([10, 9], [9, 10]), ([9], [9]), ([12, 9], [9, 12]), ([11, 13, 9], [9, 11, 13]), ([9, 14], [9, 14]), ([15, 9], [15]), ([16], [16]), ([17, 16], [16, 17]), ([18, 16], [16, 18]), ([16, 19], [16, 19]), ([20, 16], [20]), ([21], [21]), ([22, 21], [21, 22]), ([23, 21, 21], [21, 23]), ([24], [24]), ([25, 24], [24, 25]), ([24], [24]), ([24], [24]), ([28, 24], [24, 28]), ([27, 29, 24], [24, 27, 29]), ([30, 24], [24, 30]), ([31, 24], [24, 31]), ([26, 32, 24], [24, 26, 32]), ([24, 33, 21], [21, 24, 33]), ([21, 34], [21, 34])])
def impl_IsRoute.B6 : List Nat := [0, 1, 3, 7, 15, 31, 63, 127, 255, 511, 1023, 2047, 1023, 5119, 16383, 32767, 65535, 131071, 262143, 524287, 1048575, 2097151, 4194303, 8388607, 16777215, 33554431, 67108863, 33554431, 33554431, 301989887, 973078527, 2046820351, 4194303999, 8589934591, 17179869183, 34359738367]
theorem impl_IsRoute.tab6 : rtab .any (opsOf Try.f87 6) = impl_IsRoute.T6 := by kernel_rfl
theorem impl_IsRoute.bits6 : waitsOk impl_IsRoute.T6.2 impl_IsRoute.B6 = true := by kernel_rfl
set_option maxHeartbeats 8000000 in
set_option maxRecDepth 100000 in
theorem impl_IsRoute.calls (k : Nat) (A0 : Option Addr) (c0 : Nat) (l0 : List (S130)) (r : Bool) (w : World) (hr0 : Kd.C k130 w A0 l0.length l0) (hc0 : l0.length ≤ c0) (h : impl_IsRoute.f k l0 = some r) :
  Calls Try.prog 87 #[.slice A0 l0.length c0] w fun e w' => e = .returned (.bool r) ∧ Below w.heap.size w w' := by
 have hu130 := Try.underlying130
 have HR0 := Aside0.mk hr0
 have HC0 := Aside0.mk hc0
 clear hr0 hc0
 have HB := Aside0.mk (Below.refl w.heap.size w)
 have H : ((impl_InRange.f (l0.length : Int) 1 10).bind fun t194 => (if t194 = true then (impl_IsRoute.l0 k l0 l0 (l0.length : Int) 0) else (some false))) = some r := h
 clear h
 replace H := Option.bind_eq_some_iff.mp H
 obtain ⟨t194, A20, H⟩ := H
 replace H : (if t194 = true then (impl_IsRoute.l0 k l0 l0 (l0.length : Int) 0) else (some false)) = some r := H
 have A2 := Aside0.mk A20
 clear A20
 by_cases c3 : t194 = true
 ·subst c3
  have H1 : (impl_IsRoute.l0 k l0 l0 (l0.length : Int) 0) = some r := by rw [if_pos rfl] at H; exact H
  clear H
  have H := H1
  clear H1
  have H' := Aside0.mk H
  clear H
  go_enter Try.func87, Try.ntmps87
  go_wp2_with (first | ((with_reducible refine gate_callee (f := 138) rfl ?_); refine goesL_ (some 7) rfl rfl Try.func138 (by kernel_rfl) rfl #[.int .i64 (l0.length : Int), .int .i64 1, .int .i64 10] rfl (by (try simp only [mA, mC, mN]); first | done | rfl | (simp only [lD, lT]; rfl)) ?_; (with_reducible refine (impl_InRange.calls (l0.length : Int) 1 10 true _ A2.out).mono ?_); rintro e w' ⟨rfl, ⟨nd, rfl⟩⟩; refine ⟨_, rfl, ?_⟩))
  go_loopg [11] k (fun kq v11 w' => ∃ (x11_1 : Int), v11 = .int .i64 x11_1 ∧ Aside0 (impl_IsRoute.l0 kq l0 l0 (l0.length : Int) x11_1 = some r) ∧ Aside0 (kq ≤ k) ∧ Aside0 (Below w.heap.size w w'))
  case atStart => exact ⟨(0), (by first | rfl | (simp; done) | (simp [*]; done)), H', ⟨Nat.le_refl _⟩, ⟨by repeat (first | (with_reducible first | exact HB.out | apply bA | apply bN | apply bD) | exact HB.out)⟩⟩
  case round =>
   clear H'
   try clear c1
   try clear p2
   try clear c3
   obtain ⟨x11_1, rfl, HA, HK1, HB⟩ := hrel
   cases gk with
   | zero => exact absurd HA.out (by simp [impl_IsRoute.l0])
   | succ k1 =>
    have H := HA.out
    clear HA
    simp only [impl_IsRoute.l0] at H
    by_cases c4 : x11_1 < (l0.length : Int)
    ·rw [if_pos c4] at H
     have c4b0 : decide (x11_1 < (l0.length : Int)) = true := decide_eq_true c4
     clear c4
     by_cases c5 : 0 ≤ x11_1
     ·rw [if_pos c5] at H
      have c5b0 : decide (0 ≤ x11_1) = true := decide_eq_true c5
      clear c5
      by_cases c6 : x11_1 < (l0.length : Int)
      ·rw [if_pos c6] at H
       have c6b0 : decide (x11_1 < (l0.length : Int)) = true := decide_eq_true c6
       clear c6
       replace H := Option.bind_eq_some_iff.mp H
       obtain ⟨t197, A70, H⟩ := H
       replace H : (if t197 = true then (if ((rd_T130 l0 x11_1).f1) < 0 then (some false) else (if ((rd_T130 l0 x11_1).f1) > ((rd_T130 l0 x11_1).f2) then (some false) else (if ((rd_T130 l0 x11_1).f2) > 100000 then (some false) else (if x11_1 > 0 then (if 0 ≤ (wrap64 (x11_1 - 1)) then (if (wrap64 (x11_1 - 1)) < (l0.length : Int) then (if ((rd_T130 l0 x11_1).f1) < ((rd_T130 l0 (wrap64 (x11_1 - 1))).f2) then (some false) else (impl_IsRoute.l0 k1 l0 l0 (l0.length : Int) (wrap64 (x11_1 + 1)))) else (none)) else (none)) else (impl_IsRoute.l0 k1 l0 l0 (l0.length : Int) (wrap64 (x11_1 + 1))))))) else (some false)) = some r := H
       have A7 := Aside0.mk A70
       clear A70
       by_cases c8 : t197 = true
       ·subst c8
        have H1 : (if ((rd_T130 l0 x11_1).f1) < 0 then (some false) else (if ((rd_T130 l0 x11_1).f1) > ((rd_T130 l0 x11_1).f2) then (some false) else (if ((rd_T130 l0 x11_1).f2) > 100000 then (some false) else (if x11_1 > 0 then (if 0 ≤ (wrap64 (x11_1 - 1)) then (if (wrap64 (x11_1 - 1)) < (l0.length : Int) then (if ((rd_T130 l0 x11_1).f1) < ((rd_T130 l0 (wrap64 (x11_1 - 1))).f2) then (some false) else (impl_IsRoute.l0 k1 l0 l0 (l0.length : Int) (wrap64 (x11_1 + 1)))) else (none)) else (none)) else (impl_IsRoute.l0 k1 l0 l0 (l0.length : Int) (wrap64 (x11_1 + 1))))))) = some r := by rw [if_pos rfl] at H; exact H
        clear H
        have H := H1
        clear H1
        by_cases c9 : ((rd_T130 l0 x11_1).f1) < 0
        ·rw [if_pos c9] at H
         have c9b0 : decide (((rd_T130 l0 x11_1).f1) < 0) = true := decide_eq_true c9
         clear c9
         obtain rfl := Option.some.inj H
         have p195 : 0 ≤ (x11_1 : Int) := of_decide_eq_true ‹_›
         have q195 : x11_1 < (l0.length : Int) := of_decide_eq_true ‹_›
         obtain ⟨ad195, e195, hx195_0, hx195_1, hx195_2⟩ := at_T130 HR0.out x11_1 p195 q195
         cases e195
         replace hx195_0 := (HB.out.cell (World.block_lt_of_cell? w _ hx195_0)).trans hx195_0
         replace hx195_1 := (HB.out.cell (World.block_lt_of_cell? w _ hx195_1)).trans hx195_1
         replace hx195_2 := (HB.out.cell (World.block_lt_of_cell? w _ hx195_2)).trans hx195_2
         replace p195 := eq_true p195
         replace q195 := eq_true q195
         try go_wp2_with (first | ((with_reducible refine gate_dst (N := 4) rfl ?_); refine box_event ?hg (N := 4) ?hd (cs := #[.int .i64 0, .int .i64 0, .int .i64 0]) (t := 130) ?hr ?_; (case hd => rfl); (case hg => rfl); (case hr => first | (go_simp; done) | (go_simp; rfl)); intro gb196 hg w10 hbox hb; have n0_ := Aside0.mk (below_step (qB HB) hb); have n1_ := Aside0.mk (hbox); have n2_ := Aside0.mk ((by rw [hg]; exact (below_size (qB HB)) : w.heap.size ≤ gb196)); have n3_ := Aside0.mk ((by rw [hg]; exact (below_size (qB HB)) : w.heap.size ≤ gb196)); clear HB; have HB := n0_; have BK196 := n1_; have GW196 := n2_; have GE196 := n3_; clear n0_ n1_ n2_ n3_; clear hb hbox hg; have hcz11_0 : w10.cell? ⟨gb196, 0, none⟩ = some (.int .i64 0) := cC BK196 0; have hcz11_1 : w10.cell? ⟨gb196, 1, none⟩ = some (.int .i64 0) := cC BK196 1; have hcz11_2 : w10.cell? ⟨gb196, 2, none⟩ = some (.int .i64 0) := cC BK196 2; have hfz11_0 := blk_frozen BK196.out 0; have hfz11_1 := blk_frozen BK196.out 1; have hfz11_2 := blk_frozen BK196.out 2))
         have n0_ : Aside0 ((((w10.setCell ⟨gb196, 0, none⟩ (.int .i64 ((rd_T130 l0 x11_1).f0))).setCell ⟨gb196, 1, none⟩ (.int .i64 ((rd_T130 l0 x11_1).f1))).setCell ⟨gb196, 2, none⟩ (.int .i64 ((rd_T130 l0 x11_1).f2))).heap[gb196]? = some (.cells #[.int .i64 ((rd_T130 l0 x11_1).f0), .int .i64 ((rd_T130 l0 x11_1).f1), .int .i64 ((rd_T130 l0 x11_1).f2)] 130 (0, 0))) := ⟨by (with_reducible repeat first | refine kN ?_ _ | refine kD ?_ | refine kA ?_ _); refine blk_put (cs := #[.int .i64 ((rd_T130 l0 x11_1).f0), .int .i64 ((rd_T130 l0 x11_1).f1), .int .i64 0]) ?_ 2 _ rfl; (with_reducible repeat first | refine kN ?_ _ | refine kD ?_ | refine kA ?_ _); refine blk_put (cs := #[.int .i64 ((rd_T130 l0 x11_1).f0), .int .i64 0, .int .i64 0]) ?_ 1 _ rfl; (with_reducible repeat first | refine kN ?_ _ | refine kD ?_ | refine kA ?_ _); refine blk_put (cs := #[.int .i64 0, .int .i64 0, .int .i64 0]) ?_ 0 _ rfl; (with_reducible repeat first | refine kN ?_ _ | refine kD ?_ | refine kA ?_ _); exact BK196.out⟩
         have n1_ : Aside0 (Below w.heap.size w (((w10.setCell ⟨gb196, 0, none⟩ (.int .i64 ((rd_T130 l0 x11_1).f0))).setCell ⟨gb196, 1, none⟩ (.int .i64 ((rd_T130 l0 x11_1).f1))).setCell ⟨gb196, 2, none⟩ (.int .i64 ((rd_T130 l0 x11_1).f2)))) := ⟨by repeat (first | (with_reducible first | exact HB.out | apply bA | apply bN | apply bD | refine bS ?_ GE196.out) | exact HB.out)⟩
         (try clear BK196)
         (try clear HB)
         generalize (((w10.setCell ⟨gb196, 0, none⟩ (.int .i64 ((rd_T130 l0 x11_1).f0))).setCell ⟨gb196, 1, none⟩ (.int .i64 ((rd_T130 l0 x11_1).f1))).setCell ⟨gb196, 2, none⟩ (.int .i64 ((rd_T130 l0 x11_1).f2))) = w12 at n0_ n1_ ⊢
         have BK196 := n0_
         have HB := n1_
         clear n0_ n1_
         have n0_ := Aside0.mk (blk_drew BK196.out)
         have n1_ := Aside0.mk (below_drew1 HB.out)
         clear BK196
         clear HB
         have BK196 := n0_
         have HB := n1_
         clear n0_ n1_
         refine start_ (n := 36) (S := fun w' => w'.cell? ⟨gb196, 0, none⟩ = some (.int .i64 ((rd_T130 l0 x11_1).f0)) ∧ w'.cell? ⟨gb196, 1, none⟩ = some (.int .i64 ((rd_T130 l0 x11_1).f1)) ∧ w'.cell? ⟨gb196, 2, none⟩ = some (.int .i64 ((rd_T130 l0 x11_1).f2))) (ds := []) (bR [0, 36]) (by kernel_rfl) rfl rfl ⟨cC BK196 0, cC BK196 1, cC BK196 2⟩ (fun hHeld => ?_); refine with_tabW impl_IsRoute.tab6 impl_IsRoute.bits6 (fun HT_ HW_ => ?_)
         generalize w12.drew = w13 at BK196 HB hHeld ⊢
         refine pP 0 16 (bR [1, 35]) rfl rfl HT_ ?_
         refine take_ (i := 1) (N := some 17) (v := ?_) (a' := ?_) (bR [2, 34]) rfl rfl (take_ofW HT_.out HW_.out (by kernel_rfl)) (fun _ _ _ h => h) (Or.inl ⟨by rfl, ?_⟩) hHeld ?_ ?_
         rotate_left; (rintro w' ⟨s0, s1, s2⟩; go_simp; with_reducible rfl); rotate_left; (simp only [Act.put, sA, sZ, sS, i64_w]; rfl)
         refine one_ (i := 2) (N := some 18) (bR [3, 33]) rfl rfl (one_of HT_.out (by kernel_rfl)) (by decide) (fun K hK => ?_)
         refine goes_ Try.func138 (by kernel_rfl) rfl #[.int .i64 ((rd_T130 l0 x11_1).f0), .int .i64 1, .int .i64 30] (by rfl) rfl rfl (by (try simp only [mA, mC, mN]); first | done | rfl | (simp only [lD, lT]; rfl)) ?_
         with_reducible refine (impl_InRange.calls ((rd_T130 l0 x11_1).f0) 1 30 true _ A7.out).mono ?_
         rintro e w' ⟨rfl, ⟨nd, rfl⟩⟩
         refine ⟨_, rfl, ?_⟩
         refine hK.out _ _ ⟨cC BK196 0, cC BK196 1, cC BK196 2⟩ (fun hHeld => ?_)
         clear hK K
         refine norm_ (a' := ?_) ?_ ?_
         rotate_left
         ·show Act.put _ (some 18) _ = _
          simp only [Act.put, sA, sZ, sS, i64_w]
          rfl
         refine pP 3 19 (bR [4, 32]) rfl rfl HT_ ?_
         refine pP 4 20 (bR [5, 31]) rfl rfl HT_ ?_
         refine pP 5 21 (bR [6, 30]) rfl rfl HT_ ?_
         refine take_ (i := 6) (N := some 22) (v := ?_) (a' := ?_) (bR [7, 29]) rfl rfl (take_ofW HT_.out HW_.out (by kernel_rfl)) (fun _ _ _ h => h) (Or.inl ⟨by rfl, ?_⟩) hHeld ?_ ?_
         rotate_left; (rintro w' ⟨s0, s1, s2⟩; go_simp; with_reducible rfl); rotate_left; (simp only [Act.put, sA, sZ, sS, i64_w]; rfl)
         refine pP 7 23 (bR [8, 28]) rfl rfl HT_ ?_
         refine pP 8 24 (bR [9, 27]) rfl rfl HT_ ?_
         refine pP 9 25 (bR [10, 26]) rfl rfl HT_ ?_
         refine pU 10 26 (bR [11, 25]) rfl rfl HT_ ?_
         refine pU 11 27 (bR [12, 24]) rfl rfl HT_ ?_
         refine pU 12 28 (bR [13, 23]) rfl rfl HT_ ?_
         refine pU 13 29 (bR [14, 22]) rfl rfl HT_ ?_
         refine pU 14 30 (bR [15, 21]) rfl rfl HT_ ?_
         refine pP 15 31 (bR [16, 20]) rfl rfl HT_ ?_
         refine pP 16 32 (bR [17, 19]) rfl rfl HT_ ?_
         refine pU 17 33 (bR [18, 18]) rfl rfl HT_ ?_
         refine pU 18 34 (bR [19, 17]) rfl rfl HT_ ?_
         refine pU 19 35 (bR [20, 16]) rfl rfl HT_ ?_
         refine pP 20 36 (bR [21, 15]) rfl rfl HT_ ?_
         refine pP 21 37 (bR [22, 14]) rfl rfl HT_ ?_
         refine pU 22 38 (bR [23, 13]) rfl rfl HT_ ?_
         refine pU 23 39 (bR [24, 12]) rfl rfl HT_ ?_
         refine pU 24 40 (bR [25, 11]) rfl rfl HT_ ?_
         refine pU 25 41 (bR [26, 10]) rfl rfl HT_ ?_
         refine pU 26 42 (bR [27, 9]) rfl rfl HT_ ?_
         refine pU 27 43 (bR [28, 8]) rfl rfl HT_ ?_
         refine pU 28 44 (bR [29, 7]) rfl rfl HT_ ?_
         refine pU 29 45 (bR [30, 6]) rfl rfl HT_ ?_
         refine pU 30 46 (bR [31, 5]) rfl rfl HT_ ?_
         refine pU 31 47 (bR [32, 4]) rfl rfl HT_ ?_
         refine pU 32 48 (bR [33, 3]) rfl rfl HT_ ?_
         refine pU 33 49 (bR [34, 2]) rfl rfl HT_ ?_
         refine pU 34 50 (bR [35, 1]) rfl rfl HT_ ?_
         refine pP 35 51 (bR [36]) rfl rfl HT_ ?_
         refine done_ (done_of HT_.out (by kernel_rfl)) ?_
         try go_wp2
         go_ret
         exact ⟨by first | rfl | (simp [errW_none, errW_some] <;> rfl) | (simp [*, errW_none, errW_some] <;> rfl), by repeat (first | (with_reducible first | exact HB.out | apply bA | apply bN | apply bD | refine bS ?_ GE196.out) | exact HB.out)⟩
        ·rw [if_neg c9] at H
         have c9b0 : decide (((rd_T130 l0 x11_1).f1) < 0) = false := decide_eq_false c9
         clear c9
         by_cases c14 : ((rd_T130 l0 x11_1).f1) > ((rd_T130 l0 x11_1).f2)
         ·rw [if_pos c14] at H
          have c14b0 : decide (((rd_T130 l0 x11_1).f2) < ((rd_T130 l0 x11_1).f1)) = true := decide_eq_true c14
          clear c14
          obtain rfl := Option.some.inj H
          have p195 : 0 ≤ (x11_1 : Int) := of_decide_eq_true ‹_›
          have q195 : x11_1 < (l0.length : Int) := of_decide_eq_true ‹_›
          obtain ⟨ad195, e195, hx195_0, hx195_1, hx195_2⟩ := at_T130 HR0.out x11_1 p195 q195
          cases e195
          replace hx195_0 := (HB.out.cell (World.block_lt_of_cell? w _ hx195_0)).trans hx195_0
          replace hx195_1 := (HB.out.cell (World.block_lt_of_cell? w _ hx195_1)).trans hx195_1
          replace hx195_2 := (HB.out.cell (World.block_lt_of_cell? w _ hx195_2)).trans hx195_2
          replace p195 := eq_true p195
          replace q195 := eq_true q195
          try go_wp2_with (first | ((with_reducible refine gate_dst (N := 4) rfl ?_); refine box_event ?hg (N := 4) ?hd (cs := #[.int .i64 0, .int .i64 0, .int .i64 0]) (t := 130) ?hr ?_; (case hd => rfl); (case hg => rfl); (case hr => first | (go_simp; done) | (go_simp; rfl)); intro gb196 hg w15 hbox hb; have n0_ := Aside0.mk (below_step (qB HB) hb); have n1_ := Aside0.mk (hbox); have n2_ := Aside0.mk ((by rw [hg]; exact (below_size (qB HB)) : w.heap.size ≤ gb196)); have n3_ := Aside0.mk ((by rw [hg]; exact (below_size (qB HB)) : w.heap.size ≤ gb196)); clear HB; have HB := n0_; have BK196 := n1_; have GW196 := n2_; have GE196 := n3_; clear n0_ n1_ n2_ n3_; clear hb hbox hg; have hcz16_0 : w15.cell? ⟨gb196, 0, none⟩ = some (.int .i64 0) := cC BK196 0; have hcz16_1 : w15.cell? ⟨gb196, 1, none⟩ = some (.int .i64 0) := cC BK196 1; have hcz16_2 : w15.cell? ⟨gb196, 2, none⟩ = some (.int .i64 0) := cC BK196 2; have hfz16_0 := blk_frozen BK196.out 0; have hfz16_1 := blk_frozen BK196.out 1; have hfz16_2 := blk_frozen BK196.out 2))
          have n0_ : Aside0 ((((w15.setCell ⟨gb196, 0, none⟩ (.int .i64 ((rd_T130 l0 x11_1).f0))).setCell ⟨gb196, 1, none⟩ (.int .i64 ((rd_T130 l0 x11_1).f1))).setCell ⟨gb196, 2, none⟩ (.int .i64 ((rd_T130 l0 x11_1).f2))).heap[gb196]? = some (.cells #[.int .i64 ((rd_T130 l0 x11_1).f0), .int .i64 ((rd_T130 l0 x11_1).f1), .int .i64 ((rd_T130 l0 x11_1).f2)] 130 (0, 0))) := ⟨by (with_reducible repeat first | refine kN ?_ _ | refine kD ?_ | refine kA ?_ _); refine blk_put (cs := #[.int .i64 ((rd_T130 l0 x11_1).f0), .int .i64 ((rd_T130 l0 x11_1).f1), .int .i64 0]) ?_ 2 _ rfl; (with_reducible repeat first | refine kN ?_ _ | refine kD ?_ | refine kA ?_ _); refine blk_put (cs := #[.int .i64 ((rd_T130 l0 x11_1).f0), .int .i64 0, .int .i64 0]) ?_ 1 _ rfl; (with_reducible repeat first | refine kN ?_ _ | refine kD ?_ | refine kA ?_ _); refine blk_put (cs := #[.int .i64 0, .int .i64 0, .int .i64 0]) ?_ 0 _ rfl; (with_reducible repeat first | refine kN ?_ _ | refine kD ?_ | refine kA ?_ _); exact BK196.out⟩
          have n1_ : Aside0 (Below w.heap.size w (((w15.setCell ⟨gb196, 0, none⟩ (.int .i64 ((rd_T130 l0 x11_1).f0))).setCell ⟨gb196, 1, none⟩ (.int .i64 ((rd_T130 l0 x11_1).f1))).setCell ⟨gb196, 2, none⟩ (.int .i64 ((rd_T130 l0 x11_1).f2)))) := ⟨by repeat (first | (with_reducible first | exact HB.out | apply bA | apply bN | apply bD | refine bS ?_ GE196.out) | exact HB.out)⟩
          (try clear BK196)
          (try clear HB)
          generalize (((w15.setCell ⟨gb196, 0, none⟩ (.int .i64 ((rd_T130 l0 x11_1).f0))).setCell ⟨gb196, 1, none⟩ (.int .i64 ((rd_T130 l0 x11_1).f1))).setCell ⟨gb196, 2, none⟩ (.int .i64 ((rd_T130 l0 x11_1).f2))) = w17 at n0_ n1_ ⊢
          have BK196 := n0_
          have HB := n1_
          clear n0_ n1_
          have n0_ := Aside0.mk (blk_drew BK196.out)
          have n1_ := Aside0.mk (below_drew1 HB.out)
          clear BK196
          clear HB
          have BK196 := n0_
          have HB := n1_
          clear n0_ n1_
          refine start_ (n := 36) (S := fun w' => w'.cell? ⟨gb196, 0, none⟩ = some (.int .i64 ((rd_T130 l0 x11_1).f0)) ∧ w'.cell? ⟨gb196, 1, none⟩ = some (.int .i64 ((rd_T130 l0 x11_1).f1)) ∧ w'.cell? ⟨gb196, 2, none⟩ = some (.int .i64 ((rd_T130 l0 x11_1).f2))) (ds := []) (bR [0, 36]) (by kernel_rfl) rfl rfl ⟨cC BK196 0, cC BK196 1, cC BK196 2⟩ (fun hHeld => ?_); refine with_tabW impl_IsRoute.tab6 impl_IsRoute.bits6 (fun HT_ HW_ => ?_)
          generalize w17.drew = w18 at BK196 HB hHeld ⊢
          refine pP 0 16 (bR [1, 35]) rfl rfl HT_ ?_
          refine take_ (i := 1) (N := some 17) (v := ?_) (a' := ?_) (bR [2, 34]) rfl rfl (take_ofW HT_.out HW_.out (by kernel_rfl)) (fun _ _ _ h => h) (Or.inl ⟨by rfl, ?_⟩) hHeld ?_ ?_
          rotate_left; (rintro w' ⟨s0, s1, s2⟩; go_simp; with_reducible rfl); rotate_left; (simp only [Act.put, sA, sZ, sS, i64_w]; rfl)
          refine one_ (i := 2) (N := some 18) (bR [3, 33]) rfl rfl (one_of HT_.out (by kernel_rfl)) (by decide) (fun K hK => ?_)
          refine goes_ Try.func138 (by kernel_rfl) rfl #[.int .i64 ((rd_T130 l0 x11_1).f0), .int .i64 1, .int .i64 30] (by rfl) rfl rfl (by (try simp only [mA, mC, mN]); first | done | rfl | (simp only [lD, lT]; rfl)) ?_
          with_reducible refine (impl_InRange.calls ((rd_T130 l0 x11_1).f0) 1 30 true _ A7.out).mono ?_
          rintro e w' ⟨rfl, ⟨nd, rfl⟩⟩
          refine ⟨_, rfl, ?_⟩
          refine hK.out _ _ ⟨cC BK196 0, cC BK196 1, cC BK196 2⟩ (fun hHeld => ?_)
          clear hK K
          refine norm_ (a' := ?_) ?_ ?_
          rotate_left
          ·show Act.put _ (some 18) _ = _
           simp only [Act.put, sA, sZ, sS, i64_w]
           rfl
          refine pP 3 19 (bR [4, 32]) rfl rfl HT_ ?_
          refine pP 4 20 (bR [5, 31]) rfl rfl HT_ ?_
          refine pP 5 21 (bR [6, 30]) rfl rfl HT_ ?_
          refine take_ (i := 6) (N := some 22) (v := ?_) (a' := ?_) (bR [7, 29]) rfl rfl (take_ofW HT_.out HW_.out (by kernel_rfl)) (fun _ _ _ h => h) (Or.inl ⟨by rfl, ?_⟩) hHeld ?_ ?_
          rotate_left; (rintro w' ⟨s0, s1, s2⟩; go_simp; with_reducible rfl); rotate_left; (simp only [Act.put, sA, sZ, sS, i64_w]; rfl)
          refine pP 7 23 (bR [8, 28]) rfl rfl HT_ ?_
          refine pP 8 24 (bR [9, 27]) rfl rfl HT_ ?_
          refine pP 9 25 (bR [10, 26]) rfl rfl HT_ ?_
          refine pP 10 26 (bR [11, 25]) rfl rfl HT_ ?_
          refine pP 12 28 (bR [11, 1, 1, 23]) rfl rfl HT_ ?_
          refine take_ (i := 11) (N := some 27) (v := ?_) (a' := ?_) (bR [13, 23]) rfl rfl (take_ofW HT_.out HW_.out (by kernel_rfl)) (fun _ _ _ h => h) (Or.inl ⟨by rfl, ?_⟩) hHeld ?_ ?_
          rotate_left; (rintro w' ⟨s0, s1, s2⟩; go_simp; with_reducible rfl); rotate_left; (simp only [Act.put, sA, sZ, sS, i64_w]; rfl)
          refine take_ (i := 13) (N := some 29) (v := ?_) (a' := ?_) (bR [14, 22]) rfl rfl (take_ofW HT_.out HW_.out (by kernel_rfl)) (fun _ _ _ h => h) (Or.inl ⟨by rfl, ?_⟩) hHeld ?_ ?_
          rotate_left; (rintro w' ⟨s0, s1, s2⟩; go_simp; with_reducible rfl); rotate_left; (simp only [Act.put, sA, sZ, sS, i64_w]; rfl)
          refine pP 14 30 (bR [15, 21]) rfl rfl HT_ ?_
          refine pP 15 31 (bR [16, 20]) rfl rfl HT_ ?_
          refine pP 16 32 (bR [17, 19]) rfl rfl HT_ ?_
          refine pU 17 33 (bR [18, 18]) rfl rfl HT_ ?_
          refine pU 18 34 (bR [19, 17]) rfl rfl HT_ ?_
          refine pU 19 35 (bR [20, 16]) rfl rfl HT_ ?_
          refine pP 20 36 (bR [21, 15]) rfl rfl HT_ ?_
          refine pP 21 37 (bR [22, 14]) rfl rfl HT_ ?_
          refine pU 22 38 (bR [23, 13]) rfl rfl HT_ ?_
          refine pU 23 39 (bR [24, 12]) rfl rfl HT_ ?_
          refine pU 24 40 (bR [25, 11]) rfl rfl HT_ ?_
          refine pU 25 41 (bR [26, 10]) rfl rfl HT_ ?_
          refine pU 26 42 (bR [27, 9]) rfl rfl HT_ ?_
          refine pU 27 43 (bR [28, 8]) rfl rfl HT_ ?_
          refine pU 28 44 (bR [29, 7]) rfl rfl HT_ ?_
          refine pU 29 45 (bR [30, 6]) rfl rfl HT_ ?_
          refine pU 30 46 (bR [31, 5]) rfl rfl HT_ ?_
          refine pU 31 47 (bR [32, 4]) rfl rfl HT_ ?_
          refine pU 32 48 (bR [33, 3]) rfl rfl HT_ ?_
          refine pU 33 49 (bR [34, 2]) rfl rfl HT_ ?_
          refine pU 34 50 (bR [35, 1]) rfl rfl HT_ ?_
          refine pP 35 51 (bR [36]) rfl rfl HT_ ?_
          refine done_ (done_of HT_.out (by kernel_rfl)) ?_
          try go_wp2
          go_ret
          exact ⟨by first | rfl | (simp [errW_none, errW_some] <;> rfl) | (simp [*, errW_none, errW_some] <;> rfl), by repeat (first | (with_reducible first | exact HB.out | apply bA | apply bN | apply bD | refine bS ?_ GE196.out) | exact HB.out)⟩
         ·rw [if_neg c14] at H
          have c14b0 : decide (((rd_T130 l0 x11_1).f2) < ((rd_T130 l0 x11_1).f1)) = false := decide_eq_false c14
          clear c14
          by_cases c19 : ((rd_T130 l0 x11_1).f2) > 100000
          ·rw [if_pos c19] at H
           have c19b0 : decide (100000 < ((rd_T130 l0 x11_1).f2)) = true := decide_eq_true c19
           clear c19
           obtain rfl := Option.some.inj H
           have p195 : 0 ≤ (x11_1 : Int) := of_decide_eq_true ‹_›
           have q195 : x11_1 < (l0.length : Int) := of_decide_eq_true ‹_›
           obtain ⟨ad195, e195, hx195_0, hx195_1, hx195_2⟩ := at_T130 HR0.out x11_1 p195 q195
           cases e195
           replace hx195_0 := (HB.out.cell (World.block_lt_of_cell? w _ hx195_0)).trans hx195_0
           replace hx195_1 := (HB.out.cell (World.block_lt_of_cell? w _ hx195_1)).trans hx195_1
           replace hx195_2 := (HB.out.cell (World.block_lt_of_cell? w _ hx195_2)).trans hx195_2
           replace p195 := eq_true p195
           replace q195 := eq_true q195
           try go_wp2_with (first | ((with_reducible refine gate_dst (N := 4) rfl ?_); refine box_event ?hg (N := 4) ?hd (cs := #[.int .i64 0, .int .i64 0, .int .i64 0]) (t := 130) ?hr ?_; (case hd => rfl); (case hg => rfl); (case hr => first | (go_simp; done) | (go_simp; rfl)); intro gb196 hg w20 hbox hb; have n0_ := Aside0.mk (below_step (qB HB) hb); have n1_ := Aside0.mk (hbox); have n2_ := Aside0.mk ((by rw [hg]; exact (below_size (qB HB)) : w.heap.size ≤ gb196)); have n3_ := Aside0.mk ((by rw [hg]; exact (below_size (qB HB)) : w.heap.size ≤ gb196)); clear HB; have HB := n0_; have BK196 := n1_; have GW196 := n2_; have GE196 := n3_; clear n0_ n1_ n2_ n3_; clear hb hbox hg; have hcz21_0 : w20.cell? ⟨gb196, 0, none⟩ = some (.int .i64 0) := cC BK196 0; have hcz21_1 : w20.cell? ⟨gb196, 1, none⟩ = some (.int .i64 0) := cC BK196 1; have hcz21_2 : w20.cell? ⟨gb196, 2, none⟩ = some (.int .i64 0) := cC BK196 2; have hfz21_0 := blk_frozen BK196.out 0; have hfz21_1 := blk_frozen BK196.out 1; have hfz21_2 := blk_frozen BK196.out 2))
           have n0_ : Aside0 ((((w20.setCell ⟨gb196, 0, none⟩ (.int .i64 ((rd_T130 l0 x11_1).f0))).setCell ⟨gb196, 1, none⟩ (.int .i64 ((rd_T130 l0 x11_1).f1))).setCell ⟨gb196, 2, none⟩ (.int .i64 ((rd_T130 l0 x11_1).f2))).heap[gb196]? = some (.cells #[.int .i64 ((rd_T130 l0 x11_1).f0), .int .i64 ((rd_T130 l0 x11_1).f1), .int .i64 ((rd_T130 l0 x11_1).f2)] 130 (0, 0))) := ⟨by (with_reducible repeat first | refine kN ?_ _ | refine kD ?_ | refine kA ?_ _); refine blk_put (cs := #[.int .i64 ((rd_T130 l0 x11_1).f0), .int .i64 ((rd_T130 l0 x11_1).f1), .int .i64 0]) ?_ 2 _ rfl; (with_reducible repeat first | refine kN ?_ _ | refine kD ?_ | refine kA ?_ _); refine blk_put (cs := #[.int .i64 ((rd_T130 l0 x11_1).f0), .int .i64 0, .int .i64 0]) ?_ 1 _ rfl; (with_reducible repeat first | refine kN ?_ _ | refine kD ?_ | refine kA ?_ _); refine blk_put (cs := #[.int .i64 0, .int .i64 0, .int .i64 0]) ?_ 0 _ rfl; (with_reducible repeat first | refine kN ?_ _ | refine kD ?_ | refine kA ?_ _); exact BK196.out⟩
           have n1_ : Aside0 (Below w.heap.size w (((w20.setCell ⟨gb196, 0, none⟩ (.int .i64 ((rd_T130 l0 x11_1).f0))).setCell ⟨gb196, 1, none⟩ (.int .i64 ((rd_T130 l0 x11_1).f1))).setCell ⟨gb196, 2, none⟩ (.int .i64 ((rd_T130 l0 x11_1).f2)))) := ⟨by repeat (first | (with_reducible first | exact HB.out | apply bA | apply bN | apply bD | refine bS ?_ GE196.out) | exact HB.out)⟩
           (try clear BK196)
           (try clear HB)
           generalize (((w20.setCell ⟨gb196, 0, none⟩ (.int .i64 ((rd_T130 l0 x11_1).f0))).setCell ⟨gb196, 1, none⟩ (.int .i64 ((rd_T130 l0 x11_1).f1))).setCell ⟨gb196, 2, none⟩ (.int .i64 ((rd_T130 l0 x11_1).f2))) = w22 at n0_ n1_ ⊢
           have BK196 := n0_
           have HB := n1_
           clear n0_ n1_
           have n0_ := Aside0.mk (blk_drew BK196.out)
           have n1_ := Aside0.mk (below_drew1 HB.out)
           clear BK196
           clear HB
           have BK196 := n0_
           have HB := n1_
           clear n0_ n1_
           refine start_ (n := 36) (S := fun w' => w'.cell? ⟨gb196, 0, none⟩ = some (.int .i64 ((rd_T130 l0 x11_1).f0)) ∧ w'.cell? ⟨gb196, 1, none⟩ = some (.int .i64 ((rd_T130 l0 x11_1).f1)) ∧ w'.cell? ⟨gb196, 2, none⟩ = some (.int .i64 ((rd_T130 l0 x11_1).f2))) (ds := []) (bR [0, 36]) (by kernel_rfl) rfl rfl ⟨cC BK196 0, cC BK196 1, cC BK196 2⟩ (fun hHeld => ?_); refine with_tabW impl_IsRoute.tab6 impl_IsRoute.bits6 (fun HT_ HW_ => ?_)
           generalize w22.drew = w23 at BK196 HB hHeld ⊢
           refine pP 0 16 (bR [1, 35]) rfl rfl HT_ ?_
           refine take_ (i := 1) (N := some 17) (v := ?_) (a' := ?_) (bR [2, 34]) rfl rfl (take_ofW HT_.out HW_.out (by kernel_rfl)) (fun _ _ _ h => h) (Or.inl ⟨by rfl, ?_⟩) hHeld ?_ ?_
           rotate_left; (rintro w' ⟨s0, s1, s2⟩; go_simp; with_reducible rfl); rotate_left; (simp only [Act.put, sA, sZ, sS, i64_w]; rfl)
           refine one_ (i := 2) (N := some 18) (bR [3, 33]) rfl rfl (one_of HT_.out (by kernel_rfl)) (by decide) (fun K hK => ?_)
           refine goes_ Try.func138 (by kernel_rfl) rfl #[.int .i64 ((rd_T130 l0 x11_1).f0), .int .i64 1, .int .i64 30] (by rfl) rfl rfl (by (try simp only [mA, mC, mN]); first | done | rfl | (simp only [lD, lT]; rfl)) ?_
           with_reducible refine (impl_InRange.calls ((rd_T130 l0 x11_1).f0) 1 30 true _ A7.out).mono ?_
           rintro e w' ⟨rfl, ⟨nd, rfl⟩⟩
           refine ⟨_, rfl, ?_⟩
           refine hK.out _ _ ⟨cC BK196 0, cC BK196 1, cC BK196 2⟩ (fun hHeld => ?_)
           clear hK K
           refine norm_ (a' := ?_) ?_ ?_
           rotate_left
           ·show Act.put _ (some 18) _ = _
            simp only [Act.put, sA, sZ, sS, i64_w]
            rfl
           refine pP 3 19 (bR [4, 32]) rfl rfl HT_ ?_
           refine pP 4 20 (bR [5, 31]) rfl rfl HT_ ?_
           refine pP 5 21 (bR [6, 30]) rfl rfl HT_ ?_
           refine take_ (i := 6) (N := some 22) (v := ?_) (a' := ?_) (bR [7, 29]) rfl rfl (take_ofW HT_.out HW_.out (by kernel_rfl)) (fun _ _ _ h => h) (Or.inl ⟨by rfl, ?_⟩) hHeld ?_ ?_
           rotate_left; (rintro w' ⟨s0, s1, s2⟩; go_simp; with_reducible rfl); rotate_left; (simp only [Act.put, sA, sZ, sS, i64_w]; rfl)
           refine pP 7 23 (bR [8, 28]) rfl rfl HT_ ?_
           refine pP 8 24 (bR [9, 27]) rfl rfl HT_ ?_
           refine pP 9 25 (bR [10, 26]) rfl rfl HT_ ?_
           refine pP 10 26 (bR [11, 25]) rfl rfl HT_ ?_
           refine pP 12 28 (bR [11, 1, 1, 23]) rfl rfl HT_ ?_
           refine take_ (i := 11) (N := some 27) (v := ?_) (a' := ?_) (bR [13, 23]) rfl rfl (take_ofW HT_.out HW_.out (by kernel_rfl)) (fun _ _ _ h => h) (Or.inl ⟨by rfl, ?_⟩) hHeld ?_ ?_
           rotate_left; (rintro w' ⟨s0, s1, s2⟩; go_simp; with_reducible rfl); rotate_left; (simp only [Act.put, sA, sZ, sS, i64_w]; rfl)
           refine take_ (i := 13) (N := some 29) (v := ?_) (a' := ?_) (bR [14, 22]) rfl rfl (take_ofW HT_.out HW_.out (by kernel_rfl)) (fun _ _ _ h => h) (Or.inl ⟨by rfl, ?_⟩) hHeld ?_ ?_
           rotate_left; (rintro w' ⟨s0, s1, s2⟩; go_simp; with_reducible rfl); rotate_left; (simp only [Act.put, sA, sZ, sS, i64_w]; rfl)
           refine pP 14 30 (bR [15, 21]) rfl rfl HT_ ?_
           refine pP 15 31 (bR [16, 20]) rfl rfl HT_ ?_
           refine pP 16 32 (bR [17, 19]) rfl rfl HT_ ?_
           refine pP 17 33 (bR [18, 18]) rfl rfl HT_ ?_
           refine take_ (i := 18) (N := some 34) (v := ?_) (a' := ?_) (bR [19, 17]) rfl rfl (take_ofW HT_.out HW_.out (by kernel_rfl)) (fun _ _ _ h => h) (Or.inl ⟨by rfl, ?_⟩) hHeld ?_ ?_
           rotate_left; (rintro w' ⟨s0, s1, s2⟩; go_simp; with_reducible rfl); rotate_left; (simp only [Act.put, sA, sZ, sS, i64_w]; rfl)
           refine pP 19 35 (bR [20, 16]) rfl rfl HT_ ?_
           refine pP 20 36 (bR [21, 15]) rfl rfl HT_ ?_
           refine pP 21 37 (bR [22, 14]) rfl rfl HT_ ?_
           refine pU 22 38 (bR [23, 13]) rfl rfl HT_ ?_
           refine pU 23 39 (bR [24, 12]) rfl rfl HT_ ?_
           refine pU 24 40 (bR [25, 11]) rfl rfl HT_ ?_
           refine pU 25 41 (bR [26, 10]) rfl rfl HT_ ?_
           refine pU 26 42 (bR [27, 9]) rfl rfl HT_ ?_
           refine pU 27 43 (bR [28, 8]) rfl rfl HT_ ?_
           refine pU 28 44 (bR [29, 7]) rfl rfl HT_ ?_
           refine pU 29 45 (bR [30, 6]) rfl rfl HT_ ?_
           refine pU 30 46 (bR [31, 5]) rfl rfl HT_ ?_
           refine pU 31 47 (bR [32, 4]) rfl rfl HT_ ?_
           refine pU 32 48 (bR [33, 3]) rfl rfl HT_ ?_
           refine pU 33 49 (bR [34, 2]) rfl rfl HT_ ?_
           refine pU 34 50 (bR [35, 1]) rfl rfl HT_ ?_
           refine pP 35 51 (bR [36]) rfl rfl HT_ ?_
           refine done_ (done_of HT_.out (by kernel_rfl)) ?_
           try go_wp2
           go_ret
           exact ⟨by first | rfl | (simp [errW_none, errW_some] <;> rfl) | (simp [*, errW_none, errW_some] <;> rfl), by repeat (first | (with_reducible first | exact HB.out | apply bA | apply bN | apply bD | refine bS ?_ GE196.out) | exact HB.out)⟩
          ·rw [if_neg c19] at H
           have c19b0 : decide (100000 < ((rd_T130 l0 x11_1).f2)) = false := decide_eq_false c19
           clear c19
           by_cases c24 : x11_1 > 0
           ·rw [if_pos c24] at H
            have c24b0 : decide (0 < x11_1) = true := decide_eq_true c24
            clear c24
            obtain ⟨ji25, hji25⟩ : ∃ j_ : Int, (wrap64 (x11_1 - 1)) = j_ := ⟨_, rfl⟩
            replace H : (if 0 ≤ (ji25) then (if (ji25) < (l0.length : Int) then (if ((rd_T130 l0 x11_1).f1) < ((rd_T130 l0 (ji25)).f2) then (some false) else (impl_IsRoute.l0 k1 l0 l0 (l0.length : Int) (wrap64 (x11_1 + 1)))) else (none)) else (none)) = some r := by first | (rw [hji25] at H; exact H) | (simp only [hji25] at H ⊢; exact H)
            (try rw [hji25] at A7)
            have hji25w : (IntKind.i64.wrap (x11_1 - 1)) = ji25 := (i64_w _).trans hji25
            by_cases c26 : 0 ≤ (ji25)
            ·rw [if_pos c26] at H
             have c26b0 : decide (0 ≤ (ji25)) = true := decide_eq_true c26
             clear c26
             by_cases c27 : (ji25) < (l0.length : Int)
             ·rw [if_pos c27] at H
              have c27b0 : decide ((ji25) < (l0.length : Int)) = true := decide_eq_true c27
              clear c27
              by_cases c28 : ((rd_T130 l0 x11_1).f1) < ((rd_T130 l0 (ji25)).f2)
              ·rw [if_pos c28] at H
               have c28b0 : decide (((rd_T130 l0 x11_1).f1) < ((rd_T130 l0 (ji25)).f2)) = true := decide_eq_true c28
               clear c28
               obtain rfl := Option.some.inj H
               have p195 : 0 ≤ (x11_1 : Int) := of_decide_eq_true ‹_›
               have q195 : x11_1 < (l0.length : Int) := of_decide_eq_true ‹_›
               obtain ⟨ad195, e195, hx195_0, hx195_1, hx195_2⟩ := at_T130 HR0.out x11_1 p195 q195
               cases e195
               replace hx195_0 := (HB.out.cell (World.block_lt_of_cell? w _ hx195_0)).trans hx195_0
               replace hx195_1 := (HB.out.cell (World.block_lt_of_cell? w _ hx195_1)).trans hx195_1
               replace hx195_2 := (HB.out.cell (World.block_lt_of_cell? w _ hx195_2)).trans hx195_2
               replace p195 := eq_true p195
               replace q195 := eq_true q195
               try go_wp2_with (first | ((with_reducible refine gate_dst (N := 4) rfl ?_); refine box_event ?hg (N := 4) ?hd (cs := #[.int .i64 0, .int .i64 0, .int .i64 0]) (t := 130) ?hr ?_; (case hd => rfl); (case hg => rfl); (case hr => first | (go_simp; done) | (go_simp; rfl)); intro gb196 hg w29 hbox hb; have n0_ := Aside0.mk (below_step (qB HB) hb); have n1_ := Aside0.mk (hbox); have n2_ := Aside0.mk ((by rw [hg]; exact (below_size (qB HB)) : w.heap.size ≤ gb196)); have n3_ := Aside0.mk ((by rw [hg]; exact (below_size (qB HB)) : w.heap.size ≤ gb196)); clear HB; have HB := n0_; have BK196 := n1_; have GW196 := n2_; have GE196 := n3_; clear n0_ n1_ n2_ n3_; clear hb hbox hg; have hcz30_0 : w29.cell? ⟨gb196, 0, none⟩ = some (.int .i64 0) := cC BK196 0; have hcz30_1 : w29.cell? ⟨gb196, 1, none⟩ = some (.int .i64 0) := cC BK196 1; have hcz30_2 : w29.cell? ⟨gb196, 2, none⟩ = some (.int .i64 0) := cC BK196 2; have hfz30_0 := blk_frozen BK196.out 0; have hfz30_1 := blk_frozen BK196.out 1; have hfz30_2 := blk_frozen BK196.out 2))
               have n0_ : Aside0 ((((w29.setCell ⟨gb196, 0, none⟩ (.int .i64 ((rd_T130 l0 x11_1).f0))).setCell ⟨gb196, 1, none⟩ (.int .i64 ((rd_T130 l0 x11_1).f1))).setCell ⟨gb196, 2, none⟩ (.int .i64 ((rd_T130 l0 x11_1).f2))).heap[gb196]? = some (.cells #[.int .i64 ((rd_T130 l0 x11_1).f0), .int .i64 ((rd_T130 l0 x11_1).f1), .int .i64 ((rd_T130 l0 x11_1).f2)] 130 (0, 0))) := ⟨by (with_reducible repeat first | refine kN ?_ _ | refine kD ?_ | refine kA ?_ _); refine blk_put (cs := #[.int .i64 ((rd_T130 l0 x11_1).f0), .int .i64 ((rd_T130 l0 x11_1).f1), .int .i64 0]) ?_ 2 _ rfl; (with_reducible repeat first | refine kN ?_ _ | refine kD ?_ | refine kA ?_ _); refine blk_put (cs := #[.int .i64 ((rd_T130 l0 x11_1).f0), .int .i64 0, .int .i64 0]) ?_ 1 _ rfl; (with_reducible repeat first | refine kN ?_ _ | refine kD ?_ | refine kA ?_ _); refine blk_put (cs := #[.int .i64 0, .int .i64 0, .int .i64 0]) ?_ 0 _ rfl; (with_reducible repeat first | refine kN ?_ _ | refine kD ?_ | refine kA ?_ _); exact BK196.out⟩
               have n1_ : Aside0 (Below w.heap.size w (((w29.setCell ⟨gb196, 0, none⟩ (.int .i64 ((rd_T130 l0 x11_1).f0))).setCell ⟨gb196, 1, none⟩ (.int .i64 ((rd_T130 l0 x11_1).f1))).setCell ⟨gb196, 2, none⟩ (.int .i64 ((rd_T130 l0 x11_1).f2)))) := ⟨by repeat (first | (with_reducible first | exact HB.out | apply bA | apply bN | apply bD | refine bS ?_ GE196.out) | exact HB.out)⟩
               (try clear BK196)
               (try clear HB)
               generalize (((w29.setCell ⟨gb196, 0, none⟩ (.int .i64 ((rd_T130 l0 x11_1).f0))).setCell ⟨gb196, 1, none⟩ (.int .i64 ((rd_T130 l0 x11_1).f1))).setCell ⟨gb196, 2, none⟩ (.int .i64 ((rd_T130 l0 x11_1).f2))) = w31 at n0_ n1_ ⊢
               have BK196 := n0_
               have HB := n1_
               clear n0_ n1_
               have n0_ := Aside0.mk (blk_drew BK196.out)
               have n1_ := Aside0.mk (below_drew1 HB.out)
               clear BK196
               clear HB
               have BK196 := n0_
               have HB := n1_
               clear n0_ n1_
               have p198 : 0 ≤ ((ji25) : Int) := of_decide_eq_true ‹_›
               have q198 : (ji25) < (l0.length : Int) := of_decide_eq_true ‹_›
               obtain ⟨ad198, e198, hx198_0, hx198_1, hx198_2⟩ := at_T130 HR0.out (ji25) p198 q198
               have hw198_2 := hx198_2
               have hw198_1 := hx198_1
               have hw198_0 := hx198_0
               obtain rfl : ad195 = ad198 := (by injection e198)
               replace hx198_0 := (HB.out.cell (World.block_lt_of_cell? w _ hx198_0)).trans hx198_0
               replace hx198_1 := (HB.out.cell (World.block_lt_of_cell? w _ hx198_1)).trans hx198_1
               replace hx198_2 := (HB.out.cell (World.block_lt_of_cell? w _ hx198_2)).trans hx198_2
               replace p198 := eq_true p198
               replace q198 := eq_true q198
               refine start_ (n := 36) (S := fun w' => w'.cell? ⟨gb196, 0, none⟩ = some (.int .i64 ((rd_T130 l0 x11_1).f0)) ∧ w'.cell? ⟨gb196, 1, none⟩ = some (.int .i64 ((rd_T130 l0 x11_1).f1)) ∧ w'.cell? ⟨gb196, 2, none⟩ = some (.int .i64 ((rd_T130 l0 x11_1).f2)) ∧ w'.cell? (ad195.add (((ji25)).toNat * 3)) = some (.int .i64 ((rd_T130 l0 (ji25)).f0)) ∧ w'.cell? ⟨(ad195.add (((ji25)).toNat * 3)).block, (ad195.add (((ji25)).toNat * 3)).off + 1, none⟩ = some (.int .i64 ((rd_T130 l0 (ji25)).f1)) ∧ w'.cell? ⟨(ad195.add (((ji25)).toNat * 3)).block, (ad195.add (((ji25)).toNat * 3)).off + 2, none⟩ = some (.int .i64 ((rd_T130 l0 (ji25)).f2))) (ds := []) (bR [0, 36]) (by kernel_rfl) rfl rfl ⟨cC BK196 0, cC BK196 1, cC BK196 2, ((HB.out.cell (World.block_lt_of_cell? w _ hw198_0)).trans hw198_0), ((HB.out.cell (World.block_lt_of_cell? w _ hw198_1)).trans hw198_1), ((HB.out.cell (World.block_lt_of_cell? w _ hw198_2)).trans hw198_2)⟩ (fun hHeld => ?_); refine with_tabW impl_IsRoute.tab6 impl_IsRoute.bits6 (fun HT_ HW_ => ?_)
               generalize w31.drew = w32 at BK196 HB hx198_0 hx198_1 hx198_2 hHeld ⊢
               refine pP 0 16 (bR [1, 35]) rfl rfl HT_ ?_
               refine take_ (i := 1) (N := some 17) (v := ?_) (a' := ?_) (bR [2, 34]) rfl rfl (take_ofW HT_.out HW_.out (by kernel_rfl)) (fun _ _ _ h => h) (Or.inl ⟨by rfl, ?_⟩) hHeld ?_ ?_
               rotate_left; (rintro w' ⟨s0, s1, s2, s3, s4, s5⟩; go_simp; with_reducible rfl); rotate_left; (simp only [Act.put, sA, sZ, sS, i64_w]; rfl)
               refine one_ (i := 2) (N := some 18) (bR [3, 33]) rfl rfl (one_of HT_.out (by kernel_rfl)) (by decide) (fun K hK => ?_)
               refine goes_ Try.func138 (by kernel_rfl) rfl #[.int .i64 ((rd_T130 l0 x11_1).f0), .int .i64 1, .int .i64 30] (by rfl) rfl rfl (by (try simp only [mA, mC, mN]); first | done | rfl | (simp only [lD, lT]; rfl)) ?_
               with_reducible refine (impl_InRange.calls ((rd_T130 l0 x11_1).f0) 1 30 true _ A7.out).mono ?_
               rintro e w' ⟨rfl, ⟨nd, rfl⟩⟩
               refine ⟨_, rfl, ?_⟩
               refine hK.out _ _ ⟨cC BK196 0, cC BK196 1, cC BK196 2, ((HB.out.cell (World.block_lt_of_cell? w _ hw198_0)).trans hw198_0), ((HB.out.cell (World.block_lt_of_cell? w _ hw198_1)).trans hw198_1), ((HB.out.cell (World.block_lt_of_cell? w _ hw198_2)).trans hw198_2)⟩ (fun hHeld => ?_)
               clear hK K
               refine norm_ (a' := ?_) ?_ ?_
               rotate_left
               ·show Act.put _ (some 18) _ = _
                simp only [Act.put, sA, sZ, sS, i64_w]
                rfl
               refine pP 3 19 (bR [4, 32]) rfl rfl HT_ ?_
               refine pP 4 20 (bR [5, 31]) rfl rfl HT_ ?_
               refine pP 5 21 (bR [6, 30]) rfl rfl HT_ ?_
               refine take_ (i := 6) (N := some 22) (v := ?_) (a' := ?_) (bR [7, 29]) rfl rfl (take_ofW HT_.out HW_.out (by kernel_rfl)) (fun _ _ _ h => h) (Or.inl ⟨by rfl, ?_⟩) hHeld ?_ ?_
               rotate_left; (rintro w' ⟨s0, s1, s2, s3, s4, s5⟩; go_simp; with_reducible rfl); rotate_left; (simp only [Act.put, sA, sZ, sS, i64_w]; rfl)
               refine pP 7 23 (bR [8, 28]) rfl rfl HT_ ?_
               refine pP 8 24 (bR [9, 27]) rfl rfl HT_ ?_
               refine pP 9 25 (bR [10, 26]) rfl rfl HT_ ?_
               refine pP 10 26 (bR [11, 25]) rfl rfl HT_ ?_
               refine pP 12 28 (bR [11, 1, 1, 23]) rfl rfl HT_ ?_
               refine take_ (i := 11) (N := some 27) (v := ?_) (a' := ?_) (bR [13, 23]) rfl rfl (take_ofW HT_.out HW_.out (by kernel_rfl)) (fun _ _ _ h => h) (Or.inl ⟨by rfl, ?_⟩) hHeld ?_ ?_
               rotate_left; (rintro w' ⟨s0, s1, s2, s3, s4, s5⟩; go_simp; with_reducible rfl); rotate_left; (simp only [Act.put, sA, sZ, sS, i64_w]; rfl)
               refine take_ (i := 13) (N := some 29) (v := ?_) (a' := ?_) (bR [14, 22]) rfl rfl (take_ofW HT_.out HW_.out (by kernel_rfl)) (fun _ _ _ h => h) (Or.inl ⟨by rfl, ?_⟩) hHeld ?_ ?_
               rotate_left; (rintro w' ⟨s0, s1, s2, s3, s4, s5⟩; go_simp; with_reducible rfl); rotate_left; (simp only [Act.put, sA, sZ, sS, i64_w]; rfl)
               refine pP 14 30 (bR [15, 21]) rfl rfl HT_ ?_
               refine pP 15 31 (bR [16, 20]) rfl rfl HT_ ?_
               refine pP 16 32 (bR [17, 19]) rfl rfl HT_ ?_
               refine pP 17 33 (bR [18, 18]) rfl rfl HT_ ?_
               refine take_ (i := 18) (N := some 34) (v := ?_) (a' := ?_) (bR [19, 17]) rfl rfl (take_ofW HT_.out HW_.out (by kernel_rfl)) (fun _ _ _ h => h) (Or.inl ⟨by rfl, ?_⟩) hHeld ?_ ?_
               rotate_left; (rintro w' ⟨s0, s1, s2, s3, s4, s5⟩; go_simp; with_reducible rfl); rotate_left; (simp only [Act.put, sA, sZ, sS, i64_w]; rfl)
               refine pP 19 35 (bR [20, 16]) rfl rfl HT_ ?_
               refine pP 20 36 (bR [21, 15]) rfl rfl HT_ ?_
               refine pP 21 37 (bR [22, 14]) rfl rfl HT_ ?_
               refine pP 22 38 (bR [23, 13]) rfl rfl HT_ ?_
               refine pP 23 39 (bR [24, 12]) rfl rfl HT_ ?_
               refine pP 24 40 (bR [25, 11]) rfl rfl HT_ ?_
               refine pP 25 41 (bR [26, 10]) rfl rfl HT_ ?_
               refine pP 27 43 (bR [26, 1, 1, 8]) rfl rfl HT_ ?_
               refine pP 28 44 (bR [26, 1, 2, 7]) rfl rfl HT_ ?_
               refine pP 29 45 (bR [26, 1, 3, 6]) rfl rfl HT_ ?_
               refine pP 30 46 (bR [26, 1, 4, 5]) rfl rfl HT_ ?_
               refine pP 31 47 (bR [26, 1, 5, 4]) rfl rfl HT_ ?_
               refine take_ (i := 26) (N := some 42) (v := ?_) (a' := ?_) (bR [32, 4]) rfl rfl (take_ofW HT_.out HW_.out (by kernel_rfl)) (fun _ _ _ h => h) (Or.inl ⟨by rfl, ?_⟩) hHeld ?_ ?_
               rotate_left; (rintro w' ⟨s0, s1, s2, s3, s4, s5⟩; go_simp; with_reducible rfl); rotate_left; (simp only [Act.put, sA, sZ, sS, i64_w]; rfl)
               refine take_ (i := 32) (N := some 48) (v := ?_) (a' := ?_) (bR [33, 3]) rfl rfl (take_ofW HT_.out HW_.out (by kernel_rfl)) (fun _ _ _ h => h) (Or.inl ⟨by rfl, ?_⟩) hHeld ?_ ?_
               rotate_left; (rintro w' ⟨s0, s1, s2, s3, s4, s5⟩; go_simp; with_reducible rfl); rotate_left; (simp only [Act.put, sA, sZ, sS, i64_w]; rfl)
               refine pP 33 49 (bR [34, 2]) rfl rfl HT_ ?_
               refine pP 34 50 (bR [35, 1]) rfl rfl HT_ ?_
               refine pP 35 51 (bR [36]) rfl rfl HT_ ?_
               refine done_ (done_of HT_.out (by kernel_rfl)) ?_
               try go_wp2
               go_ret
               exact ⟨by first | rfl | (simp [errW_none, errW_some] <;> rfl) | (simp only [← hji25]; first | rfl | (simp [errW_none, errW_some] <;> rfl)) | (simp [*, errW_none, errW_some] <;> rfl), by repeat (first | (with_reducible first | exact HB.out | apply bA | apply bN | apply bD | refine bS ?_ GE196.out) | exact HB.out)⟩
              ·rw [if_neg c28] at H
               have c28b0 : decide (((rd_T130 l0 x11_1).f1) < ((rd_T130 l0 (ji25)).f2)) = false := decide_eq_false c28
               clear c28
               have H' := Aside0.mk H
               clear H
               have p195 : 0 ≤ (x11_1 : Int) := of_decide_eq_true ‹_›
               have q195 : x11_1 < (l0.length : Int) := of_decide_eq_true ‹_›
               obtain ⟨ad195, e195, hx195_0, hx195_1, hx195_2⟩ := at_T130 HR0.out x11_1 p195 q195
               cases e195
               replace hx195_0 := (HB.out.cell (World.block_lt_of_cell? w _ hx195_0)).trans hx195_0
               replace hx195_1 := (HB.out.cell (World.block_lt_of_cell? w _ hx195_1)).trans hx195_1
               replace hx195_2 := (HB.out.cell (World.block_lt_of_cell? w _ hx195_2)).trans hx195_2
               replace p195 := eq_true p195
               replace q195 := eq_true q195
               try go_wp2_with (first | ((with_reducible refine gate_dst (N := 4) rfl ?_); refine box_event ?hg (N := 4) ?hd (cs := #[.int .i64 0, .int .i64 0, .int .i64 0]) (t := 130) ?hr ?_; (case hd => rfl); (case hg => rfl); (case hr => first | (go_simp; done) | (go_simp; rfl)); intro gb196 hg w33 hbox hb; have n0_ := Aside0.mk (below_step (qB HB) hb); have n1_ := Aside0.mk (hbox); have n2_ := Aside0.mk ((by rw [hg]; exact (below_size (qB HB)) : w.heap.size ≤ gb196)); have n3_ := Aside0.mk ((by rw [hg]; exact (below_size (qB HB)) : w.heap.size ≤ gb196)); clear HB; have HB := n0_; have BK196 := n1_; have GW196 := n2_; have GE196 := n3_; clear n0_ n1_ n2_ n3_; clear hb hbox hg; have hcz34_0 : w33.cell? ⟨gb196, 0, none⟩ = some (.int .i64 0) := cC BK196 0; have hcz34_1 : w33.cell? ⟨gb196, 1, none⟩ = some (.int .i64 0) := cC BK196 1; have hcz34_2 : w33.cell? ⟨gb196, 2, none⟩ = some (.int .i64 0) := cC BK196 2; have hfz34_0 := blk_frozen BK196.out 0; have hfz34_1 := blk_frozen BK196.out 1; have hfz34_2 := blk_frozen BK196.out 2))
               have n0_ : Aside0 ((((w33.setCell ⟨gb196, 0, none⟩ (.int .i64 ((rd_T130 l0 x11_1).f0))).setCell ⟨gb196, 1, none⟩ (.int .i64 ((rd_T130 l0 x11_1).f1))).setCell ⟨gb196, 2, none⟩ (.int .i64 ((rd_T130 l0 x11_1).f2))).heap[gb196]? = some (.cells #[.int .i64 ((rd_T130 l0 x11_1).f0), .int .i64 ((rd_T130 l0 x11_1).f1), .int .i64 ((rd_T130 l0 x11_1).f2)] 130 (0, 0))) := ⟨by (with_reducible repeat first | refine kN ?_ _ | refine kD ?_ | refine kA ?_ _); refine blk_put (cs := #[.int .i64 ((rd_T130 l0 x11_1).f0), .int .i64 ((rd_T130 l0 x11_1).f1), .int .i64 0]) ?_ 2 _ rfl; (with_reducible repeat first | refine kN ?_ _ | refine kD ?_ | refine kA ?_ _); refine blk_put (cs := #[.int .i64 ((rd_T130 l0 x11_1).f0), .int .i64 0, .int .i64 0]) ?_ 1 _ rfl; (with_reducible repeat first | refine kN ?_ _ | refine kD ?_ | refine kA ?_ _); refine blk_put (cs := #[.int .i64 0, .int .i64 0, .int .i64 0]) ?_ 0 _ rfl; (with_reducible repeat first | refine kN ?_ _ | refine kD ?_ | refine kA ?_ _); exact BK196.out⟩
               have n1_ : Aside0 (Below w.heap.size w (((w33.setCell ⟨gb196, 0, none⟩ (.int .i64 ((rd_T130 l0 x11_1).f0))).setCell ⟨gb196, 1, none⟩ (.int .i64 ((rd_T130 l0 x11_1).f1))).setCell ⟨gb196, 2, none⟩ (.int .i64 ((rd_T130 l0 x11_1).f2)))) := ⟨by repeat (first | (with_reducible first | exact HB.out | apply bA | apply bN | apply bD | refine bS ?_ GE196.out) | exact HB.out)⟩
               (try clear BK196)
               (try clear HB)
               generalize (((w33.setCell ⟨gb196, 0, none⟩ (.int .i64 ((rd_T130 l0 x11_1).f0))).setCell ⟨gb196, 1, none⟩ (.int .i64 ((rd_T130 l0 x11_1).f1))).setCell ⟨gb196, 2, none⟩ (.int .i64 ((rd_T130 l0 x11_1).f2))) = w35 at n0_ n1_ ⊢
               have BK196 := n0_
               have HB := n1_
               clear n0_ n1_
               have n0_ := Aside0.mk (blk_drew BK196.out)
               have n1_ := Aside0.mk (below_drew1 HB.out)
               clear BK196
               clear HB
               have BK196 := n0_
               have HB := n1_
               clear n0_ n1_
               have p198 : 0 ≤ ((ji25) : Int) := of_decide_eq_true ‹_›
               have q198 : (ji25) < (l0.length : Int) := of_decide_eq_true ‹_›
               obtain ⟨ad198, e198, hx198_0, hx198_1, hx198_2⟩ := at_T130 HR0.out (ji25) p198 q198
               have hw198_2 := hx198_2
               have hw198_1 := hx198_1
               have hw198_0 := hx198_0
               obtain rfl : ad195 = ad198 := (by injection e198)
               replace hx198_0 := (HB.out.cell (World.block_lt_of_cell? w _ hx198_0)).trans hx198_0
               replace hx198_1 := (HB.out.cell (World.block_lt_of_cell? w _ hx198_1)).trans hx198_1
               replace hx198_2 := (HB.out.cell (World.block_lt_of_cell? w _ hx198_2)).trans hx198_2
               replace p198 := eq_true p198
               replace q198 := eq_true q198
               refine start_ (n := 36) (S := fun w' => w'.cell? ⟨gb196, 0, none⟩ = some (.int .i64 ((rd_T130 l0 x11_1).f0)) ∧ w'.cell? ⟨gb196, 1, none⟩ = some (.int .i64 ((rd_T130 l0 x11_1).f1)) ∧ w'.cell? ⟨gb196, 2, none⟩ = some (.int .i64 ((rd_T130 l0 x11_1).f2)) ∧ w'.cell? (ad195.add (((ji25)).toNat * 3)) = some (.int .i64 ((rd_T130 l0 (ji25)).f0)) ∧ w'.cell? ⟨(ad195.add (((ji25)).toNat * 3)).block, (ad195.add (((ji25)).toNat * 3)).off + 1, none⟩ = some (.int .i64 ((rd_T130 l0 (ji25)).f1)) ∧ w'.cell? ⟨(ad195.add (((ji25)).toNat * 3)).block, (ad195.add (((ji25)).toNat * 3)).off + 2, none⟩ = some (.int .i64 ((rd_T130 l0 (ji25)).f2))) (ds := []) (bR [0, 36]) (by kernel_rfl) rfl rfl ⟨cC BK196 0, cC BK196 1, cC BK196 2, ((HB.out.cell (World.block_lt_of_cell? w _ hw198_0)).trans hw198_0), ((HB.out.cell (World.block_lt_of_cell? w _ hw198_1)).trans hw198_1), ((HB.out.cell (World.block_lt_of_cell? w _ hw198_2)).trans hw198_2)⟩ (fun hHeld => ?_); refine with_tabW impl_IsRoute.tab6 impl_IsRoute.bits6 (fun HT_ HW_ => ?_)
               generalize w35.drew = w36 at BK196 HB hx198_0 hx198_1 hx198_2 hHeld ⊢
               refine pP 0 16 (bR [1, 35]) rfl rfl HT_ ?_
               refine take_ (i := 1) (N := some 17) (v := ?_) (a' := ?_) (bR [2, 34]) rfl rfl (take_ofW HT_.out HW_.out (by kernel_rfl)) (fun _ _ _ h => h) (Or.inl ⟨by rfl, ?_⟩) hHeld ?_ ?_
               rotate_left; (rintro w' ⟨s0, s1, s2, s3, s4, s5⟩; go_simp; with_reducible rfl); rotate_left; (simp only [Act.put, sA, sZ, sS, i64_w]; rfl)
               refine one_ (i := 2) (N := some 18) (bR [3, 33]) rfl rfl (one_of HT_.out (by kernel_rfl)) (by decide) (fun K hK => ?_)
               refine goes_ Try.func138 (by kernel_rfl) rfl #[.int .i64 ((rd_T130 l0 x11_1).f0), .int .i64 1, .int .i64 30] (by rfl) rfl rfl (by (try simp only [mA, mC, mN]); first | done | rfl | (simp only [lD, lT]; rfl)) ?_
               with_reducible refine (impl_InRange.calls ((rd_T130 l0 x11_1).f0) 1 30 true _ A7.out).mono ?_
               rintro e w' ⟨rfl, ⟨nd, rfl⟩⟩
               refine ⟨_, rfl, ?_⟩
               refine hK.out _ _ ⟨cC BK196 0, cC BK196 1, cC BK196 2, ((HB.out.cell (World.block_lt_of_cell? w _ hw198_0)).trans hw198_0), ((HB.out.cell (World.block_lt_of_cell? w _ hw198_1)).trans hw198_1), ((HB.out.cell (World.block_lt_of_cell? w _ hw198_2)).trans hw198_2)⟩ (fun hHeld => ?_)
               clear hK K
               refine norm_ (a' := ?_) ?_ ?_
               rotate_left
               ·show Act.put _ (some 18) _ = _
                simp only [Act.put, sA, sZ, sS, i64_w]
                rfl
               refine pP 3 19 (bR [4, 32]) rfl rfl HT_ ?_
               refine pP 4 20 (bR [5, 31]) rfl rfl HT_ ?_
               refine pP 5 21 (bR [6, 30]) rfl rfl HT_ ?_
               refine take_ (i := 6) (N := some 22) (v := ?_) (a' := ?_) (bR [7, 29]) rfl rfl (take_ofW HT_.out HW_.out (by kernel_rfl)) (fun _ _ _ h => h) (Or.inl ⟨by rfl, ?_⟩) hHeld ?_ ?_
               rotate_left; (rintro w' ⟨s0, s1, s2, s3, s4, s5⟩; go_simp; with_reducible rfl); rotate_left; (simp only [Act.put, sA, sZ, sS, i64_w]; rfl)
               refine pP 7 23 (bR [8, 28]) rfl rfl HT_ ?_
               refine pP 8 24 (bR [9, 27]) rfl rfl HT_ ?_
               refine pP 9 25 (bR [10, 26]) rfl rfl HT_ ?_
               refine pP 10 26 (bR [11, 25]) rfl rfl HT_ ?_
               refine pP 12 28 (bR [11, 1, 1, 23]) rfl rfl HT_ ?_
               refine take_ (i := 11) (N := some 27) (v := ?_) (a' := ?_) (bR [13, 23]) rfl rfl (take_ofW HT_.out HW_.out (by kernel_rfl)) (fun _ _ _ h => h) (Or.inl ⟨by rfl, ?_⟩) hHeld ?_ ?_
               rotate_left; (rintro w' ⟨s0, s1, s2, s3, s4, s5⟩; go_simp; with_reducible rfl); rotate_left; (simp only [Act.put, sA, sZ, sS, i64_w]; rfl)
               refine take_ (i := 13) (N := some 29) (v := ?_) (a' := ?_) (bR [14, 22]) rfl rfl (take_ofW HT_.out HW_.out (by kernel_rfl)) (fun _ _ _ h => h) (Or.inl ⟨by rfl, ?_⟩) hHeld ?_ ?_
               rotate_left; (rintro w' ⟨s0, s1, s2, s3, s4, s5⟩; go_simp; with_reducible rfl); rotate_left; (simp only [Act.put, sA, sZ, sS, i64_w]; rfl)
               refine pP 14 30 (bR [15, 21]) rfl rfl HT_ ?_
               refine pP 15 31 (bR [16, 20]) rfl rfl HT_ ?_
               refine pP 16 32 (bR [17, 19]) rfl rfl HT_ ?_
               refine pP 17 33 (bR [18, 18]) rfl rfl HT_ ?_
               refine take_ (i := 18) (N := some 34) (v := ?_) (a' := ?_) (bR [19, 17]) rfl rfl (take_ofW HT_.out HW_.out (by kernel_rfl)) (fun _ _ _ h => h) (Or.inl ⟨by rfl, ?_⟩) hHeld ?_ ?_
               rotate_left; (rintro w' ⟨s0, s1, s2, s3, s4, s5⟩; go_simp; with_reducible rfl); rotate_left; (simp only [Act.put, sA, sZ, sS, i64_w]; rfl)
               refine pP 19 35 (bR [20, 16]) rfl rfl HT_ ?_
               refine pP 20 36 (bR [21, 15]) rfl rfl HT_ ?_
               refine pP 21 37 (bR [22, 14]) rfl rfl HT_ ?_
               refine pP 22 38 (bR [23, 13]) rfl rfl HT_ ?_
               refine pP 23 39 (bR [24, 12]) rfl rfl HT_ ?_
               refine pP 24 40 (bR [25, 11]) rfl rfl HT_ ?_
               refine pP 25 41 (bR [26, 10]) rfl rfl HT_ ?_
               refine pP 27 43 (bR [26, 1, 1, 8]) rfl rfl HT_ ?_
               refine pP 28 44 (bR [26, 1, 2, 7]) rfl rfl HT_ ?_
               refine pP 29 45 (bR [26, 1, 3, 6]) rfl rfl HT_ ?_
               refine pP 30 46 (bR [26, 1, 4, 5]) rfl rfl HT_ ?_
               refine pP 31 47 (bR [26, 1, 5, 4]) rfl rfl HT_ ?_
               refine take_ (i := 26) (N := some 42) (v := ?_) (a' := ?_) (bR [32, 4]) rfl rfl (take_ofW HT_.out HW_.out (by kernel_rfl)) (fun _ _ _ h => h) (Or.inl ⟨by rfl, ?_⟩) hHeld ?_ ?_
               rotate_left; (rintro w' ⟨s0, s1, s2, s3, s4, s5⟩; go_simp; with_reducible rfl); rotate_left; (simp only [Act.put, sA, sZ, sS, i64_w]; rfl)
               refine take_ (i := 32) (N := some 48) (v := ?_) (a' := ?_) (bR [33, 3]) rfl rfl (take_ofW HT_.out HW_.out (by kernel_rfl)) (fun _ _ _ h => h) (Or.inl ⟨by rfl, ?_⟩) hHeld ?_ ?_
               rotate_left; (rintro w' ⟨s0, s1, s2, s3, s4, s5⟩; go_simp; with_reducible rfl); rotate_left; (simp only [Act.put, sA, sZ, sS, i64_w]; rfl)
               refine pP 33 49 (bR [34, 2]) rfl rfl HT_ ?_
               refine pP 34 50 (bR [35, 1]) rfl rfl HT_ ?_
               refine pP 35 51 (bR [36]) rfl rfl HT_ ?_
               refine done_ (done_of HT_.out (by kernel_rfl)) ?_
               try go_wp2
               go_roundg k1
               case measure => have := HK1.out; omega
               case rel => exact ⟨(wrap64 (x11_1 + 1)), (by first | rfl | (simp; done) | (simp [*]; done)), H', ⟨by have := HK1.out; omega⟩, ⟨by repeat (first | (with_reducible first | exact HB.out | apply bA | apply bN | apply bD | refine bS ?_ GE196.out) | exact HB.out)⟩⟩
             ·rw [if_neg c27] at H
              exact absurd H (by simp)
            ·rw [if_neg c26] at H
             exact absurd H (by simp)
           ·rw [if_neg c24] at H
            have c24b0 : decide (0 < x11_1) = false := decide_eq_false c24
            clear c24
            have H' := Aside0.mk H
            clear H
            have p195 : 0 ≤ (x11_1 : Int) := of_decide_eq_true ‹_›
            have q195 : x11_1 < (l0.length : Int) := of_decide_eq_true ‹_›
            obtain ⟨ad195, e195, hx195_0, hx195_1, hx195_2⟩ := at_T130 HR0.out x11_1 p195 q195
            cases e195
            replace hx195_0 := (HB.out.cell (World.block_lt_of_cell? w _ hx195_0)).trans hx195_0
            replace hx195_1 := (HB.out.cell (World.block_lt_of_cell? w _ hx195_1)).trans hx195_1
            replace hx195_2 := (HB.out.cell (World.block_lt_of_cell? w _ hx195_2)).trans hx195_2
            replace p195 := eq_true p195
            replace q195 := eq_true q195
            try go_wp2_with (first | ((with_reducible refine gate_dst (N := 4) rfl ?_); refine box_event ?hg (N := 4) ?hd (cs := #[.int .i64 0, .int .i64 0, .int .i64 0]) (t := 130) ?hr ?_; (case hd => rfl); (case hg => rfl); (case hr => first | (go_simp; done) | (go_simp; rfl)); intro gb196 hg w37 hbox hb; have n0_ := Aside0.mk (below_step (qB HB) hb); have n1_ := Aside0.mk (hbox); have n2_ := Aside0.mk ((by rw [hg]; exact (below_size (qB HB)) : w.heap.size ≤ gb196)); have n3_ := Aside0.mk ((by rw [hg]; exact (below_size (qB HB)) : w.heap.size ≤ gb196)); clear HB; have HB := n0_; have BK196 := n1_; have GW196 := n2_; have GE196 := n3_; clear n0_ n1_ n2_ n3_; clear hb hbox hg; have hcz38_0 : w37.cell? ⟨gb196, 0, none⟩ = some (.int .i64 0) := cC BK196 0; have hcz38_1 : w37.cell? ⟨gb196, 1, none⟩ = some (.int .i64 0) := cC BK196 1; have hcz38_2 : w37.cell? ⟨gb196, 2, none⟩ = some (.int .i64 0) := cC BK196 2; have hfz38_0 := blk_frozen BK196.out 0; have hfz38_1 := blk_frozen BK196.out 1; have hfz38_2 := blk_frozen BK196.out 2))
            have n0_ : Aside0 ((((w37.setCell ⟨gb196, 0, none⟩ (.int .i64 ((rd_T130 l0 x11_1).f0))).setCell ⟨gb196, 1, none⟩ (.int .i64 ((rd_T130 l0 x11_1).f1))).setCell ⟨gb196, 2, none⟩ (.int .i64 ((rd_T130 l0 x11_1).f2))).heap[gb196]? = some (.cells #[.int .i64 ((rd_T130 l0 x11_1).f0), .int .i64 ((rd_T130 l0 x11_1).f1), .int .i64 ((rd_T130 l0 x11_1).f2)] 130 (0, 0))) := ⟨by (with_reducible repeat first | refine kN ?_ _ | refine kD ?_ | refine kA ?_ _); refine blk_put (cs := #[.int .i64 ((rd_T130 l0 x11_1).f0), .int .i64 ((rd_T130 l0 x11_1).f1), .int .i64 0]) ?_ 2 _ rfl; (with_reducible repeat first | refine kN ?_ _ | refine kD ?_ | refine kA ?_ _); refine blk_put (cs := #[.int .i64 ((rd_T130 l0 x11_1).f0), .int .i64 0, .int .i64 0]) ?_ 1 _ rfl; (with_reducible repeat first | refine kN ?_ _ | refine kD ?_ | refine kA ?_ _); refine blk_put (cs := #[.int .i64 0, .int .i64 0, .int .i64 0]) ?_ 0 _ rfl; (with_reducible repeat first | refine kN ?_ _ | refine kD ?_ | refine kA ?_ _); exact BK196.out⟩
            have n1_ : Aside0 (Below w.heap.size w (((w37.setCell ⟨gb196, 0, none⟩ (.int .i64 ((rd_T130 l0 x11_1).f0))).setCell ⟨gb196, 1, none⟩ (.int .i64 ((rd_T130 l0 x11_1).f1))).setCell ⟨gb196, 2, none⟩ (.int .i64 ((rd_T130 l0 x11_1).f2)))) := ⟨by repeat (first | (with_reducible first | exact HB.out | apply bA | apply bN | apply bD | refine bS ?_ GE196.out) | exact HB.out)⟩
            (try clear BK196)
            (try clear HB)
            generalize (((w37.setCell ⟨gb196, 0, none⟩ (.int .i64 ((rd_T130 l0 x11_1).f0))).setCell ⟨gb196, 1, none⟩ (.int .i64 ((rd_T130 l0 x11_1).f1))).setCell ⟨gb196, 2, none⟩ (.int .i64 ((rd_T130 l0 x11_1).f2))) = w39 at n0_ n1_ ⊢
            have BK196 := n0_
            have HB := n1_
            clear n0_ n1_
            have n0_ := Aside0.mk (blk_drew BK196.out)
            have n1_ := Aside0.mk (below_drew1 HB.out)
            clear BK196
            clear HB
            have BK196 := n0_
            have HB := n1_
            clear n0_ n1_
            refine start_ (n := 36) (S := fun w' => w'.cell? ⟨gb196, 0, none⟩ = some (.int .i64 ((rd_T130 l0 x11_1).f0)) ∧ w'.cell? ⟨gb196, 1, none⟩ = some (.int .i64 ((rd_T130 l0 x11_1).f1)) ∧ w'.cell? ⟨gb196, 2, none⟩ = some (.int .i64 ((rd_T130 l0 x11_1).f2))) (ds := []) (bR [0, 36]) (by kernel_rfl) rfl rfl ⟨cC BK196 0, cC BK196 1, cC BK196 2⟩ (fun hHeld => ?_); refine with_tabW impl_IsRoute.tab6 impl_IsRoute.bits6 (fun HT_ HW_ => ?_)
            generalize w39.drew = w40 at BK196 HB hHeld ⊢
            refine pP 0 16 (bR [1, 35]) rfl rfl HT_ ?_
            refine take_ (i := 1) (N := some 17) (v := ?_) (a' := ?_) (bR [2, 34]) rfl rfl (take_ofW HT_.out HW_.out (by kernel_rfl)) (fun _ _ _ h => h) (Or.inl ⟨by rfl, ?_⟩) hHeld ?_ ?_
            rotate_left; (rintro w' ⟨s0, s1, s2⟩; go_simp; with_reducible rfl); rotate_left; (simp only [Act.put, sA, sZ, sS, i64_w]; rfl)
            refine one_ (i := 2) (N := some 18) (bR [3, 33]) rfl rfl (one_of HT_.out (by kernel_rfl)) (by decide) (fun K hK => ?_)
            refine goes_ Try.func138 (by kernel_rfl) rfl #[.int .i64 ((rd_T130 l0 x11_1).f0), .int .i64 1, .int .i64 30] (by rfl) rfl rfl (by (try simp only [mA, mC, mN]); first | done | rfl | (simp only [lD, lT]; rfl)) ?_
            with_reducible refine (impl_InRange.calls ((rd_T130 l0 x11_1).f0) 1 30 true _ A7.out).mono ?_
            rintro e w' ⟨rfl, ⟨nd, rfl⟩⟩
            refine ⟨_, rfl, ?_⟩
            refine hK.out _ _ ⟨cC BK196 0, cC BK196 1, cC BK196 2⟩ (fun hHeld => ?_)
            clear hK K
            refine norm_ (a' := ?_) ?_ ?_
            rotate_left
            ·show Act.put _ (some 18) _ = _
             simp only [Act.put, sA, sZ, sS, i64_w]
             rfl
            refine pP 3 19 (bR [4, 32]) rfl rfl HT_ ?_
            refine pP 4 20 (bR [5, 31]) rfl rfl HT_ ?_
            refine pP 5 21 (bR [6, 30]) rfl rfl HT_ ?_
            refine take_ (i := 6) (N := some 22) (v := ?_) (a' := ?_) (bR [7, 29]) rfl rfl (take_ofW HT_.out HW_.out (by kernel_rfl)) (fun _ _ _ h => h) (Or.inl ⟨by rfl, ?_⟩) hHeld ?_ ?_
            rotate_left; (rintro w' ⟨s0, s1, s2⟩; go_simp; with_reducible rfl); rotate_left; (simp only [Act.put, sA, sZ, sS, i64_w]; rfl)
            refine pP 7 23 (bR [8, 28]) rfl rfl HT_ ?_
            refine pP 8 24 (bR [9, 27]) rfl rfl HT_ ?_
            refine pP 9 25 (bR [10, 26]) rfl rfl HT_ ?_
            refine pP 10 26 (bR [11, 25]) rfl rfl HT_ ?_
            refine pP 12 28 (bR [11, 1, 1, 23]) rfl rfl HT_ ?_
            refine take_ (i := 11) (N := some 27) (v := ?_) (a' := ?_) (bR [13, 23]) rfl rfl (take_ofW HT_.out HW_.out (by kernel_rfl)) (fun _ _ _ h => h) (Or.inl ⟨by rfl, ?_⟩) hHeld ?_ ?_
            rotate_left; (rintro w' ⟨s0, s1, s2⟩; go_simp; with_reducible rfl); rotate_left; (simp only [Act.put, sA, sZ, sS, i64_w]; rfl)
            refine take_ (i := 13) (N := some 29) (v := ?_) (a' := ?_) (bR [14, 22]) rfl rfl (take_ofW HT_.out HW_.out (by kernel_rfl)) (fun _ _ _ h => h) (Or.inl ⟨by rfl, ?_⟩) hHeld ?_ ?_
            rotate_left; (rintro w' ⟨s0, s1, s2⟩; go_simp; with_reducible rfl); rotate_left; (simp only [Act.put, sA, sZ, sS, i64_w]; rfl)
            refine pP 14 30 (bR [15, 21]) rfl rfl HT_ ?_
            refine pP 15 31 (bR [16, 20]) rfl rfl HT_ ?_
            refine pP 16 32 (bR [17, 19]) rfl rfl HT_ ?_
            refine pP 17 33 (bR [18, 18]) rfl rfl HT_ ?_
            refine take_ (i := 18) (N := some 34) (v := ?_) (a' := ?_) (bR [19, 17]) rfl rfl (take_ofW HT_.out HW_.out (by kernel_rfl)) (fun _ _ _ h => h) (Or.inl ⟨by rfl, ?_⟩) hHeld ?_ ?_
            rotate_left; (rintro w' ⟨s0, s1, s2⟩; go_simp; with_reducible rfl); rotate_left; (simp only [Act.put, sA, sZ, sS, i64_w]; rfl)
            refine pP 19 35 (bR [20, 16]) rfl rfl HT_ ?_
            refine pP 20 36 (bR [21, 15]) rfl rfl HT_ ?_
            refine pP 21 37 (bR [22, 14]) rfl rfl HT_ ?_
            refine pP 22 38 (bR [23, 13]) rfl rfl HT_ ?_
            refine pP 23 39 (bR [24, 12]) rfl rfl HT_ ?_
            refine pP 24 40 (bR [25, 11]) rfl rfl HT_ ?_
            refine pU 25 41 (bR [26, 10]) rfl rfl HT_ ?_
            refine pU 26 42 (bR [27, 9]) rfl rfl HT_ ?_
            refine pU 27 43 (bR [28, 8]) rfl rfl HT_ ?_
            refine pU 28 44 (bR [29, 7]) rfl rfl HT_ ?_
            refine pU 29 45 (bR [30, 6]) rfl rfl HT_ ?_
            refine pU 30 46 (bR [31, 5]) rfl rfl HT_ ?_
            refine pU 31 47 (bR [32, 4]) rfl rfl HT_ ?_
            refine pU 32 48 (bR [33, 3]) rfl rfl HT_ ?_
            refine pU 33 49 (bR [34, 2]) rfl rfl HT_ ?_
            refine pP 34 50 (bR [35, 1]) rfl rfl HT_ ?_
            refine pP 35 51 (bR [36]) rfl rfl HT_ ?_
            refine done_ (done_of HT_.out (by kernel_rfl)) ?_
            try go_wp2
            go_roundg k1
            case measure => have := HK1.out; omega
            case rel => exact ⟨(wrap64 (x11_1 + 1)), (by first | rfl | (simp; done) | (simp [*]; done)), H', ⟨by have := HK1.out; omega⟩, ⟨by repeat (first | (with_reducible first | exact HB.out | apply bA | apply bN | apply bD | refine bS ?_ GE196.out) | exact HB.out)⟩⟩
       ·replace c8 := Bool.eq_false_iff.mpr c8
        subst c8
        have H1 : (some false) = some r := by rw [if_neg (show ¬ (false = true) by decide)] at H; exact H
        clear H
        have H := H1
        clear H1
        obtain rfl := Option.some.inj H
        have p195 : 0 ≤ (x11_1 : Int) := of_decide_eq_true ‹_›
        have q195 : x11_1 < (l0.length : Int) := of_decide_eq_true ‹_›
        obtain ⟨ad195, e195, hx195_0, hx195_1, hx195_2⟩ := at_T130 HR0.out x11_1 p195 q195
        cases e195
        replace hx195_0 := (HB.out.cell (World.block_lt_of_cell? w _ hx195_0)).trans hx195_0
        replace hx195_1 := (HB.out.cell (World.block_lt_of_cell? w _ hx195_1)).trans hx195_1
        replace hx195_2 := (HB.out.cell (World.block_lt_of_cell? w _ hx195_2)).trans hx195_2
        replace p195 := eq_true p195
        replace q195 := eq_true q195
        try go_wp2_with (first | ((with_reducible refine gate_dst (N := 4) rfl ?_); refine box_event ?hg (N := 4) ?hd (cs := #[.int .i64 0, .int .i64 0, .int .i64 0]) (t := 130) ?hr ?_; (case hd => rfl); (case hg => rfl); (case hr => first | (go_simp; done) | (go_simp; rfl)); intro gb196 hg w41 hbox hb; have n0_ := Aside0.mk (below_step (qB HB) hb); have n1_ := Aside0.mk (hbox); have n2_ := Aside0.mk ((by rw [hg]; exact (below_size (qB HB)) : w.heap.size ≤ gb196)); have n3_ := Aside0.mk ((by rw [hg]; exact (below_size (qB HB)) : w.heap.size ≤ gb196)); clear HB; have HB := n0_; have BK196 := n1_; have GW196 := n2_; have GE196 := n3_; clear n0_ n1_ n2_ n3_; clear hb hbox hg; have hcz42_0 : w41.cell? ⟨gb196, 0, none⟩ = some (.int .i64 0) := cC BK196 0; have hcz42_1 : w41.cell? ⟨gb196, 1, none⟩ = some (.int .i64 0) := cC BK196 1; have hcz42_2 : w41.cell? ⟨gb196, 2, none⟩ = some (.int .i64 0) := cC BK196 2; have hfz42_0 := blk_frozen BK196.out 0; have hfz42_1 := blk_frozen BK196.out 1; have hfz42_2 := blk_frozen BK196.out 2))
        have n0_ : Aside0 ((((w41.setCell ⟨gb196, 0, none⟩ (.int .i64 ((rd_T130 l0 x11_1).f0))).setCell ⟨gb196, 1, none⟩ (.int .i64 ((rd_T130 l0 x11_1).f1))).setCell ⟨gb196, 2, none⟩ (.int .i64 ((rd_T130 l0 x11_1).f2))).heap[gb196]? = some (.cells #[.int .i64 ((rd_T130 l0 x11_1).f0), .int .i64 ((rd_T130 l0 x11_1).f1), .int .i64 ((rd_T130 l0 x11_1).f2)] 130 (0, 0))) := ⟨by (with_reducible repeat first | refine kN ?_ _ | refine kD ?_ | refine kA ?_ _); refine blk_put (cs := #[.int .i64 ((rd_T130 l0 x11_1).f0), .int .i64 ((rd_T130 l0 x11_1).f1), .int .i64 0]) ?_ 2 _ rfl; (with_reducible repeat first | refine kN ?_ _ | refine kD ?_ | refine kA ?_ _); refine blk_put (cs := #[.int .i64 ((rd_T130 l0 x11_1).f0), .int .i64 0, .int .i64 0]) ?_ 1 _ rfl; (with_reducible repeat first | refine kN ?_ _ | refine kD ?_ | refine kA ?_ _); refine blk_put (cs := #[.int .i64 0, .int .i64 0, .int .i64 0]) ?_ 0 _ rfl; (with_reducible repeat first | refine kN ?_ _ | refine kD ?_ | refine kA ?_ _); exact BK196.out⟩
        have n1_ : Aside0 (Below w.heap.size w (((w41.setCell ⟨gb196, 0, none⟩ (.int .i64 ((rd_T130 l0 x11_1).f0))).setCell ⟨gb196, 1, none⟩ (.int .i64 ((rd_T130 l0 x11_1).f1))).setCell ⟨gb196, 2, none⟩ (.int .i64 ((rd_T130 l0 x11_1).f2)))) := ⟨by repeat (first | (with_reducible first | exact HB.out | apply bA | apply bN | apply bD | refine bS ?_ GE196.out) | exact HB.out)⟩
        (try clear BK196)
        (try clear HB)
        generalize (((w41.setCell ⟨gb196, 0, none⟩ (.int .i64 ((rd_T130 l0 x11_1).f0))).setCell ⟨gb196, 1, none⟩ (.int .i64 ((rd_T130 l0 x11_1).f1))).setCell ⟨gb196, 2, none⟩ (.int .i64 ((rd_T130 l0 x11_1).f2))) = w43 at n0_ n1_ ⊢
        have BK196 := n0_
        have HB := n1_
        clear n0_ n1_
        have n0_ := Aside0.mk (blk_drew BK196.out)
        have n1_ := Aside0.mk (below_drew1 HB.out)
        clear BK196
        clear HB
        have BK196 := n0_
        have HB := n1_
        clear n0_ n1_
        refine start_ (n := 36) (S := fun w' => w'.cell? ⟨gb196, 0, none⟩ = some (.int .i64 ((rd_T130 l0 x11_1).f0)) ∧ w'.cell? ⟨gb196, 1, none⟩ = some (.int .i64 ((rd_T130 l0 x11_1).f1)) ∧ w'.cell? ⟨gb196, 2, none⟩ = some (.int .i64 ((rd_T130 l0 x11_1).f2))) (ds := []) (bR [0, 36]) (by kernel_rfl) rfl rfl ⟨cC BK196 0, cC BK196 1, cC BK196 2⟩ (fun hHeld => ?_); refine with_tabW impl_IsRoute.tab6 impl_IsRoute.bits6 (fun HT_ HW_ => ?_)
        generalize w43.drew = w44 at BK196 HB hHeld ⊢
        refine pP 0 16 (bR [1, 35]) rfl rfl HT_ ?_
        refine take_ (i := 1) (N := some 17) (v := ?_) (a' := ?_) (bR [2, 34]) rfl rfl (take_ofW HT_.out HW_.out (by kernel_rfl)) (fun _ _ _ h => h) (Or.inl ⟨by rfl, ?_⟩) hHeld ?_ ?_
        rotate_left; (rintro w' ⟨s0, s1, s2⟩; go_simp; with_reducible rfl); rotate_left; (simp only [Act.put, sA, sZ, sS, i64_w]; rfl)
        refine one_ (i := 2) (N := some 18) (bR [3, 33]) rfl rfl (one_of HT_.out (by kernel_rfl)) (by decide) (fun K hK => ?_)
        refine goes_ Try.func138 (by kernel_rfl) rfl #[.int .i64 ((rd_T130 l0 x11_1).f0), .int .i64 1, .int .i64 30] (by rfl) rfl rfl (by (try simp only [mA, mC, mN]); first | done | rfl | (simp only [lD, lT]; rfl)) ?_
        with_reducible refine (impl_InRange.calls ((rd_T130 l0 x11_1).f0) 1 30 false _ A7.out).mono ?_
        rintro e w' ⟨rfl, ⟨nd, rfl⟩⟩
        refine ⟨_, rfl, ?_⟩
        refine hK.out _ _ ⟨cC BK196 0, cC BK196 1, cC BK196 2⟩ (fun hHeld => ?_)
        clear hK K
        refine norm_ (a' := ?_) ?_ ?_
        rotate_left
        ·show Act.put _ (some 18) _ = _
         simp only [Act.put, sA, sZ, sS, i64_w]
         rfl
        refine pP 3 19 (bR [4, 32]) rfl rfl HT_ ?_
        refine pP 4 20 (bR [5, 31]) rfl rfl HT_ ?_
        refine pU 5 21 (bR [6, 30]) rfl rfl HT_ ?_
        refine pU 6 22 (bR [7, 29]) rfl rfl HT_ ?_
        refine pU 7 23 (bR [8, 28]) rfl rfl HT_ ?_
        refine pP 8 24 (bR [9, 27]) rfl rfl HT_ ?_
        refine pP 9 25 (bR [10, 26]) rfl rfl HT_ ?_
        refine pU 10 26 (bR [11, 25]) rfl rfl HT_ ?_
        refine pU 11 27 (bR [12, 24]) rfl rfl HT_ ?_
        refine pU 12 28 (bR [13, 23]) rfl rfl HT_ ?_
        refine pU 13 29 (bR [14, 22]) rfl rfl HT_ ?_
        refine pU 14 30 (bR [15, 21]) rfl rfl HT_ ?_
        refine pP 15 31 (bR [16, 20]) rfl rfl HT_ ?_
        refine pP 16 32 (bR [17, 19]) rfl rfl HT_ ?_
        refine pU 17 33 (bR [18, 18]) rfl rfl HT_ ?_
        refine pU 18 34 (bR [19, 17]) rfl rfl HT_ ?_
        refine pU 19 35 (bR [20, 16]) rfl rfl HT_ ?_
        refine pP 20 36 (bR [21, 15]) rfl rfl HT_ ?_
        refine pP 21 37 (bR [22, 14]) rfl rfl HT_ ?_
        refine pU 22 38 (bR [23, 13]) rfl rfl HT_ ?_
        refine pU 23 39 (bR [24, 12]) rfl rfl HT_ ?_
        refine pU 24 40 (bR [25, 11]) rfl rfl HT_ ?_
        refine pU 25 41 (bR [26, 10]) rfl rfl HT_ ?_
        refine pU 26 42 (bR [27, 9]) rfl rfl HT_ ?_
        refine pU 27 43 (bR [28, 8]) rfl rfl HT_ ?_
        refine pU 28 44 (bR [29, 7]) rfl rfl HT_ ?_
        refine pU 29 45 (bR [30, 6]) rfl rfl HT_ ?_
        refine pU 30 46 (bR [31, 5]) rfl rfl HT_ ?_
        refine pU 31 47 (bR [32, 4]) rfl rfl HT_ ?_
        refine pU 32 48 (bR [33, 3]) rfl rfl HT_ ?_
        refine pU 33 49 (bR [34, 2]) rfl rfl HT_ ?_
        refine pU 34 50 (bR [35, 1]) rfl rfl HT_ ?_
        refine pP 35 51 (bR [36]) rfl rfl HT_ ?_
        refine done_ (done_of HT_.out (by kernel_rfl)) ?_
        try go_wp2
        go_ret
        exact ⟨by first | rfl | (simp [errW_none, errW_some] <;> rfl) | (simp [*, errW_none, errW_some] <;> rfl), by repeat (first | (with_reducible first | exact HB.out | apply bA | apply bN | apply bD | refine bS ?_ GE196.out) | exact HB.out)⟩
      ·rw [if_neg c6] at H
       exact absurd H (by simp)
     ·rw [if_neg c5] at H
      exact absurd H (by simp)
    ·rw [if_neg c4] at H
     have c4b0 : decide (x11_1 < (l0.length : Int)) = false := decide_eq_false c4
     clear c4
     obtain rfl := Option.some.inj H
     go_wp2
     go_ret
     exact ⟨by first | rfl | (simp [errW_none, errW_some] <;> rfl) | (simp [*, errW_none, errW_some] <;> rfl), by repeat (first | (with_reducible first | exact HB.out | apply bA | apply bN | apply bD) | exact HB.out)⟩
 ·replace c3 := Bool.eq_false_iff.mpr c3
  subst c3
  have H1 : (some false) = some r := by rw [if_neg (show ¬ (false = true) by decide)] at H; exact H
  clear H
  have H := H1
  clear H1
  obtain rfl := Option.some.inj H
  go_enter Try.func87, Try.ntmps87
  go_wp2_with (first | ((with_reducible refine gate_callee (f := 138) rfl ?_); refine goesL_ (some 7) rfl rfl Try.func138 (by kernel_rfl) rfl #[.int .i64 (l0.length : Int), .int .i64 1, .int .i64 10] rfl (by (try simp only [mA, mC, mN]); first | done | rfl | (simp only [lD, lT]; rfl)) ?_; (with_reducible refine (impl_InRange.calls (l0.length : Int) 1 10 false _ A2.out).mono ?_); rintro e w' ⟨rfl, ⟨nd, rfl⟩⟩; refine ⟨_, rfl, ?_⟩))
  go_ret
  exact ⟨by first | rfl | (simp [errW_none, errW_some] <;> rfl) | (simp [*, errW_none, errW_some] <;> rfl), by repeat (first | (with_reducible first | exact HB.out | apply bA | apply bN | apply bD) | exact HB.out)⟩

end Go.Proofs.Ytkfalbaklodnjaa.PFnExactLeftBetween
