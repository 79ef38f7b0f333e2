-- The printed functions of one law and their contracts, over contracts of this session's own (hand.py).
import Derived.Test.YtkfalbaklodnjaaPFnExactPutMarkx0
import Derived.Test.YtkfalbaklodnjaaPFnExactPutMarkx1
namespace Go.Proofs.Ytkfalbaklodnjaa.PFnExactPutMark
open Go.RowKit Go.Proofs.YtkfalbaklodnjaaW.PrintWords Go.Proofs.YtkfalbaklodnjaaW.PrintLast Go.Proofs.YtkfalbaklodnjaaW.PrintMore Go.Proofs.Ytkfalbaklodnjaa.Short
attribute [local go_sem] max2_int min2_int max_two min_two max_three min_three max_four min_four   -- for this text's walks alone
set_option linter.unusedVariables false
set_option linter.unusedSimpArgs false

/-! ### spec_AreMarks: function 104 -/
def spec_AreMarks.l0 : Nat → List (S30) → Int → Option (Bool)
 | 0, _, _ => none
 | k + 1, x0, x3 => if x3 < (x0.length : Int) then (if 0 ≤ x3 then ((spec_l1In.f ((rd_T30 x0 x3).f0) 1 20).bind fun t102 => (if t102 = true then ((spec_l1In.f ((rd_T30 x0 x3).f1) 0 99).bind fun t104 => (if t104 = true then (if x3 > 0 then (if 0 ≤ (wrap64 (x3 - 1)) then (if (wrap64 (x3 - 1)) < (x0.length : Int) then (if ((rd_T30 x0 (wrap64 (x3 - 1))).f0) ≥ ((rd_T30 x0 x3).f0) then (some false) else (spec_AreMarks.l0 k x0 (wrap64 (x3 + 1)))) else (none)) else (none)) else (spec_AreMarks.l0 k x0 (wrap64 (x3 + 1)))) else (some false))) else (some false))) else (none)) else (some (decide ((x0.length : Int) ≤ 8)))
def spec_AreMarks.f (k : Nat) (l0 : List (S30)) : Option (Bool) := spec_AreMarks.l0 k l0 0
theorem spec_AreMarks.mono_l : ∀ k, (∀ y0 y1, LeO (spec_AreMarks.l0 k y0 y1) (spec_AreMarks.l0 (k + 1) y0 y1))
 | 0 => fun _ _ r h => by simp [spec_AreMarks.l0] at h
 | k + 1 => by
  have ih0 := spec_AreMarks.mono_l k
  ·intro y0 y1
   unfold spec_AreMarks.l0
   repeat' first
   | (with_reducible exact ih0 _ _)
   | (with_reducible exact LeO.refl _)
   | (with_reducible exact LeO.none _)
   | (with_reducible refine LeO.ite ?_ ?_)
   | (with_reducible refine LeO.bind ?_ (fun _ => ?_))
   | exact ih0 _ _
   | exact LeO.none _
   | refine LeO.ite ?_ ?_
   | refine LeO.bind ?_ (fun _ => ?_)
theorem spec_AreMarks.mono : ∀ a0 k, LeO (spec_AreMarks.f k a0) (spec_AreMarks.f (k + 1) a0) := by
 intro a0 k
 have ih0 := spec_AreMarks.mono_l k
 unfold spec_AreMarks.f
 repeat' first
   | (with_reducible exact ih0 _ _)
   | (with_reducible exact LeO.refl _)
   | (with_reducible exact LeO.none _)
   | (with_reducible refine LeO.ite ?_ ?_)
   | (with_reducible refine LeO.bind ?_ (fun _ => ?_))
   | exact ih0 _ _
   | exact LeO.none _
   | refine LeO.ite ?_ ?_
   | refine LeO.bind ?_ (fun _ => ?_)
def spec_AreMarks.T4 : Bool × List (List Nat × List Nat) := (true, [([], []), ([], []), ([0, 1], [0, 1]), ([2], [2]), ([3], [3]), ([4], [4]), ([5], [5]), ([6, 5], [6]), ([7], [7]), ([7], [7]), ([8, 9, 7], [7, 8, 9]), ([10, 7], [7, 10]), ([11, 7], [7, 11]), ([12, 7, 7], [7, 12]), ([13, 7], [7, 13]), ([7, 14], [7, 14]), ([15, 13], [15]), ([16], [16]), ([17, 16], [16, 17]), ([18, 16, 16], [16, 18]), ([19], [19]), ([19], [19]), ([21, 19], [19, 21]), ([20, 22, 19], [19, 20, 22]), ([23, 19], [19, 23]), ([24, 19], [19, 24]), ([19], [19]), ([19], [19]), ([26, 27, 19], [19, 26, 27]), ([28, 19], [19, 28]), ([29, 19], [19, 29]), ([25, 30, 19], [19, 25, 30]), ([19, 31, 16], [16, 19, 31]), ([16, 32], [16, 32])])
def spec_AreMarks.B4 : List Nat := [0, 0, 3, 7, 15, 31, 63, 127, 255, 255, 1023, 2047, 4095, 8191, 16383, 32767, 65535, 131071, 262143, 524287, 1048575, 1048575, 3145727, 8388607, 16777215, 33554431, 1048575, 1048575, 202375167, 470810623, 1007681535, 2147483647, 4294967295, 8589934591]
theorem spec_AreMarks.tab4 : rtab .any (opsOf Try.f104 4) = spec_AreMarks.T4 := by kernel_rfl
theorem spec_AreMarks.bits4 : waitsOk spec_AreMarks.T4.2 spec_AreMarks.B4 = true := by kernel_rfl
set_option maxHeartbeats 8000000 in
set_option maxRecDepth 100000 in
theorem spec_AreMarks.calls (k : Nat) (A0 : Option Addr) (c0 : Nat) (l0 : List (S30)) (r : Bool) (w : World) (hr0 : Kd.C k30 w A0 l0.length l0) (hc0 : l0.length ≤ c0) (h : spec_AreMarks.f k l0 = some r) :
  Calls Try.prog 104 #[.slice A0 l0.length c0] w fun e w' => e = .returned (.bool r) ∧ Below w.heap.size w w' := by
 have HR0 := Aside0.mk hr0
 have HC0 := Aside0.mk hc0
 clear hr0 hc0
 have HB := Aside0.mk (Below.refl w.heap.size w)
 have H : (spec_AreMarks.l0 k l0 0) = some r := h
 clear h
 have H' := Aside0.mk H
 clear H
 go_enter Try.func104, Try.ntmps104
 go_wp2
 go_loopg [3] k (fun kq v3 w' => ∃ (x3_1 : Int), v3 = .int .i64 x3_1 ∧ Aside0 (spec_AreMarks.l0 kq l0 x3_1 = some r) ∧ Aside0 (kq ≤ k) ∧ Aside0 (Below w.heap.size w w'))
 case atStart => exact ⟨(0), (by first | rfl | (simp; done) | (simp [*]; done)), H', ⟨Nat.le_refl _⟩, ⟨by repeat (first | (with_reducible first | exact HB.out | apply bA | apply bN | apply bD) | exact HB.out)⟩⟩
 case round =>
  clear H'
  try clear c1
  obtain ⟨x3_1, rfl, HA, HK1, HB⟩ := hrel
  cases gk with
  | zero => exact absurd HA.out (by simp [spec_AreMarks.l0])
  | succ k1 =>
   have H := HA.out
   clear HA
   simp only [spec_AreMarks.l0] at H
   by_cases c2 : x3_1 < (l0.length : Int)
   ·rw [if_pos c2] at H
    have c2b0 : decide (x3_1 < (l0.length : Int)) = true := decide_eq_true c2
    clear c2
    by_cases c3 : 0 ≤ x3_1
    ·rw [if_pos c3] at H
     have c3b0 : decide (0 ≤ x3_1) = true := decide_eq_true c3
     clear c3
     replace H := Option.bind_eq_some_iff.mp H
     obtain ⟨t102, A40, H⟩ := H
     replace H : (if t102 = true then ((spec_l1In.f ((rd_T30 l0 x3_1).f1) 0 99).bind fun t104 => (if t104 = true then (if x3_1 > 0 then (if 0 ≤ (wrap64 (x3_1 - 1)) then (if (wrap64 (x3_1 - 1)) < (l0.length : Int) then (if ((rd_T30 l0 (wrap64 (x3_1 - 1))).f0) ≥ ((rd_T30 l0 x3_1).f0) then (some false) else (spec_AreMarks.l0 k1 l0 (wrap64 (x3_1 + 1)))) else (none)) else (none)) else (spec_AreMarks.l0 k1 l0 (wrap64 (x3_1 + 1)))) else (some false))) else (some false)) = some r := H
     have A4 := Aside0.mk A40
     clear A40
     by_cases c5 : t102 = true
     ·subst c5
      have H1 : ((spec_l1In.f ((rd_T30 l0 x3_1).f1) 0 99).bind fun t104 => (if t104 = true then (if x3_1 > 0 then (if 0 ≤ (wrap64 (x3_1 - 1)) then (if (wrap64 (x3_1 - 1)) < (l0.length : Int) then (if ((rd_T30 l0 (wrap64 (x3_1 - 1))).f0) ≥ ((rd_T30 l0 x3_1).f0) then (some false) else (spec_AreMarks.l0 k1 l0 (wrap64 (x3_1 + 1)))) else (none)) else (none)) else (spec_AreMarks.l0 k1 l0 (wrap64 (x3_1 + 1)))) else (some false))) = some r := by rw [if_pos rfl] at H; exact H
      clear H
      have H := H1
      clear H1
      replace H := Option.bind_eq_some_iff.mp H
      obtain ⟨t104, A60, H⟩ := H
      replace H : (if t104 = true then (if x3_1 > 0 then (if 0 ≤ (wrap64 (x3_1 - 1)) then (if (wrap64 (x3_1 - 1)) < (l0.length : Int) then (if ((rd_T30 l0 (wrap64 (x3_1 - 1))).f0) ≥ ((rd_T30 l0 x3_1).f0) then (some false) else (spec_AreMarks.l0 k1 l0 (wrap64 (x3_1 + 1)))) else (none)) else (none)) else (spec_AreMarks.l0 k1 l0 (wrap64 (x3_1 + 1)))) else (some false)) = some r := H
      have A6 := Aside0.mk A60
      clear A60
      by_cases c7 : t104 = true
      ·subst c7
       have H1 : (if x3_1 > 0 then (if 0 ≤ (wrap64 (x3_1 - 1)) then (if (wrap64 (x3_1 - 1)) < (l0.length : Int) then (if ((rd_T30 l0 (wrap64 (x3_1 - 1))).f0) ≥ ((rd_T30 l0 x3_1).f0) then (some false) else (spec_AreMarks.l0 k1 l0 (wrap64 (x3_1 + 1)))) else (none)) else (none)) else (spec_AreMarks.l0 k1 l0 (wrap64 (x3_1 + 1)))) = some r := by rw [if_pos rfl] at H; exact H
       clear H
       have H := H1
       clear H1
       by_cases c8 : x3_1 > 0
       ·rw [if_pos c8] at H
        have c8b0 : decide (0 < x3_1) = true := decide_eq_true c8
        clear c8
        obtain ⟨ji9, hji9⟩ : ∃ j_ : Int, (wrap64 (x3_1 - 1)) = j_ := ⟨_, rfl⟩
        replace H : (if 0 ≤ (ji9) then (if (ji9) < (l0.length : Int) then (if ((rd_T30 l0 (ji9)).f0) ≥ ((rd_T30 l0 x3_1).f0) then (some false) else (spec_AreMarks.l0 k1 l0 (wrap64 (x3_1 + 1)))) else (none)) else (none)) = some r := by first | (rw [hji9] at H; exact H) | (simp only [hji9] at H ⊢; exact H)
        (try rw [hji9] at A4)
        (try rw [hji9] at A6)
        have hji9w : (IntKind.i64.wrap (x3_1 - 1)) = ji9 := (i64_w _).trans hji9
        by_cases c10 : 0 ≤ (ji9)
        ·rw [if_pos c10] at H
         have c10b0 : decide (0 ≤ (ji9)) = true := decide_eq_true c10
         clear c10
         by_cases c11 : (ji9) < (l0.length : Int)
         ·rw [if_pos c11] at H
          have c11b0 : decide ((ji9) < (l0.length : Int)) = true := decide_eq_true c11
          clear c11
          by_cases c12 : ((rd_T30 l0 (ji9)).f0) ≥ ((rd_T30 l0 x3_1).f0)
          ·rw [if_pos c12] at H
           have c12b0 : decide (((rd_T30 l0 x3_1).f0) ≤ ((rd_T30 l0 (ji9)).f0)) = true := decide_eq_true c12
           clear c12
           obtain rfl := Option.some.inj H
           try go_wp2
           have n0_ := Aside0.mk (below_drew1 HB.out)
           clear HB
           have HB := n0_
           clear n0_
           have p101 : 0 ≤ (x3_1 : Int) := of_decide_eq_true ‹_›
           have q101 : x3_1 < (l0.length : Int) := of_decide_eq_true ‹_›
           obtain ⟨ad101, e101, hx101_0, hx101_1⟩ := at_T30 HR0.out x3_1 p101 q101
           have hw101_1 := hx101_1
           have hw101_0 := hx101_0
           cases e101
           replace hx101_0 := (HB.out.cell (World.block_lt_of_cell? w _ hx101_0)).trans hx101_0
           replace hx101_1 := (HB.out.cell (World.block_lt_of_cell? w _ hx101_1)).trans hx101_1
           replace p101 := eq_true p101
           replace q101 := eq_true q101
           have p103 : 0 ≤ (x3_1 : Int) := of_decide_eq_true ‹_›
           have q103 : x3_1 < (l0.length : Int) := of_decide_eq_true ‹_›
           obtain ⟨ad103, e103, hx103_0, hx103_1⟩ := at_T30 HR0.out x3_1 p103 q103
           have hw103_1 := hx103_1
           have hw103_0 := hx103_0
           obtain rfl : ad101 = ad103 := (by injection e103)
           replace hx103_0 := (HB.out.cell (World.block_lt_of_cell? w _ hx103_0)).trans hx103_0
           replace hx103_1 := (HB.out.cell (World.block_lt_of_cell? w _ hx103_1)).trans hx103_1
           replace p103 := eq_true p103
           replace q103 := eq_true q103
           have p105 : 0 ≤ ((ji9) : Int) := of_decide_eq_true ‹_›
           have q105 : (ji9) < (l0.length : Int) := of_decide_eq_true ‹_›
           obtain ⟨ad105, e105, hx105_0, hx105_1⟩ := at_T30 HR0.out (ji9) p105 q105
           have hw105_1 := hx105_1
           have hw105_0 := hx105_0
           obtain rfl : ad101 = ad105 := (by injection e105)
           replace hx105_0 := (HB.out.cell (World.block_lt_of_cell? w _ hx105_0)).trans hx105_0
           replace hx105_1 := (HB.out.cell (World.block_lt_of_cell? w _ hx105_1)).trans hx105_1
           replace p105 := eq_true p105
           replace q105 := eq_true q105
           have p106 : 0 ≤ (x3_1 : Int) := of_decide_eq_true ‹_›
           have q106 : x3_1 < (l0.length : Int) := of_decide_eq_true ‹_›
           obtain ⟨ad106, e106, hx106_0, hx106_1⟩ := at_T30 HR0.out x3_1 p106 q106
           have hw106_1 := hx106_1
           have hw106_0 := hx106_0
           obtain rfl : ad101 = ad106 := (by injection e106)
           replace hx106_0 := (HB.out.cell (World.block_lt_of_cell? w _ hx106_0)).trans hx106_0
           replace hx106_1 := (HB.out.cell (World.block_lt_of_cell? w _ hx106_1)).trans hx106_1
           replace p106 := eq_true p106
           replace q106 := eq_true q106
           refine start_ (n := 34) (S := fun w' => w'.cell? (ad101.add ((x3_1).toNat * 2)) = some (.int .i64 ((rd_T30 l0 x3_1).f0)) ∧ w'.cell? ⟨(ad101.add ((x3_1).toNat * 2)).block, (ad101.add ((x3_1).toNat * 2)).off + 1, none⟩ = some (.int .i64 ((rd_T30 l0 x3_1).f1)) ∧ w'.cell? (ad101.add ((x3_1).toNat * 2)) = some (.int .i64 ((rd_T30 l0 x3_1).f0)) ∧ w'.cell? ⟨(ad101.add ((x3_1).toNat * 2)).block, (ad101.add ((x3_1).toNat * 2)).off + 1, none⟩ = some (.int .i64 ((rd_T30 l0 x3_1).f1)) ∧ w'.cell? (ad101.add (((ji9)).toNat * 2)) = some (.int .i64 ((rd_T30 l0 (ji9)).f0)) ∧ w'.cell? ⟨(ad101.add (((ji9)).toNat * 2)).block, (ad101.add (((ji9)).toNat * 2)).off + 1, none⟩ = some (.int .i64 ((rd_T30 l0 (ji9)).f1)) ∧ w'.cell? (ad101.add ((x3_1).toNat * 2)) = some (.int .i64 ((rd_T30 l0 x3_1).f0)) ∧ w'.cell? ⟨(ad101.add ((x3_1).toNat * 2)).block, (ad101.add ((x3_1).toNat * 2)).off + 1, none⟩ = some (.int .i64 ((rd_T30 l0 x3_1).f1))) (ds := []) (bR [0, 34]) (by kernel_rfl) rfl rfl ⟨((HB.out.cell (World.block_lt_of_cell? w _ hw101_0)).trans hw101_0), ((HB.out.cell (World.block_lt_of_cell? w _ hw101_1)).trans hw101_1), ((HB.out.cell (World.block_lt_of_cell? w _ hw103_0)).trans hw103_0), ((HB.out.cell (World.block_lt_of_cell? w _ hw103_1)).trans hw103_1), ((HB.out.cell (World.block_lt_of_cell? w _ hw105_0)).trans hw105_0), ((HB.out.cell (World.block_lt_of_cell? w _ hw105_1)).trans hw105_1), ((HB.out.cell (World.block_lt_of_cell? w _ hw106_0)).trans hw106_0), ((HB.out.cell (World.block_lt_of_cell? w _ hw106_1)).trans hw106_1)⟩ (fun hHeld => ?_); refine with_tabW spec_AreMarks.tab4 spec_AreMarks.bits4 (fun HT_ HW_ => ?_)
           generalize wr.drew = w13 at HB hx101_0 hx101_1 hx103_0 hx103_1 hx105_0 hx105_1 hx106_0 hx106_1 hHeld ⊢
           refine pP 0 10 (bR [1, 33]) rfl rfl HT_ ?_
           refine pP 1 11 (bR [2, 32]) rfl rfl HT_ ?_
           refine pP 2 12 (bR [3, 31]) rfl rfl HT_ ?_
           refine pP 3 13 (bR [4, 30]) rfl rfl HT_ ?_
           refine take_ (i := 4) (N := some 14) (v := ?_) (a' := ?_) (bR [5, 29]) rfl rfl (take_ofW HT_.out HW_.out (by kernel_rfl)) (fun _ _ _ h => h) (Or.inl ⟨by rfl, ?_⟩) hHeld ?_ ?_
           rotate_left; (rintro w' ⟨s0, s1, s2, s3, s4, s5, s6, s7⟩; go_simp; with_reducible rfl); rotate_left; (simp only [Act.put, sA, sZ, sS, i64_w]; rfl)
           refine one_ (i := 5) (N := some 15) (bR [6, 28]) rfl rfl (one_of HT_.out (by kernel_rfl)) (by decide) (fun K hK => ?_)
           refine goes_ Try.func176 (by kernel_rfl) rfl #[.int .i64 ((rd_T30 l0 x3_1).f0), .int .i64 1, .int .i64 20] (by rfl) rfl rfl (by (try simp only [mA, mC, mN]); first | done | rfl | (simp only [lD, lT]; rfl)) ?_
           with_reducible refine (spec_l1In.calls ((rd_T30 l0 x3_1).f0) 1 20 true _ A4.out).mono ?_
           rintro e w' ⟨rfl, ⟨nd, rfl⟩⟩
           refine ⟨_, rfl, ?_⟩
           refine hK.out _ _ ⟨((HB.out.cell (World.block_lt_of_cell? w _ hw101_0)).trans hw101_0), ((HB.out.cell (World.block_lt_of_cell? w _ hw101_1)).trans hw101_1), ((HB.out.cell (World.block_lt_of_cell? w _ hw103_0)).trans hw103_0), ((HB.out.cell (World.block_lt_of_cell? w _ hw103_1)).trans hw103_1), ((HB.out.cell (World.block_lt_of_cell? w _ hw105_0)).trans hw105_0), ((HB.out.cell (World.block_lt_of_cell? w _ hw105_1)).trans hw105_1), ((HB.out.cell (World.block_lt_of_cell? w _ hw106_0)).trans hw106_0), ((HB.out.cell (World.block_lt_of_cell? w _ hw106_1)).trans hw106_1)⟩ (fun hHeld => ?_)
           clear hK K
           refine norm_ (a' := ?_) ?_ ?_
           rotate_left
           ·show Act.put _ (some 15) _ = _
            simp only [Act.put, sA, sZ, sS, i64_w]
            rfl
           refine pP 6 16 (bR [7, 27]) rfl rfl HT_ ?_
           refine pP 7 17 (bR [8, 26]) rfl rfl HT_ ?_
           refine pP 8 18 (bR [9, 25]) rfl rfl HT_ ?_
           refine pP 9 19 (bR [10, 24]) rfl rfl HT_ ?_
           refine pP 10 20 (bR [11, 23]) rfl rfl HT_ ?_
           refine pP 11 21 (bR [12, 22]) rfl rfl HT_ ?_
           refine take_ (i := 12) (N := some 22) (v := ?_) (a' := ?_) (bR [13, 21]) rfl rfl (take_ofW HT_.out HW_.out (by kernel_rfl)) (fun _ _ _ h => h) (Or.inl ⟨by rfl, ?_⟩) hHeld ?_ ?_
           rotate_left; (rintro w' ⟨s0, s1, s2, s3, s4, s5, s6, s7⟩; go_simp; with_reducible rfl); rotate_left; (simp only [Act.put, sA, sZ, sS, i64_w]; rfl)
           refine one_ (i := 13) (N := some 23) (bR [14, 20]) rfl rfl (one_of HT_.out (by kernel_rfl)) (by decide) (fun K hK => ?_)
           refine goes_ Try.func176 (by kernel_rfl) rfl #[.int .i64 ((rd_T30 l0 x3_1).f1), .int .i64 0, .int .i64 99] (by rfl) rfl rfl (by (try simp only [mA, mC, mN]); first | done | rfl | (simp only [lD, lT]; rfl)) ?_
           with_reducible refine (spec_l1In.calls ((rd_T30 l0 x3_1).f1) 0 99 true _ A6.out).mono ?_
           rintro e w' ⟨rfl, ⟨nd, rfl⟩⟩
           refine ⟨_, rfl, ?_⟩
           refine hK.out _ _ ⟨((HB.out.cell (World.block_lt_of_cell? w _ hw101_0)).trans hw101_0), ((HB.out.cell (World.block_lt_of_cell? w _ hw101_1)).trans hw101_1), ((HB.out.cell (World.block_lt_of_cell? w _ hw103_0)).trans hw103_0), ((HB.out.cell (World.block_lt_of_cell? w _ hw103_1)).trans hw103_1), ((HB.out.cell (World.block_lt_of_cell? w _ hw105_0)).trans hw105_0), ((HB.out.cell (World.block_lt_of_cell? w _ hw105_1)).trans hw105_1), ((HB.out.cell (World.block_lt_of_cell? w _ hw106_0)).trans hw106_0), ((HB.out.cell (World.block_lt_of_cell? w _ hw106_1)).trans hw106_1)⟩ (fun hHeld => ?_)
           clear hK K
           refine norm_ (a' := ?_) ?_ ?_
           rotate_left
           ·show Act.put _ (some 23) _ = _
            simp only [Act.put, sA, sZ, sS, i64_w]
            rfl
           refine pP 14 24 (bR [15, 19]) rfl rfl HT_ ?_
           refine pP 15 25 (bR [16, 18]) rfl rfl HT_ ?_
           refine pP 16 26 (bR [17, 17]) rfl rfl HT_ ?_
           refine pP 17 27 (bR [18, 16]) rfl rfl HT_ ?_
           refine pP 18 28 (bR [19, 15]) rfl rfl HT_ ?_
           refine pP 19 29 (bR [20, 14]) rfl rfl HT_ ?_
           refine pP 20 30 (bR [21, 13]) rfl rfl HT_ ?_
           refine pP 21 31 (bR [22, 12]) rfl rfl HT_ ?_
           refine pP 22 32 (bR [23, 11]) rfl rfl HT_ ?_
           refine pP 23 33 (bR [24, 10]) rfl rfl HT_ ?_
           refine pP 24 34 (bR [25, 9]) rfl rfl HT_ ?_
           refine pP 26 36 (bR [25, 1, 1, 7]) rfl rfl HT_ ?_
           refine pP 27 37 (bR [25, 1, 2, 6]) rfl rfl HT_ ?_
           refine pP 28 38 (bR [25, 1, 3, 5]) rfl rfl HT_ ?_
           refine pP 29 39 (bR [25, 1, 4, 4]) rfl rfl HT_ ?_
           refine take_ (i := 25) (N := some 35) (v := ?_) (a' := ?_) (bR [30, 4]) rfl rfl (take_ofW HT_.out HW_.out (by kernel_rfl)) (fun _ _ _ h => h) (Or.inl ⟨by rfl, ?_⟩) hHeld ?_ ?_
           rotate_left; (rintro w' ⟨s0, s1, s2, s3, s4, s5, s6, s7⟩; go_simp; with_reducible rfl); rotate_left; (simp only [Act.put, sA, sZ, sS, i64_w]; rfl)
           refine take_ (i := 30) (N := some 40) (v := ?_) (a' := ?_) (bR [31, 3]) rfl rfl (take_ofW HT_.out HW_.out (by kernel_rfl)) (fun _ _ _ h => h) (Or.inl ⟨by rfl, ?_⟩) hHeld ?_ ?_
           rotate_left; (rintro w' ⟨s0, s1, s2, s3, s4, s5, s6, s7⟩; go_simp; with_reducible rfl); rotate_left; (simp only [Act.put, sA, sZ, sS, i64_w]; rfl)
           refine pP 31 41 (bR [32, 2]) rfl rfl HT_ ?_
           refine pP 32 42 (bR [33, 1]) rfl rfl HT_ ?_
           refine pP 33 43 (bR [34]) rfl rfl HT_ ?_
           refine done_ (done_of HT_.out (by kernel_rfl)) ?_
           try go_wp2
           go_ret
           exact ⟨by first | rfl | (simp [errW_none, errW_some] <;> rfl) | (simp only [← hji9]; first | rfl | (simp [errW_none, errW_some] <;> rfl)) | (simp [*, errW_none, errW_some] <;> rfl), by repeat (first | (with_reducible first | exact HB.out | apply bA | apply bN | apply bD) | exact HB.out)⟩
          ·rw [if_neg c12] at H
           have c12b0 : decide (((rd_T30 l0 x3_1).f0) ≤ ((rd_T30 l0 (ji9)).f0)) = false := decide_eq_false c12
           clear c12
           have H' := Aside0.mk H
           clear H
           try go_wp2
           have n0_ := Aside0.mk (below_drew1 HB.out)
           clear HB
           have HB := n0_
           clear n0_
           have p101 : 0 ≤ (x3_1 : Int) := of_decide_eq_true ‹_›
           have q101 : x3_1 < (l0.length : Int) := of_decide_eq_true ‹_›
           obtain ⟨ad101, e101, hx101_0, hx101_1⟩ := at_T30 HR0.out x3_1 p101 q101
           have hw101_1 := hx101_1
           have hw101_0 := hx101_0
           cases e101
           replace hx101_0 := (HB.out.cell (World.block_lt_of_cell? w _ hx101_0)).trans hx101_0
           replace hx101_1 := (HB.out.cell (World.block_lt_of_cell? w _ hx101_1)).trans hx101_1
           replace p101 := eq_true p101
           replace q101 := eq_true q101
           have p103 : 0 ≤ (x3_1 : Int) := of_decide_eq_true ‹_›
           have q103 : x3_1 < (l0.length : Int) := of_decide_eq_true ‹_›
           obtain ⟨ad103, e103, hx103_0, hx103_1⟩ := at_T30 HR0.out x3_1 p103 q103
           have hw103_1 := hx103_1
           have hw103_0 := hx103_0
           obtain rfl : ad101 = ad103 := (by injection e103)
           replace hx103_0 := (HB.out.cell (World.block_lt_of_cell? w _ hx103_0)).trans hx103_0
           replace hx103_1 := (HB.out.cell (World.block_lt_of_cell? w _ hx103_1)).trans hx103_1
           replace p103 := eq_true p103
           replace q103 := eq_true q103
           have p105 : 0 ≤ ((ji9) : Int) := of_decide_eq_true ‹_›
           have q105 : (ji9) < (l0.length : Int) := of_decide_eq_true ‹_›
           obtain ⟨ad105, e105, hx105_0, hx105_1⟩ := at_T30 HR0.out (ji9) p105 q105
           have hw105_1 := hx105_1
           have hw105_0 := hx105_0
           obtain rfl : ad101 = ad105 := (by injection e105)
           replace hx105_0 := (HB.out.cell (World.block_lt_of_cell? w _ hx105_0)).trans hx105_0
           replace hx105_1 := (HB.out.cell (World.block_lt_of_cell? w _ hx105_1)).trans hx105_1
           replace p105 := eq_true p105
           replace q105 := eq_true q105
           have p106 : 0 ≤ (x3_1 : Int) := of_decide_eq_true ‹_›
           have q106 : x3_1 < (l0.length : Int) := of_decide_eq_true ‹_›
           obtain ⟨ad106, e106, hx106_0, hx106_1⟩ := at_T30 HR0.out x3_1 p106 q106
           have hw106_1 := hx106_1
           have hw106_0 := hx106_0
           obtain rfl : ad101 = ad106 := (by injection e106)
           replace hx106_0 := (HB.out.cell (World.block_lt_of_cell? w _ hx106_0)).trans hx106_0
           replace hx106_1 := (HB.out.cell (World.block_lt_of_cell? w _ hx106_1)).trans hx106_1
           replace p106 := eq_true p106
           replace q106 := eq_true q106
           refine start_ (n := 34) (S := fun w' => w'.cell? (ad101.add ((x3_1).toNat * 2)) = some (.int .i64 ((rd_T30 l0 x3_1).f0)) ∧ w'.cell? ⟨(ad101.add ((x3_1).toNat * 2)).block, (ad101.add ((x3_1).toNat * 2)).off + 1, none⟩ = some (.int .i64 ((rd_T30 l0 x3_1).f1)) ∧ w'.cell? (ad101.add ((x3_1).toNat * 2)) = some (.int .i64 ((rd_T30 l0 x3_1).f0)) ∧ w'.cell? ⟨(ad101.add ((x3_1).toNat * 2)).block, (ad101.add ((x3_1).toNat * 2)).off + 1, none⟩ = some (.int .i64 ((rd_T30 l0 x3_1).f1)) ∧ w'.cell? (ad101.add (((ji9)).toNat * 2)) = some (.int .i64 ((rd_T30 l0 (ji9)).f0)) ∧ w'.cell? ⟨(ad101.add (((ji9)).toNat * 2)).block, (ad101.add (((ji9)).toNat * 2)).off + 1, none⟩ = some (.int .i64 ((rd_T30 l0 (ji9)).f1)) ∧ w'.cell? (ad101.add ((x3_1).toNat * 2)) = some (.int .i64 ((rd_T30 l0 x3_1).f0)) ∧ w'.cell? ⟨(ad101.add ((x3_1).toNat * 2)).block, (ad101.add ((x3_1).toNat * 2)).off + 1, none⟩ = some (.int .i64 ((rd_T30 l0 x3_1).f1))) (ds := []) (bR [0, 34]) (by kernel_rfl) rfl rfl ⟨((HB.out.cell (World.block_lt_of_cell? w _ hw101_0)).trans hw101_0), ((HB.out.cell (World.block_lt_of_cell? w _ hw101_1)).trans hw101_1), ((HB.out.cell (World.block_lt_of_cell? w _ hw103_0)).trans hw103_0), ((HB.out.cell (World.block_lt_of_cell? w _ hw103_1)).trans hw103_1), ((HB.out.cell (World.block_lt_of_cell? w _ hw105_0)).trans hw105_0), ((HB.out.cell (World.block_lt_of_cell? w _ hw105_1)).trans hw105_1), ((HB.out.cell (World.block_lt_of_cell? w _ hw106_0)).trans hw106_0), ((HB.out.cell (World.block_lt_of_cell? w _ hw106_1)).trans hw106_1)⟩ (fun hHeld => ?_); refine with_tabW spec_AreMarks.tab4 spec_AreMarks.bits4 (fun HT_ HW_ => ?_)
           generalize wr.drew = w14 at HB hx101_0 hx101_1 hx103_0 hx103_1 hx105_0 hx105_1 hx106_0 hx106_1 hHeld ⊢
           refine pP 0 10 (bR [1, 33]) rfl rfl HT_ ?_
           refine pP 1 11 (bR [2, 32]) rfl rfl HT_ ?_
           refine pP 2 12 (bR [3, 31]) rfl rfl HT_ ?_
           refine pP 3 13 (bR [4, 30]) rfl rfl HT_ ?_
           refine take_ (i := 4) (N := some 14) (v := ?_) (a' := ?_) (bR [5, 29]) rfl rfl (take_ofW HT_.out HW_.out (by kernel_rfl)) (fun _ _ _ h => h) (Or.inl ⟨by rfl, ?_⟩) hHeld ?_ ?_
           rotate_left; (rintro w' ⟨s0, s1, s2, s3, s4, s5, s6, s7⟩; go_simp; with_reducible rfl); rotate_left; (simp only [Act.put, sA, sZ, sS, i64_w]; rfl)
           refine one_ (i := 5) (N := some 15) (bR [6, 28]) rfl rfl (one_of HT_.out (by kernel_rfl)) (by decide) (fun K hK => ?_)
           refine goes_ Try.func176 (by kernel_rfl) rfl #[.int .i64 ((rd_T30 l0 x3_1).f0), .int .i64 1, .int .i64 20] (by rfl) rfl rfl (by (try simp only [mA, mC, mN]); first | done | rfl | (simp only [lD, lT]; rfl)) ?_
           with_reducible refine (spec_l1In.calls ((rd_T30 l0 x3_1).f0) 1 20 true _ A4.out).mono ?_
           rintro e w' ⟨rfl, ⟨nd, rfl⟩⟩
           refine ⟨_, rfl, ?_⟩
           refine hK.out _ _ ⟨((HB.out.cell (World.block_lt_of_cell? w _ hw101_0)).trans hw101_0), ((HB.out.cell (World.block_lt_of_cell? w _ hw101_1)).trans hw101_1), ((HB.out.cell (World.block_lt_of_cell? w _ hw103_0)).trans hw103_0), ((HB.out.cell (World.block_lt_of_cell? w _ hw103_1)).trans hw103_1), ((HB.out.cell (World.block_lt_of_cell? w _ hw105_0)).trans hw105_0), ((HB.out.cell (World.block_lt_of_cell? w _ hw105_1)).trans hw105_1), ((HB.out.cell (World.block_lt_of_cell? w _ hw106_0)).trans hw106_0), ((HB.out.cell (World.block_lt_of_cell? w _ hw106_1)).trans hw106_1)⟩ (fun hHeld => ?_)
           clear hK K
           refine norm_ (a' := ?_) ?_ ?_
           rotate_left
           ·show Act.put _ (some 15) _ = _
            simp only [Act.put, sA, sZ, sS, i64_w]
            rfl
           refine pP 6 16 (bR [7, 27]) rfl rfl HT_ ?_
           refine pP 7 17 (bR [8, 26]) rfl rfl HT_ ?_
           refine pP 8 18 (bR [9, 25]) rfl rfl HT_ ?_
           refine pP 9 19 (bR [10, 24]) rfl rfl HT_ ?_
           refine pP 10 20 (bR [11, 23]) rfl rfl HT_ ?_
           refine pP 11 21 (bR [12, 22]) rfl rfl HT_ ?_
           refine take_ (i := 12) (N := some 22) (v := ?_) (a' := ?_) (bR [13, 21]) rfl rfl (take_ofW HT_.out HW_.out (by kernel_rfl)) (fun _ _ _ h => h) (Or.inl ⟨by rfl, ?_⟩) hHeld ?_ ?_
           rotate_left; (rintro w' ⟨s0, s1, s2, s3, s4, s5, s6, s7⟩; go_simp; with_reducible rfl); rotate_left; (simp only [Act.put, sA, sZ, sS, i64_w]; rfl)
           refine one_ (i := 13) (N := some 23) (bR [14, 20]) rfl rfl (one_of HT_.out (by kernel_rfl)) (by decide) (fun K hK => ?_)
           refine goes_ Try.func176 (by kernel_rfl) rfl #[.int .i64 ((rd_T30 l0 x3_1).f1), .int .i64 0, .int .i64 99] (by rfl) rfl rfl (by (try simp only [mA, mC, mN]); first | done | rfl | (simp only [lD, lT]; rfl)) ?_
           with_reducible refine (spec_l1In.calls ((rd_T30 l0 x3_1).f1) 0 99 true _ A6.out).mono ?_
           rintro e w' ⟨rfl, ⟨nd, rfl⟩⟩
           refine ⟨_, rfl, ?_⟩
           refine hK.out _ _ ⟨((HB.out.cell (World.block_lt_of_cell? w _ hw101_0)).trans hw101_0), ((HB.out.cell (World.block_lt_of_cell? w _ hw101_1)).trans hw101_1), ((HB.out.cell (World.block_lt_of_cell? w _ hw103_0)).trans hw103_0), ((HB.out.cell (World.block_lt_of_cell? w _ hw103_1)).trans hw103_1), ((HB.out.cell (World.block_lt_of_cell? w _ hw105_0)).trans hw105_0), ((HB.out.cell (World.block_lt_of_cell? w _ hw105_1)).trans hw105_1), ((HB.out.cell (World.block_lt_of_cell? w _ hw106_0)).trans hw106_0), ((HB.out.cell (World.block_lt_of_cell? w _ hw106_1)).trans hw106_1)⟩ (fun hHeld => ?_)
           clear hK K
           refine norm_ (a' := ?_) ?_ ?_
           rotate_left
           ·show Act.put _ (some 23) _ = _
            simp only [Act.put, sA, sZ, sS, i64_w]
            rfl
           refine pP 14 24 (bR [15, 19]) rfl rfl HT_ ?_
           refine pP 15 25 (bR [16, 18]) rfl rfl HT_ ?_
           refine pP 16 26 (bR [17, 17]) rfl rfl HT_ ?_
           refine pP 17 27 (bR [18, 16]) rfl rfl HT_ ?_
           refine pP 18 28 (bR [19, 15]) rfl rfl HT_ ?_
           refine pP 19 29 (bR [20, 14]) rfl rfl HT_ ?_
           refine pP 20 30 (bR [21, 13]) rfl rfl HT_ ?_
           refine pP 21 31 (bR [22, 12]) rfl rfl HT_ ?_
           refine pP 22 32 (bR [23, 11]) rfl rfl HT_ ?_
           refine pP 23 33 (bR [24, 10]) rfl rfl HT_ ?_
           refine pP 24 34 (bR [25, 9]) rfl rfl HT_ ?_
           refine pP 26 36 (bR [25, 1, 1, 7]) rfl rfl HT_ ?_
           refine pP 27 37 (bR [25, 1, 2, 6]) rfl rfl HT_ ?_
           refine pP 28 38 (bR [25, 1, 3, 5]) rfl rfl HT_ ?_
           refine pP 29 39 (bR [25, 1, 4, 4]) rfl rfl HT_ ?_
           refine take_ (i := 25) (N := some 35) (v := ?_) (a' := ?_) (bR [30, 4]) rfl rfl (take_ofW HT_.out HW_.out (by kernel_rfl)) (fun _ _ _ h => h) (Or.inl ⟨by rfl, ?_⟩) hHeld ?_ ?_
           rotate_left; (rintro w' ⟨s0, s1, s2, s3, s4, s5, s6, s7⟩; go_simp; with_reducible rfl); rotate_left; (simp only [Act.put, sA, sZ, sS, i64_w]; rfl)
           refine take_ (i := 30) (N := some 40) (v := ?_) (a' := ?_) (bR [31, 3]) rfl rfl (take_ofW HT_.out HW_.out (by kernel_rfl)) (fun _ _ _ h => h) (Or.inl ⟨by rfl, ?_⟩) hHeld ?_ ?_
           rotate_left; (rintro w' ⟨s0, s1, s2, s3, s4, s5, s6, s7⟩; go_simp; with_reducible rfl); rotate_left; (simp only [Act.put, sA, sZ, sS, i64_w]; rfl)
           refine pP 31 41 (bR [32, 2]) rfl rfl HT_ ?_
           refine pP 32 42 (bR [33, 1]) rfl rfl HT_ ?_
           refine pP 33 43 (bR [34]) rfl rfl HT_ ?_
           refine done_ (done_of HT_.out (by kernel_rfl)) ?_
           try go_wp2
           go_roundg k1
           case measure => have := HK1.out; omega
           case rel => exact ⟨(wrap64 (x3_1 + 1)), (by first | rfl | (simp; done) | (simp [*]; done)), H', ⟨by have := HK1.out; omega⟩, ⟨by repeat (first | (with_reducible first | exact HB.out | apply bA | apply bN | apply bD) | exact HB.out)⟩⟩
         ·rw [if_neg c11] at H
          exact absurd H (by simp)
        ·rw [if_neg c10] at H
         exact absurd H (by simp)
       ·rw [if_neg c8] at H
        have c8b0 : decide (0 < x3_1) = false := decide_eq_false c8
        clear c8
        have H' := Aside0.mk H
        clear H
        try go_wp2
        have n0_ := Aside0.mk (below_drew1 HB.out)
        clear HB
        have HB := n0_
        clear n0_
        have p101 : 0 ≤ (x3_1 : Int) := of_decide_eq_true ‹_›
        have q101 : x3_1 < (l0.length : Int) := of_decide_eq_true ‹_›
        obtain ⟨ad101, e101, hx101_0, hx101_1⟩ := at_T30 HR0.out x3_1 p101 q101
        have hw101_1 := hx101_1
        have hw101_0 := hx101_0
        cases e101
        replace hx101_0 := (HB.out.cell (World.block_lt_of_cell? w _ hx101_0)).trans hx101_0
        replace hx101_1 := (HB.out.cell (World.block_lt_of_cell? w _ hx101_1)).trans hx101_1
        replace p101 := eq_true p101
        replace q101 := eq_true q101
        have p103 : 0 ≤ (x3_1 : Int) := of_decide_eq_true ‹_›
        have q103 : x3_1 < (l0.length : Int) := of_decide_eq_true ‹_›
        obtain ⟨ad103, e103, hx103_0, hx103_1⟩ := at_T30 HR0.out x3_1 p103 q103
        have hw103_1 := hx103_1
        have hw103_0 := hx103_0
        obtain rfl : ad101 = ad103 := (by injection e103)
        replace hx103_0 := (HB.out.cell (World.block_lt_of_cell? w _ hx103_0)).trans hx103_0
        replace hx103_1 := (HB.out.cell (World.block_lt_of_cell? w _ hx103_1)).trans hx103_1
        replace p103 := eq_true p103
        replace q103 := eq_true q103
        refine start_ (n := 34) (S := fun w' => w'.cell? (ad101.add ((x3_1).toNat * 2)) = some (.int .i64 ((rd_T30 l0 x3_1).f0)) ∧ w'.cell? ⟨(ad101.add ((x3_1).toNat * 2)).block, (ad101.add ((x3_1).toNat * 2)).off + 1, none⟩ = some (.int .i64 ((rd_T30 l0 x3_1).f1)) ∧ w'.cell? (ad101.add ((x3_1).toNat * 2)) = some (.int .i64 ((rd_T30 l0 x3_1).f0)) ∧ w'.cell? ⟨(ad101.add ((x3_1).toNat * 2)).block, (ad101.add ((x3_1).toNat * 2)).off + 1, none⟩ = some (.int .i64 ((rd_T30 l0 x3_1).f1))) (ds := []) (bR [0, 34]) (by kernel_rfl) rfl rfl ⟨((HB.out.cell (World.block_lt_of_cell? w _ hw101_0)).trans hw101_0), ((HB.out.cell (World.block_lt_of_cell? w _ hw101_1)).trans hw101_1), ((HB.out.cell (World.block_lt_of_cell? w _ hw103_0)).trans hw103_0), ((HB.out.cell (World.block_lt_of_cell? w _ hw103_1)).trans hw103_1)⟩ (fun hHeld => ?_); refine with_tabW spec_AreMarks.tab4 spec_AreMarks.bits4 (fun HT_ HW_ => ?_)
        generalize wr.drew = w15 at HB hx101_0 hx101_1 hx103_0 hx103_1 hHeld ⊢
        refine pP 0 10 (bR [1, 33]) rfl rfl HT_ ?_
        refine pP 1 11 (bR [2, 32]) rfl rfl HT_ ?_
        refine pP 2 12 (bR [3, 31]) rfl rfl HT_ ?_
        refine pP 3 13 (bR [4, 30]) rfl rfl HT_ ?_
        refine take_ (i := 4) (N := some 14) (v := ?_) (a' := ?_) (bR [5, 29]) rfl rfl (take_ofW HT_.out HW_.out (by kernel_rfl)) (fun _ _ _ h => h) (Or.inl ⟨by rfl, ?_⟩) hHeld ?_ ?_
        rotate_left; (rintro w' ⟨s0, s1, s2, s3⟩; go_simp; with_reducible rfl); rotate_left; (simp only [Act.put, sA, sZ, sS, i64_w]; rfl)
        refine one_ (i := 5) (N := some 15) (bR [6, 28]) rfl rfl (one_of HT_.out (by kernel_rfl)) (by decide) (fun K hK => ?_)
        refine goes_ Try.func176 (by kernel_rfl) rfl #[.int .i64 ((rd_T30 l0 x3_1).f0), .int .i64 1, .int .i64 20] (by rfl) rfl rfl (by (try simp only [mA, mC, mN]); first | done | rfl | (simp only [lD, lT]; rfl)) ?_
        with_reducible refine (spec_l1In.calls ((rd_T30 l0 x3_1).f0) 1 20 true _ A4.out).mono ?_
        rintro e w' ⟨rfl, ⟨nd, rfl⟩⟩
        refine ⟨_, rfl, ?_⟩
        refine hK.out _ _ ⟨((HB.out.cell (World.block_lt_of_cell? w _ hw101_0)).trans hw101_0), ((HB.out.cell (World.block_lt_of_cell? w _ hw101_1)).trans hw101_1), ((HB.out.cell (World.block_lt_of_cell? w _ hw103_0)).trans hw103_0), ((HB.out.cell (World.block_lt_of_cell? w _ hw103_1)).trans hw103_1)⟩ (fun hHeld => ?_)
        clear hK K
        refine norm_ (a' := ?_) ?_ ?_
        rotate_left
        ·show Act.put _ (some 15) _ = _
         simp only [Act.put, sA, sZ, sS, i64_w]
         rfl
        refine pP 6 16 (bR [7, 27]) rfl rfl HT_ ?_
        refine pP 7 17 (bR [8, 26]) rfl rfl HT_ ?_
        refine pP 8 18 (bR [9, 25]) rfl rfl HT_ ?_
        refine pP 9 19 (bR [10, 24]) rfl rfl HT_ ?_
        refine pP 10 20 (bR [11, 23]) rfl rfl HT_ ?_
        refine pP 11 21 (bR [12, 22]) rfl rfl HT_ ?_
        refine take_ (i := 12) (N := some 22) (v := ?_) (a' := ?_) (bR [13, 21]) rfl rfl (take_ofW HT_.out HW_.out (by kernel_rfl)) (fun _ _ _ h => h) (Or.inl ⟨by rfl, ?_⟩) hHeld ?_ ?_
        rotate_left; (rintro w' ⟨s0, s1, s2, s3⟩; go_simp; with_reducible rfl); rotate_left; (simp only [Act.put, sA, sZ, sS, i64_w]; rfl)
        refine one_ (i := 13) (N := some 23) (bR [14, 20]) rfl rfl (one_of HT_.out (by kernel_rfl)) (by decide) (fun K hK => ?_)
        refine goes_ Try.func176 (by kernel_rfl) rfl #[.int .i64 ((rd_T30 l0 x3_1).f1), .int .i64 0, .int .i64 99] (by rfl) rfl rfl (by (try simp only [mA, mC, mN]); first | done | rfl | (simp only [lD, lT]; rfl)) ?_
        with_reducible refine (spec_l1In.calls ((rd_T30 l0 x3_1).f1) 0 99 true _ A6.out).mono ?_
        rintro e w' ⟨rfl, ⟨nd, rfl⟩⟩
        refine ⟨_, rfl, ?_⟩
        refine hK.out _ _ ⟨((HB.out.cell (World.block_lt_of_cell? w _ hw101_0)).trans hw101_0), ((HB.out.cell (World.block_lt_of_cell? w _ hw101_1)).trans hw101_1), ((HB.out.cell (World.block_lt_of_cell? w _ hw103_0)).trans hw103_0), ((HB.out.cell (World.block_lt_of_cell? w _ hw103_1)).trans hw103_1)⟩ (fun hHeld => ?_)
        clear hK K
        refine norm_ (a' := ?_) ?_ ?_
        rotate_left
        ·show Act.put _ (some 23) _ = _
         simp only [Act.put, sA, sZ, sS, i64_w]
         rfl
        refine pP 14 24 (bR [15, 19]) rfl rfl HT_ ?_
        refine pP 15 25 (bR [16, 18]) rfl rfl HT_ ?_
        refine pP 16 26 (bR [17, 17]) rfl rfl HT_ ?_
        refine pP 17 27 (bR [18, 16]) rfl rfl HT_ ?_
        refine pP 18 28 (bR [19, 15]) rfl rfl HT_ ?_
        refine pP 19 29 (bR [20, 14]) rfl rfl HT_ ?_
        refine pU 20 30 (bR [21, 13]) rfl rfl HT_ ?_
        refine pU 21 31 (bR [22, 12]) rfl rfl HT_ ?_
        refine pU 22 32 (bR [23, 11]) rfl rfl HT_ ?_
        refine pU 23 33 (bR [24, 10]) rfl rfl HT_ ?_
        refine pU 24 34 (bR [25, 9]) rfl rfl HT_ ?_
        refine pU 25 35 (bR [26, 8]) rfl rfl HT_ ?_
        refine pU 26 36 (bR [27, 7]) rfl rfl HT_ ?_
        refine pU 27 37 (bR [28, 6]) rfl rfl HT_ ?_
        refine pU 28 38 (bR [29, 5]) rfl rfl HT_ ?_
        refine pU 29 39 (bR [30, 4]) rfl rfl HT_ ?_
        refine pU 30 40 (bR [31, 3]) rfl rfl HT_ ?_
        refine pU 31 41 (bR [32, 2]) rfl rfl HT_ ?_
        refine pP 32 42 (bR [33, 1]) rfl rfl HT_ ?_
        refine pP 33 43 (bR [34]) rfl rfl HT_ ?_
        refine done_ (done_of HT_.out (by kernel_rfl)) ?_
        try go_wp2
        go_roundg k1
        case measure => have := HK1.out; omega
        case rel => exact ⟨(wrap64 (x3_1 + 1)), (by first | rfl | (simp; done) | (simp [*]; done)), H', ⟨by have := HK1.out; omega⟩, ⟨by repeat (first | (with_reducible first | exact HB.out | apply bA | apply bN | apply bD) | exact HB.out)⟩⟩
      ·replace c7 := Bool.eq_false_iff.mpr c7
       subst c7
       have H1 : (some false) = some r := by rw [if_neg (show ¬ (false = true) by decide)] at H; exact H
       clear H
       have H := H1
       clear H1
       obtain rfl := Option.some.inj H
       try go_wp2
       have n0_ := Aside0.mk (below_drew1 HB.out)
       clear HB
       have HB := n0_
       clear n0_
       have p101 : 0 ≤ (x3_1 : Int) := of_decide_eq_true ‹_›
       have q101 : x3_1 < (l0.length : Int) := of_decide_eq_true ‹_›
       obtain ⟨ad101, e101, hx101_0, hx101_1⟩ := at_T30 HR0.out x3_1 p101 q101
       have hw101_1 := hx101_1
       have hw101_0 := hx101_0
       cases e101
       replace hx101_0 := (HB.out.cell (World.block_lt_of_cell? w _ hx101_0)).trans hx101_0
       replace hx101_1 := (HB.out.cell (World.block_lt_of_cell? w _ hx101_1)).trans hx101_1
       replace p101 := eq_true p101
       replace q101 := eq_true q101
       have p103 : 0 ≤ (x3_1 : Int) := of_decide_eq_true ‹_›
       have q103 : x3_1 < (l0.length : Int) := of_decide_eq_true ‹_›
       obtain ⟨ad103, e103, hx103_0, hx103_1⟩ := at_T30 HR0.out x3_1 p103 q103
       have hw103_1 := hx103_1
       have hw103_0 := hx103_0
       obtain rfl : ad101 = ad103 := (by injection e103)
       replace hx103_0 := (HB.out.cell (World.block_lt_of_cell? w _ hx103_0)).trans hx103_0
       replace hx103_1 := (HB.out.cell (World.block_lt_of_cell? w _ hx103_1)).trans hx103_1
       replace p103 := eq_true p103
       replace q103 := eq_true q103
       refine start_ (n := 34) (S := fun w' => w'.cell? (ad101.add ((x3_1).toNat * 2)) = some (.int .i64 ((rd_T30 l0 x3_1).f0)) ∧ w'.cell? ⟨(ad101.add ((x3_1).toNat * 2)).block, (ad101.add ((x3_1).toNat * 2)).off + 1, none⟩ = some (.int .i64 ((rd_T30 l0 x3_1).f1)) ∧ w'.cell? (ad101.add ((x3_1).toNat * 2)) = some (.int .i64 ((rd_T30 l0 x3_1).f0)) ∧ w'.cell? ⟨(ad101.add ((x3_1).toNat * 2)).block, (ad101.add ((x3_1).toNat * 2)).off + 1, none⟩ = some (.int .i64 ((rd_T30 l0 x3_1).f1))) (ds := []) (bR [0, 34]) (by kernel_rfl) rfl rfl ⟨((HB.out.cell (World.block_lt_of_cell? w _ hw101_0)).trans hw101_0), ((HB.out.cell (World.block_lt_of_cell? w _ hw101_1)).trans hw101_1), ((HB.out.cell (World.block_lt_of_cell? w _ hw103_0)).trans hw103_0), ((HB.out.cell (World.block_lt_of_cell? w _ hw103_1)).trans hw103_1)⟩ (fun hHeld => ?_); refine with_tabW spec_AreMarks.tab4 spec_AreMarks.bits4 (fun HT_ HW_ => ?_)
       generalize wr.drew = w16 at HB hx101_0 hx101_1 hx103_0 hx103_1 hHeld ⊢
       refine pP 0 10 (bR [1, 33]) rfl rfl HT_ ?_
       refine pP 1 11 (bR [2, 32]) rfl rfl HT_ ?_
       refine pP 2 12 (bR [3, 31]) rfl rfl HT_ ?_
       refine pP 3 13 (bR [4, 30]) rfl rfl HT_ ?_
       refine take_ (i := 4) (N := some 14) (v := ?_) (a' := ?_) (bR [5, 29]) rfl rfl (take_ofW HT_.out HW_.out (by kernel_rfl)) (fun _ _ _ h => h) (Or.inl ⟨by rfl, ?_⟩) hHeld ?_ ?_
       rotate_left; (rintro w' ⟨s0, s1, s2, s3⟩; go_simp; with_reducible rfl); rotate_left; (simp only [Act.put, sA, sZ, sS, i64_w]; rfl)
       refine one_ (i := 5) (N := some 15) (bR [6, 28]) rfl rfl (one_of HT_.out (by kernel_rfl)) (by decide) (fun K hK => ?_)
       refine goes_ Try.func176 (by kernel_rfl) rfl #[.int .i64 ((rd_T30 l0 x3_1).f0), .int .i64 1, .int .i64 20] (by rfl) rfl rfl (by (try simp only [mA, mC, mN]); first | done | rfl | (simp only [lD, lT]; rfl)) ?_
       with_reducible refine (spec_l1In.calls ((rd_T30 l0 x3_1).f0) 1 20 true _ A4.out).mono ?_
       rintro e w' ⟨rfl, ⟨nd, rfl⟩⟩
       refine ⟨_, rfl, ?_⟩
       refine hK.out _ _ ⟨((HB.out.cell (World.block_lt_of_cell? w _ hw101_0)).trans hw101_0), ((HB.out.cell (World.block_lt_of_cell? w _ hw101_1)).trans hw101_1), ((HB.out.cell (World.block_lt_of_cell? w _ hw103_0)).trans hw103_0), ((HB.out.cell (World.block_lt_of_cell? w _ hw103_1)).trans hw103_1)⟩ (fun hHeld => ?_)
       clear hK K
       refine norm_ (a' := ?_) ?_ ?_
       rotate_left
       ·show Act.put _ (some 15) _ = _
        simp only [Act.put, sA, sZ, sS, i64_w]
        rfl
       refine pP 6 16 (bR [7, 27]) rfl rfl HT_ ?_
       refine pP 7 17 (bR [8, 26]) rfl rfl HT_ ?_
       refine pP 8 18 (bR [9, 25]) rfl rfl HT_ ?_
       refine pP 9 19 (bR [10, 24]) rfl rfl HT_ ?_
       refine pP 10 20 (bR [11, 23]) rfl rfl HT_ ?_
       refine pP 11 21 (bR [12, 22]) rfl rfl HT_ ?_
       refine take_ (i := 12) (N := some 22) (v := ?_) (a' := ?_) (bR [13, 21]) rfl rfl (take_ofW HT_.out HW_.out (by kernel_rfl)) (fun _ _ _ h => h) (Or.inl ⟨by rfl, ?_⟩) hHeld ?_ ?_
       rotate_left; (rintro w' ⟨s0, s1, s2, s3⟩; go_simp; with_reducible rfl); rotate_left; (simp only [Act.put, sA, sZ, sS, i64_w]; rfl)
       refine one_ (i := 13) (N := some 23) (bR [14, 20]) rfl rfl (one_of HT_.out (by kernel_rfl)) (by decide) (fun K hK => ?_)
       refine goes_ Try.func176 (by kernel_rfl) rfl #[.int .i64 ((rd_T30 l0 x3_1).f1), .int .i64 0, .int .i64 99] (by rfl) rfl rfl (by (try simp only [mA, mC, mN]); first | done | rfl | (simp only [lD, lT]; rfl)) ?_
       with_reducible refine (spec_l1In.calls ((rd_T30 l0 x3_1).f1) 0 99 false _ A6.out).mono ?_
       rintro e w' ⟨rfl, ⟨nd, rfl⟩⟩
       refine ⟨_, rfl, ?_⟩
       refine hK.out _ _ ⟨((HB.out.cell (World.block_lt_of_cell? w _ hw101_0)).trans hw101_0), ((HB.out.cell (World.block_lt_of_cell? w _ hw101_1)).trans hw101_1), ((HB.out.cell (World.block_lt_of_cell? w _ hw103_0)).trans hw103_0), ((HB.out.cell (World.block_lt_of_cell? w _ hw103_1)).trans hw103_1)⟩ (fun hHeld => ?_)
       clear hK K
       refine norm_ (a' := ?_) ?_ ?_
       rotate_left
       ·show Act.put _ (some 23) _ = _
        simp only [Act.put, sA, sZ, sS, i64_w]
        rfl
       refine pP 14 24 (bR [15, 19]) rfl rfl HT_ ?_
       refine pP 15 25 (bR [16, 18]) rfl rfl HT_ ?_
       refine pP 16 26 (bR [17, 17]) rfl rfl HT_ ?_
       refine pU 17 27 (bR [18, 16]) rfl rfl HT_ ?_
       refine pU 18 28 (bR [19, 15]) rfl rfl HT_ ?_
       refine pU 19 29 (bR [20, 14]) rfl rfl HT_ ?_
       refine pU 20 30 (bR [21, 13]) rfl rfl HT_ ?_
       refine pU 21 31 (bR [22, 12]) rfl rfl HT_ ?_
       refine pU 22 32 (bR [23, 11]) rfl rfl HT_ ?_
       refine pU 23 33 (bR [24, 10]) rfl rfl HT_ ?_
       refine pU 24 34 (bR [25, 9]) rfl rfl HT_ ?_
       refine pU 25 35 (bR [26, 8]) rfl rfl HT_ ?_
       refine pU 26 36 (bR [27, 7]) rfl rfl HT_ ?_
       refine pU 27 37 (bR [28, 6]) rfl rfl HT_ ?_
       refine pU 28 38 (bR [29, 5]) rfl rfl HT_ ?_
       refine pU 29 39 (bR [30, 4]) rfl rfl HT_ ?_
       refine pU 30 40 (bR [31, 3]) rfl rfl HT_ ?_
       refine pU 31 41 (bR [32, 2]) rfl rfl HT_ ?_
       refine pU 32 42 (bR [33, 1]) rfl rfl HT_ ?_
       refine pP 33 43 (bR [34]) rfl rfl HT_ ?_
       refine done_ (done_of HT_.out (by kernel_rfl)) ?_
       try go_wp2
       go_ret
       exact ⟨by first | rfl | (simp [errW_none, errW_some] <;> rfl) | (simp [*, errW_none, errW_some] <;> rfl), by repeat (first | (with_reducible first | exact HB.out | apply bA | apply bN | apply bD) | exact HB.out)⟩
     ·replace c5 := Bool.eq_false_iff.mpr c5
      subst c5
      have H1 : (some false) = some r := by rw [if_neg (show ¬ (false = true) by decide)] at H; exact H
      clear H
      have H := H1
      clear H1
      obtain rfl := Option.some.inj H
      try go_wp2
      have n0_ := Aside0.mk (below_drew1 HB.out)
      clear HB
      have HB := n0_
      clear n0_
      have p101 : 0 ≤ (x3_1 : Int) := of_decide_eq_true ‹_›
      have q101 : x3_1 < (l0.length : Int) := of_decide_eq_true ‹_›
      obtain ⟨ad101, e101, hx101_0, hx101_1⟩ := at_T30 HR0.out x3_1 p101 q101
      have hw101_1 := hx101_1
      have hw101_0 := hx101_0
      cases e101
      replace hx101_0 := (HB.out.cell (World.block_lt_of_cell? w _ hx101_0)).trans hx101_0
      replace hx101_1 := (HB.out.cell (World.block_lt_of_cell? w _ hx101_1)).trans hx101_1
      replace p101 := eq_true p101
      replace q101 := eq_true q101
      refine start_ (n := 34) (S := fun w' => w'.cell? (ad101.add ((x3_1).toNat * 2)) = some (.int .i64 ((rd_T30 l0 x3_1).f0)) ∧ w'.cell? ⟨(ad101.add ((x3_1).toNat * 2)).block, (ad101.add ((x3_1).toNat * 2)).off + 1, none⟩ = some (.int .i64 ((rd_T30 l0 x3_1).f1))) (ds := []) (bR [0, 34]) (by kernel_rfl) rfl rfl ⟨((HB.out.cell (World.block_lt_of_cell? w _ hw101_0)).trans hw101_0), ((HB.out.cell (World.block_lt_of_cell? w _ hw101_1)).trans hw101_1)⟩ (fun hHeld => ?_); refine with_tabW spec_AreMarks.tab4 spec_AreMarks.bits4 (fun HT_ HW_ => ?_)
      generalize wr.drew = w17 at HB hx101_0 hx101_1 hHeld ⊢
      refine pP 0 10 (bR [1, 33]) rfl rfl HT_ ?_
      refine pP 1 11 (bR [2, 32]) rfl rfl HT_ ?_
      refine pP 2 12 (bR [3, 31]) rfl rfl HT_ ?_
      refine pP 3 13 (bR [4, 30]) rfl rfl HT_ ?_
      refine take_ (i := 4) (N := some 14) (v := ?_) (a' := ?_) (bR [5, 29]) rfl rfl (take_ofW HT_.out HW_.out (by kernel_rfl)) (fun _ _ _ h => h) (Or.inl ⟨by rfl, ?_⟩) hHeld ?_ ?_
      rotate_left; (rintro w' ⟨s0, s1⟩; go_simp; with_reducible rfl); rotate_left; (simp only [Act.put, sA, sZ, sS, i64_w]; rfl)
      refine one_ (i := 5) (N := some 15) (bR [6, 28]) rfl rfl (one_of HT_.out (by kernel_rfl)) (by decide) (fun K hK => ?_)
      refine goes_ Try.func176 (by kernel_rfl) rfl #[.int .i64 ((rd_T30 l0 x3_1).f0), .int .i64 1, .int .i64 20] (by rfl) rfl rfl (by (try simp only [mA, mC, mN]); first | done | rfl | (simp only [lD, lT]; rfl)) ?_
      with_reducible refine (spec_l1In.calls ((rd_T30 l0 x3_1).f0) 1 20 false _ A4.out).mono ?_
      rintro e w' ⟨rfl, ⟨nd, rfl⟩⟩
      refine ⟨_, rfl, ?_⟩
      refine hK.out _ _ ⟨((HB.out.cell (World.block_lt_of_cell? w _ hw101_0)).trans hw101_0), ((HB.out.cell (World.block_lt_of_cell? w _ hw101_1)).trans hw101_1)⟩ (fun hHeld => ?_)
      clear hK K
      refine norm_ (a' := ?_) ?_ ?_
      rotate_left
      ·show Act.put _ (some 15) _ = _
       simp only [Act.put, sA, sZ, sS, i64_w]
       rfl
      refine pP 6 16 (bR [7, 27]) rfl rfl HT_ ?_
      refine pP 7 17 (bR [8, 26]) rfl rfl HT_ ?_
      refine pU 8 18 (bR [9, 25]) rfl rfl HT_ ?_
      refine pU 9 19 (bR [10, 24]) rfl rfl HT_ ?_
      refine pU 10 20 (bR [11, 23]) rfl rfl HT_ ?_
      refine pU 11 21 (bR [12, 22]) rfl rfl HT_ ?_
      refine pU 12 22 (bR [13, 21]) rfl rfl HT_ ?_
      refine pU 13 23 (bR [14, 20]) rfl rfl HT_ ?_
      refine pU 14 24 (bR [15, 19]) rfl rfl HT_ ?_
      refine pP 15 25 (bR [16, 18]) rfl rfl HT_ ?_
      refine pP 16 26 (bR [17, 17]) rfl rfl HT_ ?_
      refine pU 17 27 (bR [18, 16]) rfl rfl HT_ ?_
      refine pU 18 28 (bR [19, 15]) rfl rfl HT_ ?_
      refine pU 19 29 (bR [20, 14]) rfl rfl HT_ ?_
      refine pU 20 30 (bR [21, 13]) rfl rfl HT_ ?_
      refine pU 21 31 (bR [22, 12]) rfl rfl HT_ ?_
      refine pU 22 32 (bR [23, 11]) rfl rfl HT_ ?_
      refine pU 23 33 (bR [24, 10]) rfl rfl HT_ ?_
      refine pU 24 34 (bR [25, 9]) rfl rfl HT_ ?_
      refine pU 25 35 (bR [26, 8]) rfl rfl HT_ ?_
      refine pU 26 36 (bR [27, 7]) rfl rfl HT_ ?_
      refine pU 27 37 (bR [28, 6]) rfl rfl HT_ ?_
      refine pU 28 38 (bR [29, 5]) rfl rfl HT_ ?_
      refine pU 29 39 (bR [30, 4]) rfl rfl HT_ ?_
      refine pU 30 40 (bR [31, 3]) rfl rfl HT_ ?_
      refine pU 31 41 (bR [32, 2]) rfl rfl HT_ ?_
      refine pU 32 42 (bR [33, 1]) rfl rfl HT_ ?_
      refine pP 33 43 (bR [34]) rfl rfl HT_ ?_
      refine done_ (done_of HT_.out (by kernel_rfl)) ?_
      try go_wp2
      go_ret
      exact ⟨by first | rfl | (simp [errW_none, errW_some] <;> rfl) | (simp [*, errW_none, errW_some] <;> rfl), by repeat (first | (with_reducible first | exact HB.out | apply bA | apply bN | apply bD) | exact HB.out)⟩
    ·rw [if_neg c3] at H
     exact absurd H (by simp)
   ·rw [if_neg c2] at H
    have c2b0 : decide (x3_1 < (l0.length : Int)) = false := decide_eq_false c2
    clear c2
    obtain rfl := Option.some.inj H
    go_wp2
    go_ret
    exact ⟨by first | rfl | (simp [errW_none, errW_some] <;> rfl) | (simp [*, errW_none, errW_some] <;> rfl), by repeat (first | (with_reducible first | exact HB.out | apply bA | apply bN | apply bD) | exact HB.out)⟩

end Go.Proofs.Ytkfalbaklodnjaa.PFnExactPutMark
