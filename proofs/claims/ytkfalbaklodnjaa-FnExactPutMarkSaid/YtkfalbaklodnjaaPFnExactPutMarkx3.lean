-- The printed functions of one law and their contracts, over contracts of this session's own (hand.py).
import Derived.Test.YtkfalbaklodnjaaPFnExactPutMarkx0
import Derived.Test.YtkfalbaklodnjaaPFnExactPutMarkx2
namespace Go.Proofs.Ytkfalbaklodnjaa.PFnExactPutMark
open Go.RowKit Go.Proofs.YtkfalbaklodnjaaW.PrintWords Go.Proofs.YtkfalbaklodnjaaW.PrintLast Go.Proofs.YtkfalbaklodnjaaW.PrintMore Go.Proofs.Ytkfalbaklodnjaa.Short
attribute [local go_sem] max2_int min2_int max_two min_two max_three min_three max_four min_four   -- for this text's walks alone
set_option linter.unusedVariables false
set_option linter.unusedSimpArgs false

/-! ### spec_PutMark: function 16 -/
mutual
def spec_PutMark.j1 : Nat → List (S30) → Int → Int → Int → Option ((List (S30)) × Bool)
 | 0, _, _, _, _ => none
 | k + 1, x0, x6, x108000, x108001 => if 0 ≤ x6 then (if x6 ≤ (x0.length : Int) then ((some (x0.drop (x6 : Int).toNat : List (S30))).bind fun y109 => (if (y109.length : Int) > 0 then (if 0 < (y109.length : Int) then (spec_PutMark.j2 k x0 x6 y109 (((rd_T30 y109 0).f0) == x108000) x108000 x108001) else (none)) else (spec_PutMark.j2 k x0 x6 y109 false x108000 x108001))) else (none)) else (none)
def spec_PutMark.j2 : Nat → List (S30) → Int → List (S30) → Bool → Int → Int → Option ((List (S30)) × Bool)
 | 0, _, _, _, _, _, _ => none
 | k + 1, x0, x6, x7, x39, x108000, x108001 => if x39 = true then (if 1 ≤ (x7.length : Int) then ((some (x7.drop 1 : List (S30))).bind fun y114 => ((some (([] : List (S30)) : List (S30))).bind fun y118 => (if 0 ≤ x6 then (if x6 ≤ (x0.length : Int) then ((some (x0.take (x6 : Int).toNat : List (S30))).bind fun y121 => (if y118.length + y121.length < 8796093022208 then ((some (y118 ++ y121 : List (S30))).bind fun y125 => ((some (([(⟨x108000, x108001⟩ : S30)] : List (S30)) : List (S30))).bind fun y128 => (if y125.length + y128.length < 8796093022208 then ((some (y125 ++ y128 : List (S30))).bind fun y131 => (if y131.length + y114.length < 8796093022208 then ((some (y131 ++ y114 : List (S30))).bind fun y134 => ((spec_AreMarks.f k y134).bind fun t137 => (if t137 = true then (some (y134, true)) else ((some (([] : List (S30)) : List (S30))).bind fun y138 => (if y138.length + x0.length < 8796093022208 then (some ((y138 ++ x0), false)) else (none)))))) else (none))) else (none)))) else (none))) else (none)) else (none)))) else (none)) else ((some (([] : List (S30)) : List (S30))).bind fun y144 => (if 0 ≤ x6 then (if x6 ≤ (x0.length : Int) then ((some (x0.take (x6 : Int).toNat : List (S30))).bind fun y147 => (if y144.length + y147.length < 8796093022208 then ((some (y144 ++ y147 : List (S30))).bind fun y151 => ((some (([(⟨x108000, x108001⟩ : S30)] : List (S30)) : List (S30))).bind fun y154 => (if y151.length + y154.length < 8796093022208 then ((some (y151 ++ y154 : List (S30))).bind fun y157 => (if y157.length + x7.length < 8796093022208 then ((some (y157 ++ x7 : List (S30))).bind fun y160 => ((spec_AreMarks.f k y160).bind fun t163 => (if t163 = true then (some (y160, true)) else ((some (([] : List (S30)) : List (S30))).bind fun y164 => (if y164.length + x0.length < 8796093022208 then (some ((y164 ++ x0), false)) else (none)))))) else (none))) else (none)))) else (none))) else (none)) else (none)))
def spec_PutMark.l0 : Nat → List (S30) → Int → Int → Int → Option ((List (S30)) × Bool)
 | 0, _, _, _, _ => none
 | k + 1, x0, x6, x108000, x108001 => if x6 < (x0.length : Int) then (if 0 ≤ x6 then (if ((rd_T30 x0 x6).f0) < x108000 then (spec_PutMark.l0 k x0 (wrap64 (x6 + 1)) x108000 x108001) else (spec_PutMark.j1 k x0 x6 x108000 x108001)) else (none)) else (spec_PutMark.j1 k x0 x6 x108000 x108001)
end
def spec_PutMark.f (k : Nat) (l0 : List (S30)) (a1_0 : Int) (a1_1 : Int) : Option ((List (S30)) × Bool) := spec_PutMark.l0 k l0 0 a1_0 a1_1
theorem spec_PutMark.mono_l : ∀ k, (∀ y0 y1 y2 y3, LeO (spec_PutMark.j1 k y0 y1 y2 y3) (spec_PutMark.j1 (k + 1) y0 y1 y2 y3)) ∧ (∀ y0 y1 y2 y3 y4 y5, LeO (spec_PutMark.j2 k y0 y1 y2 y3 y4 y5) (spec_PutMark.j2 (k + 1) y0 y1 y2 y3 y4 y5)) ∧ (∀ y0 y1 y2 y3, LeO (spec_PutMark.l0 k y0 y1 y2 y3) (spec_PutMark.l0 (k + 1) y0 y1 y2 y3))
 | 0 => ⟨fun _ _ _ _ r h => by simp [spec_PutMark.j1] at h, fun _ _ _ _ _ _ r h => by simp [spec_PutMark.j2] at h, fun _ _ _ _ r h => by simp [spec_PutMark.l0] at h⟩
 | k + 1 => by
  obtain ⟨ih0, ih1, ih2⟩ := spec_PutMark.mono_l k
  refine ⟨?_, ?_, ?_⟩
  ·intro y0 y1 y2 y3
   unfold spec_PutMark.j1
   repeat' first
   | (with_reducible exact ih0 _ _ _ _)
   | (with_reducible exact ih1 _ _ _ _ _ _)
   | (with_reducible exact ih2 _ _ _ _)
   | (with_reducible exact spec_AreMarks.mono _ _)
   | (with_reducible exact LeO.refl _)
   | (with_reducible exact LeO.none _)
   | (with_reducible refine LeO.ite ?_ ?_)
   | (with_reducible refine LeO.bind ?_ (fun _ => ?_))
   | exact ih0 _ _ _ _
   | exact ih1 _ _ _ _ _ _
   | exact ih2 _ _ _ _
   | exact spec_AreMarks.mono _ _
   | exact LeO.none _
   | refine LeO.ite ?_ ?_
   | refine LeO.bind ?_ (fun _ => ?_)
  ·intro y0 y1 y2 y3 y4 y5
   unfold spec_PutMark.j2
   repeat' first
   | (with_reducible exact ih0 _ _ _ _)
   | (with_reducible exact ih1 _ _ _ _ _ _)
   | (with_reducible exact ih2 _ _ _ _)
   | (with_reducible exact spec_AreMarks.mono _ _)
   | (with_reducible exact LeO.refl _)
   | (with_reducible exact LeO.none _)
   | (with_reducible refine LeO.ite ?_ ?_)
   | (with_reducible refine LeO.bind ?_ (fun _ => ?_))
   | exact ih0 _ _ _ _
   | exact ih1 _ _ _ _ _ _
   | exact ih2 _ _ _ _
   | exact spec_AreMarks.mono _ _
   | exact LeO.none _
   | refine LeO.ite ?_ ?_
   | refine LeO.bind ?_ (fun _ => ?_)
  ·intro y0 y1 y2 y3
   unfold spec_PutMark.l0
   repeat' first
   | (with_reducible exact ih0 _ _ _ _)
   | (with_reducible exact ih1 _ _ _ _ _ _)
   | (with_reducible exact ih2 _ _ _ _)
   | (with_reducible exact spec_AreMarks.mono _ _)
   | (with_reducible exact LeO.refl _)
   | (with_reducible exact LeO.none _)
   | (with_reducible refine LeO.ite ?_ ?_)
   | (with_reducible refine LeO.bind ?_ (fun _ => ?_))
   | exact ih0 _ _ _ _
   | exact ih1 _ _ _ _ _ _
   | exact ih2 _ _ _ _
   | exact spec_AreMarks.mono _ _
   | exact LeO.none _
   | refine LeO.ite ?_ ?_
   | refine LeO.bind ?_ (fun _ => ?_)
theorem spec_PutMark.mono : ∀ a0 a1 a2 k, LeO (spec_PutMark.f k a0 a1 a2) (spec_PutMark.f (k + 1) a0 a1 a2) := by
 intro a0 a1 a2 k
 obtain ⟨ih0, ih1, ih2⟩ := spec_PutMark.mono_l k
 unfold spec_PutMark.f
 repeat' first
   | (with_reducible exact ih0 _ _ _ _)
   | (with_reducible exact ih1 _ _ _ _ _ _)
   | (with_reducible exact ih2 _ _ _ _)
   | (with_reducible exact spec_AreMarks.mono _ _)
   | (with_reducible exact LeO.refl _)
   | (with_reducible exact LeO.none _)
   | (with_reducible refine LeO.ite ?_ ?_)
   | (with_reducible refine LeO.bind ?_ (fun _ => ?_))
   | exact ih0 _ _ _ _
   | exact ih1 _ _ _ _ _ _
   | exact ih2 _ _ _ _
   | exact spec_AreMarks.mono _ _
   | exact LeO.none _
   | refine LeO.ite ?_ ?_
   | refine LeO.bind ?_ (fun _ => ?_)
def spec_PutMark.T2 : Bool × List (List Nat × List Nat) := (true, [([], []), ([], []), ([1], [1]), ([0, 2], [0, 2]), ([3], [3]), ([4], [4]), ([4], [4]), ([5, 6, 4], [4, 5, 6]), ([7, 4], [4, 7]), ([8, 4], [4, 8]), ([4], [4]), ([10, 4], [4, 10]), ([9, 11, 4], [4, 9, 11]), ([4, 12], [4, 12])])
def spec_PutMark.B2 : List Nat := [0, 0, 2, 7, 15, 31, 31, 127, 255, 511, 31, 1055, 4095, 8191]
theorem spec_PutMark.tab2 : rtab .any (opsOf Try.f16 2) = spec_PutMark.T2 := by kernel_rfl
theorem spec_PutMark.bits2 : waitsOk spec_PutMark.T2.2 spec_PutMark.B2 = true := by kernel_rfl
def spec_PutMark.T5 : Bool × List (List Nat × List Nat) := (true, [([], []), ([0], [0]), ([1], [1]), ([2], [2]), ([3], [3]), ([4, 3], [3, 4]), ([5, 3], [3, 5]), ([6, 3], [3, 6]), ([3], [3]), ([8, 3], [3, 8]), ([7, 9, 3], [3, 7, 9]), ([3, 10], [3, 10])])
def spec_PutMark.B5 : List Nat := [0, 1, 3, 7, 15, 31, 63, 127, 15, 271, 1023, 2047]
theorem spec_PutMark.tab5 : rtab .any (opsOf Try.f16 5) = spec_PutMark.T5 := by kernel_rfl
theorem spec_PutMark.bits5 : waitsOk spec_PutMark.T5.2 spec_PutMark.B5 = true := by kernel_rfl
def spec_PutMark.T7 : Bool × List (List Nat × List Nat) := (true, [([], []), ([], []), ([], []), ([1, 2], [1, 2]), ([0, 3], [0, 3]), ([], []), ([5], [5]), ([4, 6, 4], [4, 6]), ([], []), ([7, 8, 7], [7, 8]), ([9, 9, 0, 1, 2, 3, 4, 5, 6, 7, 8, 9], [9])])
def spec_PutMark.B7 : List Nat := [0, 0, 0, 6, 15, 0, 32, 127, 0, 511, 1023]
theorem spec_PutMark.tab7 : rtab .any (opsOf Try.f16 7) = spec_PutMark.T7 := by kernel_rfl
theorem spec_PutMark.bits7 : waitsOk spec_PutMark.T7.2 spec_PutMark.B7 = true := by kernel_rfl
set_option maxHeartbeats 8000000 in
set_option maxRecDepth 100000 in
theorem spec_PutMark.calls (k : Nat) (A0 : Option Addr) (c0 : Nat) (l0 : List (S30)) (a1_0 : Int) (a1_1 : Int) (r1 : List (S30)) (r2 : Bool) (w : World) (hr0 : Kd.C k30 w A0 l0.length l0) (hc0 : l0.length ≤ c0) (h : spec_PutMark.f k l0 a1_0 a1_1 = some (r1, r2)) :
  Calls Try.prog 16 #[.slice A0 l0.length c0, .agg #[.int .i64 a1_0, .int .i64 a1_1]] w fun e w' => ∃ v0_ : Value, e = .returned (.tuple #[v0_, .bool r2]) ∧ Kd.R k30 30 w' w.heap.size (fun _ => True) v0_ r1 ∧ Below w.heap.size w w' := by
 have hu30 := Try.underlying30
 have HR0 := Aside0.mk hr0
 have HC0 := Aside0.mk hc0
 clear hr0 hc0
 have HB := Aside0.mk (Below.refl w.heap.size w)
 have H : (spec_PutMark.l0 k l0 0 a1_0 a1_1) = some (r1, r2) := h
 clear h
 have HC3 := Aside0.mk H
 clear H
 go_enter Try.func16, Try.ntmps16
 go_upto_block 0 with (first | ((with_reducible refine gate_dst (N := 3) rfl ?_); refine box_event ?hg (N := 3) ?hd (cs := #[.int .i64 a1_0, .int .i64 a1_1]) (t := 30) ?hr ?_; (case hd => rfl); (case hg => rfl); (case hr => first | (go_simp; done) | (go_simp; rfl)); intro gb107 hg w4 hbox hb; have n0_ := Aside0.mk (below_step (qB HB) hb); have n1_ := Aside0.mk (hbox); have n2_ := Aside0.mk ((by rw [hg]; exact (below_size (qB HB)) : w.heap.size ≤ gb107)); have n3_ := Aside0.mk ((by rw [hg]; exact (below_size (qB HB)) : w.heap.size ≤ gb107)); clear HB; have HB := n0_; have BK107 := n1_; have GW107 := n2_; have GE107 := n3_; clear n0_ n1_ n2_ n3_; clear hb hbox hg))
 (try simp only [Act.put, sA, sZ, sS])
 go_cut [6] (fun v6 wc => ∃ (kq : Nat) (x6_2 : Int), v6 = .int .i64 x6_2 ∧ Aside0 (spec_PutMark.j1 kq l0 x6_2 a1_0 a1_1 = some (r1, r2)) ∧ Aside0 (kq ≤ k) ∧ Aside0 (wc.heap[gb107]? = some (.cells #[.int .i64 a1_0, .int .i64 a1_1] 30 (0, 0))) ∧ Aside0 (Below w.heap.size w wc))
 case first =>
  have H := HC3.out
  clear HC3
  have H' := Aside0.mk H
  clear H
  go_wp2
  go_loopg [6] k (fun kq v6 w' => ∃ (x6_1 : Int), v6 = .int .i64 x6_1 ∧ Aside0 (spec_PutMark.l0 kq l0 x6_1 a1_0 a1_1 = some (r1, r2)) ∧ Aside0 (kq ≤ k) ∧ Aside0 (w'.heap[gb107]? = some (.cells #[.int .i64 a1_0, .int .i64 a1_1] 30 (0, 0))) ∧ Aside0 (Below w.heap.size w w'))
  case atStart => exact ⟨(0), (by first | rfl | (simp; done) | (simp [*]; done)), H', ⟨Nat.le_refl _⟩, ⟨by (with_reducible repeat first | refine kN ?_ _ | refine kD ?_ | refine kA ?_ _); exact BK107.out⟩, ⟨by repeat (first | (with_reducible first | exact HB.out | apply bA | apply bN | apply bD | refine bS ?_ GE107.out) | exact HB.out)⟩⟩
  case round =>
   clear H'
   try clear c1
   try clear p2
   obtain ⟨x6_1, rfl, HA, HK1, BK107, HB⟩ := hrel
   cases gk with
   | zero => exact absurd HA.out (by simp [spec_PutMark.l0])
   | succ k1 =>
    have H := HA.out
    clear HA
    simp only [spec_PutMark.l0] at H
    by_cases c5 : x6_1 < (l0.length : Int)
    ·rw [if_pos c5] at H
     have c5b0 : decide (x6_1 < (l0.length : Int)) = true := decide_eq_true c5
     clear c5
     (first | rw [c5b0] | (simp only [i64_w, i32_w]; rw [c5b0]) | skip)
     by_cases c6 : 0 ≤ x6_1
     ·rw [if_pos c6] at H
      have c6b0 : decide (0 ≤ x6_1) = true := decide_eq_true c6
      clear c6
      by_cases c7 : ((rd_T30 l0 x6_1).f0) < a1_0
      ·rw [if_pos c7] at H
       have c7b0 : decide (((rd_T30 l0 x6_1).f0) < a1_0) = true := decide_eq_true c7
       clear c7
       have H' := Aside0.mk H
       clear H
       try go_wp2
       have n0_ := Aside0.mk (blk_drew BK107.out)
       have n1_ := Aside0.mk (below_drew1 HB.out)
       clear BK107
       clear HB
       have BK107 := n0_
       have HB := n1_
       clear n0_ n1_
       have p108 : 0 ≤ (x6_1 : Int) := of_decide_eq_true ‹_›
       have q108 : x6_1 < (l0.length : Int) := of_decide_eq_true ‹_›
       obtain ⟨ad108, e108, hx108_0, hx108_1⟩ := at_T30 HR0.out x6_1 p108 q108
       have hw108_1 := hx108_1
       have hw108_0 := hx108_0
       cases e108
       replace hx108_0 := (HB.out.cell (World.block_lt_of_cell? w _ hx108_0)).trans hx108_0
       replace hx108_1 := (HB.out.cell (World.block_lt_of_cell? w _ hx108_1)).trans hx108_1
       replace p108 := eq_true p108
       replace q108 := eq_true q108
       refine start_ (n := 14) (S := fun w' => w'.cell? ⟨gb107, 0, none⟩ = some (.int .i64 a1_0) ∧ w'.cell? ⟨gb107, 1, none⟩ = some (.int .i64 a1_1) ∧ w'.cell? (ad108.add ((x6_1).toNat * 2)) = some (.int .i64 ((rd_T30 l0 x6_1).f0)) ∧ w'.cell? ⟨(ad108.add ((x6_1).toNat * 2)).block, (ad108.add ((x6_1).toNat * 2)).off + 1, none⟩ = some (.int .i64 ((rd_T30 l0 x6_1).f1))) (ds := []) (bR [0, 14]) (by kernel_rfl) rfl rfl ⟨cC BK107 0, cC BK107 1, ((HB.out.cell (World.block_lt_of_cell? w _ hw108_0)).trans hw108_0), ((HB.out.cell (World.block_lt_of_cell? w _ hw108_1)).trans hw108_1)⟩ (fun hHeld => ?_); refine with_tabW spec_PutMark.tab2 spec_PutMark.bits2 (fun HT_ HW_ => ?_)
       generalize wr.drew = w8 at BK107 HB hx108_0 hx108_1 hHeld ⊢
       refine pP 0 9 (bR [1, 13]) rfl rfl HT_ ?_
       refine pP 1 10 (bR [2, 12]) rfl rfl HT_ ?_
       refine pP 2 11 (bR [3, 11]) rfl rfl HT_ ?_
       refine pP 3 12 (bR [4, 10]) rfl rfl HT_ ?_
       refine pP 4 13 (bR [5, 9]) rfl rfl HT_ ?_
       refine pP 5 14 (bR [6, 8]) rfl rfl HT_ ?_
       refine pP 6 15 (bR [7, 7]) rfl rfl HT_ ?_
       refine pP 7 16 (bR [8, 6]) rfl rfl HT_ ?_
       refine pP 8 17 (bR [9, 5]) rfl rfl HT_ ?_
       refine pP 10 19 (bR [9, 1, 1, 3]) rfl rfl HT_ ?_
       refine take_ (i := 9) (N := some 18) (v := ?_) (a' := ?_) (bR [11, 3]) rfl rfl (take_ofW HT_.out HW_.out (by kernel_rfl)) (fun _ _ _ h => h) (Or.inl ⟨by rfl, ?_⟩) hHeld ?_ ?_
       rotate_left; (rintro w' ⟨s0, s1, s2, s3⟩; go_simp; with_reducible rfl); rotate_left; (simp only [Act.put, sA, sZ, sS, i64_w]; rfl)
       refine take_ (i := 11) (N := some 20) (v := ?_) (a' := ?_) (bR [12, 2]) rfl rfl (take_ofW HT_.out HW_.out (by kernel_rfl)) (fun _ _ _ h => h) (Or.inl ⟨by rfl, ?_⟩) hHeld ?_ ?_
       rotate_left; (rintro w' ⟨s0, s1, s2, s3⟩; go_simp; with_reducible rfl); rotate_left; (simp only [Act.put, sA, sZ, sS, i64_w]; rfl)
       refine pP 12 21 (bR [13, 1]) rfl rfl HT_ ?_
       refine pP 13 22 (bR [14]) rfl rfl HT_ ?_
       refine done_ (done_of HT_.out (by kernel_rfl)) ?_
       try go_wp2
       go_roundg k1
       case measure => have := HK1.out; omega
       case rel => exact ⟨(wrap64 (x6_1 + 1)), (by first | rfl | (simp; done) | (simp [*]; done)), H', ⟨by have := HK1.out; omega⟩, ⟨by (with_reducible repeat first | refine kN ?_ _ | refine kD ?_ | refine kA ?_ _); exact BK107.out⟩, ⟨by repeat (first | (with_reducible first | exact HB.out | apply bA | apply bN | apply bD | refine bS ?_ GE107.out) | exact HB.out)⟩⟩
      ·rw [if_neg c7] at H
       have c7b0 : decide (((rd_T30 l0 x6_1).f0) < a1_0) = false := decide_eq_false c7
       clear c7
       have H' := Aside0.mk H
       clear H
       try go_wp2
       have n0_ := Aside0.mk (blk_drew BK107.out)
       have n1_ := Aside0.mk (below_drew1 HB.out)
       clear BK107
       clear HB
       have BK107 := n0_
       have HB := n1_
       clear n0_ n1_
       have p108 : 0 ≤ (x6_1 : Int) := of_decide_eq_true ‹_›
       have q108 : x6_1 < (l0.length : Int) := of_decide_eq_true ‹_›
       obtain ⟨ad108, e108, hx108_0, hx108_1⟩ := at_T30 HR0.out x6_1 p108 q108
       have hw108_1 := hx108_1
       have hw108_0 := hx108_0
       cases e108
       replace hx108_0 := (HB.out.cell (World.block_lt_of_cell? w _ hx108_0)).trans hx108_0
       replace hx108_1 := (HB.out.cell (World.block_lt_of_cell? w _ hx108_1)).trans hx108_1
       replace p108 := eq_true p108
       replace q108 := eq_true q108
       refine start_ (n := 14) (S := fun w' => w'.cell? ⟨gb107, 0, none⟩ = some (.int .i64 a1_0) ∧ w'.cell? ⟨gb107, 1, none⟩ = some (.int .i64 a1_1) ∧ w'.cell? (ad108.add ((x6_1).toNat * 2)) = some (.int .i64 ((rd_T30 l0 x6_1).f0)) ∧ w'.cell? ⟨(ad108.add ((x6_1).toNat * 2)).block, (ad108.add ((x6_1).toNat * 2)).off + 1, none⟩ = some (.int .i64 ((rd_T30 l0 x6_1).f1))) (ds := []) (bR [0, 14]) (by kernel_rfl) rfl rfl ⟨cC BK107 0, cC BK107 1, ((HB.out.cell (World.block_lt_of_cell? w _ hw108_0)).trans hw108_0), ((HB.out.cell (World.block_lt_of_cell? w _ hw108_1)).trans hw108_1)⟩ (fun hHeld => ?_); refine with_tabW spec_PutMark.tab2 spec_PutMark.bits2 (fun HT_ HW_ => ?_)
       generalize wr.drew = w9 at BK107 HB hx108_0 hx108_1 hHeld ⊢
       refine pP 0 9 (bR [1, 13]) rfl rfl HT_ ?_
       refine pP 1 10 (bR [2, 12]) rfl rfl HT_ ?_
       refine pP 2 11 (bR [3, 11]) rfl rfl HT_ ?_
       refine pP 3 12 (bR [4, 10]) rfl rfl HT_ ?_
       refine pP 4 13 (bR [5, 9]) rfl rfl HT_ ?_
       refine pP 5 14 (bR [6, 8]) rfl rfl HT_ ?_
       refine pP 6 15 (bR [7, 7]) rfl rfl HT_ ?_
       refine pP 7 16 (bR [8, 6]) rfl rfl HT_ ?_
       refine pP 8 17 (bR [9, 5]) rfl rfl HT_ ?_
       refine pP 10 19 (bR [9, 1, 1, 3]) rfl rfl HT_ ?_
       refine take_ (i := 9) (N := some 18) (v := ?_) (a' := ?_) (bR [11, 3]) rfl rfl (take_ofW HT_.out HW_.out (by kernel_rfl)) (fun _ _ _ h => h) (Or.inl ⟨by rfl, ?_⟩) hHeld ?_ ?_
       rotate_left; (rintro w' ⟨s0, s1, s2, s3⟩; go_simp; with_reducible rfl); rotate_left; (simp only [Act.put, sA, sZ, sS, i64_w]; rfl)
       refine take_ (i := 11) (N := some 20) (v := ?_) (a' := ?_) (bR [12, 2]) rfl rfl (take_ofW HT_.out HW_.out (by kernel_rfl)) (fun _ _ _ h => h) (Or.inl ⟨by rfl, ?_⟩) hHeld ?_ ?_
       rotate_left; (rintro w' ⟨s0, s1, s2, s3⟩; go_simp; with_reducible rfl); rotate_left; (simp only [Act.put, sA, sZ, sS, i64_w]; rfl)
       refine pP 12 21 (bR [13, 1]) rfl rfl HT_ ?_
       refine pP 13 22 (bR [14]) rfl rfl HT_ ?_
       refine done_ (done_of HT_.out (by kernel_rfl)) ?_
       try go_wp2
       go_meet
       case rel => exact ⟨_, (x6_1), (by first | rfl | (simp; done) | (simp [*]; done)), H', ⟨by have := HK1.out; first | omega | exact Nat.le_refl _⟩, ⟨by (with_reducible repeat first | refine kN ?_ _ | refine kD ?_ | refine kA ?_ _); exact BK107.out⟩, ⟨by repeat (first | (with_reducible first | exact HB.out | apply bA | apply bN | apply bD | refine bS ?_ GE107.out) | exact HB.out)⟩⟩
     ·rw [if_neg c6] at H
      exact absurd H (by simp)
    ·rw [if_neg c5] at H
     have c5b0 : decide (x6_1 < (l0.length : Int)) = false := decide_eq_false c5
     clear c5
     (first | rw [c5b0] | (simp only [i64_w, i32_w]; rw [c5b0]) | skip)
     have H' := Aside0.mk H
     clear H
     try go_wp2
     have n0_ := Aside0.mk (blk_drew BK107.out)
     have n1_ := Aside0.mk (below_drew1 HB.out)
     clear BK107
     clear HB
     have BK107 := n0_
     have HB := n1_
     clear n0_ n1_
     refine start_ (n := 14) (S := fun w' => True) (ds := []) (bR [0, 14]) (by kernel_rfl) rfl rfl trivial (fun hHeld => ?_); refine with_tabW spec_PutMark.tab2 spec_PutMark.bits2 (fun HT_ HW_ => ?_)
     generalize wr.drew = w10 at BK107 HB hHeld ⊢
     refine pP 0 9 (bR [1, 13]) rfl rfl HT_ ?_
     refine pP 1 10 (bR [2, 12]) rfl rfl HT_ ?_
     refine pP 2 11 (bR [3, 11]) rfl rfl HT_ ?_
     refine pP 3 12 (bR [4, 10]) rfl rfl HT_ ?_
     refine pP 4 13 (bR [5, 9]) rfl rfl HT_ ?_
     refine pU 5 14 (bR [6, 8]) rfl rfl HT_ ?_
     refine pU 6 15 (bR [7, 7]) rfl rfl HT_ ?_
     refine pU 7 16 (bR [8, 6]) rfl rfl HT_ ?_
     refine pU 8 17 (bR [9, 5]) rfl rfl HT_ ?_
     refine pU 9 18 (bR [10, 4]) rfl rfl HT_ ?_
     refine pU 10 19 (bR [11, 3]) rfl rfl HT_ ?_
     refine pU 11 20 (bR [12, 2]) rfl rfl HT_ ?_
     refine pU 12 21 (bR [13, 1]) rfl rfl HT_ ?_
     refine pP 13 22 (bR [14]) rfl rfl HT_ ?_
     refine done_ (done_of HT_.out (by kernel_rfl)) ?_
     try go_wp2
     go_meet
     case rel => exact ⟨_, (x6_1), (by first | rfl | (simp; done) | (simp [*]; done)), H', ⟨by have := HK1.out; first | omega | exact Nat.le_refl _⟩, ⟨by (with_reducible repeat first | refine kN ?_ _ | refine kD ?_ | refine kA ?_ _); exact BK107.out⟩, ⟨by repeat (first | (with_reducible first | exact HB.out | apply bA | apply bN | apply bD | refine bS ?_ GE107.out) | exact HB.out)⟩⟩
 case rest =>
  clear HC3
  try clear c1
  try clear p1
  try clear q1
  try clear hx1
  try clear p2
  try clear c5
  try clear c5b0
  try clear c6
  try clear c6b0
  try clear p6
  try clear c7
  try clear c7b0
  try clear p10
  try clear q10
  try clear hx10
  try clear hx108_0
  try clear hx108_1
  try clear p108
  try clear p2
  try clear q108
  obtain ⟨kq, x6_2, rfl, HA, HJ2, BK107, HB⟩ := hcut
  cases kq with
  | zero => exact absurd HA.out (by simp [spec_PutMark.j1])
  | succ kj2 =>
   have H := HA.out
   clear HA
   simp only [spec_PutMark.j1] at H
   by_cases c11 : 0 ≤ x6_2
   ·rw [if_pos c11] at H
    have c11b0 := eq_true c11
    have c11b1 : decide (0 ≤ x6_2) = true := decide_eq_true c11
    clear c11
    by_cases c12 : x6_2 ≤ (l0.length : Int)
    ·rw [if_pos c12] at H
     have c12b0 := eq_true c12
     have c12b1 : decide (x6_2 ≤ (l0.length : Int)) = true := decide_eq_true c12
     clear c12
     obtain ⟨y109, hy109⟩ : ∃ y_ : List (S30), y_ = (l0.drop (x6_2 : Int).toNat) := ⟨_, rfl⟩
     replace H : (if (y109.length : Int) > 0 then (if 0 < (y109.length : Int) then (spec_PutMark.j2 kj2 l0 x6_2 y109 (((rd_T30 y109 0).f0) == a1_0) a1_0 a1_1) else (none)) else (spec_PutMark.j2 kj2 l0 x6_2 y109 false a1_0 a1_1)) = some (r1, r2) := by first | (rw [hy109]; with_reducible exact H) | (have H2_ := (Option.bind_some _ _).symm.trans H; rw [hy109]; with_reducible exact H2_) | (have H2_ := (Option.bind_some _ _).symm.trans H; with_reducible exact H2_) | with_reducible exact H | (rw [hy109]; exact H) | exact H
     have Ny109 := Aside0.mk hy109
     clear hy109
     have HC13 := Aside0.mk H
     clear H
     have q14 : (x6_2 : Int) ≤ ((l0.length : Int) : Int) := of_decide_eq_true ‹_›
     obtain ⟨i014, hi014, _, hsz14, _⟩ := info_parts info30
     have hroom14 : l0.length ≤ c0 := HC0.out
     have hC14 : Kd.C k30 _ A0 l0.length l0 := HR0.out
     have q014 : (0 : Int) ≤ (x6_2 : Int) := of_decide_eq_true ‹_›
     have hcut14 := cut_from (P := Try.prog) 26 30 .i64 Try.underlying26 hi014 2 hsz14 A0 l0.length c0 x6_2 q014 q14
     have hr14 := Kd.C_drop (m := (x6_2 : Int).toNat) (c := c0) hC14 (by omega) hroom14
     obtain ⟨A14, hA14⟩ : ∃ A1, A1 = (if c0 = (x6_2 : Int).toNat then A0 else (A0 : Option Addr).map (·.add ((x6_2 : Int).toNat * 2))) := ⟨_, rfl⟩
     obtain ⟨c14, hc14⟩ : ∃ c1, c1 = c0 - (x6_2 : Int).toNat := ⟨_, rfl⟩
     have hy14 : y109.length = l0.length - (x6_2 : Int).toNat := (by rw [Ny109.out, List.length_drop] <;> omega)
     rw [show (l0).drop (x6_2 : Int).toNat = y109 from Ny109.out.symm] at hr14
     replace hr14 : Kd.C k30 _ A14 y109.length y109 := (by rw [hA14]; exact hr14)
     rw [← hy14, ← hA14, ← hc14] at hcut14
     have HR112 := Aside0.mk hr14
     have HC112 := Aside0.mk (show y109.length ≤ c14 from by rw [hy14, hc14]; exact Nat.sub_le_sub_right hroom14 _)
     clear hr14 hC14 hroom14 hi014 hsz14 hc14
     have KY14 := Aside0.mk hy14
     have KA14 := Aside0.mk hA14
     clear hy14 hA14
     replace q14 := eq_true q14
     go_upto_region 5 with (fail)
     go_cut [39] (fun v39 wc => ∃ (kq : Nat) (x39_12 : Bool), v39 = .bool x39_12 ∧ Aside0 (spec_PutMark.j2 kq l0 x6_2 y109 x39_12 a1_0 a1_1 = some (r1, r2)) ∧ Aside0 (kq ≤ kj2) ∧ Aside0 (wc.heap[gb107]? = some (.cells #[.int .i64 a1_0, .int .i64 a1_1] 30 (0, 0))) ∧ Aside0 (Below w.heap.size w wc))
     case first =>
      have H := HC13.out
      clear HC13
      by_cases c15 : (y109.length : Int) > 0
      ·rw [if_pos c15] at H
       have c15b0 : decide (0 < (y109.length : Int)) = true := decide_eq_true c15
       have c15b1 : decide (0 < y109.length) = true := decide_eq_true (by omega)
       clear c15
       (first | rw [c15b0] | (simp only [i64_w, i32_w]; rw [c15b0]) | skip)
       by_cases c16 : 0 < (y109.length : Int)
       ·rw [if_pos c16] at H
        have c16b0 : decide (0 < (y109.length : Int)) = true := decide_eq_true c16
        have c16b1 : decide (0 < y109.length) = true := decide_eq_true (by omega)
        clear c16
        have H' := Aside0.mk H
        clear H
        try go_wp2
        have n0_ := Aside0.mk (blk_drew BK107.out)
        have n1_ := Aside0.mk (below_drew1 HB.out)
        clear BK107
        clear HB
        have BK107 := n0_
        have HB := n1_
        clear n0_ n1_
        have p113 : 0 ≤ (0 : Int) := (by omega)
        have q113 : 0 < (y109.length : Int) := of_decide_eq_true ‹_›
        obtain ⟨ad113, e113, hx113_0, hx113_1⟩ := at_T30 HR112.out 0 p113 q113
        have hw113_1 := hx113_1
        (try rw [show ((0 : Int)).toNat = 0 from rfl] at hw113_1)
        (try rw [show 0 * 2 = 0 from rfl] at hw113_1)
        (try rw [Addr.add_zero'] at hw113_1)
        have hw113_0 := hx113_0
        (try rw [show ((0 : Int)).toNat = 0 from rfl] at hw113_0)
        (try rw [show 0 * 2 = 0 from rfl] at hw113_0)
        (try rw [Addr.add_zero'] at hw113_0)
        cases e113
        have qi113 : (0 < y109.length) = True := eq_true (by omega)
        (try rw [show ((0 : Int)).toNat = 0 from rfl] at hx113_0)
        (try rw [show 0 * 2 = 0 from rfl] at hx113_0)
        (try rw [Addr.add_zero'] at hx113_0)
        (try rw [show ((0 : Int)).toNat = 0 from rfl] at hx113_1)
        (try rw [show 0 * 2 = 0 from rfl] at hx113_1)
        (try rw [Addr.add_zero'] at hx113_1)
        replace hx113_0 := (HB.out.cell (World.block_lt_of_cell? w _ hx113_0)).trans hx113_0
        replace hx113_1 := (HB.out.cell (World.block_lt_of_cell? w _ hx113_1)).trans hx113_1
        replace p113 := eq_true p113
        replace q113 := eq_true q113
        refine start_ (n := 12) (S := fun w' => w'.cell? ⟨gb107, 0, none⟩ = some (.int .i64 a1_0) ∧ w'.cell? ⟨gb107, 1, none⟩ = some (.int .i64 a1_1) ∧ w'.cell? ad113 = some (.int .i64 ((rd_T30 y109 0).f0)) ∧ w'.cell? ⟨ad113.block, ad113.off + 1, none⟩ = some (.int .i64 ((rd_T30 y109 0).f1))) (ds := []) (bR [0, 12]) (by kernel_rfl) rfl rfl ⟨cC BK107 0, cC BK107 1, ((HB.out.cell (World.block_lt_of_cell? w _ hw113_0)).trans hw113_0), ((HB.out.cell (World.block_lt_of_cell? w _ hw113_1)).trans hw113_1)⟩ (fun hHeld => ?_); refine with_tabW spec_PutMark.tab5 spec_PutMark.bits5 (fun HT_ HW_ => ?_)
        generalize wc.drew = w17 at BK107 HB hx113_0 hx113_1 hHeld ⊢
        refine pP 0 28 (bR [1, 11]) rfl rfl HT_ ?_
        refine pP 1 29 (bR [2, 10]) rfl rfl HT_ ?_
        refine pP 2 30 (bR [3, 9]) rfl rfl HT_ ?_
        refine pP 3 31 (bR [4, 8]) rfl rfl HT_ ?_
        refine pP 4 32 (bR [5, 7]) rfl rfl HT_ ?_
        refine pP 5 33 (bR [6, 6]) rfl rfl HT_ ?_
        refine pP 6 34 (bR [7, 5]) rfl rfl HT_ ?_
        refine pP 8 36 (bR [7, 1, 1, 3]) rfl rfl HT_ ?_
        refine take_ (i := 7) (N := some 35) (v := ?_) (a' := ?_) (bR [9, 3]) rfl rfl (take_ofW HT_.out HW_.out (by kernel_rfl)) (fun _ _ _ h => h) (Or.inl ⟨by rfl, ?_⟩) hHeld ?_ ?_
        rotate_left; (rintro w' ⟨s0, s1, s2, s3⟩; go_simp; with_reducible rfl); rotate_left; (simp only [Act.put, sA, sZ, sS, i64_w]; rfl)
        refine take_ (i := 9) (N := some 37) (v := ?_) (a' := ?_) (bR [10, 2]) rfl rfl (take_ofW HT_.out HW_.out (by kernel_rfl)) (fun _ _ _ h => h) (Or.inl ⟨by rfl, ?_⟩) hHeld ?_ ?_
        rotate_left; (rintro w' ⟨s0, s1, s2, s3⟩; go_simp; with_reducible rfl); rotate_left; (simp only [Act.put, sA, sZ, sS, i64_w]; rfl)
        refine pP 10 38 (bR [11, 1]) rfl rfl HT_ ?_
        refine pP 11 39 (bR [12]) rfl rfl HT_ ?_
        refine done_ (done_of HT_.out (by kernel_rfl)) ?_
        try go_wp2
        go_meet
        case rel => exact ⟨_, ((((rd_T30 y109 0).f0) == a1_0)), (by first | rfl | (simp; done) | (simp [*]; done)), H', ⟨by have := HJ2.out; first | omega | exact Nat.le_refl _⟩, ⟨by (with_reducible repeat first | refine kN ?_ _ | refine kD ?_ | refine kA ?_ _); exact BK107.out⟩, ⟨by repeat (first | (with_reducible first | exact HB.out | apply bA | apply bN | apply bD | refine bS ?_ GE107.out) | exact HB.out)⟩⟩
       ·rw [if_neg c16] at H
        exact absurd H (by simp)
      ·rw [if_neg c15] at H
       have c15b0 : decide (0 < (y109.length : Int)) = false := decide_eq_false c15
       have c15b1 : decide (0 < y109.length) = false := decide_eq_false (by omega)
       clear c15
       (first | rw [c15b0] | (simp only [i64_w, i32_w]; rw [c15b0]) | skip)
       have H' := Aside0.mk H
       clear H
       try go_wp2
       have n0_ := Aside0.mk (blk_drew BK107.out)
       have n1_ := Aside0.mk (below_drew1 HB.out)
       clear BK107
       clear HB
       have BK107 := n0_
       have HB := n1_
       clear n0_ n1_
       refine start_ (n := 12) (S := fun w' => True) (ds := []) (bR [0, 12]) (by kernel_rfl) rfl rfl trivial (fun hHeld => ?_); refine with_tabW spec_PutMark.tab5 spec_PutMark.bits5 (fun HT_ HW_ => ?_)
       generalize wc.drew = w18 at BK107 HB hHeld ⊢
       refine pP 0 28 (bR [1, 11]) rfl rfl HT_ ?_
       refine pP 1 29 (bR [2, 10]) rfl rfl HT_ ?_
       refine pP 2 30 (bR [3, 9]) rfl rfl HT_ ?_
       refine pP 3 31 (bR [4, 8]) rfl rfl HT_ ?_
       refine pU 4 32 (bR [5, 7]) rfl rfl HT_ ?_
       refine pU 5 33 (bR [6, 6]) rfl rfl HT_ ?_
       refine pU 6 34 (bR [7, 5]) rfl rfl HT_ ?_
       refine pU 7 35 (bR [8, 4]) rfl rfl HT_ ?_
       refine pU 8 36 (bR [9, 3]) rfl rfl HT_ ?_
       refine pU 9 37 (bR [10, 2]) rfl rfl HT_ ?_
       refine pU 10 38 (bR [11, 1]) rfl rfl HT_ ?_
       refine pP 11 39 (bR [12]) rfl rfl HT_ ?_
       refine done_ (done_of HT_.out (by kernel_rfl)) ?_
       try go_wp2
       go_meet
       case rel => exact ⟨_, (false), (by first | rfl | (simp; done) | (simp [*]; done)), H', ⟨by have := HJ2.out; first | omega | exact Nat.le_refl _⟩, ⟨by (with_reducible repeat first | refine kN ?_ _ | refine kD ?_ | refine kA ?_ _); exact BK107.out⟩, ⟨by repeat (first | (with_reducible first | exact HB.out | apply bA | apply bN | apply bD | refine bS ?_ GE107.out) | exact HB.out)⟩⟩
     case rest =>
      clear HC13
      try clear c1
      try clear p1
      try clear q1
      try clear hx1
      try clear qi1
      try clear p2
      try clear c5
      try clear c5b0
      try clear c6
      try clear c6b0
      try clear p6
      try clear c7
      try clear c7b0
      try clear p10
      try clear q10
      try clear hx10
      try clear c11
      try clear c11b0
      try clear c11b1
      try clear p11
      try clear q11
      try clear hx11
      try clear qi11
      try clear c12
      try clear c12b0
      try clear c12b1
      try clear c14
      try clear q14
      try clear c15
      try clear c15b0
      try clear c15b1
      try clear c16
      try clear c16b0
      try clear c16b1
      try clear hx108_0
      try clear hx108_1
      try clear hx113_0
      try clear hx113_1
      try clear p1
      try clear p10
      try clear p108
      try clear p113
      try clear p2
      try clear p6
      try clear q014
      try clear q1
      try clear q10
      try clear q108
      try clear q113
      try clear q14
      obtain ⟨kq, x39_12, rfl, HA, HJ12, BK107, HB⟩ := hcut
      cases kq with
      | zero => exact absurd HA.out (by simp [spec_PutMark.j2])
      | succ kj12 =>
       have H := HA.out
       clear HA
       simp only [spec_PutMark.j2] at H
       by_cases c19 : x39_12 = true
       ·subst c19
        have H1 : (if 1 ≤ (y109.length : Int) then ((some (y109.drop 1 : List (S30))).bind fun y114 => ((some (([] : List (S30)) : List (S30))).bind fun y118 => (if 0 ≤ x6_2 then (if x6_2 ≤ (l0.length : Int) then ((some (l0.take (x6_2 : Int).toNat : List (S30))).bind fun y121 => (if y118.length + y121.length < 8796093022208 then ((some (y118 ++ y121 : List (S30))).bind fun y125 => ((some (([(⟨a1_0, a1_1⟩ : S30)] : List (S30)) : List (S30))).bind fun y128 => (if y125.length + y128.length < 8796093022208 then ((some (y125 ++ y128 : List (S30))).bind fun y131 => (if y131.length + y114.length < 8796093022208 then ((some (y131 ++ y114 : List (S30))).bind fun y134 => ((spec_AreMarks.f kj12 y134).bind fun t137 => (if t137 = true then (some (y134, true)) else ((some (([] : List (S30)) : List (S30))).bind fun y138 => (if y138.length + l0.length < 8796093022208 then (some ((y138 ++ l0), false)) else (none)))))) else (none))) else (none)))) else (none))) else (none)) else (none)))) else (none)) = some (r1, r2) := by rw [if_pos rfl] at H; exact H
        clear H
        have H := H1
        clear H1
        by_cases c20 : 1 ≤ (y109.length : Int)
        ·rw [if_pos c20] at H
         have c20b0 := eq_true c20
         have c20b1 : decide (1 ≤ (y109.length : Int)) = true := decide_eq_true c20
         clear c20
         obtain ⟨y114, hy114⟩ : ∃ y_ : List (S30), y_ = (y109.drop 1) := ⟨_, rfl⟩
         replace H : ((some (([] : List (S30)) : List (S30))).bind fun y118 => (if 0 ≤ x6_2 then (if x6_2 ≤ (l0.length : Int) then ((some (l0.take (x6_2 : Int).toNat : List (S30))).bind fun y121 => (if y118.length + y121.length < 8796093022208 then ((some (y118 ++ y121 : List (S30))).bind fun y125 => ((some (([(⟨a1_0, a1_1⟩ : S30)] : List (S30)) : List (S30))).bind fun y128 => (if y125.length + y128.length < 8796093022208 then ((some (y125 ++ y128 : List (S30))).bind fun y131 => (if y131.length + y114.length < 8796093022208 then ((some (y131 ++ y114 : List (S30))).bind fun y134 => ((spec_AreMarks.f kj12 y134).bind fun t137 => (if t137 = true then (some (y134, true)) else ((some (([] : List (S30)) : List (S30))).bind fun y138 => (if y138.length + l0.length < 8796093022208 then (some ((y138 ++ l0), false)) else (none)))))) else (none))) else (none)))) else (none))) else (none)) else (none))) = some (r1, r2) := by first | (rw [hy114]; with_reducible exact H) | (have H2_ := (Option.bind_some _ _).symm.trans H; rw [hy114]; with_reducible exact H2_) | (have H2_ := (Option.bind_some _ _).symm.trans H; with_reducible exact H2_) | with_reducible exact H | (rw [hy114]; exact H) | exact H
         have Ny114 := Aside0.mk hy114
         clear hy114
         obtain ⟨y118, hy118⟩ : ∃ y_ : List (S30), y_ = (([] : List (S30))) := ⟨_, rfl⟩
         replace H : (if 0 ≤ x6_2 then (if x6_2 ≤ (l0.length : Int) then ((some (l0.take (x6_2 : Int).toNat : List (S30))).bind fun y121 => (if y118.length + y121.length < 8796093022208 then ((some (y118 ++ y121 : List (S30))).bind fun y125 => ((some (([(⟨a1_0, a1_1⟩ : S30)] : List (S30)) : List (S30))).bind fun y128 => (if y125.length + y128.length < 8796093022208 then ((some (y125 ++ y128 : List (S30))).bind fun y131 => (if y131.length + y114.length < 8796093022208 then ((some (y131 ++ y114 : List (S30))).bind fun y134 => ((spec_AreMarks.f kj12 y134).bind fun t137 => (if t137 = true then (some (y134, true)) else ((some (([] : List (S30)) : List (S30))).bind fun y138 => (if y138.length + l0.length < 8796093022208 then (some ((y138 ++ l0), false)) else (none)))))) else (none))) else (none)))) else (none))) else (none)) else (none)) = some (r1, r2) := by first | (rw [hy118]; with_reducible exact H) | (have H2_ := (Option.bind_some _ _).symm.trans H; rw [hy118]; with_reducible exact H2_) | (have H2_ := (Option.bind_some _ _).symm.trans H; with_reducible exact H2_) | with_reducible exact H | (rw [hy118]; exact H) | exact H
         have Ny118 := Aside0.mk hy118
         clear hy118
         by_cases c21 : 0 ≤ x6_2
         ·rw [if_pos c21] at H
          have c21b0 := eq_true c21
          have c21b1 : decide (0 ≤ x6_2) = true := decide_eq_true c21
          clear c21
          by_cases c22 : x6_2 ≤ (l0.length : Int)
          ·rw [if_pos c22] at H
           have c22b0 := eq_true c22
           have c22b1 : decide (x6_2 ≤ (l0.length : Int)) = true := decide_eq_true c22
           clear c22
           obtain ⟨y121, hy121⟩ : ∃ y_ : List (S30), y_ = (l0.take (x6_2 : Int).toNat) := ⟨_, rfl⟩
           replace H : (if y118.length + y121.length < 8796093022208 then ((some (y118 ++ y121 : List (S30))).bind fun y125 => ((some (([(⟨a1_0, a1_1⟩ : S30)] : List (S30)) : List (S30))).bind fun y128 => (if y125.length + y128.length < 8796093022208 then ((some (y125 ++ y128 : List (S30))).bind fun y131 => (if y131.length + y114.length < 8796093022208 then ((some (y131 ++ y114 : List (S30))).bind fun y134 => ((spec_AreMarks.f kj12 y134).bind fun t137 => (if t137 = true then (some (y134, true)) else ((some (([] : List (S30)) : List (S30))).bind fun y138 => (if y138.length + l0.length < 8796093022208 then (some ((y138 ++ l0), false)) else (none)))))) else (none))) else (none)))) else (none)) = some (r1, r2) := by first | (rw [hy121]; with_reducible exact H) | (have H2_ := (Option.bind_some _ _).symm.trans H; rw [hy121]; with_reducible exact H2_) | (have H2_ := (Option.bind_some _ _).symm.trans H; with_reducible exact H2_) | with_reducible exact H | (rw [hy121]; exact H) | exact H
           have Ny121 := Aside0.mk hy121
           clear hy121
           by_cases c23 : y118.length + y121.length < 8796093022208
           ·rw [if_pos c23] at H
            have LMc23 := Aside0.mk c23
            clear c23
            obtain ⟨y125, hy125⟩ : ∃ y_ : List (S30), y_ = (y118 ++ y121) := ⟨_, rfl⟩
            replace H : ((some (([(⟨a1_0, a1_1⟩ : S30)] : List (S30)) : List (S30))).bind fun y128 => (if y125.length + y128.length < 8796093022208 then ((some (y125 ++ y128 : List (S30))).bind fun y131 => (if y131.length + y114.length < 8796093022208 then ((some (y131 ++ y114 : List (S30))).bind fun y134 => ((spec_AreMarks.f kj12 y134).bind fun t137 => (if t137 = true then (some (y134, true)) else ((some (([] : List (S30)) : List (S30))).bind fun y138 => (if y138.length + l0.length < 8796093022208 then (some ((y138 ++ l0), false)) else (none)))))) else (none))) else (none))) = some (r1, r2) := by first | (rw [hy125]; with_reducible exact H) | (have H2_ := (Option.bind_some _ _).symm.trans H; rw [hy125]; with_reducible exact H2_) | (have H2_ := (Option.bind_some _ _).symm.trans H; with_reducible exact H2_) | with_reducible exact H | (rw [hy125]; exact H) | exact H
            have Ny125 := Aside0.mk hy125
            clear hy125
            obtain ⟨y128, hy128⟩ : ∃ y_ : List (S30), y_ = (([(⟨a1_0, a1_1⟩ : S30)] : List (S30))) := ⟨_, rfl⟩
            replace H : (if y125.length + y128.length < 8796093022208 then ((some (y125 ++ y128 : List (S30))).bind fun y131 => (if y131.length + y114.length < 8796093022208 then ((some (y131 ++ y114 : List (S30))).bind fun y134 => ((spec_AreMarks.f kj12 y134).bind fun t137 => (if t137 = true then (some (y134, true)) else ((some (([] : List (S30)) : List (S30))).bind fun y138 => (if y138.length + l0.length < 8796093022208 then (some ((y138 ++ l0), false)) else (none)))))) else (none))) else (none)) = some (r1, r2) := by first | (rw [hy128]; with_reducible exact H) | (have H2_ := (Option.bind_some _ _).symm.trans H; rw [hy128]; with_reducible exact H2_) | (have H2_ := (Option.bind_some _ _).symm.trans H; with_reducible exact H2_) | with_reducible exact H | (rw [hy128]; exact H) | exact H
            have Ny128 := Aside0.mk hy128
            clear hy128
            by_cases c24 : y125.length + y128.length < 8796093022208
            ·rw [if_pos c24] at H
             have LMc24 := Aside0.mk c24
             clear c24
             obtain ⟨y131, hy131⟩ : ∃ y_ : List (S30), y_ = (y125 ++ y128) := ⟨_, rfl⟩
             replace H : (if y131.length + y114.length < 8796093022208 then ((some (y131 ++ y114 : List (S30))).bind fun y134 => ((spec_AreMarks.f kj12 y134).bind fun t137 => (if t137 = true then (some (y134, true)) else ((some (([] : List (S30)) : List (S30))).bind fun y138 => (if y138.length + l0.length < 8796093022208 then (some ((y138 ++ l0), false)) else (none)))))) else (none)) = some (r1, r2) := by first | (rw [hy131]; with_reducible exact H) | (have H2_ := (Option.bind_some _ _).symm.trans H; rw [hy131]; with_reducible exact H2_) | (have H2_ := (Option.bind_some _ _).symm.trans H; with_reducible exact H2_) | with_reducible exact H | (rw [hy131]; exact H) | exact H
             have Ny131 := Aside0.mk hy131
             clear hy131
             by_cases c25 : y131.length + y114.length < 8796093022208
             ·rw [if_pos c25] at H
              have LMc25 := Aside0.mk c25
              clear c25
              obtain ⟨y134, hy134⟩ : ∃ y_ : List (S30), y_ = (y131 ++ y114) := ⟨_, rfl⟩
              replace H : ((spec_AreMarks.f kj12 y134).bind fun t137 => (if t137 = true then (some (y134, true)) else ((some (([] : List (S30)) : List (S30))).bind fun y138 => (if y138.length + l0.length < 8796093022208 then (some ((y138 ++ l0), false)) else (none))))) = some (r1, r2) := by first | (rw [hy134]; with_reducible exact H) | (have H2_ := (Option.bind_some _ _).symm.trans H; rw [hy134]; with_reducible exact H2_) | (have H2_ := (Option.bind_some _ _).symm.trans H; with_reducible exact H2_) | with_reducible exact H | (rw [hy134]; exact H) | exact H
              have Ny134 := Aside0.mk hy134
              clear hy134
              replace H := Option.bind_eq_some_iff.mp H
              obtain ⟨t137, A260, H⟩ := H
              replace H : (if t137 = true then (some (y134, true)) else ((some (([] : List (S30)) : List (S30))).bind fun y138 => (if y138.length + l0.length < 8796093022208 then (some ((y138 ++ l0), false)) else (none)))) = some (r1, r2) := H
              have A26 := Aside0.mk A260
              clear A260
              by_cases c27 : t137 = true
              ·subst c27
               have H1 : (some (y134, true)) = some (r1, r2) := by rw [if_pos rfl] at H; exact H
               clear H
               have H := H1
               clear H1
               simp only [Option.some.injEq, Prod.mk.injEq] at H
               obtain ⟨rfl, rfl⟩ := H
               have q28 : (1 : Int) ≤ ((y109.length : Int) : Int) := of_decide_eq_true ‹_›
               obtain ⟨i028, hi028, _, hsz28, _⟩ := info_parts info30
               have hroom28 : y109.length ≤ c14 := HC112.out
               have hC28 : Kd.C k30 _ A14 y109.length y109 := HR112.out
               have hcut28 := cut_from (P := Try.prog) 26 30 .i64 Try.underlying26 hi028 2 hsz28 A14 y109.length c14 1 (by omega) q28
               have hr28 := Kd.C_drop (m := (1 : Int).toNat) (c := c14) hC28 (by omega) hroom28
               obtain ⟨A28, hA28⟩ : ∃ A1, A1 = (if c14 = (1 : Int).toNat then A14 else (A14 : Option Addr).map (·.add ((1 : Int).toNat * 2))) := ⟨_, rfl⟩
               obtain ⟨c28, hc28⟩ : ∃ c1, c1 = c14 - (1 : Int).toNat := ⟨_, rfl⟩
               have hy28 : y114.length = y109.length - (1 : Int).toNat := (by rw [Ny114.out, List.length_drop] <;> omega)
               rw [show (y109).drop (1 : Int).toNat = y114 from Ny114.out.symm] at hr28
               replace hr28 : Kd.C k30 _ A28 y114.length y114 := (by rw [hA28]; exact hr28)
               rw [← hy28, ← hA28, ← hc28] at hcut28
               have HR117 := Aside0.mk hr28
               have HC117 := Aside0.mk (show y114.length ≤ c28 from by rw [hy28, hc28]; exact Nat.sub_le_sub_right hroom28 _)
               clear hr28 hC28 hroom28 hi028 hsz28 hc28
               have KY28 := Aside0.mk hy28
               have KA28 := Aside0.mk hA28
               clear hy28 hA28
               replace q28 := eq_true q28
               try go_wp2
               have n0_ := Aside0.mk (blk_drew BK107.out)
               have n1_ := Aside0.mk (below_drew1 HB.out)
               clear BK107
               clear HB
               have BK107 := n0_
               have HB := n1_
               clear n0_ n1_
               have q30 : (x6_2 : Int) ≤ ((l0.length : Int) : Int) := of_decide_eq_true ‹_›
               obtain ⟨i030, hi030, _, hsz30, _⟩ := info_parts info30
               have hroom30 : l0.length ≤ c0 := HC0.out
               have hC30 : Kd.C k30 _ A0 l0.length l0 := HR0.out
               have hcut30 := cut_to (P := Try.prog) 26 30 .i64 Try.underlying26 hi030 A0 l0.length c0 x6_2 (of_decide_eq_true ‹_›) q30 hroom30
               have hr30 := Kd.C_take (m := (x6_2 : Int).toNat) hC30 (by omega)
               have hy30 : y121.length = (x6_2 : Int).toNat := (by rw [Ny121.out, List.length_take]; omega)
               rw [← Ny121.out] at hr30
               rw [← hy30] at hcut30
               have HR124 := Aside0.mk hr30
               have HC124 := Aside0.mk (show y121.length ≤ c0 from by omega)
               clear hr30 hC30 hroom30 hi030 hsz30
               have KY30 := Aside0.mk hy30
               clear hy30
               replace q30 := eq_true q30
               refine start_ (n := 11) (S := fun w' => w'.cell? ⟨gb107, 0, none⟩ = some (.int .i64 a1_0) ∧ w'.cell? ⟨gb107, 1, none⟩ = some (.int .i64 a1_1)) (ds := []) (bR [0, 11]) (by kernel_rfl) rfl rfl ⟨cC BK107 0, cC BK107 1⟩ (fun hHeld => ?_); refine with_tabW spec_PutMark.tab7 spec_PutMark.bits7 (fun HT_ HW_ => ?_)
               generalize wc.drew = w29 at BK107 HB HR124 hHeld ⊢
               refine pP 1 43 (bR [0, 1, 1, 9]) rfl rfl HT_ ?_
               refine pP 2 44 (bR [0, 1, 2, 8]) rfl rfl HT_ ?_
               refine pP 3 45 (bR [0, 1, 3, 7]) rfl rfl HT_ ?_
               refine pP 8 50 (bR [0, 1, 3, 4, 1, 2]) rfl rfl HT_ ?_
               refine take_ (i := 5) (N := some 47) (v := ?_) (a' := ?_) (bR [0, 1, 3, 1, 1, 2, 1, 2]) rfl rfl (take_ofW HT_.out HW_.out (by kernel_rfl)) (fun _ _ _ h => h) (Or.inl ⟨by rfl, ?_⟩) hHeld ?_ ?_
               rotate_left; (rintro w' ⟨s0, s1⟩; go_simp; with_reducible rfl); rotate_left; (simp only [Act.put, sA, sZ, sS, i64_w]; rfl)
               refine join_ (σ := Value × Value × Value) 3 (bR [7, 1, 1, 2]) (fun s_ => [(42, s_.1), (46, s_.2.1), (48, s_.2.2)]) (fun s_ w' => (w'.cell? ⟨gb107, 0, none⟩ = some (.int .i64 a1_0) ∧ w'.cell? ⟨gb107, 1, none⟩ = some (.int .i64 a1_1)) ∧ (Kd.R k30 30 w' w.heap.size (fun k_ => some k_ ≠ (s_.2.2 : Value).ownBlock ∧ k_ ≠ gb107) s_.2.1 y125) ∧ (Kd.R k30 30 w' w.heap.size (fun k_ => some k_ ≠ (s_.2.1 : Value).ownBlock ∧ k_ ≠ gb107) s_.2.2 y128) ∧ (w'.heap[gb107]? = some (.cells #[.int .i64 a1_0, .int .i64 a1_1] 30 (0, 0))) ∧ (Below w.heap.size w w')) ?_ ?_
               rotate_left
               ·intro hCont
                refine two_ (i := 0) (j := 6) (Ni := some 42) (Nj := some 48) (bR [4, 1, 1, 2, 1, 2]) (bR [0, 1, 3, 1, 2, 1, 1, 2]) rfl rfl rfl rfl (two_of HT_.out (by kernel_rfl)) (by decide) (by decide) (fun K hK => ?_) (fun K hK => ?_)
                ·skip
                 refine Kd.R_lit_step k30 _ 30 ?hg (N := 42) ?hd (xs := ([] : List (S30))) (inner := []) (ok := fun _ => True) (okp := fun _ => True) ?hr ?hp (fun _ hk => hk) trivial (Below.refl _ _) (Nat.le_refl _) (by simp) ?_; (case hd => rfl); (case hg => rfl); (case hr => first | (go_simp; done) | (go_simp; rfl)); (case hp => exact (Reps.none _ _))
                 intro v119 w31 ho32 hb hg_ hnew_
                 clear hg_ hnew_
                 (first | rw [← Ny118.out] at ho32 | (simp only [Int.reduceToNat] at ho32; rw [← Ny118.out] at ho32))
                 have n0_ := Aside0.mk (Kd.R_lower (Kd.R_newB ho32 (qK BK107)) (below_size (by repeat first | (with_reducible first | exact HB.out | apply bA | apply bN | apply bD | refine bS ?_ GE107.out) | exact HB.out)))
                 have n1_ := Aside0.mk (blk_below (qK BK107) hb)
                 have n2_ := Aside0.mk (below_step (by repeat first | (with_reducible first | exact HB.out | apply bA | apply bN | apply bD | refine bS ?_ GE107.out) | exact HB.out) hb)
                 clear BK107
                 clear HB
                 have HO120 := n0_
                 have BK107 := n1_
                 have HB := n2_
                 clear n0_ n1_ n2_
                 clear hb ho32
                 refine hK.out _ _ ⟨cC BK107 0, cC BK107 1⟩ (fun hHeld => ?_)
                 clear hK K
                 refine norm_ (a' := ?_) ?_ ?_
                 rotate_left
                 ·show Act.put _ (some 42) _ = _
                  simp only [Act.put, sA, sZ, sS, i64_w]
                  rfl
                 refine two_ (i := 4) (j := 6) (Ni := some 46) (Nj := some 48) (bR [6, 2, 1, 2]) (bR [4, 1, 2, 1, 1, 2]) rfl rfl rfl rfl (two_of HT_.out (by kernel_rfl)) (by decide) (by decide) (fun K hK => ?_) (fun K hK => ?_)
                 ·skip
                  refine Kd.R_append_rows_step k30 (w0 := w) w.heap.size (by rfl) (.tmp 42) (.tmp 45) 26 30 (.agg #[(.int .i64 0), (.int .i64 0)]) 16 rfl Try.underlying26 info30 rfl (by decide) (by omega) v119 y118 y121 _ _ _ (fun k_ => k_ ≠ gb107) (fun _ => False) rfl rfl ?aO ?aR (fun _ _ h => h) (fun _ h => h.elim) ?aF ?aB ?aS ?aL ?_
                  (case aR => exact qC (Kd.C_below HR124.out HB.out))
                  (case aB => exact (by repeat first | (with_reducible first | exact HB.out | apply bA | apply bN | apply bD | refine bS ?_ GE107.out) | exact HB.out))
                  (case aF => exact (fun k_ hk => Kd.freshB (qK BK107) k_ hk))
                  (case aO => exact (by (with_reducible repeat first | apply rA | apply rN | apply rD); exact Kd.R_mono HO120.out (fun _ hk => hk.2)))
                  (case aS => exact (below_size (by repeat first | (with_reducible first | exact HB.out | apply bA | apply bN | apply bD | refine bS ?_ GE107.out) | exact HB.out)))
                  (case aL => have := LMc23.out; omega)
                  intro v126 w33 ho hb hg hat
                  rw [← Ny125.out] at ho
                  have n0_ := Aside0.mk (blk_grown (qK BK107) hg (Kd.R_away HO120.out (fun _ hk => hk.2)))
                  have n1_ := Aside0.mk (hb)
                  have n2_ := Aside0.mk (ho)
                  clear BK107
                  clear HB
                  clear HO120
                  have BK107 := n0_
                  have HB := n1_
                  have HO127 := n2_
                  clear n0_ n1_ n2_
                  clear ho hb hg hat
                  refine hK.out _ _ ⟨cC BK107 0, cC BK107 1⟩ (fun hHeld => ?_)
                  clear hK K
                  refine norm_ (a' := ?_) ?_ ?_
                  rotate_left
                  ·show Act.put _ (some 46) _ = _
                   simp only [Act.put, sA, sZ, sS, i64_w]
                   rfl
                  refine one_ (i := 6) (N := some 48) (bR [7, 1, 1, 2]) rfl rfl (one_of HT_.out (by kernel_rfl)) (by decide) (fun K hK => ?_)
                  refine Kd.R_lit_step k30 _ 30 ?hg (N := 48) ?hd (xs := ([(⟨a1_0, a1_1⟩ : S30)] : List (S30))) (inner := [.int .i64 a1_0, .int .i64 a1_1]) (ok := fun _ => True) (okp := fun _ => True) ?hr ?hp (fun _ hk => hk) trivial (Below.refl _ _) (Nat.le_refl _) (by simp) ?_; (case hd => rfl); (case hg => rfl); (case hr => first | (go_simp; done) | (go_simp; rfl)); (case hp => exact (Reps.c2 (show Kd.M k30 _ _ _ (⟨a1_0, a1_1⟩ : S30) [.int .i64 a1_0, .int .i64 a1_1] from (k30_mkM _ _ _ (⟨a1_0, a1_1⟩ : S30) )) (Reps.none _ _)))
                  intro v129 w34 ho35 hb hg_ hnew_
                  clear hg_ hnew_
                  (first | rw [← Ny128.out] at ho35 | (simp only [Int.reduceToNat] at ho35; rw [← Ny128.out] at ho35))
                  have n0_ := Aside0.mk (Kd.R_elder' (qR HO127) (Kd.R_base ho35) hb)
                  have n1_ := Aside0.mk (Kd.R_lower (Kd.R_newB (Kd.R_new' ho35 (Kd.R_lt (qR HO127))) (qK BK107)) (below_size (by repeat first | (with_reducible first | exact HB.out | apply bA | apply bN | apply bD | refine bS ?_ GE107.out) | exact HB.out)))
                  have n2_ := Aside0.mk (blk_below (qK BK107) hb)
                  have n3_ := Aside0.mk (below_step (by repeat first | (with_reducible first | exact HB.out | apply bA | apply bN | apply bD | refine bS ?_ GE107.out) | exact HB.out) hb)
                  clear HO127
                  clear BK107
                  clear HB
                  have HO127 := n0_
                  have HO130 := n1_
                  have BK107 := n2_
                  have HB := n3_
                  clear n0_ n1_ n2_ n3_
                  clear hb ho35
                  refine hK.out _ _ ⟨cC BK107 0, cC BK107 1⟩ (fun hHeld => ?_)
                  clear hK K
                  refine norm_ (a' := ?_) ?_ ?_
                  rotate_left
                  ·show Act.put _ (some 48) _ = _
                   simp only [Act.put, sA, sZ, sS, i64_w]
                   rfl
                  exact norm_ (by simp only [putAll, Act.put, sA, sZ, sS]) (hCont (v119, v126, v129) _ ⟨hHeld, (by (with_reducible repeat first | apply rA | apply rN | apply rD); exact Kd.R_mono HO127.out (fun _ hk => ⟨hk.2, hk.1⟩)), (by (with_reducible repeat first | apply rA | apply rN | apply rD); exact Kd.R_mono HO130.out (fun _ hk => ⟨hk.1.2, hk.2⟩)), (qK BK107), (by repeat first | (with_reducible first | exact HB.out | apply bA | apply bN | apply bD | refine bS ?_ GE107.out) | exact HB.out)⟩)
                 ·skip
                  refine Kd.R_lit_step k30 _ 30 ?hg (N := 48) ?hd (xs := ([(⟨a1_0, a1_1⟩ : S30)] : List (S30))) (inner := [.int .i64 a1_0, .int .i64 a1_1]) (ok := fun _ => True) (okp := fun _ => True) ?hr ?hp (fun _ hk => hk) trivial (Below.refl _ _) (Nat.le_refl _) (by simp) ?_; (case hd => rfl); (case hg => rfl); (case hr => first | (go_simp; done) | (go_simp; rfl)); (case hp => exact (Reps.c2 (show Kd.M k30 _ _ _ (⟨a1_0, a1_1⟩ : S30) [.int .i64 a1_0, .int .i64 a1_1] from (k30_mkM _ _ _ (⟨a1_0, a1_1⟩ : S30) )) (Reps.none _ _)))
                  intro v129 w33 ho34 hb hg_ hnew_
                  clear hg_ hnew_
                  (first | rw [← Ny128.out] at ho34 | (simp only [Int.reduceToNat] at ho34; rw [← Ny128.out] at ho34))
                  have n0_ := Aside0.mk (Kd.R_elder' (qR HO120) (Kd.R_base ho34) hb)
                  have n1_ := Aside0.mk (Kd.R_lower (Kd.R_newB (Kd.R_new' ho34 (Kd.R_lt (qR HO120))) (qK BK107)) (below_size (by repeat first | (with_reducible first | exact HB.out | apply bA | apply bN | apply bD | refine bS ?_ GE107.out) | exact HB.out)))
                  have n2_ := Aside0.mk (blk_below (qK BK107) hb)
                  have n3_ := Aside0.mk (below_step (by repeat first | (with_reducible first | exact HB.out | apply bA | apply bN | apply bD | refine bS ?_ GE107.out) | exact HB.out) hb)
                  clear HO120
                  clear BK107
                  clear HB
                  have HO120 := n0_
                  have HO130 := n1_
                  have BK107 := n2_
                  have HB := n3_
                  clear n0_ n1_ n2_ n3_
                  clear hb ho34
                  refine hK.out _ _ ⟨cC BK107 0, cC BK107 1⟩ (fun hHeld => ?_)
                  clear hK K
                  refine norm_ (a' := ?_) ?_ ?_
                  rotate_left
                  ·show Act.put _ (some 48) _ = _
                   simp only [Act.put, sA, sZ, sS, i64_w]
                   rfl
                  refine one_ (i := 4) (N := some 46) (bR [7, 1, 1, 2]) rfl rfl (one_of HT_.out (by kernel_rfl)) (by decide) (fun K hK => ?_)
                  refine Kd.R_append_rows_step k30 (w0 := w) w.heap.size (by rfl) (.tmp 42) (.tmp 45) 26 30 (.agg #[(.int .i64 0), (.int .i64 0)]) 16 rfl Try.underlying26 info30 rfl (by decide) (by omega) v119 y118 y121 _ _ _ (fun k_ => some k_ ≠ (v129 : Value).ownBlock ∧ k_ ≠ gb107) (fun _ => False) rfl rfl ?aO ?aR (fun _ _ h => h) (fun _ h => h.elim) ?aF ?aB ?aS ?aL ?_
                  (case aR => exact qC (Kd.C_below HR124.out HB.out))
                  (case aB => exact (by repeat first | (with_reducible first | exact HB.out | apply bA | apply bN | apply bD | refine bS ?_ GE107.out) | exact HB.out))
                  (case aF => exact (fun k_ hk => ⟨Kd.fresh' (Kd.R_lt (qR HO130)) k_ hk, Kd.freshB (qK BK107) k_ hk⟩))
                  (case aO => exact (by (with_reducible repeat first | apply rA | apply rN | apply rD); exact Kd.R_mono HO120.out (fun _ hk => ⟨hk.2, hk.1.2⟩)))
                  (case aS => exact (below_size (by repeat first | (with_reducible first | exact HB.out | apply bA | apply bN | apply bD | refine bS ?_ GE107.out) | exact HB.out)))
                  (case aL => have := LMc23.out; omega)
                  intro v126 w35 ho hb hg hat
                  rw [← Ny125.out] at ho
                  have n0_ := Aside0.mk (blk_grown (qK BK107) hg (Kd.R_away HO120.out (fun _ hk => hk.1.2)))
                  have n1_ := Aside0.mk (Kd.R_after (ok := (fun k_ => k_ ≠ gb107)) (by (with_reducible repeat first | apply rA | apply rN | apply rD); exact Kd.R_mono HO130.out (fun _ hk => ⟨hk.2, hk.1.2⟩)) hg hat)
                  have n2_ := Aside0.mk (hb)
                  have n3_ := Aside0.mk (ho)
                  clear BK107
                  clear HO130
                  clear HB
                  clear HO120
                  have BK107 := n0_
                  have HO130 := n1_
                  have HB := n2_
                  have HO127 := n3_
                  clear n0_ n1_ n2_ n3_
                  clear ho hb hg hat
                  refine hK.out _ _ ⟨cC BK107 0, cC BK107 1⟩ (fun hHeld => ?_)
                  clear hK K
                  refine norm_ (a' := ?_) ?_ ?_
                  rotate_left
                  ·show Act.put _ (some 46) _ = _
                   simp only [Act.put, sA, sZ, sS, i64_w]
                   rfl
                  exact norm_ (by simp only [putAll, Act.put, sA, sZ, sS]) (hCont (v119, v126, v129) _ ⟨hHeld, (qR HO127), (by (with_reducible repeat first | apply rA | apply rN | apply rD); exact Kd.R_mono HO130.out (fun _ hk => ⟨hk.2, hk.1⟩)), (qK BK107), (by repeat first | (with_reducible first | exact HB.out | apply bA | apply bN | apply bD | refine bS ?_ GE107.out) | exact HB.out)⟩)
                ·skip
                 refine Kd.R_lit_step k30 _ 30 ?hg (N := 48) ?hd (xs := ([(⟨a1_0, a1_1⟩ : S30)] : List (S30))) (inner := [.int .i64 a1_0, .int .i64 a1_1]) (ok := fun _ => True) (okp := fun _ => True) ?hr ?hp (fun _ hk => hk) trivial (Below.refl _ _) (Nat.le_refl _) (by simp) ?_; (case hd => rfl); (case hg => rfl); (case hr => first | (go_simp; done) | (go_simp; rfl)); (case hp => exact (Reps.c2 (show Kd.M k30 _ _ _ (⟨a1_0, a1_1⟩ : S30) [.int .i64 a1_0, .int .i64 a1_1] from (k30_mkM _ _ _ (⟨a1_0, a1_1⟩ : S30) )) (Reps.none _ _)))
                 intro v129 w31 ho32 hb hg_ hnew_
                 clear hg_ hnew_
                 (first | rw [← Ny128.out] at ho32 | (simp only [Int.reduceToNat] at ho32; rw [← Ny128.out] at ho32))
                 have n0_ := Aside0.mk (Kd.R_lower (Kd.R_newB ho32 (qK BK107)) (below_size (by repeat first | (with_reducible first | exact HB.out | apply bA | apply bN | apply bD | refine bS ?_ GE107.out) | exact HB.out)))
                 have n1_ := Aside0.mk (blk_below (qK BK107) hb)
                 have n2_ := Aside0.mk (below_step (by repeat first | (with_reducible first | exact HB.out | apply bA | apply bN | apply bD | refine bS ?_ GE107.out) | exact HB.out) hb)
                 clear BK107
                 clear HB
                 have HO130 := n0_
                 have BK107 := n1_
                 have HB := n2_
                 clear n0_ n1_ n2_
                 clear hb ho32
                 refine hK.out _ _ ⟨cC BK107 0, cC BK107 1⟩ (fun hHeld => ?_)
                 clear hK K
                 refine norm_ (a' := ?_) ?_ ?_
                 rotate_left
                 ·show Act.put _ (some 48) _ = _
                  simp only [Act.put, sA, sZ, sS, i64_w]
                  rfl
                 refine one_ (i := 0) (N := some 42) (bR [4, 1, 2, 1, 1, 2]) rfl rfl (one_of HT_.out (by kernel_rfl)) (by decide) (fun K hK => ?_)
                 refine Kd.R_lit_step k30 _ 30 ?hg (N := 42) ?hd (xs := ([] : List (S30))) (inner := []) (ok := fun _ => True) (okp := fun _ => True) ?hr ?hp (fun _ hk => hk) trivial (Below.refl _ _) (Nat.le_refl _) (by simp) ?_; (case hd => rfl); (case hg => rfl); (case hr => first | (go_simp; done) | (go_simp; rfl)); (case hp => exact (Reps.none _ _))
                 intro v119 w33 ho34 hb hg_ hnew_
                 clear hg_ hnew_
                 (first | rw [← Ny118.out] at ho34 | (simp only [Int.reduceToNat] at ho34; rw [← Ny118.out] at ho34))
                 have n0_ := Aside0.mk (Kd.R_elder' (qR HO130) (Kd.R_base ho34) hb)
                 have n1_ := Aside0.mk (Kd.R_lower (Kd.R_newB (Kd.R_new' ho34 (Kd.R_lt (qR HO130))) (qK BK107)) (below_size (by repeat first | (with_reducible first | exact HB.out | apply bA | apply bN | apply bD | refine bS ?_ GE107.out) | exact HB.out)))
                 have n2_ := Aside0.mk (blk_below (qK BK107) hb)
                 have n3_ := Aside0.mk (below_step (by repeat first | (with_reducible first | exact HB.out | apply bA | apply bN | apply bD | refine bS ?_ GE107.out) | exact HB.out) hb)
                 clear HO130
                 clear BK107
                 clear HB
                 have HO130 := n0_
                 have HO120 := n1_
                 have BK107 := n2_
                 have HB := n3_
                 clear n0_ n1_ n2_ n3_
                 clear hb ho34
                 refine hK.out _ _ ⟨cC BK107 0, cC BK107 1⟩ (fun hHeld => ?_)
                 clear hK K
                 refine norm_ (a' := ?_) ?_ ?_
                 rotate_left
                 ·show Act.put _ (some 42) _ = _
                  simp only [Act.put, sA, sZ, sS, i64_w]
                  rfl
                 refine one_ (i := 4) (N := some 46) (bR [7, 1, 1, 2]) rfl rfl (one_of HT_.out (by kernel_rfl)) (by decide) (fun K hK => ?_)
                 refine Kd.R_append_rows_step k30 (w0 := w) w.heap.size (by rfl) (.tmp 42) (.tmp 45) 26 30 (.agg #[(.int .i64 0), (.int .i64 0)]) 16 rfl Try.underlying26 info30 rfl (by decide) (by omega) v119 y118 y121 _ _ _ (fun k_ => some k_ ≠ (v129 : Value).ownBlock ∧ k_ ≠ gb107) (fun _ => False) rfl rfl ?aO ?aR (fun _ _ h => h) (fun _ h => h.elim) ?aF ?aB ?aS ?aL ?_
                 (case aR => exact qC (Kd.C_below HR124.out HB.out))
                 (case aB => exact (by repeat first | (with_reducible first | exact HB.out | apply bA | apply bN | apply bD | refine bS ?_ GE107.out) | exact HB.out))
                 (case aF => exact (fun k_ hk => ⟨Kd.fresh' (Kd.R_lt (qR HO130)) k_ hk, Kd.freshB (qK BK107) k_ hk⟩))
                 (case aO => exact (by (with_reducible repeat first | apply rA | apply rN | apply rD); exact Kd.R_mono HO120.out (fun _ hk => ⟨hk.1.2, hk.2⟩)))
                 (case aS => exact (below_size (by repeat first | (with_reducible first | exact HB.out | apply bA | apply bN | apply bD | refine bS ?_ GE107.out) | exact HB.out)))
                 (case aL => have := LMc23.out; omega)
                 intro v126 w35 ho hb hg hat
                 rw [← Ny125.out] at ho
                 have n0_ := Aside0.mk (blk_grown (qK BK107) hg (Kd.R_away HO120.out (fun _ hk => hk.2)))
                 have n1_ := Aside0.mk (Kd.R_after (ok := (fun k_ => k_ ≠ gb107)) (by (with_reducible repeat first | apply rA | apply rN | apply rD); exact Kd.R_mono HO130.out (fun _ hk => ⟨hk.1.2, hk.2⟩)) hg hat)
                 have n2_ := Aside0.mk (hb)
                 have n3_ := Aside0.mk (ho)
                 clear BK107
                 clear HO130
                 clear HB
                 clear HO120
                 have BK107 := n0_
                 have HO130 := n1_
                 have HB := n2_
                 have HO127 := n3_
                 clear n0_ n1_ n2_ n3_
                 clear ho hb hg hat
                 refine hK.out _ _ ⟨cC BK107 0, cC BK107 1⟩ (fun hHeld => ?_)
                 clear hK K
                 refine norm_ (a' := ?_) ?_ ?_
                 rotate_left
                 ·show Act.put _ (some 46) _ = _
                  simp only [Act.put, sA, sZ, sS, i64_w]
                  rfl
                 exact norm_ (by simp only [putAll, Act.put, sA, sZ, sS]) (hCont (v119, v126, v129) _ ⟨hHeld, (qR HO127), (by (with_reducible repeat first | apply rA | apply rN | apply rD); exact Kd.R_mono HO130.out (fun _ hk => ⟨hk.2, hk.1⟩)), (qK BK107), (by repeat first | (with_reducible first | exact HB.out | apply bA | apply bN | apply bD | refine bS ?_ GE107.out) | exact HB.out)⟩)
               rintro ⟨v119, v126, v129⟩ w36 ⟨hS_, h0_, h1_, h2_, h3_⟩
               have n0_ : Aside0 (Kd.R k30 30 w36 w.heap.size (fun k_ => some k_ ≠ (v129 : Value).ownBlock ∧ k_ ≠ gb107) v126 y125) := ⟨h0_⟩
               have n1_ : Aside0 (Kd.R k30 30 w36 w.heap.size (fun k_ => some k_ ≠ (v126 : Value).ownBlock ∧ k_ ≠ gb107) v129 y128) := ⟨h1_⟩
               have n2_ : Aside0 (w36.heap[gb107]? = some (.cells #[.int .i64 a1_0, .int .i64 a1_1] 30 (0, 0))) := ⟨h2_⟩
               have n3_ : Aside0 (Below w.heap.size w w36) := ⟨h3_⟩
               clear BK107
               clear HB
               clear h0_ h1_ h2_ h3_
               have HO127 := n0_
               have HO130 := n1_
               have BK107 := n2_
               have HB := n3_
               clear n0_ n1_ n2_ n3_
               have hHeld : w36.cell? ⟨gb107, 0, none⟩ = some (.int .i64 a1_0) ∧ w36.cell? ⟨gb107, 1, none⟩ = some (.int .i64 a1_1) := hS_
               obtain ⟨Ao38, co38, eo38⟩ := Kd.R_slice HO130.out
               (first | subst eo38 | (injection eo38 with f1_ f2_ f3_; have f4_ := f1_.symm; have f5_ := f3_.symm; clear f1_ f2_ f3_; subst f4_; subst f5_))
               refine norm_ (a' := ?_) ?_ ?_
               rotate_left; (simp only [putAll, Act.put, sA, sZ, sS]; rfl)
               refine one_ (i := 7) (N := some 49) (bR [9, 2]) rfl rfl (one_of HT_.out (by kernel_rfl)) (by decide) (fun K hK => ?_)
               refine Kd.R_append_rows_step k30 (w0 := w) w.heap.size (by rfl) (.tmp 46) (.tmp 48) 26 30 (.agg #[(.int .i64 0), (.int .i64 0)]) 16 rfl Try.underlying26 info30 rfl (by decide) (by omega) v126 y125 y128 _ _ _ (fun k_ => some k_ ≠ (.slice Ao38 y128.length co38 : Value).ownBlock ∧ k_ ≠ gb107) (fun _ => False) rfl rfl ?aO ?aR (fun _ _ h => h) (fun _ h => h.elim) ?aF ?aB ?aS ?aL ?_
               (case aR => repeat (first | exact (Kd.R_reads' HO130.out).2.2 | (with_reducible refine Kd.C_alloc ?_ _) | (with_reducible refine Kd.C_drewN ?_ _) | (with_reducible refine Kd.C_drew ?_)))
               (case aB => exact (by repeat first | (with_reducible first | exact HB.out | apply bA | apply bN | apply bD | refine bS ?_ GE107.out) | exact HB.out))
               (case aF => exact (fun k_ hk => ⟨Kd.fresh' (Kd.R_lt (qR HO130)) k_ hk, Kd.freshB (qK BK107) k_ hk⟩))
               (case aO => exact (qR HO127))
               (case aS => exact (below_size (by repeat first | (with_reducible first | exact HB.out | apply bA | apply bN | apply bD | refine bS ?_ GE107.out) | exact HB.out)))
               (case aL => have := LMc24.out; omega)
               intro v132 w37 ho hb hg hat
               rw [← Ny131.out] at ho
               have n0_ := Aside0.mk (blk_grown (qK BK107) hg (Kd.R_away HO127.out (fun _ hk => hk.2)))
               have n1_ := Aside0.mk (Kd.R_after (ok := (fun k_ => k_ ≠ gb107)) (by (with_reducible repeat first | apply rA | apply rN | apply rD); exact Kd.R_mono HO130.out (fun _ hk => ⟨hk.2, hk.1⟩)) hg hat)
               have n2_ := Aside0.mk (hb)
               have n3_ := Aside0.mk (ho)
               clear BK107
               clear HO130
               clear HB
               clear HO127
               have BK107 := n0_
               have HO130 := n1_
               have HB := n2_
               have HO133 := n3_
               clear n0_ n1_ n2_ n3_
               clear ho hb hg hat
               refine hK.out _ _ ⟨cC BK107 0, cC BK107 1⟩ (fun hHeld => ?_)
               clear hK K
               refine norm_ (a' := ?_) ?_ ?_
               rotate_left
               ·show Act.put _ (some 49) _ = _
                simp only [Act.put, sA, sZ, sS, i64_w]
                rfl
               refine one_ (i := 9) (N := some 51) (bR [10, 1]) rfl rfl (one_of HT_.out (by kernel_rfl)) (by decide) (fun K hK => ?_)
               refine Kd.R_append_rows_step k30 (w0 := w) w.heap.size (by rfl) (.tmp 49) (.tmp 50) 26 30 (.agg #[(.int .i64 0), (.int .i64 0)]) 16 rfl Try.underlying26 info30 rfl (by decide) (by omega) v132 y131 y114 _ _ _ (fun k_ => some k_ ≠ (.slice Ao38 y128.length co38 : Value).ownBlock ∧ k_ ≠ gb107) (fun _ => False) rfl rfl ?aO ?aR (fun _ _ h => h) (fun _ h => h.elim) ?aF ?aB ?aS ?aL ?_
               (case aR => exact qC (Kd.C_below HR117.out HB.out))
               (case aB => exact (by repeat first | (with_reducible first | exact HB.out | apply bA | apply bN | apply bD | refine bS ?_ GE107.out) | exact HB.out))
               (case aF => exact (fun k_ hk => ⟨Kd.fresh' (Kd.R_lt (qR HO130)) k_ hk, Kd.freshB (qK BK107) k_ hk⟩))
               (case aO => exact (qR HO133))
               (case aS => exact (below_size (by repeat first | (with_reducible first | exact HB.out | apply bA | apply bN | apply bD | refine bS ?_ GE107.out) | exact HB.out)))
               (case aL => have := LMc25.out; omega)
               intro v135 w39 ho hb hg hat
               rw [← Ny134.out] at ho
               have n0_ := Aside0.mk (blk_grown (qK BK107) hg (Kd.R_away HO133.out (fun _ hk => hk.2)))
               have n1_ := Aside0.mk (Kd.R_after (ok := (fun k_ => k_ ≠ gb107)) (qR HO130) hg hat)
               have n2_ := Aside0.mk (hb)
               have n3_ := Aside0.mk (ho)
               clear BK107
               clear HO130
               clear HB
               clear HO133
               have BK107 := n0_
               have HO130 := n1_
               have HB := n2_
               have HO136 := n3_
               clear n0_ n1_ n2_ n3_
               clear ho hb hg hat
               refine hK.out _ _ ⟨cC BK107 0, cC BK107 1⟩ (fun hHeld => ?_)
               clear hK K
               refine norm_ (a' := ?_) ?_ ?_
               rotate_left
               ·show Act.put _ (some 51) _ = _
                simp only [Act.put, sA, sZ, sS, i64_w]
                rfl
               refine pP 10 8 (bR [11]) rfl rfl HT_ ?_
               refine done_ (done_of HT_.out (by kernel_rfl)) ?_
               obtain ⟨Ao40, co40, eo40⟩ := Kd.R_slice HO136.out
               subst eo40
               try go_wp2_with (first | ((with_reducible refine gate_callee (f := 104) rfl ?_); refine goesL_ (some 53) rfl rfl Try.func104 (by kernel_rfl) rfl #[.slice Ao40 y134.length co40] rfl (by (try simp only [mA, mC, mN]); first | done | rfl | (simp only [lD, lT]; rfl)) ?_; (with_reducible refine (spec_AreMarks.calls kj12 _ _ y134 true _ ?side1 ?side2 A26.out).mono ?_); (case side1 => repeat (first | exact (Kd.R_reads' HO136.out).2.2 | (with_reducible refine Kd.C_alloc ?_ _) | (with_reducible refine Kd.C_drewN ?_ _) | (with_reducible refine Kd.C_drew ?_))); (case side2 => exact (Kd.R_reads' HO136.out).2.1); rintro e w41 ⟨rfl, hb⟩; refine ⟨_, rfl, ?_⟩; have n0_ := Aside0.mk (Kd.R_below (qR HO130) hb); have n1_ := Aside0.mk (Kd.R_below (qR HO136) hb); have n2_ := Aside0.mk (blk_below (qK BK107) hb); have n3_ := Aside0.mk (below_step (by repeat first | (with_reducible first | exact HB.out | apply bA | apply bN | apply bD | refine bS ?_ GE107.out) | exact HB.out) hb); clear HO130; clear HO136; clear BK107; clear HB; have HO130 := n0_; have HO136 := n1_; have BK107 := n2_; have HB := n3_; clear n0_ n1_ n2_ n3_; (try clear hb); (try clear hb2); (try clear hk); (try clear hi)))
               go_ret2
               exact ⟨_, by first | rfl | (simp [errW_none, errW_some] <;> rfl) | (simp [*, errW_none, errW_some] <;> rfl), by (with_reducible repeat first | apply rA | apply rN | apply rD); exact Kd.R_mono HO136.out (fun _ hk => trivial), by repeat (first | (with_reducible first | exact HB.out | apply bA | apply bN | apply bD | refine bS ?_ GE107.out) | exact HB.out)⟩
              ·replace c27 := Bool.eq_false_iff.mpr c27
               subst c27
               have H1 : ((some (([] : List (S30)) : List (S30))).bind fun y138 => (if y138.length + l0.length < 8796093022208 then (some ((y138 ++ l0), false)) else (none))) = some (r1, r2) := by rw [if_neg (show ¬ (false = true) by decide)] at H; exact H
               clear H
               have H := H1
               clear H1
               obtain ⟨y138, hy138⟩ : ∃ y_ : List (S30), y_ = (([] : List (S30))) := ⟨_, rfl⟩
               replace H : (if y138.length + l0.length < 8796093022208 then (some ((y138 ++ l0), false)) else (none)) = some (r1, r2) := by first | (rw [hy138]; with_reducible exact H) | (have H2_ := (Option.bind_some _ _).symm.trans H; rw [hy138]; with_reducible exact H2_) | (have H2_ := (Option.bind_some _ _).symm.trans H; with_reducible exact H2_) | with_reducible exact H | (rw [hy138]; exact H) | exact H
               have Ny138 := Aside0.mk hy138
               clear hy138
               by_cases c42 : y138.length + l0.length < 8796093022208
               ·rw [if_pos c42] at H
                have LMc42 := Aside0.mk c42
                clear c42
                obtain ⟨y141, hy141⟩ : ∃ y_ : List (S30), y_ = (y138 ++ l0) := ⟨_, rfl⟩
                replace H : (some (y141, false)) = some (r1, r2) := by first | (rw [hy141]; with_reducible exact H) | (have H2_ := (Option.bind_some _ _).symm.trans H; rw [hy141]; with_reducible exact H2_) | (have H2_ := (Option.bind_some _ _).symm.trans H; with_reducible exact H2_) | with_reducible exact H | (rw [hy141]; exact H) | exact H
                have Ny141 := Aside0.mk hy141
                clear hy141
                simp only [Option.some.injEq, Prod.mk.injEq] at H
                obtain ⟨rfl, rfl⟩ := H
                have q43 : (1 : Int) ≤ ((y109.length : Int) : Int) := of_decide_eq_true ‹_›
                obtain ⟨i043, hi043, _, hsz43, _⟩ := info_parts info30
                have hroom43 : y109.length ≤ c14 := HC112.out
                have hC43 : Kd.C k30 _ A14 y109.length y109 := HR112.out
                have hcut43 := cut_from (P := Try.prog) 26 30 .i64 Try.underlying26 hi043 2 hsz43 A14 y109.length c14 1 (by omega) q43
                have hr43 := Kd.C_drop (m := (1 : Int).toNat) (c := c14) hC43 (by omega) hroom43
                obtain ⟨A43, hA43⟩ : ∃ A1, A1 = (if c14 = (1 : Int).toNat then A14 else (A14 : Option Addr).map (·.add ((1 : Int).toNat * 2))) := ⟨_, rfl⟩
                obtain ⟨c43, hc43⟩ : ∃ c1, c1 = c14 - (1 : Int).toNat := ⟨_, rfl⟩
                have hy43 : y114.length = y109.length - (1 : Int).toNat := (by rw [Ny114.out, List.length_drop] <;> omega)
                rw [show (y109).drop (1 : Int).toNat = y114 from Ny114.out.symm] at hr43
                replace hr43 : Kd.C k30 _ A43 y114.length y114 := (by rw [hA43]; exact hr43)
                rw [← hy43, ← hA43, ← hc43] at hcut43
                have HR117 := Aside0.mk hr43
                have HC117 := Aside0.mk (show y114.length ≤ c43 from by rw [hy43, hc43]; exact Nat.sub_le_sub_right hroom43 _)
                clear hr43 hC43 hroom43 hi043 hsz43 hc43
                have KY43 := Aside0.mk hy43
                have KA43 := Aside0.mk hA43
                clear hy43 hA43
                replace q43 := eq_true q43
                try go_wp2
                have n0_ := Aside0.mk (blk_drew BK107.out)
                have n1_ := Aside0.mk (below_drew1 HB.out)
                clear BK107
                clear HB
                have BK107 := n0_
                have HB := n1_
                clear n0_ n1_
                have q45 : (x6_2 : Int) ≤ ((l0.length : Int) : Int) := of_decide_eq_true ‹_›
                obtain ⟨i045, hi045, _, hsz45, _⟩ := info_parts info30
                have hroom45 : l0.length ≤ c0 := HC0.out
                have hC45 : Kd.C k30 _ A0 l0.length l0 := HR0.out
                have hcut45 := cut_to (P := Try.prog) 26 30 .i64 Try.underlying26 hi045 A0 l0.length c0 x6_2 (of_decide_eq_true ‹_›) q45 hroom45
                have hr45 := Kd.C_take (m := (x6_2 : Int).toNat) hC45 (by omega)
                have hy45 : y121.length = (x6_2 : Int).toNat := (by rw [Ny121.out, List.length_take]; omega)
                rw [← Ny121.out] at hr45
                rw [← hy45] at hcut45
                have HR124 := Aside0.mk hr45
                have HC124 := Aside0.mk (show y121.length ≤ c0 from by omega)
                clear hr45 hC45 hroom45 hi045 hsz45
                have KY45 := Aside0.mk hy45
                clear hy45
                replace q45 := eq_true q45
                refine start_ (n := 11) (S := fun w' => w'.cell? ⟨gb107, 0, none⟩ = some (.int .i64 a1_0) ∧ w'.cell? ⟨gb107, 1, none⟩ = some (.int .i64 a1_1)) (ds := []) (bR [0, 11]) (by kernel_rfl) rfl rfl ⟨cC BK107 0, cC BK107 1⟩ (fun hHeld => ?_); refine with_tabW spec_PutMark.tab7 spec_PutMark.bits7 (fun HT_ HW_ => ?_)
                generalize wc.drew = w44 at BK107 HB HR124 hHeld ⊢
                refine pP 1 43 (bR [0, 1, 1, 9]) rfl rfl HT_ ?_
                refine pP 2 44 (bR [0, 1, 2, 8]) rfl rfl HT_ ?_
                refine pP 3 45 (bR [0, 1, 3, 7]) rfl rfl HT_ ?_
                refine pP 8 50 (bR [0, 1, 3, 4, 1, 2]) rfl rfl HT_ ?_
                refine take_ (i := 5) (N := some 47) (v := ?_) (a' := ?_) (bR [0, 1, 3, 1, 1, 2, 1, 2]) rfl rfl (take_ofW HT_.out HW_.out (by kernel_rfl)) (fun _ _ _ h => h) (Or.inl ⟨by rfl, ?_⟩) hHeld ?_ ?_
                rotate_left; (rintro w' ⟨s0, s1⟩; go_simp; with_reducible rfl); rotate_left; (simp only [Act.put, sA, sZ, sS, i64_w]; rfl)
                refine join_ (σ := Value × Value × Value) 3 (bR [7, 1, 1, 2]) (fun s_ => [(42, s_.1), (46, s_.2.1), (48, s_.2.2)]) (fun s_ w' => (w'.cell? ⟨gb107, 0, none⟩ = some (.int .i64 a1_0) ∧ w'.cell? ⟨gb107, 1, none⟩ = some (.int .i64 a1_1)) ∧ (Kd.R k30 30 w' w.heap.size (fun k_ => some k_ ≠ (s_.2.2 : Value).ownBlock ∧ k_ ≠ gb107) s_.2.1 y125) ∧ (Kd.R k30 30 w' w.heap.size (fun k_ => some k_ ≠ (s_.2.1 : Value).ownBlock ∧ k_ ≠ gb107) s_.2.2 y128) ∧ (w'.heap[gb107]? = some (.cells #[.int .i64 a1_0, .int .i64 a1_1] 30 (0, 0))) ∧ (Below w.heap.size w w')) ?_ ?_
                rotate_left
                ·intro hCont
                 refine two_ (i := 0) (j := 6) (Ni := some 42) (Nj := some 48) (bR [4, 1, 1, 2, 1, 2]) (bR [0, 1, 3, 1, 2, 1, 1, 2]) rfl rfl rfl rfl (two_of HT_.out (by kernel_rfl)) (by decide) (by decide) (fun K hK => ?_) (fun K hK => ?_)
                 ·skip
                  refine Kd.R_lit_step k30 _ 30 ?hg (N := 42) ?hd (xs := ([] : List (S30))) (inner := []) (ok := fun _ => True) (okp := fun _ => True) ?hr ?hp (fun _ hk => hk) trivial (Below.refl _ _) (Nat.le_refl _) (by simp) ?_; (case hd => rfl); (case hg => rfl); (case hr => first | (go_simp; done) | (go_simp; rfl)); (case hp => exact (Reps.none _ _))
                  intro v119 w46 ho47 hb hg_ hnew_
                  clear hg_ hnew_
                  (first | rw [← Ny118.out] at ho47 | (simp only [Int.reduceToNat] at ho47; rw [← Ny118.out] at ho47))
                  have n0_ := Aside0.mk (Kd.R_lower (Kd.R_newB ho47 (qK BK107)) (below_size (by repeat first | (with_reducible first | exact HB.out | apply bA | apply bN | apply bD | refine bS ?_ GE107.out) | exact HB.out)))
                  have n1_ := Aside0.mk (blk_below (qK BK107) hb)
                  have n2_ := Aside0.mk (below_step (by repeat first | (with_reducible first | exact HB.out | apply bA | apply bN | apply bD | refine bS ?_ GE107.out) | exact HB.out) hb)
                  clear BK107
                  clear HB
                  have HO120 := n0_
                  have BK107 := n1_
                  have HB := n2_
                  clear n0_ n1_ n2_
                  clear hb ho47
                  refine hK.out _ _ ⟨cC BK107 0, cC BK107 1⟩ (fun hHeld => ?_)
                  clear hK K
                  refine norm_ (a' := ?_) ?_ ?_
                  rotate_left
                  ·show Act.put _ (some 42) _ = _
                   simp only [Act.put, sA, sZ, sS, i64_w]
                   rfl
                  refine two_ (i := 4) (j := 6) (Ni := some 46) (Nj := some 48) (bR [6, 2, 1, 2]) (bR [4, 1, 2, 1, 1, 2]) rfl rfl rfl rfl (two_of HT_.out (by kernel_rfl)) (by decide) (by decide) (fun K hK => ?_) (fun K hK => ?_)
                  ·skip
                   refine Kd.R_append_rows_step k30 (w0 := w) w.heap.size (by rfl) (.tmp 42) (.tmp 45) 26 30 (.agg #[(.int .i64 0), (.int .i64 0)]) 16 rfl Try.underlying26 info30 rfl (by decide) (by omega) v119 y118 y121 _ _ _ (fun k_ => k_ ≠ gb107) (fun _ => False) rfl rfl ?aO ?aR (fun _ _ h => h) (fun _ h => h.elim) ?aF ?aB ?aS ?aL ?_
                   (case aR => exact qC (Kd.C_below HR124.out HB.out))
                   (case aB => exact (by repeat first | (with_reducible first | exact HB.out | apply bA | apply bN | apply bD | refine bS ?_ GE107.out) | exact HB.out))
                   (case aF => exact (fun k_ hk => Kd.freshB (qK BK107) k_ hk))
                   (case aO => exact (by (with_reducible repeat first | apply rA | apply rN | apply rD); exact Kd.R_mono HO120.out (fun _ hk => hk.2)))
                   (case aS => exact (below_size (by repeat first | (with_reducible first | exact HB.out | apply bA | apply bN | apply bD | refine bS ?_ GE107.out) | exact HB.out)))
                   (case aL => have := LMc23.out; omega)
                   intro v126 w48 ho hb hg hat
                   rw [← Ny125.out] at ho
                   have n0_ := Aside0.mk (blk_grown (qK BK107) hg (Kd.R_away HO120.out (fun _ hk => hk.2)))
                   have n1_ := Aside0.mk (hb)
                   have n2_ := Aside0.mk (ho)
                   clear BK107
                   clear HB
                   clear HO120
                   have BK107 := n0_
                   have HB := n1_
                   have HO127 := n2_
                   clear n0_ n1_ n2_
                   clear ho hb hg hat
                   refine hK.out _ _ ⟨cC BK107 0, cC BK107 1⟩ (fun hHeld => ?_)
                   clear hK K
                   refine norm_ (a' := ?_) ?_ ?_
                   rotate_left
                   ·show Act.put _ (some 46) _ = _
                    simp only [Act.put, sA, sZ, sS, i64_w]
                    rfl
                   refine one_ (i := 6) (N := some 48) (bR [7, 1, 1, 2]) rfl rfl (one_of HT_.out (by kernel_rfl)) (by decide) (fun K hK => ?_)
                   refine Kd.R_lit_step k30 _ 30 ?hg (N := 48) ?hd (xs := ([(⟨a1_0, a1_1⟩ : S30)] : List (S30))) (inner := [.int .i64 a1_0, .int .i64 a1_1]) (ok := fun _ => True) (okp := fun _ => True) ?hr ?hp (fun _ hk => hk) trivial (Below.refl _ _) (Nat.le_refl _) (by simp) ?_; (case hd => rfl); (case hg => rfl); (case hr => first | (go_simp; done) | (go_simp; rfl)); (case hp => exact (Reps.c2 (show Kd.M k30 _ _ _ (⟨a1_0, a1_1⟩ : S30) [.int .i64 a1_0, .int .i64 a1_1] from (k30_mkM _ _ _ (⟨a1_0, a1_1⟩ : S30) )) (Reps.none _ _)))
                   intro v129 w49 ho50 hb hg_ hnew_
                   clear hg_ hnew_
                   (first | rw [← Ny128.out] at ho50 | (simp only [Int.reduceToNat] at ho50; rw [← Ny128.out] at ho50))
                   have n0_ := Aside0.mk (Kd.R_elder' (qR HO127) (Kd.R_base ho50) hb)
                   have n1_ := Aside0.mk (Kd.R_lower (Kd.R_newB (Kd.R_new' ho50 (Kd.R_lt (qR HO127))) (qK BK107)) (below_size (by repeat first | (with_reducible first | exact HB.out | apply bA | apply bN | apply bD | refine bS ?_ GE107.out) | exact HB.out)))
                   have n2_ := Aside0.mk (blk_below (qK BK107) hb)
                   have n3_ := Aside0.mk (below_step (by repeat first | (with_reducible first | exact HB.out | apply bA | apply bN | apply bD | refine bS ?_ GE107.out) | exact HB.out) hb)
                   clear HO127
                   clear BK107
                   clear HB
                   have HO127 := n0_
                   have HO130 := n1_
                   have BK107 := n2_
                   have HB := n3_
                   clear n0_ n1_ n2_ n3_
                   clear hb ho50
                   refine hK.out _ _ ⟨cC BK107 0, cC BK107 1⟩ (fun hHeld => ?_)
                   clear hK K
                   refine norm_ (a' := ?_) ?_ ?_
                   rotate_left
                   ·show Act.put _ (some 48) _ = _
                    simp only [Act.put, sA, sZ, sS, i64_w]
                    rfl
                   exact norm_ (by simp only [putAll, Act.put, sA, sZ, sS]) (hCont (v119, v126, v129) _ ⟨hHeld, (by (with_reducible repeat first | apply rA | apply rN | apply rD); exact Kd.R_mono HO127.out (fun _ hk => ⟨hk.2, hk.1⟩)), (by (with_reducible repeat first | apply rA | apply rN | apply rD); exact Kd.R_mono HO130.out (fun _ hk => ⟨hk.1.2, hk.2⟩)), (qK BK107), (by repeat first | (with_reducible first | exact HB.out | apply bA | apply bN | apply bD | refine bS ?_ GE107.out) | exact HB.out)⟩)
                  ·skip
                   refine Kd.R_lit_step k30 _ 30 ?hg (N := 48) ?hd (xs := ([(⟨a1_0, a1_1⟩ : S30)] : List (S30))) (inner := [.int .i64 a1_0, .int .i64 a1_1]) (ok := fun _ => True) (okp := fun _ => True) ?hr ?hp (fun _ hk => hk) trivial (Below.refl _ _) (Nat.le_refl _) (by simp) ?_; (case hd => rfl); (case hg => rfl); (case hr => first | (go_simp; done) | (go_simp; rfl)); (case hp => exact (Reps.c2 (show Kd.M k30 _ _ _ (⟨a1_0, a1_1⟩ : S30) [.int .i64 a1_0, .int .i64 a1_1] from (k30_mkM _ _ _ (⟨a1_0, a1_1⟩ : S30) )) (Reps.none _ _)))
                   intro v129 w48 ho49 hb hg_ hnew_
                   clear hg_ hnew_
                   (first | rw [← Ny128.out] at ho49 | (simp only [Int.reduceToNat] at ho49; rw [← Ny128.out] at ho49))
                   have n0_ := Aside0.mk (Kd.R_elder' (qR HO120) (Kd.R_base ho49) hb)
                   have n1_ := Aside0.mk (Kd.R_lower (Kd.R_newB (Kd.R_new' ho49 (Kd.R_lt (qR HO120))) (qK BK107)) (below_size (by repeat first | (with_reducible first | exact HB.out | apply bA | apply bN | apply bD | refine bS ?_ GE107.out) | exact HB.out)))
                   have n2_ := Aside0.mk (blk_below (qK BK107) hb)
                   have n3_ := Aside0.mk (below_step (by repeat first | (with_reducible first | exact HB.out | apply bA | apply bN | apply bD | refine bS ?_ GE107.out) | exact HB.out) hb)
                   clear HO120
                   clear BK107
                   clear HB
                   have HO120 := n0_
                   have HO130 := n1_
                   have BK107 := n2_
                   have HB := n3_
                   clear n0_ n1_ n2_ n3_
                   clear hb ho49
                   refine hK.out _ _ ⟨cC BK107 0, cC BK107 1⟩ (fun hHeld => ?_)
                   clear hK K
                   refine norm_ (a' := ?_) ?_ ?_
                   rotate_left
                   ·show Act.put _ (some 48) _ = _
                    simp only [Act.put, sA, sZ, sS, i64_w]
                    rfl
                   refine one_ (i := 4) (N := some 46) (bR [7, 1, 1, 2]) rfl rfl (one_of HT_.out (by kernel_rfl)) (by decide) (fun K hK => ?_)
                   refine Kd.R_append_rows_step k30 (w0 := w) w.heap.size (by rfl) (.tmp 42) (.tmp 45) 26 30 (.agg #[(.int .i64 0), (.int .i64 0)]) 16 rfl Try.underlying26 info30 rfl (by decide) (by omega) v119 y118 y121 _ _ _ (fun k_ => some k_ ≠ (v129 : Value).ownBlock ∧ k_ ≠ gb107) (fun _ => False) rfl rfl ?aO ?aR (fun _ _ h => h) (fun _ h => h.elim) ?aF ?aB ?aS ?aL ?_
                   (case aR => exact qC (Kd.C_below HR124.out HB.out))
                   (case aB => exact (by repeat first | (with_reducible first | exact HB.out | apply bA | apply bN | apply bD | refine bS ?_ GE107.out) | exact HB.out))
                   (case aF => exact (fun k_ hk => ⟨Kd.fresh' (Kd.R_lt (qR HO130)) k_ hk, Kd.freshB (qK BK107) k_ hk⟩))
                   (case aO => exact (by (with_reducible repeat first | apply rA | apply rN | apply rD); exact Kd.R_mono HO120.out (fun _ hk => ⟨hk.2, hk.1.2⟩)))
                   (case aS => exact (below_size (by repeat first | (with_reducible first | exact HB.out | apply bA | apply bN | apply bD | refine bS ?_ GE107.out) | exact HB.out)))
                   (case aL => have := LMc23.out; omega)
                   intro v126 w50 ho hb hg hat
                   rw [← Ny125.out] at ho
                   have n0_ := Aside0.mk (blk_grown (qK BK107) hg (Kd.R_away HO120.out (fun _ hk => hk.1.2)))
                   have n1_ := Aside0.mk (Kd.R_after (ok := (fun k_ => k_ ≠ gb107)) (by (with_reducible repeat first | apply rA | apply rN | apply rD); exact Kd.R_mono HO130.out (fun _ hk => ⟨hk.2, hk.1.2⟩)) hg hat)
                   have n2_ := Aside0.mk (hb)
                   have n3_ := Aside0.mk (ho)
                   clear BK107
                   clear HO130
                   clear HB
                   clear HO120
                   have BK107 := n0_
                   have HO130 := n1_
                   have HB := n2_
                   have HO127 := n3_
                   clear n0_ n1_ n2_ n3_
                   clear ho hb hg hat
                   refine hK.out _ _ ⟨cC BK107 0, cC BK107 1⟩ (fun hHeld => ?_)
                   clear hK K
                   refine norm_ (a' := ?_) ?_ ?_
                   rotate_left
                   ·show Act.put _ (some 46) _ = _
                    simp only [Act.put, sA, sZ, sS, i64_w]
                    rfl
                   exact norm_ (by simp only [putAll, Act.put, sA, sZ, sS]) (hCont (v119, v126, v129) _ ⟨hHeld, (qR HO127), (by (with_reducible repeat first | apply rA | apply rN | apply rD); exact Kd.R_mono HO130.out (fun _ hk => ⟨hk.2, hk.1⟩)), (qK BK107), (by repeat first | (with_reducible first | exact HB.out | apply bA | apply bN | apply bD | refine bS ?_ GE107.out) | exact HB.out)⟩)
                 ·skip
                  refine Kd.R_lit_step k30 _ 30 ?hg (N := 48) ?hd (xs := ([(⟨a1_0, a1_1⟩ : S30)] : List (S30))) (inner := [.int .i64 a1_0, .int .i64 a1_1]) (ok := fun _ => True) (okp := fun _ => True) ?hr ?hp (fun _ hk => hk) trivial (Below.refl _ _) (Nat.le_refl _) (by simp) ?_; (case hd => rfl); (case hg => rfl); (case hr => first | (go_simp; done) | (go_simp; rfl)); (case hp => exact (Reps.c2 (show Kd.M k30 _ _ _ (⟨a1_0, a1_1⟩ : S30) [.int .i64 a1_0, .int .i64 a1_1] from (k30_mkM _ _ _ (⟨a1_0, a1_1⟩ : S30) )) (Reps.none _ _)))
                  intro v129 w46 ho47 hb hg_ hnew_
                  clear hg_ hnew_
                  (first | rw [← Ny128.out] at ho47 | (simp only [Int.reduceToNat] at ho47; rw [← Ny128.out] at ho47))
                  have n0_ := Aside0.mk (Kd.R_lower (Kd.R_newB ho47 (qK BK107)) (below_size (by repeat first | (with_reducible first | exact HB.out | apply bA | apply bN | apply bD | refine bS ?_ GE107.out) | exact HB.out)))
                  have n1_ := Aside0.mk (blk_below (qK BK107) hb)
                  have n2_ := Aside0.mk (below_step (by repeat first | (with_reducible first | exact HB.out | apply bA | apply bN | apply bD | refine bS ?_ GE107.out) | exact HB.out) hb)
                  clear BK107
                  clear HB
                  have HO130 := n0_
                  have BK107 := n1_
                  have HB := n2_
                  clear n0_ n1_ n2_
                  clear hb ho47
                  refine hK.out _ _ ⟨cC BK107 0, cC BK107 1⟩ (fun hHeld => ?_)
                  clear hK K
                  refine norm_ (a' := ?_) ?_ ?_
                  rotate_left
                  ·show Act.put _ (some 48) _ = _
                   simp only [Act.put, sA, sZ, sS, i64_w]
                   rfl
                  refine one_ (i := 0) (N := some 42) (bR [4, 1, 2, 1, 1, 2]) rfl rfl (one_of HT_.out (by kernel_rfl)) (by decide) (fun K hK => ?_)
                  refine Kd.R_lit_step k30 _ 30 ?hg (N := 42) ?hd (xs := ([] : List (S30))) (inner := []) (ok := fun _ => True) (okp := fun _ => True) ?hr ?hp (fun _ hk => hk) trivial (Below.refl _ _) (Nat.le_refl _) (by simp) ?_; (case hd => rfl); (case hg => rfl); (case hr => first | (go_simp; done) | (go_simp; rfl)); (case hp => exact (Reps.none _ _))
                  intro v119 w48 ho49 hb hg_ hnew_
                  clear hg_ hnew_
                  (first | rw [← Ny118.out] at ho49 | (simp only [Int.reduceToNat] at ho49; rw [← Ny118.out] at ho49))
                  have n0_ := Aside0.mk (Kd.R_elder' (qR HO130) (Kd.R_base ho49) hb)
                  have n1_ := Aside0.mk (Kd.R_lower (Kd.R_newB (Kd.R_new' ho49 (Kd.R_lt (qR HO130))) (qK BK107)) (below_size (by repeat first | (with_reducible first | exact HB.out | apply bA | apply bN | apply bD | refine bS ?_ GE107.out) | exact HB.out)))
                  have n2_ := Aside0.mk (blk_below (qK BK107) hb)
                  have n3_ := Aside0.mk (below_step (by repeat first | (with_reducible first | exact HB.out | apply bA | apply bN | apply bD | refine bS ?_ GE107.out) | exact HB.out) hb)
                  clear HO130
                  clear BK107
                  clear HB
                  have HO130 := n0_
                  have HO120 := n1_
                  have BK107 := n2_
                  have HB := n3_
                  clear n0_ n1_ n2_ n3_
                  clear hb ho49
                  refine hK.out _ _ ⟨cC BK107 0, cC BK107 1⟩ (fun hHeld => ?_)
                  clear hK K
                  refine norm_ (a' := ?_) ?_ ?_
                  rotate_left
                  ·show Act.put _ (some 42) _ = _
                   simp only [Act.put, sA, sZ, sS, i64_w]
                   rfl
                  refine one_ (i := 4) (N := some 46) (bR [7, 1, 1, 2]) rfl rfl (one_of HT_.out (by kernel_rfl)) (by decide) (fun K hK => ?_)
                  refine Kd.R_append_rows_step k30 (w0 := w) w.heap.size (by rfl) (.tmp 42) (.tmp 45) 26 30 (.agg #[(.int .i64 0), (.int .i64 0)]) 16 rfl Try.underlying26 info30 rfl (by decide) (by omega) v119 y118 y121 _ _ _ (fun k_ => some k_ ≠ (v129 : Value).ownBlock ∧ k_ ≠ gb107) (fun _ => False) rfl rfl ?aO ?aR (fun _ _ h => h) (fun _ h => h.elim) ?aF ?aB ?aS ?aL ?_
                  (case aR => exact qC (Kd.C_below HR124.out HB.out))
                  (case aB => exact (by repeat first | (with_reducible first | exact HB.out | apply bA | apply bN | apply bD | refine bS ?_ GE107.out) | exact HB.out))
                  (case aF => exact (fun k_ hk => ⟨Kd.fresh' (Kd.R_lt (qR HO130)) k_ hk, Kd.freshB (qK BK107) k_ hk⟩))
                  (case aO => exact (by (with_reducible repeat first | apply rA | apply rN | apply rD); exact Kd.R_mono HO120.out (fun _ hk => ⟨hk.1.2, hk.2⟩)))
                  (case aS => exact (below_size (by repeat first | (with_reducible first | exact HB.out | apply bA | apply bN | apply bD | refine bS ?_ GE107.out) | exact HB.out)))
                  (case aL => have := LMc23.out; omega)
                  intro v126 w50 ho hb hg hat
                  rw [← Ny125.out] at ho
                  have n0_ := Aside0.mk (blk_grown (qK BK107) hg (Kd.R_away HO120.out (fun _ hk => hk.2)))
                  have n1_ := Aside0.mk (Kd.R_after (ok := (fun k_ => k_ ≠ gb107)) (by (with_reducible repeat first | apply rA | apply rN | apply rD); exact Kd.R_mono HO130.out (fun _ hk => ⟨hk.1.2, hk.2⟩)) hg hat)
                  have n2_ := Aside0.mk (hb)
                  have n3_ := Aside0.mk (ho)
                  clear BK107
                  clear HO130
                  clear HB
                  clear HO120
                  have BK107 := n0_
                  have HO130 := n1_
                  have HB := n2_
                  have HO127 := n3_
                  clear n0_ n1_ n2_ n3_
                  clear ho hb hg hat
                  refine hK.out _ _ ⟨cC BK107 0, cC BK107 1⟩ (fun hHeld => ?_)
                  clear hK K
                  refine norm_ (a' := ?_) ?_ ?_
                  rotate_left
                  ·show Act.put _ (some 46) _ = _
                   simp only [Act.put, sA, sZ, sS, i64_w]
                   rfl
                  exact norm_ (by simp only [putAll, Act.put, sA, sZ, sS]) (hCont (v119, v126, v129) _ ⟨hHeld, (qR HO127), (by (with_reducible repeat first | apply rA | apply rN | apply rD); exact Kd.R_mono HO130.out (fun _ hk => ⟨hk.2, hk.1⟩)), (qK BK107), (by repeat first | (with_reducible first | exact HB.out | apply bA | apply bN | apply bD | refine bS ?_ GE107.out) | exact HB.out)⟩)
                rintro ⟨v119, v126, v129⟩ w51 ⟨hS_, h0_, h1_, h2_, h3_⟩
                have n0_ : Aside0 (Kd.R k30 30 w51 w.heap.size (fun k_ => some k_ ≠ (v129 : Value).ownBlock ∧ k_ ≠ gb107) v126 y125) := ⟨h0_⟩
                have n1_ : Aside0 (Kd.R k30 30 w51 w.heap.size (fun k_ => some k_ ≠ (v126 : Value).ownBlock ∧ k_ ≠ gb107) v129 y128) := ⟨h1_⟩
                have n2_ : Aside0 (w51.heap[gb107]? = some (.cells #[.int .i64 a1_0, .int .i64 a1_1] 30 (0, 0))) := ⟨h2_⟩
                have n3_ : Aside0 (Below w.heap.size w w51) := ⟨h3_⟩
                clear BK107
                clear HB
                clear h0_ h1_ h2_ h3_
                have HO127 := n0_
                have HO130 := n1_
                have BK107 := n2_
                have HB := n3_
                clear n0_ n1_ n2_ n3_
                have hHeld : w51.cell? ⟨gb107, 0, none⟩ = some (.int .i64 a1_0) ∧ w51.cell? ⟨gb107, 1, none⟩ = some (.int .i64 a1_1) := hS_
                obtain ⟨Ao53, co53, eo53⟩ := Kd.R_slice HO130.out
                (first | subst eo53 | (injection eo53 with f1_ f2_ f3_; have f4_ := f1_.symm; have f5_ := f3_.symm; clear f1_ f2_ f3_; subst f4_; subst f5_))
                refine norm_ (a' := ?_) ?_ ?_
                rotate_left; (simp only [putAll, Act.put, sA, sZ, sS]; rfl)
                refine one_ (i := 7) (N := some 49) (bR [9, 2]) rfl rfl (one_of HT_.out (by kernel_rfl)) (by decide) (fun K hK => ?_)
                refine Kd.R_append_rows_step k30 (w0 := w) w.heap.size (by rfl) (.tmp 46) (.tmp 48) 26 30 (.agg #[(.int .i64 0), (.int .i64 0)]) 16 rfl Try.underlying26 info30 rfl (by decide) (by omega) v126 y125 y128 _ _ _ (fun k_ => some k_ ≠ (.slice Ao53 y128.length co53 : Value).ownBlock ∧ k_ ≠ gb107) (fun _ => False) rfl rfl ?aO ?aR (fun _ _ h => h) (fun _ h => h.elim) ?aF ?aB ?aS ?aL ?_
                (case aR => repeat (first | exact (Kd.R_reads' HO130.out).2.2 | (with_reducible refine Kd.C_alloc ?_ _) | (with_reducible refine Kd.C_drewN ?_ _) | (with_reducible refine Kd.C_drew ?_)))
                (case aB => exact (by repeat first | (with_reducible first | exact HB.out | apply bA | apply bN | apply bD | refine bS ?_ GE107.out) | exact HB.out))
                (case aF => exact (fun k_ hk => ⟨Kd.fresh' (Kd.R_lt (qR HO130)) k_ hk, Kd.freshB (qK BK107) k_ hk⟩))
                (case aO => exact (qR HO127))
                (case aS => exact (below_size (by repeat first | (with_reducible first | exact HB.out | apply bA | apply bN | apply bD | refine bS ?_ GE107.out) | exact HB.out)))
                (case aL => have := LMc24.out; omega)
                intro v132 w52 ho hb hg hat
                rw [← Ny131.out] at ho
                have n0_ := Aside0.mk (blk_grown (qK BK107) hg (Kd.R_away HO127.out (fun _ hk => hk.2)))
                have n1_ := Aside0.mk (Kd.R_after (ok := (fun k_ => k_ ≠ gb107)) (by (with_reducible repeat first | apply rA | apply rN | apply rD); exact Kd.R_mono HO130.out (fun _ hk => ⟨hk.2, hk.1⟩)) hg hat)
                have n2_ := Aside0.mk (hb)
                have n3_ := Aside0.mk (ho)
                clear BK107
                clear HO130
                clear HB
                clear HO127
                have BK107 := n0_
                have HO130 := n1_
                have HB := n2_
                have HO133 := n3_
                clear n0_ n1_ n2_ n3_
                clear ho hb hg hat
                refine hK.out _ _ ⟨cC BK107 0, cC BK107 1⟩ (fun hHeld => ?_)
                clear hK K
                refine norm_ (a' := ?_) ?_ ?_
                rotate_left
                ·show Act.put _ (some 49) _ = _
                 simp only [Act.put, sA, sZ, sS, i64_w]
                 rfl
                refine one_ (i := 9) (N := some 51) (bR [10, 1]) rfl rfl (one_of HT_.out (by kernel_rfl)) (by decide) (fun K hK => ?_)
                refine Kd.R_append_rows_step k30 (w0 := w) w.heap.size (by rfl) (.tmp 49) (.tmp 50) 26 30 (.agg #[(.int .i64 0), (.int .i64 0)]) 16 rfl Try.underlying26 info30 rfl (by decide) (by omega) v132 y131 y114 _ _ _ (fun k_ => some k_ ≠ (.slice Ao53 y128.length co53 : Value).ownBlock ∧ k_ ≠ gb107) (fun _ => False) rfl rfl ?aO ?aR (fun _ _ h => h) (fun _ h => h.elim) ?aF ?aB ?aS ?aL ?_
                (case aR => exact qC (Kd.C_below HR117.out HB.out))
                (case aB => exact (by repeat first | (with_reducible first | exact HB.out | apply bA | apply bN | apply bD | refine bS ?_ GE107.out) | exact HB.out))
                (case aF => exact (fun k_ hk => ⟨Kd.fresh' (Kd.R_lt (qR HO130)) k_ hk, Kd.freshB (qK BK107) k_ hk⟩))
                (case aO => exact (qR HO133))
                (case aS => exact (below_size (by repeat first | (with_reducible first | exact HB.out | apply bA | apply bN | apply bD | refine bS ?_ GE107.out) | exact HB.out)))
                (case aL => have := LMc25.out; omega)
                intro v135 w54 ho hb hg hat
                rw [← Ny134.out] at ho
                have n0_ := Aside0.mk (blk_grown (qK BK107) hg (Kd.R_away HO133.out (fun _ hk => hk.2)))
                have n1_ := Aside0.mk (Kd.R_after (ok := (fun k_ => k_ ≠ gb107)) (qR HO130) hg hat)
                have n2_ := Aside0.mk (hb)
                have n3_ := Aside0.mk (ho)
                clear BK107
                clear HO130
                clear HB
                clear HO133
                have BK107 := n0_
                have HO130 := n1_
                have HB := n2_
                have HO136 := n3_
                clear n0_ n1_ n2_ n3_
                clear ho hb hg hat
                refine hK.out _ _ ⟨cC BK107 0, cC BK107 1⟩ (fun hHeld => ?_)
                clear hK K
                refine norm_ (a' := ?_) ?_ ?_
                rotate_left
                ·show Act.put _ (some 51) _ = _
                 simp only [Act.put, sA, sZ, sS, i64_w]
                 rfl
                refine pP 10 8 (bR [11]) rfl rfl HT_ ?_
                refine done_ (done_of HT_.out (by kernel_rfl)) ?_
                obtain ⟨Ao55, co55, eo55⟩ := Kd.R_slice HO136.out
                subst eo55
                try go_wp2_with (first | ((with_reducible refine gate_callee (f := 104) rfl ?_); refine goesL_ (some 53) rfl rfl Try.func104 (by kernel_rfl) rfl #[.slice Ao55 y134.length co55] rfl (by (try simp only [mA, mC, mN]); first | done | rfl | (simp only [lD, lT]; rfl)) ?_; (with_reducible refine (spec_AreMarks.calls kj12 _ _ y134 false _ ?side1 ?side2 A26.out).mono ?_); (case side1 => repeat (first | exact (Kd.R_reads' HO136.out).2.2 | (with_reducible refine Kd.C_alloc ?_ _) | (with_reducible refine Kd.C_drewN ?_ _) | (with_reducible refine Kd.C_drew ?_))); (case side2 => exact (Kd.R_reads' HO136.out).2.1); rintro e w56 ⟨rfl, hb⟩; refine ⟨_, rfl, ?_⟩; have n0_ := Aside0.mk (Kd.R_below (qR HO130) hb); have n1_ := Aside0.mk (Kd.R_below (qR HO136) hb); have n2_ := Aside0.mk (blk_below (qK BK107) hb); have n3_ := Aside0.mk (below_step (by repeat first | (with_reducible first | exact HB.out | apply bA | apply bN | apply bD | refine bS ?_ GE107.out) | exact HB.out) hb); clear HO130; clear HO136; clear BK107; clear HB; have HO130 := n0_; have HO136 := n1_; have BK107 := n2_; have HB := n3_; clear n0_ n1_ n2_ n3_; (try clear hb); (try clear hb2); (try clear hk); (try clear hi)) | ((with_reducible refine gate_dst (N := 55) rfl ?_); refine Kd.R_lit k30 _ 30 ?hg (N := 55) ?hd (xs := ([] : List (S30))) (inner := []) (ok := fun _ => True) (okp := fun _ => True) ?hr ?hp (fun _ hk => hk) trivial (Below.refl _ _) (Nat.le_refl _) (by simp) ?_; (case hd => rfl); (case hg => rfl); (case hr => first | (go_simp; done) | (go_simp; rfl)); (case hp => exact (Reps.none _ _)); intro v139 w57 ho58 hb hg_ hnew_; clear hg_ hnew_; (first | rw [← Ny138.out] at ho58 | (simp only [Int.reduceToNat] at ho58; rw [← Ny138.out] at ho58)); have n0_ := Aside0.mk (Kd.R_elder' (qR HO130) (Kd.R_base ho58) hb); have n1_ := Aside0.mk (Kd.R_elder' (qR HO136) (Kd.R_base ho58) hb); have n2_ := Aside0.mk (Kd.R_lower (Kd.R_newB (Kd.R_new' (Kd.R_new' ho58 (Kd.R_lt (qR HO130))) (Kd.R_lt (qR HO136))) (qK BK107)) (below_size (by repeat first | (with_reducible first | exact HB.out | apply bA | apply bN | apply bD | refine bS ?_ GE107.out) | exact HB.out))); have n3_ := Aside0.mk (blk_below (qK BK107) hb); have n4_ := Aside0.mk (below_step (by repeat first | (with_reducible first | exact HB.out | apply bA | apply bN | apply bD | refine bS ?_ GE107.out) | exact HB.out) hb); clear HO130; clear HO136; clear BK107; clear HB; have HO130 := n0_; have HO136 := n1_; have HO140 := n2_; have BK107 := n3_; have HB := n4_; clear n0_ n1_ n2_ n3_ n4_; clear hb ho58) | ((with_reducible refine gate_builtin (b := .append) (xs := #[.tmp 55, .tmp 56]) rfl ?_); at_builtin; refine Kd.R_append_rows k30 (w0 := w) w.heap.size rfl (.tmp 55) (.tmp 56) 26 30 (.agg #[(.int .i64 0), (.int .i64 0)]) 16 rfl Try.underlying26 info30 rfl (by decide) (by omega) v139 y138 l0 _ _ _ (fun k_ => some k_ ≠ (.slice Ao53 y128.length co53 : Value).ownBlock ∧ some k_ ≠ (.slice Ao55 y134.length co55 : Value).ownBlock ∧ k_ ≠ gb107) (fun _ => False) rfl rfl ?aO ?aR (fun _ _ h => h) (fun _ h => h.elim) ?aF ?aB ?aS ?aL ?_; (case aR => exact qC (Kd.C_below HR0.out HB.out)); (case aB => exact (by repeat first | (with_reducible first | exact HB.out | apply bA | apply bN | apply bD | refine bS ?_ GE107.out) | exact HB.out)); (case aF => exact (fun k_ hk => ⟨Kd.fresh' (Kd.R_lt (qR HO130)) k_ hk, Kd.fresh' (Kd.R_lt (qR HO136)) k_ hk, Kd.freshB (qK BK107) k_ hk⟩)); (case aO => exact (by (with_reducible repeat first | apply rA | apply rN | apply rD); exact Kd.R_mono HO140.out (fun _ hk => ⟨hk.1.1.2, ⟨hk.1.2, hk.2⟩⟩))); (case aS => exact (below_size (by repeat first | (with_reducible first | exact HB.out | apply bA | apply bN | apply bD | refine bS ?_ GE107.out) | exact HB.out))); (case aL => have := LMc42.out; omega); intro v142 w59 ho hb hg hat; rw [← Ny141.out] at ho; have n0_ := Aside0.mk (blk_grown (qK BK107) hg (Kd.R_away HO140.out (fun _ hk => hk.2))); have n1_ := Aside0.mk (Kd.R_after (ok := (fun k_ => some k_ ≠ (.slice Ao55 y134.length co55 : Value).ownBlock ∧ k_ ≠ gb107)) (by (with_reducible repeat first | apply rA | apply rN | apply rD); exact Kd.R_mono HO130.out (fun _ hk => ⟨⟨hk.1.2, hk.1.1⟩, hk.2⟩)) hg hat); have n2_ := Aside0.mk (Kd.R_after (ok := (fun k_ => some k_ ≠ (.slice Ao53 y128.length co53 : Value).ownBlock ∧ k_ ≠ gb107)) (qR HO136) hg hat); have n3_ := Aside0.mk (hb); have n4_ := Aside0.mk (ho); clear BK107; clear HO130; clear HO136; clear HB; clear HO140; have BK107 := n0_; have HO130 := n1_; have HO136 := n2_; have HB := n3_; have HO143 := n4_; clear n0_ n1_ n2_ n3_ n4_; clear ho hb hg hat))
                go_ret2
                exact ⟨_, by first | rfl | (simp [errW_none, errW_some] <;> rfl) | (simp [*, errW_none, errW_some] <;> rfl), by (with_reducible repeat first | apply rA | apply rN | apply rD); exact Kd.R_mono HO143.out (fun _ hk => trivial), by repeat (first | (with_reducible first | exact HB.out | apply bA | apply bN | apply bD | refine bS ?_ GE107.out) | exact HB.out)⟩
               ·rw [if_neg c42] at H
                exact absurd H (by simp)
             ·rw [if_neg c25] at H
              exact absurd H (by simp)
            ·rw [if_neg c24] at H
             exact absurd H (by simp)
           ·rw [if_neg c23] at H
            exact absurd H (by simp)
          ·rw [if_neg c22] at H
           exact absurd H (by simp)
         ·rw [if_neg c21] at H
          exact absurd H (by simp)
        ·rw [if_neg c20] at H
         exact absurd H (by simp)
       ·replace c19 := Bool.eq_false_iff.mpr c19
        subst c19
        have H1 : ((some (([] : List (S30)) : List (S30))).bind fun y144 => (if 0 ≤ x6_2 then (if x6_2 ≤ (l0.length : Int) then ((some (l0.take (x6_2 : Int).toNat : List (S30))).bind fun y147 => (if y144.length + y147.length < 8796093022208 then ((some (y144 ++ y147 : List (S30))).bind fun y151 => ((some (([(⟨a1_0, a1_1⟩ : S30)] : List (S30)) : List (S30))).bind fun y154 => (if y151.length + y154.length < 8796093022208 then ((some (y151 ++ y154 : List (S30))).bind fun y157 => (if y157.length + y109.length < 8796093022208 then ((some (y157 ++ y109 : List (S30))).bind fun y160 => ((spec_AreMarks.f kj12 y160).bind fun t163 => (if t163 = true then (some (y160, true)) else ((some (([] : List (S30)) : List (S30))).bind fun y164 => (if y164.length + l0.length < 8796093022208 then (some ((y164 ++ l0), false)) else (none)))))) else (none))) else (none)))) else (none))) else (none)) else (none))) = some (r1, r2) := by rw [if_neg (show ¬ (false = true) by decide)] at H; exact H
        clear H
        have H := H1
        clear H1
        obtain ⟨y144, hy144⟩ : ∃ y_ : List (S30), y_ = (([] : List (S30))) := ⟨_, rfl⟩
        replace H : (if 0 ≤ x6_2 then (if x6_2 ≤ (l0.length : Int) then ((some (l0.take (x6_2 : Int).toNat : List (S30))).bind fun y147 => (if y144.length + y147.length < 8796093022208 then ((some (y144 ++ y147 : List (S30))).bind fun y151 => ((some (([(⟨a1_0, a1_1⟩ : S30)] : List (S30)) : List (S30))).bind fun y154 => (if y151.length + y154.length < 8796093022208 then ((some (y151 ++ y154 : List (S30))).bind fun y157 => (if y157.length + y109.length < 8796093022208 then ((some (y157 ++ y109 : List (S30))).bind fun y160 => ((spec_AreMarks.f kj12 y160).bind fun t163 => (if t163 = true then (some (y160, true)) else ((some (([] : List (S30)) : List (S30))).bind fun y164 => (if y164.length + l0.length < 8796093022208 then (some ((y164 ++ l0), false)) else (none)))))) else (none))) else (none)))) else (none))) else (none)) else (none)) = some (r1, r2) := by first | (rw [hy144]; with_reducible exact H) | (have H2_ := (Option.bind_some _ _).symm.trans H; rw [hy144]; with_reducible exact H2_) | (have H2_ := (Option.bind_some _ _).symm.trans H; with_reducible exact H2_) | with_reducible exact H | (rw [hy144]; exact H) | exact H
        have Ny144 := Aside0.mk hy144
        clear hy144
        by_cases c60 : 0 ≤ x6_2
        ·rw [if_pos c60] at H
         have c60b0 := eq_true c60
         have c60b1 : decide (0 ≤ x6_2) = true := decide_eq_true c60
         clear c60
         by_cases c61 : x6_2 ≤ (l0.length : Int)
         ·rw [if_pos c61] at H
          have c61b0 := eq_true c61
          have c61b1 : decide (x6_2 ≤ (l0.length : Int)) = true := decide_eq_true c61
          clear c61
          obtain ⟨y147, hy147⟩ : ∃ y_ : List (S30), y_ = (l0.take (x6_2 : Int).toNat) := ⟨_, rfl⟩
          replace H : (if y144.length + y147.length < 8796093022208 then ((some (y144 ++ y147 : List (S30))).bind fun y151 => ((some (([(⟨a1_0, a1_1⟩ : S30)] : List (S30)) : List (S30))).bind fun y154 => (if y151.length + y154.length < 8796093022208 then ((some (y151 ++ y154 : List (S30))).bind fun y157 => (if y157.length + y109.length < 8796093022208 then ((some (y157 ++ y109 : List (S30))).bind fun y160 => ((spec_AreMarks.f kj12 y160).bind fun t163 => (if t163 = true then (some (y160, true)) else ((some (([] : List (S30)) : List (S30))).bind fun y164 => (if y164.length + l0.length < 8796093022208 then (some ((y164 ++ l0), false)) else (none)))))) else (none))) else (none)))) else (none)) = some (r1, r2) := by first | (rw [hy147]; with_reducible exact H) | (have H2_ := (Option.bind_some _ _).symm.trans H; rw [hy147]; with_reducible exact H2_) | (have H2_ := (Option.bind_some _ _).symm.trans H; with_reducible exact H2_) | with_reducible exact H | (rw [hy147]; exact H) | exact H
          have Ny147 := Aside0.mk hy147
          clear hy147
          by_cases c62 : y144.length + y147.length < 8796093022208
          ·rw [if_pos c62] at H
           have LMc62 := Aside0.mk c62
           clear c62
           obtain ⟨y151, hy151⟩ : ∃ y_ : List (S30), y_ = (y144 ++ y147) := ⟨_, rfl⟩
           replace H : ((some (([(⟨a1_0, a1_1⟩ : S30)] : List (S30)) : List (S30))).bind fun y154 => (if y151.length + y154.length < 8796093022208 then ((some (y151 ++ y154 : List (S30))).bind fun y157 => (if y157.length + y109.length < 8796093022208 then ((some (y157 ++ y109 : List (S30))).bind fun y160 => ((spec_AreMarks.f kj12 y160).bind fun t163 => (if t163 = true then (some (y160, true)) else ((some (([] : List (S30)) : List (S30))).bind fun y164 => (if y164.length + l0.length < 8796093022208 then (some ((y164 ++ l0), false)) else (none)))))) else (none))) else (none))) = some (r1, r2) := by first | (rw [hy151]; with_reducible exact H) | (have H2_ := (Option.bind_some _ _).symm.trans H; rw [hy151]; with_reducible exact H2_) | (have H2_ := (Option.bind_some _ _).symm.trans H; with_reducible exact H2_) | with_reducible exact H | (rw [hy151]; exact H) | exact H
           have Ny151 := Aside0.mk hy151
           clear hy151
           obtain ⟨y154, hy154⟩ : ∃ y_ : List (S30), y_ = (([(⟨a1_0, a1_1⟩ : S30)] : List (S30))) := ⟨_, rfl⟩
           replace H : (if y151.length + y154.length < 8796093022208 then ((some (y151 ++ y154 : List (S30))).bind fun y157 => (if y157.length + y109.length < 8796093022208 then ((some (y157 ++ y109 : List (S30))).bind fun y160 => ((spec_AreMarks.f kj12 y160).bind fun t163 => (if t163 = true then (some (y160, true)) else ((some (([] : List (S30)) : List (S30))).bind fun y164 => (if y164.length + l0.length < 8796093022208 then (some ((y164 ++ l0), false)) else (none)))))) else (none))) else (none)) = some (r1, r2) := by first | (rw [hy154]; with_reducible exact H) | (have H2_ := (Option.bind_some _ _).symm.trans H; rw [hy154]; with_reducible exact H2_) | (have H2_ := (Option.bind_some _ _).symm.trans H; with_reducible exact H2_) | with_reducible exact H | (rw [hy154]; exact H) | exact H
           have Ny154 := Aside0.mk hy154
           clear hy154
           by_cases c63 : y151.length + y154.length < 8796093022208
           ·rw [if_pos c63] at H
            have LMc63 := Aside0.mk c63
            clear c63
            obtain ⟨y157, hy157⟩ : ∃ y_ : List (S30), y_ = (y151 ++ y154) := ⟨_, rfl⟩
            replace H : (if y157.length + y109.length < 8796093022208 then ((some (y157 ++ y109 : List (S30))).bind fun y160 => ((spec_AreMarks.f kj12 y160).bind fun t163 => (if t163 = true then (some (y160, true)) else ((some (([] : List (S30)) : List (S30))).bind fun y164 => (if y164.length + l0.length < 8796093022208 then (some ((y164 ++ l0), false)) else (none)))))) else (none)) = some (r1, r2) := by first | (rw [hy157]; with_reducible exact H) | (have H2_ := (Option.bind_some _ _).symm.trans H; rw [hy157]; with_reducible exact H2_) | (have H2_ := (Option.bind_some _ _).symm.trans H; with_reducible exact H2_) | with_reducible exact H | (rw [hy157]; exact H) | exact H
            have Ny157 := Aside0.mk hy157
            clear hy157
            by_cases c64 : y157.length + y109.length < 8796093022208
            ·rw [if_pos c64] at H
             have LMc64 := Aside0.mk c64
             clear c64
             obtain ⟨y160, hy160⟩ : ∃ y_ : List (S30), y_ = (y157 ++ y109) := ⟨_, rfl⟩
             replace H : ((spec_AreMarks.f kj12 y160).bind fun t163 => (if t163 = true then (some (y160, true)) else ((some (([] : List (S30)) : List (S30))).bind fun y164 => (if y164.length + l0.length < 8796093022208 then (some ((y164 ++ l0), false)) else (none))))) = some (r1, r2) := by first | (rw [hy160]; with_reducible exact H) | (have H2_ := (Option.bind_some _ _).symm.trans H; rw [hy160]; with_reducible exact H2_) | (have H2_ := (Option.bind_some _ _).symm.trans H; with_reducible exact H2_) | with_reducible exact H | (rw [hy160]; exact H) | exact H
             have Ny160 := Aside0.mk hy160
             clear hy160
             replace H := Option.bind_eq_some_iff.mp H
             obtain ⟨t163, A650, H⟩ := H
             replace H : (if t163 = true then (some (y160, true)) else ((some (([] : List (S30)) : List (S30))).bind fun y164 => (if y164.length + l0.length < 8796093022208 then (some ((y164 ++ l0), false)) else (none)))) = some (r1, r2) := H
             have A65 := Aside0.mk A650
             clear A650
             by_cases c66 : t163 = true
             ·subst c66
              have H1 : (some (y160, true)) = some (r1, r2) := by rw [if_pos rfl] at H; exact H
              clear H
              have H := H1
              clear H1
              simp only [Option.some.injEq, Prod.mk.injEq] at H
              obtain ⟨rfl, rfl⟩ := H
              try go_wp2
              have n0_ := Aside0.mk (blk_drew BK107.out)
              have n1_ := Aside0.mk (below_drew1 HB.out)
              clear BK107
              clear HB
              have BK107 := n0_
              have HB := n1_
              clear n0_ n1_
              have q68 : (x6_2 : Int) ≤ ((l0.length : Int) : Int) := of_decide_eq_true ‹_›
              obtain ⟨i068, hi068, _, hsz68, _⟩ := info_parts info30
              have hroom68 : l0.length ≤ c0 := HC0.out
              have hC68 : Kd.C k30 _ A0 l0.length l0 := HR0.out
              have hcut68 := cut_to (P := Try.prog) 26 30 .i64 Try.underlying26 hi068 A0 l0.length c0 x6_2 (of_decide_eq_true ‹_›) q68 hroom68
              have hr68 := Kd.C_take (m := (x6_2 : Int).toNat) hC68 (by omega)
              have hy68 : y147.length = (x6_2 : Int).toNat := (by rw [Ny147.out, List.length_take]; omega)
              rw [← Ny147.out] at hr68
              rw [← hy68] at hcut68
              have HR150 := Aside0.mk hr68
              have HC150 := Aside0.mk (show y147.length ≤ c0 from by omega)
              clear hr68 hC68 hroom68 hi068 hsz68
              have KY68 := Aside0.mk hy68
              clear hy68
              replace q68 := eq_true q68
              refine start_ (n := 11) (S := fun w' => w'.cell? ⟨gb107, 0, none⟩ = some (.int .i64 a1_0) ∧ w'.cell? ⟨gb107, 1, none⟩ = some (.int .i64 a1_1)) (ds := []) (bR [0, 11]) (by kernel_rfl) rfl rfl ⟨cC BK107 0, cC BK107 1⟩ (fun hHeld => ?_); refine with_tabW spec_PutMark.tab7 spec_PutMark.bits7 (fun HT_ HW_ => ?_)
              generalize wc.drew = w67 at BK107 HB HR150 hHeld ⊢
              refine pP 1 43 (bR [0, 1, 1, 9]) rfl rfl HT_ ?_
              refine pP 2 44 (bR [0, 1, 2, 8]) rfl rfl HT_ ?_
              refine pP 3 45 (bR [0, 1, 3, 7]) rfl rfl HT_ ?_
              refine pP 8 50 (bR [0, 1, 3, 4, 1, 2]) rfl rfl HT_ ?_
              refine take_ (i := 5) (N := some 47) (v := ?_) (a' := ?_) (bR [0, 1, 3, 1, 1, 2, 1, 2]) rfl rfl (take_ofW HT_.out HW_.out (by kernel_rfl)) (fun _ _ _ h => h) (Or.inl ⟨by rfl, ?_⟩) hHeld ?_ ?_
              rotate_left; (rintro w' ⟨s0, s1⟩; go_simp; with_reducible rfl); rotate_left; (simp only [Act.put, sA, sZ, sS, i64_w]; rfl)
              refine join_ (σ := Value × Value × Value) 3 (bR [7, 1, 1, 2]) (fun s_ => [(42, s_.1), (46, s_.2.1), (48, s_.2.2)]) (fun s_ w' => (w'.cell? ⟨gb107, 0, none⟩ = some (.int .i64 a1_0) ∧ w'.cell? ⟨gb107, 1, none⟩ = some (.int .i64 a1_1)) ∧ (Kd.R k30 30 w' w.heap.size (fun k_ => some k_ ≠ (s_.2.2 : Value).ownBlock ∧ k_ ≠ gb107) s_.2.1 y151) ∧ (Kd.R k30 30 w' w.heap.size (fun k_ => some k_ ≠ (s_.2.1 : Value).ownBlock ∧ k_ ≠ gb107) s_.2.2 y154) ∧ (w'.heap[gb107]? = some (.cells #[.int .i64 a1_0, .int .i64 a1_1] 30 (0, 0))) ∧ (Below w.heap.size w w')) ?_ ?_
              rotate_left
              ·intro hCont
               refine two_ (i := 0) (j := 6) (Ni := some 42) (Nj := some 48) (bR [4, 1, 1, 2, 1, 2]) (bR [0, 1, 3, 1, 2, 1, 1, 2]) rfl rfl rfl rfl (two_of HT_.out (by kernel_rfl)) (by decide) (by decide) (fun K hK => ?_) (fun K hK => ?_)
               ·skip
                refine Kd.R_lit_step k30 _ 30 ?hg (N := 42) ?hd (xs := ([] : List (S30))) (inner := []) (ok := fun _ => True) (okp := fun _ => True) ?hr ?hp (fun _ hk => hk) trivial (Below.refl _ _) (Nat.le_refl _) (by simp) ?_; (case hd => rfl); (case hg => rfl); (case hr => first | (go_simp; done) | (go_simp; rfl)); (case hp => exact (Reps.none _ _))
                intro v145 w69 ho70 hb hg_ hnew_
                clear hg_ hnew_
                (first | rw [← Ny144.out] at ho70 | (simp only [Int.reduceToNat] at ho70; rw [← Ny144.out] at ho70))
                have n0_ := Aside0.mk (Kd.R_lower (Kd.R_newB ho70 (qK BK107)) (below_size (by repeat first | (with_reducible first | exact HB.out | apply bA | apply bN | apply bD | refine bS ?_ GE107.out) | exact HB.out)))
                have n1_ := Aside0.mk (blk_below (qK BK107) hb)
                have n2_ := Aside0.mk (below_step (by repeat first | (with_reducible first | exact HB.out | apply bA | apply bN | apply bD | refine bS ?_ GE107.out) | exact HB.out) hb)
                clear BK107
                clear HB
                have HO146 := n0_
                have BK107 := n1_
                have HB := n2_
                clear n0_ n1_ n2_
                clear hb ho70
                refine hK.out _ _ ⟨cC BK107 0, cC BK107 1⟩ (fun hHeld => ?_)
                clear hK K
                refine norm_ (a' := ?_) ?_ ?_
                rotate_left
                ·show Act.put _ (some 42) _ = _
                 simp only [Act.put, sA, sZ, sS, i64_w]
                 rfl
                refine two_ (i := 4) (j := 6) (Ni := some 46) (Nj := some 48) (bR [6, 2, 1, 2]) (bR [4, 1, 2, 1, 1, 2]) rfl rfl rfl rfl (two_of HT_.out (by kernel_rfl)) (by decide) (by decide) (fun K hK => ?_) (fun K hK => ?_)
                ·skip
                 refine Kd.R_append_rows_step k30 (w0 := w) w.heap.size (by rfl) (.tmp 42) (.tmp 45) 26 30 (.agg #[(.int .i64 0), (.int .i64 0)]) 16 rfl Try.underlying26 info30 rfl (by decide) (by omega) v145 y144 y147 _ _ _ (fun k_ => k_ ≠ gb107) (fun _ => False) rfl rfl ?aO ?aR (fun _ _ h => h) (fun _ h => h.elim) ?aF ?aB ?aS ?aL ?_
                 (case aR => exact qC (Kd.C_below HR150.out HB.out))
                 (case aB => exact (by repeat first | (with_reducible first | exact HB.out | apply bA | apply bN | apply bD | refine bS ?_ GE107.out) | exact HB.out))
                 (case aF => exact (fun k_ hk => Kd.freshB (qK BK107) k_ hk))
                 (case aO => exact (by (with_reducible repeat first | apply rA | apply rN | apply rD); exact Kd.R_mono HO146.out (fun _ hk => hk.2)))
                 (case aS => exact (below_size (by repeat first | (with_reducible first | exact HB.out | apply bA | apply bN | apply bD | refine bS ?_ GE107.out) | exact HB.out)))
                 (case aL => have := LMc62.out; omega)
                 intro v152 w71 ho hb hg hat
                 rw [← Ny151.out] at ho
                 have n0_ := Aside0.mk (blk_grown (qK BK107) hg (Kd.R_away HO146.out (fun _ hk => hk.2)))
                 have n1_ := Aside0.mk (hb)
                 have n2_ := Aside0.mk (ho)
                 clear BK107
                 clear HB
                 clear HO146
                 have BK107 := n0_
                 have HB := n1_
                 have HO153 := n2_
                 clear n0_ n1_ n2_
                 clear ho hb hg hat
                 refine hK.out _ _ ⟨cC BK107 0, cC BK107 1⟩ (fun hHeld => ?_)
                 clear hK K
                 refine norm_ (a' := ?_) ?_ ?_
                 rotate_left
                 ·show Act.put _ (some 46) _ = _
                  simp only [Act.put, sA, sZ, sS, i64_w]
                  rfl
                 refine one_ (i := 6) (N := some 48) (bR [7, 1, 1, 2]) rfl rfl (one_of HT_.out (by kernel_rfl)) (by decide) (fun K hK => ?_)
                 refine Kd.R_lit_step k30 _ 30 ?hg (N := 48) ?hd (xs := ([(⟨a1_0, a1_1⟩ : S30)] : List (S30))) (inner := [.int .i64 a1_0, .int .i64 a1_1]) (ok := fun _ => True) (okp := fun _ => True) ?hr ?hp (fun _ hk => hk) trivial (Below.refl _ _) (Nat.le_refl _) (by simp) ?_; (case hd => rfl); (case hg => rfl); (case hr => first | (go_simp; done) | (go_simp; rfl)); (case hp => exact (Reps.c2 (show Kd.M k30 _ _ _ (⟨a1_0, a1_1⟩ : S30) [.int .i64 a1_0, .int .i64 a1_1] from (k30_mkM _ _ _ (⟨a1_0, a1_1⟩ : S30) )) (Reps.none _ _)))
                 intro v155 w72 ho73 hb hg_ hnew_
                 clear hg_ hnew_
                 (first | rw [← Ny154.out] at ho73 | (simp only [Int.reduceToNat] at ho73; rw [← Ny154.out] at ho73))
                 have n0_ := Aside0.mk (Kd.R_elder' (qR HO153) (Kd.R_base ho73) hb)
                 have n1_ := Aside0.mk (Kd.R_lower (Kd.R_newB (Kd.R_new' ho73 (Kd.R_lt (qR HO153))) (qK BK107)) (below_size (by repeat first | (with_reducible first | exact HB.out | apply bA | apply bN | apply bD | refine bS ?_ GE107.out) | exact HB.out)))
                 have n2_ := Aside0.mk (blk_below (qK BK107) hb)
                 have n3_ := Aside0.mk (below_step (by repeat first | (with_reducible first | exact HB.out | apply bA | apply bN | apply bD | refine bS ?_ GE107.out) | exact HB.out) hb)
                 clear HO153
                 clear BK107
                 clear HB
                 have HO153 := n0_
                 have HO156 := n1_
                 have BK107 := n2_
                 have HB := n3_
                 clear n0_ n1_ n2_ n3_
                 clear hb ho73
                 refine hK.out _ _ ⟨cC BK107 0, cC BK107 1⟩ (fun hHeld => ?_)
                 clear hK K
                 refine norm_ (a' := ?_) ?_ ?_
                 rotate_left
                 ·show Act.put _ (some 48) _ = _
                  simp only [Act.put, sA, sZ, sS, i64_w]
                  rfl
                 exact norm_ (by simp only [putAll, Act.put, sA, sZ, sS]) (hCont (v145, v152, v155) _ ⟨hHeld, (by (with_reducible repeat first | apply rA | apply rN | apply rD); exact Kd.R_mono HO153.out (fun _ hk => ⟨hk.2, hk.1⟩)), (by (with_reducible repeat first | apply rA | apply rN | apply rD); exact Kd.R_mono HO156.out (fun _ hk => ⟨hk.1.2, hk.2⟩)), (qK BK107), (by repeat first | (with_reducible first | exact HB.out | apply bA | apply bN | apply bD | refine bS ?_ GE107.out) | exact HB.out)⟩)
                ·skip
                 refine Kd.R_lit_step k30 _ 30 ?hg (N := 48) ?hd (xs := ([(⟨a1_0, a1_1⟩ : S30)] : List (S30))) (inner := [.int .i64 a1_0, .int .i64 a1_1]) (ok := fun _ => True) (okp := fun _ => True) ?hr ?hp (fun _ hk => hk) trivial (Below.refl _ _) (Nat.le_refl _) (by simp) ?_; (case hd => rfl); (case hg => rfl); (case hr => first | (go_simp; done) | (go_simp; rfl)); (case hp => exact (Reps.c2 (show Kd.M k30 _ _ _ (⟨a1_0, a1_1⟩ : S30) [.int .i64 a1_0, .int .i64 a1_1] from (k30_mkM _ _ _ (⟨a1_0, a1_1⟩ : S30) )) (Reps.none _ _)))
                 intro v155 w71 ho72 hb hg_ hnew_
                 clear hg_ hnew_
                 (first | rw [← Ny154.out] at ho72 | (simp only [Int.reduceToNat] at ho72; rw [← Ny154.out] at ho72))
                 have n0_ := Aside0.mk (Kd.R_elder' (qR HO146) (Kd.R_base ho72) hb)
                 have n1_ := Aside0.mk (Kd.R_lower (Kd.R_newB (Kd.R_new' ho72 (Kd.R_lt (qR HO146))) (qK BK107)) (below_size (by repeat first | (with_reducible first | exact HB.out | apply bA | apply bN | apply bD | refine bS ?_ GE107.out) | exact HB.out)))
                 have n2_ := Aside0.mk (blk_below (qK BK107) hb)
                 have n3_ := Aside0.mk (below_step (by repeat first | (with_reducible first | exact HB.out | apply bA | apply bN | apply bD | refine bS ?_ GE107.out) | exact HB.out) hb)
                 clear HO146
                 clear BK107
                 clear HB
                 have HO146 := n0_
                 have HO156 := n1_
                 have BK107 := n2_
                 have HB := n3_
                 clear n0_ n1_ n2_ n3_
                 clear hb ho72
                 refine hK.out _ _ ⟨cC BK107 0, cC BK107 1⟩ (fun hHeld => ?_)
                 clear hK K
                 refine norm_ (a' := ?_) ?_ ?_
                 rotate_left
                 ·show Act.put _ (some 48) _ = _
                  simp only [Act.put, sA, sZ, sS, i64_w]
                  rfl
                 refine one_ (i := 4) (N := some 46) (bR [7, 1, 1, 2]) rfl rfl (one_of HT_.out (by kernel_rfl)) (by decide) (fun K hK => ?_)
                 refine Kd.R_append_rows_step k30 (w0 := w) w.heap.size (by rfl) (.tmp 42) (.tmp 45) 26 30 (.agg #[(.int .i64 0), (.int .i64 0)]) 16 rfl Try.underlying26 info30 rfl (by decide) (by omega) v145 y144 y147 _ _ _ (fun k_ => some k_ ≠ (v155 : Value).ownBlock ∧ k_ ≠ gb107) (fun _ => False) rfl rfl ?aO ?aR (fun _ _ h => h) (fun _ h => h.elim) ?aF ?aB ?aS ?aL ?_
                 (case aR => exact qC (Kd.C_below HR150.out HB.out))
                 (case aB => exact (by repeat first | (with_reducible first | exact HB.out | apply bA | apply bN | apply bD | refine bS ?_ GE107.out) | exact HB.out))
                 (case aF => exact (fun k_ hk => ⟨Kd.fresh' (Kd.R_lt (qR HO156)) k_ hk, Kd.freshB (qK BK107) k_ hk⟩))
                 (case aO => exact (by (with_reducible repeat first | apply rA | apply rN | apply rD); exact Kd.R_mono HO146.out (fun _ hk => ⟨hk.2, hk.1.2⟩)))
                 (case aS => exact (below_size (by repeat first | (with_reducible first | exact HB.out | apply bA | apply bN | apply bD | refine bS ?_ GE107.out) | exact HB.out)))
                 (case aL => have := LMc62.out; omega)
                 intro v152 w73 ho hb hg hat
                 rw [← Ny151.out] at ho
                 have n0_ := Aside0.mk (blk_grown (qK BK107) hg (Kd.R_away HO146.out (fun _ hk => hk.1.2)))
                 have n1_ := Aside0.mk (Kd.R_after (ok := (fun k_ => k_ ≠ gb107)) (by (with_reducible repeat first | apply rA | apply rN | apply rD); exact Kd.R_mono HO156.out (fun _ hk => ⟨hk.2, hk.1.2⟩)) hg hat)
                 have n2_ := Aside0.mk (hb)
                 have n3_ := Aside0.mk (ho)
                 clear BK107
                 clear HO156
                 clear HB
                 clear HO146
                 have BK107 := n0_
                 have HO156 := n1_
                 have HB := n2_
                 have HO153 := n3_
                 clear n0_ n1_ n2_ n3_
                 clear ho hb hg hat
                 refine hK.out _ _ ⟨cC BK107 0, cC BK107 1⟩ (fun hHeld => ?_)
                 clear hK K
                 refine norm_ (a' := ?_) ?_ ?_
                 rotate_left
                 ·show Act.put _ (some 46) _ = _
                  simp only [Act.put, sA, sZ, sS, i64_w]
                  rfl
                 exact norm_ (by simp only [putAll, Act.put, sA, sZ, sS]) (hCont (v145, v152, v155) _ ⟨hHeld, (qR HO153), (by (with_reducible repeat first | apply rA | apply rN | apply rD); exact Kd.R_mono HO156.out (fun _ hk => ⟨hk.2, hk.1⟩)), (qK BK107), (by repeat first | (with_reducible first | exact HB.out | apply bA | apply bN | apply bD | refine bS ?_ GE107.out) | exact HB.out)⟩)
               ·skip
                refine Kd.R_lit_step k30 _ 30 ?hg (N := 48) ?hd (xs := ([(⟨a1_0, a1_1⟩ : S30)] : List (S30))) (inner := [.int .i64 a1_0, .int .i64 a1_1]) (ok := fun _ => True) (okp := fun _ => True) ?hr ?hp (fun _ hk => hk) trivial (Below.refl _ _) (Nat.le_refl _) (by simp) ?_; (case hd => rfl); (case hg => rfl); (case hr => first | (go_simp; done) | (go_simp; rfl)); (case hp => exact (Reps.c2 (show Kd.M k30 _ _ _ (⟨a1_0, a1_1⟩ : S30) [.int .i64 a1_0, .int .i64 a1_1] from (k30_mkM _ _ _ (⟨a1_0, a1_1⟩ : S30) )) (Reps.none _ _)))
                intro v155 w69 ho70 hb hg_ hnew_
                clear hg_ hnew_
                (first | rw [← Ny154.out] at ho70 | (simp only [Int.reduceToNat] at ho70; rw [← Ny154.out] at ho70))
                have n0_ := Aside0.mk (Kd.R_lower (Kd.R_newB ho70 (qK BK107)) (below_size (by repeat first | (with_reducible first | exact HB.out | apply bA | apply bN | apply bD | refine bS ?_ GE107.out) | exact HB.out)))
                have n1_ := Aside0.mk (blk_below (qK BK107) hb)
                have n2_ := Aside0.mk (below_step (by repeat first | (with_reducible first | exact HB.out | apply bA | apply bN | apply bD | refine bS ?_ GE107.out) | exact HB.out) hb)
                clear BK107
                clear HB
                have HO156 := n0_
                have BK107 := n1_
                have HB := n2_
                clear n0_ n1_ n2_
                clear hb ho70
                refine hK.out _ _ ⟨cC BK107 0, cC BK107 1⟩ (fun hHeld => ?_)
                clear hK K
                refine norm_ (a' := ?_) ?_ ?_
                rotate_left
                ·show Act.put _ (some 48) _ = _
                 simp only [Act.put, sA, sZ, sS, i64_w]
                 rfl
                refine one_ (i := 0) (N := some 42) (bR [4, 1, 2, 1, 1, 2]) rfl rfl (one_of HT_.out (by kernel_rfl)) (by decide) (fun K hK => ?_)
                refine Kd.R_lit_step k30 _ 30 ?hg (N := 42) ?hd (xs := ([] : List (S30))) (inner := []) (ok := fun _ => True) (okp := fun _ => True) ?hr ?hp (fun _ hk => hk) trivial (Below.refl _ _) (Nat.le_refl _) (by simp) ?_; (case hd => rfl); (case hg => rfl); (case hr => first | (go_simp; done) | (go_simp; rfl)); (case hp => exact (Reps.none _ _))
                intro v145 w71 ho72 hb hg_ hnew_
                clear hg_ hnew_
                (first | rw [← Ny144.out] at ho72 | (simp only [Int.reduceToNat] at ho72; rw [← Ny144.out] at ho72))
                have n0_ := Aside0.mk (Kd.R_elder' (qR HO156) (Kd.R_base ho72) hb)
                have n1_ := Aside0.mk (Kd.R_lower (Kd.R_newB (Kd.R_new' ho72 (Kd.R_lt (qR HO156))) (qK BK107)) (below_size (by repeat first | (with_reducible first | exact HB.out | apply bA | apply bN | apply bD | refine bS ?_ GE107.out) | exact HB.out)))
                have n2_ := Aside0.mk (blk_below (qK BK107) hb)
                have n3_ := Aside0.mk (below_step (by repeat first | (with_reducible first | exact HB.out | apply bA | apply bN | apply bD | refine bS ?_ GE107.out) | exact HB.out) hb)
                clear HO156
                clear BK107
                clear HB
                have HO156 := n0_
                have HO146 := n1_
                have BK107 := n2_
                have HB := n3_
                clear n0_ n1_ n2_ n3_
                clear hb ho72
                refine hK.out _ _ ⟨cC BK107 0, cC BK107 1⟩ (fun hHeld => ?_)
                clear hK K
                refine norm_ (a' := ?_) ?_ ?_
                rotate_left
                ·show Act.put _ (some 42) _ = _
                 simp only [Act.put, sA, sZ, sS, i64_w]
                 rfl
                refine one_ (i := 4) (N := some 46) (bR [7, 1, 1, 2]) rfl rfl (one_of HT_.out (by kernel_rfl)) (by decide) (fun K hK => ?_)
                refine Kd.R_append_rows_step k30 (w0 := w) w.heap.size (by rfl) (.tmp 42) (.tmp 45) 26 30 (.agg #[(.int .i64 0), (.int .i64 0)]) 16 rfl Try.underlying26 info30 rfl (by decide) (by omega) v145 y144 y147 _ _ _ (fun k_ => some k_ ≠ (v155 : Value).ownBlock ∧ k_ ≠ gb107) (fun _ => False) rfl rfl ?aO ?aR (fun _ _ h => h) (fun _ h => h.elim) ?aF ?aB ?aS ?aL ?_
                (case aR => exact qC (Kd.C_below HR150.out HB.out))
                (case aB => exact (by repeat first | (with_reducible first | exact HB.out | apply bA | apply bN | apply bD | refine bS ?_ GE107.out) | exact HB.out))
                (case aF => exact (fun k_ hk => ⟨Kd.fresh' (Kd.R_lt (qR HO156)) k_ hk, Kd.freshB (qK BK107) k_ hk⟩))
                (case aO => exact (by (with_reducible repeat first | apply rA | apply rN | apply rD); exact Kd.R_mono HO146.out (fun _ hk => ⟨hk.1.2, hk.2⟩)))
                (case aS => exact (below_size (by repeat first | (with_reducible first | exact HB.out | apply bA | apply bN | apply bD | refine bS ?_ GE107.out) | exact HB.out)))
                (case aL => have := LMc62.out; omega)
                intro v152 w73 ho hb hg hat
                rw [← Ny151.out] at ho
                have n0_ := Aside0.mk (blk_grown (qK BK107) hg (Kd.R_away HO146.out (fun _ hk => hk.2)))
                have n1_ := Aside0.mk (Kd.R_after (ok := (fun k_ => k_ ≠ gb107)) (by (with_reducible repeat first | apply rA | apply rN | apply rD); exact Kd.R_mono HO156.out (fun _ hk => ⟨hk.1.2, hk.2⟩)) hg hat)
                have n2_ := Aside0.mk (hb)
                have n3_ := Aside0.mk (ho)
                clear BK107
                clear HO156
                clear HB
                clear HO146
                have BK107 := n0_
                have HO156 := n1_
                have HB := n2_
                have HO153 := n3_
                clear n0_ n1_ n2_ n3_
                clear ho hb hg hat
                refine hK.out _ _ ⟨cC BK107 0, cC BK107 1⟩ (fun hHeld => ?_)
                clear hK K
                refine norm_ (a' := ?_) ?_ ?_
                rotate_left
                ·show Act.put _ (some 46) _ = _
                 simp only [Act.put, sA, sZ, sS, i64_w]
                 rfl
                exact norm_ (by simp only [putAll, Act.put, sA, sZ, sS]) (hCont (v145, v152, v155) _ ⟨hHeld, (qR HO153), (by (with_reducible repeat first | apply rA | apply rN | apply rD); exact Kd.R_mono HO156.out (fun _ hk => ⟨hk.2, hk.1⟩)), (qK BK107), (by repeat first | (with_reducible first | exact HB.out | apply bA | apply bN | apply bD | refine bS ?_ GE107.out) | exact HB.out)⟩)
              rintro ⟨v145, v152, v155⟩ w74 ⟨hS_, h0_, h1_, h2_, h3_⟩
              have n0_ : Aside0 (Kd.R k30 30 w74 w.heap.size (fun k_ => some k_ ≠ (v155 : Value).ownBlock ∧ k_ ≠ gb107) v152 y151) := ⟨h0_⟩
              have n1_ : Aside0 (Kd.R k30 30 w74 w.heap.size (fun k_ => some k_ ≠ (v152 : Value).ownBlock ∧ k_ ≠ gb107) v155 y154) := ⟨h1_⟩
              have n2_ : Aside0 (w74.heap[gb107]? = some (.cells #[.int .i64 a1_0, .int .i64 a1_1] 30 (0, 0))) := ⟨h2_⟩
              have n3_ : Aside0 (Below w.heap.size w w74) := ⟨h3_⟩
              clear BK107
              clear HB
              clear h0_ h1_ h2_ h3_
              have HO153 := n0_
              have HO156 := n1_
              have BK107 := n2_
              have HB := n3_
              clear n0_ n1_ n2_ n3_
              have hHeld : w74.cell? ⟨gb107, 0, none⟩ = some (.int .i64 a1_0) ∧ w74.cell? ⟨gb107, 1, none⟩ = some (.int .i64 a1_1) := hS_
              obtain ⟨Ao76, co76, eo76⟩ := Kd.R_slice HO156.out
              (first | subst eo76 | (injection eo76 with f1_ f2_ f3_; have f4_ := f1_.symm; have f5_ := f3_.symm; clear f1_ f2_ f3_; subst f4_; subst f5_))
              refine norm_ (a' := ?_) ?_ ?_
              rotate_left; (simp only [putAll, Act.put, sA, sZ, sS]; rfl)
              refine one_ (i := 7) (N := some 49) (bR [9, 2]) rfl rfl (one_of HT_.out (by kernel_rfl)) (by decide) (fun K hK => ?_)
              refine Kd.R_append_rows_step k30 (w0 := w) w.heap.size (by rfl) (.tmp 46) (.tmp 48) 26 30 (.agg #[(.int .i64 0), (.int .i64 0)]) 16 rfl Try.underlying26 info30 rfl (by decide) (by omega) v152 y151 y154 _ _ _ (fun k_ => some k_ ≠ (.slice Ao76 y154.length co76 : Value).ownBlock ∧ k_ ≠ gb107) (fun _ => False) rfl rfl ?aO ?aR (fun _ _ h => h) (fun _ h => h.elim) ?aF ?aB ?aS ?aL ?_
              (case aR => repeat (first | exact (Kd.R_reads' HO156.out).2.2 | (with_reducible refine Kd.C_alloc ?_ _) | (with_reducible refine Kd.C_drewN ?_ _) | (with_reducible refine Kd.C_drew ?_)))
              (case aB => exact (by repeat first | (with_reducible first | exact HB.out | apply bA | apply bN | apply bD | refine bS ?_ GE107.out) | exact HB.out))
              (case aF => exact (fun k_ hk => ⟨Kd.fresh' (Kd.R_lt (qR HO156)) k_ hk, Kd.freshB (qK BK107) k_ hk⟩))
              (case aO => exact (qR HO153))
              (case aS => exact (below_size (by repeat first | (with_reducible first | exact HB.out | apply bA | apply bN | apply bD | refine bS ?_ GE107.out) | exact HB.out)))
              (case aL => have := LMc63.out; omega)
              intro v158 w75 ho hb hg hat
              rw [← Ny157.out] at ho
              have n0_ := Aside0.mk (blk_grown (qK BK107) hg (Kd.R_away HO153.out (fun _ hk => hk.2)))
              have n1_ := Aside0.mk (Kd.R_after (ok := (fun k_ => k_ ≠ gb107)) (by (with_reducible repeat first | apply rA | apply rN | apply rD); exact Kd.R_mono HO156.out (fun _ hk => ⟨hk.2, hk.1⟩)) hg hat)
              have n2_ := Aside0.mk (hb)
              have n3_ := Aside0.mk (ho)
              clear BK107
              clear HO156
              clear HB
              clear HO153
              have BK107 := n0_
              have HO156 := n1_
              have HB := n2_
              have HO159 := n3_
              clear n0_ n1_ n2_ n3_
              clear ho hb hg hat
              refine hK.out _ _ ⟨cC BK107 0, cC BK107 1⟩ (fun hHeld => ?_)
              clear hK K
              refine norm_ (a' := ?_) ?_ ?_
              rotate_left
              ·show Act.put _ (some 49) _ = _
               simp only [Act.put, sA, sZ, sS, i64_w]
               rfl
              refine one_ (i := 9) (N := some 51) (bR [10, 1]) rfl rfl (one_of HT_.out (by kernel_rfl)) (by decide) (fun K hK => ?_)
              refine Kd.R_append_rows_step k30 (w0 := w) w.heap.size (by rfl) (.tmp 49) (.tmp 50) 26 30 (.agg #[(.int .i64 0), (.int .i64 0)]) 16 rfl Try.underlying26 info30 rfl (by decide) (by omega) v158 y157 y109 _ _ _ (fun k_ => some k_ ≠ (.slice Ao76 y154.length co76 : Value).ownBlock ∧ k_ ≠ gb107) (fun _ => False) rfl rfl ?aO ?aR (fun _ _ h => h) (fun _ h => h.elim) ?aF ?aB ?aS ?aL ?_
              (case aR => exact qC (Kd.C_below HR112.out HB.out))
              (case aB => exact (by repeat first | (with_reducible first | exact HB.out | apply bA | apply bN | apply bD | refine bS ?_ GE107.out) | exact HB.out))
              (case aF => exact (fun k_ hk => ⟨Kd.fresh' (Kd.R_lt (qR HO156)) k_ hk, Kd.freshB (qK BK107) k_ hk⟩))
              (case aO => exact (qR HO159))
              (case aS => exact (below_size (by repeat first | (with_reducible first | exact HB.out | apply bA | apply bN | apply bD | refine bS ?_ GE107.out) | exact HB.out)))
              (case aL => have := LMc64.out; omega)
              intro v161 w77 ho hb hg hat
              rw [← Ny160.out] at ho
              have n0_ := Aside0.mk (blk_grown (qK BK107) hg (Kd.R_away HO159.out (fun _ hk => hk.2)))
              have n1_ := Aside0.mk (Kd.R_after (ok := (fun k_ => k_ ≠ gb107)) (qR HO156) hg hat)
              have n2_ := Aside0.mk (hb)
              have n3_ := Aside0.mk (ho)
              clear BK107
              clear HO156
              clear HB
              clear HO159
              have BK107 := n0_
              have HO156 := n1_
              have HB := n2_
              have HO162 := n3_
              clear n0_ n1_ n2_ n3_
              clear ho hb hg hat
              refine hK.out _ _ ⟨cC BK107 0, cC BK107 1⟩ (fun hHeld => ?_)
              clear hK K
              refine norm_ (a' := ?_) ?_ ?_
              rotate_left
              ·show Act.put _ (some 51) _ = _
               simp only [Act.put, sA, sZ, sS, i64_w]
               rfl
              refine pP 10 8 (bR [11]) rfl rfl HT_ ?_
              refine done_ (done_of HT_.out (by kernel_rfl)) ?_
              obtain ⟨Ao78, co78, eo78⟩ := Kd.R_slice HO162.out
              subst eo78
              try go_wp2_with (first | ((with_reducible refine gate_callee (f := 104) rfl ?_); refine goesL_ (some 53) rfl rfl Try.func104 (by kernel_rfl) rfl #[.slice Ao78 y160.length co78] rfl (by (try simp only [mA, mC, mN]); first | done | rfl | (simp only [lD, lT]; rfl)) ?_; (with_reducible refine (spec_AreMarks.calls kj12 _ _ y160 true _ ?side1 ?side2 A65.out).mono ?_); (case side1 => repeat (first | exact (Kd.R_reads' HO162.out).2.2 | (with_reducible refine Kd.C_alloc ?_ _) | (with_reducible refine Kd.C_drewN ?_ _) | (with_reducible refine Kd.C_drew ?_))); (case side2 => exact (Kd.R_reads' HO162.out).2.1); rintro e w79 ⟨rfl, hb⟩; refine ⟨_, rfl, ?_⟩; have n0_ := Aside0.mk (Kd.R_below (qR HO156) hb); have n1_ := Aside0.mk (Kd.R_below (qR HO162) hb); have n2_ := Aside0.mk (blk_below (qK BK107) hb); have n3_ := Aside0.mk (below_step (by repeat first | (with_reducible first | exact HB.out | apply bA | apply bN | apply bD | refine bS ?_ GE107.out) | exact HB.out) hb); clear HO156; clear HO162; clear BK107; clear HB; have HO156 := n0_; have HO162 := n1_; have BK107 := n2_; have HB := n3_; clear n0_ n1_ n2_ n3_; (try clear hb); (try clear hb2); (try clear hk); (try clear hi)))
              go_ret2
              exact ⟨_, by first | rfl | (simp [errW_none, errW_some] <;> rfl) | (simp [*, errW_none, errW_some] <;> rfl), by (with_reducible repeat first | apply rA | apply rN | apply rD); exact Kd.R_mono HO162.out (fun _ hk => trivial), by repeat (first | (with_reducible first | exact HB.out | apply bA | apply bN | apply bD | refine bS ?_ GE107.out) | exact HB.out)⟩
             ·replace c66 := Bool.eq_false_iff.mpr c66
              subst c66
              have H1 : ((some (([] : List (S30)) : List (S30))).bind fun y164 => (if y164.length + l0.length < 8796093022208 then (some ((y164 ++ l0), false)) else (none))) = some (r1, r2) := by rw [if_neg (show ¬ (false = true) by decide)] at H; exact H
              clear H
              have H := H1
              clear H1
              obtain ⟨y164, hy164⟩ : ∃ y_ : List (S30), y_ = (([] : List (S30))) := ⟨_, rfl⟩
              replace H : (if y164.length + l0.length < 8796093022208 then (some ((y164 ++ l0), false)) else (none)) = some (r1, r2) := by first | (rw [hy164]; with_reducible exact H) | (have H2_ := (Option.bind_some _ _).symm.trans H; rw [hy164]; with_reducible exact H2_) | (have H2_ := (Option.bind_some _ _).symm.trans H; with_reducible exact H2_) | with_reducible exact H | (rw [hy164]; exact H) | exact H
              have Ny164 := Aside0.mk hy164
              clear hy164
              by_cases c80 : y164.length + l0.length < 8796093022208
              ·rw [if_pos c80] at H
               have LMc80 := Aside0.mk c80
               clear c80
               obtain ⟨y167, hy167⟩ : ∃ y_ : List (S30), y_ = (y164 ++ l0) := ⟨_, rfl⟩
               replace H : (some (y167, false)) = some (r1, r2) := by first | (rw [hy167]; with_reducible exact H) | (have H2_ := (Option.bind_some _ _).symm.trans H; rw [hy167]; with_reducible exact H2_) | (have H2_ := (Option.bind_some _ _).symm.trans H; with_reducible exact H2_) | with_reducible exact H | (rw [hy167]; exact H) | exact H
               have Ny167 := Aside0.mk hy167
               clear hy167
               simp only [Option.some.injEq, Prod.mk.injEq] at H
               obtain ⟨rfl, rfl⟩ := H
               try go_wp2
               have n0_ := Aside0.mk (blk_drew BK107.out)
               have n1_ := Aside0.mk (below_drew1 HB.out)
               clear BK107
               clear HB
               have BK107 := n0_
               have HB := n1_
               clear n0_ n1_
               have q82 : (x6_2 : Int) ≤ ((l0.length : Int) : Int) := of_decide_eq_true ‹_›
               obtain ⟨i082, hi082, _, hsz82, _⟩ := info_parts info30
               have hroom82 : l0.length ≤ c0 := HC0.out
               have hC82 : Kd.C k30 _ A0 l0.length l0 := HR0.out
               have hcut82 := cut_to (P := Try.prog) 26 30 .i64 Try.underlying26 hi082 A0 l0.length c0 x6_2 (of_decide_eq_true ‹_›) q82 hroom82
               have hr82 := Kd.C_take (m := (x6_2 : Int).toNat) hC82 (by omega)
               have hy82 : y147.length = (x6_2 : Int).toNat := (by rw [Ny147.out, List.length_take]; omega)
               rw [← Ny147.out] at hr82
               rw [← hy82] at hcut82
               have HR150 := Aside0.mk hr82
               have HC150 := Aside0.mk (show y147.length ≤ c0 from by omega)
               clear hr82 hC82 hroom82 hi082 hsz82
               have KY82 := Aside0.mk hy82
               clear hy82
               replace q82 := eq_true q82
               refine start_ (n := 11) (S := fun w' => w'.cell? ⟨gb107, 0, none⟩ = some (.int .i64 a1_0) ∧ w'.cell? ⟨gb107, 1, none⟩ = some (.int .i64 a1_1)) (ds := []) (bR [0, 11]) (by kernel_rfl) rfl rfl ⟨cC BK107 0, cC BK107 1⟩ (fun hHeld => ?_); refine with_tabW spec_PutMark.tab7 spec_PutMark.bits7 (fun HT_ HW_ => ?_)
               generalize wc.drew = w81 at BK107 HB HR150 hHeld ⊢
               refine pP 1 43 (bR [0, 1, 1, 9]) rfl rfl HT_ ?_
               refine pP 2 44 (bR [0, 1, 2, 8]) rfl rfl HT_ ?_
               refine pP 3 45 (bR [0, 1, 3, 7]) rfl rfl HT_ ?_
               refine pP 8 50 (bR [0, 1, 3, 4, 1, 2]) rfl rfl HT_ ?_
               refine take_ (i := 5) (N := some 47) (v := ?_) (a' := ?_) (bR [0, 1, 3, 1, 1, 2, 1, 2]) rfl rfl (take_ofW HT_.out HW_.out (by kernel_rfl)) (fun _ _ _ h => h) (Or.inl ⟨by rfl, ?_⟩) hHeld ?_ ?_
               rotate_left; (rintro w' ⟨s0, s1⟩; go_simp; with_reducible rfl); rotate_left; (simp only [Act.put, sA, sZ, sS, i64_w]; rfl)
               refine join_ (σ := Value × Value × Value) 3 (bR [7, 1, 1, 2]) (fun s_ => [(42, s_.1), (46, s_.2.1), (48, s_.2.2)]) (fun s_ w' => (w'.cell? ⟨gb107, 0, none⟩ = some (.int .i64 a1_0) ∧ w'.cell? ⟨gb107, 1, none⟩ = some (.int .i64 a1_1)) ∧ (Kd.R k30 30 w' w.heap.size (fun k_ => some k_ ≠ (s_.2.2 : Value).ownBlock ∧ k_ ≠ gb107) s_.2.1 y151) ∧ (Kd.R k30 30 w' w.heap.size (fun k_ => some k_ ≠ (s_.2.1 : Value).ownBlock ∧ k_ ≠ gb107) s_.2.2 y154) ∧ (w'.heap[gb107]? = some (.cells #[.int .i64 a1_0, .int .i64 a1_1] 30 (0, 0))) ∧ (Below w.heap.size w w')) ?_ ?_
               rotate_left
               ·intro hCont
                refine two_ (i := 0) (j := 6) (Ni := some 42) (Nj := some 48) (bR [4, 1, 1, 2, 1, 2]) (bR [0, 1, 3, 1, 2, 1, 1, 2]) rfl rfl rfl rfl (two_of HT_.out (by kernel_rfl)) (by decide) (by decide) (fun K hK => ?_) (fun K hK => ?_)
                ·skip
                 refine Kd.R_lit_step k30 _ 30 ?hg (N := 42) ?hd (xs := ([] : List (S30))) (inner := []) (ok := fun _ => True) (okp := fun _ => True) ?hr ?hp (fun _ hk => hk) trivial (Below.refl _ _) (Nat.le_refl _) (by simp) ?_; (case hd => rfl); (case hg => rfl); (case hr => first | (go_simp; done) | (go_simp; rfl)); (case hp => exact (Reps.none _ _))
                 intro v145 w83 ho84 hb hg_ hnew_
                 clear hg_ hnew_
                 (first | rw [← Ny144.out] at ho84 | (simp only [Int.reduceToNat] at ho84; rw [← Ny144.out] at ho84))
                 have n0_ := Aside0.mk (Kd.R_lower (Kd.R_newB ho84 (qK BK107)) (below_size (by repeat first | (with_reducible first | exact HB.out | apply bA | apply bN | apply bD | refine bS ?_ GE107.out) | exact HB.out)))
                 have n1_ := Aside0.mk (blk_below (qK BK107) hb)
                 have n2_ := Aside0.mk (below_step (by repeat first | (with_reducible first | exact HB.out | apply bA | apply bN | apply bD | refine bS ?_ GE107.out) | exact HB.out) hb)
                 clear BK107
                 clear HB
                 have HO146 := n0_
                 have BK107 := n1_
                 have HB := n2_
                 clear n0_ n1_ n2_
                 clear hb ho84
                 refine hK.out _ _ ⟨cC BK107 0, cC BK107 1⟩ (fun hHeld => ?_)
                 clear hK K
                 refine norm_ (a' := ?_) ?_ ?_
                 rotate_left
                 ·show Act.put _ (some 42) _ = _
                  simp only [Act.put, sA, sZ, sS, i64_w]
                  rfl
                 refine two_ (i := 4) (j := 6) (Ni := some 46) (Nj := some 48) (bR [6, 2, 1, 2]) (bR [4, 1, 2, 1, 1, 2]) rfl rfl rfl rfl (two_of HT_.out (by kernel_rfl)) (by decide) (by decide) (fun K hK => ?_) (fun K hK => ?_)
                 ·skip
                  refine Kd.R_append_rows_step k30 (w0 := w) w.heap.size (by rfl) (.tmp 42) (.tmp 45) 26 30 (.agg #[(.int .i64 0), (.int .i64 0)]) 16 rfl Try.underlying26 info30 rfl (by decide) (by omega) v145 y144 y147 _ _ _ (fun k_ => k_ ≠ gb107) (fun _ => False) rfl rfl ?aO ?aR (fun _ _ h => h) (fun _ h => h.elim) ?aF ?aB ?aS ?aL ?_
                  (case aR => exact qC (Kd.C_below HR150.out HB.out))
                  (case aB => exact (by repeat first | (with_reducible first | exact HB.out | apply bA | apply bN | apply bD | refine bS ?_ GE107.out) | exact HB.out))
                  (case aF => exact (fun k_ hk => Kd.freshB (qK BK107) k_ hk))
                  (case aO => exact (by (with_reducible repeat first | apply rA | apply rN | apply rD); exact Kd.R_mono HO146.out (fun _ hk => hk.2)))
                  (case aS => exact (below_size (by repeat first | (with_reducible first | exact HB.out | apply bA | apply bN | apply bD | refine bS ?_ GE107.out) | exact HB.out)))
                  (case aL => have := LMc62.out; omega)
                  intro v152 w85 ho hb hg hat
                  rw [← Ny151.out] at ho
                  have n0_ := Aside0.mk (blk_grown (qK BK107) hg (Kd.R_away HO146.out (fun _ hk => hk.2)))
                  have n1_ := Aside0.mk (hb)
                  have n2_ := Aside0.mk (ho)
                  clear BK107
                  clear HB
                  clear HO146
                  have BK107 := n0_
                  have HB := n1_
                  have HO153 := n2_
                  clear n0_ n1_ n2_
                  clear ho hb hg hat
                  refine hK.out _ _ ⟨cC BK107 0, cC BK107 1⟩ (fun hHeld => ?_)
                  clear hK K
                  refine norm_ (a' := ?_) ?_ ?_
                  rotate_left
                  ·show Act.put _ (some 46) _ = _
                   simp only [Act.put, sA, sZ, sS, i64_w]
                   rfl
                  refine one_ (i := 6) (N := some 48) (bR [7, 1, 1, 2]) rfl rfl (one_of HT_.out (by kernel_rfl)) (by decide) (fun K hK => ?_)
                  refine Kd.R_lit_step k30 _ 30 ?hg (N := 48) ?hd (xs := ([(⟨a1_0, a1_1⟩ : S30)] : List (S30))) (inner := [.int .i64 a1_0, .int .i64 a1_1]) (ok := fun _ => True) (okp := fun _ => True) ?hr ?hp (fun _ hk => hk) trivial (Below.refl _ _) (Nat.le_refl _) (by simp) ?_; (case hd => rfl); (case hg => rfl); (case hr => first | (go_simp; done) | (go_simp; rfl)); (case hp => exact (Reps.c2 (show Kd.M k30 _ _ _ (⟨a1_0, a1_1⟩ : S30) [.int .i64 a1_0, .int .i64 a1_1] from (k30_mkM _ _ _ (⟨a1_0, a1_1⟩ : S30) )) (Reps.none _ _)))
                  intro v155 w86 ho87 hb hg_ hnew_
                  clear hg_ hnew_
                  (first | rw [← Ny154.out] at ho87 | (simp only [Int.reduceToNat] at ho87; rw [← Ny154.out] at ho87))
                  have n0_ := Aside0.mk (Kd.R_elder' (qR HO153) (Kd.R_base ho87) hb)
                  have n1_ := Aside0.mk (Kd.R_lower (Kd.R_newB (Kd.R_new' ho87 (Kd.R_lt (qR HO153))) (qK BK107)) (below_size (by repeat first | (with_reducible first | exact HB.out | apply bA | apply bN | apply bD | refine bS ?_ GE107.out) | exact HB.out)))
                  have n2_ := Aside0.mk (blk_below (qK BK107) hb)
                  have n3_ := Aside0.mk (below_step (by repeat first | (with_reducible first | exact HB.out | apply bA | apply bN | apply bD | refine bS ?_ GE107.out) | exact HB.out) hb)
                  clear HO153
                  clear BK107
                  clear HB
                  have HO153 := n0_
                  have HO156 := n1_
                  have BK107 := n2_
                  have HB := n3_
                  clear n0_ n1_ n2_ n3_
                  clear hb ho87
                  refine hK.out _ _ ⟨cC BK107 0, cC BK107 1⟩ (fun hHeld => ?_)
                  clear hK K
                  refine norm_ (a' := ?_) ?_ ?_
                  rotate_left
                  ·show Act.put _ (some 48) _ = _
                   simp only [Act.put, sA, sZ, sS, i64_w]
                   rfl
                  exact norm_ (by simp only [putAll, Act.put, sA, sZ, sS]) (hCont (v145, v152, v155) _ ⟨hHeld, (by (with_reducible repeat first | apply rA | apply rN | apply rD); exact Kd.R_mono HO153.out (fun _ hk => ⟨hk.2, hk.1⟩)), (by (with_reducible repeat first | apply rA | apply rN | apply rD); exact Kd.R_mono HO156.out (fun _ hk => ⟨hk.1.2, hk.2⟩)), (qK BK107), (by repeat first | (with_reducible first | exact HB.out | apply bA | apply bN | apply bD | refine bS ?_ GE107.out) | exact HB.out)⟩)
                 ·skip
                  refine Kd.R_lit_step k30 _ 30 ?hg (N := 48) ?hd (xs := ([(⟨a1_0, a1_1⟩ : S30)] : List (S30))) (inner := [.int .i64 a1_0, .int .i64 a1_1]) (ok := fun _ => True) (okp := fun _ => True) ?hr ?hp (fun _ hk => hk) trivial (Below.refl _ _) (Nat.le_refl _) (by simp) ?_; (case hd => rfl); (case hg => rfl); (case hr => first | (go_simp; done) | (go_simp; rfl)); (case hp => exact (Reps.c2 (show Kd.M k30 _ _ _ (⟨a1_0, a1_1⟩ : S30) [.int .i64 a1_0, .int .i64 a1_1] from (k30_mkM _ _ _ (⟨a1_0, a1_1⟩ : S30) )) (Reps.none _ _)))
                  intro v155 w85 ho86 hb hg_ hnew_
                  clear hg_ hnew_
                  (first | rw [← Ny154.out] at ho86 | (simp only [Int.reduceToNat] at ho86; rw [← Ny154.out] at ho86))
                  have n0_ := Aside0.mk (Kd.R_elder' (qR HO146) (Kd.R_base ho86) hb)
                  have n1_ := Aside0.mk (Kd.R_lower (Kd.R_newB (Kd.R_new' ho86 (Kd.R_lt (qR HO146))) (qK BK107)) (below_size (by repeat first | (with_reducible first | exact HB.out | apply bA | apply bN | apply bD | refine bS ?_ GE107.out) | exact HB.out)))
                  have n2_ := Aside0.mk (blk_below (qK BK107) hb)
                  have n3_ := Aside0.mk (below_step (by repeat first | (with_reducible first | exact HB.out | apply bA | apply bN | apply bD | refine bS ?_ GE107.out) | exact HB.out) hb)
                  clear HO146
                  clear BK107
                  clear HB
                  have HO146 := n0_
                  have HO156 := n1_
                  have BK107 := n2_
                  have HB := n3_
                  clear n0_ n1_ n2_ n3_
                  clear hb ho86
                  refine hK.out _ _ ⟨cC BK107 0, cC BK107 1⟩ (fun hHeld => ?_)
                  clear hK K
                  refine norm_ (a' := ?_) ?_ ?_
                  rotate_left
                  ·show Act.put _ (some 48) _ = _
                   simp only [Act.put, sA, sZ, sS, i64_w]
                   rfl
                  refine one_ (i := 4) (N := some 46) (bR [7, 1, 1, 2]) rfl rfl (one_of HT_.out (by kernel_rfl)) (by decide) (fun K hK => ?_)
                  refine Kd.R_append_rows_step k30 (w0 := w) w.heap.size (by rfl) (.tmp 42) (.tmp 45) 26 30 (.agg #[(.int .i64 0), (.int .i64 0)]) 16 rfl Try.underlying26 info30 rfl (by decide) (by omega) v145 y144 y147 _ _ _ (fun k_ => some k_ ≠ (v155 : Value).ownBlock ∧ k_ ≠ gb107) (fun _ => False) rfl rfl ?aO ?aR (fun _ _ h => h) (fun _ h => h.elim) ?aF ?aB ?aS ?aL ?_
                  (case aR => exact qC (Kd.C_below HR150.out HB.out))
                  (case aB => exact (by repeat first | (with_reducible first | exact HB.out | apply bA | apply bN | apply bD | refine bS ?_ GE107.out) | exact HB.out))
                  (case aF => exact (fun k_ hk => ⟨Kd.fresh' (Kd.R_lt (qR HO156)) k_ hk, Kd.freshB (qK BK107) k_ hk⟩))
                  (case aO => exact (by (with_reducible repeat first | apply rA | apply rN | apply rD); exact Kd.R_mono HO146.out (fun _ hk => ⟨hk.2, hk.1.2⟩)))
                  (case aS => exact (below_size (by repeat first | (with_reducible first | exact HB.out | apply bA | apply bN | apply bD | refine bS ?_ GE107.out) | exact HB.out)))
                  (case aL => have := LMc62.out; omega)
                  intro v152 w87 ho hb hg hat
                  rw [← Ny151.out] at ho
                  have n0_ := Aside0.mk (blk_grown (qK BK107) hg (Kd.R_away HO146.out (fun _ hk => hk.1.2)))
                  have n1_ := Aside0.mk (Kd.R_after (ok := (fun k_ => k_ ≠ gb107)) (by (with_reducible repeat first | apply rA | apply rN | apply rD); exact Kd.R_mono HO156.out (fun _ hk => ⟨hk.2, hk.1.2⟩)) hg hat)
                  have n2_ := Aside0.mk (hb)
                  have n3_ := Aside0.mk (ho)
                  clear BK107
                  clear HO156
                  clear HB
                  clear HO146
                  have BK107 := n0_
                  have HO156 := n1_
                  have HB := n2_
                  have HO153 := n3_
                  clear n0_ n1_ n2_ n3_
                  clear ho hb hg hat
                  refine hK.out _ _ ⟨cC BK107 0, cC BK107 1⟩ (fun hHeld => ?_)
                  clear hK K
                  refine norm_ (a' := ?_) ?_ ?_
                  rotate_left
                  ·show Act.put _ (some 46) _ = _
                   simp only [Act.put, sA, sZ, sS, i64_w]
                   rfl
                  exact norm_ (by simp only [putAll, Act.put, sA, sZ, sS]) (hCont (v145, v152, v155) _ ⟨hHeld, (qR HO153), (by (with_reducible repeat first | apply rA | apply rN | apply rD); exact Kd.R_mono HO156.out (fun _ hk => ⟨hk.2, hk.1⟩)), (qK BK107), (by repeat first | (with_reducible first | exact HB.out | apply bA | apply bN | apply bD | refine bS ?_ GE107.out) | exact HB.out)⟩)
                ·skip
                 refine Kd.R_lit_step k30 _ 30 ?hg (N := 48) ?hd (xs := ([(⟨a1_0, a1_1⟩ : S30)] : List (S30))) (inner := [.int .i64 a1_0, .int .i64 a1_1]) (ok := fun _ => True) (okp := fun _ => True) ?hr ?hp (fun _ hk => hk) trivial (Below.refl _ _) (Nat.le_refl _) (by simp) ?_; (case hd => rfl); (case hg => rfl); (case hr => first | (go_simp; done) | (go_simp; rfl)); (case hp => exact (Reps.c2 (show Kd.M k30 _ _ _ (⟨a1_0, a1_1⟩ : S30) [.int .i64 a1_0, .int .i64 a1_1] from (k30_mkM _ _ _ (⟨a1_0, a1_1⟩ : S30) )) (Reps.none _ _)))
                 intro v155 w83 ho84 hb hg_ hnew_
                 clear hg_ hnew_
                 (first | rw [← Ny154.out] at ho84 | (simp only [Int.reduceToNat] at ho84; rw [← Ny154.out] at ho84))
                 have n0_ := Aside0.mk (Kd.R_lower (Kd.R_newB ho84 (qK BK107)) (below_size (by repeat first | (with_reducible first | exact HB.out | apply bA | apply bN | apply bD | refine bS ?_ GE107.out) | exact HB.out)))
                 have n1_ := Aside0.mk (blk_below (qK BK107) hb)
                 have n2_ := Aside0.mk (below_step (by repeat first | (with_reducible first | exact HB.out | apply bA | apply bN | apply bD | refine bS ?_ GE107.out) | exact HB.out) hb)
                 clear BK107
                 clear HB
                 have HO156 := n0_
                 have BK107 := n1_
                 have HB := n2_
                 clear n0_ n1_ n2_
                 clear hb ho84
                 refine hK.out _ _ ⟨cC BK107 0, cC BK107 1⟩ (fun hHeld => ?_)
                 clear hK K
                 refine norm_ (a' := ?_) ?_ ?_
                 rotate_left
                 ·show Act.put _ (some 48) _ = _
                  simp only [Act.put, sA, sZ, sS, i64_w]
                  rfl
                 refine one_ (i := 0) (N := some 42) (bR [4, 1, 2, 1, 1, 2]) rfl rfl (one_of HT_.out (by kernel_rfl)) (by decide) (fun K hK => ?_)
                 refine Kd.R_lit_step k30 _ 30 ?hg (N := 42) ?hd (xs := ([] : List (S30))) (inner := []) (ok := fun _ => True) (okp := fun _ => True) ?hr ?hp (fun _ hk => hk) trivial (Below.refl _ _) (Nat.le_refl _) (by simp) ?_; (case hd => rfl); (case hg => rfl); (case hr => first | (go_simp; done) | (go_simp; rfl)); (case hp => exact (Reps.none _ _))
                 intro v145 w85 ho86 hb hg_ hnew_
                 clear hg_ hnew_
                 (first | rw [← Ny144.out] at ho86 | (simp only [Int.reduceToNat] at ho86; rw [← Ny144.out] at ho86))
                 have n0_ := Aside0.mk (Kd.R_elder' (qR HO156) (Kd.R_base ho86) hb)
                 have n1_ := Aside0.mk (Kd.R_lower (Kd.R_newB (Kd.R_new' ho86 (Kd.R_lt (qR HO156))) (qK BK107)) (below_size (by repeat first | (with_reducible first | exact HB.out | apply bA | apply bN | apply bD | refine bS ?_ GE107.out) | exact HB.out)))
                 have n2_ := Aside0.mk (blk_below (qK BK107) hb)
                 have n3_ := Aside0.mk (below_step (by repeat first | (with_reducible first | exact HB.out | apply bA | apply bN | apply bD | refine bS ?_ GE107.out) | exact HB.out) hb)
                 clear HO156
                 clear BK107
                 clear HB
                 have HO156 := n0_
                 have HO146 := n1_
                 have BK107 := n2_
                 have HB := n3_
                 clear n0_ n1_ n2_ n3_
                 clear hb ho86
                 refine hK.out _ _ ⟨cC BK107 0, cC BK107 1⟩ (fun hHeld => ?_)
                 clear hK K
                 refine norm_ (a' := ?_) ?_ ?_
                 rotate_left
                 ·show Act.put _ (some 42) _ = _
                  simp only [Act.put, sA, sZ, sS, i64_w]
                  rfl
                 refine one_ (i := 4) (N := some 46) (bR [7, 1, 1, 2]) rfl rfl (one_of HT_.out (by kernel_rfl)) (by decide) (fun K hK => ?_)
                 refine Kd.R_append_rows_step k30 (w0 := w) w.heap.size (by rfl) (.tmp 42) (.tmp 45) 26 30 (.agg #[(.int .i64 0), (.int .i64 0)]) 16 rfl Try.underlying26 info30 rfl (by decide) (by omega) v145 y144 y147 _ _ _ (fun k_ => some k_ ≠ (v155 : Value).ownBlock ∧ k_ ≠ gb107) (fun _ => False) rfl rfl ?aO ?aR (fun _ _ h => h) (fun _ h => h.elim) ?aF ?aB ?aS ?aL ?_
                 (case aR => exact qC (Kd.C_below HR150.out HB.out))
                 (case aB => exact (by repeat first | (with_reducible first | exact HB.out | apply bA | apply bN | apply bD | refine bS ?_ GE107.out) | exact HB.out))
                 (case aF => exact (fun k_ hk => ⟨Kd.fresh' (Kd.R_lt (qR HO156)) k_ hk, Kd.freshB (qK BK107) k_ hk⟩))
                 (case aO => exact (by (with_reducible repeat first | apply rA | apply rN | apply rD); exact Kd.R_mono HO146.out (fun _ hk => ⟨hk.1.2, hk.2⟩)))
                 (case aS => exact (below_size (by repeat first | (with_reducible first | exact HB.out | apply bA | apply bN | apply bD | refine bS ?_ GE107.out) | exact HB.out)))
                 (case aL => have := LMc62.out; omega)
                 intro v152 w87 ho hb hg hat
                 rw [← Ny151.out] at ho
                 have n0_ := Aside0.mk (blk_grown (qK BK107) hg (Kd.R_away HO146.out (fun _ hk => hk.2)))
                 have n1_ := Aside0.mk (Kd.R_after (ok := (fun k_ => k_ ≠ gb107)) (by (with_reducible repeat first | apply rA | apply rN | apply rD); exact Kd.R_mono HO156.out (fun _ hk => ⟨hk.1.2, hk.2⟩)) hg hat)
                 have n2_ := Aside0.mk (hb)
                 have n3_ := Aside0.mk (ho)
                 clear BK107
                 clear HO156
                 clear HB
                 clear HO146
                 have BK107 := n0_
                 have HO156 := n1_
                 have HB := n2_
                 have HO153 := n3_
                 clear n0_ n1_ n2_ n3_
                 clear ho hb hg hat
                 refine hK.out _ _ ⟨cC BK107 0, cC BK107 1⟩ (fun hHeld => ?_)
                 clear hK K
                 refine norm_ (a' := ?_) ?_ ?_
                 rotate_left
                 ·show Act.put _ (some 46) _ = _
                  simp only [Act.put, sA, sZ, sS, i64_w]
                  rfl
                 exact norm_ (by simp only [putAll, Act.put, sA, sZ, sS]) (hCont (v145, v152, v155) _ ⟨hHeld, (qR HO153), (by (with_reducible repeat first | apply rA | apply rN | apply rD); exact Kd.R_mono HO156.out (fun _ hk => ⟨hk.2, hk.1⟩)), (qK BK107), (by repeat first | (with_reducible first | exact HB.out | apply bA | apply bN | apply bD | refine bS ?_ GE107.out) | exact HB.out)⟩)
               rintro ⟨v145, v152, v155⟩ w88 ⟨hS_, h0_, h1_, h2_, h3_⟩
               have n0_ : Aside0 (Kd.R k30 30 w88 w.heap.size (fun k_ => some k_ ≠ (v155 : Value).ownBlock ∧ k_ ≠ gb107) v152 y151) := ⟨h0_⟩
               have n1_ : Aside0 (Kd.R k30 30 w88 w.heap.size (fun k_ => some k_ ≠ (v152 : Value).ownBlock ∧ k_ ≠ gb107) v155 y154) := ⟨h1_⟩
               have n2_ : Aside0 (w88.heap[gb107]? = some (.cells #[.int .i64 a1_0, .int .i64 a1_1] 30 (0, 0))) := ⟨h2_⟩
               have n3_ : Aside0 (Below w.heap.size w w88) := ⟨h3_⟩
               clear BK107
               clear HB
               clear h0_ h1_ h2_ h3_
               have HO153 := n0_
               have HO156 := n1_
               have BK107 := n2_
               have HB := n3_
               clear n0_ n1_ n2_ n3_
               have hHeld : w88.cell? ⟨gb107, 0, none⟩ = some (.int .i64 a1_0) ∧ w88.cell? ⟨gb107, 1, none⟩ = some (.int .i64 a1_1) := hS_
               obtain ⟨Ao90, co90, eo90⟩ := Kd.R_slice HO156.out
               (first | subst eo90 | (injection eo90 with f1_ f2_ f3_; have f4_ := f1_.symm; have f5_ := f3_.symm; clear f1_ f2_ f3_; subst f4_; subst f5_))
               refine norm_ (a' := ?_) ?_ ?_
               rotate_left; (simp only [putAll, Act.put, sA, sZ, sS]; rfl)
               refine one_ (i := 7) (N := some 49) (bR [9, 2]) rfl rfl (one_of HT_.out (by kernel_rfl)) (by decide) (fun K hK => ?_)
               refine Kd.R_append_rows_step k30 (w0 := w) w.heap.size (by rfl) (.tmp 46) (.tmp 48) 26 30 (.agg #[(.int .i64 0), (.int .i64 0)]) 16 rfl Try.underlying26 info30 rfl (by decide) (by omega) v152 y151 y154 _ _ _ (fun k_ => some k_ ≠ (.slice Ao90 y154.length co90 : Value).ownBlock ∧ k_ ≠ gb107) (fun _ => False) rfl rfl ?aO ?aR (fun _ _ h => h) (fun _ h => h.elim) ?aF ?aB ?aS ?aL ?_
               (case aR => repeat (first | exact (Kd.R_reads' HO156.out).2.2 | (with_reducible refine Kd.C_alloc ?_ _) | (with_reducible refine Kd.C_drewN ?_ _) | (with_reducible refine Kd.C_drew ?_)))
               (case aB => exact (by repeat first | (with_reducible first | exact HB.out | apply bA | apply bN | apply bD | refine bS ?_ GE107.out) | exact HB.out))
               (case aF => exact (fun k_ hk => ⟨Kd.fresh' (Kd.R_lt (qR HO156)) k_ hk, Kd.freshB (qK BK107) k_ hk⟩))
               (case aO => exact (qR HO153))
               (case aS => exact (below_size (by repeat first | (with_reducible first | exact HB.out | apply bA | apply bN | apply bD | refine bS ?_ GE107.out) | exact HB.out)))
               (case aL => have := LMc63.out; omega)
               intro v158 w89 ho hb hg hat
               rw [← Ny157.out] at ho
               have n0_ := Aside0.mk (blk_grown (qK BK107) hg (Kd.R_away HO153.out (fun _ hk => hk.2)))
               have n1_ := Aside0.mk (Kd.R_after (ok := (fun k_ => k_ ≠ gb107)) (by (with_reducible repeat first | apply rA | apply rN | apply rD); exact Kd.R_mono HO156.out (fun _ hk => ⟨hk.2, hk.1⟩)) hg hat)
               have n2_ := Aside0.mk (hb)
               have n3_ := Aside0.mk (ho)
               clear BK107
               clear HO156
               clear HB
               clear HO153
               have BK107 := n0_
               have HO156 := n1_
               have HB := n2_
               have HO159 := n3_
               clear n0_ n1_ n2_ n3_
               clear ho hb hg hat
               refine hK.out _ _ ⟨cC BK107 0, cC BK107 1⟩ (fun hHeld => ?_)
               clear hK K
               refine norm_ (a' := ?_) ?_ ?_
               rotate_left
               ·show Act.put _ (some 49) _ = _
                simp only [Act.put, sA, sZ, sS, i64_w]
                rfl
               refine one_ (i := 9) (N := some 51) (bR [10, 1]) rfl rfl (one_of HT_.out (by kernel_rfl)) (by decide) (fun K hK => ?_)
               refine Kd.R_append_rows_step k30 (w0 := w) w.heap.size (by rfl) (.tmp 49) (.tmp 50) 26 30 (.agg #[(.int .i64 0), (.int .i64 0)]) 16 rfl Try.underlying26 info30 rfl (by decide) (by omega) v158 y157 y109 _ _ _ (fun k_ => some k_ ≠ (.slice Ao90 y154.length co90 : Value).ownBlock ∧ k_ ≠ gb107) (fun _ => False) rfl rfl ?aO ?aR (fun _ _ h => h) (fun _ h => h.elim) ?aF ?aB ?aS ?aL ?_
               (case aR => exact qC (Kd.C_below HR112.out HB.out))
               (case aB => exact (by repeat first | (with_reducible first | exact HB.out | apply bA | apply bN | apply bD | refine bS ?_ GE107.out) | exact HB.out))
               (case aF => exact (fun k_ hk => ⟨Kd.fresh' (Kd.R_lt (qR HO156)) k_ hk, Kd.freshB (qK BK107) k_ hk⟩))
               (case aO => exact (qR HO159))
               (case aS => exact (below_size (by repeat first | (with_reducible first | exact HB.out | apply bA | apply bN | apply bD | refine bS ?_ GE107.out) | exact HB.out)))
               (case aL => have := LMc64.out; omega)
               intro v161 w91 ho hb hg hat
               rw [← Ny160.out] at ho
               have n0_ := Aside0.mk (blk_grown (qK BK107) hg (Kd.R_away HO159.out (fun _ hk => hk.2)))
               have n1_ := Aside0.mk (Kd.R_after (ok := (fun k_ => k_ ≠ gb107)) (qR HO156) hg hat)
               have n2_ := Aside0.mk (hb)
               have n3_ := Aside0.mk (ho)
               clear BK107
               clear HO156
               clear HB
               clear HO159
               have BK107 := n0_
               have HO156 := n1_
               have HB := n2_
               have HO162 := n3_
               clear n0_ n1_ n2_ n3_
               clear ho hb hg hat
               refine hK.out _ _ ⟨cC BK107 0, cC BK107 1⟩ (fun hHeld => ?_)
               clear hK K
               refine norm_ (a' := ?_) ?_ ?_
               rotate_left
               ·show Act.put _ (some 51) _ = _
                simp only [Act.put, sA, sZ, sS, i64_w]
                rfl
               refine pP 10 8 (bR [11]) rfl rfl HT_ ?_
               refine done_ (done_of HT_.out (by kernel_rfl)) ?_
               obtain ⟨Ao92, co92, eo92⟩ := Kd.R_slice HO162.out
               subst eo92
               try go_wp2_with (first | ((with_reducible refine gate_callee (f := 104) rfl ?_); refine goesL_ (some 53) rfl rfl Try.func104 (by kernel_rfl) rfl #[.slice Ao92 y160.length co92] rfl (by (try simp only [mA, mC, mN]); first | done | rfl | (simp only [lD, lT]; rfl)) ?_; (with_reducible refine (spec_AreMarks.calls kj12 _ _ y160 false _ ?side1 ?side2 A65.out).mono ?_); (case side1 => repeat (first | exact (Kd.R_reads' HO162.out).2.2 | (with_reducible refine Kd.C_alloc ?_ _) | (with_reducible refine Kd.C_drewN ?_ _) | (with_reducible refine Kd.C_drew ?_))); (case side2 => exact (Kd.R_reads' HO162.out).2.1); rintro e w93 ⟨rfl, hb⟩; refine ⟨_, rfl, ?_⟩; have n0_ := Aside0.mk (Kd.R_below (qR HO156) hb); have n1_ := Aside0.mk (Kd.R_below (qR HO162) hb); have n2_ := Aside0.mk (blk_below (qK BK107) hb); have n3_ := Aside0.mk (below_step (by repeat first | (with_reducible first | exact HB.out | apply bA | apply bN | apply bD | refine bS ?_ GE107.out) | exact HB.out) hb); clear HO156; clear HO162; clear BK107; clear HB; have HO156 := n0_; have HO162 := n1_; have BK107 := n2_; have HB := n3_; clear n0_ n1_ n2_ n3_; (try clear hb); (try clear hb2); (try clear hk); (try clear hi)) | ((with_reducible refine gate_dst (N := 55) rfl ?_); refine Kd.R_lit k30 _ 30 ?hg (N := 55) ?hd (xs := ([] : List (S30))) (inner := []) (ok := fun _ => True) (okp := fun _ => True) ?hr ?hp (fun _ hk => hk) trivial (Below.refl _ _) (Nat.le_refl _) (by simp) ?_; (case hd => rfl); (case hg => rfl); (case hr => first | (go_simp; done) | (go_simp; rfl)); (case hp => exact (Reps.none _ _)); intro v165 w94 ho95 hb hg_ hnew_; clear hg_ hnew_; (first | rw [← Ny164.out] at ho95 | (simp only [Int.reduceToNat] at ho95; rw [← Ny164.out] at ho95)); have n0_ := Aside0.mk (Kd.R_elder' (qR HO156) (Kd.R_base ho95) hb); have n1_ := Aside0.mk (Kd.R_elder' (qR HO162) (Kd.R_base ho95) hb); have n2_ := Aside0.mk (Kd.R_lower (Kd.R_newB (Kd.R_new' (Kd.R_new' ho95 (Kd.R_lt (qR HO156))) (Kd.R_lt (qR HO162))) (qK BK107)) (below_size (by repeat first | (with_reducible first | exact HB.out | apply bA | apply bN | apply bD | refine bS ?_ GE107.out) | exact HB.out))); have n3_ := Aside0.mk (blk_below (qK BK107) hb); have n4_ := Aside0.mk (below_step (by repeat first | (with_reducible first | exact HB.out | apply bA | apply bN | apply bD | refine bS ?_ GE107.out) | exact HB.out) hb); clear HO156; clear HO162; clear BK107; clear HB; have HO156 := n0_; have HO162 := n1_; have HO166 := n2_; have BK107 := n3_; have HB := n4_; clear n0_ n1_ n2_ n3_ n4_; clear hb ho95) | ((with_reducible refine gate_builtin (b := .append) (xs := #[.tmp 55, .tmp 56]) rfl ?_); at_builtin; refine Kd.R_append_rows k30 (w0 := w) w.heap.size rfl (.tmp 55) (.tmp 56) 26 30 (.agg #[(.int .i64 0), (.int .i64 0)]) 16 rfl Try.underlying26 info30 rfl (by decide) (by omega) v165 y164 l0 _ _ _ (fun k_ => some k_ ≠ (.slice Ao90 y154.length co90 : Value).ownBlock ∧ some k_ ≠ (.slice Ao92 y160.length co92 : Value).ownBlock ∧ k_ ≠ gb107) (fun _ => False) rfl rfl ?aO ?aR (fun _ _ h => h) (fun _ h => h.elim) ?aF ?aB ?aS ?aL ?_; (case aR => exact qC (Kd.C_below HR0.out HB.out)); (case aB => exact (by repeat first | (with_reducible first | exact HB.out | apply bA | apply bN | apply bD | refine bS ?_ GE107.out) | exact HB.out)); (case aF => exact (fun k_ hk => ⟨Kd.fresh' (Kd.R_lt (qR HO156)) k_ hk, Kd.fresh' (Kd.R_lt (qR HO162)) k_ hk, Kd.freshB (qK BK107) k_ hk⟩)); (case aO => exact (by (with_reducible repeat first | apply rA | apply rN | apply rD); exact Kd.R_mono HO166.out (fun _ hk => ⟨hk.1.1.2, ⟨hk.1.2, hk.2⟩⟩))); (case aS => exact (below_size (by repeat first | (with_reducible first | exact HB.out | apply bA | apply bN | apply bD | refine bS ?_ GE107.out) | exact HB.out))); (case aL => have := LMc80.out; omega); intro v168 w96 ho hb hg hat; rw [← Ny167.out] at ho; have n0_ := Aside0.mk (blk_grown (qK BK107) hg (Kd.R_away HO166.out (fun _ hk => hk.2))); have n1_ := Aside0.mk (Kd.R_after (ok := (fun k_ => some k_ ≠ (.slice Ao92 y160.length co92 : Value).ownBlock ∧ k_ ≠ gb107)) (by (with_reducible repeat first | apply rA | apply rN | apply rD); exact Kd.R_mono HO156.out (fun _ hk => ⟨⟨hk.1.2, hk.1.1⟩, hk.2⟩)) hg hat); have n2_ := Aside0.mk (Kd.R_after (ok := (fun k_ => some k_ ≠ (.slice Ao90 y154.length co90 : Value).ownBlock ∧ k_ ≠ gb107)) (qR HO162) hg hat); have n3_ := Aside0.mk (hb); have n4_ := Aside0.mk (ho); clear BK107; clear HO156; clear HO162; clear HB; clear HO166; have BK107 := n0_; have HO156 := n1_; have HO162 := n2_; have HB := n3_; have HO169 := n4_; clear n0_ n1_ n2_ n3_ n4_; clear ho hb hg hat))
               go_ret2
               exact ⟨_, by first | rfl | (simp [errW_none, errW_some] <;> rfl) | (simp [*, errW_none, errW_some] <;> rfl), by (with_reducible repeat first | apply rA | apply rN | apply rD); exact Kd.R_mono HO169.out (fun _ hk => trivial), by repeat (first | (with_reducible first | exact HB.out | apply bA | apply bN | apply bD | refine bS ?_ GE107.out) | exact HB.out)⟩
              ·rw [if_neg c80] at H
               exact absurd H (by simp)
            ·rw [if_neg c64] at H
             exact absurd H (by simp)
           ·rw [if_neg c63] at H
            exact absurd H (by simp)
          ·rw [if_neg c62] at H
           exact absurd H (by simp)
         ·rw [if_neg c61] at H
          exact absurd H (by simp)
        ·rw [if_neg c60] at H
         exact absurd H (by simp)
    ·rw [if_neg c12] at H
     exact absurd H (by simp)
   ·rw [if_neg c11] at H
    exact absurd H (by simp)

end Go.Proofs.Ytkfalbaklodnjaa.PFnExactPutMark
