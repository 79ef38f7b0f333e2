-- The printed functions of one law and their contracts, over contracts of this session's own (hand.py).
import Derived.Test.YtppgealmedaihaaPFnMarksx0
import Derived.Test.YtppgealmedaihaaPFnMarksx2
namespace Go.Proofs.Ytppgealmedaihaa.PFnMarks
open Go.RowKit Go.Proofs.YtppgealmedaihaaW.PrintWords Go.Proofs.YtppgealmedaihaaW.PrintLast Go.Proofs.YtppgealmedaihaaW.PrintMore Go.Proofs.Ytppgealmedaihaa.Short
attribute [local go_sem] max2_int min2_int max_two min_two max_three min_three max_four min_four   -- for this text's walks alone
set_option linter.unusedVariables false
set_option linter.unusedSimpArgs false

/-! ### spec_PutMark: function 189 -/
mutual
def spec_PutMark.j1 : Nat → List (S62) → Int → Int → Int → Option ((List (S62)) × Bool)
 | 0, _, _, _, _ => none
 | k + 1, x0, x6, x128000, x128001 => if 0 ≤ x6 then (if x6 ≤ (x0.length : Int) then ((some (x0.drop (x6 : Int).toNat : List (S62))).bind fun y129 => (if (y129.length : Int) > 0 then (if 0 < (y129.length : Int) then (spec_PutMark.j2 k x0 x6 y129 (((rd_T62 y129 0).f0) == x128000) x128000 x128001) else (none)) else (spec_PutMark.j2 k x0 x6 y129 false x128000 x128001))) else (none)) else (none)
def spec_PutMark.j2 : Nat → List (S62) → Int → List (S62) → Bool → Int → Int → Option ((List (S62)) × Bool)
 | 0, _, _, _, _, _, _ => none
 | k + 1, x0, x6, x7, x39, x128000, x128001 => if x39 = true then (if 1 ≤ (x7.length : Int) then ((some (x7.drop 1 : List (S62))).bind fun y134 => ((some (([] : List (S62)) : List (S62))).bind fun y138 => (if 0 ≤ x6 then (if x6 ≤ (x0.length : Int) then ((some (x0.take (x6 : Int).toNat : List (S62))).bind fun y141 => (if y138.length + y141.length < 8796093022208 then ((some (y138 ++ y141 : List (S62))).bind fun y145 => ((some (([(⟨x128000, x128001⟩ : S62)] : List (S62)) : List (S62))).bind fun y148 => (if y145.length + y148.length < 8796093022208 then ((some (y145 ++ y148 : List (S62))).bind fun y151 => (if y151.length + y134.length < 8796093022208 then ((some (y151 ++ y134 : List (S62))).bind fun y154 => ((spec_AreMarks.f k y154).bind fun t157 => (if t157 = true then (some (y154, true)) else ((some (([] : List (S62)) : List (S62))).bind fun y158 => (if y158.length + x0.length < 8796093022208 then (some ((y158 ++ x0), false)) else (none)))))) else (none))) else (none)))) else (none))) else (none)) else (none)))) else (none)) else ((some (([] : List (S62)) : List (S62))).bind fun y164 => (if 0 ≤ x6 then (if x6 ≤ (x0.length : Int) then ((some (x0.take (x6 : Int).toNat : List (S62))).bind fun y167 => (if y164.length + y167.length < 8796093022208 then ((some (y164 ++ y167 : List (S62))).bind fun y171 => ((some (([(⟨x128000, x128001⟩ : S62)] : List (S62)) : List (S62))).bind fun y174 => (if y171.length + y174.length < 8796093022208 then ((some (y171 ++ y174 : List (S62))).bind fun y177 => (if y177.length + x7.length < 8796093022208 then ((some (y177 ++ x7 : List (S62))).bind fun y180 => ((spec_AreMarks.f k y180).bind fun t183 => (if t183 = true then (some (y180, true)) else ((some (([] : List (S62)) : List (S62))).bind fun y184 => (if y184.length + x0.length < 8796093022208 then (some ((y184 ++ x0), false)) else (none)))))) else (none))) else (none)))) else (none))) else (none)) else (none)))
def spec_PutMark.l0 : Nat → List (S62) → Int → Int → Int → Option ((List (S62)) × Bool)
 | 0, _, _, _, _ => none
 | k + 1, x0, x6, x128000, x128001 => if x6 < (x0.length : Int) then (if 0 ≤ x6 then (if ((rd_T62 x0 x6).f0) < x128000 then (spec_PutMark.l0 k x0 (wrap64 (x6 + 1)) x128000 x128001) else (spec_PutMark.j1 k x0 x6 x128000 x128001)) else (none)) else (spec_PutMark.j1 k x0 x6 x128000 x128001)
end
def spec_PutMark.f (k : Nat) (l0 : List (S62)) (a1_0 : Int) (a1_1 : Int) : Option ((List (S62)) × Bool) := spec_PutMark.l0 k l0 0 a1_0 a1_1
theorem spec_PutMark.mono_l : ∀ k, (∀ y0 y1 y2 y3, LeO (spec_PutMark.j1 k y0 y1 y2 y3) (spec_PutMark.j1 (k + 1) y0 y1 y2 y3)) ∧ (∀ y0 y1 y2 y3 y4 y5, LeO (spec_PutMark.j2 k y0 y1 y2 y3 y4 y5) (spec_PutMark.j2 (k + 1) y0 y1 y2 y3 y4 y5)) ∧ (∀ y0 y1 y2 y3, LeO (spec_PutMark.l0 k y0 y1 y2 y3) (spec_PutMark.l0 (k + 1) y0 y1 y2 y3))
 | 0 => ⟨fun _ _ _ _ r h => by simp [spec_PutMark.j1] at h, fun _ _ _ _ _ _ r h => by simp [spec_PutMark.j2] at h, fun _ _ _ _ r h => by simp [spec_PutMark.l0] at h⟩
 | k + 1 => by
  obtain ⟨ih0, ih1, ih2⟩ := spec_PutMark.mono_l k
  refine ⟨?_, ?_, ?_⟩
  ·intro y0 y1 y2 y3
   unfold spec_PutMark.j1
   repeat' first
   | (with_reducible exact ih0 _ _ _ _)
   | (with_reducible exact ih1 _ _ _ _ _ _)
   | (with_reducible exact ih2 _ _ _ _)
   | (with_reducible exact spec_AreMarks.mono _ _)
   | (with_reducible exact LeO.refl _)
   | (with_reducible exact LeO.none _)
   | (with_reducible refine LeO.ite ?_ ?_)
   | (with_reducible refine LeO.bind ?_ (fun _ => ?_))
   | exact ih0 _ _ _ _
   | exact ih1 _ _ _ _ _ _
   | exact ih2 _ _ _ _
   | exact spec_AreMarks.mono _ _
   | exact LeO.none _
   | refine LeO.ite ?_ ?_
   | refine LeO.bind ?_ (fun _ => ?_)
  ·intro y0 y1 y2 y3 y4 y5
   unfold spec_PutMark.j2
   repeat' first
   | (with_reducible exact ih0 _ _ _ _)
   | (with_reducible exact ih1 _ _ _ _ _ _)
   | (with_reducible exact ih2 _ _ _ _)
   | (with_reducible exact spec_AreMarks.mono _ _)
   | (with_reducible exact LeO.refl _)
   | (with_reducible exact LeO.none _)
   | (with_reducible refine LeO.ite ?_ ?_)
   | (with_reducible refine LeO.bind ?_ (fun _ => ?_))
   | exact ih0 _ _ _ _
   | exact ih1 _ _ _ _ _ _
   | exact ih2 _ _ _ _
   | exact spec_AreMarks.mono _ _
   | exact LeO.none _
   | refine LeO.ite ?_ ?_
   | refine LeO.bind ?_ (fun _ => ?_)
  ·intro y0 y1 y2 y3
   unfold spec_PutMark.l0
   repeat' first
   | (with_reducible exact ih0 _ _ _ _)
   | (with_reducible exact ih1 _ _ _ _ _ _)
   | (with_reducible exact ih2 _ _ _ _)
   | (with_reducible exact spec_AreMarks.mono _ _)
   | (with_reducible exact LeO.refl _)
   | (with_reducible exact LeO.none _)
   | (with_reducible refine LeO.ite ?_ ?_)
   | (with_reducible refine LeO.bind ?_ (fun _ => ?_))
   | exact ih0 _ _ _ _
   | exact ih1 _ _ _ _ _ _
   | exact ih2 _ _ _ _
   | exact spec_AreMarks.mono _ _
   | exact LeO.none _
   | refine LeO.ite ?_ ?_
   | refine LeO.bind ?_ (fun _ => ?_)
theorem spec_PutMark.mono : ∀ a0 a1 a2 k, LeO (spec_PutMark.f k a0 a1 a2) (spec_PutMark.f (k + 1) a0 a1 a2) := by
 intro a0 a1 a2 k
 obtain ⟨ih0, ih1, ih2⟩ := spec_PutMark.mono_l k
 unfold spec_PutMark.f
 repeat' first
   | (with_reducible exact ih0 _ _ _ _)
   | (with_reducible exact ih1 _ _ _ _ _ _)
   | (with_reducible exact ih2 _ _ _ _)
   | (with_reducible exact spec_AreMarks.mono _ _)
   | (with_reducible exact LeO.refl _)
   | (with_reducible exact LeO.none _)
   | (with_reducible refine LeO.ite ?_ ?_)
   | (with_reducible refine LeO.bind ?_ (fun _ => ?_))
   | exact ih0 _ _ _ _
   | exact ih1 _ _ _ _ _ _
   | exact ih2 _ _ _ _
   | exact spec_AreMarks.mono _ _
   | exact LeO.none _
   | refine LeO.ite ?_ ?_
   | refine LeO.bind ?_ (fun _ => ?_)
def spec_PutMark.T2 : Bool × List (List Nat × List Nat) := (true, [([], []), ([], []), ([1], [1]), ([0, 2], [0, 2]), ([3], [3]), ([4], [4]), ([4], [4]), ([5, 6, 4], [4, 5, 6]), ([7, 4], [4, 7]), ([8, 4], [4, 8]), ([4], [4]), ([10, 4], [4, 10]), ([9, 11, 4], [4, 9, 11]), ([4, 12], [4, 12])])
def spec_PutMark.B2 : List Nat := [0, 0, 2, 7, 15, 31, 31, 127, 255, 511, 31, 1055, 4095, 8191]
theorem spec_PutMark.tab2 : rtab .any (opsOf Try.f189 2) = spec_PutMark.T2 := by kernel_rfl
theorem spec_PutMark.bits2 : waitsOk spec_PutMark.T2.2 spec_PutMark.B2 = true := by kernel_rfl
def spec_PutMark.T5 : Bool × List (List Nat × List Nat) := (true, [([], []), ([0], [0]), ([1], [1]), ([2], [2]), ([3], [3]), ([4, 3], [3, 4]), ([5, 3], [3, 5]), ([6, 3], [3, 6]), ([3], [3]), ([8, 3], [3, 8]), ([7, 9, 3], [3, 7, 9]), ([3, 10], [3, 10])])
def spec_PutMark.B5 : List Nat := [0, 1, 3, 7, 15, 31, 63, 127, 15, 271, 1023, 2047]
theorem spec_PutMark.tab5 : rtab .any (opsOf Try.f189 5) = spec_PutMark.T5 := by kernel_rfl
theorem spec_PutMark.bits5 : waitsOk spec_PutMark.T5.2 spec_PutMark.B5 = true := by kernel_rfl
def spec_PutMark.T7 : Bool × List (List Nat × List Nat) := (true, [([], []), ([], []), ([], []), ([1, 2], [1, 2]), ([0, 3], [0, 3]), ([], []), ([5], [5]), ([4, 6, 4], [4, 6]), ([], []), ([7, 8, 7], [7, 8]), ([9, 9, 0, 1, 2, 3, 4, 5, 6, 7, 8, 9], [9])])
def spec_PutMark.B7 : List Nat := [0, 0, 0, 6, 15, 0, 32, 127, 0, 511, 1023]
theorem spec_PutMark.tab7 : rtab .any (opsOf Try.f189 7) = spec_PutMark.T7 := by kernel_rfl
theorem spec_PutMark.bits7 : waitsOk spec_PutMark.T7.2 spec_PutMark.B7 = true := by kernel_rfl
set_option maxHeartbeats 8000000 in
set_option maxRecDepth 100000 in
theorem spec_PutMark.calls (k : Nat) (A0 : Option Addr) (c0 : Nat) (l0 : List (S62)) (a1_0 : Int) (a1_1 : Int) (r1 : List (S62)) (r2 : Bool) (w : World) (hr0 : Kd.C k62 w A0 l0.length l0) (hc0 : l0.length ≤ c0) (h : spec_PutMark.f k l0 a1_0 a1_1 = some (r1, r2)) :
  Calls Try.prog 189 #[.slice A0 l0.length c0, .agg #[.int .i64 a1_0, .int .i64 a1_1]] w fun e w' => ∃ v0_ : Value, e = .returned (.tuple #[v0_, .bool r2]) ∧ Kd.R k62 62 w' w.heap.size (fun _ => True) v0_ r1 ∧ Below w.heap.size w w' := by
 have hu62 := Try.underlying62
 have HR0 := Aside0.mk hr0
 have HC0 := Aside0.mk hc0
 clear hr0 hc0
 have HB := Aside0.mk (Below.refl w.heap.size w)
 have H : (spec_PutMark.l0 k l0 0 a1_0 a1_1) = some (r1, r2) := h
 clear h
 have HC3 := Aside0.mk H
 clear H
 go_enter Try.func189, Try.ntmps189
 go_upto_block 0 with (first | ((with_reducible refine gate_dst (N := 3) rfl ?_); refine box_event ?hg (N := 3) ?hd (cs := #[.int .i64 a1_0, .int .i64 a1_1]) (t := 62) ?hr ?_; (case hd => rfl); (case hg => rfl); (case hr => first | (go_simp; done) | (go_simp; rfl)); intro gb127 hg w4 hbox hb; have n0_ := Aside0.mk (below_step (qB HB) hb); have n1_ := Aside0.mk (hbox); have n2_ := Aside0.mk ((by rw [hg]; exact (below_size (qB HB)) : w.heap.size ≤ gb127)); have n3_ := Aside0.mk ((by rw [hg]; exact (below_size (qB HB)) : w.heap.size ≤ gb127)); clear HB; have HB := n0_; have BK127 := n1_; have GW127 := n2_; have GE127 := n3_; clear n0_ n1_ n2_ n3_; clear hb hbox hg))
 (try simp only [Act.put, sA, sZ, sS])
 go_cut [6] (fun v6 wc => ∃ (kq : Nat) (x6_2 : Int), v6 = .int .i64 x6_2 ∧ Aside0 (spec_PutMark.j1 kq l0 x6_2 a1_0 a1_1 = some (r1, r2)) ∧ Aside0 (kq ≤ k) ∧ Aside0 (wc.heap[gb127]? = some (.cells #[.int .i64 a1_0, .int .i64 a1_1] 62 (0, 0))) ∧ Aside0 (Below w.heap.size w wc))
 case first =>
  have H := HC3.out
  clear HC3
  have H' := Aside0.mk H
  clear H
  go_wp2
  go_loopg [6] k (fun kq v6 w' => ∃ (x6_1 : Int), v6 = .int .i64 x6_1 ∧ Aside0 (spec_PutMark.l0 kq l0 x6_1 a1_0 a1_1 = some (r1, r2)) ∧ Aside0 (kq ≤ k) ∧ Aside0 (w'.heap[gb127]? = some (.cells #[.int .i64 a1_0, .int .i64 a1_1] 62 (0, 0))) ∧ Aside0 (Below w.heap.size w w'))
  case atStart => exact ⟨(0), (by first | rfl | (simp; done) | (simp [*]; done)), H', ⟨Nat.le_refl _⟩, ⟨by (with_reducible repeat first | refine kN ?_ _ | refine kD ?_ | refine kA ?_ _); exact BK127.out⟩, ⟨by repeat (first | (with_reducible first | exact HB.out | apply bA | apply bN | apply bD | refine bS ?_ GE127.out) | exact HB.out)⟩⟩
  case round =>
   clear H'
   try clear c1
   try clear p2
   obtain ⟨x6_1, rfl, HA, HK1, BK127, HB⟩ := hrel
   cases gk with
   | zero => exact absurd HA.out (by simp [spec_PutMark.l0])
   | succ k1 =>
    have H := HA.out
    clear HA
    simp only [spec_PutMark.l0] at H
    by_cases c5 : x6_1 < (l0.length : Int)
    ·rw [if_pos c5] at H
     have c5b0 : decide (x6_1 < (l0.length : Int)) = true := decide_eq_true c5
     clear c5
     (first | rw [c5b0] | (simp only [i64_w, i32_w]; rw [c5b0]) | skip)
     by_cases c6 : 0 ≤ x6_1
     ·rw [if_pos c6] at H
      have c6b0 : decide (0 ≤ x6_1) = true := decide_eq_true c6
      clear c6
      by_cases c7 : ((rd_T62 l0 x6_1).f0) < a1_0
      ·rw [if_pos c7] at H
       have c7b0 : decide (((rd_T62 l0 x6_1).f0) < a1_0) = true := decide_eq_true c7
       clear c7
       have H' := Aside0.mk H
       clear H
       try go_wp2
       have n0_ := Aside0.mk (blk_drew BK127.out)
       have n1_ := Aside0.mk (below_drew1 HB.out)
       clear BK127
       clear HB
       have BK127 := n0_
       have HB := n1_
       clear n0_ n1_
       have p128 : 0 ≤ (x6_1 : Int) := of_decide_eq_true ‹_›
       have q128 : x6_1 < (l0.length : Int) := of_decide_eq_true ‹_›
       obtain ⟨ad128, e128, hx128_0, hx128_1⟩ := at_T62 HR0.out x6_1 p128 q128
       have hw128_1 := hx128_1
       have hw128_0 := hx128_0
       cases e128
       replace hx128_0 := (HB.out.cell (World.block_lt_of_cell? w _ hx128_0)).trans hx128_0
       replace hx128_1 := (HB.out.cell (World.block_lt_of_cell? w _ hx128_1)).trans hx128_1
       replace p128 := eq_true p128
       replace q128 := eq_true q128
       refine start_ (n := 14) (S := fun w' => w'.cell? ⟨gb127, 0, none⟩ = some (.int .i64 a1_0) ∧ w'.cell? ⟨gb127, 1, none⟩ = some (.int .i64 a1_1) ∧ w'.cell? (ad128.add ((x6_1).toNat * 2)) = some (.int .i64 ((rd_T62 l0 x6_1).f0)) ∧ w'.cell? ⟨(ad128.add ((x6_1).toNat * 2)).block, (ad128.add ((x6_1).toNat * 2)).off + 1, none⟩ = some (.int .i64 ((rd_T62 l0 x6_1).f1))) (ds := []) (bR [0, 14]) (by kernel_rfl) rfl rfl ⟨cC BK127 0, cC BK127 1, ((HB.out.cell (World.block_lt_of_cell? w _ hw128_0)).trans hw128_0), ((HB.out.cell (World.block_lt_of_cell? w _ hw128_1)).trans hw128_1)⟩ (fun hHeld => ?_); refine with_tabW spec_PutMark.tab2 spec_PutMark.bits2 (fun HT_ HW_ => ?_)
       generalize wr.drew = w8 at BK127 HB hx128_0 hx128_1 hHeld ⊢
       refine pP 0 9 (bR [1, 13]) rfl rfl HT_ ?_
       refine pP 1 10 (bR [2, 12]) rfl rfl HT_ ?_
       refine pP 2 11 (bR [3, 11]) rfl rfl HT_ ?_
       refine pP 3 12 (bR [4, 10]) rfl rfl HT_ ?_
       refine pP 4 13 (bR [5, 9]) rfl rfl HT_ ?_
       refine pP 5 14 (bR [6, 8]) rfl rfl HT_ ?_
       refine pP 6 15 (bR [7, 7]) rfl rfl HT_ ?_
       refine pP 7 16 (bR [8, 6]) rfl rfl HT_ ?_
       refine pP 8 17 (bR [9, 5]) rfl rfl HT_ ?_
       refine pP 10 19 (bR [9, 1, 1, 3]) rfl rfl HT_ ?_
       refine take_ (i := 9) (N := some 18) (v := ?_) (a' := ?_) (bR [11, 3]) rfl rfl (take_ofW HT_.out HW_.out (by kernel_rfl)) (fun _ _ _ h => h) (Or.inl ⟨by rfl, ?_⟩) hHeld ?_ ?_
       rotate_left; (rintro w' ⟨s0, s1, s2, s3⟩; go_simp; with_reducible rfl); rotate_left; (simp only [Act.put, sA, sZ, sS, i64_w]; rfl)
       refine take_ (i := 11) (N := some 20) (v := ?_) (a' := ?_) (bR [12, 2]) rfl rfl (take_ofW HT_.out HW_.out (by kernel_rfl)) (fun _ _ _ h => h) (Or.inl ⟨by rfl, ?_⟩) hHeld ?_ ?_
       rotate_left; (rintro w' ⟨s0, s1, s2, s3⟩; go_simp; with_reducible rfl); rotate_left; (simp only [Act.put, sA, sZ, sS, i64_w]; rfl)
       refine pP 12 21 (bR [13, 1]) rfl rfl HT_ ?_
       refine pP 13 22 (bR [14]) rfl rfl HT_ ?_
       refine done_ (done_of HT_.out (by kernel_rfl)) ?_
       try go_wp2
       go_roundg k1
       case measure => have := HK1.out; omega
       case rel => exact ⟨(wrap64 (x6_1 + 1)), (by first | rfl | (simp; done) | (simp [*]; done)), H', ⟨by have := HK1.out; omega⟩, ⟨by (with_reducible repeat first | refine kN ?_ _ | refine kD ?_ | refine kA ?_ _); exact BK127.out⟩, ⟨by repeat (first | (with_reducible first | exact HB.out | apply bA | apply bN | apply bD | refine bS ?_ GE127.out) | exact HB.out)⟩⟩
      ·rw [if_neg c7] at H
       have c7b0 : decide (((rd_T62 l0 x6_1).f0) < a1_0) = false := decide_eq_false c7
       clear c7
       have H' := Aside0.mk H
       clear H
       try go_wp2
       have n0_ := Aside0.mk (blk_drew BK127.out)
       have n1_ := Aside0.mk (below_drew1 HB.out)
       clear BK127
       clear HB
       have BK127 := n0_
       have HB := n1_
       clear n0_ n1_
       have p128 : 0 ≤ (x6_1 : Int) := of_decide_eq_true ‹_›
       have q128 : x6_1 < (l0.length : Int) := of_decide_eq_true ‹_›
       obtain ⟨ad128, e128, hx128_0, hx128_1⟩ := at_T62 HR0.out x6_1 p128 q128
       have hw128_1 := hx128_1
       have hw128_0 := hx128_0
       cases e128
       replace hx128_0 := (HB.out.cell (World.block_lt_of_cell? w _ hx128_0)).trans hx128_0
       replace hx128_1 := (HB.out.cell (World.block_lt_of_cell? w _ hx128_1)).trans hx128_1
       replace p128 := eq_true p128
       replace q128 := eq_true q128
       refine start_ (n := 14) (S := fun w' => w'.cell? ⟨gb127, 0, none⟩ = some (.int .i64 a1_0) ∧ w'.cell? ⟨gb127, 1, none⟩ = some (.int .i64 a1_1) ∧ w'.cell? (ad128.add ((x6_1).toNat * 2)) = some (.int .i64 ((rd_T62 l0 x6_1).f0)) ∧ w'.cell? ⟨(ad128.add ((x6_1).toNat * 2)).block, (ad128.add ((x6_1).toNat * 2)).off + 1, none⟩ = some (.int .i64 ((rd_T62 l0 x6_1).f1))) (ds := []) (bR [0, 14]) (by kernel_rfl) rfl rfl ⟨cC BK127 0, cC BK127 1, ((HB.out.cell (World.block_lt_of_cell? w _ hw128_0)).trans hw128_0), ((HB.out.cell (World.block_lt_of_cell? w _ hw128_1)).trans hw128_1)⟩ (fun hHeld => ?_); refine with_tabW spec_PutMark.tab2 spec_PutMark.bits2 (fun HT_ HW_ => ?_)
       generalize wr.drew = w9 at BK127 HB hx128_0 hx128_1 hHeld ⊢
       refine pP 0 9 (bR [1, 13]) rfl rfl HT_ ?_
       refine pP 1 10 (bR [2, 12]) rfl rfl HT_ ?_
       refine pP 2 11 (bR [3, 11]) rfl rfl HT_ ?_
       refine pP 3 12 (bR [4, 10]) rfl rfl HT_ ?_
       refine pP 4 13 (bR [5, 9]) rfl rfl HT_ ?_
       refine pP 5 14 (bR [6, 8]) rfl rfl HT_ ?_
       refine pP 6 15 (bR [7, 7]) rfl rfl HT_ ?_
       refine pP 7 16 (bR [8, 6]) rfl rfl HT_ ?_
       refine pP 8 17 (bR [9, 5]) rfl rfl HT_ ?_
       refine pP 10 19 (bR [9, 1, 1, 3]) rfl rfl HT_ ?_
       refine take_ (i := 9) (N := some 18) (v := ?_) (a' := ?_) (bR [11, 3]) rfl rfl (take_ofW HT_.out HW_.out (by kernel_rfl)) (fun _ _ _ h => h) (Or.inl ⟨by rfl, ?_⟩) hHeld ?_ ?_
       rotate_left; (rintro w' ⟨s0, s1, s2, s3⟩; go_simp; with_reducible rfl); rotate_left; (simp only [Act.put, sA, sZ, sS, i64_w]; rfl)
       refine take_ (i := 11) (N := some 20) (v := ?_) (a' := ?_) (bR [12, 2]) rfl rfl (take_ofW HT_.out HW_.out (by kernel_rfl)) (fun _ _ _ h => h) (Or.inl ⟨by rfl, ?_⟩) hHeld ?_ ?_
       rotate_left; (rintro w' ⟨s0, s1, s2, s3⟩; go_simp; with_reducible rfl); rotate_left; (simp only [Act.put, sA, sZ, sS, i64_w]; rfl)
       refine pP 12 21 (bR [13, 1]) rfl rfl HT_ ?_
       refine pP 13 22 (bR [14]) rfl rfl HT_ ?_
       refine done_ (done_of HT_.out (by kernel_rfl)) ?_
       try go_wp2
       go_meet
       case rel => exact ⟨_, (x6_1), (by first | rfl | (simp; done) | (simp [*]; done)), H', ⟨by have := HK1.out; first | omega | exact Nat.le_refl _⟩, ⟨by (with_reducible repeat first | refine kN ?_ _ | refine kD ?_ | refine kA ?_ _); exact BK127.out⟩, ⟨by repeat (first | (with_reducible first | exact HB.out | apply bA | apply bN | apply bD | refine bS ?_ GE127.out) | exact HB.out)⟩⟩
     ·rw [if_neg c6] at H
      exact absurd H (by simp)
    ·rw [if_neg c5] at H
     have c5b0 : decide (x6_1 < (l0.length : Int)) = false := decide_eq_false c5
     clear c5
     (first | rw [c5b0] | (simp only [i64_w, i32_w]; rw [c5b0]) | skip)
     have H' := Aside0.mk H
     clear H
     try go_wp2
     have n0_ := Aside0.mk (blk_drew BK127.out)
     have n1_ := Aside0.mk (below_drew1 HB.out)
     clear BK127
     clear HB
     have BK127 := n0_
     have HB := n1_
     clear n0_ n1_
     refine start_ (n := 14) (S := fun w' => True) (ds := []) (bR [0, 14]) (by kernel_rfl) rfl rfl trivial (fun hHeld => ?_); refine with_tabW spec_PutMark.tab2 spec_PutMark.bits2 (fun HT_ HW_ => ?_)
     generalize wr.drew = w10 at BK127 HB hHeld ⊢
     refine pP 0 9 (bR [1, 13]) rfl rfl HT_ ?_
     refine pP 1 10 (bR [2, 12]) rfl rfl HT_ ?_
     refine pP 2 11 (bR [3, 11]) rfl rfl HT_ ?_
     refine pP 3 12 (bR [4, 10]) rfl rfl HT_ ?_
     refine pP 4 13 (bR [5, 9]) rfl rfl HT_ ?_
     refine pU 5 14 (bR [6, 8]) rfl rfl HT_ ?_
     refine pU 6 15 (bR [7, 7]) rfl rfl HT_ ?_
     refine pU 7 16 (bR [8, 6]) rfl rfl HT_ ?_
     refine pU 8 17 (bR [9, 5]) rfl rfl HT_ ?_
     refine pU 9 18 (bR [10, 4]) rfl rfl HT_ ?_
     refine pU 10 19 (bR [11, 3]) rfl rfl HT_ ?_
     refine pU 11 20 (bR [12, 2]) rfl rfl HT_ ?_
     refine pU 12 21 (bR [13, 1]) rfl rfl HT_ ?_
     refine pP 13 22 (bR [14]) rfl rfl HT_ ?_
     refine done_ (done_of HT_.out (by kernel_rfl)) ?_
     try go_wp2
     go_meet
     case rel => exact ⟨_, (x6_1), (by first | rfl | (simp; done) | (simp [*]; done)), H', ⟨by have := HK1.out; first | omega | exact Nat.le_refl _⟩, ⟨by (with_reducible repeat first | refine kN ?_ _ | refine kD ?_ | refine kA ?_ _); exact BK127.out⟩, ⟨by repeat (first | (with_reducible first | exact HB.out | apply bA | apply bN | apply bD | refine bS ?_ GE127.out) | exact HB.out)⟩⟩
 case rest =>
  clear HC3
  try clear c1
  try clear p1
  try clear q1
  try clear hx1
  try clear p2
  try clear c5
  try clear c5b0
  try clear c6
  try clear c6b0
  try clear p6
  try clear c7
  try clear c7b0
  try clear hx128_0
  try clear hx128_1
  try clear p128
  try clear p2
  try clear q128
  obtain ⟨kq, x6_2, rfl, HA, HJ2, BK127, HB⟩ := hcut
  cases kq with
  | zero => exact absurd HA.out (by simp [spec_PutMark.j1])
  | succ kj2 =>
   have H := HA.out
   clear HA
   simp only [spec_PutMark.j1] at H
   by_cases c11 : 0 ≤ x6_2
   ·rw [if_pos c11] at H
    have c11b0 := eq_true c11
    have c11b1 : decide (0 ≤ x6_2) = true := decide_eq_true c11
    clear c11
    by_cases c12 : x6_2 ≤ (l0.length : Int)
    ·rw [if_pos c12] at H
     have c12b0 := eq_true c12
     have c12b1 : decide (x6_2 ≤ (l0.length : Int)) = true := decide_eq_true c12
     clear c12
     obtain ⟨y129, hy129⟩ : ∃ y_ : List (S62), y_ = (l0.drop (x6_2 : Int).toNat) := ⟨_, rfl⟩
     replace H : (if (y129.length : Int) > 0 then (if 0 < (y129.length : Int) then (spec_PutMark.j2 kj2 l0 x6_2 y129 (((rd_T62 y129 0).f0) == a1_0) a1_0 a1_1) else (none)) else (spec_PutMark.j2 kj2 l0 x6_2 y129 false a1_0 a1_1)) = some (r1, r2) := by first | (rw [hy129]; with_reducible exact H) | (have H2_ := (Option.bind_some _ _).symm.trans H; rw [hy129]; with_reducible exact H2_) | (have H2_ := (Option.bind_some _ _).symm.trans H; with_reducible exact H2_) | with_reducible exact H | (rw [hy129]; exact H) | exact H
     have Ny129 := Aside0.mk hy129
     clear hy129
     have HC13 := Aside0.mk H
     clear H
     have q14 : (x6_2 : Int) ≤ ((l0.length : Int) : Int) := of_decide_eq_true ‹_›
     obtain ⟨i014, hi014, _, hsz14, _⟩ := info_parts info62
     have hroom14 : l0.length ≤ c0 := HC0.out
     have hC14 : Kd.C k62 _ A0 l0.length l0 := HR0.out
     have q014 : (0 : Int) ≤ (x6_2 : Int) := of_decide_eq_true ‹_›
     have hcut14 := cut_from (P := Try.prog) 29 62 .i64 Try.underlying29 hi014 2 hsz14 A0 l0.length c0 x6_2 q014 q14
     have hr14 := Kd.C_drop (m := (x6_2 : Int).toNat) (c := c0) hC14 (by omega) hroom14
     obtain ⟨A14, hA14⟩ : ∃ A1, A1 = (if c0 = (x6_2 : Int).toNat then A0 else (A0 : Option Addr).map (·.add ((x6_2 : Int).toNat * 2))) := ⟨_, rfl⟩
     obtain ⟨c14, hc14⟩ : ∃ c1, c1 = c0 - (x6_2 : Int).toNat := ⟨_, rfl⟩
     have hy14 : y129.length = l0.length - (x6_2 : Int).toNat := (by rw [Ny129.out, List.length_drop] <;> omega)
     rw [show (l0).drop (x6_2 : Int).toNat = y129 from Ny129.out.symm] at hr14
     replace hr14 : Kd.C k62 _ A14 y129.length y129 := (by rw [hA14]; exact hr14)
     rw [← hy14, ← hA14, ← hc14] at hcut14
     have HR132 := Aside0.mk hr14
     have HC132 := Aside0.mk (show y129.length ≤ c14 from by rw [hy14, hc14]; exact Nat.sub_le_sub_right hroom14 _)
     clear hr14 hC14 hroom14 hi014 hsz14 hc14
     have KY14 := Aside0.mk hy14
     have KA14 := Aside0.mk hA14
     clear hy14 hA14
     replace q14 := eq_true q14
     go_upto_region 5 with (fail)
     go_cut [39] (fun v39 wc => ∃ (kq : Nat) (x39_12 : Bool), v39 = .bool x39_12 ∧ Aside0 (spec_PutMark.j2 kq l0 x6_2 y129 x39_12 a1_0 a1_1 = some (r1, r2)) ∧ Aside0 (kq ≤ kj2) ∧ Aside0 (wc.heap[gb127]? = some (.cells #[.int .i64 a1_0, .int .i64 a1_1] 62 (0, 0))) ∧ Aside0 (Below w.heap.size w wc))
     case first =>
      have H := HC13.out
      clear HC13
      by_cases c15 : (y129.length : Int) > 0
      ·rw [if_pos c15] at H
       have c15b0 : decide (0 < (y129.length : Int)) = true := decide_eq_true c15
       have c15b1 : decide (0 < y129.length) = true := decide_eq_true (by omega)
       clear c15
       (first | rw [c15b0] | (simp only [i64_w, i32_w]; rw [c15b0]) | skip)
       by_cases c16 : 0 < (y129.length : Int)
       ·rw [if_pos c16] at H
        have c16b0 : decide (0 < (y129.length : Int)) = true := decide_eq_true c16
        have c16b1 : decide (0 < y129.length) = true := decide_eq_true (by omega)
        clear c16
        have H' := Aside0.mk H
        clear H
        try go_wp2
        have n0_ := Aside0.mk (blk_drew BK127.out)
        have n1_ := Aside0.mk (below_drew1 HB.out)
        clear BK127
        clear HB
        have BK127 := n0_
        have HB := n1_
        clear n0_ n1_
        have p133 : 0 ≤ (0 : Int) := (by omega)
        have q133 : 0 < (y129.length : Int) := of_decide_eq_true ‹_›
        obtain ⟨ad133, e133, hx133_0, hx133_1⟩ := at_T62 HR132.out 0 p133 q133
        have hw133_1 := hx133_1
        (try rw [show ((0 : Int)).toNat = 0 from rfl] at hw133_1)
        (try rw [show 0 * 2 = 0 from rfl] at hw133_1)
        (try rw [Addr.add_zero'] at hw133_1)
        have hw133_0 := hx133_0
        (try rw [show ((0 : Int)).toNat = 0 from rfl] at hw133_0)
        (try rw [show 0 * 2 = 0 from rfl] at hw133_0)
        (try rw [Addr.add_zero'] at hw133_0)
        cases e133
        have qi133 : (0 < y129.length) = True := eq_true (by omega)
        (try rw [show ((0 : Int)).toNat = 0 from rfl] at hx133_0)
        (try rw [show 0 * 2 = 0 from rfl] at hx133_0)
        (try rw [Addr.add_zero'] at hx133_0)
        (try rw [show ((0 : Int)).toNat = 0 from rfl] at hx133_1)
        (try rw [show 0 * 2 = 0 from rfl] at hx133_1)
        (try rw [Addr.add_zero'] at hx133_1)
        replace hx133_0 := (HB.out.cell (World.block_lt_of_cell? w _ hx133_0)).trans hx133_0
        replace hx133_1 := (HB.out.cell (World.block_lt_of_cell? w _ hx133_1)).trans hx133_1
        replace p133 := eq_true p133
        replace q133 := eq_true q133
        refine start_ (n := 12) (S := fun w' => w'.cell? ⟨gb127, 0, none⟩ = some (.int .i64 a1_0) ∧ w'.cell? ⟨gb127, 1, none⟩ = some (.int .i64 a1_1) ∧ w'.cell? ad133 = some (.int .i64 ((rd_T62 y129 0).f0)) ∧ w'.cell? ⟨ad133.block, ad133.off + 1, none⟩ = some (.int .i64 ((rd_T62 y129 0).f1))) (ds := []) (bR [0, 12]) (by kernel_rfl) rfl rfl ⟨cC BK127 0, cC BK127 1, ((HB.out.cell (World.block_lt_of_cell? w _ hw133_0)).trans hw133_0), ((HB.out.cell (World.block_lt_of_cell? w _ hw133_1)).trans hw133_1)⟩ (fun hHeld => ?_); refine with_tabW spec_PutMark.tab5 spec_PutMark.bits5 (fun HT_ HW_ => ?_)
        generalize wc.drew = w17 at BK127 HB hx133_0 hx133_1 hHeld ⊢
        refine pP 0 28 (bR [1, 11]) rfl rfl HT_ ?_
        refine pP 1 29 (bR [2, 10]) rfl rfl HT_ ?_
        refine pP 2 30 (bR [3, 9]) rfl rfl HT_ ?_
        refine pP 3 31 (bR [4, 8]) rfl rfl HT_ ?_
        refine pP 4 32 (bR [5, 7]) rfl rfl HT_ ?_
        refine pP 5 33 (bR [6, 6]) rfl rfl HT_ ?_
        refine pP 6 34 (bR [7, 5]) rfl rfl HT_ ?_
        refine pP 8 36 (bR [7, 1, 1, 3]) rfl rfl HT_ ?_
        refine take_ (i := 7) (N := some 35) (v := ?_) (a' := ?_) (bR [9, 3]) rfl rfl (take_ofW HT_.out HW_.out (by kernel_rfl)) (fun _ _ _ h => h) (Or.inl ⟨by rfl, ?_⟩) hHeld ?_ ?_
        rotate_left; (rintro w' ⟨s0, s1, s2, s3⟩; go_simp; with_reducible rfl); rotate_left; (simp only [Act.put, sA, sZ, sS, i64_w]; rfl)
        refine take_ (i := 9) (N := some 37) (v := ?_) (a' := ?_) (bR [10, 2]) rfl rfl (take_ofW HT_.out HW_.out (by kernel_rfl)) (fun _ _ _ h => h) (Or.inl ⟨by rfl, ?_⟩) hHeld ?_ ?_
        rotate_left; (rintro w' ⟨s0, s1, s2, s3⟩; go_simp; with_reducible rfl); rotate_left; (simp only [Act.put, sA, sZ, sS, i64_w]; rfl)
        refine pP 10 38 (bR [11, 1]) rfl rfl HT_ ?_
        refine pP 11 39 (bR [12]) rfl rfl HT_ ?_
        refine done_ (done_of HT_.out (by kernel_rfl)) ?_
        try go_wp2
        go_meet
        case rel => exact ⟨_, ((((rd_T62 y129 0).f0) == a1_0)), (by first | rfl | (simp; done) | (simp [*]; done)), H', ⟨by have := HJ2.out; first | omega | exact Nat.le_refl _⟩, ⟨by (with_reducible repeat first | refine kN ?_ _ | refine kD ?_ | refine kA ?_ _); exact BK127.out⟩, ⟨by repeat (first | (with_reducible first | exact HB.out | apply bA | apply bN | apply bD | refine bS ?_ GE127.out) | exact HB.out)⟩⟩
       ·rw [if_neg c16] at H
        exact absurd H (by simp)
      ·rw [if_neg c15] at H
       have c15b0 : decide (0 < (y129.length : Int)) = false := decide_eq_false c15
       have c15b1 : decide (0 < y129.length) = false := decide_eq_false (by omega)
       clear c15
       (first | rw [c15b0] | (simp only [i64_w, i32_w]; rw [c15b0]) | skip)
       have H' := Aside0.mk H
       clear H
       try go_wp2
       have n0_ := Aside0.mk (blk_drew BK127.out)
       have n1_ := Aside0.mk (below_drew1 HB.out)
       clear BK127
       clear HB
       have BK127 := n0_
       have HB := n1_
       clear n0_ n1_
       refine start_ (n := 12) (S := fun w' => True) (ds := []) (bR [0, 12]) (by kernel_rfl) rfl rfl trivial (fun hHeld => ?_); refine with_tabW spec_PutMark.tab5 spec_PutMark.bits5 (fun HT_ HW_ => ?_)
       generalize wc.drew = w18 at BK127 HB hHeld ⊢
       refine pP 0 28 (bR [1, 11]) rfl rfl HT_ ?_
       refine pP 1 29 (bR [2, 10]) rfl rfl HT_ ?_
       refine pP 2 30 (bR [3, 9]) rfl rfl HT_ ?_
       refine pP 3 31 (bR [4, 8]) rfl rfl HT_ ?_
       refine pU 4 32 (bR [5, 7]) rfl rfl HT_ ?_
       refine pU 5 33 (bR [6, 6]) rfl rfl HT_ ?_
       refine pU 6 34 (bR [7, 5]) rfl rfl HT_ ?_
       refine pU 7 35 (bR [8, 4]) rfl rfl HT_ ?_
       refine pU 8 36 (bR [9, 3]) rfl rfl HT_ ?_
       refine pU 9 37 (bR [10, 2]) rfl rfl HT_ ?_
       refine pU 10 38 (bR [11, 1]) rfl rfl HT_ ?_
       refine pP 11 39 (bR [12]) rfl rfl HT_ ?_
       refine done_ (done_of HT_.out (by kernel_rfl)) ?_
       try go_wp2
       go_meet
       case rel => exact ⟨_, (false), (by first | rfl | (simp; done) | (simp [*]; done)), H', ⟨by have := HJ2.out; first | omega | exact Nat.le_refl _⟩, ⟨by (with_reducible repeat first | refine kN ?_ _ | refine kD ?_ | refine kA ?_ _); exact BK127.out⟩, ⟨by repeat (first | (with_reducible first | exact HB.out | apply bA | apply bN | apply bD | refine bS ?_ GE127.out) | exact HB.out)⟩⟩
     case rest =>
      clear HC13
      try clear c1
      try clear p1
      try clear q1
      try clear hx1
      try clear qi1
      try clear p2
      try clear c5
      try clear c5b0
      try clear c6
      try clear c6b0
      try clear p6
      try clear c7
      try clear c7b0
      try clear c11
      try clear c11b0
      try clear c11b1
      try clear c12
      try clear c12b0
      try clear c12b1
      try clear p12
      try clear q12
      try clear hx12
      try clear p13
      try clear q13
      try clear hx13
      try clear qi13
      try clear c14
      try clear q14
      try clear c15
      try clear c15b0
      try clear c15b1
      try clear c16
      try clear c16b0
      try clear c16b1
      try clear hx128_0
      try clear hx128_1
      try clear hx133_0
      try clear hx133_1
      try clear p1
      try clear p128
      try clear p133
      try clear p2
      try clear p6
      try clear q014
      try clear q1
      try clear q128
      try clear q133
      try clear q14
      obtain ⟨kq, x39_12, rfl, HA, HJ12, BK127, HB⟩ := hcut
      cases kq with
      | zero => exact absurd HA.out (by simp [spec_PutMark.j2])
      | succ kj12 =>
       have H := HA.out
       clear HA
       simp only [spec_PutMark.j2] at H
       by_cases c19 : x39_12 = true
       ·subst c19
        have H1 : (if 1 ≤ (y129.length : Int) then ((some (y129.drop 1 : List (S62))).bind fun y134 => ((some (([] : List (S62)) : List (S62))).bind fun y138 => (if 0 ≤ x6_2 then (if x6_2 ≤ (l0.length : Int) then ((some (l0.take (x6_2 : Int).toNat : List (S62))).bind fun y141 => (if y138.length + y141.length < 8796093022208 then ((some (y138 ++ y141 : List (S62))).bind fun y145 => ((some (([(⟨a1_0, a1_1⟩ : S62)] : List (S62)) : List (S62))).bind fun y148 => (if y145.length + y148.length < 8796093022208 then ((some (y145 ++ y148 : List (S62))).bind fun y151 => (if y151.length + y134.length < 8796093022208 then ((some (y151 ++ y134 : List (S62))).bind fun y154 => ((spec_AreMarks.f kj12 y154).bind fun t157 => (if t157 = true then (some (y154, true)) else ((some (([] : List (S62)) : List (S62))).bind fun y158 => (if y158.length + l0.length < 8796093022208 then (some ((y158 ++ l0), false)) else (none)))))) else (none))) else (none)))) else (none))) else (none)) else (none)))) else (none)) = some (r1, r2) := by rw [if_pos rfl] at H; exact H
        clear H
        have H := H1
        clear H1
        by_cases c20 : 1 ≤ (y129.length : Int)
        ·rw [if_pos c20] at H
         have c20b0 := eq_true c20
         have c20b1 : decide (1 ≤ (y129.length : Int)) = true := decide_eq_true c20
         clear c20
         obtain ⟨y134, hy134⟩ : ∃ y_ : List (S62), y_ = (y129.drop 1) := ⟨_, rfl⟩
         replace H : ((some (([] : List (S62)) : List (S62))).bind fun y138 => (if 0 ≤ x6_2 then (if x6_2 ≤ (l0.length : Int) then ((some (l0.take (x6_2 : Int).toNat : List (S62))).bind fun y141 => (if y138.length + y141.length < 8796093022208 then ((some (y138 ++ y141 : List (S62))).bind fun y145 => ((some (([(⟨a1_0, a1_1⟩ : S62)] : List (S62)) : List (S62))).bind fun y148 => (if y145.length + y148.length < 8796093022208 then ((some (y145 ++ y148 : List (S62))).bind fun y151 => (if y151.length + y134.length < 8796093022208 then ((some (y151 ++ y134 : List (S62))).bind fun y154 => ((spec_AreMarks.f kj12 y154).bind fun t157 => (if t157 = true then (some (y154, true)) else ((some (([] : List (S62)) : List (S62))).bind fun y158 => (if y158.length + l0.length < 8796093022208 then (some ((y158 ++ l0), false)) else (none)))))) else (none))) else (none)))) else (none))) else (none)) else (none))) = some (r1, r2) := by first | (rw [hy134]; with_reducible exact H) | (have H2_ := (Option.bind_some _ _).symm.trans H; rw [hy134]; with_reducible exact H2_) | (have H2_ := (Option.bind_some _ _).symm.trans H; with_reducible exact H2_) | with_reducible exact H | (rw [hy134]; exact H) | exact H
         have Ny134 := Aside0.mk hy134
         clear hy134
         obtain ⟨y138, hy138⟩ : ∃ y_ : List (S62), y_ = (([] : List (S62))) := ⟨_, rfl⟩
         replace H : (if 0 ≤ x6_2 then (if x6_2 ≤ (l0.length : Int) then ((some (l0.take (x6_2 : Int).toNat : List (S62))).bind fun y141 => (if y138.length + y141.length < 8796093022208 then ((some (y138 ++ y141 : List (S62))).bind fun y145 => ((some (([(⟨a1_0, a1_1⟩ : S62)] : List (S62)) : List (S62))).bind fun y148 => (if y145.length + y148.length < 8796093022208 then ((some (y145 ++ y148 : List (S62))).bind fun y151 => (if y151.length + y134.length < 8796093022208 then ((some (y151 ++ y134 : List (S62))).bind fun y154 => ((spec_AreMarks.f kj12 y154).bind fun t157 => (if t157 = true then (some (y154, true)) else ((some (([] : List (S62)) : List (S62))).bind fun y158 => (if y158.length + l0.length < 8796093022208 then (some ((y158 ++ l0), false)) else (none)))))) else (none))) else (none)))) else (none))) else (none)) else (none)) = some (r1, r2) := by first | (rw [hy138]; with_reducible exact H) | (have H2_ := (Option.bind_some _ _).symm.trans H; rw [hy138]; with_reducible exact H2_) | (have H2_ := (Option.bind_some _ _).symm.trans H; with_reducible exact H2_) | with_reducible exact H | (rw [hy138]; exact H) | exact H
         have Ny138 := Aside0.mk hy138
         clear hy138
         by_cases c21 : 0 ≤ x6_2
         ·rw [if_pos c21] at H
          have c21b0 := eq_true c21
          have c21b1 : decide (0 ≤ x6_2) = true := decide_eq_true c21
          clear c21
          by_cases c22 : x6_2 ≤ (l0.length : Int)
          ·rw [if_pos c22] at H
           have c22b0 := eq_true c22
           have c22b1 : decide (x6_2 ≤ (l0.length : Int)) = true := decide_eq_true c22
           clear c22
           obtain ⟨y141, hy141⟩ : ∃ y_ : List (S62), y_ = (l0.take (x6_2 : Int).toNat) := ⟨_, rfl⟩
           replace H : (if y138.length + y141.length < 8796093022208 then ((some (y138 ++ y141 : List (S62))).bind fun y145 => ((some (([(⟨a1_0, a1_1⟩ : S62)] : List (S62)) : List (S62))).bind fun y148 => (if y145.length + y148.length < 8796093022208 then ((some (y145 ++ y148 : List (S62))).bind fun y151 => (if y151.length + y134.length < 8796093022208 then ((some (y151 ++ y134 : List (S62))).bind fun y154 => ((spec_AreMarks.f kj12 y154).bind fun t157 => (if t157 = true then (some (y154, true)) else ((some (([] : List (S62)) : List (S62))).bind fun y158 => (if y158.length + l0.length < 8796093022208 then (some ((y158 ++ l0), false)) else (none)))))) else (none))) else (none)))) else (none)) = some (r1, r2) := by first | (rw [hy141]; with_reducible exact H) | (have H2_ := (Option.bind_some _ _).symm.trans H; rw [hy141]; with_reducible exact H2_) | (have H2_ := (Option.bind_some _ _).symm.trans H; with_reducible exact H2_) | with_reducible exact H | (rw [hy141]; exact H) | exact H
           have Ny141 := Aside0.mk hy141
           clear hy141
           by_cases c23 : y138.length + y141.length < 8796093022208
           ·rw [if_pos c23] at H
            have LMc23 := Aside0.mk c23
            clear c23
            obtain ⟨y145, hy145⟩ : ∃ y_ : List (S62), y_ = (y138 ++ y141) := ⟨_, rfl⟩
            replace H : ((some (([(⟨a1_0, a1_1⟩ : S62)] : List (S62)) : List (S62))).bind fun y148 => (if y145.length + y148.length < 8796093022208 then ((some (y145 ++ y148 : List (S62))).bind fun y151 => (if y151.length + y134.length < 8796093022208 then ((some (y151 ++ y134 : List (S62))).bind fun y154 => ((spec_AreMarks.f kj12 y154).bind fun t157 => (if t157 = true then (some (y154, true)) else ((some (([] : List (S62)) : List (S62))).bind fun y158 => (if y158.length + l0.length < 8796093022208 then (some ((y158 ++ l0), false)) else (none)))))) else (none))) else (none))) = some (r1, r2) := by first | (rw [hy145]; with_reducible exact H) | (have H2_ := (Option.bind_some _ _).symm.trans H; rw [hy145]; with_reducible exact H2_) | (have H2_ := (Option.bind_some _ _).symm.trans H; with_reducible exact H2_) | with_reducible exact H | (rw [hy145]; exact H) | exact H
            have Ny145 := Aside0.mk hy145
            clear hy145
            obtain ⟨y148, hy148⟩ : ∃ y_ : List (S62), y_ = (([(⟨a1_0, a1_1⟩ : S62)] : List (S62))) := ⟨_, rfl⟩
            replace H : (if y145.length + y148.length < 8796093022208 then ((some (y145 ++ y148 : List (S62))).bind fun y151 => (if y151.length + y134.length < 8796093022208 then ((some (y151 ++ y134 : List (S62))).bind fun y154 => ((spec_AreMarks.f kj12 y154).bind fun t157 => (if t157 = true then (some (y154, true)) else ((some (([] : List (S62)) : List (S62))).bind fun y158 => (if y158.length + l0.length < 8796093022208 then (some ((y158 ++ l0), false)) else (none)))))) else (none))) else (none)) = some (r1, r2) := by first | (rw [hy148]; with_reducible exact H) | (have H2_ := (Option.bind_some _ _).symm.trans H; rw [hy148]; with_reducible exact H2_) | (have H2_ := (Option.bind_some _ _).symm.trans H; with_reducible exact H2_) | with_reducible exact H | (rw [hy148]; exact H) | exact H
            have Ny148 := Aside0.mk hy148
            clear hy148
            by_cases c24 : y145.length + y148.length < 8796093022208
            ·rw [if_pos c24] at H
             have LMc24 := Aside0.mk c24
             clear c24
             obtain ⟨y151, hy151⟩ : ∃ y_ : List (S62), y_ = (y145 ++ y148) := ⟨_, rfl⟩
             replace H : (if y151.length + y134.length < 8796093022208 then ((some (y151 ++ y134 : List (S62))).bind fun y154 => ((spec_AreMarks.f kj12 y154).bind fun t157 => (if t157 = true then (some (y154, true)) else ((some (([] : List (S62)) : List (S62))).bind fun y158 => (if y158.length + l0.length < 8796093022208 then (some ((y158 ++ l0), false)) else (none)))))) else (none)) = some (r1, r2) := by first | (rw [hy151]; with_reducible exact H) | (have H2_ := (Option.bind_some _ _).symm.trans H; rw [hy151]; with_reducible exact H2_) | (have H2_ := (Option.bind_some _ _).symm.trans H; with_reducible exact H2_) | with_reducible exact H | (rw [hy151]; exact H) | exact H
             have Ny151 := Aside0.mk hy151
             clear hy151
             by_cases c25 : y151.length + y134.length < 8796093022208
             ·rw [if_pos c25] at H
              have LMc25 := Aside0.mk c25
              clear c25
              obtain ⟨y154, hy154⟩ : ∃ y_ : List (S62), y_ = (y151 ++ y134) := ⟨_, rfl⟩
              replace H : ((spec_AreMarks.f kj12 y154).bind fun t157 => (if t157 = true then (some (y154, true)) else ((some (([] : List (S62)) : List (S62))).bind fun y158 => (if y158.length + l0.length < 8796093022208 then (some ((y158 ++ l0), false)) else (none))))) = some (r1, r2) := by first | (rw [hy154]; with_reducible exact H) | (have H2_ := (Option.bind_some _ _).symm.trans H; rw [hy154]; with_reducible exact H2_) | (have H2_ := (Option.bind_some _ _).symm.trans H; with_reducible exact H2_) | with_reducible exact H | (rw [hy154]; exact H) | exact H
              have Ny154 := Aside0.mk hy154
              clear hy154
              replace H := Option.bind_eq_some_iff.mp H
              obtain ⟨t157, A260, H⟩ := H
              replace H : (if t157 = true then (some (y154, true)) else ((some (([] : List (S62)) : List (S62))).bind fun y158 => (if y158.length + l0.length < 8796093022208 then (some ((y158 ++ l0), false)) else (none)))) = some (r1, r2) := H
              have A26 := Aside0.mk A260
              clear A260
              by_cases c27 : t157 = true
              ·subst c27
               have H1 : (some (y154, true)) = some (r1, r2) := by rw [if_pos rfl] at H; exact H
               clear H
               have H := H1
               clear H1
               simp only [Option.some.injEq, Prod.mk.injEq] at H
               obtain ⟨rfl, rfl⟩ := H
               have q28 : (1 : Int) ≤ ((y129.length : Int) : Int) := of_decide_eq_true ‹_›
               obtain ⟨i028, hi028, _, hsz28, _⟩ := info_parts info62
               have hroom28 : y129.length ≤ c14 := HC132.out
               have hC28 : Kd.C k62 _ A14 y129.length y129 := HR132.out
               have hcut28 := cut_from (P := Try.prog) 29 62 .i64 Try.underlying29 hi028 2 hsz28 A14 y129.length c14 1 (by omega) q28
               have hr28 := Kd.C_drop (m := (1 : Int).toNat) (c := c14) hC28 (by omega) hroom28
               obtain ⟨A28, hA28⟩ : ∃ A1, A1 = (if c14 = (1 : Int).toNat then A14 else (A14 : Option Addr).map (·.add ((1 : Int).toNat * 2))) := ⟨_, rfl⟩
               obtain ⟨c28, hc28⟩ : ∃ c1, c1 = c14 - (1 : Int).toNat := ⟨_, rfl⟩
               have hy28 : y134.length = y129.length - (1 : Int).toNat := (by rw [Ny134.out, List.length_drop] <;> omega)
               rw [show (y129).drop (1 : Int).toNat = y134 from Ny134.out.symm] at hr28
               replace hr28 : Kd.C k62 _ A28 y134.length y134 := (by rw [hA28]; exact hr28)
               rw [← hy28, ← hA28, ← hc28] at hcut28
               have HR137 := Aside0.mk hr28
               have HC137 := Aside0.mk (show y134.length ≤ c28 from by rw [hy28, hc28]; exact Nat.sub_le_sub_right hroom28 _)
               clear hr28 hC28 hroom28 hi028 hsz28 hc28
               have KY28 := Aside0.mk hy28
               have KA28 := Aside0.mk hA28
               clear hy28 hA28
               replace q28 := eq_true q28
               try go_wp2
               have n0_ := Aside0.mk (blk_drew BK127.out)
               have n1_ := Aside0.mk (below_drew1 HB.out)
               clear BK127
               clear HB
               have BK127 := n0_
               have HB := n1_
               clear n0_ n1_
               have q30 : (x6_2 : Int) ≤ ((l0.length : Int) : Int) := of_decide_eq_true ‹_›
               obtain ⟨i030, hi030, _, hsz30, _⟩ := info_parts info62
               have hroom30 : l0.length ≤ c0 := HC0.out
               have hC30 : Kd.C k62 _ A0 l0.length l0 := HR0.out
               have hcut30 := cut_to (P := Try.prog) 29 62 .i64 Try.underlying29 hi030 A0 l0.length c0 x6_2 (of_decide_eq_true ‹_›) q30 hroom30
               have hr30 := Kd.C_take (m := (x6_2 : Int).toNat) hC30 (by omega)
               have hy30 : y141.length = (x6_2 : Int).toNat := (by rw [Ny141.out, List.length_take]; omega)
               rw [← Ny141.out] at hr30
               rw [← hy30] at hcut30
               have HR144 := Aside0.mk hr30
               have HC144 := Aside0.mk (show y141.length ≤ c0 from by omega)
               clear hr30 hC30 hroom30 hi030 hsz30
               have KY30 := Aside0.mk hy30
               clear hy30
               replace q30 := eq_true q30
               refine start_ (n := 11) (S := fun w' => w'.cell? ⟨gb127, 0, none⟩ = some (.int .i64 a1_0) ∧ w'.cell? ⟨gb127, 1, none⟩ = some (.int .i64 a1_1)) (ds := []) (bR [0, 11]) (by kernel_rfl) rfl rfl ⟨cC BK127 0, cC BK127 1⟩ (fun hHeld => ?_); refine with_tabW spec_PutMark.tab7 spec_PutMark.bits7 (fun HT_ HW_ => ?_)
               generalize wc.drew = w29 at BK127 HB HR144 hHeld ⊢
               refine pP 1 43 (bR [0, 1, 1, 9]) rfl rfl HT_ ?_
               refine pP 2 44 (bR [0, 1, 2, 8]) rfl rfl HT_ ?_
               refine pP 3 45 (bR [0, 1, 3, 7]) rfl rfl HT_ ?_
               refine pP 8 50 (bR [0, 1, 3, 4, 1, 2]) rfl rfl HT_ ?_
               refine take_ (i := 5) (N := some 47) (v := ?_) (a' := ?_) (bR [0, 1, 3, 1, 1, 2, 1, 2]) rfl rfl (take_ofW HT_.out HW_.out (by kernel_rfl)) (fun _ _ _ h => h) (Or.inl ⟨by rfl, ?_⟩) hHeld ?_ ?_
               rotate_left; (rintro w' ⟨s0, s1⟩; go_simp; with_reducible rfl); rotate_left; (simp only [Act.put, sA, sZ, sS, i64_w]; rfl)
               refine join_ (σ := Value × Value × Value) 3 (bR [7, 1, 1, 2]) (fun s_ => [(42, s_.1), (46, s_.2.1), (48, s_.2.2)]) (fun s_ w' => (w'.cell? ⟨gb127, 0, none⟩ = some (.int .i64 a1_0) ∧ w'.cell? ⟨gb127, 1, none⟩ = some (.int .i64 a1_1)) ∧ (Kd.R k62 62 w' w.heap.size (fun k_ => some k_ ≠ (s_.2.2 : Value).ownBlock ∧ k_ ≠ gb127) s_.2.1 y145) ∧ (Kd.R k62 62 w' w.heap.size (fun k_ => some k_ ≠ (s_.2.1 : Value).ownBlock ∧ k_ ≠ gb127) s_.2.2 y148) ∧ (w'.heap[gb127]? = some (.cells #[.int .i64 a1_0, .int .i64 a1_1] 62 (0, 0))) ∧ (Below w.heap.size w w')) ?_ ?_
               rotate_left
               ·intro hCont
                refine two_ (i := 0) (j := 6) (Ni := some 42) (Nj := some 48) (bR [4, 1, 1, 2, 1, 2]) (bR [0, 1, 3, 1, 2, 1, 1, 2]) rfl rfl rfl rfl (two_of HT_.out (by kernel_rfl)) (by decide) (by decide) (fun K hK => ?_) (fun K hK => ?_)
                ·skip
                 refine Kd.R_lit_step k62 _ 62 ?hg (N := 42) ?hd (xs := ([] : List (S62))) (inner := []) (ok := fun _ => True) (okp := fun _ => True) ?hr ?hp (fun _ hk => hk) trivial (Below.refl _ _) (Nat.le_refl _) (by simp) ?_; (case hd => rfl); (case hg => rfl); (case hr => first | (go_simp; done) | (go_simp; rfl)); (case hp => exact (Reps.none _ _))
                 intro v139 w31 ho32 hb hg_ hnew_
                 clear hg_ hnew_
                 (first | rw [← Ny138.out] at ho32 | (simp only [Int.reduceToNat] at ho32; rw [← Ny138.out] at ho32))
                 have n0_ := Aside0.mk (Kd.R_lower (Kd.R_newB ho32 (qK BK127)) (below_size (by repeat first | (with_reducible first | exact HB.out | apply bA | apply bN | apply bD | refine bS ?_ GE127.out) | exact HB.out)))
                 have n1_ := Aside0.mk (blk_below (qK BK127) hb)
                 have n2_ := Aside0.mk (below_step (by repeat first | (with_reducible first | exact HB.out | apply bA | apply bN | apply bD | refine bS ?_ GE127.out) | exact HB.out) hb)
                 clear BK127
                 clear HB
                 have HO140 := n0_
                 have BK127 := n1_
                 have HB := n2_
                 clear n0_ n1_ n2_
                 clear hb ho32
                 refine hK.out _ _ ⟨cC BK127 0, cC BK127 1⟩ (fun hHeld => ?_)
                 clear hK K
                 refine norm_ (a' := ?_) ?_ ?_
                 rotate_left
                 ·show Act.put _ (some 42) _ = _
                  simp only [Act.put, sA, sZ, sS, i64_w]
                  rfl
                 refine two_ (i := 4) (j := 6) (Ni := some 46) (Nj := some 48) (bR [6, 2, 1, 2]) (bR [4, 1, 2, 1, 1, 2]) rfl rfl rfl rfl (two_of HT_.out (by kernel_rfl)) (by decide) (by decide) (fun K hK => ?_) (fun K hK => ?_)
                 ·skip
                  refine Kd.R_append_rows_step k62 (w0 := w) w.heap.size (by rfl) (.tmp 42) (.tmp 45) 29 62 (.agg #[(.int .i64 0), (.int .i64 0)]) 16 rfl Try.underlying29 info62 rfl (by decide) (by omega) v139 y138 y141 _ _ _ (fun k_ => k_ ≠ gb127) (fun _ => False) rfl rfl ?aO ?aR (fun _ _ h => h) (fun _ h => h.elim) ?aF ?aB ?aS ?aL ?_
                  (case aR => exact qC (Kd.C_below HR144.out HB.out))
                  (case aB => exact (by repeat first | (with_reducible first | exact HB.out | apply bA | apply bN | apply bD | refine bS ?_ GE127.out) | exact HB.out))
                  (case aF => exact (fun k_ hk => Kd.freshB (qK BK127) k_ hk))
                  (case aO => exact (by (with_reducible repeat first | apply rA | apply rN | apply rD); exact Kd.R_mono HO140.out (fun _ hk => hk.2)))
                  (case aS => exact (below_size (by repeat first | (with_reducible first | exact HB.out | apply bA | apply bN | apply bD | refine bS ?_ GE127.out) | exact HB.out)))
                  (case aL => have := LMc23.out; omega)
                  intro v146 w33 ho hb hg hat
                  rw [← Ny145.out] at ho
                  have n0_ := Aside0.mk (blk_grown (qK BK127) hg (Kd.R_away HO140.out (fun _ hk => hk.2)))
                  have n1_ := Aside0.mk (hb)
                  have n2_ := Aside0.mk (ho)
                  clear BK127
                  clear HB
                  clear HO140
                  have BK127 := n0_
                  have HB := n1_
                  have HO147 := n2_
                  clear n0_ n1_ n2_
                  clear ho hb hg hat
                  refine hK.out _ _ ⟨cC BK127 0, cC BK127 1⟩ (fun hHeld => ?_)
                  clear hK K
                  refine norm_ (a' := ?_) ?_ ?_
                  rotate_left
                  ·show Act.put _ (some 46) _ = _
                   simp only [Act.put, sA, sZ, sS, i64_w]
                   rfl
                  refine one_ (i := 6) (N := some 48) (bR [7, 1, 1, 2]) rfl rfl (one_of HT_.out (by kernel_rfl)) (by decide) (fun K hK => ?_)
                  refine Kd.R_lit_step k62 _ 62 ?hg (N := 48) ?hd (xs := ([(⟨a1_0, a1_1⟩ : S62)] : List (S62))) (inner := [.int .i64 a1_0, .int .i64 a1_1]) (ok := fun _ => True) (okp := fun _ => True) ?hr ?hp (fun _ hk => hk) trivial (Below.refl _ _) (Nat.le_refl _) (by simp) ?_; (case hd => rfl); (case hg => rfl); (case hr => first | (go_simp; done) | (go_simp; rfl)); (case hp => exact (Reps.c2 (show Kd.M k62 _ _ _ (⟨a1_0, a1_1⟩ : S62) [.int .i64 a1_0, .int .i64 a1_1] from (k62_mkM _ _ _ (⟨a1_0, a1_1⟩ : S62) )) (Reps.none _ _)))
                  intro v149 w34 ho35 hb hg_ hnew_
                  clear hg_ hnew_
                  (first | rw [← Ny148.out] at ho35 | (simp only [Int.reduceToNat] at ho35; rw [← Ny148.out] at ho35))
                  have n0_ := Aside0.mk (Kd.R_elder' (qR HO147) (Kd.R_base ho35) hb)
                  have n1_ := Aside0.mk (Kd.R_lower (Kd.R_newB (Kd.R_new' ho35 (Kd.R_lt (qR HO147))) (qK BK127)) (below_size (by repeat first | (with_reducible first | exact HB.out | apply bA | apply bN | apply bD | refine bS ?_ GE127.out) | exact HB.out)))
                  have n2_ := Aside0.mk (blk_below (qK BK127) hb)
                  have n3_ := Aside0.mk (below_step (by repeat first | (with_reducible first | exact HB.out | apply bA | apply bN | apply bD | refine bS ?_ GE127.out) | exact HB.out) hb)
                  clear HO147
                  clear BK127
                  clear HB
                  have HO147 := n0_
                  have HO150 := n1_
                  have BK127 := n2_
                  have HB := n3_
                  clear n0_ n1_ n2_ n3_
                  clear hb ho35
                  refine hK.out _ _ ⟨cC BK127 0, cC BK127 1⟩ (fun hHeld => ?_)
                  clear hK K
                  refine norm_ (a' := ?_) ?_ ?_
                  rotate_left
                  ·show Act.put _ (some 48) _ = _
                   simp only [Act.put, sA, sZ, sS, i64_w]
                   rfl
                  exact norm_ (by simp only [putAll, Act.put, sA, sZ, sS]) (hCont (v139, v146, v149) _ ⟨hHeld, (by (with_reducible repeat first | apply rA | apply rN | apply rD); exact Kd.R_mono HO147.out (fun _ hk => ⟨hk.2, hk.1⟩)), (by (with_reducible repeat first | apply rA | apply rN | apply rD); exact Kd.R_mono HO150.out (fun _ hk => ⟨hk.1.2, hk.2⟩)), (qK BK127), (by repeat first | (with_reducible first | exact HB.out | apply bA | apply bN | apply bD | refine bS ?_ GE127.out) | exact HB.out)⟩)
                 ·skip
                  refine Kd.R_lit_step k62 _ 62 ?hg (N := 48) ?hd (xs := ([(⟨a1_0, a1_1⟩ : S62)] : List (S62))) (inner := [.int .i64 a1_0, .int .i64 a1_1]) (ok := fun _ => True) (okp := fun _ => True) ?hr ?hp (fun _ hk => hk) trivial (Below.refl _ _) (Nat.le_refl _) (by simp) ?_; (case hd => rfl); (case hg => rfl); (case hr => first | (go_simp; done) | (go_simp; rfl)); (case hp => exact (Reps.c2 (show Kd.M k62 _ _ _ (⟨a1_0, a1_1⟩ : S62) [.int .i64 a1_0, .int .i64 a1_1] from (k62_mkM _ _ _ (⟨a1_0, a1_1⟩ : S62) )) (Reps.none _ _)))
                  intro v149 w33 ho34 hb hg_ hnew_
                  clear hg_ hnew_
                  (first | rw [← Ny148.out] at ho34 | (simp only [Int.reduceToNat] at ho34; rw [← Ny148.out] at ho34))
                  have n0_ := Aside0.mk (Kd.R_elder' (qR HO140) (Kd.R_base ho34) hb)
                  have n1_ := Aside0.mk (Kd.R_lower (Kd.R_newB (Kd.R_new' ho34 (Kd.R_lt (qR HO140))) (qK BK127)) (below_size (by repeat first | (with_reducible first | exact HB.out | apply bA | apply bN | apply bD | refine bS ?_ GE127.out) | exact HB.out)))
                  have n2_ := Aside0.mk (blk_below (qK BK127) hb)
                  have n3_ := Aside0.mk (below_step (by repeat first | (with_reducible first | exact HB.out | apply bA | apply bN | apply bD | refine bS ?_ GE127.out) | exact HB.out) hb)
                  clear HO140
                  clear BK127
                  clear HB
                  have HO140 := n0_
                  have HO150 := n1_
                  have BK127 := n2_
                  have HB := n3_
                  clear n0_ n1_ n2_ n3_
                  clear hb ho34
                  refine hK.out _ _ ⟨cC BK127 0, cC BK127 1⟩ (fun hHeld => ?_)
                  clear hK K
                  refine norm_ (a' := ?_) ?_ ?_
                  rotate_left
                  ·show Act.put _ (some 48) _ = _
                   simp only [Act.put, sA, sZ, sS, i64_w]
                   rfl
                  refine one_ (i := 4) (N := some 46) (bR [7, 1, 1, 2]) rfl rfl (one_of HT_.out (by kernel_rfl)) (by decide) (fun K hK => ?_)
                  refine Kd.R_append_rows_step k62 (w0 := w) w.heap.size (by rfl) (.tmp 42) (.tmp 45) 29 62 (.agg #[(.int .i64 0), (.int .i64 0)]) 16 rfl Try.underlying29 info62 rfl (by decide) (by omega) v139 y138 y141 _ _ _ (fun k_ => some k_ ≠ (v149 : Value).ownBlock ∧ k_ ≠ gb127) (fun _ => False) rfl rfl ?aO ?aR (fun _ _ h => h) (fun _ h => h.elim) ?aF ?aB ?aS ?aL ?_
                  (case aR => exact qC (Kd.C_below HR144.out HB.out))
                  (case aB => exact (by repeat first | (with_reducible first | exact HB.out | apply bA | apply bN | apply bD | refine bS ?_ GE127.out) | exact HB.out))
                  (case aF => exact (fun k_ hk => ⟨Kd.fresh' (Kd.R_lt (qR HO150)) k_ hk, Kd.freshB (qK BK127) k_ hk⟩))
                  (case aO => exact (by (with_reducible repeat first | apply rA | apply rN | apply rD); exact Kd.R_mono HO140.out (fun _ hk => ⟨hk.2, hk.1.2⟩)))
                  (case aS => exact (below_size (by repeat first | (with_reducible first | exact HB.out | apply bA | apply bN | apply bD | refine bS ?_ GE127.out) | exact HB.out)))
                  (case aL => have := LMc23.out; omega)
                  intro v146 w35 ho hb hg hat
                  rw [← Ny145.out] at ho
                  have n0_ := Aside0.mk (blk_grown (qK BK127) hg (Kd.R_away HO140.out (fun _ hk => hk.1.2)))
                  have n1_ := Aside0.mk (Kd.R_after (ok := (fun k_ => k_ ≠ gb127)) (by (with_reducible repeat first | apply rA | apply rN | apply rD); exact Kd.R_mono HO150.out (fun _ hk => ⟨hk.2, hk.1.2⟩)) hg hat)
                  have n2_ := Aside0.mk (hb)
                  have n3_ := Aside0.mk (ho)
                  clear BK127
                  clear HO150
                  clear HB
                  clear HO140
                  have BK127 := n0_
                  have HO150 := n1_
                  have HB := n2_
                  have HO147 := n3_
                  clear n0_ n1_ n2_ n3_
                  clear ho hb hg hat
                  refine hK.out _ _ ⟨cC BK127 0, cC BK127 1⟩ (fun hHeld => ?_)
                  clear hK K
                  refine norm_ (a' := ?_) ?_ ?_
                  rotate_left
                  ·show Act.put _ (some 46) _ = _
                   simp only [Act.put, sA, sZ, sS, i64_w]
                   rfl
                  exact norm_ (by simp only [putAll, Act.put, sA, sZ, sS]) (hCont (v139, v146, v149) _ ⟨hHeld, (qR HO147), (by (with_reducible repeat first | apply rA | apply rN | apply rD); exact Kd.R_mono HO150.out (fun _ hk => ⟨hk.2, hk.1⟩)), (qK BK127), (by repeat first | (with_reducible first | exact HB.out | apply bA | apply bN | apply bD | refine bS ?_ GE127.out) | exact HB.out)⟩)
                ·skip
                 refine Kd.R_lit_step k62 _ 62 ?hg (N := 48) ?hd (xs := ([(⟨a1_0, a1_1⟩ : S62)] : List (S62))) (inner := [.int .i64 a1_0, .int .i64 a1_1]) (ok := fun _ => True) (okp := fun _ => True) ?hr ?hp (fun _ hk => hk) trivial (Below.refl _ _) (Nat.le_refl _) (by simp) ?_; (case hd => rfl); (case hg => rfl); (case hr => first | (go_simp; done) | (go_simp; rfl)); (case hp => exact (Reps.c2 (show Kd.M k62 _ _ _ (⟨a1_0, a1_1⟩ : S62) [.int .i64 a1_0, .int .i64 a1_1] from (k62_mkM _ _ _ (⟨a1_0, a1_1⟩ : S62) )) (Reps.none _ _)))
                 intro v149 w31 ho32 hb hg_ hnew_
                 clear hg_ hnew_
                 (first | rw [← Ny148.out] at ho32 | (simp only [Int.reduceToNat] at ho32; rw [← Ny148.out] at ho32))
                 have n0_ := Aside0.mk (Kd.R_lower (Kd.R_newB ho32 (qK BK127)) (below_size (by repeat first | (with_reducible first | exact HB.out | apply bA | apply bN | apply bD | refine bS ?_ GE127.out) | exact HB.out)))
                 have n1_ := Aside0.mk (blk_below (qK BK127) hb)
                 have n2_ := Aside0.mk (below_step (by repeat first | (with_reducible first | exact HB.out | apply bA | apply bN | apply bD | refine bS ?_ GE127.out) | exact HB.out) hb)
                 clear BK127
                 clear HB
                 have HO150 := n0_
                 have BK127 := n1_
                 have HB := n2_
                 clear n0_ n1_ n2_
                 clear hb ho32
                 refine hK.out _ _ ⟨cC BK127 0, cC BK127 1⟩ (fun hHeld => ?_)
                 clear hK K
                 refine norm_ (a' := ?_) ?_ ?_
                 rotate_left
                 ·show Act.put _ (some 48) _ = _
                  simp only [Act.put, sA, sZ, sS, i64_w]
                  rfl
                 refine one_ (i := 0) (N := some 42) (bR [4, 1, 2, 1, 1, 2]) rfl rfl (one_of HT_.out (by kernel_rfl)) (by decide) (fun K hK => ?_)
                 refine Kd.R_lit_step k62 _ 62 ?hg (N := 42) ?hd (xs := ([] : List (S62))) (inner := []) (ok := fun _ => True) (okp := fun _ => True) ?hr ?hp (fun _ hk => hk) trivial (Below.refl _ _) (Nat.le_refl _) (by simp) ?_; (case hd => rfl); (case hg => rfl); (case hr => first | (go_simp; done) | (go_simp; rfl)); (case hp => exact (Reps.none _ _))
                 intro v139 w33 ho34 hb hg_ hnew_
                 clear hg_ hnew_
                 (first | rw [← Ny138.out] at ho34 | (simp only [Int.reduceToNat] at ho34; rw [← Ny138.out] at ho34))
                 have n0_ := Aside0.mk (Kd.R_elder' (qR HO150) (Kd.R_base ho34) hb)
                 have n1_ := Aside0.mk (Kd.R_lower (Kd.R_newB (Kd.R_new' ho34 (Kd.R_lt (qR HO150))) (qK BK127)) (below_size (by repeat first | (with_reducible first | exact HB.out | apply bA | apply bN | apply bD | refine bS ?_ GE127.out) | exact HB.out)))
                 have n2_ := Aside0.mk (blk_below (qK BK127) hb)
                 have n3_ := Aside0.mk (below_step (by repeat first | (with_reducible first | exact HB.out | apply bA | apply bN | apply bD | refine bS ?_ GE127.out) | exact HB.out) hb)
                 clear HO150
                 clear BK127
                 clear HB
                 have HO150 := n0_
                 have HO140 := n1_
                 have BK127 := n2_
                 have HB := n3_
                 clear n0_ n1_ n2_ n3_
                 clear hb ho34
                 refine hK.out _ _ ⟨cC BK127 0, cC BK127 1⟩ (fun hHeld => ?_)
                 clear hK K
                 refine norm_ (a' := ?_) ?_ ?_
                 rotate_left
                 ·show Act.put _ (some 42) _ = _
                  simp only [Act.put, sA, sZ, sS, i64_w]
                  rfl
                 refine one_ (i := 4) (N := some 46) (bR [7, 1, 1, 2]) rfl rfl (one_of HT_.out (by kernel_rfl)) (by decide) (fun K hK => ?_)
                 refine Kd.R_append_rows_step k62 (w0 := w) w.heap.size (by rfl) (.tmp 42) (.tmp 45) 29 62 (.agg #[(.int .i64 0), (.int .i64 0)]) 16 rfl Try.underlying29 info62 rfl (by decide) (by omega) v139 y138 y141 _ _ _ (fun k_ => some k_ ≠ (v149 : Value).ownBlock ∧ k_ ≠ gb127) (fun _ => False) rfl rfl ?aO ?aR (fun _ _ h => h) (fun _ h => h.elim) ?aF ?aB ?aS ?aL ?_
                 (case aR => exact qC (Kd.C_below HR144.out HB.out))
                 (case aB => exact (by repeat first | (with_reducible first | exact HB.out | apply bA | apply bN | apply bD | refine bS ?_ GE127.out) | exact HB.out))
                 (case aF => exact (fun k_ hk => ⟨Kd.fresh' (Kd.R_lt (qR HO150)) k_ hk, Kd.freshB (qK BK127) k_ hk⟩))
                 (case aO => exact (by (with_reducible repeat first | apply rA | apply rN | apply rD); exact Kd.R_mono HO140.out (fun _ hk => ⟨hk.1.2, hk.2⟩)))
                 (case aS => exact (below_size (by repeat first | (with_reducible first | exact HB.out | apply bA | apply bN | apply bD | refine bS ?_ GE127.out) | exact HB.out)))
                 (case aL => have := LMc23.out; omega)
                 intro v146 w35 ho hb hg hat
                 rw [← Ny145.out] at ho
                 have n0_ := Aside0.mk (blk_grown (qK BK127) hg (Kd.R_away HO140.out (fun _ hk => hk.2)))
                 have n1_ := Aside0.mk (Kd.R_after (ok := (fun k_ => k_ ≠ gb127)) (by (with_reducible repeat first | apply rA | apply rN | apply rD); exact Kd.R_mono HO150.out (fun _ hk => ⟨hk.1.2, hk.2⟩)) hg hat)
                 have n2_ := Aside0.mk (hb)
                 have n3_ := Aside0.mk (ho)
                 clear BK127
                 clear HO150
                 clear HB
                 clear HO140
                 have BK127 := n0_
                 have HO150 := n1_
                 have HB := n2_
                 have HO147 := n3_
                 clear n0_ n1_ n2_ n3_
                 clear ho hb hg hat
                 refine hK.out _ _ ⟨cC BK127 0, cC BK127 1⟩ (fun hHeld => ?_)
                 clear hK K
                 refine norm_ (a' := ?_) ?_ ?_
                 rotate_left
                 ·show Act.put _ (some 46) _ = _
                  simp only [Act.put, sA, sZ, sS, i64_w]
                  rfl
                 exact norm_ (by simp only [putAll, Act.put, sA, sZ, sS]) (hCont (v139, v146, v149) _ ⟨hHeld, (qR HO147), (by (with_reducible repeat first | apply rA | apply rN | apply rD); exact Kd.R_mono HO150.out (fun _ hk => ⟨hk.2, hk.1⟩)), (qK BK127), (by repeat first | (with_reducible first | exact HB.out | apply bA | apply bN | apply bD | refine bS ?_ GE127.out) | exact HB.out)⟩)
               rintro ⟨v139, v146, v149⟩ w36 ⟨hS_, h0_, h1_, h2_, h3_⟩
               have n0_ : Aside0 (Kd.R k62 62 w36 w.heap.size (fun k_ => some k_ ≠ (v149 : Value).ownBlock ∧ k_ ≠ gb127) v146 y145) := ⟨h0_⟩
               have n1_ : Aside0 (Kd.R k62 62 w36 w.heap.size (fun k_ => some k_ ≠ (v146 : Value).ownBlock ∧ k_ ≠ gb127) v149 y148) := ⟨h1_⟩
               have n2_ : Aside0 (w36.heap[gb127]? = some (.cells #[.int .i64 a1_0, .int .i64 a1_1] 62 (0, 0))) := ⟨h2_⟩
               have n3_ : Aside0 (Below w.heap.size w w36) := ⟨h3_⟩
               clear BK127
               clear HB
               clear h0_ h1_ h2_ h3_
               have HO147 := n0_
               have HO150 := n1_
               have BK127 := n2_
               have HB := n3_
               clear n0_ n1_ n2_ n3_
               have hHeld : w36.cell? ⟨gb127, 0, none⟩ = some (.int .i64 a1_0) ∧ w36.cell? ⟨gb127, 1, none⟩ = some (.int .i64 a1_1) := hS_
               obtain ⟨Ao38, co38, eo38⟩ := Kd.R_slice HO150.out
               (first | subst eo38 | (injection eo38 with f1_ f2_ f3_; have f4_ := f1_.symm; have f5_ := f3_.symm; clear f1_ f2_ f3_; subst f4_; subst f5_))
               refine norm_ (a' := ?_) ?_ ?_
               rotate_left; (simp only [putAll, Act.put, sA, sZ, sS]; rfl)
               refine one_ (i := 7) (N := some 49) (bR [9, 2]) rfl rfl (one_of HT_.out (by kernel_rfl)) (by decide) (fun K hK => ?_)
               refine Kd.R_append_rows_step k62 (w0 := w) w.heap.size (by rfl) (.tmp 46) (.tmp 48) 29 62 (.agg #[(.int .i64 0), (.int .i64 0)]) 16 rfl Try.underlying29 info62 rfl (by decide) (by omega) v146 y145 y148 _ _ _ (fun k_ => some k_ ≠ (.slice Ao38 y148.length co38 : Value).ownBlock ∧ k_ ≠ gb127) (fun _ => False) rfl rfl ?aO ?aR (fun _ _ h => h) (fun _ h => h.elim) ?aF ?aB ?aS ?aL ?_
               (case aR => repeat (first | exact (Kd.R_reads' HO150.out).2.2 | (with_reducible refine Kd.C_alloc ?_ _) | (with_reducible refine Kd.C_drewN ?_ _) | (with_reducible refine Kd.C_drew ?_)))
               (case aB => exact (by repeat first | (with_reducible first | exact HB.out | apply bA | apply bN | apply bD | refine bS ?_ GE127.out) | exact HB.out))
               (case aF => exact (fun k_ hk => ⟨Kd.fresh' (Kd.R_lt (qR HO150)) k_ hk, Kd.freshB (qK BK127) k_ hk⟩))
               (case aO => exact (qR HO147))
               (case aS => exact (below_size (by repeat first | (with_reducible first | exact HB.out | apply bA | apply bN | apply bD | refine bS ?_ GE127.out) | exact HB.out)))
               (case aL => have := LMc24.out; omega)
               intro v152 w37 ho hb hg hat
               rw [← Ny151.out] at ho
               have n0_ := Aside0.mk (blk_grown (qK BK127) hg (Kd.R_away HO147.out (fun _ hk => hk.2)))
               have n1_ := Aside0.mk (Kd.R_after (ok := (fun k_ => k_ ≠ gb127)) (by (with_reducible repeat first | apply rA | apply rN | apply rD); exact Kd.R_mono HO150.out (fun _ hk => ⟨hk.2, hk.1⟩)) hg hat)
               have n2_ := Aside0.mk (hb)
               have n3_ := Aside0.mk (ho)
               clear BK127
               clear HO150
               clear HB
               clear HO147
               have BK127 := n0_
               have HO150 := n1_
               have HB := n2_
               have HO153 := n3_
               clear n0_ n1_ n2_ n3_
               clear ho hb hg hat
               refine hK.out _ _ ⟨cC BK127 0, cC BK127 1⟩ (fun hHeld => ?_)
               clear hK K
               refine norm_ (a' := ?_) ?_ ?_
               rotate_left
               ·show Act.put _ (some 49) _ = _
                simp only [Act.put, sA, sZ, sS, i64_w]
                rfl
               refine one_ (i := 9) (N := some 51) (bR [10, 1]) rfl rfl (one_of HT_.out (by kernel_rfl)) (by decide) (fun K hK => ?_)
               refine Kd.R_append_rows_step k62 (w0 := w) w.heap.size (by rfl) (.tmp 49) (.tmp 50) 29 62 (.agg #[(.int .i64 0), (.int .i64 0)]) 16 rfl Try.underlying29 info62 rfl (by decide) (by omega) v152 y151 y134 _ _ _ (fun k_ => some k_ ≠ (.slice Ao38 y148.length co38 : Value).ownBlock ∧ k_ ≠ gb127) (fun _ => False) rfl rfl ?aO ?aR (fun _ _ h => h) (fun _ h => h.elim) ?aF ?aB ?aS ?aL ?_
               (case aR => exact qC (Kd.C_below HR137.out HB.out))
               (case aB => exact (by repeat first | (with_reducible first | exact HB.out | apply bA | apply bN | apply bD | refine bS ?_ GE127.out) | exact HB.out))
               (case aF => exact (fun k_ hk => ⟨Kd.fresh' (Kd.R_lt (qR HO150)) k_ hk, Kd.freshB (qK BK127) k_ hk⟩))
               (case aO => exact (qR HO153))
               (case aS => exact (below_size (by repeat first | (with_reducible first | exact HB.out | apply bA | apply bN | apply bD | refine bS ?_ GE127.out) | exact HB.out)))
               (case aL => have := LMc25.out; omega)
               intro v155 w39 ho hb hg hat
               rw [← Ny154.out] at ho
               have n0_ := Aside0.mk (blk_grown (qK BK127) hg (Kd.R_away HO153.out (fun _ hk => hk.2)))
               have n1_ := Aside0.mk (Kd.R_after (ok := (fun k_ => k_ ≠ gb127)) (qR HO150) hg hat)
               have n2_ := Aside0.mk (hb)
               have n3_ := Aside0.mk (ho)
               clear BK127
               clear HO150
               clear HB
               clear HO153
               have BK127 := n0_
               have HO150 := n1_
               have HB := n2_
               have HO156 := n3_
               clear n0_ n1_ n2_ n3_
               clear ho hb hg hat
               refine hK.out _ _ ⟨cC BK127 0, cC BK127 1⟩ (fun hHeld => ?_)
               clear hK K
               refine norm_ (a' := ?_) ?_ ?_
               rotate_left
               ·show Act.put _ (some 51) _ = _
                simp only [Act.put, sA, sZ, sS, i64_w]
                rfl
               refine pP 10 8 (bR [11]) rfl rfl HT_ ?_
               refine done_ (done_of HT_.out (by kernel_rfl)) ?_
               obtain ⟨Ao40, co40, eo40⟩ := Kd.R_slice HO156.out
               subst eo40
               try go_wp2_with (first | ((with_reducible refine gate_callee (f := 194) rfl ?_); refine goesL_ (some 53) rfl rfl Try.func194 (by kernel_rfl) rfl #[.slice Ao40 y154.length co40] rfl (by (try simp only [mA, mC, mN]); first | done | rfl | (simp only [lD, lT]; rfl)) ?_; (with_reducible refine (spec_AreMarks.calls kj12 _ _ y154 true _ ?side1 ?side2 A26.out).mono ?_); (case side1 => repeat (first | exact (Kd.R_reads' HO156.out).2.2 | (with_reducible refine Kd.C_alloc ?_ _) | (with_reducible refine Kd.C_drewN ?_ _) | (with_reducible refine Kd.C_drew ?_))); (case side2 => exact (Kd.R_reads' HO156.out).2.1); rintro e w41 ⟨rfl, hb⟩; refine ⟨_, rfl, ?_⟩; have n0_ := Aside0.mk (Kd.R_below (qR HO150) hb); have n1_ := Aside0.mk (Kd.R_below (qR HO156) hb); have n2_ := Aside0.mk (blk_below (qK BK127) hb); have n3_ := Aside0.mk (below_step (by repeat first | (with_reducible first | exact HB.out | apply bA | apply bN | apply bD | refine bS ?_ GE127.out) | exact HB.out) hb); clear HO150; clear HO156; clear BK127; clear HB; have HO150 := n0_; have HO156 := n1_; have BK127 := n2_; have HB := n3_; clear n0_ n1_ n2_ n3_; (try clear hb); (try clear hb2); (try clear hk); (try clear hi)))
               go_ret2
               exact ⟨_, by first | rfl | (simp [errW_none, errW_some] <;> rfl) | (simp [*, errW_none, errW_some] <;> rfl), by (with_reducible repeat first | apply rA | apply rN | apply rD); exact Kd.R_mono HO156.out (fun _ hk => trivial), by repeat (first | (with_reducible first | exact HB.out | apply bA | apply bN | apply bD | refine bS ?_ GE127.out) | exact HB.out)⟩
              ·replace c27 := Bool.eq_false_iff.mpr c27
               subst c27
               have H1 : ((some (([] : List (S62)) : List (S62))).bind fun y158 => (if y158.length + l0.length < 8796093022208 then (some ((y158 ++ l0), false)) else (none))) = some (r1, r2) := by rw [if_neg (show ¬ (false = true) by decide)] at H; exact H
               clear H
               have H := H1
               clear H1
               obtain ⟨y158, hy158⟩ : ∃ y_ : List (S62), y_ = (([] : List (S62))) := ⟨_, rfl⟩
               replace H : (if y158.length + l0.length < 8796093022208 then (some ((y158 ++ l0), false)) else (none)) = some (r1, r2) := by first | (rw [hy158]; with_reducible exact H) | (have H2_ := (Option.bind_some _ _).symm.trans H; rw [hy158]; with_reducible exact H2_) | (have H2_ := (Option.bind_some _ _).symm.trans H; with_reducible exact H2_) | with_reducible exact H | (rw [hy158]; exact H) | exact H
               have Ny158 := Aside0.mk hy158
               clear hy158
               by_cases c42 : y158.length + l0.length < 8796093022208
               ·rw [if_pos c42] at H
                have LMc42 := Aside0.mk c42
                clear c42
                obtain ⟨y161, hy161⟩ : ∃ y_ : List (S62), y_ = (y158 ++ l0) := ⟨_, rfl⟩
                replace H : (some (y161, false)) = some (r1, r2) := by first | (rw [hy161]; with_reducible exact H) | (have H2_ := (Option.bind_some _ _).symm.trans H; rw [hy161]; with_reducible exact H2_) | (have H2_ := (Option.bind_some _ _).symm.trans H; with_reducible exact H2_) | with_reducible exact H | (rw [hy161]; exact H) | exact H
                have Ny161 := Aside0.mk hy161
                clear hy161
                simp only [Option.some.injEq, Prod.mk.injEq] at H
                obtain ⟨rfl, rfl⟩ := H
                have q43 : (1 : Int) ≤ ((y129.length : Int) : Int) := of_decide_eq_true ‹_›
                obtain ⟨i043, hi043, _, hsz43, _⟩ := info_parts info62
                have hroom43 : y129.length ≤ c14 := HC132.out
                have hC43 : Kd.C k62 _ A14 y129.length y129 := HR132.out
                have hcut43 := cut_from (P := Try.prog) 29 62 .i64 Try.underlying29 hi043 2 hsz43 A14 y129.length c14 1 (by omega) q43
                have hr43 := Kd.C_drop (m := (1 : Int).toNat) (c := c14) hC43 (by omega) hroom43
                obtain ⟨A43, hA43⟩ : ∃ A1, A1 = (if c14 = (1 : Int).toNat then A14 else (A14 : Option Addr).map (·.add ((1 : Int).toNat * 2))) := ⟨_, rfl⟩
                obtain ⟨c43, hc43⟩ : ∃ c1, c1 = c14 - (1 : Int).toNat := ⟨_, rfl⟩
                have hy43 : y134.length = y129.length - (1 : Int).toNat := (by rw [Ny134.out, List.length_drop] <;> omega)
                rw [show (y129).drop (1 : Int).toNat = y134 from Ny134.out.symm] at hr43
                replace hr43 : Kd.C k62 _ A43 y134.length y134 := (by rw [hA43]; exact hr43)
                rw [← hy43, ← hA43, ← hc43] at hcut43
                have HR137 := Aside0.mk hr43
                have HC137 := Aside0.mk (show y134.length ≤ c43 from by rw [hy43, hc43]; exact Nat.sub_le_sub_right hroom43 _)
                clear hr43 hC43 hroom43 hi043 hsz43 hc43
                have KY43 := Aside0.mk hy43
                have KA43 := Aside0.mk hA43
                clear hy43 hA43
                replace q43 := eq_true q43
                try go_wp2
                have n0_ := Aside0.mk (blk_drew BK127.out)
                have n1_ := Aside0.mk (below_drew1 HB.out)
                clear BK127
                clear HB
                have BK127 := n0_
                have HB := n1_
                clear n0_ n1_
                have q45 : (x6_2 : Int) ≤ ((l0.length : Int) : Int) := of_decide_eq_true ‹_›
                obtain ⟨i045, hi045, _, hsz45, _⟩ := info_parts info62
                have hroom45 : l0.length ≤ c0 := HC0.out
                have hC45 : Kd.C k62 _ A0 l0.length l0 := HR0.out
                have hcut45 := cut_to (P := Try.prog) 29 62 .i64 Try.underlying29 hi045 A0 l0.length c0 x6_2 (of_decide_eq_true ‹_›) q45 hroom45
                have hr45 := Kd.C_take (m := (x6_2 : Int).toNat) hC45 (by omega)
                have hy45 : y141.length = (x6_2 : Int).toNat := (by rw [Ny141.out, List.length_take]; omega)
                rw [← Ny141.out] at hr45
                rw [← hy45] at hcut45
                have HR144 := Aside0.mk hr45
                have HC144 := Aside0.mk (show y141.length ≤ c0 from by omega)
                clear hr45 hC45 hroom45 hi045 hsz45
                have KY45 := Aside0.mk hy45
                clear hy45
                replace q45 := eq_true q45
                refine start_ (n := 11) (S := fun w' => w'.cell? ⟨gb127, 0, none⟩ = some (.int .i64 a1_0) ∧ w'.cell? ⟨gb127, 1, none⟩ = some (.int .i64 a1_1)) (ds := []) (bR [0, 11]) (by kernel_rfl) rfl rfl ⟨cC BK127 0, cC BK127 1⟩ (fun hHeld => ?_); refine with_tabW spec_PutMark.tab7 spec_PutMark.bits7 (fun HT_ HW_ => ?_)
                generalize wc.drew = w44 at BK127 HB HR144 hHeld ⊢
                refine pP 1 43 (bR [0, 1, 1, 9]) rfl rfl HT_ ?_
                refine pP 2 44 (bR [0, 1, 2, 8]) rfl rfl HT_ ?_
                refine pP 3 45 (bR [0, 1, 3, 7]) rfl rfl HT_ ?_
                refine pP 8 50 (bR [0, 1, 3, 4, 1, 2]) rfl rfl HT_ ?_
                refine take_ (i := 5) (N := some 47) (v := ?_) (a' := ?_) (bR [0, 1, 3, 1, 1, 2, 1, 2]) rfl rfl (take_ofW HT_.out HW_.out (by kernel_rfl)) (fun _ _ _ h => h) (Or.inl ⟨by rfl, ?_⟩) hHeld ?_ ?_
                rotate_left; (rintro w' ⟨s0, s1⟩; go_simp; with_reducible rfl); rotate_left; (simp only [Act.put, sA, sZ, sS, i64_w]; rfl)
                refine join_ (σ := Value × Value × Value) 3 (bR [7, 1, 1, 2]) (fun s_ => [(42, s_.1), (46, s_.2.1), (48, s_.2.2)]) (fun s_ w' => (w'.cell? ⟨gb127, 0, none⟩ = some (.int .i64 a1_0) ∧ w'.cell? ⟨gb127, 1, none⟩ = some (.int .i64 a1_1)) ∧ (Kd.R k62 62 w' w.heap.size (fun k_ => some k_ ≠ (s_.2.2 : Value).ownBlock ∧ k_ ≠ gb127) s_.2.1 y145) ∧ (Kd.R k62 62 w' w.heap.size (fun k_ => some k_ ≠ (s_.2.1 : Value).ownBlock ∧ k_ ≠ gb127) s_.2.2 y148) ∧ (w'.heap[gb127]? = some (.cells #[.int .i64 a1_0, .int .i64 a1_1] 62 (0, 0))) ∧ (Below w.heap.size w w')) ?_ ?_
                rotate_left
                ·intro hCont
                 refine two_ (i := 0) (j := 6) (Ni := some 42) (Nj := some 48) (bR [4, 1, 1, 2, 1, 2]) (bR [0, 1, 3, 1, 2, 1, 1, 2]) rfl rfl rfl rfl (two_of HT_.out (by kernel_rfl)) (by decide) (by decide) (fun K hK => ?_) (fun K hK => ?_)
                 ·skip
                  refine Kd.R_lit_step k62 _ 62 ?hg (N := 42) ?hd (xs := ([] : List (S62))) (inner := []) (ok := fun _ => True) (okp := fun _ => True) ?hr ?hp (fun _ hk => hk) trivial (Below.refl _ _) (Nat.le_refl _) (by simp) ?_; (case hd => rfl); (case hg => rfl); (case hr => first | (go_simp; done) | (go_simp; rfl)); (case hp => exact (Reps.none _ _))
                  intro v139 w46 ho47 hb hg_ hnew_
                  clear hg_ hnew_
                  (first | rw [← Ny138.out] at ho47 | (simp only [Int.reduceToNat] at ho47; rw [← Ny138.out] at ho47))
                  have n0_ := Aside0.mk (Kd.R_lower (Kd.R_newB ho47 (qK BK127)) (below_size (by repeat first | (with_reducible first | exact HB.out | apply bA | apply bN | apply bD | refine bS ?_ GE127.out) | exact HB.out)))
                  have n1_ := Aside0.mk (blk_below (qK BK127) hb)
                  have n2_ := Aside0.mk (below_step (by repeat first | (with_reducible first | exact HB.out | apply bA | apply bN | apply bD | refine bS ?_ GE127.out) | exact HB.out) hb)
                  clear BK127
                  clear HB
                  have HO140 := n0_
                  have BK127 := n1_
                  have HB := n2_
                  clear n0_ n1_ n2_
                  clear hb ho47
                  refine hK.out _ _ ⟨cC BK127 0, cC BK127 1⟩ (fun hHeld => ?_)
                  clear hK K
                  refine norm_ (a' := ?_) ?_ ?_
                  rotate_left
                  ·show Act.put _ (some 42) _ = _
                   simp only [Act.put, sA, sZ, sS, i64_w]
                   rfl
                  refine two_ (i := 4) (j := 6) (Ni := some 46) (Nj := some 48) (bR [6, 2, 1, 2]) (bR [4, 1, 2, 1, 1, 2]) rfl rfl rfl rfl (two_of HT_.out (by kernel_rfl)) (by decide) (by decide) (fun K hK => ?_) (fun K hK => ?_)
                  ·skip
                   refine Kd.R_append_rows_step k62 (w0 := w) w.heap.size (by rfl) (.tmp 42) (.tmp 45) 29 62 (.agg #[(.int .i64 0), (.int .i64 0)]) 16 rfl Try.underlying29 info62 rfl (by decide) (by omega) v139 y138 y141 _ _ _ (fun k_ => k_ ≠ gb127) (fun _ => False) rfl rfl ?aO ?aR (fun _ _ h => h) (fun _ h => h.elim) ?aF ?aB ?aS ?aL ?_
                   (case aR => exact qC (Kd.C_below HR144.out HB.out))
                   (case aB => exact (by repeat first | (with_reducible first | exact HB.out | apply bA | apply bN | apply bD | refine bS ?_ GE127.out) | exact HB.out))
                   (case aF => exact (fun k_ hk => Kd.freshB (qK BK127) k_ hk))
                   (case aO => exact (by (with_reducible repeat first | apply rA | apply rN | apply rD); exact Kd.R_mono HO140.out (fun _ hk => hk.2)))
                   (case aS => exact (below_size (by repeat first | (with_reducible first | exact HB.out | apply bA | apply bN | apply bD | refine bS ?_ GE127.out) | exact HB.out)))
                   (case aL => have := LMc23.out; omega)
                   intro v146 w48 ho hb hg hat
                   rw [← Ny145.out] at ho
                   have n0_ := Aside0.mk (blk_grown (qK BK127) hg (Kd.R_away HO140.out (fun _ hk => hk.2)))
                   have n1_ := Aside0.mk (hb)
                   have n2_ := Aside0.mk (ho)
                   clear BK127
                   clear HB
                   clear HO140
                   have BK127 := n0_
                   have HB := n1_
                   have HO147 := n2_
                   clear n0_ n1_ n2_
                   clear ho hb hg hat
                   refine hK.out _ _ ⟨cC BK127 0, cC BK127 1⟩ (fun hHeld => ?_)
                   clear hK K
                   refine norm_ (a' := ?_) ?_ ?_
                   rotate_left
                   ·show Act.put _ (some 46) _ = _
                    simp only [Act.put, sA, sZ, sS, i64_w]
                    rfl
                   refine one_ (i := 6) (N := some 48) (bR [7, 1, 1, 2]) rfl rfl (one_of HT_.out (by kernel_rfl)) (by decide) (fun K hK => ?_)
                   refine Kd.R_lit_step k62 _ 62 ?hg (N := 48) ?hd (xs := ([(⟨a1_0, a1_1⟩ : S62)] : List (S62))) (inner := [.int .i64 a1_0, .int .i64 a1_1]) (ok := fun _ => True) (okp := fun _ => True) ?hr ?hp (fun _ hk => hk) trivial (Below.refl _ _) (Nat.le_refl _) (by simp) ?_; (case hd => rfl); (case hg => rfl); (case hr => first | (go_simp; done) | (go_simp; rfl)); (case hp => exact (Reps.c2 (show Kd.M k62 _ _ _ (⟨a1_0, a1_1⟩ : S62) [.int .i64 a1_0, .int .i64 a1_1] from (k62_mkM _ _ _ (⟨a1_0, a1_1⟩ : S62) )) (Reps.none _ _)))
                   intro v149 w49 ho50 hb hg_ hnew_
                   clear hg_ hnew_
                   (first | rw [← Ny148.out] at ho50 | (simp only [Int.reduceToNat] at ho50; rw [← Ny148.out] at ho50))
                   have n0_ := Aside0.mk (Kd.R_elder' (qR HO147) (Kd.R_base ho50) hb)
                   have n1_ := Aside0.mk (Kd.R_lower (Kd.R_newB (Kd.R_new' ho50 (Kd.R_lt (qR HO147))) (qK BK127)) (below_size (by repeat first | (with_reducible first | exact HB.out | apply bA | apply bN | apply bD | refine bS ?_ GE127.out) | exact HB.out)))
                   have n2_ := Aside0.mk (blk_below (qK BK127) hb)
                   have n3_ := Aside0.mk (below_step (by repeat first | (with_reducible first | exact HB.out | apply bA | apply bN | apply bD | refine bS ?_ GE127.out) | exact HB.out) hb)
                   clear HO147
                   clear BK127
                   clear HB
                   have HO147 := n0_
                   have HO150 := n1_
                   have BK127 := n2_
                   have HB := n3_
                   clear n0_ n1_ n2_ n3_
                   clear hb ho50
                   refine hK.out _ _ ⟨cC BK127 0, cC BK127 1⟩ (fun hHeld => ?_)
                   clear hK K
                   refine norm_ (a' := ?_) ?_ ?_
                   rotate_left
                   ·show Act.put _ (some 48) _ = _
                    simp only [Act.put, sA, sZ, sS, i64_w]
                    rfl
                   exact norm_ (by simp only [putAll, Act.put, sA, sZ, sS]) (hCont (v139, v146, v149) _ ⟨hHeld, (by (with_reducible repeat first | apply rA | apply rN | apply rD); exact Kd.R_mono HO147.out (fun _ hk => ⟨hk.2, hk.1⟩)), (by (with_reducible repeat first | apply rA | apply rN | apply rD); exact Kd.R_mono HO150.out (fun _ hk => ⟨hk.1.2, hk.2⟩)), (qK BK127), (by repeat first | (with_reducible first | exact HB.out | apply bA | apply bN | apply bD | refine bS ?_ GE127.out) | exact HB.out)⟩)
                  ·skip
                   refine Kd.R_lit_step k62 _ 62 ?hg (N := 48) ?hd (xs := ([(⟨a1_0, a1_1⟩ : S62)] : List (S62))) (inner := [.int .i64 a1_0, .int .i64 a1_1]) (ok := fun _ => True) (okp := fun _ => True) ?hr ?hp (fun _ hk => hk) trivial (Below.refl _ _) (Nat.le_refl _) (by simp) ?_; (case hd => rfl); (case hg => rfl); (case hr => first | (go_simp; done) | (go_simp; rfl)); (case hp => exact (Reps.c2 (show Kd.M k62 _ _ _ (⟨a1_0, a1_1⟩ : S62) [.int .i64 a1_0, .int .i64 a1_1] from (k62_mkM _ _ _ (⟨a1_0, a1_1⟩ : S62) )) (Reps.none _ _)))
                   intro v149 w48 ho49 hb hg_ hnew_
                   clear hg_ hnew_
                   (first | rw [← Ny148.out] at ho49 | (simp only [Int.reduceToNat] at ho49; rw [← Ny148.out] at ho49))
                   have n0_ := Aside0.mk (Kd.R_elder' (qR HO140) (Kd.R_base ho49) hb)
                   have n1_ := Aside0.mk (Kd.R_lower (Kd.R_newB (Kd.R_new' ho49 (Kd.R_lt (qR HO140))) (qK BK127)) (below_size (by repeat first | (with_reducible first | exact HB.out | apply bA | apply bN | apply bD | refine bS ?_ GE127.out) | exact HB.out)))
                   have n2_ := Aside0.mk (blk_below (qK BK127) hb)
                   have n3_ := Aside0.mk (below_step (by repeat first | (with_reducible first | exact HB.out | apply bA | apply bN | apply bD | refine bS ?_ GE127.out) | exact HB.out) hb)
                   clear HO140
                   clear BK127
                   clear HB
                   have HO140 := n0_
                   have HO150 := n1_
                   have BK127 := n2_
                   have HB := n3_
                   clear n0_ n1_ n2_ n3_
                   clear hb ho49
                   refine hK.out _ _ ⟨cC BK127 0, cC BK127 1⟩ (fun hHeld => ?_)
                   clear hK K
                   refine norm_ (a' := ?_) ?_ ?_
                   rotate_left
                   ·show Act.put _ (some 48) _ = _
                    simp only [Act.put, sA, sZ, sS, i64_w]
                    rfl
                   refine one_ (i := 4) (N := some 46) (bR [7, 1, 1, 2]) rfl rfl (one_of HT_.out (by kernel_rfl)) (by decide) (fun K hK => ?_)
                   refine Kd.R_append_rows_step k62 (w0 := w) w.heap.size (by rfl) (.tmp 42) (.tmp 45) 29 62 (.agg #[(.int .i64 0), (.int .i64 0)]) 16 rfl Try.underlying29 info62 rfl (by decide) (by omega) v139 y138 y141 _ _ _ (fun k_ => some k_ ≠ (v149 : Value).ownBlock ∧ k_ ≠ gb127) (fun _ => False) rfl rfl ?aO ?aR (fun _ _ h => h) (fun _ h => h.elim) ?aF ?aB ?aS ?aL ?_
                   (case aR => exact qC (Kd.C_below HR144.out HB.out))
                   (case aB => exact (by repeat first | (with_reducible first | exact HB.out | apply bA | apply bN | apply bD | refine bS ?_ GE127.out) | exact HB.out))
                   (case aF => exact (fun k_ hk => ⟨Kd.fresh' (Kd.R_lt (qR HO150)) k_ hk, Kd.freshB (qK BK127) k_ hk⟩))
                   (case aO => exact (by (with_reducible repeat first | apply rA | apply rN | apply rD); exact Kd.R_mono HO140.out (fun _ hk => ⟨hk.2, hk.1.2⟩)))
                   (case aS => exact (below_size (by repeat first | (with_reducible first | exact HB.out | apply bA | apply bN | apply bD | refine bS ?_ GE127.out) | exact HB.out)))
                   (case aL => have := LMc23.out; omega)
                   intro v146 w50 ho hb hg hat
                   rw [← Ny145.out] at ho
                   have n0_ := Aside0.mk (blk_grown (qK BK127) hg (Kd.R_away HO140.out (fun _ hk => hk.1.2)))
                   have n1_ := Aside0.mk (Kd.R_after (ok := (fun k_ => k_ ≠ gb127)) (by (with_reducible repeat first | apply rA | apply rN | apply rD); exact Kd.R_mono HO150.out (fun _ hk => ⟨hk.2, hk.1.2⟩)) hg hat)
                   have n2_ := Aside0.mk (hb)
                   have n3_ := Aside0.mk (ho)
                   clear BK127
                   clear HO150
                   clear HB
                   clear HO140
                   have BK127 := n0_
                   have HO150 := n1_
                   have HB := n2_
                   have HO147 := n3_
                   clear n0_ n1_ n2_ n3_
                   clear ho hb hg hat
                   refine hK.out _ _ ⟨cC BK127 0, cC BK127 1⟩ (fun hHeld => ?_)
                   clear hK K
                   refine norm_ (a' := ?_) ?_ ?_
                   rotate_left
                   ·show Act.put _ (some 46) _ = _
                    simp only [Act.put, sA, sZ, sS, i64_w]
                    rfl
                   exact norm_ (by simp only [putAll, Act.put, sA, sZ, sS]) (hCont (v139, v146, v149) _ ⟨hHeld, (qR HO147), (by (with_reducible repeat first | apply rA | apply rN | apply rD); exact Kd.R_mono HO150.out (fun _ hk => ⟨hk.2, hk.1⟩)), (qK BK127), (by repeat first | (with_reducible first | exact HB.out | apply bA | apply bN | apply bD | refine bS ?_ GE127.out) | exact HB.out)⟩)
                 ·skip
                  refine Kd.R_lit_step k62 _ 62 ?hg (N := 48) ?hd (xs := ([(⟨a1_0, a1_1⟩ : S62)] : List (S62))) (inner := [.int .i64 a1_0, .int .i64 a1_1]) (ok := fun _ => True) (okp := fun _ => True) ?hr ?hp (fun _ hk => hk) trivial (Below.refl _ _) (Nat.le_refl _) (by simp) ?_; (case hd => rfl); (case hg => rfl); (case hr => first | (go_simp; done) | (go_simp; rfl)); (case hp => exact (Reps.c2 (show Kd.M k62 _ _ _ (⟨a1_0, a1_1⟩ : S62) [.int .i64 a1_0, .int .i64 a1_1] from (k62_mkM _ _ _ (⟨a1_0, a1_1⟩ : S62) )) (Reps.none _ _)))
                  intro v149 w46 ho47 hb hg_ hnew_
                  clear hg_ hnew_
                  (first | rw [← Ny148.out] at ho47 | (simp only [Int.reduceToNat] at ho47; rw [← Ny148.out] at ho47))
                  have n0_ := Aside0.mk (Kd.R_lower (Kd.R_newB ho47 (qK BK127)) (below_size (by repeat first | (with_reducible first | exact HB.out | apply bA | apply bN | apply bD | refine bS ?_ GE127.out) | exact HB.out)))
                  have n1_ := Aside0.mk (blk_below (qK BK127) hb)
                  have n2_ := Aside0.mk (below_step (by repeat first | (with_reducible first | exact HB.out | apply bA | apply bN | apply bD | refine bS ?_ GE127.out) | exact HB.out) hb)
                  clear BK127
                  clear HB
                  have HO150 := n0_
                  have BK127 := n1_
                  have HB := n2_
                  clear n0_ n1_ n2_
                  clear hb ho47
                  refine hK.out _ _ ⟨cC BK127 0, cC BK127 1⟩ (fun hHeld => ?_)
                  clear hK K
                  refine norm_ (a' := ?_) ?_ ?_
                  rotate_left
                  ·show Act.put _ (some 48) _ = _
                   simp only [Act.put, sA, sZ, sS, i64_w]
                   rfl
                  refine one_ (i := 0) (N := some 42) (bR [4, 1, 2, 1, 1, 2]) rfl rfl (one_of HT_.out (by kernel_rfl)) (by decide) (fun K hK => ?_)
                  refine Kd.R_lit_step k62 _ 62 ?hg (N := 42) ?hd (xs := ([] : List (S62))) (inner := []) (ok := fun _ => True) (okp := fun _ => True) ?hr ?hp (fun _ hk => hk) trivial (Below.refl _ _) (Nat.le_refl _) (by simp) ?_; (case hd => rfl); (case hg => rfl); (case hr => first | (go_simp; done) | (go_simp; rfl)); (case hp => exact (Reps.none _ _))
                  intro v139 w48 ho49 hb hg_ hnew_
                  clear hg_ hnew_
                  (first | rw [← Ny138.out] at ho49 | (simp only [Int.reduceToNat] at ho49; rw [← Ny138.out] at ho49))
                  have n0_ := Aside0.mk (Kd.R_elder' (qR HO150) (Kd.R_base ho49) hb)
                  have n1_ := Aside0.mk (Kd.R_lower (Kd.R_newB (Kd.R_new' ho49 (Kd.R_lt (qR HO150))) (qK BK127)) (below_size (by repeat first | (with_reducible first | exact HB.out | apply bA | apply bN | apply bD | refine bS ?_ GE127.out) | exact HB.out)))
                  have n2_ := Aside0.mk (blk_below (qK BK127) hb)
                  have n3_ := Aside0.mk (below_step (by repeat first | (with_reducible first | exact HB.out | apply bA | apply bN | apply bD | refine bS ?_ GE127.out) | exact HB.out) hb)
                  clear HO150
                  clear BK127
                  clear HB
                  have HO150 := n0_
                  have HO140 := n1_
                  have BK127 := n2_
                  have HB := n3_
                  clear n0_ n1_ n2_ n3_
                  clear hb ho49
                  refine hK.out _ _ ⟨cC BK127 0, cC BK127 1⟩ (fun hHeld => ?_)
                  clear hK K
                  refine norm_ (a' := ?_) ?_ ?_
                  rotate_left
                  ·show Act.put _ (some 42) _ = _
                   simp only [Act.put, sA, sZ, sS, i64_w]
                   rfl
                  refine one_ (i := 4) (N := some 46) (bR [7, 1, 1, 2]) rfl rfl (one_of HT_.out (by kernel_rfl)) (by decide) (fun K hK => ?_)
                  refine Kd.R_append_rows_step k62 (w0 := w) w.heap.size (by rfl) (.tmp 42) (.tmp 45) 29 62 (.agg #[(.int .i64 0), (.int .i64 0)]) 16 rfl Try.underlying29 info62 rfl (by decide) (by omega) v139 y138 y141 _ _ _ (fun k_ => some k_ ≠ (v149 : Value).ownBlock ∧ k_ ≠ gb127) (fun _ => False) rfl rfl ?aO ?aR (fun _ _ h => h) (fun _ h => h.elim) ?aF ?aB ?aS ?aL ?_
                  (case aR => exact qC (Kd.C_below HR144.out HB.out))
                  (case aB => exact (by repeat first | (with_reducible first | exact HB.out | apply bA | apply bN | apply bD | refine bS ?_ GE127.out) | exact HB.out))
                  (case aF => exact (fun k_ hk => ⟨Kd.fresh' (Kd.R_lt (qR HO150)) k_ hk, Kd.freshB (qK BK127) k_ hk⟩))
                  (case aO => exact (by (with_reducible repeat first | apply rA | apply rN | apply rD); exact Kd.R_mono HO140.out (fun _ hk => ⟨hk.1.2, hk.2⟩)))
                  (case aS => exact (below_size (by repeat first | (with_reducible first | exact HB.out | apply bA | apply bN | apply bD | refine bS ?_ GE127.out) | exact HB.out)))
                  (case aL => have := LMc23.out; omega)
                  intro v146 w50 ho hb hg hat
                  rw [← Ny145.out] at ho
                  have n0_ := Aside0.mk (blk_grown (qK BK127) hg (Kd.R_away HO140.out (fun _ hk => hk.2)))
                  have n1_ := Aside0.mk (Kd.R_after (ok := (fun k_ => k_ ≠ gb127)) (by (with_reducible repeat first | apply rA | apply rN | apply rD); exact Kd.R_mono HO150.out (fun _ hk => ⟨hk.1.2, hk.2⟩)) hg hat)
                  have n2_ := Aside0.mk (hb)
                  have n3_ := Aside0.mk (ho)
                  clear BK127
                  clear HO150
                  clear HB
                  clear HO140
                  have BK127 := n0_
                  have HO150 := n1_
                  have HB := n2_
                  have HO147 := n3_
                  clear n0_ n1_ n2_ n3_
                  clear ho hb hg hat
                  refine hK.out _ _ ⟨cC BK127 0, cC BK127 1⟩ (fun hHeld => ?_)
                  clear hK K
                  refine norm_ (a' := ?_) ?_ ?_
                  rotate_left
                  ·show Act.put _ (some 46) _ = _
                   simp only [Act.put, sA, sZ, sS, i64_w]
                   rfl
                  exact norm_ (by simp only [putAll, Act.put, sA, sZ, sS]) (hCont (v139, v146, v149) _ ⟨hHeld, (qR HO147), (by (with_reducible repeat first | apply rA | apply rN | apply rD); exact Kd.R_mono HO150.out (fun _ hk => ⟨hk.2, hk.1⟩)), (qK BK127), (by repeat first | (with_reducible first | exact HB.out | apply bA | apply bN | apply bD | refine bS ?_ GE127.out) | exact HB.out)⟩)
                rintro ⟨v139, v146, v149⟩ w51 ⟨hS_, h0_, h1_, h2_, h3_⟩
                have n0_ : Aside0 (Kd.R k62 62 w51 w.heap.size (fun k_ => some k_ ≠ (v149 : Value).ownBlock ∧ k_ ≠ gb127) v146 y145) := ⟨h0_⟩
                have n1_ : Aside0 (Kd.R k62 62 w51 w.heap.size (fun k_ => some k_ ≠ (v146 : Value).ownBlock ∧ k_ ≠ gb127) v149 y148) := ⟨h1_⟩
                have n2_ : Aside0 (w51.heap[gb127]? = some (.cells #[.int .i64 a1_0, .int .i64 a1_1] 62 (0, 0))) := ⟨h2_⟩
                have n3_ : Aside0 (Below w.heap.size w w51) := ⟨h3_⟩
                clear BK127
                clear HB
                clear h0_ h1_ h2_ h3_
                have HO147 := n0_
                have HO150 := n1_
                have BK127 := n2_
                have HB := n3_
                clear n0_ n1_ n2_ n3_
                have hHeld : w51.cell? ⟨gb127, 0, none⟩ = some (.int .i64 a1_0) ∧ w51.cell? ⟨gb127, 1, none⟩ = some (.int .i64 a1_1) := hS_
                obtain ⟨Ao53, co53, eo53⟩ := Kd.R_slice HO150.out
                (first | subst eo53 | (injection eo53 with f1_ f2_ f3_; have f4_ := f1_.symm; have f5_ := f3_.symm; clear f1_ f2_ f3_; subst f4_; subst f5_))
                refine norm_ (a' := ?_) ?_ ?_
                rotate_left; (simp only [putAll, Act.put, sA, sZ, sS]; rfl)
                refine one_ (i := 7) (N := some 49) (bR [9, 2]) rfl rfl (one_of HT_.out (by kernel_rfl)) (by decide) (fun K hK => ?_)
                refine Kd.R_append_rows_step k62 (w0 := w) w.heap.size (by rfl) (.tmp 46) (.tmp 48) 29 62 (.agg #[(.int .i64 0), (.int .i64 0)]) 16 rfl Try.underlying29 info62 rfl (by decide) (by omega) v146 y145 y148 _ _ _ (fun k_ => some k_ ≠ (.slice Ao53 y148.length co53 : Value).ownBlock ∧ k_ ≠ gb127) (fun _ => False) rfl rfl ?aO ?aR (fun _ _ h => h) (fun _ h => h.elim) ?aF ?aB ?aS ?aL ?_
                (case aR => repeat (first | exact (Kd.R_reads' HO150.out).2.2 | (with_reducible refine Kd.C_alloc ?_ _) | (with_reducible refine Kd.C_drewN ?_ _) | (with_reducible refine Kd.C_drew ?_)))
                (case aB => exact (by repeat first | (with_reducible first | exact HB.out | apply bA | apply bN | apply bD | refine bS ?_ GE127.out) | exact HB.out))
                (case aF => exact (fun k_ hk => ⟨Kd.fresh' (Kd.R_lt (qR HO150)) k_ hk, Kd.freshB (qK BK127) k_ hk⟩))
                (case aO => exact (qR HO147))
                (case aS => exact (below_size (by repeat first | (with_reducible first | exact HB.out | apply bA | apply bN | apply bD | refine bS ?_ GE127.out) | exact HB.out)))
                (case aL => have := LMc24.out; omega)
                intro v152 w52 ho hb hg hat
                rw [← Ny151.out] at ho
                have n0_ := Aside0.mk (blk_grown (qK BK127) hg (Kd.R_away HO147.out (fun _ hk => hk.2)))
                have n1_ := Aside0.mk (Kd.R_after (ok := (fun k_ => k_ ≠ gb127)) (by (with_reducible repeat first | apply rA | apply rN | apply rD); exact Kd.R_mono HO150.out (fun _ hk => ⟨hk.2, hk.1⟩)) hg hat)
                have n2_ := Aside0.mk (hb)
                have n3_ := Aside0.mk (ho)
                clear BK127
                clear HO150
                clear HB
                clear HO147
                have BK127 := n0_
                have HO150 := n1_
                have HB := n2_
                have HO153 := n3_
                clear n0_ n1_ n2_ n3_
                clear ho hb hg hat
                refine hK.out _ _ ⟨cC BK127 0, cC BK127 1⟩ (fun hHeld => ?_)
                clear hK K
                refine norm_ (a' := ?_) ?_ ?_
                rotate_left
                ·show Act.put _ (some 49) _ = _
                 simp only [Act.put, sA, sZ, sS, i64_w]
                 rfl
                refine one_ (i := 9) (N := some 51) (bR [10, 1]) rfl rfl (one_of HT_.out (by kernel_rfl)) (by decide) (fun K hK => ?_)
                refine Kd.R_append_rows_step k62 (w0 := w) w.heap.size (by rfl) (.tmp 49) (.tmp 50) 29 62 (.agg #[(.int .i64 0), (.int .i64 0)]) 16 rfl Try.underlying29 info62 rfl (by decide) (by omega) v152 y151 y134 _ _ _ (fun k_ => some k_ ≠ (.slice Ao53 y148.length co53 : Value).ownBlock ∧ k_ ≠ gb127) (fun _ => False) rfl rfl ?aO ?aR (fun _ _ h => h) (fun _ h => h.elim) ?aF ?aB ?aS ?aL ?_
                (case aR => exact qC (Kd.C_below HR137.out HB.out))
                (case aB => exact (by repeat first | (with_reducible first | exact HB.out | apply bA | apply bN | apply bD | refine bS ?_ GE127.out) | exact HB.out))
                (case aF => exact (fun k_ hk => ⟨Kd.fresh' (Kd.R_lt (qR HO150)) k_ hk, Kd.freshB (qK BK127) k_ hk⟩))
                (case aO => exact (qR HO153))
                (case aS => exact (below_size (by repeat first | (with_reducible first | exact HB.out | apply bA | apply bN | apply bD | refine bS ?_ GE127.out) | exact HB.out)))
                (case aL => have := LMc25.out; omega)
                intro v155 w54 ho hb hg hat
                rw [← Ny154.out] at ho
                have n0_ := Aside0.mk (blk_grown (qK BK127) hg (Kd.R_away HO153.out (fun _ hk => hk.2)))
                have n1_ := Aside0.mk (Kd.R_after (ok := (fun k_ => k_ ≠ gb127)) (qR HO150) hg hat)
                have n2_ := Aside0.mk (hb)
                have n3_ := Aside0.mk (ho)
                clear BK127
                clear HO150
                clear HB
                clear HO153
                have BK127 := n0_
                have HO150 := n1_
                have HB := n2_
                have HO156 := n3_
                clear n0_ n1_ n2_ n3_
                clear ho hb hg hat
                refine hK.out _ _ ⟨cC BK127 0, cC BK127 1⟩ (fun hHeld => ?_)
                clear hK K
                refine norm_ (a' := ?_) ?_ ?_
                rotate_left
                ·show Act.put _ (some 51) _ = _
                 simp only [Act.put, sA, sZ, sS, i64_w]
                 rfl
                refine pP 10 8 (bR [11]) rfl rfl HT_ ?_
                refine done_ (done_of HT_.out (by kernel_rfl)) ?_
                obtain ⟨Ao55, co55, eo55⟩ := Kd.R_slice HO156.out
                subst eo55
                try go_wp2_with (first | ((with_reducible refine gate_callee (f := 194) rfl ?_); refine goesL_ (some 53) rfl rfl Try.func194 (by kernel_rfl) rfl #[.slice Ao55 y154.length co55] rfl (by (try simp only [mA, mC, mN]); first | done | rfl | (simp only [lD, lT]; rfl)) ?_; (with_reducible refine (spec_AreMarks.calls kj12 _ _ y154 false _ ?side1 ?side2 A26.out).mono ?_); (case side1 => repeat (first | exact (Kd.R_reads' HO156.out).2.2 | (with_reducible refine Kd.C_alloc ?_ _) | (with_reducible refine Kd.C_drewN ?_ _) | (with_reducible refine Kd.C_drew ?_))); (case side2 => exact (Kd.R_reads' HO156.out).2.1); rintro e w56 ⟨rfl, hb⟩; refine ⟨_, rfl, ?_⟩; have n0_ := Aside0.mk (Kd.R_below (qR HO150) hb); have n1_ := Aside0.mk (Kd.R_below (qR HO156) hb); have n2_ := Aside0.mk (blk_below (qK BK127) hb); have n3_ := Aside0.mk (below_step (by repeat first | (with_reducible first | exact HB.out | apply bA | apply bN | apply bD | refine bS ?_ GE127.out) | exact HB.out) hb); clear HO150; clear HO156; clear BK127; clear HB; have HO150 := n0_; have HO156 := n1_; have BK127 := n2_; have HB := n3_; clear n0_ n1_ n2_ n3_; (try clear hb); (try clear hb2); (try clear hk); (try clear hi)) | ((with_reducible refine gate_dst (N := 55) rfl ?_); refine Kd.R_lit k62 _ 62 ?hg (N := 55) ?hd (xs := ([] : List (S62))) (inner := []) (ok := fun _ => True) (okp := fun _ => True) ?hr ?hp (fun _ hk => hk) trivial (Below.refl _ _) (Nat.le_refl _) (by simp) ?_; (case hd => rfl); (case hg => rfl); (case hr => first | (go_simp; done) | (go_simp; rfl)); (case hp => exact (Reps.none _ _)); intro v159 w57 ho58 hb hg_ hnew_; clear hg_ hnew_; (first | rw [← Ny158.out] at ho58 | (simp only [Int.reduceToNat] at ho58; rw [← Ny158.out] at ho58)); have n0_ := Aside0.mk (Kd.R_elder' (qR HO150) (Kd.R_base ho58) hb); have n1_ := Aside0.mk (Kd.R_elder' (qR HO156) (Kd.R_base ho58) hb); have n2_ := Aside0.mk (Kd.R_lower (Kd.R_newB (Kd.R_new' (Kd.R_new' ho58 (Kd.R_lt (qR HO150))) (Kd.R_lt (qR HO156))) (qK BK127)) (below_size (by repeat first | (with_reducible first | exact HB.out | apply bA | apply bN | apply bD | refine bS ?_ GE127.out) | exact HB.out))); have n3_ := Aside0.mk (blk_below (qK BK127) hb); have n4_ := Aside0.mk (below_step (by repeat first | (with_reducible first | exact HB.out | apply bA | apply bN | apply bD | refine bS ?_ GE127.out) | exact HB.out) hb); clear HO150; clear HO156; clear BK127; clear HB; have HO150 := n0_; have HO156 := n1_; have HO160 := n2_; have BK127 := n3_; have HB := n4_; clear n0_ n1_ n2_ n3_ n4_; clear hb ho58) | ((with_reducible refine gate_builtin (b := .append) (xs := #[.tmp 55, .tmp 56]) rfl ?_); at_builtin; refine Kd.R_append_rows k62 (w0 := w) w.heap.size rfl (.tmp 55) (.tmp 56) 29 62 (.agg #[(.int .i64 0), (.int .i64 0)]) 16 rfl Try.underlying29 info62 rfl (by decide) (by omega) v159 y158 l0 _ _ _ (fun k_ => some k_ ≠ (.slice Ao53 y148.length co53 : Value).ownBlock ∧ some k_ ≠ (.slice Ao55 y154.length co55 : Value).ownBlock ∧ k_ ≠ gb127) (fun _ => False) rfl rfl ?aO ?aR (fun _ _ h => h) (fun _ h => h.elim) ?aF ?aB ?aS ?aL ?_; (case aR => exact qC (Kd.C_below HR0.out HB.out)); (case aB => exact (by repeat first | (with_reducible first | exact HB.out | apply bA | apply bN | apply bD | refine bS ?_ GE127.out) | exact HB.out)); (case aF => exact (fun k_ hk => ⟨Kd.fresh' (Kd.R_lt (qR HO150)) k_ hk, Kd.fresh' (Kd.R_lt (qR HO156)) k_ hk, Kd.freshB (qK BK127) k_ hk⟩)); (case aO => exact (by (with_reducible repeat first | apply rA | apply rN | apply rD); exact Kd.R_mono HO160.out (fun _ hk => ⟨hk.1.1.2, ⟨hk.1.2, hk.2⟩⟩))); (case aS => exact (below_size (by repeat first | (with_reducible first | exact HB.out | apply bA | apply bN | apply bD | refine bS ?_ GE127.out) | exact HB.out))); (case aL => have := LMc42.out; omega); intro v162 w59 ho hb hg hat; rw [← Ny161.out] at ho; have n0_ := Aside0.mk (blk_grown (qK BK127) hg (Kd.R_away HO160.out (fun _ hk => hk.2))); have n1_ := Aside0.mk (Kd.R_after (ok := (fun k_ => some k_ ≠ (.slice Ao55 y154.length co55 : Value).ownBlock ∧ k_ ≠ gb127)) (by (with_reducible repeat first | apply rA | apply rN | apply rD); exact Kd.R_mono HO150.out (fun _ hk => ⟨⟨hk.1.2, hk.1.1⟩, hk.2⟩)) hg hat); have n2_ := Aside0.mk (Kd.R_after (ok := (fun k_ => some k_ ≠ (.slice Ao53 y148.length co53 : Value).ownBlock ∧ k_ ≠ gb127)) (qR HO156) hg hat); have n3_ := Aside0.mk (hb); have n4_ := Aside0.mk (ho); clear BK127; clear HO150; clear HO156; clear HB; clear HO160; have BK127 := n0_; have HO150 := n1_; have HO156 := n2_; have HB := n3_; have HO163 := n4_; clear n0_ n1_ n2_ n3_ n4_; clear ho hb hg hat))
                go_ret2
                exact ⟨_, by first | rfl | (simp [errW_none, errW_some] <;> rfl) | (simp [*, errW_none, errW_some] <;> rfl), by (with_reducible repeat first | apply rA | apply rN | apply rD); exact Kd.R_mono HO163.out (fun _ hk => trivial), by repeat (first | (with_reducible first | exact HB.out | apply bA | apply bN | apply bD | refine bS ?_ GE127.out) | exact HB.out)⟩
               ·rw [if_neg c42] at H
                exact absurd H (by simp)
             ·rw [if_neg c25] at H
              exact absurd H (by simp)
            ·rw [if_neg c24] at H
             exact absurd H (by simp)
           ·rw [if_neg c23] at H
            exact absurd H (by simp)
          ·rw [if_neg c22] at H
           exact absurd H (by simp)
         ·rw [if_neg c21] at H
          exact absurd H (by simp)
        ·rw [if_neg c20] at H
         exact absurd H (by simp)
       ·replace c19 := Bool.eq_false_iff.mpr c19
        subst c19
        have H1 : ((some (([] : List (S62)) : List (S62))).bind fun y164 => (if 0 ≤ x6_2 then (if x6_2 ≤ (l0.length : Int) then ((some (l0.take (x6_2 : Int).toNat : List (S62))).bind fun y167 => (if y164.length + y167.length < 8796093022208 then ((some (y164 ++ y167 : List (S62))).bind fun y171 => ((some (([(⟨a1_0, a1_1⟩ : S62)] : List (S62)) : List (S62))).bind fun y174 => (if y171.length + y174.length < 8796093022208 then ((some (y171 ++ y174 : List (S62))).bind fun y177 => (if y177.length + y129.length < 8796093022208 then ((some (y177 ++ y129 : List (S62))).bind fun y180 => ((spec_AreMarks.f kj12 y180).bind fun t183 => (if t183 = true then (some (y180, true)) else ((some (([] : List (S62)) : List (S62))).bind fun y184 => (if y184.length + l0.length < 8796093022208 then (some ((y184 ++ l0), false)) else (none)))))) else (none))) else (none)))) else (none))) else (none)) else (none))) = some (r1, r2) := by rw [if_neg (show ¬ (false = true) by decide)] at H; exact H
        clear H
        have H := H1
        clear H1
        obtain ⟨y164, hy164⟩ : ∃ y_ : List (S62), y_ = (([] : List (S62))) := ⟨_, rfl⟩
        replace H : (if 0 ≤ x6_2 then (if x6_2 ≤ (l0.length : Int) then ((some (l0.take (x6_2 : Int).toNat : List (S62))).bind fun y167 => (if y164.length + y167.length < 8796093022208 then ((some (y164 ++ y167 : List (S62))).bind fun y171 => ((some (([(⟨a1_0, a1_1⟩ : S62)] : List (S62)) : List (S62))).bind fun y174 => (if y171.length + y174.length < 8796093022208 then ((some (y171 ++ y174 : List (S62))).bind fun y177 => (if y177.length + y129.length < 8796093022208 then ((some (y177 ++ y129 : List (S62))).bind fun y180 => ((spec_AreMarks.f kj12 y180).bind fun t183 => (if t183 = true then (some (y180, true)) else ((some (([] : List (S62)) : List (S62))).bind fun y184 => (if y184.length + l0.length < 8796093022208 then (some ((y184 ++ l0), false)) else (none)))))) else (none))) else (none)))) else (none))) else (none)) else (none)) = some (r1, r2) := by first | (rw [hy164]; with_reducible exact H) | (have H2_ := (Option.bind_some _ _).symm.trans H; rw [hy164]; with_reducible exact H2_) | (have H2_ := (Option.bind_some _ _).symm.trans H; with_reducible exact H2_) | with_reducible exact H | (rw [hy164]; exact H) | exact H
        have Ny164 := Aside0.mk hy164
        clear hy164
        by_cases c60 : 0 ≤ x6_2
        ·rw [if_pos c60] at H
         have c60b0 := eq_true c60
         have c60b1 : decide (0 ≤ x6_2) = true := decide_eq_true c60
         clear c60
         by_cases c61 : x6_2 ≤ (l0.length : Int)
         ·rw [if_pos c61] at H
          have c61b0 := eq_true c61
          have c61b1 : decide (x6_2 ≤ (l0.length : Int)) = true := decide_eq_true c61
          clear c61
          obtain ⟨y167, hy167⟩ : ∃ y_ : List (S62), y_ = (l0.take (x6_2 : Int).toNat) := ⟨_, rfl⟩
          replace H : (if y164.length + y167.length < 8796093022208 then ((some (y164 ++ y167 : List (S62))).bind fun y171 => ((some (([(⟨a1_0, a1_1⟩ : S62)] : List (S62)) : List (S62))).bind fun y174 => (if y171.length + y174.length < 8796093022208 then ((some (y171 ++ y174 : List (S62))).bind fun y177 => (if y177.length + y129.length < 8796093022208 then ((some (y177 ++ y129 : List (S62))).bind fun y180 => ((spec_AreMarks.f kj12 y180).bind fun t183 => (if t183 = true then (some (y180, true)) else ((some (([] : List (S62)) : List (S62))).bind fun y184 => (if y184.length + l0.length < 8796093022208 then (some ((y184 ++ l0), false)) else (none)))))) else (none))) else (none)))) else (none)) = some (r1, r2) := by first | (rw [hy167]; with_reducible exact H) | (have H2_ := (Option.bind_some _ _).symm.trans H; rw [hy167]; with_reducible exact H2_) | (have H2_ := (Option.bind_some _ _).symm.trans H; with_reducible exact H2_) | with_reducible exact H | (rw [hy167]; exact H) | exact H
          have Ny167 := Aside0.mk hy167
          clear hy167
          by_cases c62 : y164.length + y167.length < 8796093022208
          ·rw [if_pos c62] at H
           have LMc62 := Aside0.mk c62
           clear c62
           obtain ⟨y171, hy171⟩ : ∃ y_ : List (S62), y_ = (y164 ++ y167) := ⟨_, rfl⟩
           replace H : ((some (([(⟨a1_0, a1_1⟩ : S62)] : List (S62)) : List (S62))).bind fun y174 => (if y171.length + y174.length < 8796093022208 then ((some (y171 ++ y174 : List (S62))).bind fun y177 => (if y177.length + y129.length < 8796093022208 then ((some (y177 ++ y129 : List (S62))).bind fun y180 => ((spec_AreMarks.f kj12 y180).bind fun t183 => (if t183 = true then (some (y180, true)) else ((some (([] : List (S62)) : List (S62))).bind fun y184 => (if y184.length + l0.length < 8796093022208 then (some ((y184 ++ l0), false)) else (none)))))) else (none))) else (none))) = some (r1, r2) := by first | (rw [hy171]; with_reducible exact H) | (have H2_ := (Option.bind_some _ _).symm.trans H; rw [hy171]; with_reducible exact H2_) | (have H2_ := (Option.bind_some _ _).symm.trans H; with_reducible exact H2_) | with_reducible exact H | (rw [hy171]; exact H) | exact H
           have Ny171 := Aside0.mk hy171
           clear hy171
           obtain ⟨y174, hy174⟩ : ∃ y_ : List (S62), y_ = (([(⟨a1_0, a1_1⟩ : S62)] : List (S62))) := ⟨_, rfl⟩
           replace H : (if y171.length + y174.length < 8796093022208 then ((some (y171 ++ y174 : List (S62))).bind fun y177 => (if y177.length + y129.length < 8796093022208 then ((some (y177 ++ y129 : List (S62))).bind fun y180 => ((spec_AreMarks.f kj12 y180).bind fun t183 => (if t183 = true then (some (y180, true)) else ((some (([] : List (S62)) : List (S62))).bind fun y184 => (if y184.length + l0.length < 8796093022208 then (some ((y184 ++ l0), false)) else (none)))))) else (none))) else (none)) = some (r1, r2) := by first | (rw [hy174]; with_reducible exact H) | (have H2_ := (Option.bind_some _ _).symm.trans H; rw [hy174]; with_reducible exact H2_) | (have H2_ := (Option.bind_some _ _).symm.trans H; with_reducible exact H2_) | with_reducible exact H | (rw [hy174]; exact H) | exact H
           have Ny174 := Aside0.mk hy174
           clear hy174
           by_cases c63 : y171.length + y174.length < 8796093022208
           ·rw [if_pos c63] at H
            have LMc63 := Aside0.mk c63
            clear c63
            obtain ⟨y177, hy177⟩ : ∃ y_ : List (S62), y_ = (y171 ++ y174) := ⟨_, rfl⟩
            replace H : (if y177.length + y129.length < 8796093022208 then ((some (y177 ++ y129 : List (S62))).bind fun y180 => ((spec_AreMarks.f kj12 y180).bind fun t183 => (if t183 = true then (some (y180, true)) else ((some (([] : List (S62)) : List (S62))).bind fun y184 => (if y184.length + l0.length < 8796093022208 then (some ((y184 ++ l0), false)) else (none)))))) else (none)) = some (r1, r2) := by first | (rw [hy177]; with_reducible exact H) | (have H2_ := (Option.bind_some _ _).symm.trans H; rw [hy177]; with_reducible exact H2_) | (have H2_ := (Option.bind_some _ _).symm.trans H; with_reducible exact H2_) | with_reducible exact H | (rw [hy177]; exact H) | exact H
            have Ny177 := Aside0.mk hy177
            clear hy177
            by_cases c64 : y177.length + y129.length < 8796093022208
            ·rw [if_pos c64] at H
             have LMc64 := Aside0.mk c64
             clear c64
             obtain ⟨y180, hy180⟩ : ∃ y_ : List (S62), y_ = (y177 ++ y129) := ⟨_, rfl⟩
             replace H : ((spec_AreMarks.f kj12 y180).bind fun t183 => (if t183 = true then (some (y180, true)) else ((some (([] : List (S62)) : List (S62))).bind fun y184 => (if y184.length + l0.length < 8796093022208 then (some ((y184 ++ l0), false)) else (none))))) = some (r1, r2) := by first | (rw [hy180]; with_reducible exact H) | (have H2_ := (Option.bind_some _ _).symm.trans H; rw [hy180]; with_reducible exact H2_) | (have H2_ := (Option.bind_some _ _).symm.trans H; with_reducible exact H2_) | with_reducible exact H | (rw [hy180]; exact H) | exact H
             have Ny180 := Aside0.mk hy180
             clear hy180
             replace H := Option.bind_eq_some_iff.mp H
             obtain ⟨t183, A650, H⟩ := H
             replace H : (if t183 = true then (some (y180, true)) else ((some (([] : List (S62)) : List (S62))).bind fun y184 => (if y184.length + l0.length < 8796093022208 then (some ((y184 ++ l0), false)) else (none)))) = some (r1, r2) := H
             have A65 := Aside0.mk A650
             clear A650
             by_cases c66 : t183 = true
             ·subst c66
              have H1 : (some (y180, true)) = some (r1, r2) := by rw [if_pos rfl] at H; exact H
              clear H
              have H := H1
              clear H1
              simp only [Option.some.injEq, Prod.mk.injEq] at H
              obtain ⟨rfl, rfl⟩ := H
              try go_wp2
              have n0_ := Aside0.mk (blk_drew BK127.out)
              have n1_ := Aside0.mk (below_drew1 HB.out)
              clear BK127
              clear HB
              have BK127 := n0_
              have HB := n1_
              clear n0_ n1_
              have q68 : (x6_2 : Int) ≤ ((l0.length : Int) : Int) := of_decide_eq_true ‹_›
              obtain ⟨i068, hi068, _, hsz68, _⟩ := info_parts info62
              have hroom68 : l0.length ≤ c0 := HC0.out
              have hC68 : Kd.C k62 _ A0 l0.length l0 := HR0.out
              have hcut68 := cut_to (P := Try.prog) 29 62 .i64 Try.underlying29 hi068 A0 l0.length c0 x6_2 (of_decide_eq_true ‹_›) q68 hroom68
              have hr68 := Kd.C_take (m := (x6_2 : Int).toNat) hC68 (by omega)
              have hy68 : y167.length = (x6_2 : Int).toNat := (by rw [Ny167.out, List.length_take]; omega)
              rw [← Ny167.out] at hr68
              rw [← hy68] at hcut68
              have HR170 := Aside0.mk hr68
              have HC170 := Aside0.mk (show y167.length ≤ c0 from by omega)
              clear hr68 hC68 hroom68 hi068 hsz68
              have KY68 := Aside0.mk hy68
              clear hy68
              replace q68 := eq_true q68
              refine start_ (n := 11) (S := fun w' => w'.cell? ⟨gb127, 0, none⟩ = some (.int .i64 a1_0) ∧ w'.cell? ⟨gb127, 1, none⟩ = some (.int .i64 a1_1)) (ds := []) (bR [0, 11]) (by kernel_rfl) rfl rfl ⟨cC BK127 0, cC BK127 1⟩ (fun hHeld => ?_); refine with_tabW spec_PutMark.tab7 spec_PutMark.bits7 (fun HT_ HW_ => ?_)
              generalize wc.drew = w67 at BK127 HB HR170 hHeld ⊢
              refine pP 1 43 (bR [0, 1, 1, 9]) rfl rfl HT_ ?_
              refine pP 2 44 (bR [0, 1, 2, 8]) rfl rfl HT_ ?_
              refine pP 3 45 (bR [0, 1, 3, 7]) rfl rfl HT_ ?_
              refine pP 8 50 (bR [0, 1, 3, 4, 1, 2]) rfl rfl HT_ ?_
              refine take_ (i := 5) (N := some 47) (v := ?_) (a' := ?_) (bR [0, 1, 3, 1, 1, 2, 1, 2]) rfl rfl (take_ofW HT_.out HW_.out (by kernel_rfl)) (fun _ _ _ h => h) (Or.inl ⟨by rfl, ?_⟩) hHeld ?_ ?_
              rotate_left; (rintro w' ⟨s0, s1⟩; go_simp; with_reducible rfl); rotate_left; (simp only [Act.put, sA, sZ, sS, i64_w]; rfl)
              refine join_ (σ := Value × Value × Value) 3 (bR [7, 1, 1, 2]) (fun s_ => [(42, s_.1), (46, s_.2.1), (48, s_.2.2)]) (fun s_ w' => (w'.cell? ⟨gb127, 0, none⟩ = some (.int .i64 a1_0) ∧ w'.cell? ⟨gb127, 1, none⟩ = some (.int .i64 a1_1)) ∧ (Kd.R k62 62 w' w.heap.size (fun k_ => some k_ ≠ (s_.2.2 : Value).ownBlock ∧ k_ ≠ gb127) s_.2.1 y171) ∧ (Kd.R k62 62 w' w.heap.size (fun k_ => some k_ ≠ (s_.2.1 : Value).ownBlock ∧ k_ ≠ gb127) s_.2.2 y174) ∧ (w'.heap[gb127]? = some (.cells #[.int .i64 a1_0, .int .i64 a1_1] 62 (0, 0))) ∧ (Below w.heap.size w w')) ?_ ?_
              rotate_left
              ·intro hCont
               refine two_ (i := 0) (j := 6) (Ni := some 42) (Nj := some 48) (bR [4, 1, 1, 2, 1, 2]) (bR [0, 1, 3, 1, 2, 1, 1, 2]) rfl rfl rfl rfl (two_of HT_.out (by kernel_rfl)) (by decide) (by decide) (fun K hK => ?_) (fun K hK => ?_)
               ·skip
                refine Kd.R_lit_step k62 _ 62 ?hg (N := 42) ?hd (xs := ([] : List (S62))) (inner := []) (ok := fun _ => True) (okp := fun _ => True) ?hr ?hp (fun _ hk => hk) trivial (Below.refl _ _) (Nat.le_refl _) (by simp) ?_; (case hd => rfl); (case hg => rfl); (case hr => first | (go_simp; done) | (go_simp; rfl)); (case hp => exact (Reps.none _ _))
                intro v165 w69 ho70 hb hg_ hnew_
                clear hg_ hnew_
                (first | rw [← Ny164.out] at ho70 | (simp only [Int.reduceToNat] at ho70; rw [← Ny164.out] at ho70))
                have n0_ := Aside0.mk (Kd.R_lower (Kd.R_newB ho70 (qK BK127)) (below_size (by repeat first | (with_reducible first | exact HB.out | apply bA | apply bN | apply bD | refine bS ?_ GE127.out) | exact HB.out)))
                have n1_ := Aside0.mk (blk_below (qK BK127) hb)
                have n2_ := Aside0.mk (below_step (by repeat first | (with_reducible first | exact HB.out | apply bA | apply bN | apply bD | refine bS ?_ GE127.out) | exact HB.out) hb)
                clear BK127
                clear HB
                have HO166 := n0_
                have BK127 := n1_
                have HB := n2_
                clear n0_ n1_ n2_
                clear hb ho70
                refine hK.out _ _ ⟨cC BK127 0, cC BK127 1⟩ (fun hHeld => ?_)
                clear hK K
                refine norm_ (a' := ?_) ?_ ?_
                rotate_left
                ·show Act.put _ (some 42) _ = _
                 simp only [Act.put, sA, sZ, sS, i64_w]
                 rfl
                refine two_ (i := 4) (j := 6) (Ni := some 46) (Nj := some 48) (bR [6, 2, 1, 2]) (bR [4, 1, 2, 1, 1, 2]) rfl rfl rfl rfl (two_of HT_.out (by kernel_rfl)) (by decide) (by decide) (fun K hK => ?_) (fun K hK => ?_)
                ·skip
                 refine Kd.R_append_rows_step k62 (w0 := w) w.heap.size (by rfl) (.tmp 42) (.tmp 45) 29 62 (.agg #[(.int .i64 0), (.int .i64 0)]) 16 rfl Try.underlying29 info62 rfl (by decide) (by omega) v165 y164 y167 _ _ _ (fun k_ => k_ ≠ gb127) (fun _ => False) rfl rfl ?aO ?aR (fun _ _ h => h) (fun _ h => h.elim) ?aF ?aB ?aS ?aL ?_
                 (case aR => exact qC (Kd.C_below HR170.out HB.out))
                 (case aB => exact (by repeat first | (with_reducible first | exact HB.out | apply bA | apply bN | apply bD | refine bS ?_ GE127.out) | exact HB.out))
                 (case aF => exact (fun k_ hk => Kd.freshB (qK BK127) k_ hk))
                 (case aO => exact (by (with_reducible repeat first | apply rA | apply rN | apply rD); exact Kd.R_mono HO166.out (fun _ hk => hk.2)))
                 (case aS => exact (below_size (by repeat first | (with_reducible first | exact HB.out | apply bA | apply bN | apply bD | refine bS ?_ GE127.out) | exact HB.out)))
                 (case aL => have := LMc62.out; omega)
                 intro v172 w71 ho hb hg hat
                 rw [← Ny171.out] at ho
                 have n0_ := Aside0.mk (blk_grown (qK BK127) hg (Kd.R_away HO166.out (fun _ hk => hk.2)))
                 have n1_ := Aside0.mk (hb)
                 have n2_ := Aside0.mk (ho)
                 clear BK127
                 clear HB
                 clear HO166
                 have BK127 := n0_
                 have HB := n1_
                 have HO173 := n2_
                 clear n0_ n1_ n2_
                 clear ho hb hg hat
                 refine hK.out _ _ ⟨cC BK127 0, cC BK127 1⟩ (fun hHeld => ?_)
                 clear hK K
                 refine norm_ (a' := ?_) ?_ ?_
                 rotate_left
                 ·show Act.put _ (some 46) _ = _
                  simp only [Act.put, sA, sZ, sS, i64_w]
                  rfl
                 refine one_ (i := 6) (N := some 48) (bR [7, 1, 1, 2]) rfl rfl (one_of HT_.out (by kernel_rfl)) (by decide) (fun K hK => ?_)
                 refine Kd.R_lit_step k62 _ 62 ?hg (N := 48) ?hd (xs := ([(⟨a1_0, a1_1⟩ : S62)] : List (S62))) (inner := [.int .i64 a1_0, .int .i64 a1_1]) (ok := fun _ => True) (okp := fun _ => True) ?hr ?hp (fun _ hk => hk) trivial (Below.refl _ _) (Nat.le_refl _) (by simp) ?_; (case hd => rfl); (case hg => rfl); (case hr => first | (go_simp; done) | (go_simp; rfl)); (case hp => exact (Reps.c2 (show Kd.M k62 _ _ _ (⟨a1_0, a1_1⟩ : S62) [.int .i64 a1_0, .int .i64 a1_1] from (k62_mkM _ _ _ (⟨a1_0, a1_1⟩ : S62) )) (Reps.none _ _)))
                 intro v175 w72 ho73 hb hg_ hnew_
                 clear hg_ hnew_
                 (first | rw [← Ny174.out] at ho73 | (simp only [Int.reduceToNat] at ho73; rw [← Ny174.out] at ho73))
                 have n0_ := Aside0.mk (Kd.R_elder' (qR HO173) (Kd.R_base ho73) hb)
                 have n1_ := Aside0.mk (Kd.R_lower (Kd.R_newB (Kd.R_new' ho73 (Kd.R_lt (qR HO173))) (qK BK127)) (below_size (by repeat first | (with_reducible first | exact HB.out | apply bA | apply bN | apply bD | refine bS ?_ GE127.out) | exact HB.out)))
                 have n2_ := Aside0.mk (blk_below (qK BK127) hb)
                 have n3_ := Aside0.mk (below_step (by repeat first | (with_reducible first | exact HB.out | apply bA | apply bN | apply bD | refine bS ?_ GE127.out) | exact HB.out) hb)
                 clear HO173
                 clear BK127
                 clear HB
                 have HO173 := n0_
                 have HO176 := n1_
                 have BK127 := n2_
                 have HB := n3_
                 clear n0_ n1_ n2_ n3_
                 clear hb ho73
                 refine hK.out _ _ ⟨cC BK127 0, cC BK127 1⟩ (fun hHeld => ?_)
                 clear hK K
                 refine norm_ (a' := ?_) ?_ ?_
                 rotate_left
                 ·show Act.put _ (some 48) _ = _
                  simp only [Act.put, sA, sZ, sS, i64_w]
                  rfl
                 exact norm_ (by simp only [putAll, Act.put, sA, sZ, sS]) (hCont (v165, v172, v175) _ ⟨hHeld, (by (with_reducible repeat first | apply rA | apply rN | apply rD); exact Kd.R_mono HO173.out (fun _ hk => ⟨hk.2, hk.1⟩)), (by (with_reducible repeat first | apply rA | apply rN | apply rD); exact Kd.R_mono HO176.out (fun _ hk => ⟨hk.1.2, hk.2⟩)), (qK BK127), (by repeat first | (with_reducible first | exact HB.out | apply bA | apply bN | apply bD | refine bS ?_ GE127.out) | exact HB.out)⟩)
                ·skip
                 refine Kd.R_lit_step k62 _ 62 ?hg (N := 48) ?hd (xs := ([(⟨a1_0, a1_1⟩ : S62)] : List (S62))) (inner := [.int .i64 a1_0, .int .i64 a1_1]) (ok := fun _ => True) (okp := fun _ => True) ?hr ?hp (fun _ hk => hk) trivial (Below.refl _ _) (Nat.le_refl _) (by simp) ?_; (case hd => rfl); (case hg => rfl); (case hr => first | (go_simp; done) | (go_simp; rfl)); (case hp => exact (Reps.c2 (show Kd.M k62 _ _ _ (⟨a1_0, a1_1⟩ : S62) [.int .i64 a1_0, .int .i64 a1_1] from (k62_mkM _ _ _ (⟨a1_0, a1_1⟩ : S62) )) (Reps.none _ _)))
                 intro v175 w71 ho72 hb hg_ hnew_
                 clear hg_ hnew_
                 (first | rw [← Ny174.out] at ho72 | (simp only [Int.reduceToNat] at ho72; rw [← Ny174.out] at ho72))
                 have n0_ := Aside0.mk (Kd.R_elder' (qR HO166) (Kd.R_base ho72) hb)
                 have n1_ := Aside0.mk (Kd.R_lower (Kd.R_newB (Kd.R_new' ho72 (Kd.R_lt (qR HO166))) (qK BK127)) (below_size (by repeat first | (with_reducible first | exact HB.out | apply bA | apply bN | apply bD | refine bS ?_ GE127.out) | exact HB.out)))
                 have n2_ := Aside0.mk (blk_below (qK BK127) hb)
                 have n3_ := Aside0.mk (below_step (by repeat first | (with_reducible first | exact HB.out | apply bA | apply bN | apply bD | refine bS ?_ GE127.out) | exact HB.out) hb)
                 clear HO166
                 clear BK127
                 clear HB
                 have HO166 := n0_
                 have HO176 := n1_
                 have BK127 := n2_
                 have HB := n3_
                 clear n0_ n1_ n2_ n3_
                 clear hb ho72
                 refine hK.out _ _ ⟨cC BK127 0, cC BK127 1⟩ (fun hHeld => ?_)
                 clear hK K
                 refine norm_ (a' := ?_) ?_ ?_
                 rotate_left
                 ·show Act.put _ (some 48) _ = _
                  simp only [Act.put, sA, sZ, sS, i64_w]
                  rfl
                 refine one_ (i := 4) (N := some 46) (bR [7, 1, 1, 2]) rfl rfl (one_of HT_.out (by kernel_rfl)) (by decide) (fun K hK => ?_)
                 refine Kd.R_append_rows_step k62 (w0 := w) w.heap.size (by rfl) (.tmp 42) (.tmp 45) 29 62 (.agg #[(.int .i64 0), (.int .i64 0)]) 16 rfl Try.underlying29 info62 rfl (by decide) (by omega) v165 y164 y167 _ _ _ (fun k_ => some k_ ≠ (v175 : Value).ownBlock ∧ k_ ≠ gb127) (fun _ => False) rfl rfl ?aO ?aR (fun _ _ h => h) (fun _ h => h.elim) ?aF ?aB ?aS ?aL ?_
                 (case aR => exact qC (Kd.C_below HR170.out HB.out))
                 (case aB => exact (by repeat first | (with_reducible first | exact HB.out | apply bA | apply bN | apply bD | refine bS ?_ GE127.out) | exact HB.out))
                 (case aF => exact (fun k_ hk => ⟨Kd.fresh' (Kd.R_lt (qR HO176)) k_ hk, Kd.freshB (qK BK127) k_ hk⟩))
                 (case aO => exact (by (with_reducible repeat first | apply rA | apply rN | apply rD); exact Kd.R_mono HO166.out (fun _ hk => ⟨hk.2, hk.1.2⟩)))
                 (case aS => exact (below_size (by repeat first | (with_reducible first | exact HB.out | apply bA | apply bN | apply bD | refine bS ?_ GE127.out) | exact HB.out)))
                 (case aL => have := LMc62.out; omega)
                 intro v172 w73 ho hb hg hat
                 rw [← Ny171.out] at ho
                 have n0_ := Aside0.mk (blk_grown (qK BK127) hg (Kd.R_away HO166.out (fun _ hk => hk.1.2)))
                 have n1_ := Aside0.mk (Kd.R_after (ok := (fun k_ => k_ ≠ gb127)) (by (with_reducible repeat first | apply rA | apply rN | apply rD); exact Kd.R_mono HO176.out (fun _ hk => ⟨hk.2, hk.1.2⟩)) hg hat)
                 have n2_ := Aside0.mk (hb)
                 have n3_ := Aside0.mk (ho)
                 clear BK127
                 clear HO176
                 clear HB
                 clear HO166
                 have BK127 := n0_
                 have HO176 := n1_
                 have HB := n2_
                 have HO173 := n3_
                 clear n0_ n1_ n2_ n3_
                 clear ho hb hg hat
                 refine hK.out _ _ ⟨cC BK127 0, cC BK127 1⟩ (fun hHeld => ?_)
                 clear hK K
                 refine norm_ (a' := ?_) ?_ ?_
                 rotate_left
                 ·show Act.put _ (some 46) _ = _
                  simp only [Act.put, sA, sZ, sS, i64_w]
                  rfl
                 exact norm_ (by simp only [putAll, Act.put, sA, sZ, sS]) (hCont (v165, v172, v175) _ ⟨hHeld, (qR HO173), (by (with_reducible repeat first | apply rA | apply rN | apply rD); exact Kd.R_mono HO176.out (fun _ hk => ⟨hk.2, hk.1⟩)), (qK BK127), (by repeat first | (with_reducible first | exact HB.out | apply bA | apply bN | apply bD | refine bS ?_ GE127.out) | exact HB.out)⟩)
               ·skip
                refine Kd.R_lit_step k62 _ 62 ?hg (N := 48) ?hd (xs := ([(⟨a1_0, a1_1⟩ : S62)] : List (S62))) (inner := [.int .i64 a1_0, .int .i64 a1_1]) (ok := fun _ => True) (okp := fun _ => True) ?hr ?hp (fun _ hk => hk) trivial (Below.refl _ _) (Nat.le_refl _) (by simp) ?_; (case hd => rfl); (case hg => rfl); (case hr => first | (go_simp; done) | (go_simp; rfl)); (case hp => exact (Reps.c2 (show Kd.M k62 _ _ _ (⟨a1_0, a1_1⟩ : S62) [.int .i64 a1_0, .int .i64 a1_1] from (k62_mkM _ _ _ (⟨a1_0, a1_1⟩ : S62) )) (Reps.none _ _)))
                intro v175 w69 ho70 hb hg_ hnew_
                clear hg_ hnew_
                (first | rw [← Ny174.out] at ho70 | (simp only [Int.reduceToNat] at ho70; rw [← Ny174.out] at ho70))
                have n0_ := Aside0.mk (Kd.R_lower (Kd.R_newB ho70 (qK BK127)) (below_size (by repeat first | (with_reducible first | exact HB.out | apply bA | apply bN | apply bD | refine bS ?_ GE127.out) | exact HB.out)))
                have n1_ := Aside0.mk (blk_below (qK BK127) hb)
                have n2_ := Aside0.mk (below_step (by repeat first | (with_reducible first | exact HB.out | apply bA | apply bN | apply bD | refine bS ?_ GE127.out) | exact HB.out) hb)
                clear BK127
                clear HB
                have HO176 := n0_
                have BK127 := n1_
                have HB := n2_
                clear n0_ n1_ n2_
                clear hb ho70
                refine hK.out _ _ ⟨cC BK127 0, cC BK127 1⟩ (fun hHeld => ?_)
                clear hK K
                refine norm_ (a' := ?_) ?_ ?_
                rotate_left
                ·show Act.put _ (some 48) _ = _
                 simp only [Act.put, sA, sZ, sS, i64_w]
                 rfl
                refine one_ (i := 0) (N := some 42) (bR [4, 1, 2, 1, 1, 2]) rfl rfl (one_of HT_.out (by kernel_rfl)) (by decide) (fun K hK => ?_)
                refine Kd.R_lit_step k62 _ 62 ?hg (N := 42) ?hd (xs := ([] : List (S62))) (inner := []) (ok := fun _ => True) (okp := fun _ => True) ?hr ?hp (fun _ hk => hk) trivial (Below.refl _ _) (Nat.le_refl _) (by simp) ?_; (case hd => rfl); (case hg => rfl); (case hr => first | (go_simp; done) | (go_simp; rfl)); (case hp => exact (Reps.none _ _))
                intro v165 w71 ho72 hb hg_ hnew_
                clear hg_ hnew_
                (first | rw [← Ny164.out] at ho72 | (simp only [Int.reduceToNat] at ho72; rw [← Ny164.out] at ho72))
                have n0_ := Aside0.mk (Kd.R_elder' (qR HO176) (Kd.R_base ho72) hb)
                have n1_ := Aside0.mk (Kd.R_lower (Kd.R_newB (Kd.R_new' ho72 (Kd.R_lt (qR HO176))) (qK BK127)) (below_size (by repeat first | (with_reducible first | exact HB.out | apply bA | apply bN | apply bD | refine bS ?_ GE127.out) | exact HB.out)))
                have n2_ := Aside0.mk (blk_below (qK BK127) hb)
                have n3_ := Aside0.mk (below_step (by repeat first | (with_reducible first | exact HB.out | apply bA | apply bN | apply bD | refine bS ?_ GE127.out) | exact HB.out) hb)
                clear HO176
                clear BK127
                clear HB
                have HO176 := n0_
                have HO166 := n1_
                have BK127 := n2_
                have HB := n3_
                clear n0_ n1_ n2_ n3_
                clear hb ho72
                refine hK.out _ _ ⟨cC BK127 0, cC BK127 1⟩ (fun hHeld => ?_)
                clear hK K
                refine norm_ (a' := ?_) ?_ ?_
                rotate_left
                ·show Act.put _ (some 42) _ = _
                 simp only [Act.put, sA, sZ, sS, i64_w]
                 rfl
                refine one_ (i := 4) (N := some 46) (bR [7, 1, 1, 2]) rfl rfl (one_of HT_.out (by kernel_rfl)) (by decide) (fun K hK => ?_)
                refine Kd.R_append_rows_step k62 (w0 := w) w.heap.size (by rfl) (.tmp 42) (.tmp 45) 29 62 (.agg #[(.int .i64 0), (.int .i64 0)]) 16 rfl Try.underlying29 info62 rfl (by decide) (by omega) v165 y164 y167 _ _ _ (fun k_ => some k_ ≠ (v175 : Value).ownBlock ∧ k_ ≠ gb127) (fun _ => False) rfl rfl ?aO ?aR (fun _ _ h => h) (fun _ h => h.elim) ?aF ?aB ?aS ?aL ?_
                (case aR => exact qC (Kd.C_below HR170.out HB.out))
                (case aB => exact (by repeat first | (with_reducible first | exact HB.out | apply bA | apply bN | apply bD | refine bS ?_ GE127.out) | exact HB.out))
                (case aF => exact (fun k_ hk => ⟨Kd.fresh' (Kd.R_lt (qR HO176)) k_ hk, Kd.freshB (qK BK127) k_ hk⟩))
                (case aO => exact (by (with_reducible repeat first | apply rA | apply rN | apply rD); exact Kd.R_mono HO166.out (fun _ hk => ⟨hk.1.2, hk.2⟩)))
                (case aS => exact (below_size (by repeat first | (with_reducible first | exact HB.out | apply bA | apply bN | apply bD | refine bS ?_ GE127.out) | exact HB.out)))
                (case aL => have := LMc62.out; omega)
                intro v172 w73 ho hb hg hat
                rw [← Ny171.out] at ho
                have n0_ := Aside0.mk (blk_grown (qK BK127) hg (Kd.R_away HO166.out (fun _ hk => hk.2)))
                have n1_ := Aside0.mk (Kd.R_after (ok := (fun k_ => k_ ≠ gb127)) (by (with_reducible repeat first | apply rA | apply rN | apply rD); exact Kd.R_mono HO176.out (fun _ hk => ⟨hk.1.2, hk.2⟩)) hg hat)
                have n2_ := Aside0.mk (hb)
                have n3_ := Aside0.mk (ho)
                clear BK127
                clear HO176
                clear HB
                clear HO166
                have BK127 := n0_
                have HO176 := n1_
                have HB := n2_
                have HO173 := n3_
                clear n0_ n1_ n2_ n3_
                clear ho hb hg hat
                refine hK.out _ _ ⟨cC BK127 0, cC BK127 1⟩ (fun hHeld => ?_)
                clear hK K
                refine norm_ (a' := ?_) ?_ ?_
                rotate_left
                ·show Act.put _ (some 46) _ = _
                 simp only [Act.put, sA, sZ, sS, i64_w]
                 rfl
                exact norm_ (by simp only [putAll, Act.put, sA, sZ, sS]) (hCont (v165, v172, v175) _ ⟨hHeld, (qR HO173), (by (with_reducible repeat first | apply rA | apply rN | apply rD); exact Kd.R_mono HO176.out (fun _ hk => ⟨hk.2, hk.1⟩)), (qK BK127), (by repeat first | (with_reducible first | exact HB.out | apply bA | apply bN | apply bD | refine bS ?_ GE127.out) | exact HB.out)⟩)
              rintro ⟨v165, v172, v175⟩ w74 ⟨hS_, h0_, h1_, h2_, h3_⟩
              have n0_ : Aside0 (Kd.R k62 62 w74 w.heap.size (fun k_ => some k_ ≠ (v175 : Value).ownBlock ∧ k_ ≠ gb127) v172 y171) := ⟨h0_⟩
              have n1_ : Aside0 (Kd.R k62 62 w74 w.heap.size (fun k_ => some k_ ≠ (v172 : Value).ownBlock ∧ k_ ≠ gb127) v175 y174) := ⟨h1_⟩
              have n2_ : Aside0 (w74.heap[gb127]? = some (.cells #[.int .i64 a1_0, .int .i64 a1_1] 62 (0, 0))) := ⟨h2_⟩
              have n3_ : Aside0 (Below w.heap.size w w74) := ⟨h3_⟩
              clear BK127
              clear HB
              clear h0_ h1_ h2_ h3_
              have HO173 := n0_
              have HO176 := n1_
              have BK127 := n2_
              have HB := n3_
              clear n0_ n1_ n2_ n3_
              have hHeld : w74.cell? ⟨gb127, 0, none⟩ = some (.int .i64 a1_0) ∧ w74.cell? ⟨gb127, 1, none⟩ = some (.int .i64 a1_1) := hS_
              obtain ⟨Ao76, co76, eo76⟩ := Kd.R_slice HO176.out
              (first | subst eo76 | (injection eo76 with f1_ f2_ f3_; have f4_ := f1_.symm; have f5_ := f3_.symm; clear f1_ f2_ f3_; subst f4_; subst f5_))
              refine norm_ (a' := ?_) ?_ ?_
              rotate_left; (simp only [putAll, Act.put, sA, sZ, sS]; rfl)
              refine one_ (i := 7) (N := some 49) (bR [9, 2]) rfl rfl (one_of HT_.out (by kernel_rfl)) (by decide) (fun K hK => ?_)
              refine Kd.R_append_rows_step k62 (w0 := w) w.heap.size (by rfl) (.tmp 46) (.tmp 48) 29 62 (.agg #[(.int .i64 0), (.int .i64 0)]) 16 rfl Try.underlying29 info62 rfl (by decide) (by omega) v172 y171 y174 _ _ _ (fun k_ => some k_ ≠ (.slice Ao76 y174.length co76 : Value).ownBlock ∧ k_ ≠ gb127) (fun _ => False) rfl rfl ?aO ?aR (fun _ _ h => h) (fun _ h => h.elim) ?aF ?aB ?aS ?aL ?_
              (case aR => repeat (first | exact (Kd.R_reads' HO176.out).2.2 | (with_reducible refine Kd.C_alloc ?_ _) | (with_reducible refine Kd.C_drewN ?_ _) | (with_reducible refine Kd.C_drew ?_)))
              (case aB => exact (by repeat first | (with_reducible first | exact HB.out | apply bA | apply bN | apply bD | refine bS ?_ GE127.out) | exact HB.out))
              (case aF => exact (fun k_ hk => ⟨Kd.fresh' (Kd.R_lt (qR HO176)) k_ hk, Kd.freshB (qK BK127) k_ hk⟩))
              (case aO => exact (qR HO173))
              (case aS => exact (below_size (by repeat first | (with_reducible first | exact HB.out | apply bA | apply bN | apply bD | refine bS ?_ GE127.out) | exact HB.out)))
              (case aL => have := LMc63.out; omega)
              intro v178 w75 ho hb hg hat
              rw [← Ny177.out] at ho
              have n0_ := Aside0.mk (blk_grown (qK BK127) hg (Kd.R_away HO173.out (fun _ hk => hk.2)))
              have n1_ := Aside0.mk (Kd.R_after (ok := (fun k_ => k_ ≠ gb127)) (by (with_reducible repeat first | apply rA | apply rN | apply rD); exact Kd.R_mono HO176.out (fun _ hk => ⟨hk.2, hk.1⟩)) hg hat)
              have n2_ := Aside0.mk (hb)
              have n3_ := Aside0.mk (ho)
              clear BK127
              clear HO176
              clear HB
              clear HO173
              have BK127 := n0_
              have HO176 := n1_
              have HB := n2_
              have HO179 := n3_
              clear n0_ n1_ n2_ n3_
              clear ho hb hg hat
              refine hK.out _ _ ⟨cC BK127 0, cC BK127 1⟩ (fun hHeld => ?_)
              clear hK K
              refine norm_ (a' := ?_) ?_ ?_
              rotate_left
              ·show Act.put _ (some 49) _ = _
               simp only [Act.put, sA, sZ, sS, i64_w]
               rfl
              refine one_ (i := 9) (N := some 51) (bR [10, 1]) rfl rfl (one_of HT_.out (by kernel_rfl)) (by decide) (fun K hK => ?_)
              refine Kd.R_append_rows_step k62 (w0 := w) w.heap.size (by rfl) (.tmp 49) (.tmp 50) 29 62 (.agg #[(.int .i64 0), (.int .i64 0)]) 16 rfl Try.underlying29 info62 rfl (by decide) (by omega) v178 y177 y129 _ _ _ (fun k_ => some k_ ≠ (.slice Ao76 y174.length co76 : Value).ownBlock ∧ k_ ≠ gb127) (fun _ => False) rfl rfl ?aO ?aR (fun _ _ h => h) (fun _ h => h.elim) ?aF ?aB ?aS ?aL ?_
              (case aR => exact qC (Kd.C_below HR132.out HB.out))
              (case aB => exact (by repeat first | (with_reducible first | exact HB.out | apply bA | apply bN | apply bD | refine bS ?_ GE127.out) | exact HB.out))
              (case aF => exact (fun k_ hk => ⟨Kd.fresh' (Kd.R_lt (qR HO176)) k_ hk, Kd.freshB (qK BK127) k_ hk⟩))
              (case aO => exact (qR HO179))
              (case aS => exact (below_size (by repeat first | (with_reducible first | exact HB.out | apply bA | apply bN | apply bD | refine bS ?_ GE127.out) | exact HB.out)))
              (case aL => have := LMc64.out; omega)
              intro v181 w77 ho hb hg hat
              rw [← Ny180.out] at ho
              have n0_ := Aside0.mk (blk_grown (qK BK127) hg (Kd.R_away HO179.out (fun _ hk => hk.2)))
              have n1_ := Aside0.mk (Kd.R_after (ok := (fun k_ => k_ ≠ gb127)) (qR HO176) hg hat)
              have n2_ := Aside0.mk (hb)
              have n3_ := Aside0.mk (ho)
              clear BK127
              clear HO176
              clear HB
              clear HO179
              have BK127 := n0_
              have HO176 := n1_
              have HB := n2_
              have HO182 := n3_
              clear n0_ n1_ n2_ n3_
              clear ho hb hg hat
              refine hK.out _ _ ⟨cC BK127 0, cC BK127 1⟩ (fun hHeld => ?_)
              clear hK K
              refine norm_ (a' := ?_) ?_ ?_
              rotate_left
              ·show Act.put _ (some 51) _ = _
               simp only [Act.put, sA, sZ, sS, i64_w]
               rfl
              refine pP 10 8 (bR [11]) rfl rfl HT_ ?_
              refine done_ (done_of HT_.out (by kernel_rfl)) ?_
              obtain ⟨Ao78, co78, eo78⟩ := Kd.R_slice HO182.out
              subst eo78
              try go_wp2_with (first | ((with_reducible refine gate_callee (f := 194) rfl ?_); refine goesL_ (some 53) rfl rfl Try.func194 (by kernel_rfl) rfl #[.slice Ao78 y180.length co78] rfl (by (try simp only [mA, mC, mN]); first | done | rfl | (simp only [lD, lT]; rfl)) ?_; (with_reducible refine (spec_AreMarks.calls kj12 _ _ y180 true _ ?side1 ?side2 A65.out).mono ?_); (case side1 => repeat (first | exact (Kd.R_reads' HO182.out).2.2 | (with_reducible refine Kd.C_alloc ?_ _) | (with_reducible refine Kd.C_drewN ?_ _) | (with_reducible refine Kd.C_drew ?_))); (case side2 => exact (Kd.R_reads' HO182.out).2.1); rintro e w79 ⟨rfl, hb⟩; refine ⟨_, rfl, ?_⟩; have n0_ := Aside0.mk (Kd.R_below (qR HO176) hb); have n1_ := Aside0.mk (Kd.R_below (qR HO182) hb); have n2_ := Aside0.mk (blk_below (qK BK127) hb); have n3_ := Aside0.mk (below_step (by repeat first | (with_reducible first | exact HB.out | apply bA | apply bN | apply bD | refine bS ?_ GE127.out) | exact HB.out) hb); clear HO176; clear HO182; clear BK127; clear HB; have HO176 := n0_; have HO182 := n1_; have BK127 := n2_; have HB := n3_; clear n0_ n1_ n2_ n3_; (try clear hb); (try clear hb2); (try clear hk); (try clear hi)))
              go_ret2
              exact ⟨_, by first | rfl | (simp [errW_none, errW_some] <;> rfl) | (simp [*, errW_none, errW_some] <;> rfl), by (with_reducible repeat first | apply rA | apply rN | apply rD); exact Kd.R_mono HO182.out (fun _ hk => trivial), by repeat (first | (with_reducible first | exact HB.out | apply bA | apply bN | apply bD | refine bS ?_ GE127.out) | exact HB.out)⟩
             ·replace c66 := Bool.eq_false_iff.mpr c66
              subst c66
              have H1 : ((some (([] : List (S62)) : List (S62))).bind fun y184 => (if y184.length + l0.length < 8796093022208 then (some ((y184 ++ l0), false)) else (none))) = some (r1, r2) := by rw [if_neg (show ¬ (false = true) by decide)] at H; exact H
              clear H
              have H := H1
              clear H1
              obtain ⟨y184, hy184⟩ : ∃ y_ : List (S62), y_ = (([] : List (S62))) := ⟨_, rfl⟩
              replace H : (if y184.length + l0.length < 8796093022208 then (some ((y184 ++ l0), false)) else (none)) = some (r1, r2) := by first | (rw [hy184]; with_reducible exact H) | (have H2_ := (Option.bind_some _ _).symm.trans H; rw [hy184]; with_reducible exact H2_) | (have H2_ := (Option.bind_some _ _).symm.trans H; with_reducible exact H2_) | with_reducible exact H | (rw [hy184]; exact H) | exact H
              have Ny184 := Aside0.mk hy184
              clear hy184
              by_cases c80 : y184.length + l0.length < 8796093022208
              ·rw [if_pos c80] at H
               have LMc80 := Aside0.mk c80
               clear c80
               obtain ⟨y187, hy187⟩ : ∃ y_ : List (S62), y_ = (y184 ++ l0) := ⟨_, rfl⟩
               replace H : (some (y187, false)) = some (r1, r2) := by first | (rw [hy187]; with_reducible exact H) | (have H2_ := (Option.bind_some _ _).symm.trans H; rw [hy187]; with_reducible exact H2_) | (have H2_ := (Option.bind_some _ _).symm.trans H; with_reducible exact H2_) | with_reducible exact H | (rw [hy187]; exact H) | exact H
               have Ny187 := Aside0.mk hy187
               clear hy187
               simp only [Option.some.injEq, Prod.mk.injEq] at H
               obtain ⟨rfl, rfl⟩ := H
               try go_wp2
               have n0_ := Aside0.mk (blk_drew BK127.out)
               have n1_ := Aside0.mk (below_drew1 HB.out)
               clear BK127
               clear HB
               have BK127 := n0_
               have HB := n1_
               clear n0_ n1_
               have q82 : (x6_2 : Int) ≤ ((l0.length : Int) : Int) := of_decide_eq_true ‹_›
               obtain ⟨i082, hi082, _, hsz82, _⟩ := info_parts info62
               have hroom82 : l0.length ≤ c0 := HC0.out
               have hC82 : Kd.C k62 _ A0 l0.length l0 := HR0.out
               have hcut82 := cut_to (P := Try.prog) 29 62 .i64 Try.underlying29 hi082 A0 l0.length c0 x6_2 (of_decide_eq_true ‹_›) q82 hroom82
               have hr82 := Kd.C_take (m := (x6_2 : Int).toNat) hC82 (by omega)
               have hy82 : y167.length = (x6_2 : Int).toNat := (by rw [Ny167.out, List.length_take]; omega)
               rw [← Ny167.out] at hr82
               rw [← hy82] at hcut82
               have HR170 := Aside0.mk hr82
               have HC170 := Aside0.mk (show y167.length ≤ c0 from by omega)
               clear hr82 hC82 hroom82 hi082 hsz82
               have KY82 := Aside0.mk hy82
               clear hy82
               replace q82 := eq_true q82
               refine start_ (n := 11) (S := fun w' => w'.cell? ⟨gb127, 0, none⟩ = some (.int .i64 a1_0) ∧ w'.cell? ⟨gb127, 1, none⟩ = some (.int .i64 a1_1)) (ds := []) (bR [0, 11]) (by kernel_rfl) rfl rfl ⟨cC BK127 0, cC BK127 1⟩ (fun hHeld => ?_); refine with_tabW spec_PutMark.tab7 spec_PutMark.bits7 (fun HT_ HW_ => ?_)
               generalize wc.drew = w81 at BK127 HB HR170 hHeld ⊢
               refine pP 1 43 (bR [0, 1, 1, 9]) rfl rfl HT_ ?_
               refine pP 2 44 (bR [0, 1, 2, 8]) rfl rfl HT_ ?_
               refine pP 3 45 (bR [0, 1, 3, 7]) rfl rfl HT_ ?_
               refine pP 8 50 (bR [0, 1, 3, 4, 1, 2]) rfl rfl HT_ ?_
               refine take_ (i := 5) (N := some 47) (v := ?_) (a' := ?_) (bR [0, 1, 3, 1, 1, 2, 1, 2]) rfl rfl (take_ofW HT_.out HW_.out (by kernel_rfl)) (fun _ _ _ h => h) (Or.inl ⟨by rfl, ?_⟩) hHeld ?_ ?_
               rotate_left; (rintro w' ⟨s0, s1⟩; go_simp; with_reducible rfl); rotate_left; (simp only [Act.put, sA, sZ, sS, i64_w]; rfl)
               refine join_ (σ := Value × Value × Value) 3 (bR [7, 1, 1, 2]) (fun s_ => [(42, s_.1), (46, s_.2.1), (48, s_.2.2)]) (fun s_ w' => (w'.cell? ⟨gb127, 0, none⟩ = some (.int .i64 a1_0) ∧ w'.cell? ⟨gb127, 1, none⟩ = some (.int .i64 a1_1)) ∧ (Kd.R k62 62 w' w.heap.size (fun k_ => some k_ ≠ (s_.2.2 : Value).ownBlock ∧ k_ ≠ gb127) s_.2.1 y171) ∧ (Kd.R k62 62 w' w.heap.size (fun k_ => some k_ ≠ (s_.2.1 : Value).ownBlock ∧ k_ ≠ gb127) s_.2.2 y174) ∧ (w'.heap[gb127]? = some (.cells #[.int .i64 a1_0, .int .i64 a1_1] 62 (0, 0))) ∧ (Below w.heap.size w w')) ?_ ?_
               rotate_left
               ·intro hCont
                refine two_ (i := 0) (j := 6) (Ni := some 42) (Nj := some 48) (bR [4, 1, 1, 2, 1, 2]) (bR [0, 1, 3, 1, 2, 1, 1, 2]) rfl rfl rfl rfl (two_of HT_.out (by kernel_rfl)) (by decide) (by decide) (fun K hK => ?_) (fun K hK => ?_)
                ·skip
                 refine Kd.R_lit_step k62 _ 62 ?hg (N := 42) ?hd (xs := ([] : List (S62))) (inner := []) (ok := fun _ => True) (okp := fun _ => True) ?hr ?hp (fun _ hk => hk) trivial (Below.refl _ _) (Nat.le_refl _) (by simp) ?_; (case hd => rfl); (case hg => rfl); (case hr => first | (go_simp; done) | (go_simp; rfl)); (case hp => exact (Reps.none _ _))
                 intro v165 w83 ho84 hb hg_ hnew_
                 clear hg_ hnew_
                 (first | rw [← Ny164.out] at ho84 | (simp only [Int.reduceToNat] at ho84; rw [← Ny164.out] at ho84))
                 have n0_ := Aside0.mk (Kd.R_lower (Kd.R_newB ho84 (qK BK127)) (below_size (by repeat first | (with_reducible first | exact HB.out | apply bA | apply bN | apply bD | refine bS ?_ GE127.out) | exact HB.out)))
                 have n1_ := Aside0.mk (blk_below (qK BK127) hb)
                 have n2_ := Aside0.mk (below_step (by repeat first | (with_reducible first | exact HB.out | apply bA | apply bN | apply bD | refine bS ?_ GE127.out) | exact HB.out) hb)
                 clear BK127
                 clear HB
                 have HO166 := n0_
                 have BK127 := n1_
                 have HB := n2_
                 clear n0_ n1_ n2_
                 clear hb ho84
                 refine hK.out _ _ ⟨cC BK127 0, cC BK127 1⟩ (fun hHeld => ?_)
                 clear hK K
                 refine norm_ (a' := ?_) ?_ ?_
                 rotate_left
                 ·show Act.put _ (some 42) _ = _
                  simp only [Act.put, sA, sZ, sS, i64_w]
                  rfl
                 refine two_ (i := 4) (j := 6) (Ni := some 46) (Nj := some 48) (bR [6, 2, 1, 2]) (bR [4, 1, 2, 1, 1, 2]) rfl rfl rfl rfl (two_of HT_.out (by kernel_rfl)) (by decide) (by decide) (fun K hK => ?_) (fun K hK => ?_)
                 ·skip
                  refine Kd.R_append_rows_step k62 (w0 := w) w.heap.size (by rfl) (.tmp 42) (.tmp 45) 29 62 (.agg #[(.int .i64 0), (.int .i64 0)]) 16 rfl Try.underlying29 info62 rfl (by decide) (by omega) v165 y164 y167 _ _ _ (fun k_ => k_ ≠ gb127) (fun _ => False) rfl rfl ?aO ?aR (fun _ _ h => h) (fun _ h => h.elim) ?aF ?aB ?aS ?aL ?_
                  (case aR => exact qC (Kd.C_below HR170.out HB.out))
                  (case aB => exact (by repeat first | (with_reducible first | exact HB.out | apply bA | apply bN | apply bD | refine bS ?_ GE127.out) | exact HB.out))
                  (case aF => exact (fun k_ hk => Kd.freshB (qK BK127) k_ hk))
                  (case aO => exact (by (with_reducible repeat first | apply rA | apply rN | apply rD); exact Kd.R_mono HO166.out (fun _ hk => hk.2)))
                  (case aS => exact (below_size (by repeat first | (with_reducible first | exact HB.out | apply bA | apply bN | apply bD | refine bS ?_ GE127.out) | exact HB.out)))
                  (case aL => have := LMc62.out; omega)
                  intro v172 w85 ho hb hg hat
                  rw [← Ny171.out] at ho
                  have n0_ := Aside0.mk (blk_grown (qK BK127) hg (Kd.R_away HO166.out (fun _ hk => hk.2)))
                  have n1_ := Aside0.mk (hb)
                  have n2_ := Aside0.mk (ho)
                  clear BK127
                  clear HB
                  clear HO166
                  have BK127 := n0_
                  have HB := n1_
                  have HO173 := n2_
                  clear n0_ n1_ n2_
                  clear ho hb hg hat
                  refine hK.out _ _ ⟨cC BK127 0, cC BK127 1⟩ (fun hHeld => ?_)
                  clear hK K
                  refine norm_ (a' := ?_) ?_ ?_
                  rotate_left
                  ·show Act.put _ (some 46) _ = _
                   simp only [Act.put, sA, sZ, sS, i64_w]
                   rfl
                  refine one_ (i := 6) (N := some 48) (bR [7, 1, 1, 2]) rfl rfl (one_of HT_.out (by kernel_rfl)) (by decide) (fun K hK => ?_)
                  refine Kd.R_lit_step k62 _ 62 ?hg (N := 48) ?hd (xs := ([(⟨a1_0, a1_1⟩ : S62)] : List (S62))) (inner := [.int .i64 a1_0, .int .i64 a1_1]) (ok := fun _ => True) (okp := fun _ => True) ?hr ?hp (fun _ hk => hk) trivial (Below.refl _ _) (Nat.le_refl _) (by simp) ?_; (case hd => rfl); (case hg => rfl); (case hr => first | (go_simp; done) | (go_simp; rfl)); (case hp => exact (Reps.c2 (show Kd.M k62 _ _ _ (⟨a1_0, a1_1⟩ : S62) [.int .i64 a1_0, .int .i64 a1_1] from (k62_mkM _ _ _ (⟨a1_0, a1_1⟩ : S62) )) (Reps.none _ _)))
                  intro v175 w86 ho87 hb hg_ hnew_
                  clear hg_ hnew_
                  (first | rw [← Ny174.out] at ho87 | (simp only [Int.reduceToNat] at ho87; rw [← Ny174.out] at ho87))
                  have n0_ := Aside0.mk (Kd.R_elder' (qR HO173) (Kd.R_base ho87) hb)
                  have n1_ := Aside0.mk (Kd.R_lower (Kd.R_newB (Kd.R_new' ho87 (Kd.R_lt (qR HO173))) (qK BK127)) (below_size (by repeat first | (with_reducible first | exact HB.out | apply bA | apply bN | apply bD | refine bS ?_ GE127.out) | exact HB.out)))
                  have n2_ := Aside0.mk (blk_below (qK BK127) hb)
                  have n3_ := Aside0.mk (below_step (by repeat first | (with_reducible first | exact HB.out | apply bA | apply bN | apply bD | refine bS ?_ GE127.out) | exact HB.out) hb)
                  clear HO173
                  clear BK127
                  clear HB
                  have HO173 := n0_
                  have HO176 := n1_
                  have BK127 := n2_
                  have HB := n3_
                  clear n0_ n1_ n2_ n3_
                  clear hb ho87
                  refine hK.out _ _ ⟨cC BK127 0, cC BK127 1⟩ (fun hHeld => ?_)
                  clear hK K
                  refine norm_ (a' := ?_) ?_ ?_
                  rotate_left
                  ·show Act.put _ (some 48) _ = _
                   simp only [Act.put, sA, sZ, sS, i64_w]
                   rfl
                  exact norm_ (by simp only [putAll, Act.put, sA, sZ, sS]) (hCont (v165, v172, v175) _ ⟨hHeld, (by (with_reducible repeat first | apply rA | apply rN | apply rD); exact Kd.R_mono HO173.out (fun _ hk => ⟨hk.2, hk.1⟩)), (by (with_reducible repeat first | apply rA | apply rN | apply rD); exact Kd.R_mono HO176.out (fun _ hk => ⟨hk.1.2, hk.2⟩)), (qK BK127), (by repeat first | (with_reducible first | exact HB.out | apply bA | apply bN | apply bD | refine bS ?_ GE127.out) | exact HB.out)⟩)
                 ·skip
                  refine Kd.R_lit_step k62 _ 62 ?hg (N := 48) ?hd (xs := ([(⟨a1_0, a1_1⟩ : S62)] : List (S62))) (inner := [.int .i64 a1_0, .int .i64 a1_1]) (ok := fun _ => True) (okp := fun _ => True) ?hr ?hp (fun _ hk => hk) trivial (Below.refl _ _) (Nat.le_refl _) (by simp) ?_; (case hd => rfl); (case hg => rfl); (case hr => first | (go_simp; done) | (go_simp; rfl)); (case hp => exact (Reps.c2 (show Kd.M k62 _ _ _ (⟨a1_0, a1_1⟩ : S62) [.int .i64 a1_0, .int .i64 a1_1] from (k62_mkM _ _ _ (⟨a1_0, a1_1⟩ : S62) )) (Reps.none _ _)))
                  intro v175 w85 ho86 hb hg_ hnew_
                  clear hg_ hnew_
                  (first | rw [← Ny174.out] at ho86 | (simp only [Int.reduceToNat] at ho86; rw [← Ny174.out] at ho86))
                  have n0_ := Aside0.mk (Kd.R_elder' (qR HO166) (Kd.R_base ho86) hb)
                  have n1_ := Aside0.mk (Kd.R_lower (Kd.R_newB (Kd.R_new' ho86 (Kd.R_lt (qR HO166))) (qK BK127)) (below_size (by repeat first | (with_reducible first | exact HB.out | apply bA | apply bN | apply bD | refine bS ?_ GE127.out) | exact HB.out)))
                  have n2_ := Aside0.mk (blk_below (qK BK127) hb)
                  have n3_ := Aside0.mk (below_step (by repeat first | (with_reducible first | exact HB.out | apply bA | apply bN | apply bD | refine bS ?_ GE127.out) | exact HB.out) hb)
                  clear HO166
                  clear BK127
                  clear HB
                  have HO166 := n0_
                  have HO176 := n1_
                  have BK127 := n2_
                  have HB := n3_
                  clear n0_ n1_ n2_ n3_
                  clear hb ho86
                  refine hK.out _ _ ⟨cC BK127 0, cC BK127 1⟩ (fun hHeld => ?_)
                  clear hK K
                  refine norm_ (a' := ?_) ?_ ?_
                  rotate_left
                  ·show Act.put _ (some 48) _ = _
                   simp only [Act.put, sA, sZ, sS, i64_w]
                   rfl
                  refine one_ (i := 4) (N := some 46) (bR [7, 1, 1, 2]) rfl rfl (one_of HT_.out (by kernel_rfl)) (by decide) (fun K hK => ?_)
                  refine Kd.R_append_rows_step k62 (w0 := w) w.heap.size (by rfl) (.tmp 42) (.tmp 45) 29 62 (.agg #[(.int .i64 0), (.int .i64 0)]) 16 rfl Try.underlying29 info62 rfl (by decide) (by omega) v165 y164 y167 _ _ _ (fun k_ => some k_ ≠ (v175 : Value).ownBlock ∧ k_ ≠ gb127) (fun _ => False) rfl rfl ?aO ?aR (fun _ _ h => h) (fun _ h => h.elim) ?aF ?aB ?aS ?aL ?_
                  (case aR => exact qC (Kd.C_below HR170.out HB.out))
                  (case aB => exact (by repeat first | (with_reducible first | exact HB.out | apply bA | apply bN | apply bD | refine bS ?_ GE127.out) | exact HB.out))
                  (case aF => exact (fun k_ hk => ⟨Kd.fresh' (Kd.R_lt (qR HO176)) k_ hk, Kd.freshB (qK BK127) k_ hk⟩))
                  (case aO => exact (by (with_reducible repeat first | apply rA | apply rN | apply rD); exact Kd.R_mono HO166.out (fun _ hk => ⟨hk.2, hk.1.2⟩)))
                  (case aS => exact (below_size (by repeat first | (with_reducible first | exact HB.out | apply bA | apply bN | apply bD | refine bS ?_ GE127.out) | exact HB.out)))
                  (case aL => have := LMc62.out; omega)
                  intro v172 w87 ho hb hg hat
                  rw [← Ny171.out] at ho
                  have n0_ := Aside0.mk (blk_grown (qK BK127) hg (Kd.R_away HO166.out (fun _ hk => hk.1.2)))
                  have n1_ := Aside0.mk (Kd.R_after (ok := (fun k_ => k_ ≠ gb127)) (by (with_reducible repeat first | apply rA | apply rN | apply rD); exact Kd.R_mono HO176.out (fun _ hk => ⟨hk.2, hk.1.2⟩)) hg hat)
                  have n2_ := Aside0.mk (hb)
                  have n3_ := Aside0.mk (ho)
                  clear BK127
                  clear HO176
                  clear HB
                  clear HO166
                  have BK127 := n0_
                  have HO176 := n1_
                  have HB := n2_
                  have HO173 := n3_
                  clear n0_ n1_ n2_ n3_
                  clear ho hb hg hat
                  refine hK.out _ _ ⟨cC BK127 0, cC BK127 1⟩ (fun hHeld => ?_)
                  clear hK K
                  refine norm_ (a' := ?_) ?_ ?_
                  rotate_left
                  ·show Act.put _ (some 46) _ = _
                   simp only [Act.put, sA, sZ, sS, i64_w]
                   rfl
                  exact norm_ (by simp only [putAll, Act.put, sA, sZ, sS]) (hCont (v165, v172, v175) _ ⟨hHeld, (qR HO173), (by (with_reducible repeat first | apply rA | apply rN | apply rD); exact Kd.R_mono HO176.out (fun _ hk => ⟨hk.2, hk.1⟩)), (qK BK127), (by repeat first | (with_reducible first | exact HB.out | apply bA | apply bN | apply bD | refine bS ?_ GE127.out) | exact HB.out)⟩)
                ·skip
                 refine Kd.R_lit_step k62 _ 62 ?hg (N := 48) ?hd (xs := ([(⟨a1_0, a1_1⟩ : S62)] : List (S62))) (inner := [.int .i64 a1_0, .int .i64 a1_1]) (ok := fun _ => True) (okp := fun _ => True) ?hr ?hp (fun _ hk => hk) trivial (Below.refl _ _) (Nat.le_refl _) (by simp) ?_; (case hd => rfl); (case hg => rfl); (case hr => first | (go_simp; done) | (go_simp; rfl)); (case hp => exact (Reps.c2 (show Kd.M k62 _ _ _ (⟨a1_0, a1_1⟩ : S62) [.int .i64 a1_0, .int .i64 a1_1] from (k62_mkM _ _ _ (⟨a1_0, a1_1⟩ : S62) )) (Reps.none _ _)))
                 intro v175 w83 ho84 hb hg_ hnew_
                 clear hg_ hnew_
                 (first | rw [← Ny174.out] at ho84 | (simp only [Int.reduceToNat] at ho84; rw [← Ny174.out] at ho84))
                 have n0_ := Aside0.mk (Kd.R_lower (Kd.R_newB ho84 (qK BK127)) (below_size (by repeat first | (with_reducible first | exact HB.out | apply bA | apply bN | apply bD | refine bS ?_ GE127.out) | exact HB.out)))
                 have n1_ := Aside0.mk (blk_below (qK BK127) hb)
                 have n2_ := Aside0.mk (below_step (by repeat first | (with_reducible first | exact HB.out | apply bA | apply bN | apply bD | refine bS ?_ GE127.out) | exact HB.out) hb)
                 clear BK127
                 clear HB
                 have HO176 := n0_
                 have BK127 := n1_
                 have HB := n2_
                 clear n0_ n1_ n2_
                 clear hb ho84
                 refine hK.out _ _ ⟨cC BK127 0, cC BK127 1⟩ (fun hHeld => ?_)
                 clear hK K
                 refine norm_ (a' := ?_) ?_ ?_
                 rotate_left
                 ·show Act.put _ (some 48) _ = _
                  simp only [Act.put, sA, sZ, sS, i64_w]
                  rfl
                 refine one_ (i := 0) (N := some 42) (bR [4, 1, 2, 1, 1, 2]) rfl rfl (one_of HT_.out (by kernel_rfl)) (by decide) (fun K hK => ?_)
                 refine Kd.R_lit_step k62 _ 62 ?hg (N := 42) ?hd (xs := ([] : List (S62))) (inner := []) (ok := fun _ => True) (okp := fun _ => True) ?hr ?hp (fun _ hk => hk) trivial (Below.refl _ _) (Nat.le_refl _) (by simp) ?_; (case hd => rfl); (case hg => rfl); (case hr => first | (go_simp; done) | (go_simp; rfl)); (case hp => exact (Reps.none _ _))
                 intro v165 w85 ho86 hb hg_ hnew_
                 clear hg_ hnew_
                 (first | rw [← Ny164.out] at ho86 | (simp only [Int.reduceToNat] at ho86; rw [← Ny164.out] at ho86))
                 have n0_ := Aside0.mk (Kd.R_elder' (qR HO176) (Kd.R_base ho86) hb)
                 have n1_ := Aside0.mk (Kd.R_lower (Kd.R_newB (Kd.R_new' ho86 (Kd.R_lt (qR HO176))) (qK BK127)) (below_size (by repeat first | (with_reducible first | exact HB.out | apply bA | apply bN | apply bD | refine bS ?_ GE127.out) | exact HB.out)))
                 have n2_ := Aside0.mk (blk_below (qK BK127) hb)
                 have n3_ := Aside0.mk (below_step (by repeat first | (with_reducible first | exact HB.out | apply bA | apply bN | apply bD | refine bS ?_ GE127.out) | exact HB.out) hb)
                 clear HO176
                 clear BK127
                 clear HB
                 have HO176 := n0_
                 have HO166 := n1_
                 have BK127 := n2_
                 have HB := n3_
                 clear n0_ n1_ n2_ n3_
                 clear hb ho86
                 refine hK.out _ _ ⟨cC BK127 0, cC BK127 1⟩ (fun hHeld => ?_)
                 clear hK K
                 refine norm_ (a' := ?_) ?_ ?_
                 rotate_left
                 ·show Act.put _ (some 42) _ = _
                  simp only [Act.put, sA, sZ, sS, i64_w]
                  rfl
                 refine one_ (i := 4) (N := some 46) (bR [7, 1, 1, 2]) rfl rfl (one_of HT_.out (by kernel_rfl)) (by decide) (fun K hK => ?_)
                 refine Kd.R_append_rows_step k62 (w0 := w) w.heap.size (by rfl) (.tmp 42) (.tmp 45) 29 62 (.agg #[(.int .i64 0), (.int .i64 0)]) 16 rfl Try.underlying29 info62 rfl (by decide) (by omega) v165 y164 y167 _ _ _ (fun k_ => some k_ ≠ (v175 : Value).ownBlock ∧ k_ ≠ gb127) (fun _ => False) rfl rfl ?aO ?aR (fun _ _ h => h) (fun _ h => h.elim) ?aF ?aB ?aS ?aL ?_
                 (case aR => exact qC (Kd.C_below HR170.out HB.out))
                 (case aB => exact (by repeat first | (with_reducible first | exact HB.out | apply bA | apply bN | apply bD | refine bS ?_ GE127.out) | exact HB.out))
                 (case aF => exact (fun k_ hk => ⟨Kd.fresh' (Kd.R_lt (qR HO176)) k_ hk, Kd.freshB (qK BK127) k_ hk⟩))
                 (case aO => exact (by (with_reducible repeat first | apply rA | apply rN | apply rD); exact Kd.R_mono HO166.out (fun _ hk => ⟨hk.1.2, hk.2⟩)))
                 (case aS => exact (below_size (by repeat first | (with_reducible first | exact HB.out | apply bA | apply bN | apply bD | refine bS ?_ GE127.out) | exact HB.out)))
                 (case aL => have := LMc62.out; omega)
                 intro v172 w87 ho hb hg hat
                 rw [← Ny171.out] at ho
                 have n0_ := Aside0.mk (blk_grown (qK BK127) hg (Kd.R_away HO166.out (fun _ hk => hk.2)))
                 have n1_ := Aside0.mk (Kd.R_after (ok := (fun k_ => k_ ≠ gb127)) (by (with_reducible repeat first | apply rA | apply rN | apply rD); exact Kd.R_mono HO176.out (fun _ hk => ⟨hk.1.2, hk.2⟩)) hg hat)
                 have n2_ := Aside0.mk (hb)
                 have n3_ := Aside0.mk (ho)
                 clear BK127
                 clear HO176
                 clear HB
                 clear HO166
                 have BK127 := n0_
                 have HO176 := n1_
                 have HB := n2_
                 have HO173 := n3_
                 clear n0_ n1_ n2_ n3_
                 clear ho hb hg hat
                 refine hK.out _ _ ⟨cC BK127 0, cC BK127 1⟩ (fun hHeld => ?_)
                 clear hK K
                 refine norm_ (a' := ?_) ?_ ?_
                 rotate_left
                 ·show Act.put _ (some 46) _ = _
                  simp only [Act.put, sA, sZ, sS, i64_w]
                  rfl
                 exact norm_ (by simp only [putAll, Act.put, sA, sZ, sS]) (hCont (v165, v172, v175) _ ⟨hHeld, (qR HO173), (by (with_reducible repeat first | apply rA | apply rN | apply rD); exact Kd.R_mono HO176.out (fun _ hk => ⟨hk.2, hk.1⟩)), (qK BK127), (by repeat first | (with_reducible first | exact HB.out | apply bA | apply bN | apply bD | refine bS ?_ GE127.out) | exact HB.out)⟩)
               rintro ⟨v165, v172, v175⟩ w88 ⟨hS_, h0_, h1_, h2_, h3_⟩
               have n0_ : Aside0 (Kd.R k62 62 w88 w.heap.size (fun k_ => some k_ ≠ (v175 : Value).ownBlock ∧ k_ ≠ gb127) v172 y171) := ⟨h0_⟩
               have n1_ : Aside0 (Kd.R k62 62 w88 w.heap.size (fun k_ => some k_ ≠ (v172 : Value).ownBlock ∧ k_ ≠ gb127) v175 y174) := ⟨h1_⟩
               have n2_ : Aside0 (w88.heap[gb127]? = some (.cells #[.int .i64 a1_0, .int .i64 a1_1] 62 (0, 0))) := ⟨h2_⟩
               have n3_ : Aside0 (Below w.heap.size w w88) := ⟨h3_⟩
               clear BK127
               clear HB
               clear h0_ h1_ h2_ h3_
               have HO173 := n0_
               have HO176 := n1_
               have BK127 := n2_
               have HB := n3_
               clear n0_ n1_ n2_ n3_
               have hHeld : w88.cell? ⟨gb127, 0, none⟩ = some (.int .i64 a1_0) ∧ w88.cell? ⟨gb127, 1, none⟩ = some (.int .i64 a1_1) := hS_
               obtain ⟨Ao90, co90, eo90⟩ := Kd.R_slice HO176.out
               (first | subst eo90 | (injection eo90 with f1_ f2_ f3_; have f4_ := f1_.symm; have f5_ := f3_.symm; clear f1_ f2_ f3_; subst f4_; subst f5_))
               refine norm_ (a' := ?_) ?_ ?_
               rotate_left; (simp only [putAll, Act.put, sA, sZ, sS]; rfl)
               refine one_ (i := 7) (N := some 49) (bR [9, 2]) rfl rfl (one_of HT_.out (by kernel_rfl)) (by decide) (fun K hK => ?_)
               refine Kd.R_append_rows_step k62 (w0 := w) w.heap.size (by rfl) (.tmp 46) (.tmp 48) 29 62 (.agg #[(.int .i64 0), (.int .i64 0)]) 16 rfl Try.underlying29 info62 rfl (by decide) (by omega) v172 y171 y174 _ _ _ (fun k_ => some k_ ≠ (.slice Ao90 y174.length co90 : Value).ownBlock ∧ k_ ≠ gb127) (fun _ => False) rfl rfl ?aO ?aR (fun _ _ h => h) (fun _ h => h.elim) ?aF ?aB ?aS ?aL ?_
               (case aR => repeat (first | exact (Kd.R_reads' HO176.out).2.2 | (with_reducible refine Kd.C_alloc ?_ _) | (with_reducible refine Kd.C_drewN ?_ _) | (with_reducible refine Kd.C_drew ?_)))
               (case aB => exact (by repeat first | (with_reducible first | exact HB.out | apply bA | apply bN | apply bD | refine bS ?_ GE127.out) | exact HB.out))
               (case aF => exact (fun k_ hk => ⟨Kd.fresh' (Kd.R_lt (qR HO176)) k_ hk, Kd.freshB (qK BK127) k_ hk⟩))
               (case aO => exact (qR HO173))
               (case aS => exact (below_size (by repeat first | (with_reducible first | exact HB.out | apply bA | apply bN | apply bD | refine bS ?_ GE127.out) | exact HB.out)))
               (case aL => have := LMc63.out; omega)
               intro v178 w89 ho hb hg hat
               rw [← Ny177.out] at ho
               have n0_ := Aside0.mk (blk_grown (qK BK127) hg (Kd.R_away HO173.out (fun _ hk => hk.2)))
               have n1_ := Aside0.mk (Kd.R_after (ok := (fun k_ => k_ ≠ gb127)) (by (with_reducible repeat first | apply rA | apply rN | apply rD); exact Kd.R_mono HO176.out (fun _ hk => ⟨hk.2, hk.1⟩)) hg hat)
               have n2_ := Aside0.mk (hb)
               have n3_ := Aside0.mk (ho)
               clear BK127
               clear HO176
               clear HB
               clear HO173
               have BK127 := n0_
               have HO176 := n1_
               have HB := n2_
               have HO179 := n3_
               clear n0_ n1_ n2_ n3_
               clear ho hb hg hat
               refine hK.out _ _ ⟨cC BK127 0, cC BK127 1⟩ (fun hHeld => ?_)
               clear hK K
               refine norm_ (a' := ?_) ?_ ?_
               rotate_left
               ·show Act.put _ (some 49) _ = _
                simp only [Act.put, sA, sZ, sS, i64_w]
                rfl
               refine one_ (i := 9) (N := some 51) (bR [10, 1]) rfl rfl (one_of HT_.out (by kernel_rfl)) (by decide) (fun K hK => ?_)
               refine Kd.R_append_rows_step k62 (w0 := w) w.heap.size (by rfl) (.tmp 49) (.tmp 50) 29 62 (.agg #[(.int .i64 0), (.int .i64 0)]) 16 rfl Try.underlying29 info62 rfl (by decide) (by omega) v178 y177 y129 _ _ _ (fun k_ => some k_ ≠ (.slice Ao90 y174.length co90 : Value).ownBlock ∧ k_ ≠ gb127) (fun _ => False) rfl rfl ?aO ?aR (fun _ _ h => h) (fun _ h => h.elim) ?aF ?aB ?aS ?aL ?_
               (case aR => exact qC (Kd.C_below HR132.out HB.out))
               (case aB => exact (by repeat first | (with_reducible first | exact HB.out | apply bA | apply bN | apply bD | refine bS ?_ GE127.out) | exact HB.out))
               (case aF => exact (fun k_ hk => ⟨Kd.fresh' (Kd.R_lt (qR HO176)) k_ hk, Kd.freshB (qK BK127) k_ hk⟩))
               (case aO => exact (qR HO179))
               (case aS => exact (below_size (by repeat first | (with_reducible first | exact HB.out | apply bA | apply bN | apply bD | refine bS ?_ GE127.out) | exact HB.out)))
               (case aL => have := LMc64.out; omega)
               intro v181 w91 ho hb hg hat
               rw [← Ny180.out] at ho
               have n0_ := Aside0.mk (blk_grown (qK BK127) hg (Kd.R_away HO179.out (fun _ hk => hk.2)))
               have n1_ := Aside0.mk (Kd.R_after (ok := (fun k_ => k_ ≠ gb127)) (qR HO176) hg hat)
               have n2_ := Aside0.mk (hb)
               have n3_ := Aside0.mk (ho)
               clear BK127
               clear HO176
               clear HB
               clear HO179
               have BK127 := n0_
               have HO176 := n1_
               have HB := n2_
               have HO182 := n3_
               clear n0_ n1_ n2_ n3_
               clear ho hb hg hat
               refine hK.out _ _ ⟨cC BK127 0, cC BK127 1⟩ (fun hHeld => ?_)
               clear hK K
               refine norm_ (a' := ?_) ?_ ?_
               rotate_left
               ·show Act.put _ (some 51) _ = _
                simp only [Act.put, sA, sZ, sS, i64_w]
                rfl
               refine pP 10 8 (bR [11]) rfl rfl HT_ ?_
               refine done_ (done_of HT_.out (by kernel_rfl)) ?_
               obtain ⟨Ao92, co92, eo92⟩ := Kd.R_slice HO182.out
               subst eo92
               try go_wp2_with (first | ((with_reducible refine gate_callee (f := 194) rfl ?_); refine goesL_ (some 53) rfl rfl Try.func194 (by kernel_rfl) rfl #[.slice Ao92 y180.length co92] rfl (by (try simp only [mA, mC, mN]); first | done | rfl | (simp only [lD, lT]; rfl)) ?_; (with_reducible refine (spec_AreMarks.calls kj12 _ _ y180 false _ ?side1 ?side2 A65.out).mono ?_); (case side1 => repeat (first | exact (Kd.R_reads' HO182.out).2.2 | (with_reducible refine Kd.C_alloc ?_ _) | (with_reducible refine Kd.C_drewN ?_ _) | (with_reducible refine Kd.C_drew ?_))); (case side2 => exact (Kd.R_reads' HO182.out).2.1); rintro e w93 ⟨rfl, hb⟩; refine ⟨_, rfl, ?_⟩; have n0_ := Aside0.mk (Kd.R_below (qR HO176) hb); have n1_ := Aside0.mk (Kd.R_below (qR HO182) hb); have n2_ := Aside0.mk (blk_below (qK BK127) hb); have n3_ := Aside0.mk (below_step (by repeat first | (with_reducible first | exact HB.out | apply bA | apply bN | apply bD | refine bS ?_ GE127.out) | exact HB.out) hb); clear HO176; clear HO182; clear BK127; clear HB; have HO176 := n0_; have HO182 := n1_; have BK127 := n2_; have HB := n3_; clear n0_ n1_ n2_ n3_; (try clear hb); (try clear hb2); (try clear hk); (try clear hi)) | ((with_reducible refine gate_dst (N := 55) rfl ?_); refine Kd.R_lit k62 _ 62 ?hg (N := 55) ?hd (xs := ([] : List (S62))) (inner := []) (ok := fun _ => True) (okp := fun _ => True) ?hr ?hp (fun _ hk => hk) trivial (Below.refl _ _) (Nat.le_refl _) (by simp) ?_; (case hd => rfl); (case hg => rfl); (case hr => first | (go_simp; done) | (go_simp; rfl)); (case hp => exact (Reps.none _ _)); intro v185 w94 ho95 hb hg_ hnew_; clear hg_ hnew_; (first | rw [← Ny184.out] at ho95 | (simp only [Int.reduceToNat] at ho95; rw [← Ny184.out] at ho95)); have n0_ := Aside0.mk (Kd.R_elder' (qR HO176) (Kd.R_base ho95) hb); have n1_ := Aside0.mk (Kd.R_elder' (qR HO182) (Kd.R_base ho95) hb); have n2_ := Aside0.mk (Kd.R_lower (Kd.R_newB (Kd.R_new' (Kd.R_new' ho95 (Kd.R_lt (qR HO176))) (Kd.R_lt (qR HO182))) (qK BK127)) (below_size (by repeat first | (with_reducible first | exact HB.out | apply bA | apply bN | apply bD | refine bS ?_ GE127.out) | exact HB.out))); have n3_ := Aside0.mk (blk_below (qK BK127) hb); have n4_ := Aside0.mk (below_step (by repeat first | (with_reducible first | exact HB.out | apply bA | apply bN | apply bD | refine bS ?_ GE127.out) | exact HB.out) hb); clear HO176; clear HO182; clear BK127; clear HB; have HO176 := n0_; have HO182 := n1_; have HO186 := n2_; have BK127 := n3_; have HB := n4_; clear n0_ n1_ n2_ n3_ n4_; clear hb ho95) | ((with_reducible refine gate_builtin (b := .append) (xs := #[.tmp 55, .tmp 56]) rfl ?_); at_builtin; refine Kd.R_append_rows k62 (w0 := w) w.heap.size rfl (.tmp 55) (.tmp 56) 29 62 (.agg #[(.int .i64 0), (.int .i64 0)]) 16 rfl Try.underlying29 info62 rfl (by decide) (by omega) v185 y184 l0 _ _ _ (fun k_ => some k_ ≠ (.slice Ao90 y174.length co90 : Value).ownBlock ∧ some k_ ≠ (.slice Ao92 y180.length co92 : Value).ownBlock ∧ k_ ≠ gb127) (fun _ => False) rfl rfl ?aO ?aR (fun _ _ h => h) (fun _ h => h.elim) ?aF ?aB ?aS ?aL ?_; (case aR => exact qC (Kd.C_below HR0.out HB.out)); (case aB => exact (by repeat first | (with_reducible first | exact HB.out | apply bA | apply bN | apply bD | refine bS ?_ GE127.out) | exact HB.out)); (case aF => exact (fun k_ hk => ⟨Kd.fresh' (Kd.R_lt (qR HO176)) k_ hk, Kd.fresh' (Kd.R_lt (qR HO182)) k_ hk, Kd.freshB (qK BK127) k_ hk⟩)); (case aO => exact (by (with_reducible repeat first | apply rA | apply rN | apply rD); exact Kd.R_mono HO186.out (fun _ hk => ⟨hk.1.1.2, ⟨hk.1.2, hk.2⟩⟩))); (case aS => exact (below_size (by repeat first | (with_reducible first | exact HB.out | apply bA | apply bN | apply bD | refine bS ?_ GE127.out) | exact HB.out))); (case aL => have := LMc80.out; omega); intro v188 w96 ho hb hg hat; rw [← Ny187.out] at ho; have n0_ := Aside0.mk (blk_grown (qK BK127) hg (Kd.R_away HO186.out (fun _ hk => hk.2))); have n1_ := Aside0.mk (Kd.R_after (ok := (fun k_ => some k_ ≠ (.slice Ao92 y180.length co92 : Value).ownBlock ∧ k_ ≠ gb127)) (by (with_reducible repeat first | apply rA | apply rN | apply rD); exact Kd.R_mono HO176.out (fun _ hk => ⟨⟨hk.1.2, hk.1.1⟩, hk.2⟩)) hg hat); have n2_ := Aside0.mk (Kd.R_after (ok := (fun k_ => some k_ ≠ (.slice Ao90 y174.length co90 : Value).ownBlock ∧ k_ ≠ gb127)) (qR HO182) hg hat); have n3_ := Aside0.mk (hb); have n4_ := Aside0.mk (ho); clear BK127; clear HO176; clear HO182; clear HB; clear HO186; have BK127 := n0_; have HO176 := n1_; have HO182 := n2_; have HB := n3_; have HO189 := n4_; clear n0_ n1_ n2_ n3_ n4_; clear ho hb hg hat))
               go_ret2
               exact ⟨_, by first | rfl | (simp [errW_none, errW_some] <;> rfl) | (simp [*, errW_none, errW_some] <;> rfl), by (with_reducible repeat first | apply rA | apply rN | apply rD); exact Kd.R_mono HO189.out (fun _ hk => trivial), by repeat (first | (with_reducible first | exact HB.out | apply bA | apply bN | apply bD | refine bS ?_ GE127.out) | exact HB.out)⟩
              ·rw [if_neg c80] at H
               exact absurd H (by simp)
            ·rw [if_neg c64] at H
             exact absurd H (by simp)
           ·rw [if_neg c63] at H
            exact absurd H (by simp)
          ·rw [if_neg c62] at H
           exact absurd H (by simp)
         ·rw [if_neg c61] at H
          exact absurd H (by simp)
        ·rw [if_neg c60] at H
         exact absurd H (by simp)
    ·rw [if_neg c12] at H
     exact absurd H (by simp)
   ·rw [if_neg c11] at H
    exact absurd H (by simp)

end Go.Proofs.Ytppgealmedaihaa.PFnMarks
