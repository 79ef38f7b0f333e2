-- The printed functions of one law and their contracts, over contracts of this session's own (hand.py).
import Derived.Test.YtkfalbaklodnjaaPFnExactLeftBetweenx0
import Derived.Test.YtkfalbaklodnjaaPFnExactLeftBetweenx3
namespace Go.Proofs.Ytkfalbaklodnjaa.PFnExactLeftBetween
open Go.RowKit Go.Proofs.YtkfalbaklodnjaaW.PrintWords Go.Proofs.YtkfalbaklodnjaaW.PrintLast Go.Proofs.YtkfalbaklodnjaaW.PrintMore Go.Proofs.Ytkfalbaklodnjaa.Short
attribute [local go_sem] max2_int min2_int max_two min_two max_three min_three max_four min_four   -- for this text's walks alone
set_option linter.unusedVariables false
set_option linter.unusedSimpArgs false

/-! ### spec_Meet: function 111 -/
def spec_Meet.f (a0_0 : Int) (a0_1 : Int) (a1_0 : Int) (a1_1 : Int) : Option (Int × Int × Bool) := (spec_Max.f a0_0 a1_0).bind fun t112 => ((spec_Min.f a0_1 a1_1).bind fun t113 => ((spec_IsSpan.f a0_0 a0_1).bind fun t115 => (if t115 = true then ((spec_IsSpan.f a1_0 a1_1).bind fun t116 => (if t116 = true then ((spec_IsSpan.f t112 t113).bind fun t117 => (if t117 = true then (some (t112, t113, true)) else (some (0, 0, false)))) else (some (0, 0, false)))) else (some (0, 0, false)))))
def spec_Meet.T1 : Bool × List (List Nat × List Nat) := (true, [([], []), ([0], [0]), ([], []), ([2], [2]), ([1, 3], [1, 3]), ([], []), ([5], [5]), ([], []), ([7], [7]), ([6, 8, 4], [6, 8]), ([4, 9], [4, 9]), ([], []), ([11, 10, 9, 0, 1, 2, 3, 4, 5, 6, 7, 8, 9, 10, 11], [10, 11])])
def spec_Meet.B1 : List Nat := [0, 1, 0, 4, 15, 0, 32, 0, 128, 511, 1023, 0, 4095]
theorem spec_Meet.tab1 : rtab .any (opsOf Try.f111 1) = spec_Meet.T1 := by kernel_rfl
theorem spec_Meet.bits1 : waitsOk spec_Meet.T1.2 spec_Meet.B1 = true := by kernel_rfl
set_option maxHeartbeats 8000000 in
set_option maxRecDepth 100000 in
theorem spec_Meet.calls (a0_0 : Int) (a0_1 : Int) (a1_0 : Int) (a1_1 : Int) (r1 : Int) (r2 : Int) (r3 : Bool) (w : World) (h : spec_Meet.f a0_0 a0_1 a1_0 a1_1 = some (r1, r2, r3)) :
  Calls Try.prog 111 #[.agg #[.int .i64 a0_0, .int .i64 a0_1], .agg #[.int .i64 a1_0, .int .i64 a1_1]] w fun e w' => e = .returned (.tuple #[.agg #[.int .i64 r1, .int .i64 r2], .bool r3]) ∧ Below w.heap.size w w' := by
 have hu43 := Try.underlying43
 have HB := Aside0.mk (Below.refl w.heap.size w)
 have H : ((spec_Max.f a0_0 a1_0).bind fun t112 => ((spec_Min.f a0_1 a1_1).bind fun t113 => ((spec_IsSpan.f a0_0 a0_1).bind fun t115 => (if t115 = true then ((spec_IsSpan.f a1_0 a1_1).bind fun t116 => (if t116 = true then ((spec_IsSpan.f t112 t113).bind fun t117 => (if t117 = true then (some (t112, t113, true)) else (some (0, 0, false)))) else (some (0, 0, false)))) else (some (0, 0, false)))))) = some (r1, r2, r3) := h
 clear h
 replace H := Option.bind_eq_some_iff.mp H
 obtain ⟨t112, A30, H⟩ := H
 replace H : ((spec_Min.f a0_1 a1_1).bind fun t113 => ((spec_IsSpan.f a0_0 a0_1).bind fun t115 => (if t115 = true then ((spec_IsSpan.f a1_0 a1_1).bind fun t116 => (if t116 = true then ((spec_IsSpan.f t112 t113).bind fun t117 => (if t117 = true then (some (t112, t113, true)) else (some (0, 0, false)))) else (some (0, 0, false)))) else (some (0, 0, false))))) = some (r1, r2, r3) := H
 have A3 := Aside0.mk A30
 clear A30
 replace H := Option.bind_eq_some_iff.mp H
 obtain ⟨t113, A40, H⟩ := H
 replace H : ((spec_IsSpan.f a0_0 a0_1).bind fun t115 => (if t115 = true then ((spec_IsSpan.f a1_0 a1_1).bind fun t116 => (if t116 = true then ((spec_IsSpan.f t112 t113).bind fun t117 => (if t117 = true then (some (t112, t113, true)) else (some (0, 0, false)))) else (some (0, 0, false)))) else (some (0, 0, false)))) = some (r1, r2, r3) := H
 have A4 := Aside0.mk A40
 clear A40
 replace H := Option.bind_eq_some_iff.mp H
 obtain ⟨t115, A50, H⟩ := H
 replace H : (if t115 = true then ((spec_IsSpan.f a1_0 a1_1).bind fun t116 => (if t116 = true then ((spec_IsSpan.f t112 t113).bind fun t117 => (if t117 = true then (some (t112, t113, true)) else (some (0, 0, false)))) else (some (0, 0, false)))) else (some (0, 0, false))) = some (r1, r2, r3) := H
 have A5 := Aside0.mk A50
 clear A50
 by_cases c6 : t115 = true
 ·subst c6
  have H1 : ((spec_IsSpan.f a1_0 a1_1).bind fun t116 => (if t116 = true then ((spec_IsSpan.f t112 t113).bind fun t117 => (if t117 = true then (some (t112, t113, true)) else (some (0, 0, false)))) else (some (0, 0, false)))) = some (r1, r2, r3) := by rw [if_pos rfl] at H; exact H
  clear H
  have H := H1
  clear H1
  replace H := Option.bind_eq_some_iff.mp H
  obtain ⟨t116, A70, H⟩ := H
  replace H : (if t116 = true then ((spec_IsSpan.f t112 t113).bind fun t117 => (if t117 = true then (some (t112, t113, true)) else (some (0, 0, false)))) else (some (0, 0, false))) = some (r1, r2, r3) := H
  have A7 := Aside0.mk A70
  clear A70
  by_cases c8 : t116 = true
  ·subst c8
   have H1 : ((spec_IsSpan.f t112 t113).bind fun t117 => (if t117 = true then (some (t112, t113, true)) else (some (0, 0, false)))) = some (r1, r2, r3) := by rw [if_pos rfl] at H; exact H
   clear H
   have H := H1
   clear H1
   replace H := Option.bind_eq_some_iff.mp H
   obtain ⟨t117, A90, H⟩ := H
   replace H : (if t117 = true then (some (t112, t113, true)) else (some (0, 0, false))) = some (r1, r2, r3) := H
   have A9 := Aside0.mk A90
   clear A90
   by_cases c10 : t117 = true
   ·subst c10
    have H1 : (some (t112, t113, true)) = some (r1, r2, r3) := by rw [if_pos rfl] at H; exact H
    clear H
    have H := H1
    clear H1
    simp only [Option.some.injEq, Prod.mk.injEq] at H
    obtain ⟨rfl, rfl, rfl⟩ := H
    go_enter Try.func111, Try.ntmps111
    try go_wp2_with (first | ((with_reducible refine gate_dst (N := 2) rfl ?_); refine box_event ?hg (N := 2) ?hd (cs := #[.int .i64 a0_0, .int .i64 a0_1]) (t := 43) ?hr ?_; (case hd => rfl); (case hg => rfl); (case hr => first | (go_simp; done) | (go_simp; rfl)); intro gb109 hg w11 hbox hb; have n0_ := Aside0.mk (below_step (qB HB) hb); have n1_ := Aside0.mk (hbox); have n2_ := Aside0.mk ((by rw [hg]; exact (below_size (qB HB)) : w.heap.size ≤ gb109)); have n3_ := Aside0.mk ((by rw [hg]; exact (below_size (qB HB)) : w.heap.size ≤ gb109)); clear HB; have HB := n0_; have BK109 := n1_; have GW109 := n2_; have GE109 := n3_; clear n0_ n1_ n2_ n3_; clear hb hbox hg) | ((with_reducible refine gate_dst (N := 3) rfl ?_); refine box_event ?hg (N := 3) ?hd (cs := #[.int .i64 a1_0, .int .i64 a1_1]) (t := 43) ?hr ?_; (case hd => rfl); (case hg => rfl); (case hr => first | (go_simp; done) | (go_simp; rfl)); intro gb110 hg w12 hbox hb; have n0_ := Aside0.mk (blk_below (qK BK109) hb); have n1_ := Aside0.mk (below_step (by repeat first | (with_reducible first | exact HB.out | apply bA | apply bN | apply bD | refine bS ?_ GE109.out) | exact HB.out) hb); have n2_ := Aside0.mk (hbox); have n3_ := Aside0.mk ((by rw [hg]; exact (below_size (by repeat first | (with_reducible first | exact HB.out | apply bA | apply bN | apply bD | refine bS ?_ GE109.out) | exact HB.out)) : w.heap.size ≤ gb110)); have n4_ := Aside0.mk ((by rw [hg]; exact (below_size (by repeat first | (with_reducible first | exact HB.out | apply bA | apply bN | apply bD | refine bS ?_ GE109.out) | exact HB.out)) : w.heap.size ≤ gb110)); have n5_ := Aside0.mk ((by rw [hg]; exact Nat.ne_of_lt (blk_lt (qK BK109)) : gb109 ≠ gb110)); have n6_ := Aside0.mk ((by rw [hg]; exact Nat.ne_of_gt (blk_lt (qK BK109)) : gb110 ≠ gb109)); clear BK109; clear HB; have BK109 := n0_; have HB := n1_; have BK110 := n2_; have GW110 := n3_; have GE110 := n4_; have NB109_110 := n5_; have NB110_109 := n6_; clear n0_ n1_ n2_ n3_ n4_ n5_ n6_; clear hb hbox hg) | ((with_reducible refine gate_dst (N := 4) rfl ?_); refine box_event ?hg (N := 4) ?hd (cs := #[.int .i64 0, .int .i64 0]) (t := 43) ?hr ?_; (case hd => rfl); (case hg => rfl); (case hr => first | (go_simp; done) | (go_simp; rfl)); intro gb111 hg w13 hbox hb; have n0_ := Aside0.mk (blk_below (qK BK109) hb); have n1_ := Aside0.mk (blk_below (qK BK110) hb); have n2_ := Aside0.mk (below_step (by repeat first | (with_reducible first | exact HB.out | apply bA | apply bN | apply bD | refine bS ?_ GE109.out | refine bS ?_ GE110.out) | exact HB.out) hb); have n3_ := Aside0.mk (hbox); have n4_ := Aside0.mk ((by rw [hg]; exact (below_size (by repeat first | (with_reducible first | exact HB.out | apply bA | apply bN | apply bD | refine bS ?_ GE109.out | refine bS ?_ GE110.out) | exact HB.out)) : w.heap.size ≤ gb111)); have n5_ := Aside0.mk ((by rw [hg]; exact (below_size (by repeat first | (with_reducible first | exact HB.out | apply bA | apply bN | apply bD | refine bS ?_ GE109.out | refine bS ?_ GE110.out) | exact HB.out)) : w.heap.size ≤ gb111)); have n6_ := Aside0.mk ((by rw [hg]; exact Nat.ne_of_lt (blk_lt (qK BK109)) : gb109 ≠ gb111)); have n7_ := Aside0.mk ((by rw [hg]; exact Nat.ne_of_gt (blk_lt (qK BK109)) : gb111 ≠ gb109)); have n8_ := Aside0.mk ((by rw [hg]; exact Nat.ne_of_lt (blk_lt (qK BK110)) : gb110 ≠ gb111)); have n9_ := Aside0.mk ((by rw [hg]; exact Nat.ne_of_gt (blk_lt (qK BK110)) : gb111 ≠ gb110)); clear BK109; clear BK110; clear HB; have BK109 := n0_; have BK110 := n1_; have HB := n2_; have BK111 := n3_; have GW111 := n4_; have GE111 := n5_; have NB109_111 := n6_; have NB111_109 := n7_; have NB110_111 := n8_; have NB111_110 := n9_; clear n0_ n1_ n2_ n3_ n4_ n5_ n6_ n7_ n8_ n9_; clear hb hbox hg))
    have n0_ := Aside0.mk (blk_drew BK109.out)
    have n1_ := Aside0.mk (blk_drew BK110.out)
    have n2_ := Aside0.mk (blk_drew BK111.out)
    have n3_ := Aside0.mk (below_drew1 HB.out)
    clear BK109
    clear BK110
    clear BK111
    clear HB
    have BK109 := n0_
    have BK110 := n1_
    have BK111 := n2_
    have HB := n3_
    clear n0_ n1_ n2_ n3_
    refine start_ (n := 13) (S := fun w' => w'.cell? ⟨gb109, 0, none⟩ = some (.int .i64 a0_0) ∧ w'.cell? ⟨gb109, 1, none⟩ = some (.int .i64 a0_1) ∧ w'.cell? ⟨gb110, 0, none⟩ = some (.int .i64 a1_0) ∧ w'.cell? ⟨gb110, 1, none⟩ = some (.int .i64 a1_1)) (ds := []) (bR [0, 13]) (by kernel_rfl) rfl rfl ⟨cC BK109 0, cC BK109 1, cC BK110 0, cC BK110 1⟩ (fun hHeld => ?_); refine with_tabW spec_Meet.tab1 spec_Meet.bits1 (fun HT_ HW_ => ?_)
    generalize w13.drew = w14 at BK109 BK110 BK111 HB hHeld ⊢
    refine pP 0 7 (bR [1, 12]) rfl rfl HT_ ?_
    refine pP 2 9 (bR [1, 1, 1, 10]) rfl rfl HT_ ?_
    refine pP 5 12 (bR [1, 1, 1, 2, 1, 7]) rfl rfl HT_ ?_
    refine pP 7 14 (bR [1, 1, 1, 2, 1, 1, 1, 5]) rfl rfl HT_ ?_
    refine take_ (i := 1) (N := some 8) (v := ?_) (a' := ?_) (bR [3, 2, 1, 1, 1, 5]) rfl rfl (take_ofW HT_.out HW_.out (by kernel_rfl)) (fun _ _ _ h => h) (Or.inl ⟨by rfl, ?_⟩) hHeld ?_ ?_
    rotate_left; (rintro w' ⟨s0, s1, s2, s3⟩; go_simp; with_reducible rfl); rotate_left; (simp only [Act.put, sA, sZ, sS, i64_w]; rfl)
    refine take_ (i := 3) (N := some 10) (v := ?_) (a' := ?_) (bR [4, 1, 1, 1, 1, 5]) rfl rfl (take_ofW HT_.out HW_.out (by kernel_rfl)) (fun _ _ _ h => h) (Or.inl ⟨by rfl, ?_⟩) hHeld ?_ ?_
    rotate_left; (rintro w' ⟨s0, s1, s2, s3⟩; go_simp; with_reducible rfl); rotate_left; (simp only [Act.put, sA, sZ, sS, i64_w]; rfl)
    refine take_ (i := 6) (N := some 13) (v := ?_) (a' := ?_) (bR [4, 1, 3, 5]) rfl rfl (take_ofW HT_.out HW_.out (by kernel_rfl)) (fun _ _ _ h => h) (Or.inl ⟨by rfl, ?_⟩) hHeld ?_ ?_
    rotate_left; (rintro w' ⟨s0, s1, s2, s3⟩; go_simp; with_reducible rfl); rotate_left; (simp only [Act.put, sA, sZ, sS, i64_w]; rfl)
    refine take_ (i := 8) (N := some 15) (v := ?_) (a' := ?_) (bR [4, 1, 4, 4]) rfl rfl (take_ofW HT_.out HW_.out (by kernel_rfl)) (fun _ _ _ h => h) (Or.inl ⟨by rfl, ?_⟩) hHeld ?_ ?_
    rotate_left; (rintro w' ⟨s0, s1, s2, s3⟩; go_simp; with_reducible rfl); rotate_left; (simp only [Act.put, sA, sZ, sS, i64_w]; rfl)
    refine join_ (σ := Nat) 1 (bR [12, 1]) (fun s_ => [(11, .int .i64 t112), (16, .int .i64 t113), (6, .pointer (some ⟨s_, 0, none⟩)), (17, .agg #[.int .i64 t112, .int .i64 t113])]) (fun s_ w' => (w'.cell? ⟨gb109, 0, none⟩ = some (.int .i64 a0_0) ∧ w'.cell? ⟨gb109, 1, none⟩ = some (.int .i64 a0_1) ∧ w'.cell? ⟨gb110, 0, none⟩ = some (.int .i64 a1_0) ∧ w'.cell? ⟨gb110, 1, none⟩ = some (.int .i64 a1_1)) ∧ (w'.heap[gb109]? = some (.cells #[.int .i64 a0_0, .int .i64 a0_1] 43 (0, 0))) ∧ (w'.heap[gb110]? = some (.cells #[.int .i64 a1_0, .int .i64 a1_1] 43 (0, 0))) ∧ (w'.heap[gb111]? = some (.cells #[.int .i64 0, .int .i64 0] 43 (0, 0))) ∧ (w'.heap[s_]? = some (.cells #[.int .i64 0, .int .i64 0] 43 (0, 0))) ∧ (w.heap.size ≤ s_) ∧ (w.heap.size ≤ s_) ∧ (gb109 ≠ s_) ∧ (s_ ≠ gb109) ∧ (gb110 ≠ s_) ∧ (s_ ≠ gb110) ∧ (gb111 ≠ s_) ∧ (s_ ≠ gb111) ∧ (Below w.heap.size w w')) ?_ ?_
    rotate_left
    ·intro hCont
     refine two_ (i := 4) (j := 11) (Ni := some 11) (Nj := some 6) (bR [9, 4]) (bR [4, 1, 4, 2, 1, 1]) rfl rfl rfl rfl (two_of HT_.out (by kernel_rfl)) (by decide) (by decide) (fun K hK => ?_) (fun K hK => ?_)
     ·skip
      refine goes_ Try.func143 (by kernel_rfl) rfl #[.int .i64 a0_0, .int .i64 a1_0] (by rfl) rfl rfl (by (try simp only [mA, mC, mN]); first | done | rfl | (simp only [lD, lT]; rfl)) ?_
      with_reducible refine (spec_Max.calls a0_0 a1_0 t112 _ A3.out).mono ?_
      rintro e w' ⟨rfl, ⟨nd, rfl⟩⟩
      refine ⟨_, rfl, ?_⟩
      refine hK.out _ _ ⟨cC BK109 0, cC BK109 1, cC BK110 0, cC BK110 1⟩ (fun hHeld => ?_)
      clear hK K
      refine norm_ (a' := ?_) ?_ ?_
      rotate_left
      ·show Act.put _ (some 11) _ = _
       simp only [Act.put, sA, sZ, sS, i64_w]
       rfl
      refine two_ (i := 9) (j := 11) (Ni := some 16) (Nj := some 6) (bR [10, 3]) (bR [9, 2, 1, 1]) rfl rfl rfl rfl (two_of HT_.out (by kernel_rfl)) (by decide) (by decide) (fun K hK => ?_) (fun K hK => ?_)
      ·skip
       refine goes_ Try.func147 (by kernel_rfl) rfl #[.int .i64 a0_1, .int .i64 a1_1] (by rfl) rfl rfl (by (try simp only [mA, mC, mN]); first | done | rfl | (simp only [lD, lT]; rfl)) ?_
       with_reducible refine (spec_Min.calls a0_1 a1_1 t113 _ A4.out).mono ?_
       rintro e w' ⟨rfl, ⟨nd, rfl⟩⟩
       refine ⟨_, rfl, ?_⟩
       refine hK.out _ _ ⟨cC BK109 0, cC BK109 1, cC BK110 0, cC BK110 1⟩ (fun hHeld => ?_)
       clear hK K
       refine norm_ (a' := ?_) ?_ ?_
       rotate_left
       ·show Act.put _ (some 16) _ = _
        simp only [Act.put, sA, sZ, sS, i64_w]
        rfl
       refine pP 10 17 (bR [11, 2]) rfl rfl HT_ ?_
       refine one_ (i := 11) (N := some 6) (bR [12, 1]) rfl rfl (one_of HT_.out (by kernel_rfl)) (by decide) (fun K hK => ?_)
       refine box_step ?hg (N := 6) ?hd (cs := #[.int .i64 0, .int .i64 0]) (t := 43) ?hr ?_; (case hd => rfl); (case hg => rfl); (case hr => first | (go_simp; done) | (go_simp; rfl))
       intro gb114 hg w15 hbox hb
       have n0_ := Aside0.mk (blk_below (qK BK109) hb)
       have n1_ := Aside0.mk (blk_below (qK BK110) hb)
       have n2_ := Aside0.mk (blk_below (qK BK111) hb)
       have n3_ := Aside0.mk (below_step (by repeat first | (with_reducible first | exact HB.out | apply bA | apply bN | apply bD | refine bS ?_ GE109.out | refine bS ?_ GE110.out | refine bS ?_ GE111.out) | exact HB.out) hb)
       have n4_ := Aside0.mk (hbox)
       have n5_ := Aside0.mk ((by rw [hg]; exact (below_size (by repeat first | (with_reducible first | exact HB.out | apply bA | apply bN | apply bD | refine bS ?_ GE109.out | refine bS ?_ GE110.out | refine bS ?_ GE111.out) | exact HB.out)) : w.heap.size ≤ gb114))
       have n6_ := Aside0.mk ((by rw [hg]; exact (below_size (by repeat first | (with_reducible first | exact HB.out | apply bA | apply bN | apply bD | refine bS ?_ GE109.out | refine bS ?_ GE110.out | refine bS ?_ GE111.out) | exact HB.out)) : w.heap.size ≤ gb114))
       have n7_ := Aside0.mk ((by rw [hg]; exact Nat.ne_of_lt (blk_lt (qK BK109)) : gb109 ≠ gb114))
       have n8_ := Aside0.mk ((by rw [hg]; exact Nat.ne_of_gt (blk_lt (qK BK109)) : gb114 ≠ gb109))
       have n9_ := Aside0.mk ((by rw [hg]; exact Nat.ne_of_lt (blk_lt (qK BK110)) : gb110 ≠ gb114))
       have n10_ := Aside0.mk ((by rw [hg]; exact Nat.ne_of_gt (blk_lt (qK BK110)) : gb114 ≠ gb110))
       have n11_ := Aside0.mk ((by rw [hg]; exact Nat.ne_of_lt (blk_lt (qK BK111)) : gb111 ≠ gb114))
       have n12_ := Aside0.mk ((by rw [hg]; exact Nat.ne_of_gt (blk_lt (qK BK111)) : gb114 ≠ gb111))
       clear BK109
       clear BK110
       clear BK111
       clear HB
       have BK109 := n0_
       have BK110 := n1_
       have BK111 := n2_
       have HB := n3_
       have BK114 := n4_
       have GW114 := n5_
       have GE114 := n6_
       have NB109_114 := n7_
       have NB114_109 := n8_
       have NB110_114 := n9_
       have NB114_110 := n10_
       have NB111_114 := n11_
       have NB114_111 := n12_
       clear n0_ n1_ n2_ n3_ n4_ n5_ n6_ n7_ n8_ n9_ n10_ n11_ n12_
       clear hb hbox hg
       refine hK.out _ _ ⟨cC BK109 0, cC BK109 1, cC BK110 0, cC BK110 1⟩ (fun hHeld => ?_)
       clear hK K
       refine norm_ (a' := ?_) ?_ ?_
       rotate_left
       ·show Act.put _ (some 6) _ = _
        simp only [Act.put, sA, sZ, sS, i64_w]
        rfl
       exact norm_ (by simp only [putAll, Act.put, sA, sZ, sS]) (hCont (gb114) _ ⟨hHeld, (qK BK109), (qK BK110), (qK BK111), (qK BK114), GW114.out, GE114.out, NB109_114.out, NB114_109.out, NB110_114.out, NB114_110.out, NB111_114.out, NB114_111.out, (by repeat first | (with_reducible first | exact HB.out | apply bA | apply bN | apply bD | refine bS ?_ GE109.out | refine bS ?_ GE110.out | refine bS ?_ GE111.out | refine bS ?_ GE114.out) | exact HB.out)⟩)
      ·skip
       refine box_step ?hg (N := 6) ?hd (cs := #[.int .i64 0, .int .i64 0]) (t := 43) ?hr ?_; (case hd => rfl); (case hg => rfl); (case hr => first | (go_simp; done) | (go_simp; rfl))
       intro gb114 hg w15 hbox hb
       have n0_ := Aside0.mk (blk_below (qK BK109) hb)
       have n1_ := Aside0.mk (blk_below (qK BK110) hb)
       have n2_ := Aside0.mk (blk_below (qK BK111) hb)
       have n3_ := Aside0.mk (below_step (by repeat first | (with_reducible first | exact HB.out | apply bA | apply bN | apply bD | refine bS ?_ GE109.out | refine bS ?_ GE110.out | refine bS ?_ GE111.out) | exact HB.out) hb)
       have n4_ := Aside0.mk (hbox)
       have n5_ := Aside0.mk ((by rw [hg]; exact (below_size (by repeat first | (with_reducible first | exact HB.out | apply bA | apply bN | apply bD | refine bS ?_ GE109.out | refine bS ?_ GE110.out | refine bS ?_ GE111.out) | exact HB.out)) : w.heap.size ≤ gb114))
       have n6_ := Aside0.mk ((by rw [hg]; exact (below_size (by repeat first | (with_reducible first | exact HB.out | apply bA | apply bN | apply bD | refine bS ?_ GE109.out | refine bS ?_ GE110.out | refine bS ?_ GE111.out) | exact HB.out)) : w.heap.size ≤ gb114))
       have n7_ := Aside0.mk ((by rw [hg]; exact Nat.ne_of_lt (blk_lt (qK BK109)) : gb109 ≠ gb114))
       have n8_ := Aside0.mk ((by rw [hg]; exact Nat.ne_of_gt (blk_lt (qK BK109)) : gb114 ≠ gb109))
       have n9_ := Aside0.mk ((by rw [hg]; exact Nat.ne_of_lt (blk_lt (qK BK110)) : gb110 ≠ gb114))
       have n10_ := Aside0.mk ((by rw [hg]; exact Nat.ne_of_gt (blk_lt (qK BK110)) : gb114 ≠ gb110))
       have n11_ := Aside0.mk ((by rw [hg]; exact Nat.ne_of_lt (blk_lt (qK BK111)) : gb111 ≠ gb114))
       have n12_ := Aside0.mk ((by rw [hg]; exact Nat.ne_of_gt (blk_lt (qK BK111)) : gb114 ≠ gb111))
       clear BK109
       clear BK110
       clear BK111
       clear HB
       have BK109 := n0_
       have BK110 := n1_
       have BK111 := n2_
       have HB := n3_
       have BK114 := n4_
       have GW114 := n5_
       have GE114 := n6_
       have NB109_114 := n7_
       have NB114_109 := n8_
       have NB110_114 := n9_
       have NB114_110 := n10_
       have NB111_114 := n11_
       have NB114_111 := n12_
       clear n0_ n1_ n2_ n3_ n4_ n5_ n6_ n7_ n8_ n9_ n10_ n11_ n12_
       clear hb hbox hg
       refine hK.out _ _ ⟨cC BK109 0, cC BK109 1, cC BK110 0, cC BK110 1⟩ (fun hHeld => ?_)
       clear hK K
       refine norm_ (a' := ?_) ?_ ?_
       rotate_left
       ·show Act.put _ (some 6) _ = _
        simp only [Act.put, sA, sZ, sS, i64_w]
        rfl
       refine one_ (i := 9) (N := some 16) (bR [10, 1, 1, 1]) rfl rfl (one_of HT_.out (by kernel_rfl)) (by decide) (fun K hK => ?_)
       refine goes_ Try.func147 (by kernel_rfl) rfl #[.int .i64 a0_1, .int .i64 a1_1] (by rfl) rfl rfl (by (try simp only [mA, mC, mN]); first | done | rfl | (simp only [lD, lT]; rfl)) ?_
       with_reducible refine (spec_Min.calls a0_1 a1_1 t113 _ A4.out).mono ?_
       rintro e w' ⟨rfl, ⟨nd, rfl⟩⟩
       refine ⟨_, rfl, ?_⟩
       refine hK.out _ _ ⟨cC BK109 0, cC BK109 1, cC BK110 0, cC BK110 1⟩ (fun hHeld => ?_)
       clear hK K
       refine norm_ (a' := ?_) ?_ ?_
       rotate_left
       ·show Act.put _ (some 16) _ = _
        simp only [Act.put, sA, sZ, sS, i64_w]
        rfl
       refine pP 10 17 (bR [12, 1]) rfl rfl HT_ ?_
       exact norm_ (by simp only [putAll, Act.put, sA, sZ, sS]) (hCont (gb114) _ ⟨hHeld, (qK BK109), (qK BK110), (qK BK111), (qK BK114), GW114.out, GE114.out, NB109_114.out, NB114_109.out, NB110_114.out, NB114_110.out, NB111_114.out, NB114_111.out, (by repeat first | (with_reducible first | exact HB.out | apply bA | apply bN | apply bD | refine bS ?_ GE109.out | refine bS ?_ GE110.out | refine bS ?_ GE111.out | refine bS ?_ GE114.out) | exact HB.out)⟩)
     ·skip
      refine box_step ?hg (N := 6) ?hd (cs := #[.int .i64 0, .int .i64 0]) (t := 43) ?hr ?_; (case hd => rfl); (case hg => rfl); (case hr => first | (go_simp; done) | (go_simp; rfl))
      intro gb114 hg w15 hbox hb
      have n0_ := Aside0.mk (blk_below (qK BK109) hb)
      have n1_ := Aside0.mk (blk_below (qK BK110) hb)
      have n2_ := Aside0.mk (blk_below (qK BK111) hb)
      have n3_ := Aside0.mk (below_step (by repeat first | (with_reducible first | exact HB.out | apply bA | apply bN | apply bD | refine bS ?_ GE109.out | refine bS ?_ GE110.out | refine bS ?_ GE111.out) | exact HB.out) hb)
      have n4_ := Aside0.mk (hbox)
      have n5_ := Aside0.mk ((by rw [hg]; exact (below_size (by repeat first | (with_reducible first | exact HB.out | apply bA | apply bN | apply bD | refine bS ?_ GE109.out | refine bS ?_ GE110.out | refine bS ?_ GE111.out) | exact HB.out)) : w.heap.size ≤ gb114))
      have n6_ := Aside0.mk ((by rw [hg]; exact (below_size (by repeat first | (with_reducible first | exact HB.out | apply bA | apply bN | apply bD | refine bS ?_ GE109.out | refine bS ?_ GE110.out | refine bS ?_ GE111.out) | exact HB.out)) : w.heap.size ≤ gb114))
      have n7_ := Aside0.mk ((by rw [hg]; exact Nat.ne_of_lt (blk_lt (qK BK109)) : gb109 ≠ gb114))
      have n8_ := Aside0.mk ((by rw [hg]; exact Nat.ne_of_gt (blk_lt (qK BK109)) : gb114 ≠ gb109))
      have n9_ := Aside0.mk ((by rw [hg]; exact Nat.ne_of_lt (blk_lt (qK BK110)) : gb110 ≠ gb114))
      have n10_ := Aside0.mk ((by rw [hg]; exact Nat.ne_of_gt (blk_lt (qK BK110)) : gb114 ≠ gb110))
      have n11_ := Aside0.mk ((by rw [hg]; exact Nat.ne_of_lt (blk_lt (qK BK111)) : gb111 ≠ gb114))
      have n12_ := Aside0.mk ((by rw [hg]; exact Nat.ne_of_gt (blk_lt (qK BK111)) : gb114 ≠ gb111))
      clear BK109
      clear BK110
      clear BK111
      clear HB
      have BK109 := n0_
      have BK110 := n1_
      have BK111 := n2_
      have HB := n3_
      have BK114 := n4_
      have GW114 := n5_
      have GE114 := n6_
      have NB109_114 := n7_
      have NB114_109 := n8_
      have NB110_114 := n9_
      have NB114_110 := n10_
      have NB111_114 := n11_
      have NB114_111 := n12_
      clear n0_ n1_ n2_ n3_ n4_ n5_ n6_ n7_ n8_ n9_ n10_ n11_ n12_
      clear hb hbox hg
      refine hK.out _ _ ⟨cC BK109 0, cC BK109 1, cC BK110 0, cC BK110 1⟩ (fun hHeld => ?_)
      clear hK K
      refine norm_ (a' := ?_) ?_ ?_
      rotate_left
      ·show Act.put _ (some 6) _ = _
       simp only [Act.put, sA, sZ, sS, i64_w]
       rfl
      refine one_ (i := 4) (N := some 11) (bR [9, 2, 1, 1]) rfl rfl (one_of HT_.out (by kernel_rfl)) (by decide) (fun K hK => ?_)
      refine goes_ Try.func143 (by kernel_rfl) rfl #[.int .i64 a0_0, .int .i64 a1_0] (by rfl) rfl rfl (by (try simp only [mA, mC, mN]); first | done | rfl | (simp only [lD, lT]; rfl)) ?_
      with_reducible refine (spec_Max.calls a0_0 a1_0 t112 _ A3.out).mono ?_
      rintro e w' ⟨rfl, ⟨nd, rfl⟩⟩
      refine ⟨_, rfl, ?_⟩
      refine hK.out _ _ ⟨cC BK109 0, cC BK109 1, cC BK110 0, cC BK110 1⟩ (fun hHeld => ?_)
      clear hK K
      refine norm_ (a' := ?_) ?_ ?_
      rotate_left
      ·show Act.put _ (some 11) _ = _
       simp only [Act.put, sA, sZ, sS, i64_w]
       rfl
      refine one_ (i := 9) (N := some 16) (bR [10, 1, 1, 1]) rfl rfl (one_of HT_.out (by kernel_rfl)) (by decide) (fun K hK => ?_)
      refine goes_ Try.func147 (by kernel_rfl) rfl #[.int .i64 a0_1, .int .i64 a1_1] (by rfl) rfl rfl (by (try simp only [mA, mC, mN]); first | done | rfl | (simp only [lD, lT]; rfl)) ?_
      with_reducible refine (spec_Min.calls a0_1 a1_1 t113 _ A4.out).mono ?_
      rintro e w' ⟨rfl, ⟨nd, rfl⟩⟩
      refine ⟨_, rfl, ?_⟩
      refine hK.out _ _ ⟨cC BK109 0, cC BK109 1, cC BK110 0, cC BK110 1⟩ (fun hHeld => ?_)
      clear hK K
      refine norm_ (a' := ?_) ?_ ?_
      rotate_left
      ·show Act.put _ (some 16) _ = _
       simp only [Act.put, sA, sZ, sS, i64_w]
       rfl
      refine pP 10 17 (bR [12, 1]) rfl rfl HT_ ?_
      exact norm_ (by simp only [putAll, Act.put, sA, sZ, sS]) (hCont (gb114) _ ⟨hHeld, (qK BK109), (qK BK110), (qK BK111), (qK BK114), GW114.out, GE114.out, NB109_114.out, NB114_109.out, NB110_114.out, NB114_110.out, NB111_114.out, NB114_111.out, (by repeat first | (with_reducible first | exact HB.out | apply bA | apply bN | apply bD | refine bS ?_ GE109.out | refine bS ?_ GE110.out | refine bS ?_ GE111.out | refine bS ?_ GE114.out) | exact HB.out)⟩)
    rintro gb114 w16 ⟨hS_, h0_, h1_, h2_, h3_, h4_, h5_, h6_, h7_, h8_, h9_, h10_, h11_, h12_⟩
    have n0_ : Aside0 (w16.heap[gb109]? = some (.cells #[.int .i64 a0_0, .int .i64 a0_1] 43 (0, 0))) := ⟨h0_⟩
    have n1_ : Aside0 (w16.heap[gb110]? = some (.cells #[.int .i64 a1_0, .int .i64 a1_1] 43 (0, 0))) := ⟨h1_⟩
    have n2_ : Aside0 (w16.heap[gb111]? = some (.cells #[.int .i64 0, .int .i64 0] 43 (0, 0))) := ⟨h2_⟩
    have n3_ : Aside0 (w16.heap[gb114]? = some (.cells #[.int .i64 0, .int .i64 0] 43 (0, 0))) := ⟨h3_⟩
    have n4_ : Aside0 (w.heap.size ≤ gb114) := ⟨h4_⟩
    have n5_ : Aside0 (w.heap.size ≤ gb114) := ⟨h5_⟩
    have n6_ : Aside0 (gb109 ≠ gb114) := ⟨h6_⟩
    have n7_ : Aside0 (gb114 ≠ gb109) := ⟨h7_⟩
    have n8_ : Aside0 (gb110 ≠ gb114) := ⟨h8_⟩
    have n9_ : Aside0 (gb114 ≠ gb110) := ⟨h9_⟩
    have n10_ : Aside0 (gb111 ≠ gb114) := ⟨h10_⟩
    have n11_ : Aside0 (gb114 ≠ gb111) := ⟨h11_⟩
    have n12_ : Aside0 (Below w.heap.size w w16) := ⟨h12_⟩
    clear BK109
    clear BK110
    clear BK111
    clear HB
    clear h0_ h1_ h2_ h3_ h4_ h5_ h6_ h7_ h8_ h9_ h10_ h11_ h12_
    have BK109 := n0_
    have BK110 := n1_
    have BK111 := n2_
    have BK114 := n3_
    have GW114 := n4_
    have GE114 := n5_
    have NB109_114 := n6_
    have NB114_109 := n7_
    have NB110_114 := n8_
    have NB114_110 := n9_
    have NB111_114 := n10_
    have NB114_111 := n11_
    have HB := n12_
    clear n0_ n1_ n2_ n3_ n4_ n5_ n6_ n7_ n8_ n9_ n10_ n11_ n12_
    have hHeld : w16.cell? ⟨gb109, 0, none⟩ = some (.int .i64 a0_0) ∧ w16.cell? ⟨gb109, 1, none⟩ = some (.int .i64 a0_1) ∧ w16.cell? ⟨gb110, 0, none⟩ = some (.int .i64 a1_0) ∧ w16.cell? ⟨gb110, 1, none⟩ = some (.int .i64 a1_1) := hS_
    refine norm_ (a' := ?_) ?_ ?_
    rotate_left; (simp only [putAll, Act.put, sA, sZ, sS]; rfl)
    refine one_ (i := 12) (N := none) (bR [13]) rfl rfl (one_of HT_.out (by kernel_rfl)) (by decide) (fun K hK => ?_)
    have hs17 : w16.cell? ⟨gb114, 0, none⟩ = some (.int .i64 0) := cC BK114 0
    have hfs17 := blk_frozen BK114.out 0
    have hns17_0 := NB109_114.out
    have hns17_1 := NB110_114.out
    have hns17_2 := NB111_114.out
    have hms17_0 := NB114_109.out
    have hms17_1 := NB114_110.out
    have hms17_2 := NB114_111.out
    have hs18 : w16.cell? ⟨gb114, 1, none⟩ = some (.int .i64 0) := cC BK114 1
    have hfs18 := blk_frozen BK114.out 1
    have hns18_0 := NB109_114.out
    have hns18_1 := NB110_114.out
    have hns18_2 := NB111_114.out
    have hms18_0 := NB114_109.out
    have hms18_1 := NB114_110.out
    have hms18_2 := NB114_111.out
    refine skip_ (w1 := ?_) (by rfl) rfl ?_ ?_
    rotate_left
    ·go_simp
     rfl
    refine hK.out _ _ ⟨((cell_far (p := ⟨gb114, _, none⟩) NB109_114.out _).trans (((cell_far (p := ⟨gb114, _, none⟩) NB109_114.out _).trans (hHeld.1)))), ((cell_far (p := ⟨gb114, _, none⟩) NB109_114.out _).trans (((cell_far (p := ⟨gb114, _, none⟩) NB109_114.out _).trans (hHeld.2.1)))), ((cell_far (p := ⟨gb114, _, none⟩) NB110_114.out _).trans (((cell_far (p := ⟨gb114, _, none⟩) NB110_114.out _).trans (hHeld.2.2.1)))), ((cell_far (p := ⟨gb114, _, none⟩) NB110_114.out _).trans (((cell_far (p := ⟨gb114, _, none⟩) NB110_114.out _).trans (hHeld.2.2.2))))⟩ (fun hHeld => ?_)
    clear hK K
    refine done_ (done_of HT_.out (by kernel_rfl)) ?_
    have hnb19 := NB109_110.out
    have hnc19 := NB110_109.out
    have hnb20 := NB109_111.out
    have hnc20 := NB111_109.out
    have hnb21 := NB109_114.out
    have hnc21 := NB114_109.out
    have hcz22_0 : w16.cell? ⟨gb109, 0, none⟩ = some (.int .i64 a0_0) := cC BK109 0
    have hcz22_1 : w16.cell? ⟨gb109, 1, none⟩ = some (.int .i64 a0_1) := cC BK109 1
    have hfz22_0 := blk_frozen BK109.out 0
    have hfz22_1 := blk_frozen BK109.out 1
    try go_wp2_with (first | ((with_reducible refine gate_callee (f := 110) rfl ?_); refine goesL_ (some 19) rfl rfl Try.func110 (by kernel_rfl) rfl #[.agg #[.int .i64 a0_0, .int .i64 a0_1]] rfl (by (try simp only [mA, mC, mN]); first | done | rfl | (simp only [lD, lT]; rfl)) ?_; (with_reducible refine (spec_IsSpan.calls a0_0 a0_1 true _ A5.out).mono ?_); rintro e w23 ⟨rfl, hb⟩; refine ⟨_, rfl, ?_⟩; have n0_ := Aside0.mk (blk_below (g := gb109) (o := .cells #[.int .i64 a0_0, .int .i64 a0_1] 43 (0, 0)) (by (with_reducible repeat first | refine kN ?_ _ | refine kD ?_ | refine kA ?_ _); refine blk_far ?_ NB109_114.out _; (with_reducible repeat first | refine kN ?_ _ | refine kD ?_ | refine kA ?_ _); refine blk_far ?_ NB109_114.out _; (with_reducible repeat first | refine kN ?_ _ | refine kD ?_ | refine kA ?_ _); exact BK109.out) hb); have n1_ := Aside0.mk (blk_below (g := gb110) (o := .cells #[.int .i64 a1_0, .int .i64 a1_1] 43 (0, 0)) (by (with_reducible repeat first | refine kN ?_ _ | refine kD ?_ | refine kA ?_ _); refine blk_far ?_ NB110_114.out _; (with_reducible repeat first | refine kN ?_ _ | refine kD ?_ | refine kA ?_ _); refine blk_far ?_ NB110_114.out _; (with_reducible repeat first | refine kN ?_ _ | refine kD ?_ | refine kA ?_ _); exact BK110.out) hb); have n2_ := Aside0.mk (blk_below (g := gb111) (o := .cells #[.int .i64 0, .int .i64 0] 43 (0, 0)) (by (with_reducible repeat first | refine kN ?_ _ | refine kD ?_ | refine kA ?_ _); refine blk_far ?_ NB111_114.out _; (with_reducible repeat first | refine kN ?_ _ | refine kD ?_ | refine kA ?_ _); refine blk_far ?_ NB111_114.out _; (with_reducible repeat first | refine kN ?_ _ | refine kD ?_ | refine kA ?_ _); exact BK111.out) hb); have n3_ := Aside0.mk (blk_below (g := gb114) (o := .cells #[.int .i64 t112, .int .i64 t113] 43 (0, 0)) (by (with_reducible repeat first | refine kN ?_ _ | refine kD ?_ | refine kA ?_ _); refine blk_put (cs := #[.int .i64 t112, .int .i64 0]) ?_ 1 _ rfl; (with_reducible repeat first | refine kN ?_ _ | refine kD ?_ | refine kA ?_ _); refine blk_put (cs := #[.int .i64 0, .int .i64 0]) ?_ 0 _ rfl; (with_reducible repeat first | refine kN ?_ _ | refine kD ?_ | refine kA ?_ _); exact BK114.out) hb); have n4_ := Aside0.mk (below_step (by repeat first | (with_reducible first | exact HB.out | apply bA | apply bN | apply bD | refine bS ?_ GE109.out | refine bS ?_ GE110.out | refine bS ?_ GE111.out | refine bS ?_ GE114.out) | exact HB.out) hb); clear BK109; clear BK110; clear BK111; clear BK114; clear HB; have BK109 := n0_; have BK110 := n1_; have BK111 := n2_; have BK114 := n3_; have HB := n4_; clear n0_ n1_ n2_ n3_ n4_; (try clear hb); (try clear hb2); (try clear hk); (try clear hi); have hnb24 := NB110_111.out; have hnc24 := NB111_110.out; have hnb25 := NB110_114.out; have hnc25 := NB114_110.out; have hcz26_0 : w23.cell? ⟨gb110, 0, none⟩ = some (.int .i64 a1_0) := cC BK110 0; have hcz26_1 : w23.cell? ⟨gb110, 1, none⟩ = some (.int .i64 a1_1) := cC BK110 1; have hfz26_0 := blk_frozen BK110.out 0; have hfz26_1 := blk_frozen BK110.out 1) | (go_at_call 110; (with_reducible refine (spec_IsSpan.calls a1_0 a1_1 true _ A7.out).mono ?_); rintro e w27 ⟨rfl, hb⟩; have n0_ := Aside0.mk (blk_below (qK BK109) hb); have n1_ := Aside0.mk (blk_below (qK BK110) hb); have n2_ := Aside0.mk (blk_below (qK BK111) hb); have n3_ := Aside0.mk (blk_below (qK BK114) hb); have n4_ := Aside0.mk (below_step (by repeat first | (with_reducible first | exact HB.out | apply bA | apply bN | apply bD | refine bS ?_ GE109.out | refine bS ?_ GE110.out | refine bS ?_ GE111.out | refine bS ?_ GE114.out) | exact HB.out) hb); clear BK109; clear BK110; clear BK111; clear BK114; clear HB; have BK109 := n0_; have BK110 := n1_; have BK111 := n2_; have BK114 := n3_; have HB := n4_; clear n0_ n1_ n2_ n3_ n4_; (try clear hb); (try clear hb2); (try clear hk); (try clear hi); have hnb28 := NB114_111.out; have hnc28 := NB111_114.out; have hcz29_0 : w27.cell? ⟨gb114, 0, none⟩ = some (.int .i64 t112) := cC BK114 0; have hcz29_1 : w27.cell? ⟨gb114, 1, none⟩ = some (.int .i64 t113) := cC BK114 1; have hfz29_0 := blk_frozen BK114.out 0; have hfz29_1 := blk_frozen BK114.out 1) | (go_at_call 110; (with_reducible refine (spec_IsSpan.calls t112 t113 true _ A9.out).mono ?_); rintro e w30 ⟨rfl, hb⟩; have n0_ := Aside0.mk (blk_below (qK BK109) hb); have n1_ := Aside0.mk (blk_below (qK BK110) hb); have n2_ := Aside0.mk (blk_below (qK BK111) hb); have n3_ := Aside0.mk (blk_below (qK BK114) hb); have n4_ := Aside0.mk (below_step (by repeat first | (with_reducible first | exact HB.out | apply bA | apply bN | apply bD | refine bS ?_ GE109.out | refine bS ?_ GE110.out | refine bS ?_ GE111.out | refine bS ?_ GE114.out) | exact HB.out) hb); clear BK109; clear BK110; clear BK111; clear BK114; clear HB; have BK109 := n0_; have BK110 := n1_; have BK111 := n2_; have BK114 := n3_; have HB := n4_; clear n0_ n1_ n2_ n3_ n4_; (try clear hb); (try clear hb2); (try clear hk); (try clear hi); have hcz31_0 : w30.cell? ⟨gb114, 0, none⟩ = some (.int .i64 t112) := cC BK114 0; have hcz31_1 : w30.cell? ⟨gb114, 1, none⟩ = some (.int .i64 t113) := cC BK114 1; have hfz31_0 := blk_frozen BK114.out 0; have hfz31_1 := blk_frozen BK114.out 1; have hcz32_0 : w30.cell? ⟨gb111, 0, none⟩ = some (.int .i64 0) := cC BK111 0; have hcz32_1 : w30.cell? ⟨gb111, 1, none⟩ = some (.int .i64 0) := cC BK111 1; have hfz32_0 := blk_frozen BK111.out 0; have hfz32_1 := blk_frozen BK111.out 1))
    refine bodyPost_ret (results_ct rfl _ _ gb111 43 #[.int .i64 t112, .int .i64 t113] (0, 0) _ rfl (by (with_reducible repeat first | refine kN ?_ _ | refine kD ?_ | refine kA ?_ _); refine blk_put (cs := #[.int .i64 t112, .int .i64 0]) ?_ 1 _ rfl; (with_reducible repeat first | refine kN ?_ _ | refine kD ?_ | refine kA ?_ _); refine blk_put (cs := #[.int .i64 0, .int .i64 0]) ?_ 0 _ rfl; (with_reducible repeat first | refine kN ?_ _ | refine kD ?_ | refine kA ?_ _); exact BK111.out) Try.underlying43 rfl (by kernel_rfl)) rfl ?_
    exact ⟨by first | rfl | (simp [errW_none, errW_some] <;> rfl) | (simp [*, errW_none, errW_some] <;> rfl), by repeat (first | (with_reducible first | exact HB.out | apply bA | apply bN | apply bD | refine bS ?_ GE109.out | refine bS ?_ GE110.out | refine bS ?_ GE111.out | refine bS ?_ GE114.out) | exact HB.out)⟩
   ·replace c10 := Bool.eq_false_iff.mpr c10
    subst c10
    have H1 : (some (0, 0, false)) = some (r1, r2, r3) := by rw [if_neg (show ¬ (false = true) by decide)] at H; exact H
    clear H
    have H := H1
    clear H1
    simp only [Option.some.injEq, Prod.mk.injEq] at H
    obtain ⟨rfl, rfl, rfl⟩ := H
    go_enter Try.func111, Try.ntmps111
    try go_wp2_with (first | ((with_reducible refine gate_dst (N := 2) rfl ?_); refine box_event ?hg (N := 2) ?hd (cs := #[.int .i64 a0_0, .int .i64 a0_1]) (t := 43) ?hr ?_; (case hd => rfl); (case hg => rfl); (case hr => first | (go_simp; done) | (go_simp; rfl)); intro gb109 hg w33 hbox hb; have n0_ := Aside0.mk (below_step (qB HB) hb); have n1_ := Aside0.mk (hbox); have n2_ := Aside0.mk ((by rw [hg]; exact (below_size (qB HB)) : w.heap.size ≤ gb109)); have n3_ := Aside0.mk ((by rw [hg]; exact (below_size (qB HB)) : w.heap.size ≤ gb109)); clear HB; have HB := n0_; have BK109 := n1_; have GW109 := n2_; have GE109 := n3_; clear n0_ n1_ n2_ n3_; clear hb hbox hg) | ((with_reducible refine gate_dst (N := 3) rfl ?_); refine box_event ?hg (N := 3) ?hd (cs := #[.int .i64 a1_0, .int .i64 a1_1]) (t := 43) ?hr ?_; (case hd => rfl); (case hg => rfl); (case hr => first | (go_simp; done) | (go_simp; rfl)); intro gb110 hg w34 hbox hb; have n0_ := Aside0.mk (blk_below (qK BK109) hb); have n1_ := Aside0.mk (below_step (by repeat first | (with_reducible first | exact HB.out | apply bA | apply bN | apply bD | refine bS ?_ GE109.out) | exact HB.out) hb); have n2_ := Aside0.mk (hbox); have n3_ := Aside0.mk ((by rw [hg]; exact (below_size (by repeat first | (with_reducible first | exact HB.out | apply bA | apply bN | apply bD | refine bS ?_ GE109.out) | exact HB.out)) : w.heap.size ≤ gb110)); have n4_ := Aside0.mk ((by rw [hg]; exact (below_size (by repeat first | (with_reducible first | exact HB.out | apply bA | apply bN | apply bD | refine bS ?_ GE109.out) | exact HB.out)) : w.heap.size ≤ gb110)); have n5_ := Aside0.mk ((by rw [hg]; exact Nat.ne_of_lt (blk_lt (qK BK109)) : gb109 ≠ gb110)); have n6_ := Aside0.mk ((by rw [hg]; exact Nat.ne_of_gt (blk_lt (qK BK109)) : gb110 ≠ gb109)); clear BK109; clear HB; have BK109 := n0_; have HB := n1_; have BK110 := n2_; have GW110 := n3_; have GE110 := n4_; have NB109_110 := n5_; have NB110_109 := n6_; clear n0_ n1_ n2_ n3_ n4_ n5_ n6_; clear hb hbox hg) | ((with_reducible refine gate_dst (N := 4) rfl ?_); refine box_event ?hg (N := 4) ?hd (cs := #[.int .i64 0, .int .i64 0]) (t := 43) ?hr ?_; (case hd => rfl); (case hg => rfl); (case hr => first | (go_simp; done) | (go_simp; rfl)); intro gb111 hg w35 hbox hb; have n0_ := Aside0.mk (blk_below (qK BK109) hb); have n1_ := Aside0.mk (blk_below (qK BK110) hb); have n2_ := Aside0.mk (below_step (by repeat first | (with_reducible first | exact HB.out | apply bA | apply bN | apply bD | refine bS ?_ GE109.out | refine bS ?_ GE110.out) | exact HB.out) hb); have n3_ := Aside0.mk (hbox); have n4_ := Aside0.mk ((by rw [hg]; exact (below_size (by repeat first | (with_reducible first | exact HB.out | apply bA | apply bN | apply bD | refine bS ?_ GE109.out | refine bS ?_ GE110.out) | exact HB.out)) : w.heap.size ≤ gb111)); have n5_ := Aside0.mk ((by rw [hg]; exact (below_size (by repeat first | (with_reducible first | exact HB.out | apply bA | apply bN | apply bD | refine bS ?_ GE109.out | refine bS ?_ GE110.out) | exact HB.out)) : w.heap.size ≤ gb111)); have n6_ := Aside0.mk ((by rw [hg]; exact Nat.ne_of_lt (blk_lt (qK BK109)) : gb109 ≠ gb111)); have n7_ := Aside0.mk ((by rw [hg]; exact Nat.ne_of_gt (blk_lt (qK BK109)) : gb111 ≠ gb109)); have n8_ := Aside0.mk ((by rw [hg]; exact Nat.ne_of_lt (blk_lt (qK BK110)) : gb110 ≠ gb111)); have n9_ := Aside0.mk ((by rw [hg]; exact Nat.ne_of_gt (blk_lt (qK BK110)) : gb111 ≠ gb110)); clear BK109; clear BK110; clear HB; have BK109 := n0_; have BK110 := n1_; have HB := n2_; have BK111 := n3_; have GW111 := n4_; have GE111 := n5_; have NB109_111 := n6_; have NB111_109 := n7_; have NB110_111 := n8_; have NB111_110 := n9_; clear n0_ n1_ n2_ n3_ n4_ n5_ n6_ n7_ n8_ n9_; clear hb hbox hg))
    have n0_ := Aside0.mk (blk_drew BK109.out)
    have n1_ := Aside0.mk (blk_drew BK110.out)
    have n2_ := Aside0.mk (blk_drew BK111.out)
    have n3_ := Aside0.mk (below_drew1 HB.out)
    clear BK109
    clear BK110
    clear BK111
    clear HB
    have BK109 := n0_
    have BK110 := n1_
    have BK111 := n2_
    have HB := n3_
    clear n0_ n1_ n2_ n3_
    refine start_ (n := 13) (S := fun w' => w'.cell? ⟨gb109, 0, none⟩ = some (.int .i64 a0_0) ∧ w'.cell? ⟨gb109, 1, none⟩ = some (.int .i64 a0_1) ∧ w'.cell? ⟨gb110, 0, none⟩ = some (.int .i64 a1_0) ∧ w'.cell? ⟨gb110, 1, none⟩ = some (.int .i64 a1_1)) (ds := []) (bR [0, 13]) (by kernel_rfl) rfl rfl ⟨cC BK109 0, cC BK109 1, cC BK110 0, cC BK110 1⟩ (fun hHeld => ?_); refine with_tabW spec_Meet.tab1 spec_Meet.bits1 (fun HT_ HW_ => ?_)
    generalize w35.drew = w36 at BK109 BK110 BK111 HB hHeld ⊢
    refine pP 0 7 (bR [1, 12]) rfl rfl HT_ ?_
    refine pP 2 9 (bR [1, 1, 1, 10]) rfl rfl HT_ ?_
    refine pP 5 12 (bR [1, 1, 1, 2, 1, 7]) rfl rfl HT_ ?_
    refine pP 7 14 (bR [1, 1, 1, 2, 1, 1, 1, 5]) rfl rfl HT_ ?_
    refine take_ (i := 1) (N := some 8) (v := ?_) (a' := ?_) (bR [3, 2, 1, 1, 1, 5]) rfl rfl (take_ofW HT_.out HW_.out (by kernel_rfl)) (fun _ _ _ h => h) (Or.inl ⟨by rfl, ?_⟩) hHeld ?_ ?_
    rotate_left; (rintro w' ⟨s0, s1, s2, s3⟩; go_simp; with_reducible rfl); rotate_left; (simp only [Act.put, sA, sZ, sS, i64_w]; rfl)
    refine take_ (i := 3) (N := some 10) (v := ?_) (a' := ?_) (bR [4, 1, 1, 1, 1, 5]) rfl rfl (take_ofW HT_.out HW_.out (by kernel_rfl)) (fun _ _ _ h => h) (Or.inl ⟨by rfl, ?_⟩) hHeld ?_ ?_
    rotate_left; (rintro w' ⟨s0, s1, s2, s3⟩; go_simp; with_reducible rfl); rotate_left; (simp only [Act.put, sA, sZ, sS, i64_w]; rfl)
    refine take_ (i := 6) (N := some 13) (v := ?_) (a' := ?_) (bR [4, 1, 3, 5]) rfl rfl (take_ofW HT_.out HW_.out (by kernel_rfl)) (fun _ _ _ h => h) (Or.inl ⟨by rfl, ?_⟩) hHeld ?_ ?_
    rotate_left; (rintro w' ⟨s0, s1, s2, s3⟩; go_simp; with_reducible rfl); rotate_left; (simp only [Act.put, sA, sZ, sS, i64_w]; rfl)
    refine take_ (i := 8) (N := some 15) (v := ?_) (a' := ?_) (bR [4, 1, 4, 4]) rfl rfl (take_ofW HT_.out HW_.out (by kernel_rfl)) (fun _ _ _ h => h) (Or.inl ⟨by rfl, ?_⟩) hHeld ?_ ?_
    rotate_left; (rintro w' ⟨s0, s1, s2, s3⟩; go_simp; with_reducible rfl); rotate_left; (simp only [Act.put, sA, sZ, sS, i64_w]; rfl)
    refine join_ (σ := Nat) 1 (bR [12, 1]) (fun s_ => [(11, .int .i64 t112), (16, .int .i64 t113), (6, .pointer (some ⟨s_, 0, none⟩)), (17, .agg #[.int .i64 t112, .int .i64 t113])]) (fun s_ w' => (w'.cell? ⟨gb109, 0, none⟩ = some (.int .i64 a0_0) ∧ w'.cell? ⟨gb109, 1, none⟩ = some (.int .i64 a0_1) ∧ w'.cell? ⟨gb110, 0, none⟩ = some (.int .i64 a1_0) ∧ w'.cell? ⟨gb110, 1, none⟩ = some (.int .i64 a1_1)) ∧ (w'.heap[gb109]? = some (.cells #[.int .i64 a0_0, .int .i64 a0_1] 43 (0, 0))) ∧ (w'.heap[gb110]? = some (.cells #[.int .i64 a1_0, .int .i64 a1_1] 43 (0, 0))) ∧ (w'.heap[gb111]? = some (.cells #[.int .i64 0, .int .i64 0] 43 (0, 0))) ∧ (w'.heap[s_]? = some (.cells #[.int .i64 0, .int .i64 0] 43 (0, 0))) ∧ (w.heap.size ≤ s_) ∧ (w.heap.size ≤ s_) ∧ (gb109 ≠ s_) ∧ (s_ ≠ gb109) ∧ (gb110 ≠ s_) ∧ (s_ ≠ gb110) ∧ (gb111 ≠ s_) ∧ (s_ ≠ gb111) ∧ (Below w.heap.size w w')) ?_ ?_
    rotate_left
    ·intro hCont
     refine two_ (i := 4) (j := 11) (Ni := some 11) (Nj := some 6) (bR [9, 4]) (bR [4, 1, 4, 2, 1, 1]) rfl rfl rfl rfl (two_of HT_.out (by kernel_rfl)) (by decide) (by decide) (fun K hK => ?_) (fun K hK => ?_)
     ·skip
      refine goes_ Try.func143 (by kernel_rfl) rfl #[.int .i64 a0_0, .int .i64 a1_0] (by rfl) rfl rfl (by (try simp only [mA, mC, mN]); first | done | rfl | (simp only [lD, lT]; rfl)) ?_
      with_reducible refine (spec_Max.calls a0_0 a1_0 t112 _ A3.out).mono ?_
      rintro e w' ⟨rfl, ⟨nd, rfl⟩⟩
      refine ⟨_, rfl, ?_⟩
      refine hK.out _ _ ⟨cC BK109 0, cC BK109 1, cC BK110 0, cC BK110 1⟩ (fun hHeld => ?_)
      clear hK K
      refine norm_ (a' := ?_) ?_ ?_
      rotate_left
      ·show Act.put _ (some 11) _ = _
       simp only [Act.put, sA, sZ, sS, i64_w]
       rfl
      refine two_ (i := 9) (j := 11) (Ni := some 16) (Nj := some 6) (bR [10, 3]) (bR [9, 2, 1, 1]) rfl rfl rfl rfl (two_of HT_.out (by kernel_rfl)) (by decide) (by decide) (fun K hK => ?_) (fun K hK => ?_)
      ·skip
       refine goes_ Try.func147 (by kernel_rfl) rfl #[.int .i64 a0_1, .int .i64 a1_1] (by rfl) rfl rfl (by (try simp only [mA, mC, mN]); first | done | rfl | (simp only [lD, lT]; rfl)) ?_
       with_reducible refine (spec_Min.calls a0_1 a1_1 t113 _ A4.out).mono ?_
       rintro e w' ⟨rfl, ⟨nd, rfl⟩⟩
       refine ⟨_, rfl, ?_⟩
       refine hK.out _ _ ⟨cC BK109 0, cC BK109 1, cC BK110 0, cC BK110 1⟩ (fun hHeld => ?_)
       clear hK K
       refine norm_ (a' := ?_) ?_ ?_
       rotate_left
       ·show Act.put _ (some 16) _ = _
        simp only [Act.put, sA, sZ, sS, i64_w]
        rfl
       refine pP 10 17 (bR [11, 2]) rfl rfl HT_ ?_
       refine one_ (i := 11) (N := some 6) (bR [12, 1]) rfl rfl (one_of HT_.out (by kernel_rfl)) (by decide) (fun K hK => ?_)
       refine box_step ?hg (N := 6) ?hd (cs := #[.int .i64 0, .int .i64 0]) (t := 43) ?hr ?_; (case hd => rfl); (case hg => rfl); (case hr => first | (go_simp; done) | (go_simp; rfl))
       intro gb114 hg w37 hbox hb
       have n0_ := Aside0.mk (blk_below (qK BK109) hb)
       have n1_ := Aside0.mk (blk_below (qK BK110) hb)
       have n2_ := Aside0.mk (blk_below (qK BK111) hb)
       have n3_ := Aside0.mk (below_step (by repeat first | (with_reducible first | exact HB.out | apply bA | apply bN | apply bD | refine bS ?_ GE109.out | refine bS ?_ GE110.out | refine bS ?_ GE111.out) | exact HB.out) hb)
       have n4_ := Aside0.mk (hbox)
       have n5_ := Aside0.mk ((by rw [hg]; exact (below_size (by repeat first | (with_reducible first | exact HB.out | apply bA | apply bN | apply bD | refine bS ?_ GE109.out | refine bS ?_ GE110.out | refine bS ?_ GE111.out) | exact HB.out)) : w.heap.size ≤ gb114))
       have n6_ := Aside0.mk ((by rw [hg]; exact (below_size (by repeat first | (with_reducible first | exact HB.out | apply bA | apply bN | apply bD | refine bS ?_ GE109.out | refine bS ?_ GE110.out | refine bS ?_ GE111.out) | exact HB.out)) : w.heap.size ≤ gb114))
       have n7_ := Aside0.mk ((by rw [hg]; exact Nat.ne_of_lt (blk_lt (qK BK109)) : gb109 ≠ gb114))
       have n8_ := Aside0.mk ((by rw [hg]; exact Nat.ne_of_gt (blk_lt (qK BK109)) : gb114 ≠ gb109))
       have n9_ := Aside0.mk ((by rw [hg]; exact Nat.ne_of_lt (blk_lt (qK BK110)) : gb110 ≠ gb114))
       have n10_ := Aside0.mk ((by rw [hg]; exact Nat.ne_of_gt (blk_lt (qK BK110)) : gb114 ≠ gb110))
       have n11_ := Aside0.mk ((by rw [hg]; exact Nat.ne_of_lt (blk_lt (qK BK111)) : gb111 ≠ gb114))
       have n12_ := Aside0.mk ((by rw [hg]; exact Nat.ne_of_gt (blk_lt (qK BK111)) : gb114 ≠ gb111))
       clear BK109
       clear BK110
       clear BK111
       clear HB
       have BK109 := n0_
       have BK110 := n1_
       have BK111 := n2_
       have HB := n3_
       have BK114 := n4_
       have GW114 := n5_
       have GE114 := n6_
       have NB109_114 := n7_
       have NB114_109 := n8_
       have NB110_114 := n9_
       have NB114_110 := n10_
       have NB111_114 := n11_
       have NB114_111 := n12_
       clear n0_ n1_ n2_ n3_ n4_ n5_ n6_ n7_ n8_ n9_ n10_ n11_ n12_
       clear hb hbox hg
       refine hK.out _ _ ⟨cC BK109 0, cC BK109 1, cC BK110 0, cC BK110 1⟩ (fun hHeld => ?_)
       clear hK K
       refine norm_ (a' := ?_) ?_ ?_
       rotate_left
       ·show Act.put _ (some 6) _ = _
        simp only [Act.put, sA, sZ, sS, i64_w]
        rfl
       exact norm_ (by simp only [putAll, Act.put, sA, sZ, sS]) (hCont (gb114) _ ⟨hHeld, (qK BK109), (qK BK110), (qK BK111), (qK BK114), GW114.out, GE114.out, NB109_114.out, NB114_109.out, NB110_114.out, NB114_110.out, NB111_114.out, NB114_111.out, (by repeat first | (with_reducible first | exact HB.out | apply bA | apply bN | apply bD | refine bS ?_ GE109.out | refine bS ?_ GE110.out | refine bS ?_ GE111.out | refine bS ?_ GE114.out) | exact HB.out)⟩)
      ·skip
       refine box_step ?hg (N := 6) ?hd (cs := #[.int .i64 0, .int .i64 0]) (t := 43) ?hr ?_; (case hd => rfl); (case hg => rfl); (case hr => first | (go_simp; done) | (go_simp; rfl))
       intro gb114 hg w37 hbox hb
       have n0_ := Aside0.mk (blk_below (qK BK109) hb)
       have n1_ := Aside0.mk (blk_below (qK BK110) hb)
       have n2_ := Aside0.mk (blk_below (qK BK111) hb)
       have n3_ := Aside0.mk (below_step (by repeat first | (with_reducible first | exact HB.out | apply bA | apply bN | apply bD | refine bS ?_ GE109.out | refine bS ?_ GE110.out | refine bS ?_ GE111.out) | exact HB.out) hb)
       have n4_ := Aside0.mk (hbox)
       have n5_ := Aside0.mk ((by rw [hg]; exact (below_size (by repeat first | (with_reducible first | exact HB.out | apply bA | apply bN | apply bD | refine bS ?_ GE109.out | refine bS ?_ GE110.out | refine bS ?_ GE111.out) | exact HB.out)) : w.heap.size ≤ gb114))
       have n6_ := Aside0.mk ((by rw [hg]; exact (below_size (by repeat first | (with_reducible first | exact HB.out | apply bA | apply bN | apply bD | refine bS ?_ GE109.out | refine bS ?_ GE110.out | refine bS ?_ GE111.out) | exact HB.out)) : w.heap.size ≤ gb114))
       have n7_ := Aside0.mk ((by rw [hg]; exact Nat.ne_of_lt (blk_lt (qK BK109)) : gb109 ≠ gb114))
       have n8_ := Aside0.mk ((by rw [hg]; exact Nat.ne_of_gt (blk_lt (qK BK109)) : gb114 ≠ gb109))
       have n9_ := Aside0.mk ((by rw [hg]; exact Nat.ne_of_lt (blk_lt (qK BK110)) : gb110 ≠ gb114))
       have n10_ := Aside0.mk ((by rw [hg]; exact Nat.ne_of_gt (blk_lt (qK BK110)) : gb114 ≠ gb110))
       have n11_ := Aside0.mk ((by rw [hg]; exact Nat.ne_of_lt (blk_lt (qK BK111)) : gb111 ≠ gb114))
       have n12_ := Aside0.mk ((by rw [hg]; exact Nat.ne_of_gt (blk_lt (qK BK111)) : gb114 ≠ gb111))
       clear BK109
       clear BK110
       clear BK111
       clear HB
       have BK109 := n0_
       have BK110 := n1_
       have BK111 := n2_
       have HB := n3_
       have BK114 := n4_
       have GW114 := n5_
       have GE114 := n6_
       have NB109_114 := n7_
       have NB114_109 := n8_
       have NB110_114 := n9_
       have NB114_110 := n10_
       have NB111_114 := n11_
       have NB114_111 := n12_
       clear n0_ n1_ n2_ n3_ n4_ n5_ n6_ n7_ n8_ n9_ n10_ n11_ n12_
       clear hb hbox hg
       refine hK.out _ _ ⟨cC BK109 0, cC BK109 1, cC BK110 0, cC BK110 1⟩ (fun hHeld => ?_)
       clear hK K
       refine norm_ (a' := ?_) ?_ ?_
       rotate_left
       ·show Act.put _ (some 6) _ = _
        simp only [Act.put, sA, sZ, sS, i64_w]
        rfl
       refine one_ (i := 9) (N := some 16) (bR [10, 1, 1, 1]) rfl rfl (one_of HT_.out (by kernel_rfl)) (by decide) (fun K hK => ?_)
       refine goes_ Try.func147 (by kernel_rfl) rfl #[.int .i64 a0_1, .int .i64 a1_1] (by rfl) rfl rfl (by (try simp only [mA, mC, mN]); first | done | rfl | (simp only [lD, lT]; rfl)) ?_
       with_reducible refine (spec_Min.calls a0_1 a1_1 t113 _ A4.out).mono ?_
       rintro e w' ⟨rfl, ⟨nd, rfl⟩⟩
       refine ⟨_, rfl, ?_⟩
       refine hK.out _ _ ⟨cC BK109 0, cC BK109 1, cC BK110 0, cC BK110 1⟩ (fun hHeld => ?_)
       clear hK K
       refine norm_ (a' := ?_) ?_ ?_
       rotate_left
       ·show Act.put _ (some 16) _ = _
        simp only [Act.put, sA, sZ, sS, i64_w]
        rfl
       refine pP 10 17 (bR [12, 1]) rfl rfl HT_ ?_
       exact norm_ (by simp only [putAll, Act.put, sA, sZ, sS]) (hCont (gb114) _ ⟨hHeld, (qK BK109), (qK BK110), (qK BK111), (qK BK114), GW114.out, GE114.out, NB109_114.out, NB114_109.out, NB110_114.out, NB114_110.out, NB111_114.out, NB114_111.out, (by repeat first | (with_reducible first | exact HB.out | apply bA | apply bN | apply bD | refine bS ?_ GE109.out | refine bS ?_ GE110.out | refine bS ?_ GE111.out | refine bS ?_ GE114.out) | exact HB.out)⟩)
     ·skip
      refine box_step ?hg (N := 6) ?hd (cs := #[.int .i64 0, .int .i64 0]) (t := 43) ?hr ?_; (case hd => rfl); (case hg => rfl); (case hr => first | (go_simp; done) | (go_simp; rfl))
      intro gb114 hg w37 hbox hb
      have n0_ := Aside0.mk (blk_below (qK BK109) hb)
      have n1_ := Aside0.mk (blk_below (qK BK110) hb)
      have n2_ := Aside0.mk (blk_below (qK BK111) hb)
      have n3_ := Aside0.mk (below_step (by repeat first | (with_reducible first | exact HB.out | apply bA | apply bN | apply bD | refine bS ?_ GE109.out | refine bS ?_ GE110.out | refine bS ?_ GE111.out) | exact HB.out) hb)
      have n4_ := Aside0.mk (hbox)
      have n5_ := Aside0.mk ((by rw [hg]; exact (below_size (by repeat first | (with_reducible first | exact HB.out | apply bA | apply bN | apply bD | refine bS ?_ GE109.out | refine bS ?_ GE110.out | refine bS ?_ GE111.out) | exact HB.out)) : w.heap.size ≤ gb114))
      have n6_ := Aside0.mk ((by rw [hg]; exact (below_size (by repeat first | (with_reducible first | exact HB.out | apply bA | apply bN | apply bD | refine bS ?_ GE109.out | refine bS ?_ GE110.out | refine bS ?_ GE111.out) | exact HB.out)) : w.heap.size ≤ gb114))
      have n7_ := Aside0.mk ((by rw [hg]; exact Nat.ne_of_lt (blk_lt (qK BK109)) : gb109 ≠ gb114))
      have n8_ := Aside0.mk ((by rw [hg]; exact Nat.ne_of_gt (blk_lt (qK BK109)) : gb114 ≠ gb109))
      have n9_ := Aside0.mk ((by rw [hg]; exact Nat.ne_of_lt (blk_lt (qK BK110)) : gb110 ≠ gb114))
      have n10_ := Aside0.mk ((by rw [hg]; exact Nat.ne_of_gt (blk_lt (qK BK110)) : gb114 ≠ gb110))
      have n11_ := Aside0.mk ((by rw [hg]; exact Nat.ne_of_lt (blk_lt (qK BK111)) : gb111 ≠ gb114))
      have n12_ := Aside0.mk ((by rw [hg]; exact Nat.ne_of_gt (blk_lt (qK BK111)) : gb114 ≠ gb111))
      clear BK109
      clear BK110
      clear BK111
      clear HB
      have BK109 := n0_
      have BK110 := n1_
      have BK111 := n2_
      have HB := n3_
      have BK114 := n4_
      have GW114 := n5_
      have GE114 := n6_
      have NB109_114 := n7_
      have NB114_109 := n8_
      have NB110_114 := n9_
      have NB114_110 := n10_
      have NB111_114 := n11_
      have NB114_111 := n12_
      clear n0_ n1_ n2_ n3_ n4_ n5_ n6_ n7_ n8_ n9_ n10_ n11_ n12_
      clear hb hbox hg
      refine hK.out _ _ ⟨cC BK109 0, cC BK109 1, cC BK110 0, cC BK110 1⟩ (fun hHeld => ?_)
      clear hK K
      refine norm_ (a' := ?_) ?_ ?_
      rotate_left
      ·show Act.put _ (some 6) _ = _
       simp only [Act.put, sA, sZ, sS, i64_w]
       rfl
      refine one_ (i := 4) (N := some 11) (bR [9, 2, 1, 1]) rfl rfl (one_of HT_.out (by kernel_rfl)) (by decide) (fun K hK => ?_)
      refine goes_ Try.func143 (by kernel_rfl) rfl #[.int .i64 a0_0, .int .i64 a1_0] (by rfl) rfl rfl (by (try simp only [mA, mC, mN]); first | done | rfl | (simp only [lD, lT]; rfl)) ?_
      with_reducible refine (spec_Max.calls a0_0 a1_0 t112 _ A3.out).mono ?_
      rintro e w' ⟨rfl, ⟨nd, rfl⟩⟩
      refine ⟨_, rfl, ?_⟩
      refine hK.out _ _ ⟨cC BK109 0, cC BK109 1, cC BK110 0, cC BK110 1⟩ (fun hHeld => ?_)
      clear hK K
      refine norm_ (a' := ?_) ?_ ?_
      rotate_left
      ·show Act.put _ (some 11) _ = _
       simp only [Act.put, sA, sZ, sS, i64_w]
       rfl
      refine one_ (i := 9) (N := some 16) (bR [10, 1, 1, 1]) rfl rfl (one_of HT_.out (by kernel_rfl)) (by decide) (fun K hK => ?_)
      refine goes_ Try.func147 (by kernel_rfl) rfl #[.int .i64 a0_1, .int .i64 a1_1] (by rfl) rfl rfl (by (try simp only [mA, mC, mN]); first | done | rfl | (simp only [lD, lT]; rfl)) ?_
      with_reducible refine (spec_Min.calls a0_1 a1_1 t113 _ A4.out).mono ?_
      rintro e w' ⟨rfl, ⟨nd, rfl⟩⟩
      refine ⟨_, rfl, ?_⟩
      refine hK.out _ _ ⟨cC BK109 0, cC BK109 1, cC BK110 0, cC BK110 1⟩ (fun hHeld => ?_)
      clear hK K
      refine norm_ (a' := ?_) ?_ ?_
      rotate_left
      ·show Act.put _ (some 16) _ = _
       simp only [Act.put, sA, sZ, sS, i64_w]
       rfl
      refine pP 10 17 (bR [12, 1]) rfl rfl HT_ ?_
      exact norm_ (by simp only [putAll, Act.put, sA, sZ, sS]) (hCont (gb114) _ ⟨hHeld, (qK BK109), (qK BK110), (qK BK111), (qK BK114), GW114.out, GE114.out, NB109_114.out, NB114_109.out, NB110_114.out, NB114_110.out, NB111_114.out, NB114_111.out, (by repeat first | (with_reducible first | exact HB.out | apply bA | apply bN | apply bD | refine bS ?_ GE109.out | refine bS ?_ GE110.out | refine bS ?_ GE111.out | refine bS ?_ GE114.out) | exact HB.out)⟩)
    rintro gb114 w38 ⟨hS_, h0_, h1_, h2_, h3_, h4_, h5_, h6_, h7_, h8_, h9_, h10_, h11_, h12_⟩
    have n0_ : Aside0 (w38.heap[gb109]? = some (.cells #[.int .i64 a0_0, .int .i64 a0_1] 43 (0, 0))) := ⟨h0_⟩
    have n1_ : Aside0 (w38.heap[gb110]? = some (.cells #[.int .i64 a1_0, .int .i64 a1_1] 43 (0, 0))) := ⟨h1_⟩
    have n2_ : Aside0 (w38.heap[gb111]? = some (.cells #[.int .i64 0, .int .i64 0] 43 (0, 0))) := ⟨h2_⟩
    have n3_ : Aside0 (w38.heap[gb114]? = some (.cells #[.int .i64 0, .int .i64 0] 43 (0, 0))) := ⟨h3_⟩
    have n4_ : Aside0 (w.heap.size ≤ gb114) := ⟨h4_⟩
    have n5_ : Aside0 (w.heap.size ≤ gb114) := ⟨h5_⟩
    have n6_ : Aside0 (gb109 ≠ gb114) := ⟨h6_⟩
    have n7_ : Aside0 (gb114 ≠ gb109) := ⟨h7_⟩
    have n8_ : Aside0 (gb110 ≠ gb114) := ⟨h8_⟩
    have n9_ : Aside0 (gb114 ≠ gb110) := ⟨h9_⟩
    have n10_ : Aside0 (gb111 ≠ gb114) := ⟨h10_⟩
    have n11_ : Aside0 (gb114 ≠ gb111) := ⟨h11_⟩
    have n12_ : Aside0 (Below w.heap.size w w38) := ⟨h12_⟩
    clear BK109
    clear BK110
    clear BK111
    clear HB
    clear h0_ h1_ h2_ h3_ h4_ h5_ h6_ h7_ h8_ h9_ h10_ h11_ h12_
    have BK109 := n0_
    have BK110 := n1_
    have BK111 := n2_
    have BK114 := n3_
    have GW114 := n4_
    have GE114 := n5_
    have NB109_114 := n6_
    have NB114_109 := n7_
    have NB110_114 := n8_
    have NB114_110 := n9_
    have NB111_114 := n10_
    have NB114_111 := n11_
    have HB := n12_
    clear n0_ n1_ n2_ n3_ n4_ n5_ n6_ n7_ n8_ n9_ n10_ n11_ n12_
    have hHeld : w38.cell? ⟨gb109, 0, none⟩ = some (.int .i64 a0_0) ∧ w38.cell? ⟨gb109, 1, none⟩ = some (.int .i64 a0_1) ∧ w38.cell? ⟨gb110, 0, none⟩ = some (.int .i64 a1_0) ∧ w38.cell? ⟨gb110, 1, none⟩ = some (.int .i64 a1_1) := hS_
    refine norm_ (a' := ?_) ?_ ?_
    rotate_left; (simp only [putAll, Act.put, sA, sZ, sS]; rfl)
    refine one_ (i := 12) (N := none) (bR [13]) rfl rfl (one_of HT_.out (by kernel_rfl)) (by decide) (fun K hK => ?_)
    have hs39 : w38.cell? ⟨gb114, 0, none⟩ = some (.int .i64 0) := cC BK114 0
    have hfs39 := blk_frozen BK114.out 0
    have hns39_0 := NB109_114.out
    have hns39_1 := NB110_114.out
    have hns39_2 := NB111_114.out
    have hms39_0 := NB114_109.out
    have hms39_1 := NB114_110.out
    have hms39_2 := NB114_111.out
    have hs40 : w38.cell? ⟨gb114, 1, none⟩ = some (.int .i64 0) := cC BK114 1
    have hfs40 := blk_frozen BK114.out 1
    have hns40_0 := NB109_114.out
    have hns40_1 := NB110_114.out
    have hns40_2 := NB111_114.out
    have hms40_0 := NB114_109.out
    have hms40_1 := NB114_110.out
    have hms40_2 := NB114_111.out
    refine skip_ (w1 := ?_) (by rfl) rfl ?_ ?_
    rotate_left
    ·go_simp
     rfl
    refine hK.out _ _ ⟨((cell_far (p := ⟨gb114, _, none⟩) NB109_114.out _).trans (((cell_far (p := ⟨gb114, _, none⟩) NB109_114.out _).trans (hHeld.1)))), ((cell_far (p := ⟨gb114, _, none⟩) NB109_114.out _).trans (((cell_far (p := ⟨gb114, _, none⟩) NB109_114.out _).trans (hHeld.2.1)))), ((cell_far (p := ⟨gb114, _, none⟩) NB110_114.out _).trans (((cell_far (p := ⟨gb114, _, none⟩) NB110_114.out _).trans (hHeld.2.2.1)))), ((cell_far (p := ⟨gb114, _, none⟩) NB110_114.out _).trans (((cell_far (p := ⟨gb114, _, none⟩) NB110_114.out _).trans (hHeld.2.2.2))))⟩ (fun hHeld => ?_)
    clear hK K
    refine done_ (done_of HT_.out (by kernel_rfl)) ?_
    have hnb41 := NB109_110.out
    have hnc41 := NB110_109.out
    have hnb42 := NB109_111.out
    have hnc42 := NB111_109.out
    have hnb43 := NB109_114.out
    have hnc43 := NB114_109.out
    have hcz44_0 : w38.cell? ⟨gb109, 0, none⟩ = some (.int .i64 a0_0) := cC BK109 0
    have hcz44_1 : w38.cell? ⟨gb109, 1, none⟩ = some (.int .i64 a0_1) := cC BK109 1
    have hfz44_0 := blk_frozen BK109.out 0
    have hfz44_1 := blk_frozen BK109.out 1
    try go_wp2_with (first | ((with_reducible refine gate_callee (f := 110) rfl ?_); refine goesL_ (some 19) rfl rfl Try.func110 (by kernel_rfl) rfl #[.agg #[.int .i64 a0_0, .int .i64 a0_1]] rfl (by (try simp only [mA, mC, mN]); first | done | rfl | (simp only [lD, lT]; rfl)) ?_; (with_reducible refine (spec_IsSpan.calls a0_0 a0_1 true _ A5.out).mono ?_); rintro e w45 ⟨rfl, hb⟩; refine ⟨_, rfl, ?_⟩; have n0_ := Aside0.mk (blk_below (g := gb109) (o := .cells #[.int .i64 a0_0, .int .i64 a0_1] 43 (0, 0)) (by (with_reducible repeat first | refine kN ?_ _ | refine kD ?_ | refine kA ?_ _); refine blk_far ?_ NB109_114.out _; (with_reducible repeat first | refine kN ?_ _ | refine kD ?_ | refine kA ?_ _); refine blk_far ?_ NB109_114.out _; (with_reducible repeat first | refine kN ?_ _ | refine kD ?_ | refine kA ?_ _); exact BK109.out) hb); have n1_ := Aside0.mk (blk_below (g := gb110) (o := .cells #[.int .i64 a1_0, .int .i64 a1_1] 43 (0, 0)) (by (with_reducible repeat first | refine kN ?_ _ | refine kD ?_ | refine kA ?_ _); refine blk_far ?_ NB110_114.out _; (with_reducible repeat first | refine kN ?_ _ | refine kD ?_ | refine kA ?_ _); refine blk_far ?_ NB110_114.out _; (with_reducible repeat first | refine kN ?_ _ | refine kD ?_ | refine kA ?_ _); exact BK110.out) hb); have n2_ := Aside0.mk (blk_below (g := gb111) (o := .cells #[.int .i64 0, .int .i64 0] 43 (0, 0)) (by (with_reducible repeat first | refine kN ?_ _ | refine kD ?_ | refine kA ?_ _); refine blk_far ?_ NB111_114.out _; (with_reducible repeat first | refine kN ?_ _ | refine kD ?_ | refine kA ?_ _); refine blk_far ?_ NB111_114.out _; (with_reducible repeat first | refine kN ?_ _ | refine kD ?_ | refine kA ?_ _); exact BK111.out) hb); have n3_ := Aside0.mk (blk_below (g := gb114) (o := .cells #[.int .i64 t112, .int .i64 t113] 43 (0, 0)) (by (with_reducible repeat first | refine kN ?_ _ | refine kD ?_ | refine kA ?_ _); refine blk_put (cs := #[.int .i64 t112, .int .i64 0]) ?_ 1 _ rfl; (with_reducible repeat first | refine kN ?_ _ | refine kD ?_ | refine kA ?_ _); refine blk_put (cs := #[.int .i64 0, .int .i64 0]) ?_ 0 _ rfl; (with_reducible repeat first | refine kN ?_ _ | refine kD ?_ | refine kA ?_ _); exact BK114.out) hb); have n4_ := Aside0.mk (below_step (by repeat first | (with_reducible first | exact HB.out | apply bA | apply bN | apply bD | refine bS ?_ GE109.out | refine bS ?_ GE110.out | refine bS ?_ GE111.out | refine bS ?_ GE114.out) | exact HB.out) hb); clear BK109; clear BK110; clear BK111; clear BK114; clear HB; have BK109 := n0_; have BK110 := n1_; have BK111 := n2_; have BK114 := n3_; have HB := n4_; clear n0_ n1_ n2_ n3_ n4_; (try clear hb); (try clear hb2); (try clear hk); (try clear hi); have hnb46 := NB110_111.out; have hnc46 := NB111_110.out; have hnb47 := NB110_114.out; have hnc47 := NB114_110.out; have hcz48_0 : w45.cell? ⟨gb110, 0, none⟩ = some (.int .i64 a1_0) := cC BK110 0; have hcz48_1 : w45.cell? ⟨gb110, 1, none⟩ = some (.int .i64 a1_1) := cC BK110 1; have hfz48_0 := blk_frozen BK110.out 0; have hfz48_1 := blk_frozen BK110.out 1) | (go_at_call 110; (with_reducible refine (spec_IsSpan.calls a1_0 a1_1 true _ A7.out).mono ?_); rintro e w49 ⟨rfl, hb⟩; have n0_ := Aside0.mk (blk_below (qK BK109) hb); have n1_ := Aside0.mk (blk_below (qK BK110) hb); have n2_ := Aside0.mk (blk_below (qK BK111) hb); have n3_ := Aside0.mk (blk_below (qK BK114) hb); have n4_ := Aside0.mk (below_step (by repeat first | (with_reducible first | exact HB.out | apply bA | apply bN | apply bD | refine bS ?_ GE109.out | refine bS ?_ GE110.out | refine bS ?_ GE111.out | refine bS ?_ GE114.out) | exact HB.out) hb); clear BK109; clear BK110; clear BK111; clear BK114; clear HB; have BK109 := n0_; have BK110 := n1_; have BK111 := n2_; have BK114 := n3_; have HB := n4_; clear n0_ n1_ n2_ n3_ n4_; (try clear hb); (try clear hb2); (try clear hk); (try clear hi); have hnb50 := NB114_111.out; have hnc50 := NB111_114.out; have hcz51_0 : w49.cell? ⟨gb114, 0, none⟩ = some (.int .i64 t112) := cC BK114 0; have hcz51_1 : w49.cell? ⟨gb114, 1, none⟩ = some (.int .i64 t113) := cC BK114 1; have hfz51_0 := blk_frozen BK114.out 0; have hfz51_1 := blk_frozen BK114.out 1) | (go_at_call 110; (with_reducible refine (spec_IsSpan.calls t112 t113 false _ A9.out).mono ?_); rintro e w52 ⟨rfl, hb⟩; have n0_ := Aside0.mk (blk_below (qK BK109) hb); have n1_ := Aside0.mk (blk_below (qK BK110) hb); have n2_ := Aside0.mk (blk_below (qK BK111) hb); have n3_ := Aside0.mk (blk_below (qK BK114) hb); have n4_ := Aside0.mk (below_step (by repeat first | (with_reducible first | exact HB.out | apply bA | apply bN | apply bD | refine bS ?_ GE109.out | refine bS ?_ GE110.out | refine bS ?_ GE111.out | refine bS ?_ GE114.out) | exact HB.out) hb); clear BK109; clear BK110; clear BK111; clear BK114; clear HB; have BK109 := n0_; have BK110 := n1_; have BK111 := n2_; have BK114 := n3_; have HB := n4_; clear n0_ n1_ n2_ n3_ n4_; (try clear hb); (try clear hb2); (try clear hk); (try clear hi); have hcz53_0 : w52.cell? ⟨gb111, 0, none⟩ = some (.int .i64 0) := cC BK111 0; have hcz53_1 : w52.cell? ⟨gb111, 1, none⟩ = some (.int .i64 0) := cC BK111 1; have hfz53_0 := blk_frozen BK111.out 0; have hfz53_1 := blk_frozen BK111.out 1))
    refine bodyPost_ret (results_ct rfl _ _ gb111 43 #[.int .i64 0, .int .i64 0] (0, 0) _ rfl (by (with_reducible repeat first | refine kN ?_ _ | refine kD ?_ | refine kA ?_ _); refine blk_put (cs := #[.int .i64 0, .int .i64 0]) ?_ 1 _ rfl; (with_reducible repeat first | refine kN ?_ _ | refine kD ?_ | refine kA ?_ _); refine blk_put (cs := #[.int .i64 0, .int .i64 0]) ?_ 0 _ rfl; (with_reducible repeat first | refine kN ?_ _ | refine kD ?_ | refine kA ?_ _); exact BK111.out) Try.underlying43 rfl (by kernel_rfl)) rfl ?_
    exact ⟨by first | rfl | (simp [errW_none, errW_some] <;> rfl) | (simp [*, errW_none, errW_some] <;> rfl), by repeat (first | (with_reducible first | exact HB.out | apply bA | apply bN | apply bD | refine bS ?_ GE109.out | refine bS ?_ GE110.out | refine bS ?_ GE111.out | refine bS ?_ GE114.out) | exact HB.out)⟩
  ·replace c8 := Bool.eq_false_iff.mpr c8
   subst c8
   have H1 : (some (0, 0, false)) = some (r1, r2, r3) := by rw [if_neg (show ¬ (false = true) by decide)] at H; exact H
   clear H
   have H := H1
   clear H1
   simp only [Option.some.injEq, Prod.mk.injEq] at H
   obtain ⟨rfl, rfl, rfl⟩ := H
   go_enter Try.func111, Try.ntmps111
   try go_wp2_with (first | ((with_reducible refine gate_dst (N := 2) rfl ?_); refine box_event ?hg (N := 2) ?hd (cs := #[.int .i64 a0_0, .int .i64 a0_1]) (t := 43) ?hr ?_; (case hd => rfl); (case hg => rfl); (case hr => first | (go_simp; done) | (go_simp; rfl)); intro gb109 hg w54 hbox hb; have n0_ := Aside0.mk (below_step (qB HB) hb); have n1_ := Aside0.mk (hbox); have n2_ := Aside0.mk ((by rw [hg]; exact (below_size (qB HB)) : w.heap.size ≤ gb109)); have n3_ := Aside0.mk ((by rw [hg]; exact (below_size (qB HB)) : w.heap.size ≤ gb109)); clear HB; have HB := n0_; have BK109 := n1_; have GW109 := n2_; have GE109 := n3_; clear n0_ n1_ n2_ n3_; clear hb hbox hg) | ((with_reducible refine gate_dst (N := 3) rfl ?_); refine box_event ?hg (N := 3) ?hd (cs := #[.int .i64 a1_0, .int .i64 a1_1]) (t := 43) ?hr ?_; (case hd => rfl); (case hg => rfl); (case hr => first | (go_simp; done) | (go_simp; rfl)); intro gb110 hg w55 hbox hb; have n0_ := Aside0.mk (blk_below (qK BK109) hb); have n1_ := Aside0.mk (below_step (by repeat first | (with_reducible first | exact HB.out | apply bA | apply bN | apply bD | refine bS ?_ GE109.out) | exact HB.out) hb); have n2_ := Aside0.mk (hbox); have n3_ := Aside0.mk ((by rw [hg]; exact (below_size (by repeat first | (with_reducible first | exact HB.out | apply bA | apply bN | apply bD | refine bS ?_ GE109.out) | exact HB.out)) : w.heap.size ≤ gb110)); have n4_ := Aside0.mk ((by rw [hg]; exact (below_size (by repeat first | (with_reducible first | exact HB.out | apply bA | apply bN | apply bD | refine bS ?_ GE109.out) | exact HB.out)) : w.heap.size ≤ gb110)); have n5_ := Aside0.mk ((by rw [hg]; exact Nat.ne_of_lt (blk_lt (qK BK109)) : gb109 ≠ gb110)); have n6_ := Aside0.mk ((by rw [hg]; exact Nat.ne_of_gt (blk_lt (qK BK109)) : gb110 ≠ gb109)); clear BK109; clear HB; have BK109 := n0_; have HB := n1_; have BK110 := n2_; have GW110 := n3_; have GE110 := n4_; have NB109_110 := n5_; have NB110_109 := n6_; clear n0_ n1_ n2_ n3_ n4_ n5_ n6_; clear hb hbox hg) | ((with_reducible refine gate_dst (N := 4) rfl ?_); refine box_event ?hg (N := 4) ?hd (cs := #[.int .i64 0, .int .i64 0]) (t := 43) ?hr ?_; (case hd => rfl); (case hg => rfl); (case hr => first | (go_simp; done) | (go_simp; rfl)); intro gb111 hg w56 hbox hb; have n0_ := Aside0.mk (blk_below (qK BK109) hb); have n1_ := Aside0.mk (blk_below (qK BK110) hb); have n2_ := Aside0.mk (below_step (by repeat first | (with_reducible first | exact HB.out | apply bA | apply bN | apply bD | refine bS ?_ GE109.out | refine bS ?_ GE110.out) | exact HB.out) hb); have n3_ := Aside0.mk (hbox); have n4_ := Aside0.mk ((by rw [hg]; exact (below_size (by repeat first | (with_reducible first | exact HB.out | apply bA | apply bN | apply bD | refine bS ?_ GE109.out | refine bS ?_ GE110.out) | exact HB.out)) : w.heap.size ≤ gb111)); have n5_ := Aside0.mk ((by rw [hg]; exact (below_size (by repeat first | (with_reducible first | exact HB.out | apply bA | apply bN | apply bD | refine bS ?_ GE109.out | refine bS ?_ GE110.out) | exact HB.out)) : w.heap.size ≤ gb111)); have n6_ := Aside0.mk ((by rw [hg]; exact Nat.ne_of_lt (blk_lt (qK BK109)) : gb109 ≠ gb111)); have n7_ := Aside0.mk ((by rw [hg]; exact Nat.ne_of_gt (blk_lt (qK BK109)) : gb111 ≠ gb109)); have n8_ := Aside0.mk ((by rw [hg]; exact Nat.ne_of_lt (blk_lt (qK BK110)) : gb110 ≠ gb111)); have n9_ := Aside0.mk ((by rw [hg]; exact Nat.ne_of_gt (blk_lt (qK BK110)) : gb111 ≠ gb110)); clear BK109; clear BK110; clear HB; have BK109 := n0_; have BK110 := n1_; have HB := n2_; have BK111 := n3_; have GW111 := n4_; have GE111 := n5_; have NB109_111 := n6_; have NB111_109 := n7_; have NB110_111 := n8_; have NB111_110 := n9_; clear n0_ n1_ n2_ n3_ n4_ n5_ n6_ n7_ n8_ n9_; clear hb hbox hg))
   have n0_ := Aside0.mk (blk_drew BK109.out)
   have n1_ := Aside0.mk (blk_drew BK110.out)
   have n2_ := Aside0.mk (blk_drew BK111.out)
   have n3_ := Aside0.mk (below_drew1 HB.out)
   clear BK109
   clear BK110
   clear BK111
   clear HB
   have BK109 := n0_
   have BK110 := n1_
   have BK111 := n2_
   have HB := n3_
   clear n0_ n1_ n2_ n3_
   refine start_ (n := 13) (S := fun w' => w'.cell? ⟨gb109, 0, none⟩ = some (.int .i64 a0_0) ∧ w'.cell? ⟨gb109, 1, none⟩ = some (.int .i64 a0_1) ∧ w'.cell? ⟨gb110, 0, none⟩ = some (.int .i64 a1_0) ∧ w'.cell? ⟨gb110, 1, none⟩ = some (.int .i64 a1_1)) (ds := []) (bR [0, 13]) (by kernel_rfl) rfl rfl ⟨cC BK109 0, cC BK109 1, cC BK110 0, cC BK110 1⟩ (fun hHeld => ?_); refine with_tabW spec_Meet.tab1 spec_Meet.bits1 (fun HT_ HW_ => ?_)
   generalize w56.drew = w57 at BK109 BK110 BK111 HB hHeld ⊢
   refine pP 0 7 (bR [1, 12]) rfl rfl HT_ ?_
   refine pP 2 9 (bR [1, 1, 1, 10]) rfl rfl HT_ ?_
   refine pP 5 12 (bR [1, 1, 1, 2, 1, 7]) rfl rfl HT_ ?_
   refine pP 7 14 (bR [1, 1, 1, 2, 1, 1, 1, 5]) rfl rfl HT_ ?_
   refine take_ (i := 1) (N := some 8) (v := ?_) (a' := ?_) (bR [3, 2, 1, 1, 1, 5]) rfl rfl (take_ofW HT_.out HW_.out (by kernel_rfl)) (fun _ _ _ h => h) (Or.inl ⟨by rfl, ?_⟩) hHeld ?_ ?_
   rotate_left; (rintro w' ⟨s0, s1, s2, s3⟩; go_simp; with_reducible rfl); rotate_left; (simp only [Act.put, sA, sZ, sS, i64_w]; rfl)
   refine take_ (i := 3) (N := some 10) (v := ?_) (a' := ?_) (bR [4, 1, 1, 1, 1, 5]) rfl rfl (take_ofW HT_.out HW_.out (by kernel_rfl)) (fun _ _ _ h => h) (Or.inl ⟨by rfl, ?_⟩) hHeld ?_ ?_
   rotate_left; (rintro w' ⟨s0, s1, s2, s3⟩; go_simp; with_reducible rfl); rotate_left; (simp only [Act.put, sA, sZ, sS, i64_w]; rfl)
   refine take_ (i := 6) (N := some 13) (v := ?_) (a' := ?_) (bR [4, 1, 3, 5]) rfl rfl (take_ofW HT_.out HW_.out (by kernel_rfl)) (fun _ _ _ h => h) (Or.inl ⟨by rfl, ?_⟩) hHeld ?_ ?_
   rotate_left; (rintro w' ⟨s0, s1, s2, s3⟩; go_simp; with_reducible rfl); rotate_left; (simp only [Act.put, sA, sZ, sS, i64_w]; rfl)
   refine take_ (i := 8) (N := some 15) (v := ?_) (a' := ?_) (bR [4, 1, 4, 4]) rfl rfl (take_ofW HT_.out HW_.out (by kernel_rfl)) (fun _ _ _ h => h) (Or.inl ⟨by rfl, ?_⟩) hHeld ?_ ?_
   rotate_left; (rintro w' ⟨s0, s1, s2, s3⟩; go_simp; with_reducible rfl); rotate_left; (simp only [Act.put, sA, sZ, sS, i64_w]; rfl)
   refine join_ (σ := Nat) 1 (bR [12, 1]) (fun s_ => [(11, .int .i64 t112), (16, .int .i64 t113), (6, .pointer (some ⟨s_, 0, none⟩)), (17, .agg #[.int .i64 t112, .int .i64 t113])]) (fun s_ w' => (w'.cell? ⟨gb109, 0, none⟩ = some (.int .i64 a0_0) ∧ w'.cell? ⟨gb109, 1, none⟩ = some (.int .i64 a0_1) ∧ w'.cell? ⟨gb110, 0, none⟩ = some (.int .i64 a1_0) ∧ w'.cell? ⟨gb110, 1, none⟩ = some (.int .i64 a1_1)) ∧ (w'.heap[gb109]? = some (.cells #[.int .i64 a0_0, .int .i64 a0_1] 43 (0, 0))) ∧ (w'.heap[gb110]? = some (.cells #[.int .i64 a1_0, .int .i64 a1_1] 43 (0, 0))) ∧ (w'.heap[gb111]? = some (.cells #[.int .i64 0, .int .i64 0] 43 (0, 0))) ∧ (w'.heap[s_]? = some (.cells #[.int .i64 0, .int .i64 0] 43 (0, 0))) ∧ (w.heap.size ≤ s_) ∧ (w.heap.size ≤ s_) ∧ (gb109 ≠ s_) ∧ (s_ ≠ gb109) ∧ (gb110 ≠ s_) ∧ (s_ ≠ gb110) ∧ (gb111 ≠ s_) ∧ (s_ ≠ gb111) ∧ (Below w.heap.size w w')) ?_ ?_
   rotate_left
   ·intro hCont
    refine two_ (i := 4) (j := 11) (Ni := some 11) (Nj := some 6) (bR [9, 4]) (bR [4, 1, 4, 2, 1, 1]) rfl rfl rfl rfl (two_of HT_.out (by kernel_rfl)) (by decide) (by decide) (fun K hK => ?_) (fun K hK => ?_)
    ·skip
     refine goes_ Try.func143 (by kernel_rfl) rfl #[.int .i64 a0_0, .int .i64 a1_0] (by rfl) rfl rfl (by (try simp only [mA, mC, mN]); first | done | rfl | (simp only [lD, lT]; rfl)) ?_
     with_reducible refine (spec_Max.calls a0_0 a1_0 t112 _ A3.out).mono ?_
     rintro e w' ⟨rfl, ⟨nd, rfl⟩⟩
     refine ⟨_, rfl, ?_⟩
     refine hK.out _ _ ⟨cC BK109 0, cC BK109 1, cC BK110 0, cC BK110 1⟩ (fun hHeld => ?_)
     clear hK K
     refine norm_ (a' := ?_) ?_ ?_
     rotate_left
     ·show Act.put _ (some 11) _ = _
      simp only [Act.put, sA, sZ, sS, i64_w]
      rfl
     refine two_ (i := 9) (j := 11) (Ni := some 16) (Nj := some 6) (bR [10, 3]) (bR [9, 2, 1, 1]) rfl rfl rfl rfl (two_of HT_.out (by kernel_rfl)) (by decide) (by decide) (fun K hK => ?_) (fun K hK => ?_)
     ·skip
      refine goes_ Try.func147 (by kernel_rfl) rfl #[.int .i64 a0_1, .int .i64 a1_1] (by rfl) rfl rfl (by (try simp only [mA, mC, mN]); first | done | rfl | (simp only [lD, lT]; rfl)) ?_
      with_reducible refine (spec_Min.calls a0_1 a1_1 t113 _ A4.out).mono ?_
      rintro e w' ⟨rfl, ⟨nd, rfl⟩⟩
      refine ⟨_, rfl, ?_⟩
      refine hK.out _ _ ⟨cC BK109 0, cC BK109 1, cC BK110 0, cC BK110 1⟩ (fun hHeld => ?_)
      clear hK K
      refine norm_ (a' := ?_) ?_ ?_
      rotate_left
      ·show Act.put _ (some 16) _ = _
       simp only [Act.put, sA, sZ, sS, i64_w]
       rfl
      refine pP 10 17 (bR [11, 2]) rfl rfl HT_ ?_
      refine one_ (i := 11) (N := some 6) (bR [12, 1]) rfl rfl (one_of HT_.out (by kernel_rfl)) (by decide) (fun K hK => ?_)
      refine box_step ?hg (N := 6) ?hd (cs := #[.int .i64 0, .int .i64 0]) (t := 43) ?hr ?_; (case hd => rfl); (case hg => rfl); (case hr => first | (go_simp; done) | (go_simp; rfl))
      intro gb114 hg w58 hbox hb
      have n0_ := Aside0.mk (blk_below (qK BK109) hb)
      have n1_ := Aside0.mk (blk_below (qK BK110) hb)
      have n2_ := Aside0.mk (blk_below (qK BK111) hb)
      have n3_ := Aside0.mk (below_step (by repeat first | (with_reducible first | exact HB.out | apply bA | apply bN | apply bD | refine bS ?_ GE109.out | refine bS ?_ GE110.out | refine bS ?_ GE111.out) | exact HB.out) hb)
      have n4_ := Aside0.mk (hbox)
      have n5_ := Aside0.mk ((by rw [hg]; exact (below_size (by repeat first | (with_reducible first | exact HB.out | apply bA | apply bN | apply bD | refine bS ?_ GE109.out | refine bS ?_ GE110.out | refine bS ?_ GE111.out) | exact HB.out)) : w.heap.size ≤ gb114))
      have n6_ := Aside0.mk ((by rw [hg]; exact (below_size (by repeat first | (with_reducible first | exact HB.out | apply bA | apply bN | apply bD | refine bS ?_ GE109.out | refine bS ?_ GE110.out | refine bS ?_ GE111.out) | exact HB.out)) : w.heap.size ≤ gb114))
      have n7_ := Aside0.mk ((by rw [hg]; exact Nat.ne_of_lt (blk_lt (qK BK109)) : gb109 ≠ gb114))
      have n8_ := Aside0.mk ((by rw [hg]; exact Nat.ne_of_gt (blk_lt (qK BK109)) : gb114 ≠ gb109))
      have n9_ := Aside0.mk ((by rw [hg]; exact Nat.ne_of_lt (blk_lt (qK BK110)) : gb110 ≠ gb114))
      have n10_ := Aside0.mk ((by rw [hg]; exact Nat.ne_of_gt (blk_lt (qK BK110)) : gb114 ≠ gb110))
      have n11_ := Aside0.mk ((by rw [hg]; exact Nat.ne_of_lt (blk_lt (qK BK111)) : gb111 ≠ gb114))
      have n12_ := Aside0.mk ((by rw [hg]; exact Nat.ne_of_gt (blk_lt (qK BK111)) : gb114 ≠ gb111))
      clear BK109
      clear BK110
      clear BK111
      clear HB
      have BK109 := n0_
      have BK110 := n1_
      have BK111 := n2_
      have HB := n3_
      have BK114 := n4_
      have GW114 := n5_
      have GE114 := n6_
      have NB109_114 := n7_
      have NB114_109 := n8_
      have NB110_114 := n9_
      have NB114_110 := n10_
      have NB111_114 := n11_
      have NB114_111 := n12_
      clear n0_ n1_ n2_ n3_ n4_ n5_ n6_ n7_ n8_ n9_ n10_ n11_ n12_
      clear hb hbox hg
      refine hK.out _ _ ⟨cC BK109 0, cC BK109 1, cC BK110 0, cC BK110 1⟩ (fun hHeld => ?_)
      clear hK K
      refine norm_ (a' := ?_) ?_ ?_
      rotate_left
      ·show Act.put _ (some 6) _ = _
       simp only [Act.put, sA, sZ, sS, i64_w]
       rfl
      exact norm_ (by simp only [putAll, Act.put, sA, sZ, sS]) (hCont (gb114) _ ⟨hHeld, (qK BK109), (qK BK110), (qK BK111), (qK BK114), GW114.out, GE114.out, NB109_114.out, NB114_109.out, NB110_114.out, NB114_110.out, NB111_114.out, NB114_111.out, (by repeat first | (with_reducible first | exact HB.out | apply bA | apply bN | apply bD | refine bS ?_ GE109.out | refine bS ?_ GE110.out | refine bS ?_ GE111.out | refine bS ?_ GE114.out) | exact HB.out)⟩)
     ·skip
      refine box_step ?hg (N := 6) ?hd (cs := #[.int .i64 0, .int .i64 0]) (t := 43) ?hr ?_; (case hd => rfl); (case hg => rfl); (case hr => first | (go_simp; done) | (go_simp; rfl))
      intro gb114 hg w58 hbox hb
      have n0_ := Aside0.mk (blk_below (qK BK109) hb)
      have n1_ := Aside0.mk (blk_below (qK BK110) hb)
      have n2_ := Aside0.mk (blk_below (qK BK111) hb)
      have n3_ := Aside0.mk (below_step (by repeat first | (with_reducible first | exact HB.out | apply bA | apply bN | apply bD | refine bS ?_ GE109.out | refine bS ?_ GE110.out | refine bS ?_ GE111.out) | exact HB.out) hb)
      have n4_ := Aside0.mk (hbox)
      have n5_ := Aside0.mk ((by rw [hg]; exact (below_size (by repeat first | (with_reducible first | exact HB.out | apply bA | apply bN | apply bD | refine bS ?_ GE109.out | refine bS ?_ GE110.out | refine bS ?_ GE111.out) | exact HB.out)) : w.heap.size ≤ gb114))
      have n6_ := Aside0.mk ((by rw [hg]; exact (below_size (by repeat first | (with_reducible first | exact HB.out | apply bA | apply bN | apply bD | refine bS ?_ GE109.out | refine bS ?_ GE110.out | refine bS ?_ GE111.out) | exact HB.out)) : w.heap.size ≤ gb114))
      have n7_ := Aside0.mk ((by rw [hg]; exact Nat.ne_of_lt (blk_lt (qK BK109)) : gb109 ≠ gb114))
      have n8_ := Aside0.mk ((by rw [hg]; exact Nat.ne_of_gt (blk_lt (qK BK109)) : gb114 ≠ gb109))
      have n9_ := Aside0.mk ((by rw [hg]; exact Nat.ne_of_lt (blk_lt (qK BK110)) : gb110 ≠ gb114))
      have n10_ := Aside0.mk ((by rw [hg]; exact Nat.ne_of_gt (blk_lt (qK BK110)) : gb114 ≠ gb110))
      have n11_ := Aside0.mk ((by rw [hg]; exact Nat.ne_of_lt (blk_lt (qK BK111)) : gb111 ≠ gb114))
      have n12_ := Aside0.mk ((by rw [hg]; exact Nat.ne_of_gt (blk_lt (qK BK111)) : gb114 ≠ gb111))
      clear BK109
      clear BK110
      clear BK111
      clear HB
      have BK109 := n0_
      have BK110 := n1_
      have BK111 := n2_
      have HB := n3_
      have BK114 := n4_
      have GW114 := n5_
      have GE114 := n6_
      have NB109_114 := n7_
      have NB114_109 := n8_
      have NB110_114 := n9_
      have NB114_110 := n10_
      have NB111_114 := n11_
      have NB114_111 := n12_
      clear n0_ n1_ n2_ n3_ n4_ n5_ n6_ n7_ n8_ n9_ n10_ n11_ n12_
      clear hb hbox hg
      refine hK.out _ _ ⟨cC BK109 0, cC BK109 1, cC BK110 0, cC BK110 1⟩ (fun hHeld => ?_)
      clear hK K
      refine norm_ (a' := ?_) ?_ ?_
      rotate_left
      ·show Act.put _ (some 6) _ = _
       simp only [Act.put, sA, sZ, sS, i64_w]
       rfl
      refine one_ (i := 9) (N := some 16) (bR [10, 1, 1, 1]) rfl rfl (one_of HT_.out (by kernel_rfl)) (by decide) (fun K hK => ?_)
      refine goes_ Try.func147 (by kernel_rfl) rfl #[.int .i64 a0_1, .int .i64 a1_1] (by rfl) rfl rfl (by (try simp only [mA, mC, mN]); first | done | rfl | (simp only [lD, lT]; rfl)) ?_
      with_reducible refine (spec_Min.calls a0_1 a1_1 t113 _ A4.out).mono ?_
      rintro e w' ⟨rfl, ⟨nd, rfl⟩⟩
      refine ⟨_, rfl, ?_⟩
      refine hK.out _ _ ⟨cC BK109 0, cC BK109 1, cC BK110 0, cC BK110 1⟩ (fun hHeld => ?_)
      clear hK K
      refine norm_ (a' := ?_) ?_ ?_
      rotate_left
      ·show Act.put _ (some 16) _ = _
       simp only [Act.put, sA, sZ, sS, i64_w]
       rfl
      refine pP 10 17 (bR [12, 1]) rfl rfl HT_ ?_
      exact norm_ (by simp only [putAll, Act.put, sA, sZ, sS]) (hCont (gb114) _ ⟨hHeld, (qK BK109), (qK BK110), (qK BK111), (qK BK114), GW114.out, GE114.out, NB109_114.out, NB114_109.out, NB110_114.out, NB114_110.out, NB111_114.out, NB114_111.out, (by repeat first | (with_reducible first | exact HB.out | apply bA | apply bN | apply bD | refine bS ?_ GE109.out | refine bS ?_ GE110.out | refine bS ?_ GE111.out | refine bS ?_ GE114.out) | exact HB.out)⟩)
    ·skip
     refine box_step ?hg (N := 6) ?hd (cs := #[.int .i64 0, .int .i64 0]) (t := 43) ?hr ?_; (case hd => rfl); (case hg => rfl); (case hr => first | (go_simp; done) | (go_simp; rfl))
     intro gb114 hg w58 hbox hb
     have n0_ := Aside0.mk (blk_below (qK BK109) hb)
     have n1_ := Aside0.mk (blk_below (qK BK110) hb)
     have n2_ := Aside0.mk (blk_below (qK BK111) hb)
     have n3_ := Aside0.mk (below_step (by repeat first | (with_reducible first | exact HB.out | apply bA | apply bN | apply bD | refine bS ?_ GE109.out | refine bS ?_ GE110.out | refine bS ?_ GE111.out) | exact HB.out) hb)
     have n4_ := Aside0.mk (hbox)
     have n5_ := Aside0.mk ((by rw [hg]; exact (below_size (by repeat first | (with_reducible first | exact HB.out | apply bA | apply bN | apply bD | refine bS ?_ GE109.out | refine bS ?_ GE110.out | refine bS ?_ GE111.out) | exact HB.out)) : w.heap.size ≤ gb114))
     have n6_ := Aside0.mk ((by rw [hg]; exact (below_size (by repeat first | (with_reducible first | exact HB.out | apply bA | apply bN | apply bD | refine bS ?_ GE109.out | refine bS ?_ GE110.out | refine bS ?_ GE111.out) | exact HB.out)) : w.heap.size ≤ gb114))
     have n7_ := Aside0.mk ((by rw [hg]; exact Nat.ne_of_lt (blk_lt (qK BK109)) : gb109 ≠ gb114))
     have n8_ := Aside0.mk ((by rw [hg]; exact Nat.ne_of_gt (blk_lt (qK BK109)) : gb114 ≠ gb109))
     have n9_ := Aside0.mk ((by rw [hg]; exact Nat.ne_of_lt (blk_lt (qK BK110)) : gb110 ≠ gb114))
     have n10_ := Aside0.mk ((by rw [hg]; exact Nat.ne_of_gt (blk_lt (qK BK110)) : gb114 ≠ gb110))
     have n11_ := Aside0.mk ((by rw [hg]; exact Nat.ne_of_lt (blk_lt (qK BK111)) : gb111 ≠ gb114))
     have n12_ := Aside0.mk ((by rw [hg]; exact Nat.ne_of_gt (blk_lt (qK BK111)) : gb114 ≠ gb111))
     clear BK109
     clear BK110
     clear BK111
     clear HB
     have BK109 := n0_
     have BK110 := n1_
     have BK111 := n2_
     have HB := n3_
     have BK114 := n4_
     have GW114 := n5_
     have GE114 := n6_
     have NB109_114 := n7_
     have NB114_109 := n8_
     have NB110_114 := n9_
     have NB114_110 := n10_
     have NB111_114 := n11_
     have NB114_111 := n12_
     clear n0_ n1_ n2_ n3_ n4_ n5_ n6_ n7_ n8_ n9_ n10_ n11_ n12_
     clear hb hbox hg
     refine hK.out _ _ ⟨cC BK109 0, cC BK109 1, cC BK110 0, cC BK110 1⟩ (fun hHeld => ?_)
     clear hK K
     refine norm_ (a' := ?_) ?_ ?_
     rotate_left
     ·show Act.put _ (some 6) _ = _
      simp only [Act.put, sA, sZ, sS, i64_w]
      rfl
     refine one_ (i := 4) (N := some 11) (bR [9, 2, 1, 1]) rfl rfl (one_of HT_.out (by kernel_rfl)) (by decide) (fun K hK => ?_)
     refine goes_ Try.func143 (by kernel_rfl) rfl #[.int .i64 a0_0, .int .i64 a1_0] (by rfl) rfl rfl (by (try simp only [mA, mC, mN]); first | done | rfl | (simp only [lD, lT]; rfl)) ?_
     with_reducible refine (spec_Max.calls a0_0 a1_0 t112 _ A3.out).mono ?_
     rintro e w' ⟨rfl, ⟨nd, rfl⟩⟩
     refine ⟨_, rfl, ?_⟩
     refine hK.out _ _ ⟨cC BK109 0, cC BK109 1, cC BK110 0, cC BK110 1⟩ (fun hHeld => ?_)
     clear hK K
     refine norm_ (a' := ?_) ?_ ?_
     rotate_left
     ·show Act.put _ (some 11) _ = _
      simp only [Act.put, sA, sZ, sS, i64_w]
      rfl
     refine one_ (i := 9) (N := some 16) (bR [10, 1, 1, 1]) rfl rfl (one_of HT_.out (by kernel_rfl)) (by decide) (fun K hK => ?_)
     refine goes_ Try.func147 (by kernel_rfl) rfl #[.int .i64 a0_1, .int .i64 a1_1] (by rfl) rfl rfl (by (try simp only [mA, mC, mN]); first | done | rfl | (simp only [lD, lT]; rfl)) ?_
     with_reducible refine (spec_Min.calls a0_1 a1_1 t113 _ A4.out).mono ?_
     rintro e w' ⟨rfl, ⟨nd, rfl⟩⟩
     refine ⟨_, rfl, ?_⟩
     refine hK.out _ _ ⟨cC BK109 0, cC BK109 1, cC BK110 0, cC BK110 1⟩ (fun hHeld => ?_)
     clear hK K
     refine norm_ (a' := ?_) ?_ ?_
     rotate_left
     ·show Act.put _ (some 16) _ = _
      simp only [Act.put, sA, sZ, sS, i64_w]
      rfl
     refine pP 10 17 (bR [12, 1]) rfl rfl HT_ ?_
     exact norm_ (by simp only [putAll, Act.put, sA, sZ, sS]) (hCont (gb114) _ ⟨hHeld, (qK BK109), (qK BK110), (qK BK111), (qK BK114), GW114.out, GE114.out, NB109_114.out, NB114_109.out, NB110_114.out, NB114_110.out, NB111_114.out, NB114_111.out, (by repeat first | (with_reducible first | exact HB.out | apply bA | apply bN | apply bD | refine bS ?_ GE109.out | refine bS ?_ GE110.out | refine bS ?_ GE111.out | refine bS ?_ GE114.out) | exact HB.out)⟩)
   rintro gb114 w59 ⟨hS_, h0_, h1_, h2_, h3_, h4_, h5_, h6_, h7_, h8_, h9_, h10_, h11_, h12_⟩
   have n0_ : Aside0 (w59.heap[gb109]? = some (.cells #[.int .i64 a0_0, .int .i64 a0_1] 43 (0, 0))) := ⟨h0_⟩
   have n1_ : Aside0 (w59.heap[gb110]? = some (.cells #[.int .i64 a1_0, .int .i64 a1_1] 43 (0, 0))) := ⟨h1_⟩
   have n2_ : Aside0 (w59.heap[gb111]? = some (.cells #[.int .i64 0, .int .i64 0] 43 (0, 0))) := ⟨h2_⟩
   have n3_ : Aside0 (w59.heap[gb114]? = some (.cells #[.int .i64 0, .int .i64 0] 43 (0, 0))) := ⟨h3_⟩
   have n4_ : Aside0 (w.heap.size ≤ gb114) := ⟨h4_⟩
   have n5_ : Aside0 (w.heap.size ≤ gb114) := ⟨h5_⟩
   have n6_ : Aside0 (gb109 ≠ gb114) := ⟨h6_⟩
   have n7_ : Aside0 (gb114 ≠ gb109) := ⟨h7_⟩
   have n8_ : Aside0 (gb110 ≠ gb114) := ⟨h8_⟩
   have n9_ : Aside0 (gb114 ≠ gb110) := ⟨h9_⟩
   have n10_ : Aside0 (gb111 ≠ gb114) := ⟨h10_⟩
   have n11_ : Aside0 (gb114 ≠ gb111) := ⟨h11_⟩
   have n12_ : Aside0 (Below w.heap.size w w59) := ⟨h12_⟩
   clear BK109
   clear BK110
   clear BK111
   clear HB
   clear h0_ h1_ h2_ h3_ h4_ h5_ h6_ h7_ h8_ h9_ h10_ h11_ h12_
   have BK109 := n0_
   have BK110 := n1_
   have BK111 := n2_
   have BK114 := n3_
   have GW114 := n4_
   have GE114 := n5_
   have NB109_114 := n6_
   have NB114_109 := n7_
   have NB110_114 := n8_
   have NB114_110 := n9_
   have NB111_114 := n10_
   have NB114_111 := n11_
   have HB := n12_
   clear n0_ n1_ n2_ n3_ n4_ n5_ n6_ n7_ n8_ n9_ n10_ n11_ n12_
   have hHeld : w59.cell? ⟨gb109, 0, none⟩ = some (.int .i64 a0_0) ∧ w59.cell? ⟨gb109, 1, none⟩ = some (.int .i64 a0_1) ∧ w59.cell? ⟨gb110, 0, none⟩ = some (.int .i64 a1_0) ∧ w59.cell? ⟨gb110, 1, none⟩ = some (.int .i64 a1_1) := hS_
   refine norm_ (a' := ?_) ?_ ?_
   rotate_left; (simp only [putAll, Act.put, sA, sZ, sS]; rfl)
   refine one_ (i := 12) (N := none) (bR [13]) rfl rfl (one_of HT_.out (by kernel_rfl)) (by decide) (fun K hK => ?_)
   have hs60 : w59.cell? ⟨gb114, 0, none⟩ = some (.int .i64 0) := cC BK114 0
   have hfs60 := blk_frozen BK114.out 0
   have hns60_0 := NB109_114.out
   have hns60_1 := NB110_114.out
   have hns60_2 := NB111_114.out
   have hms60_0 := NB114_109.out
   have hms60_1 := NB114_110.out
   have hms60_2 := NB114_111.out
   have hs61 : w59.cell? ⟨gb114, 1, none⟩ = some (.int .i64 0) := cC BK114 1
   have hfs61 := blk_frozen BK114.out 1
   have hns61_0 := NB109_114.out
   have hns61_1 := NB110_114.out
   have hns61_2 := NB111_114.out
   have hms61_0 := NB114_109.out
   have hms61_1 := NB114_110.out
   have hms61_2 := NB114_111.out
   refine skip_ (w1 := ?_) (by rfl) rfl ?_ ?_
   rotate_left
   ·go_simp
    rfl
   refine hK.out _ _ ⟨((cell_far (p := ⟨gb114, _, none⟩) NB109_114.out _).trans (((cell_far (p := ⟨gb114, _, none⟩) NB109_114.out _).trans (hHeld.1)))), ((cell_far (p := ⟨gb114, _, none⟩) NB109_114.out _).trans (((cell_far (p := ⟨gb114, _, none⟩) NB109_114.out _).trans (hHeld.2.1)))), ((cell_far (p := ⟨gb114, _, none⟩) NB110_114.out _).trans (((cell_far (p := ⟨gb114, _, none⟩) NB110_114.out _).trans (hHeld.2.2.1)))), ((cell_far (p := ⟨gb114, _, none⟩) NB110_114.out _).trans (((cell_far (p := ⟨gb114, _, none⟩) NB110_114.out _).trans (hHeld.2.2.2))))⟩ (fun hHeld => ?_)
   clear hK K
   refine done_ (done_of HT_.out (by kernel_rfl)) ?_
   have hnb62 := NB109_110.out
   have hnc62 := NB110_109.out
   have hnb63 := NB109_111.out
   have hnc63 := NB111_109.out
   have hnb64 := NB109_114.out
   have hnc64 := NB114_109.out
   have hcz65_0 : w59.cell? ⟨gb109, 0, none⟩ = some (.int .i64 a0_0) := cC BK109 0
   have hcz65_1 : w59.cell? ⟨gb109, 1, none⟩ = some (.int .i64 a0_1) := cC BK109 1
   have hfz65_0 := blk_frozen BK109.out 0
   have hfz65_1 := blk_frozen BK109.out 1
   try go_wp2_with (first | ((with_reducible refine gate_callee (f := 110) rfl ?_); refine goesL_ (some 19) rfl rfl Try.func110 (by kernel_rfl) rfl #[.agg #[.int .i64 a0_0, .int .i64 a0_1]] rfl (by (try simp only [mA, mC, mN]); first | done | rfl | (simp only [lD, lT]; rfl)) ?_; (with_reducible refine (spec_IsSpan.calls a0_0 a0_1 true _ A5.out).mono ?_); rintro e w66 ⟨rfl, hb⟩; refine ⟨_, rfl, ?_⟩; have n0_ := Aside0.mk (blk_below (g := gb109) (o := .cells #[.int .i64 a0_0, .int .i64 a0_1] 43 (0, 0)) (by (with_reducible repeat first | refine kN ?_ _ | refine kD ?_ | refine kA ?_ _); refine blk_far ?_ NB109_114.out _; (with_reducible repeat first | refine kN ?_ _ | refine kD ?_ | refine kA ?_ _); refine blk_far ?_ NB109_114.out _; (with_reducible repeat first | refine kN ?_ _ | refine kD ?_ | refine kA ?_ _); exact BK109.out) hb); have n1_ := Aside0.mk (blk_below (g := gb110) (o := .cells #[.int .i64 a1_0, .int .i64 a1_1] 43 (0, 0)) (by (with_reducible repeat first | refine kN ?_ _ | refine kD ?_ | refine kA ?_ _); refine blk_far ?_ NB110_114.out _; (with_reducible repeat first | refine kN ?_ _ | refine kD ?_ | refine kA ?_ _); refine blk_far ?_ NB110_114.out _; (with_reducible repeat first | refine kN ?_ _ | refine kD ?_ | refine kA ?_ _); exact BK110.out) hb); have n2_ := Aside0.mk (blk_below (g := gb111) (o := .cells #[.int .i64 0, .int .i64 0] 43 (0, 0)) (by (with_reducible repeat first | refine kN ?_ _ | refine kD ?_ | refine kA ?_ _); refine blk_far ?_ NB111_114.out _; (with_reducible repeat first | refine kN ?_ _ | refine kD ?_ | refine kA ?_ _); refine blk_far ?_ NB111_114.out _; (with_reducible repeat first | refine kN ?_ _ | refine kD ?_ | refine kA ?_ _); exact BK111.out) hb); have n3_ := Aside0.mk (blk_below (g := gb114) (o := .cells #[.int .i64 t112, .int .i64 t113] 43 (0, 0)) (by (with_reducible repeat first | refine kN ?_ _ | refine kD ?_ | refine kA ?_ _); refine blk_put (cs := #[.int .i64 t112, .int .i64 0]) ?_ 1 _ rfl; (with_reducible repeat first | refine kN ?_ _ | refine kD ?_ | refine kA ?_ _); refine blk_put (cs := #[.int .i64 0, .int .i64 0]) ?_ 0 _ rfl; (with_reducible repeat first | refine kN ?_ _ | refine kD ?_ | refine kA ?_ _); exact BK114.out) hb); have n4_ := Aside0.mk (below_step (by repeat first | (with_reducible first | exact HB.out | apply bA | apply bN | apply bD | refine bS ?_ GE109.out | refine bS ?_ GE110.out | refine bS ?_ GE111.out | refine bS ?_ GE114.out) | exact HB.out) hb); clear BK109; clear BK110; clear BK111; clear BK114; clear HB; have BK109 := n0_; have BK110 := n1_; have BK111 := n2_; have BK114 := n3_; have HB := n4_; clear n0_ n1_ n2_ n3_ n4_; (try clear hb); (try clear hb2); (try clear hk); (try clear hi); have hnb67 := NB110_111.out; have hnc67 := NB111_110.out; have hnb68 := NB110_114.out; have hnc68 := NB114_110.out; have hcz69_0 : w66.cell? ⟨gb110, 0, none⟩ = some (.int .i64 a1_0) := cC BK110 0; have hcz69_1 : w66.cell? ⟨gb110, 1, none⟩ = some (.int .i64 a1_1) := cC BK110 1; have hfz69_0 := blk_frozen BK110.out 0; have hfz69_1 := blk_frozen BK110.out 1) | (go_at_call 110; (with_reducible refine (spec_IsSpan.calls a1_0 a1_1 false _ A7.out).mono ?_); rintro e w70 ⟨rfl, hb⟩; have n0_ := Aside0.mk (blk_below (qK BK109) hb); have n1_ := Aside0.mk (blk_below (qK BK110) hb); have n2_ := Aside0.mk (blk_below (qK BK111) hb); have n3_ := Aside0.mk (blk_below (qK BK114) hb); have n4_ := Aside0.mk (below_step (by repeat first | (with_reducible first | exact HB.out | apply bA | apply bN | apply bD | refine bS ?_ GE109.out | refine bS ?_ GE110.out | refine bS ?_ GE111.out | refine bS ?_ GE114.out) | exact HB.out) hb); clear BK109; clear BK110; clear BK111; clear BK114; clear HB; have BK109 := n0_; have BK110 := n1_; have BK111 := n2_; have BK114 := n3_; have HB := n4_; clear n0_ n1_ n2_ n3_ n4_; (try clear hb); (try clear hb2); (try clear hk); (try clear hi); have hnb71 := NB111_114.out; have hnc71 := NB114_111.out; have hcz72_0 : w70.cell? ⟨gb111, 0, none⟩ = some (.int .i64 0) := cC BK111 0; have hcz72_1 : w70.cell? ⟨gb111, 1, none⟩ = some (.int .i64 0) := cC BK111 1; have hfz72_0 := blk_frozen BK111.out 0; have hfz72_1 := blk_frozen BK111.out 1))
   refine bodyPost_ret (results_ct rfl _ _ gb111 43 #[.int .i64 0, .int .i64 0] (0, 0) _ rfl (by (with_reducible repeat first | refine kN ?_ _ | refine kD ?_ | refine kA ?_ _); refine blk_put (cs := #[.int .i64 0, .int .i64 0]) ?_ 1 _ rfl; (with_reducible repeat first | refine kN ?_ _ | refine kD ?_ | refine kA ?_ _); refine blk_put (cs := #[.int .i64 0, .int .i64 0]) ?_ 0 _ rfl; (with_reducible repeat first | refine kN ?_ _ | refine kD ?_ | refine kA ?_ _); exact BK111.out) Try.underlying43 rfl (by kernel_rfl)) rfl ?_
   exact ⟨by first | rfl | (simp [errW_none, errW_some] <;> rfl) | (simp [*, errW_none, errW_some] <;> rfl), by repeat (first | (with_reducible first | exact HB.out | apply bA | apply bN | apply bD | refine bS ?_ GE109.out | refine bS ?_ GE110.out | refine bS ?_ GE111.out | refine bS ?_ GE114.out) | exact HB.out)⟩
 ·replace c6 := Bool.eq_false_iff.mpr c6
  subst c6
  have H1 : (some (0, 0, false)) = some (r1, r2, r3) := by rw [if_neg (show ¬ (false = true) by decide)] at H; exact H
  clear H
  have H := H1
  clear H1
  simp only [Option.some.injEq, Prod.mk.injEq] at H
  obtain ⟨rfl, rfl, rfl⟩ := H
  go_enter Try.func111, Try.ntmps111
  try go_wp2_with (first | ((with_reducible refine gate_dst (N := 2) rfl ?_); refine box_event ?hg (N := 2) ?hd (cs := #[.int .i64 a0_0, .int .i64 a0_1]) (t := 43) ?hr ?_; (case hd => rfl); (case hg => rfl); (case hr => first | (go_simp; done) | (go_simp; rfl)); intro gb109 hg w73 hbox hb; have n0_ := Aside0.mk (below_step (qB HB) hb); have n1_ := Aside0.mk (hbox); have n2_ := Aside0.mk ((by rw [hg]; exact (below_size (qB HB)) : w.heap.size ≤ gb109)); have n3_ := Aside0.mk ((by rw [hg]; exact (below_size (qB HB)) : w.heap.size ≤ gb109)); clear HB; have HB := n0_; have BK109 := n1_; have GW109 := n2_; have GE109 := n3_; clear n0_ n1_ n2_ n3_; clear hb hbox hg) | ((with_reducible refine gate_dst (N := 3) rfl ?_); refine box_event ?hg (N := 3) ?hd (cs := #[.int .i64 a1_0, .int .i64 a1_1]) (t := 43) ?hr ?_; (case hd => rfl); (case hg => rfl); (case hr => first | (go_simp; done) | (go_simp; rfl)); intro gb110 hg w74 hbox hb; have n0_ := Aside0.mk (blk_below (qK BK109) hb); have n1_ := Aside0.mk (below_step (by repeat first | (with_reducible first | exact HB.out | apply bA | apply bN | apply bD | refine bS ?_ GE109.out) | exact HB.out) hb); have n2_ := Aside0.mk (hbox); have n3_ := Aside0.mk ((by rw [hg]; exact (below_size (by repeat first | (with_reducible first | exact HB.out | apply bA | apply bN | apply bD | refine bS ?_ GE109.out) | exact HB.out)) : w.heap.size ≤ gb110)); have n4_ := Aside0.mk ((by rw [hg]; exact (below_size (by repeat first | (with_reducible first | exact HB.out | apply bA | apply bN | apply bD | refine bS ?_ GE109.out) | exact HB.out)) : w.heap.size ≤ gb110)); have n5_ := Aside0.mk ((by rw [hg]; exact Nat.ne_of_lt (blk_lt (qK BK109)) : gb109 ≠ gb110)); have n6_ := Aside0.mk ((by rw [hg]; exact Nat.ne_of_gt (blk_lt (qK BK109)) : gb110 ≠ gb109)); clear BK109; clear HB; have BK109 := n0_; have HB := n1_; have BK110 := n2_; have GW110 := n3_; have GE110 := n4_; have NB109_110 := n5_; have NB110_109 := n6_; clear n0_ n1_ n2_ n3_ n4_ n5_ n6_; clear hb hbox hg) | ((with_reducible refine gate_dst (N := 4) rfl ?_); refine box_event ?hg (N := 4) ?hd (cs := #[.int .i64 0, .int .i64 0]) (t := 43) ?hr ?_; (case hd => rfl); (case hg => rfl); (case hr => first | (go_simp; done) | (go_simp; rfl)); intro gb111 hg w75 hbox hb; have n0_ := Aside0.mk (blk_below (qK BK109) hb); have n1_ := Aside0.mk (blk_below (qK BK110) hb); have n2_ := Aside0.mk (below_step (by repeat first | (with_reducible first | exact HB.out | apply bA | apply bN | apply bD | refine bS ?_ GE109.out | refine bS ?_ GE110.out) | exact HB.out) hb); have n3_ := Aside0.mk (hbox); have n4_ := Aside0.mk ((by rw [hg]; exact (below_size (by repeat first | (with_reducible first | exact HB.out | apply bA | apply bN | apply bD | refine bS ?_ GE109.out | refine bS ?_ GE110.out) | exact HB.out)) : w.heap.size ≤ gb111)); have n5_ := Aside0.mk ((by rw [hg]; exact (below_size (by repeat first | (with_reducible first | exact HB.out | apply bA | apply bN | apply bD | refine bS ?_ GE109.out | refine bS ?_ GE110.out) | exact HB.out)) : w.heap.size ≤ gb111)); have n6_ := Aside0.mk ((by rw [hg]; exact Nat.ne_of_lt (blk_lt (qK BK109)) : gb109 ≠ gb111)); have n7_ := Aside0.mk ((by rw [hg]; exact Nat.ne_of_gt (blk_lt (qK BK109)) : gb111 ≠ gb109)); have n8_ := Aside0.mk ((by rw [hg]; exact Nat.ne_of_lt (blk_lt (qK BK110)) : gb110 ≠ gb111)); have n9_ := Aside0.mk ((by rw [hg]; exact Nat.ne_of_gt (blk_lt (qK BK110)) : gb111 ≠ gb110)); clear BK109; clear BK110; clear HB; have BK109 := n0_; have BK110 := n1_; have HB := n2_; have BK111 := n3_; have GW111 := n4_; have GE111 := n5_; have NB109_111 := n6_; have NB111_109 := n7_; have NB110_111 := n8_; have NB111_110 := n9_; clear n0_ n1_ n2_ n3_ n4_ n5_ n6_ n7_ n8_ n9_; clear hb hbox hg))
  have n0_ := Aside0.mk (blk_drew BK109.out)
  have n1_ := Aside0.mk (blk_drew BK110.out)
  have n2_ := Aside0.mk (blk_drew BK111.out)
  have n3_ := Aside0.mk (below_drew1 HB.out)
  clear BK109
  clear BK110
  clear BK111
  clear HB
  have BK109 := n0_
  have BK110 := n1_
  have BK111 := n2_
  have HB := n3_
  clear n0_ n1_ n2_ n3_
  refine start_ (n := 13) (S := fun w' => w'.cell? ⟨gb109, 0, none⟩ = some (.int .i64 a0_0) ∧ w'.cell? ⟨gb109, 1, none⟩ = some (.int .i64 a0_1) ∧ w'.cell? ⟨gb110, 0, none⟩ = some (.int .i64 a1_0) ∧ w'.cell? ⟨gb110, 1, none⟩ = some (.int .i64 a1_1)) (ds := []) (bR [0, 13]) (by kernel_rfl) rfl rfl ⟨cC BK109 0, cC BK109 1, cC BK110 0, cC BK110 1⟩ (fun hHeld => ?_); refine with_tabW spec_Meet.tab1 spec_Meet.bits1 (fun HT_ HW_ => ?_)
  generalize w75.drew = w76 at BK109 BK110 BK111 HB hHeld ⊢
  refine pP 0 7 (bR [1, 12]) rfl rfl HT_ ?_
  refine pP 2 9 (bR [1, 1, 1, 10]) rfl rfl HT_ ?_
  refine pP 5 12 (bR [1, 1, 1, 2, 1, 7]) rfl rfl HT_ ?_
  refine pP 7 14 (bR [1, 1, 1, 2, 1, 1, 1, 5]) rfl rfl HT_ ?_
  refine take_ (i := 1) (N := some 8) (v := ?_) (a' := ?_) (bR [3, 2, 1, 1, 1, 5]) rfl rfl (take_ofW HT_.out HW_.out (by kernel_rfl)) (fun _ _ _ h => h) (Or.inl ⟨by rfl, ?_⟩) hHeld ?_ ?_
  rotate_left; (rintro w' ⟨s0, s1, s2, s3⟩; go_simp; with_reducible rfl); rotate_left; (simp only [Act.put, sA, sZ, sS, i64_w]; rfl)
  refine take_ (i := 3) (N := some 10) (v := ?_) (a' := ?_) (bR [4, 1, 1, 1, 1, 5]) rfl rfl (take_ofW HT_.out HW_.out (by kernel_rfl)) (fun _ _ _ h => h) (Or.inl ⟨by rfl, ?_⟩) hHeld ?_ ?_
  rotate_left; (rintro w' ⟨s0, s1, s2, s3⟩; go_simp; with_reducible rfl); rotate_left; (simp only [Act.put, sA, sZ, sS, i64_w]; rfl)
  refine take_ (i := 6) (N := some 13) (v := ?_) (a' := ?_) (bR [4, 1, 3, 5]) rfl rfl (take_ofW HT_.out HW_.out (by kernel_rfl)) (fun _ _ _ h => h) (Or.inl ⟨by rfl, ?_⟩) hHeld ?_ ?_
  rotate_left; (rintro w' ⟨s0, s1, s2, s3⟩; go_simp; with_reducible rfl); rotate_left; (simp only [Act.put, sA, sZ, sS, i64_w]; rfl)
  refine take_ (i := 8) (N := some 15) (v := ?_) (a' := ?_) (bR [4, 1, 4, 4]) rfl rfl (take_ofW HT_.out HW_.out (by kernel_rfl)) (fun _ _ _ h => h) (Or.inl ⟨by rfl, ?_⟩) hHeld ?_ ?_
  rotate_left; (rintro w' ⟨s0, s1, s2, s3⟩; go_simp; with_reducible rfl); rotate_left; (simp only [Act.put, sA, sZ, sS, i64_w]; rfl)
  refine join_ (σ := Nat) 1 (bR [12, 1]) (fun s_ => [(11, .int .i64 t112), (16, .int .i64 t113), (6, .pointer (some ⟨s_, 0, none⟩)), (17, .agg #[.int .i64 t112, .int .i64 t113])]) (fun s_ w' => (w'.cell? ⟨gb109, 0, none⟩ = some (.int .i64 a0_0) ∧ w'.cell? ⟨gb109, 1, none⟩ = some (.int .i64 a0_1) ∧ w'.cell? ⟨gb110, 0, none⟩ = some (.int .i64 a1_0) ∧ w'.cell? ⟨gb110, 1, none⟩ = some (.int .i64 a1_1)) ∧ (w'.heap[gb109]? = some (.cells #[.int .i64 a0_0, .int .i64 a0_1] 43 (0, 0))) ∧ (w'.heap[gb110]? = some (.cells #[.int .i64 a1_0, .int .i64 a1_1] 43 (0, 0))) ∧ (w'.heap[gb111]? = some (.cells #[.int .i64 0, .int .i64 0] 43 (0, 0))) ∧ (w'.heap[s_]? = some (.cells #[.int .i64 0, .int .i64 0] 43 (0, 0))) ∧ (w.heap.size ≤ s_) ∧ (w.heap.size ≤ s_) ∧ (gb109 ≠ s_) ∧ (s_ ≠ gb109) ∧ (gb110 ≠ s_) ∧ (s_ ≠ gb110) ∧ (gb111 ≠ s_) ∧ (s_ ≠ gb111) ∧ (Below w.heap.size w w')) ?_ ?_
  rotate_left
  ·intro hCont
   refine two_ (i := 4) (j := 11) (Ni := some 11) (Nj := some 6) (bR [9, 4]) (bR [4, 1, 4, 2, 1, 1]) rfl rfl rfl rfl (two_of HT_.out (by kernel_rfl)) (by decide) (by decide) (fun K hK => ?_) (fun K hK => ?_)
   ·skip
    refine goes_ Try.func143 (by kernel_rfl) rfl #[.int .i64 a0_0, .int .i64 a1_0] (by rfl) rfl rfl (by (try simp only [mA, mC, mN]); first | done | rfl | (simp only [lD, lT]; rfl)) ?_
    with_reducible refine (spec_Max.calls a0_0 a1_0 t112 _ A3.out).mono ?_
    rintro e w' ⟨rfl, ⟨nd, rfl⟩⟩
    refine ⟨_, rfl, ?_⟩
    refine hK.out _ _ ⟨cC BK109 0, cC BK109 1, cC BK110 0, cC BK110 1⟩ (fun hHeld => ?_)
    clear hK K
    refine norm_ (a' := ?_) ?_ ?_
    rotate_left
    ·show Act.put _ (some 11) _ = _
     simp only [Act.put, sA, sZ, sS, i64_w]
     rfl
    refine two_ (i := 9) (j := 11) (Ni := some 16) (Nj := some 6) (bR [10, 3]) (bR [9, 2, 1, 1]) rfl rfl rfl rfl (two_of HT_.out (by kernel_rfl)) (by decide) (by decide) (fun K hK => ?_) (fun K hK => ?_)
    ·skip
     refine goes_ Try.func147 (by kernel_rfl) rfl #[.int .i64 a0_1, .int .i64 a1_1] (by rfl) rfl rfl (by (try simp only [mA, mC, mN]); first | done | rfl | (simp only [lD, lT]; rfl)) ?_
     with_reducible refine (spec_Min.calls a0_1 a1_1 t113 _ A4.out).mono ?_
     rintro e w' ⟨rfl, ⟨nd, rfl⟩⟩
     refine ⟨_, rfl, ?_⟩
     refine hK.out _ _ ⟨cC BK109 0, cC BK109 1, cC BK110 0, cC BK110 1⟩ (fun hHeld => ?_)
     clear hK K
     refine norm_ (a' := ?_) ?_ ?_
     rotate_left
     ·show Act.put _ (some 16) _ = _
      simp only [Act.put, sA, sZ, sS, i64_w]
      rfl
     refine pP 10 17 (bR [11, 2]) rfl rfl HT_ ?_
     refine one_ (i := 11) (N := some 6) (bR [12, 1]) rfl rfl (one_of HT_.out (by kernel_rfl)) (by decide) (fun K hK => ?_)
     refine box_step ?hg (N := 6) ?hd (cs := #[.int .i64 0, .int .i64 0]) (t := 43) ?hr ?_; (case hd => rfl); (case hg => rfl); (case hr => first | (go_simp; done) | (go_simp; rfl))
     intro gb114 hg w77 hbox hb
     have n0_ := Aside0.mk (blk_below (qK BK109) hb)
     have n1_ := Aside0.mk (blk_below (qK BK110) hb)
     have n2_ := Aside0.mk (blk_below (qK BK111) hb)
     have n3_ := Aside0.mk (below_step (by repeat first | (with_reducible first | exact HB.out | apply bA | apply bN | apply bD | refine bS ?_ GE109.out | refine bS ?_ GE110.out | refine bS ?_ GE111.out) | exact HB.out) hb)
     have n4_ := Aside0.mk (hbox)
     have n5_ := Aside0.mk ((by rw [hg]; exact (below_size (by repeat first | (with_reducible first | exact HB.out | apply bA | apply bN | apply bD | refine bS ?_ GE109.out | refine bS ?_ GE110.out | refine bS ?_ GE111.out) | exact HB.out)) : w.heap.size ≤ gb114))
     have n6_ := Aside0.mk ((by rw [hg]; exact (below_size (by repeat first | (with_reducible first | exact HB.out | apply bA | apply bN | apply bD | refine bS ?_ GE109.out | refine bS ?_ GE110.out | refine bS ?_ GE111.out) | exact HB.out)) : w.heap.size ≤ gb114))
     have n7_ := Aside0.mk ((by rw [hg]; exact Nat.ne_of_lt (blk_lt (qK BK109)) : gb109 ≠ gb114))
     have n8_ := Aside0.mk ((by rw [hg]; exact Nat.ne_of_gt (blk_lt (qK BK109)) : gb114 ≠ gb109))
     have n9_ := Aside0.mk ((by rw [hg]; exact Nat.ne_of_lt (blk_lt (qK BK110)) : gb110 ≠ gb114))
     have n10_ := Aside0.mk ((by rw [hg]; exact Nat.ne_of_gt (blk_lt (qK BK110)) : gb114 ≠ gb110))
     have n11_ := Aside0.mk ((by rw [hg]; exact Nat.ne_of_lt (blk_lt (qK BK111)) : gb111 ≠ gb114))
     have n12_ := Aside0.mk ((by rw [hg]; exact Nat.ne_of_gt (blk_lt (qK BK111)) : gb114 ≠ gb111))
     clear BK109
     clear BK110
     clear BK111
     clear HB
     have BK109 := n0_
     have BK110 := n1_
     have BK111 := n2_
     have HB := n3_
     have BK114 := n4_
     have GW114 := n5_
     have GE114 := n6_
     have NB109_114 := n7_
     have NB114_109 := n8_
     have NB110_114 := n9_
     have NB114_110 := n10_
     have NB111_114 := n11_
     have NB114_111 := n12_
     clear n0_ n1_ n2_ n3_ n4_ n5_ n6_ n7_ n8_ n9_ n10_ n11_ n12_
     clear hb hbox hg
     refine hK.out _ _ ⟨cC BK109 0, cC BK109 1, cC BK110 0, cC BK110 1⟩ (fun hHeld => ?_)
     clear hK K
     refine norm_ (a' := ?_) ?_ ?_
     rotate_left
     ·show Act.put _ (some 6) _ = _
      simp only [Act.put, sA, sZ, sS, i64_w]
      rfl
     exact norm_ (by simp only [putAll, Act.put, sA, sZ, sS]) (hCont (gb114) _ ⟨hHeld, (qK BK109), (qK BK110), (qK BK111), (qK BK114), GW114.out, GE114.out, NB109_114.out, NB114_109.out, NB110_114.out, NB114_110.out, NB111_114.out, NB114_111.out, (by repeat first | (with_reducible first | exact HB.out | apply bA | apply bN | apply bD | refine bS ?_ GE109.out | refine bS ?_ GE110.out | refine bS ?_ GE111.out | refine bS ?_ GE114.out) | exact HB.out)⟩)
    ·skip
     refine box_step ?hg (N := 6) ?hd (cs := #[.int .i64 0, .int .i64 0]) (t := 43) ?hr ?_; (case hd => rfl); (case hg => rfl); (case hr => first | (go_simp; done) | (go_simp; rfl))
     intro gb114 hg w77 hbox hb
     have n0_ := Aside0.mk (blk_below (qK BK109) hb)
     have n1_ := Aside0.mk (blk_below (qK BK110) hb)
     have n2_ := Aside0.mk (blk_below (qK BK111) hb)
     have n3_ := Aside0.mk (below_step (by repeat first | (with_reducible first | exact HB.out | apply bA | apply bN | apply bD | refine bS ?_ GE109.out | refine bS ?_ GE110.out | refine bS ?_ GE111.out) | exact HB.out) hb)
     have n4_ := Aside0.mk (hbox)
     have n5_ := Aside0.mk ((by rw [hg]; exact (below_size (by repeat first | (with_reducible first | exact HB.out | apply bA | apply bN | apply bD | refine bS ?_ GE109.out | refine bS ?_ GE110.out | refine bS ?_ GE111.out) | exact HB.out)) : w.heap.size ≤ gb114))
     have n6_ := Aside0.mk ((by rw [hg]; exact (below_size (by repeat first | (with_reducible first | exact HB.out | apply bA | apply bN | apply bD | refine bS ?_ GE109.out | refine bS ?_ GE110.out | refine bS ?_ GE111.out) | exact HB.out)) : w.heap.size ≤ gb114))
     have n7_ := Aside0.mk ((by rw [hg]; exact Nat.ne_of_lt (blk_lt (qK BK109)) : gb109 ≠ gb114))
     have n8_ := Aside0.mk ((by rw [hg]; exact Nat.ne_of_gt (blk_lt (qK BK109)) : gb114 ≠ gb109))
     have n9_ := Aside0.mk ((by rw [hg]; exact Nat.ne_of_lt (blk_lt (qK BK110)) : gb110 ≠ gb114))
     have n10_ := Aside0.mk ((by rw [hg]; exact Nat.ne_of_gt (blk_lt (qK BK110)) : gb114 ≠ gb110))
     have n11_ := Aside0.mk ((by rw [hg]; exact Nat.ne_of_lt (blk_lt (qK BK111)) : gb111 ≠ gb114))
     have n12_ := Aside0.mk ((by rw [hg]; exact Nat.ne_of_gt (blk_lt (qK BK111)) : gb114 ≠ gb111))
     clear BK109
     clear BK110
     clear BK111
     clear HB
     have BK109 := n0_
     have BK110 := n1_
     have BK111 := n2_
     have HB := n3_
     have BK114 := n4_
     have GW114 := n5_
     have GE114 := n6_
     have NB109_114 := n7_
     have NB114_109 := n8_
     have NB110_114 := n9_
     have NB114_110 := n10_
     have NB111_114 := n11_
     have NB114_111 := n12_
     clear n0_ n1_ n2_ n3_ n4_ n5_ n6_ n7_ n8_ n9_ n10_ n11_ n12_
     clear hb hbox hg
     refine hK.out _ _ ⟨cC BK109 0, cC BK109 1, cC BK110 0, cC BK110 1⟩ (fun hHeld => ?_)
     clear hK K
     refine norm_ (a' := ?_) ?_ ?_
     rotate_left
     ·show Act.put _ (some 6) _ = _
      simp only [Act.put, sA, sZ, sS, i64_w]
      rfl
     refine one_ (i := 9) (N := some 16) (bR [10, 1, 1, 1]) rfl rfl (one_of HT_.out (by kernel_rfl)) (by decide) (fun K hK => ?_)
     refine goes_ Try.func147 (by kernel_rfl) rfl #[.int .i64 a0_1, .int .i64 a1_1] (by rfl) rfl rfl (by (try simp only [mA, mC, mN]); first | done | rfl | (simp only [lD, lT]; rfl)) ?_
     with_reducible refine (spec_Min.calls a0_1 a1_1 t113 _ A4.out).mono ?_
     rintro e w' ⟨rfl, ⟨nd, rfl⟩⟩
     refine ⟨_, rfl, ?_⟩
     refine hK.out _ _ ⟨cC BK109 0, cC BK109 1, cC BK110 0, cC BK110 1⟩ (fun hHeld => ?_)
     clear hK K
     refine norm_ (a' := ?_) ?_ ?_
     rotate_left
     ·show Act.put _ (some 16) _ = _
      simp only [Act.put, sA, sZ, sS, i64_w]
      rfl
     refine pP 10 17 (bR [12, 1]) rfl rfl HT_ ?_
     exact norm_ (by simp only [putAll, Act.put, sA, sZ, sS]) (hCont (gb114) _ ⟨hHeld, (qK BK109), (qK BK110), (qK BK111), (qK BK114), GW114.out, GE114.out, NB109_114.out, NB114_109.out, NB110_114.out, NB114_110.out, NB111_114.out, NB114_111.out, (by repeat first | (with_reducible first | exact HB.out | apply bA | apply bN | apply bD | refine bS ?_ GE109.out | refine bS ?_ GE110.out | refine bS ?_ GE111.out | refine bS ?_ GE114.out) | exact HB.out)⟩)
   ·skip
    refine box_step ?hg (N := 6) ?hd (cs := #[.int .i64 0, .int .i64 0]) (t := 43) ?hr ?_; (case hd => rfl); (case hg => rfl); (case hr => first | (go_simp; done) | (go_simp; rfl))
    intro gb114 hg w77 hbox hb
    have n0_ := Aside0.mk (blk_below (qK BK109) hb)
    have n1_ := Aside0.mk (blk_below (qK BK110) hb)
    have n2_ := Aside0.mk (blk_below (qK BK111) hb)
    have n3_ := Aside0.mk (below_step (by repeat first | (with_reducible first | exact HB.out | apply bA | apply bN | apply bD | refine bS ?_ GE109.out | refine bS ?_ GE110.out | refine bS ?_ GE111.out) | exact HB.out) hb)
    have n4_ := Aside0.mk (hbox)
    have n5_ := Aside0.mk ((by rw [hg]; exact (below_size (by repeat first | (with_reducible first | exact HB.out | apply bA | apply bN | apply bD | refine bS ?_ GE109.out | refine bS ?_ GE110.out | refine bS ?_ GE111.out) | exact HB.out)) : w.heap.size ≤ gb114))
    have n6_ := Aside0.mk ((by rw [hg]; exact (below_size (by repeat first | (with_reducible first | exact HB.out | apply bA | apply bN | apply bD | refine bS ?_ GE109.out | refine bS ?_ GE110.out | refine bS ?_ GE111.out) | exact HB.out)) : w.heap.size ≤ gb114))
    have n7_ := Aside0.mk ((by rw [hg]; exact Nat.ne_of_lt (blk_lt (qK BK109)) : gb109 ≠ gb114))
    have n8_ := Aside0.mk ((by rw [hg]; exact Nat.ne_of_gt (blk_lt (qK BK109)) : gb114 ≠ gb109))
    have n9_ := Aside0.mk ((by rw [hg]; exact Nat.ne_of_lt (blk_lt (qK BK110)) : gb110 ≠ gb114))
    have n10_ := Aside0.mk ((by rw [hg]; exact Nat.ne_of_gt (blk_lt (qK BK110)) : gb114 ≠ gb110))
    have n11_ := Aside0.mk ((by rw [hg]; exact Nat.ne_of_lt (blk_lt (qK BK111)) : gb111 ≠ gb114))
    have n12_ := Aside0.mk ((by rw [hg]; exact Nat.ne_of_gt (blk_lt (qK BK111)) : gb114 ≠ gb111))
    clear BK109
    clear BK110
    clear BK111
    clear HB
    have BK109 := n0_
    have BK110 := n1_
    have BK111 := n2_
    have HB := n3_
    have BK114 := n4_
    have GW114 := n5_
    have GE114 := n6_
    have NB109_114 := n7_
    have NB114_109 := n8_
    have NB110_114 := n9_
    have NB114_110 := n10_
    have NB111_114 := n11_
    have NB114_111 := n12_
    clear n0_ n1_ n2_ n3_ n4_ n5_ n6_ n7_ n8_ n9_ n10_ n11_ n12_
    clear hb hbox hg
    refine hK.out _ _ ⟨cC BK109 0, cC BK109 1, cC BK110 0, cC BK110 1⟩ (fun hHeld => ?_)
    clear hK K
    refine norm_ (a' := ?_) ?_ ?_
    rotate_left
    ·show Act.put _ (some 6) _ = _
     simp only [Act.put, sA, sZ, sS, i64_w]
     rfl
    refine one_ (i := 4) (N := some 11) (bR [9, 2, 1, 1]) rfl rfl (one_of HT_.out (by kernel_rfl)) (by decide) (fun K hK => ?_)
    refine goes_ Try.func143 (by kernel_rfl) rfl #[.int .i64 a0_0, .int .i64 a1_0] (by rfl) rfl rfl (by (try simp only [mA, mC, mN]); first | done | rfl | (simp only [lD, lT]; rfl)) ?_
    with_reducible refine (spec_Max.calls a0_0 a1_0 t112 _ A3.out).mono ?_
    rintro e w' ⟨rfl, ⟨nd, rfl⟩⟩
    refine ⟨_, rfl, ?_⟩
    refine hK.out _ _ ⟨cC BK109 0, cC BK109 1, cC BK110 0, cC BK110 1⟩ (fun hHeld => ?_)
    clear hK K
    refine norm_ (a' := ?_) ?_ ?_
    rotate_left
    ·show Act.put _ (some 11) _ = _
     simp only [Act.put, sA, sZ, sS, i64_w]
     rfl
    refine one_ (i := 9) (N := some 16) (bR [10, 1, 1, 1]) rfl rfl (one_of HT_.out (by kernel_rfl)) (by decide) (fun K hK => ?_)
    refine goes_ Try.func147 (by kernel_rfl) rfl #[.int .i64 a0_1, .int .i64 a1_1] (by rfl) rfl rfl (by (try simp only [mA, mC, mN]); first | done | rfl | (simp only [lD, lT]; rfl)) ?_
    with_reducible refine (spec_Min.calls a0_1 a1_1 t113 _ A4.out).mono ?_
    rintro e w' ⟨rfl, ⟨nd, rfl⟩⟩
    refine ⟨_, rfl, ?_⟩
    refine hK.out _ _ ⟨cC BK109 0, cC BK109 1, cC BK110 0, cC BK110 1⟩ (fun hHeld => ?_)
    clear hK K
    refine norm_ (a' := ?_) ?_ ?_
    rotate_left
    ·show Act.put _ (some 16) _ = _
     simp only [Act.put, sA, sZ, sS, i64_w]
     rfl
    refine pP 10 17 (bR [12, 1]) rfl rfl HT_ ?_
    exact norm_ (by simp only [putAll, Act.put, sA, sZ, sS]) (hCont (gb114) _ ⟨hHeld, (qK BK109), (qK BK110), (qK BK111), (qK BK114), GW114.out, GE114.out, NB109_114.out, NB114_109.out, NB110_114.out, NB114_110.out, NB111_114.out, NB114_111.out, (by repeat first | (with_reducible first | exact HB.out | apply bA | apply bN | apply bD | refine bS ?_ GE109.out | refine bS ?_ GE110.out | refine bS ?_ GE111.out | refine bS ?_ GE114.out) | exact HB.out)⟩)
  rintro gb114 w78 ⟨hS_, h0_, h1_, h2_, h3_, h4_, h5_, h6_, h7_, h8_, h9_, h10_, h11_, h12_⟩
  have n0_ : Aside0 (w78.heap[gb109]? = some (.cells #[.int .i64 a0_0, .int .i64 a0_1] 43 (0, 0))) := ⟨h0_⟩
  have n1_ : Aside0 (w78.heap[gb110]? = some (.cells #[.int .i64 a1_0, .int .i64 a1_1] 43 (0, 0))) := ⟨h1_⟩
  have n2_ : Aside0 (w78.heap[gb111]? = some (.cells #[.int .i64 0, .int .i64 0] 43 (0, 0))) := ⟨h2_⟩
  have n3_ : Aside0 (w78.heap[gb114]? = some (.cells #[.int .i64 0, .int .i64 0] 43 (0, 0))) := ⟨h3_⟩
  have n4_ : Aside0 (w.heap.size ≤ gb114) := ⟨h4_⟩
  have n5_ : Aside0 (w.heap.size ≤ gb114) := ⟨h5_⟩
  have n6_ : Aside0 (gb109 ≠ gb114) := ⟨h6_⟩
  have n7_ : Aside0 (gb114 ≠ gb109) := ⟨h7_⟩
  have n8_ : Aside0 (gb110 ≠ gb114) := ⟨h8_⟩
  have n9_ : Aside0 (gb114 ≠ gb110) := ⟨h9_⟩
  have n10_ : Aside0 (gb111 ≠ gb114) := ⟨h10_⟩
  have n11_ : Aside0 (gb114 ≠ gb111) := ⟨h11_⟩
  have n12_ : Aside0 (Below w.heap.size w w78) := ⟨h12_⟩
  clear BK109
  clear BK110
  clear BK111
  clear HB
  clear h0_ h1_ h2_ h3_ h4_ h5_ h6_ h7_ h8_ h9_ h10_ h11_ h12_
  have BK109 := n0_
  have BK110 := n1_
  have BK111 := n2_
  have BK114 := n3_
  have GW114 := n4_
  have GE114 := n5_
  have NB109_114 := n6_
  have NB114_109 := n7_
  have NB110_114 := n8_
  have NB114_110 := n9_
  have NB111_114 := n10_
  have NB114_111 := n11_
  have HB := n12_
  clear n0_ n1_ n2_ n3_ n4_ n5_ n6_ n7_ n8_ n9_ n10_ n11_ n12_
  have hHeld : w78.cell? ⟨gb109, 0, none⟩ = some (.int .i64 a0_0) ∧ w78.cell? ⟨gb109, 1, none⟩ = some (.int .i64 a0_1) ∧ w78.cell? ⟨gb110, 0, none⟩ = some (.int .i64 a1_0) ∧ w78.cell? ⟨gb110, 1, none⟩ = some (.int .i64 a1_1) := hS_
  refine norm_ (a' := ?_) ?_ ?_
  rotate_left; (simp only [putAll, Act.put, sA, sZ, sS]; rfl)
  refine one_ (i := 12) (N := none) (bR [13]) rfl rfl (one_of HT_.out (by kernel_rfl)) (by decide) (fun K hK => ?_)
  have hs79 : w78.cell? ⟨gb114, 0, none⟩ = some (.int .i64 0) := cC BK114 0
  have hfs79 := blk_frozen BK114.out 0
  have hns79_0 := NB109_114.out
  have hns79_1 := NB110_114.out
  have hns79_2 := NB111_114.out
  have hms79_0 := NB114_109.out
  have hms79_1 := NB114_110.out
  have hms79_2 := NB114_111.out
  have hs80 : w78.cell? ⟨gb114, 1, none⟩ = some (.int .i64 0) := cC BK114 1
  have hfs80 := blk_frozen BK114.out 1
  have hns80_0 := NB109_114.out
  have hns80_1 := NB110_114.out
  have hns80_2 := NB111_114.out
  have hms80_0 := NB114_109.out
  have hms80_1 := NB114_110.out
  have hms80_2 := NB114_111.out
  refine skip_ (w1 := ?_) (by rfl) rfl ?_ ?_
  rotate_left
  ·go_simp
   rfl
  refine hK.out _ _ ⟨((cell_far (p := ⟨gb114, _, none⟩) NB109_114.out _).trans (((cell_far (p := ⟨gb114, _, none⟩) NB109_114.out _).trans (hHeld.1)))), ((cell_far (p := ⟨gb114, _, none⟩) NB109_114.out _).trans (((cell_far (p := ⟨gb114, _, none⟩) NB109_114.out _).trans (hHeld.2.1)))), ((cell_far (p := ⟨gb114, _, none⟩) NB110_114.out _).trans (((cell_far (p := ⟨gb114, _, none⟩) NB110_114.out _).trans (hHeld.2.2.1)))), ((cell_far (p := ⟨gb114, _, none⟩) NB110_114.out _).trans (((cell_far (p := ⟨gb114, _, none⟩) NB110_114.out _).trans (hHeld.2.2.2))))⟩ (fun hHeld => ?_)
  clear hK K
  refine done_ (done_of HT_.out (by kernel_rfl)) ?_
  have hnb81 := NB109_110.out
  have hnc81 := NB110_109.out
  have hnb82 := NB109_111.out
  have hnc82 := NB111_109.out
  have hnb83 := NB109_114.out
  have hnc83 := NB114_109.out
  have hcz84_0 : w78.cell? ⟨gb109, 0, none⟩ = some (.int .i64 a0_0) := cC BK109 0
  have hcz84_1 : w78.cell? ⟨gb109, 1, none⟩ = some (.int .i64 a0_1) := cC BK109 1
  have hfz84_0 := blk_frozen BK109.out 0
  have hfz84_1 := blk_frozen BK109.out 1
  try go_wp2_with (first | ((with_reducible refine gate_callee (f := 110) rfl ?_); refine goesL_ (some 19) rfl rfl Try.func110 (by kernel_rfl) rfl #[.agg #[.int .i64 a0_0, .int .i64 a0_1]] rfl (by (try simp only [mA, mC, mN]); first | done | rfl | (simp only [lD, lT]; rfl)) ?_; (with_reducible refine (spec_IsSpan.calls a0_0 a0_1 false _ A5.out).mono ?_); rintro e w85 ⟨rfl, hb⟩; refine ⟨_, rfl, ?_⟩; have n0_ := Aside0.mk (blk_below (g := gb109) (o := .cells #[.int .i64 a0_0, .int .i64 a0_1] 43 (0, 0)) (by (with_reducible repeat first | refine kN ?_ _ | refine kD ?_ | refine kA ?_ _); refine blk_far ?_ NB109_114.out _; (with_reducible repeat first | refine kN ?_ _ | refine kD ?_ | refine kA ?_ _); refine blk_far ?_ NB109_114.out _; (with_reducible repeat first | refine kN ?_ _ | refine kD ?_ | refine kA ?_ _); exact BK109.out) hb); have n1_ := Aside0.mk (blk_below (g := gb110) (o := .cells #[.int .i64 a1_0, .int .i64 a1_1] 43 (0, 0)) (by (with_reducible repeat first | refine kN ?_ _ | refine kD ?_ | refine kA ?_ _); refine blk_far ?_ NB110_114.out _; (with_reducible repeat first | refine kN ?_ _ | refine kD ?_ | refine kA ?_ _); refine blk_far ?_ NB110_114.out _; (with_reducible repeat first | refine kN ?_ _ | refine kD ?_ | refine kA ?_ _); exact BK110.out) hb); have n2_ := Aside0.mk (blk_below (g := gb111) (o := .cells #[.int .i64 0, .int .i64 0] 43 (0, 0)) (by (with_reducible repeat first | refine kN ?_ _ | refine kD ?_ | refine kA ?_ _); refine blk_far ?_ NB111_114.out _; (with_reducible repeat first | refine kN ?_ _ | refine kD ?_ | refine kA ?_ _); refine blk_far ?_ NB111_114.out _; (with_reducible repeat first | refine kN ?_ _ | refine kD ?_ | refine kA ?_ _); exact BK111.out) hb); have n3_ := Aside0.mk (blk_below (g := gb114) (o := .cells #[.int .i64 t112, .int .i64 t113] 43 (0, 0)) (by (with_reducible repeat first | refine kN ?_ _ | refine kD ?_ | refine kA ?_ _); refine blk_put (cs := #[.int .i64 t112, .int .i64 0]) ?_ 1 _ rfl; (with_reducible repeat first | refine kN ?_ _ | refine kD ?_ | refine kA ?_ _); refine blk_put (cs := #[.int .i64 0, .int .i64 0]) ?_ 0 _ rfl; (with_reducible repeat first | refine kN ?_ _ | refine kD ?_ | refine kA ?_ _); exact BK114.out) hb); have n4_ := Aside0.mk (below_step (by repeat first | (with_reducible first | exact HB.out | apply bA | apply bN | apply bD | refine bS ?_ GE109.out | refine bS ?_ GE110.out | refine bS ?_ GE111.out | refine bS ?_ GE114.out) | exact HB.out) hb); clear BK109; clear BK110; clear BK111; clear BK114; clear HB; have BK109 := n0_; have BK110 := n1_; have BK111 := n2_; have BK114 := n3_; have HB := n4_; clear n0_ n1_ n2_ n3_ n4_; (try clear hb); (try clear hb2); (try clear hk); (try clear hi); have hnb86 := NB111_110.out; have hnc86 := NB110_111.out; have hnb87 := NB111_114.out; have hnc87 := NB114_111.out; have hcz88_0 : w85.cell? ⟨gb111, 0, none⟩ = some (.int .i64 0) := cC BK111 0; have hcz88_1 : w85.cell? ⟨gb111, 1, none⟩ = some (.int .i64 0) := cC BK111 1; have hfz88_0 := blk_frozen BK111.out 0; have hfz88_1 := blk_frozen BK111.out 1))
  refine bodyPost_ret (results_ct rfl _ _ gb111 43 #[.int .i64 0, .int .i64 0] (0, 0) _ rfl (by (with_reducible repeat first | refine kN ?_ _ | refine kD ?_ | refine kA ?_ _); refine blk_put (cs := #[.int .i64 0, .int .i64 0]) ?_ 1 _ rfl; (with_reducible repeat first | refine kN ?_ _ | refine kD ?_ | refine kA ?_ _); refine blk_put (cs := #[.int .i64 0, .int .i64 0]) ?_ 0 _ rfl; (with_reducible repeat first | refine kN ?_ _ | refine kD ?_ | refine kA ?_ _); exact BK111.out) Try.underlying43 rfl (by kernel_rfl)) rfl ?_
  exact ⟨by first | rfl | (simp [errW_none, errW_some] <;> rfl) | (simp [*, errW_none, errW_some] <;> rfl), by repeat (first | (with_reducible first | exact HB.out | apply bA | apply bN | apply bD | refine bS ?_ GE109.out | refine bS ?_ GE110.out | refine bS ?_ GE111.out | refine bS ?_ GE114.out) | exact HB.out)⟩

end Go.Proofs.Ytkfalbaklodnjaa.PFnExactLeftBetween
