-- The printed functions of one law and their contracts, over contracts of this session's own (hand.py).
import Derived.Test.YtbbfelgojaioaaaPFnExactWastedx0
import Derived.Test.YtbbfelgojaioaaaPFnExactWastedx3
namespace Go.Proofs.Ytbbfelgojaioaaa.PFnExactWasted
open Go.RowKit Go.Proofs.YtbbfelgojaioaaaW.PrintWords Go.Proofs.YtbbfelgojaioaaaW.PrintLast Go.Proofs.YtbbfelgojaioaaaW.PrintMore Go.Proofs.Ytbbfelgojaioaaa.Short
attribute [local go_sem] max2_int min2_int max_two min_two max_three min_three max_four min_four   -- for this text's walks alone
set_option linter.unusedVariables false
set_option linter.unusedSimpArgs false

/-! ### spec_AreThings: function 97 -/
def spec_AreThings.l0 : Nat → List (S73) → Int → Option (Bool)
 | 0, _, _ => none
 | k + 1, x0, x3 => if x3 < (x0.length : Int) then (if 0 ≤ x3 then ((spec_IsThing.f ((rd_T73 x0 x3).f0) ((rd_T73 x0 x3).f1) ((rd_T73 x0 x3).f2) ((rd_T73 x0 x3).f3) ((rd_T73 x0 x3).f4)).bind fun t135 => (if t135 = true then (if x3 > 0 then (if 0 ≤ (wrap64 (x3 - 1)) then (if (wrap64 (x3 - 1)) < (x0.length : Int) then (if ((rd_T73 x0 (wrap64 (x3 - 1))).f0) ≥ ((rd_T73 x0 x3).f0) then (some false) else (spec_AreThings.l0 k x0 (wrap64 (x3 + 1)))) else (none)) else (none)) else (spec_AreThings.l0 k x0 (wrap64 (x3 + 1)))) else (some false))) else (none)) else (some (decide ((x0.length : Int) ≤ 20)))
def spec_AreThings.f (k : Nat) (l0 : List (S73)) : Option (Bool) := spec_AreThings.l0 k l0 0
theorem spec_AreThings.mono_l : ∀ k, (∀ y0 y1, LeO (spec_AreThings.l0 k y0 y1) (spec_AreThings.l0 (k + 1) y0 y1))
 | 0 => fun _ _ r h => by simp [spec_AreThings.l0] at h
 | k + 1 => by
  have ih0 := spec_AreThings.mono_l k
  ·intro y0 y1
   unfold spec_AreThings.l0
   repeat' first
   | (with_reducible exact ih0 _ _)
   | (with_reducible exact LeO.refl _)
   | (with_reducible exact LeO.none _)
   | (with_reducible refine LeO.ite ?_ ?_)
   | (with_reducible refine LeO.bind ?_ (fun _ => ?_))
   | exact ih0 _ _
   | exact LeO.none _
   | refine LeO.ite ?_ ?_
   | refine LeO.bind ?_ (fun _ => ?_)
theorem spec_AreThings.mono : ∀ a0 k, LeO (spec_AreThings.f k a0) (spec_AreThings.f (k + 1) a0) := by
 intro a0 k
 have ih0 := spec_AreThings.mono_l k
 unfold spec_AreThings.f
 repeat' first
   | (with_reducible exact ih0 _ _)
   | (with_reducible exact LeO.refl _)
   | (with_reducible exact LeO.none _)
   | (with_reducible refine LeO.ite ?_ ?_)
   | (with_reducible refine LeO.bind ?_ (fun _ => ?_))
   | exact ih0 _ _
   | exact LeO.none _
   | refine LeO.ite ?_ ?_
   | refine LeO.bind ?_ (fun _ => ?_)
def spec_AreThings.T4 : Bool × List (List Nat × List Nat) := (true, [([], []), ([], []), ([0, 1], [0, 1]), ([2], [2]), ([3], [3]), ([4], [4]), ([5, 4], [5]), ([6], [6]), ([7, 6], [6, 7]), ([8, 6, 6], [6, 8]), ([9], [9]), ([9], [9]), ([11, 9], [9, 11]), ([10, 12, 9], [9, 10, 12]), ([13, 9], [9, 13]), ([14, 9], [9, 14]), ([9], [9]), ([9], [9]), ([16, 17, 9], [9, 16, 17]), ([18, 9], [9, 18]), ([19, 9], [9, 19]), ([15, 20, 9], [9, 15, 20]), ([9, 21, 6], [6, 9, 21]), ([6, 22], [6, 22])])
def spec_AreThings.B4 : List Nat := [0, 0, 3, 7, 15, 31, 63, 127, 255, 511, 1023, 1023, 3071, 8191, 16383, 32767, 1023, 1023, 197631, 459775, 984063, 2097151, 4194303, 8388607]
theorem spec_AreThings.tab4 : rtab .any (opsOf Try.f97 4) = spec_AreThings.T4 := by kernel_rfl
theorem spec_AreThings.bits4 : waitsOk spec_AreThings.T4.2 spec_AreThings.B4 = true := by kernel_rfl
set_option maxHeartbeats 8000000 in
set_option maxRecDepth 100000 in
theorem spec_AreThings.calls (k : Nat) (A0 : Option Addr) (c0 : Nat) (l0 : List (S73)) (r : Bool) (w : World) (hr0 : Kd.C k73 w A0 l0.length l0) (hc0 : l0.length ≤ c0) (h : spec_AreThings.f k l0 = some r) :
  Calls Try.prog 97 #[.slice A0 l0.length c0] w fun e w' => e = .returned (.bool r) ∧ Below w.heap.size w w' := by
 have hu73 := Try.underlying73
 have HR0 := Aside0.mk hr0
 have HC0 := Aside0.mk hc0
 clear hr0 hc0
 have HB := Aside0.mk (Below.refl w.heap.size w)
 have H : (spec_AreThings.l0 k l0 0) = some r := h
 clear h
 have H' := Aside0.mk H
 clear H
 go_enter Try.func97, Try.ntmps97
 go_wp2
 go_loopg [3] k (fun kq v3 w' => ∃ (x3_1 : Int), v3 = .int .i64 x3_1 ∧ Aside0 (spec_AreThings.l0 kq l0 x3_1 = some r) ∧ Aside0 (kq ≤ k) ∧ Aside0 (Below w.heap.size w w'))
 case atStart => exact ⟨(0), (by first | rfl | (simp; done) | (simp [*]; done)), H', ⟨Nat.le_refl _⟩, ⟨by repeat (first | (with_reducible first | exact HB.out | apply below_alloc | apply pw_below_drewN | apply below_drew1) | exact HB.out)⟩⟩
 case round =>
  clear H'
  obtain ⟨x3_1, rfl, HA, HK1, HB⟩ := hrel
  cases gk with
  | zero => exact absurd HA.out (by simp [spec_AreThings.l0])
  | succ k1 =>
   have H := HA.out
   clear HA
   simp only [spec_AreThings.l0] at H
   by_cases c2 : x3_1 < (l0.length : Int)
   ·rw [if_pos c2] at H
    have c2b0 : decide (x3_1 < (l0.length : Int)) = true := decide_eq_true c2
    clear c2
    by_cases c3 : 0 ≤ x3_1
    ·rw [if_pos c3] at H
     have c3b0 : decide (0 ≤ x3_1) = true := decide_eq_true c3
     clear c3
     replace H := Option.bind_eq_some_iff.mp H
     obtain ⟨t135, A40, H⟩ := H
     replace H : (if t135 = true then (if x3_1 > 0 then (if 0 ≤ (wrap64 (x3_1 - 1)) then (if (wrap64 (x3_1 - 1)) < (l0.length : Int) then (if ((rd_T73 l0 (wrap64 (x3_1 - 1))).f0) ≥ ((rd_T73 l0 x3_1).f0) then (some false) else (spec_AreThings.l0 k1 l0 (wrap64 (x3_1 + 1)))) else (none)) else (none)) else (spec_AreThings.l0 k1 l0 (wrap64 (x3_1 + 1)))) else (some false)) = some r := H
     have A4 := Aside0.mk A40
     clear A40
     by_cases c5 : t135 = true
     ·subst c5
      have H1 : (if x3_1 > 0 then (if 0 ≤ (wrap64 (x3_1 - 1)) then (if (wrap64 (x3_1 - 1)) < (l0.length : Int) then (if ((rd_T73 l0 (wrap64 (x3_1 - 1))).f0) ≥ ((rd_T73 l0 x3_1).f0) then (some false) else (spec_AreThings.l0 k1 l0 (wrap64 (x3_1 + 1)))) else (none)) else (none)) else (spec_AreThings.l0 k1 l0 (wrap64 (x3_1 + 1)))) = some r := by rw [if_pos rfl] at H; exact H
      clear H
      have H := H1
      clear H1
      by_cases c6 : x3_1 > 0
      ·rw [if_pos c6] at H
       have c6b0 : decide (0 < x3_1) = true := decide_eq_true c6
       clear c6
       obtain ⟨ji7, hji7⟩ : ∃ j_ : Int, (wrap64 (x3_1 - 1)) = j_ := ⟨_, rfl⟩
       replace H : (if 0 ≤ (ji7) then (if (ji7) < (l0.length : Int) then (if ((rd_T73 l0 (ji7)).f0) ≥ ((rd_T73 l0 x3_1).f0) then (some false) else (spec_AreThings.l0 k1 l0 (wrap64 (x3_1 + 1)))) else (none)) else (none)) = some r := by first | (rw [hji7] at H; exact H) | (simp only [hji7] at H ⊢; exact H)
       (try rw [hji7] at A4)
       have hji7w : (IntKind.i64.wrap (x3_1 - 1)) = ji7 := (i64_w _).trans hji7
       by_cases c8 : 0 ≤ (ji7)
       ·rw [if_pos c8] at H
        have c8b0 : decide (0 ≤ (ji7)) = true := decide_eq_true c8
        clear c8
        by_cases c9 : (ji7) < (l0.length : Int)
        ·rw [if_pos c9] at H
         have c9b0 : decide ((ji7) < (l0.length : Int)) = true := decide_eq_true c9
         clear c9
         by_cases c10 : ((rd_T73 l0 (ji7)).f0) ≥ ((rd_T73 l0 x3_1).f0)
         ·rw [if_pos c10] at H
          have c10b0 : decide (((rd_T73 l0 x3_1).f0) ≤ ((rd_T73 l0 (ji7)).f0)) = true := decide_eq_true c10
          clear c10
          obtain rfl := Option.some.inj H
          try go_wp2
          have n0_ := Aside0.mk (below_drew1 HB.out)
          clear HB
          have HB := n0_
          clear n0_
          have p134 : 0 ≤ (x3_1 : Int) := of_decide_eq_true ‹_›
          have q134 : x3_1 < (l0.length : Int) := of_decide_eq_true ‹_›
          obtain ⟨ad134, e134, hx134_0, hx134_1, hx134_2, hx134_3, hx134_4⟩ := at_T73 HR0.out x3_1 p134 q134
          have hw134_4 := hx134_4
          have hw134_3 := hx134_3
          have hw134_2 := hx134_2
          have hw134_1 := hx134_1
          have hw134_0 := hx134_0
          cases e134
          replace hx134_0 := (HB.out.cell (World.block_lt_of_cell? w _ hx134_0)).trans hx134_0
          replace hx134_1 := (HB.out.cell (World.block_lt_of_cell? w _ hx134_1)).trans hx134_1
          replace hx134_2 := (HB.out.cell (World.block_lt_of_cell? w _ hx134_2)).trans hx134_2
          replace hx134_3 := (HB.out.cell (World.block_lt_of_cell? w _ hx134_3)).trans hx134_3
          replace hx134_4 := (HB.out.cell (World.block_lt_of_cell? w _ hx134_4)).trans hx134_4
          replace p134 := eq_true p134
          replace q134 := eq_true q134
          have p136 : 0 ≤ ((ji7) : Int) := of_decide_eq_true ‹_›
          have q136 : (ji7) < (l0.length : Int) := of_decide_eq_true ‹_›
          obtain ⟨ad136, e136, hx136_0, hx136_1, hx136_2, hx136_3, hx136_4⟩ := at_T73 HR0.out (ji7) p136 q136
          have hw136_4 := hx136_4
          have hw136_3 := hx136_3
          have hw136_2 := hx136_2
          have hw136_1 := hx136_1
          have hw136_0 := hx136_0
          obtain rfl : ad134 = ad136 := (by injection e136)
          replace hx136_0 := (HB.out.cell (World.block_lt_of_cell? w _ hx136_0)).trans hx136_0
          replace hx136_1 := (HB.out.cell (World.block_lt_of_cell? w _ hx136_1)).trans hx136_1
          replace hx136_2 := (HB.out.cell (World.block_lt_of_cell? w _ hx136_2)).trans hx136_2
          replace hx136_3 := (HB.out.cell (World.block_lt_of_cell? w _ hx136_3)).trans hx136_3
          replace hx136_4 := (HB.out.cell (World.block_lt_of_cell? w _ hx136_4)).trans hx136_4
          replace p136 := eq_true p136
          replace q136 := eq_true q136
          have p137 : 0 ≤ (x3_1 : Int) := of_decide_eq_true ‹_›
          have q137 : x3_1 < (l0.length : Int) := of_decide_eq_true ‹_›
          obtain ⟨ad137, e137, hx137_0, hx137_1, hx137_2, hx137_3, hx137_4⟩ := at_T73 HR0.out x3_1 p137 q137
          have hw137_4 := hx137_4
          have hw137_3 := hx137_3
          have hw137_2 := hx137_2
          have hw137_1 := hx137_1
          have hw137_0 := hx137_0
          obtain rfl : ad134 = ad137 := (by injection e137)
          replace hx137_0 := (HB.out.cell (World.block_lt_of_cell? w _ hx137_0)).trans hx137_0
          replace hx137_1 := (HB.out.cell (World.block_lt_of_cell? w _ hx137_1)).trans hx137_1
          replace hx137_2 := (HB.out.cell (World.block_lt_of_cell? w _ hx137_2)).trans hx137_2
          replace hx137_3 := (HB.out.cell (World.block_lt_of_cell? w _ hx137_3)).trans hx137_3
          replace hx137_4 := (HB.out.cell (World.block_lt_of_cell? w _ hx137_4)).trans hx137_4
          replace p137 := eq_true p137
          replace q137 := eq_true q137
          refine start_ (n := 24) (S := fun w' => w'.cell? (ad134.add ((x3_1).toNat * 5)) = some (.int .i64 ((rd_T73 l0 x3_1).f0)) ∧ w'.cell? ⟨(ad134.add ((x3_1).toNat * 5)).block, (ad134.add ((x3_1).toNat * 5)).off + 1, none⟩ = some (.int .i64 ((rd_T73 l0 x3_1).f1)) ∧ w'.cell? ⟨(ad134.add ((x3_1).toNat * 5)).block, (ad134.add ((x3_1).toNat * 5)).off + 2, none⟩ = some (.int .i64 ((rd_T73 l0 x3_1).f2)) ∧ w'.cell? ⟨(ad134.add ((x3_1).toNat * 5)).block, (ad134.add ((x3_1).toNat * 5)).off + 3, none⟩ = some (.int .i64 ((rd_T73 l0 x3_1).f3)) ∧ w'.cell? ⟨(ad134.add ((x3_1).toNat * 5)).block, (ad134.add ((x3_1).toNat * 5)).off + 4, none⟩ = some (.int .i64 ((rd_T73 l0 x3_1).f4)) ∧ w'.cell? (ad134.add (((ji7)).toNat * 5)) = some (.int .i64 ((rd_T73 l0 (ji7)).f0)) ∧ w'.cell? ⟨(ad134.add (((ji7)).toNat * 5)).block, (ad134.add (((ji7)).toNat * 5)).off + 1, none⟩ = some (.int .i64 ((rd_T73 l0 (ji7)).f1)) ∧ w'.cell? ⟨(ad134.add (((ji7)).toNat * 5)).block, (ad134.add (((ji7)).toNat * 5)).off + 2, none⟩ = some (.int .i64 ((rd_T73 l0 (ji7)).f2)) ∧ w'.cell? ⟨(ad134.add (((ji7)).toNat * 5)).block, (ad134.add (((ji7)).toNat * 5)).off + 3, none⟩ = some (.int .i64 ((rd_T73 l0 (ji7)).f3)) ∧ w'.cell? ⟨(ad134.add (((ji7)).toNat * 5)).block, (ad134.add (((ji7)).toNat * 5)).off + 4, none⟩ = some (.int .i64 ((rd_T73 l0 (ji7)).f4)) ∧ w'.cell? (ad134.add ((x3_1).toNat * 5)) = some (.int .i64 ((rd_T73 l0 x3_1).f0)) ∧ w'.cell? ⟨(ad134.add ((x3_1).toNat * 5)).block, (ad134.add ((x3_1).toNat * 5)).off + 1, none⟩ = some (.int .i64 ((rd_T73 l0 x3_1).f1)) ∧ w'.cell? ⟨(ad134.add ((x3_1).toNat * 5)).block, (ad134.add ((x3_1).toNat * 5)).off + 2, none⟩ = some (.int .i64 ((rd_T73 l0 x3_1).f2)) ∧ w'.cell? ⟨(ad134.add ((x3_1).toNat * 5)).block, (ad134.add ((x3_1).toNat * 5)).off + 3, none⟩ = some (.int .i64 ((rd_T73 l0 x3_1).f3)) ∧ w'.cell? ⟨(ad134.add ((x3_1).toNat * 5)).block, (ad134.add ((x3_1).toNat * 5)).off + 4, none⟩ = some (.int .i64 ((rd_T73 l0 x3_1).f4))) (ds := []) (bR [0, 24]) (by kernel_rfl) rfl rfl ⟨((HB.out.cell (World.block_lt_of_cell? w _ hw134_0)).trans hw134_0), ((HB.out.cell (World.block_lt_of_cell? w _ hw134_1)).trans hw134_1), ((HB.out.cell (World.block_lt_of_cell? w _ hw134_2)).trans hw134_2), ((HB.out.cell (World.block_lt_of_cell? w _ hw134_3)).trans hw134_3), ((HB.out.cell (World.block_lt_of_cell? w _ hw134_4)).trans hw134_4), ((HB.out.cell (World.block_lt_of_cell? w _ hw136_0)).trans hw136_0), ((HB.out.cell (World.block_lt_of_cell? w _ hw136_1)).trans hw136_1), ((HB.out.cell (World.block_lt_of_cell? w _ hw136_2)).trans hw136_2), ((HB.out.cell (World.block_lt_of_cell? w _ hw136_3)).trans hw136_3), ((HB.out.cell (World.block_lt_of_cell? w _ hw136_4)).trans hw136_4), ((HB.out.cell (World.block_lt_of_cell? w _ hw137_0)).trans hw137_0), ((HB.out.cell (World.block_lt_of_cell? w _ hw137_1)).trans hw137_1), ((HB.out.cell (World.block_lt_of_cell? w _ hw137_2)).trans hw137_2), ((HB.out.cell (World.block_lt_of_cell? w _ hw137_3)).trans hw137_3), ((HB.out.cell (World.block_lt_of_cell? w _ hw137_4)).trans hw137_4)⟩ (fun hHeld => ?_); refine with_tabW spec_AreThings.tab4 spec_AreThings.bits4 (fun HT_ HW_ => ?_)
          generalize wr.drew = w11 at HB hx134_0 hx134_1 hx134_2 hx134_3 hx134_4 hx136_0 hx136_1 hx136_2 hx136_3 hx136_4 hx137_0 hx137_1 hx137_2 hx137_3 hx137_4 hHeld ⊢
          refine pP 0 10 (bR [1, 23]) rfl rfl HT_ ?_
          refine pP 1 11 (bR [2, 22]) rfl rfl HT_ ?_
          refine pP 2 12 (bR [3, 21]) rfl rfl HT_ ?_
          refine take_ (i := 3) (N := some 13) (v := ?_) (a' := ?_) (bR [4, 20]) rfl rfl (take_ofW HT_.out HW_.out (by kernel_rfl)) (fun _ _ _ h => h) (Or.inl ⟨by rfl, ?_⟩) hHeld ?_ ?_
          rotate_left; (rintro w' ⟨s0, s1, s2, s3, s4, s5, s6, s7, s8, s9, s10, s11, s12, s13, s14⟩; go_simp; with_reducible rfl); rotate_left; (simp only [Act.put, sA, sZ, sS, i64_w]; rfl)
          refine one_ (i := 4) (N := some 14) (bR [5, 19]) rfl rfl (one_of HT_.out (by kernel_rfl)) (by decide) (fun K hK => ?_)
          refine goes_ Try.func101 (by kernel_rfl) rfl #[.agg #[.int .i64 ((rd_T73 l0 x3_1).f0), .int .i64 ((rd_T73 l0 x3_1).f1), .int .i64 ((rd_T73 l0 x3_1).f2), .int .i64 ((rd_T73 l0 x3_1).f3), .int .i64 ((rd_T73 l0 x3_1).f4)]] (by rfl) rfl rfl (by (try simp only [mA, mC, mN]); first | done | rfl | (simp only [lD, lT]; rfl)) ?_
          with_reducible refine (spec_IsThing.calls ((rd_T73 l0 x3_1).f0) ((rd_T73 l0 x3_1).f1) ((rd_T73 l0 x3_1).f2) ((rd_T73 l0 x3_1).f3) ((rd_T73 l0 x3_1).f4) true _ A4.out).mono ?_
          rintro e w12 ⟨rfl, hb⟩
          refine ⟨_, rfl, ?_⟩
          have n0_ := Aside0.mk (below_step (by repeat (first | (with_reducible first | exact HB.out | apply below_alloc | apply pw_below_drewN | apply below_drew1) | exact HB.out)) hb)
          clear HB
          have HB := n0_
          clear n0_
          (try clear hb)
          (try clear hb2)
          (try clear hk)
          (try clear hi)
          refine hK.out _ _ ⟨((HB.out.cell (World.block_lt_of_cell? w _ hw134_0)).trans hw134_0), ((HB.out.cell (World.block_lt_of_cell? w _ hw134_1)).trans hw134_1), ((HB.out.cell (World.block_lt_of_cell? w _ hw134_2)).trans hw134_2), ((HB.out.cell (World.block_lt_of_cell? w _ hw134_3)).trans hw134_3), ((HB.out.cell (World.block_lt_of_cell? w _ hw134_4)).trans hw134_4), ((HB.out.cell (World.block_lt_of_cell? w _ hw136_0)).trans hw136_0), ((HB.out.cell (World.block_lt_of_cell? w _ hw136_1)).trans hw136_1), ((HB.out.cell (World.block_lt_of_cell? w _ hw136_2)).trans hw136_2), ((HB.out.cell (World.block_lt_of_cell? w _ hw136_3)).trans hw136_3), ((HB.out.cell (World.block_lt_of_cell? w _ hw136_4)).trans hw136_4), ((HB.out.cell (World.block_lt_of_cell? w _ hw137_0)).trans hw137_0), ((HB.out.cell (World.block_lt_of_cell? w _ hw137_1)).trans hw137_1), ((HB.out.cell (World.block_lt_of_cell? w _ hw137_2)).trans hw137_2), ((HB.out.cell (World.block_lt_of_cell? w _ hw137_3)).trans hw137_3), ((HB.out.cell (World.block_lt_of_cell? w _ hw137_4)).trans hw137_4)⟩ (fun hHeld => ?_)
          clear hK K
          refine norm_ (a' := ?_) ?_ ?_
          rotate_left
          ·show Act.put _ (some 14) _ = _
           simp only [Act.put, sA, sZ, sS, i64_w]
           rfl
          refine pP 5 15 (bR [6, 18]) rfl rfl HT_ ?_
          refine pP 6 16 (bR [7, 17]) rfl rfl HT_ ?_
          refine pP 7 17 (bR [8, 16]) rfl rfl HT_ ?_
          refine pP 8 18 (bR [9, 15]) rfl rfl HT_ ?_
          refine pP 9 19 (bR [10, 14]) rfl rfl HT_ ?_
          refine pP 10 20 (bR [11, 13]) rfl rfl HT_ ?_
          refine pP 11 21 (bR [12, 12]) rfl rfl HT_ ?_
          refine pP 12 22 (bR [13, 11]) rfl rfl HT_ ?_
          refine pP 13 23 (bR [14, 10]) rfl rfl HT_ ?_
          refine pP 14 24 (bR [15, 9]) rfl rfl HT_ ?_
          refine pP 16 26 (bR [15, 1, 1, 7]) rfl rfl HT_ ?_
          refine pP 17 27 (bR [15, 1, 2, 6]) rfl rfl HT_ ?_
          refine pP 18 28 (bR [15, 1, 3, 5]) rfl rfl HT_ ?_
          refine pP 19 29 (bR [15, 1, 4, 4]) rfl rfl HT_ ?_
          refine take_ (i := 15) (N := some 25) (v := ?_) (a' := ?_) (bR [20, 4]) rfl rfl (take_ofW HT_.out HW_.out (by kernel_rfl)) (fun _ _ _ h => h) (Or.inl ⟨by rfl, ?_⟩) hHeld ?_ ?_
          rotate_left; (rintro w' ⟨s0, s1, s2, s3, s4, s5, s6, s7, s8, s9, s10, s11, s12, s13, s14⟩; go_simp; with_reducible rfl); rotate_left; (simp only [Act.put, sA, sZ, sS, i64_w]; rfl)
          refine take_ (i := 20) (N := some 30) (v := ?_) (a' := ?_) (bR [21, 3]) rfl rfl (take_ofW HT_.out HW_.out (by kernel_rfl)) (fun _ _ _ h => h) (Or.inl ⟨by rfl, ?_⟩) hHeld ?_ ?_
          rotate_left; (rintro w' ⟨s0, s1, s2, s3, s4, s5, s6, s7, s8, s9, s10, s11, s12, s13, s14⟩; go_simp; with_reducible rfl); rotate_left; (simp only [Act.put, sA, sZ, sS, i64_w]; rfl)
          refine pP 21 31 (bR [22, 2]) rfl rfl HT_ ?_
          refine pP 22 32 (bR [23, 1]) rfl rfl HT_ ?_
          refine pP 23 33 (bR [24]) rfl rfl HT_ ?_
          refine done_ (done_of HT_.out (by kernel_rfl)) ?_
          try go_wp2
          go_ret
          exact ⟨by first | rfl | (simp [errW_none, errW_some] <;> rfl) | (simp only [← hji7]; first | rfl | (simp [errW_none, errW_some] <;> rfl)) | (simp [*, errW_none, errW_some] <;> rfl), by repeat (first | (with_reducible first | exact HB.out | apply below_alloc | apply pw_below_drewN | apply below_drew1) | exact HB.out)⟩
         ·rw [if_neg c10] at H
          have c10b0 : decide (((rd_T73 l0 x3_1).f0) ≤ ((rd_T73 l0 (ji7)).f0)) = false := decide_eq_false c10
          clear c10
          have H' := Aside0.mk H
          clear H
          try go_wp2
          have n0_ := Aside0.mk (below_drew1 HB.out)
          clear HB
          have HB := n0_
          clear n0_
          have p134 : 0 ≤ (x3_1 : Int) := of_decide_eq_true ‹_›
          have q134 : x3_1 < (l0.length : Int) := of_decide_eq_true ‹_›
          obtain ⟨ad134, e134, hx134_0, hx134_1, hx134_2, hx134_3, hx134_4⟩ := at_T73 HR0.out x3_1 p134 q134
          have hw134_4 := hx134_4
          have hw134_3 := hx134_3
          have hw134_2 := hx134_2
          have hw134_1 := hx134_1
          have hw134_0 := hx134_0
          cases e134
          replace hx134_0 := (HB.out.cell (World.block_lt_of_cell? w _ hx134_0)).trans hx134_0
          replace hx134_1 := (HB.out.cell (World.block_lt_of_cell? w _ hx134_1)).trans hx134_1
          replace hx134_2 := (HB.out.cell (World.block_lt_of_cell? w _ hx134_2)).trans hx134_2
          replace hx134_3 := (HB.out.cell (World.block_lt_of_cell? w _ hx134_3)).trans hx134_3
          replace hx134_4 := (HB.out.cell (World.block_lt_of_cell? w _ hx134_4)).trans hx134_4
          replace p134 := eq_true p134
          replace q134 := eq_true q134
          have p136 : 0 ≤ ((ji7) : Int) := of_decide_eq_true ‹_›
          have q136 : (ji7) < (l0.length : Int) := of_decide_eq_true ‹_›
          obtain ⟨ad136, e136, hx136_0, hx136_1, hx136_2, hx136_3, hx136_4⟩ := at_T73 HR0.out (ji7) p136 q136
          have hw136_4 := hx136_4
          have hw136_3 := hx136_3
          have hw136_2 := hx136_2
          have hw136_1 := hx136_1
          have hw136_0 := hx136_0
          obtain rfl : ad134 = ad136 := (by injection e136)
          replace hx136_0 := (HB.out.cell (World.block_lt_of_cell? w _ hx136_0)).trans hx136_0
          replace hx136_1 := (HB.out.cell (World.block_lt_of_cell? w _ hx136_1)).trans hx136_1
          replace hx136_2 := (HB.out.cell (World.block_lt_of_cell? w _ hx136_2)).trans hx136_2
          replace hx136_3 := (HB.out.cell (World.block_lt_of_cell? w _ hx136_3)).trans hx136_3
          replace hx136_4 := (HB.out.cell (World.block_lt_of_cell? w _ hx136_4)).trans hx136_4
          replace p136 := eq_true p136
          replace q136 := eq_true q136
          have p137 : 0 ≤ (x3_1 : Int) := of_decide_eq_true ‹_›
          have q137 : x3_1 < (l0.length : Int) := of_decide_eq_true ‹_›
          obtain ⟨ad137, e137, hx137_0, hx137_1, hx137_2, hx137_3, hx137_4⟩ := at_T73 HR0.out x3_1 p137 q137
          have hw137_4 := hx137_4
          have hw137_3 := hx137_3
          have hw137_2 := hx137_2
          have hw137_1 := hx137_1
          have hw137_0 := hx137_0
          obtain rfl : ad134 = ad137 := (by injection e137)
          replace hx137_0 := (HB.out.cell (World.block_lt_of_cell? w _ hx137_0)).trans hx137_0
          replace hx137_1 := (HB.out.cell (World.block_lt_of_cell? w _ hx137_1)).trans hx137_1
          replace hx137_2 := (HB.out.cell (World.block_lt_of_cell? w _ hx137_2)).trans hx137_2
          replace hx137_3 := (HB.out.cell (World.block_lt_of_cell? w _ hx137_3)).trans hx137_3
          replace hx137_4 := (HB.out.cell (World.block_lt_of_cell? w _ hx137_4)).trans hx137_4
          replace p137 := eq_true p137
          replace q137 := eq_true q137
          refine start_ (n := 24) (S := fun w' => w'.cell? (ad134.add ((x3_1).toNat * 5)) = some (.int .i64 ((rd_T73 l0 x3_1).f0)) ∧ w'.cell? ⟨(ad134.add ((x3_1).toNat * 5)).block, (ad134.add ((x3_1).toNat * 5)).off + 1, none⟩ = some (.int .i64 ((rd_T73 l0 x3_1).f1)) ∧ w'.cell? ⟨(ad134.add ((x3_1).toNat * 5)).block, (ad134.add ((x3_1).toNat * 5)).off + 2, none⟩ = some (.int .i64 ((rd_T73 l0 x3_1).f2)) ∧ w'.cell? ⟨(ad134.add ((x3_1).toNat * 5)).block, (ad134.add ((x3_1).toNat * 5)).off + 3, none⟩ = some (.int .i64 ((rd_T73 l0 x3_1).f3)) ∧ w'.cell? ⟨(ad134.add ((x3_1).toNat * 5)).block, (ad134.add ((x3_1).toNat * 5)).off + 4, none⟩ = some (.int .i64 ((rd_T73 l0 x3_1).f4)) ∧ w'.cell? (ad134.add (((ji7)).toNat * 5)) = some (.int .i64 ((rd_T73 l0 (ji7)).f0)) ∧ w'.cell? ⟨(ad134.add (((ji7)).toNat * 5)).block, (ad134.add (((ji7)).toNat * 5)).off + 1, none⟩ = some (.int .i64 ((rd_T73 l0 (ji7)).f1)) ∧ w'.cell? ⟨(ad134.add (((ji7)).toNat * 5)).block, (ad134.add (((ji7)).toNat * 5)).off + 2, none⟩ = some (.int .i64 ((rd_T73 l0 (ji7)).f2)) ∧ w'.cell? ⟨(ad134.add (((ji7)).toNat * 5)).block, (ad134.add (((ji7)).toNat * 5)).off + 3, none⟩ = some (.int .i64 ((rd_T73 l0 (ji7)).f3)) ∧ w'.cell? ⟨(ad134.add (((ji7)).toNat * 5)).block, (ad134.add (((ji7)).toNat * 5)).off + 4, none⟩ = some (.int .i64 ((rd_T73 l0 (ji7)).f4)) ∧ w'.cell? (ad134.add ((x3_1).toNat * 5)) = some (.int .i64 ((rd_T73 l0 x3_1).f0)) ∧ w'.cell? ⟨(ad134.add ((x3_1).toNat * 5)).block, (ad134.add ((x3_1).toNat * 5)).off + 1, none⟩ = some (.int .i64 ((rd_T73 l0 x3_1).f1)) ∧ w'.cell? ⟨(ad134.add ((x3_1).toNat * 5)).block, (ad134.add ((x3_1).toNat * 5)).off + 2, none⟩ = some (.int .i64 ((rd_T73 l0 x3_1).f2)) ∧ w'.cell? ⟨(ad134.add ((x3_1).toNat * 5)).block, (ad134.add ((x3_1).toNat * 5)).off + 3, none⟩ = some (.int .i64 ((rd_T73 l0 x3_1).f3)) ∧ w'.cell? ⟨(ad134.add ((x3_1).toNat * 5)).block, (ad134.add ((x3_1).toNat * 5)).off + 4, none⟩ = some (.int .i64 ((rd_T73 l0 x3_1).f4))) (ds := []) (bR [0, 24]) (by kernel_rfl) rfl rfl ⟨((HB.out.cell (World.block_lt_of_cell? w _ hw134_0)).trans hw134_0), ((HB.out.cell (World.block_lt_of_cell? w _ hw134_1)).trans hw134_1), ((HB.out.cell (World.block_lt_of_cell? w _ hw134_2)).trans hw134_2), ((HB.out.cell (World.block_lt_of_cell? w _ hw134_3)).trans hw134_3), ((HB.out.cell (World.block_lt_of_cell? w _ hw134_4)).trans hw134_4), ((HB.out.cell (World.block_lt_of_cell? w _ hw136_0)).trans hw136_0), ((HB.out.cell (World.block_lt_of_cell? w _ hw136_1)).trans hw136_1), ((HB.out.cell (World.block_lt_of_cell? w _ hw136_2)).trans hw136_2), ((HB.out.cell (World.block_lt_of_cell? w _ hw136_3)).trans hw136_3), ((HB.out.cell (World.block_lt_of_cell? w _ hw136_4)).trans hw136_4), ((HB.out.cell (World.block_lt_of_cell? w _ hw137_0)).trans hw137_0), ((HB.out.cell (World.block_lt_of_cell? w _ hw137_1)).trans hw137_1), ((HB.out.cell (World.block_lt_of_cell? w _ hw137_2)).trans hw137_2), ((HB.out.cell (World.block_lt_of_cell? w _ hw137_3)).trans hw137_3), ((HB.out.cell (World.block_lt_of_cell? w _ hw137_4)).trans hw137_4)⟩ (fun hHeld => ?_); refine with_tabW spec_AreThings.tab4 spec_AreThings.bits4 (fun HT_ HW_ => ?_)
          generalize wr.drew = w13 at HB hx134_0 hx134_1 hx134_2 hx134_3 hx134_4 hx136_0 hx136_1 hx136_2 hx136_3 hx136_4 hx137_0 hx137_1 hx137_2 hx137_3 hx137_4 hHeld ⊢
          refine pP 0 10 (bR [1, 23]) rfl rfl HT_ ?_
          refine pP 1 11 (bR [2, 22]) rfl rfl HT_ ?_
          refine pP 2 12 (bR [3, 21]) rfl rfl HT_ ?_
          refine take_ (i := 3) (N := some 13) (v := ?_) (a' := ?_) (bR [4, 20]) rfl rfl (take_ofW HT_.out HW_.out (by kernel_rfl)) (fun _ _ _ h => h) (Or.inl ⟨by rfl, ?_⟩) hHeld ?_ ?_
          rotate_left; (rintro w' ⟨s0, s1, s2, s3, s4, s5, s6, s7, s8, s9, s10, s11, s12, s13, s14⟩; go_simp; with_reducible rfl); rotate_left; (simp only [Act.put, sA, sZ, sS, i64_w]; rfl)
          refine one_ (i := 4) (N := some 14) (bR [5, 19]) rfl rfl (one_of HT_.out (by kernel_rfl)) (by decide) (fun K hK => ?_)
          refine goes_ Try.func101 (by kernel_rfl) rfl #[.agg #[.int .i64 ((rd_T73 l0 x3_1).f0), .int .i64 ((rd_T73 l0 x3_1).f1), .int .i64 ((rd_T73 l0 x3_1).f2), .int .i64 ((rd_T73 l0 x3_1).f3), .int .i64 ((rd_T73 l0 x3_1).f4)]] (by rfl) rfl rfl (by (try simp only [mA, mC, mN]); first | done | rfl | (simp only [lD, lT]; rfl)) ?_
          with_reducible refine (spec_IsThing.calls ((rd_T73 l0 x3_1).f0) ((rd_T73 l0 x3_1).f1) ((rd_T73 l0 x3_1).f2) ((rd_T73 l0 x3_1).f3) ((rd_T73 l0 x3_1).f4) true _ A4.out).mono ?_
          rintro e w14 ⟨rfl, hb⟩
          refine ⟨_, rfl, ?_⟩
          have n0_ := Aside0.mk (below_step (by repeat (first | (with_reducible first | exact HB.out | apply below_alloc | apply pw_below_drewN | apply below_drew1) | exact HB.out)) hb)
          clear HB
          have HB := n0_
          clear n0_
          (try clear hb)
          (try clear hb2)
          (try clear hk)
          (try clear hi)
          refine hK.out _ _ ⟨((HB.out.cell (World.block_lt_of_cell? w _ hw134_0)).trans hw134_0), ((HB.out.cell (World.block_lt_of_cell? w _ hw134_1)).trans hw134_1), ((HB.out.cell (World.block_lt_of_cell? w _ hw134_2)).trans hw134_2), ((HB.out.cell (World.block_lt_of_cell? w _ hw134_3)).trans hw134_3), ((HB.out.cell (World.block_lt_of_cell? w _ hw134_4)).trans hw134_4), ((HB.out.cell (World.block_lt_of_cell? w _ hw136_0)).trans hw136_0), ((HB.out.cell (World.block_lt_of_cell? w _ hw136_1)).trans hw136_1), ((HB.out.cell (World.block_lt_of_cell? w _ hw136_2)).trans hw136_2), ((HB.out.cell (World.block_lt_of_cell? w _ hw136_3)).trans hw136_3), ((HB.out.cell (World.block_lt_of_cell? w _ hw136_4)).trans hw136_4), ((HB.out.cell (World.block_lt_of_cell? w _ hw137_0)).trans hw137_0), ((HB.out.cell (World.block_lt_of_cell? w _ hw137_1)).trans hw137_1), ((HB.out.cell (World.block_lt_of_cell? w _ hw137_2)).trans hw137_2), ((HB.out.cell (World.block_lt_of_cell? w _ hw137_3)).trans hw137_3), ((HB.out.cell (World.block_lt_of_cell? w _ hw137_4)).trans hw137_4)⟩ (fun hHeld => ?_)
          clear hK K
          refine norm_ (a' := ?_) ?_ ?_
          rotate_left
          ·show Act.put _ (some 14) _ = _
           simp only [Act.put, sA, sZ, sS, i64_w]
           rfl
          refine pP 5 15 (bR [6, 18]) rfl rfl HT_ ?_
          refine pP 6 16 (bR [7, 17]) rfl rfl HT_ ?_
          refine pP 7 17 (bR [8, 16]) rfl rfl HT_ ?_
          refine pP 8 18 (bR [9, 15]) rfl rfl HT_ ?_
          refine pP 9 19 (bR [10, 14]) rfl rfl HT_ ?_
          refine pP 10 20 (bR [11, 13]) rfl rfl HT_ ?_
          refine pP 11 21 (bR [12, 12]) rfl rfl HT_ ?_
          refine pP 12 22 (bR [13, 11]) rfl rfl HT_ ?_
          refine pP 13 23 (bR [14, 10]) rfl rfl HT_ ?_
          refine pP 14 24 (bR [15, 9]) rfl rfl HT_ ?_
          refine pP 16 26 (bR [15, 1, 1, 7]) rfl rfl HT_ ?_
          refine pP 17 27 (bR [15, 1, 2, 6]) rfl rfl HT_ ?_
          refine pP 18 28 (bR [15, 1, 3, 5]) rfl rfl HT_ ?_
          refine pP 19 29 (bR [15, 1, 4, 4]) rfl rfl HT_ ?_
          refine take_ (i := 15) (N := some 25) (v := ?_) (a' := ?_) (bR [20, 4]) rfl rfl (take_ofW HT_.out HW_.out (by kernel_rfl)) (fun _ _ _ h => h) (Or.inl ⟨by rfl, ?_⟩) hHeld ?_ ?_
          rotate_left; (rintro w' ⟨s0, s1, s2, s3, s4, s5, s6, s7, s8, s9, s10, s11, s12, s13, s14⟩; go_simp; with_reducible rfl); rotate_left; (simp only [Act.put, sA, sZ, sS, i64_w]; rfl)
          refine take_ (i := 20) (N := some 30) (v := ?_) (a' := ?_) (bR [21, 3]) rfl rfl (take_ofW HT_.out HW_.out (by kernel_rfl)) (fun _ _ _ h => h) (Or.inl ⟨by rfl, ?_⟩) hHeld ?_ ?_
          rotate_left; (rintro w' ⟨s0, s1, s2, s3, s4, s5, s6, s7, s8, s9, s10, s11, s12, s13, s14⟩; go_simp; with_reducible rfl); rotate_left; (simp only [Act.put, sA, sZ, sS, i64_w]; rfl)
          refine pP 21 31 (bR [22, 2]) rfl rfl HT_ ?_
          refine pP 22 32 (bR [23, 1]) rfl rfl HT_ ?_
          refine pP 23 33 (bR [24]) rfl rfl HT_ ?_
          refine done_ (done_of HT_.out (by kernel_rfl)) ?_
          try go_wp2
          go_roundg k1
          case measure => have := HK1.out; omega
          case rel => exact ⟨(wrap64 (x3_1 + 1)), (by first | rfl | (simp; done) | (simp [*]; done)), H', ⟨by have := HK1.out; omega⟩, ⟨by repeat (first | (with_reducible first | exact HB.out | apply below_alloc | apply pw_below_drewN | apply below_drew1) | exact HB.out)⟩⟩
        ·rw [if_neg c9] at H
         exact absurd H (by simp)
       ·rw [if_neg c8] at H
        exact absurd H (by simp)
      ·rw [if_neg c6] at H
       have c6b0 : decide (0 < x3_1) = false := decide_eq_false c6
       clear c6
       have H' := Aside0.mk H
       clear H
       try go_wp2
       have n0_ := Aside0.mk (below_drew1 HB.out)
       clear HB
       have HB := n0_
       clear n0_
       have p134 : 0 ≤ (x3_1 : Int) := of_decide_eq_true ‹_›
       have q134 : x3_1 < (l0.length : Int) := of_decide_eq_true ‹_›
       obtain ⟨ad134, e134, hx134_0, hx134_1, hx134_2, hx134_3, hx134_4⟩ := at_T73 HR0.out x3_1 p134 q134
       have hw134_4 := hx134_4
       have hw134_3 := hx134_3
       have hw134_2 := hx134_2
       have hw134_1 := hx134_1
       have hw134_0 := hx134_0
       cases e134
       replace hx134_0 := (HB.out.cell (World.block_lt_of_cell? w _ hx134_0)).trans hx134_0
       replace hx134_1 := (HB.out.cell (World.block_lt_of_cell? w _ hx134_1)).trans hx134_1
       replace hx134_2 := (HB.out.cell (World.block_lt_of_cell? w _ hx134_2)).trans hx134_2
       replace hx134_3 := (HB.out.cell (World.block_lt_of_cell? w _ hx134_3)).trans hx134_3
       replace hx134_4 := (HB.out.cell (World.block_lt_of_cell? w _ hx134_4)).trans hx134_4
       replace p134 := eq_true p134
       replace q134 := eq_true q134
       refine start_ (n := 24) (S := fun w' => w'.cell? (ad134.add ((x3_1).toNat * 5)) = some (.int .i64 ((rd_T73 l0 x3_1).f0)) ∧ w'.cell? ⟨(ad134.add ((x3_1).toNat * 5)).block, (ad134.add ((x3_1).toNat * 5)).off + 1, none⟩ = some (.int .i64 ((rd_T73 l0 x3_1).f1)) ∧ w'.cell? ⟨(ad134.add ((x3_1).toNat * 5)).block, (ad134.add ((x3_1).toNat * 5)).off + 2, none⟩ = some (.int .i64 ((rd_T73 l0 x3_1).f2)) ∧ w'.cell? ⟨(ad134.add ((x3_1).toNat * 5)).block, (ad134.add ((x3_1).toNat * 5)).off + 3, none⟩ = some (.int .i64 ((rd_T73 l0 x3_1).f3)) ∧ w'.cell? ⟨(ad134.add ((x3_1).toNat * 5)).block, (ad134.add ((x3_1).toNat * 5)).off + 4, none⟩ = some (.int .i64 ((rd_T73 l0 x3_1).f4))) (ds := []) (bR [0, 24]) (by kernel_rfl) rfl rfl ⟨((HB.out.cell (World.block_lt_of_cell? w _ hw134_0)).trans hw134_0), ((HB.out.cell (World.block_lt_of_cell? w _ hw134_1)).trans hw134_1), ((HB.out.cell (World.block_lt_of_cell? w _ hw134_2)).trans hw134_2), ((HB.out.cell (World.block_lt_of_cell? w _ hw134_3)).trans hw134_3), ((HB.out.cell (World.block_lt_of_cell? w _ hw134_4)).trans hw134_4)⟩ (fun hHeld => ?_); refine with_tabW spec_AreThings.tab4 spec_AreThings.bits4 (fun HT_ HW_ => ?_)
       generalize wr.drew = w15 at HB hx134_0 hx134_1 hx134_2 hx134_3 hx134_4 hHeld ⊢
       refine pP 0 10 (bR [1, 23]) rfl rfl HT_ ?_
       refine pP 1 11 (bR [2, 22]) rfl rfl HT_ ?_
       refine pP 2 12 (bR [3, 21]) rfl rfl HT_ ?_
       refine take_ (i := 3) (N := some 13) (v := ?_) (a' := ?_) (bR [4, 20]) rfl rfl (take_ofW HT_.out HW_.out (by kernel_rfl)) (fun _ _ _ h => h) (Or.inl ⟨by rfl, ?_⟩) hHeld ?_ ?_
       rotate_left; (rintro w' ⟨s0, s1, s2, s3, s4⟩; go_simp; with_reducible rfl); rotate_left; (simp only [Act.put, sA, sZ, sS, i64_w]; rfl)
       refine one_ (i := 4) (N := some 14) (bR [5, 19]) rfl rfl (one_of HT_.out (by kernel_rfl)) (by decide) (fun K hK => ?_)
       refine goes_ Try.func101 (by kernel_rfl) rfl #[.agg #[.int .i64 ((rd_T73 l0 x3_1).f0), .int .i64 ((rd_T73 l0 x3_1).f1), .int .i64 ((rd_T73 l0 x3_1).f2), .int .i64 ((rd_T73 l0 x3_1).f3), .int .i64 ((rd_T73 l0 x3_1).f4)]] (by rfl) rfl rfl (by (try simp only [mA, mC, mN]); first | done | rfl | (simp only [lD, lT]; rfl)) ?_
       with_reducible refine (spec_IsThing.calls ((rd_T73 l0 x3_1).f0) ((rd_T73 l0 x3_1).f1) ((rd_T73 l0 x3_1).f2) ((rd_T73 l0 x3_1).f3) ((rd_T73 l0 x3_1).f4) true _ A4.out).mono ?_
       rintro e w16 ⟨rfl, hb⟩
       refine ⟨_, rfl, ?_⟩
       have n0_ := Aside0.mk (below_step (by repeat (first | (with_reducible first | exact HB.out | apply below_alloc | apply pw_below_drewN | apply below_drew1) | exact HB.out)) hb)
       clear HB
       have HB := n0_
       clear n0_
       (try clear hb)
       (try clear hb2)
       (try clear hk)
       (try clear hi)
       refine hK.out _ _ ⟨((HB.out.cell (World.block_lt_of_cell? w _ hw134_0)).trans hw134_0), ((HB.out.cell (World.block_lt_of_cell? w _ hw134_1)).trans hw134_1), ((HB.out.cell (World.block_lt_of_cell? w _ hw134_2)).trans hw134_2), ((HB.out.cell (World.block_lt_of_cell? w _ hw134_3)).trans hw134_3), ((HB.out.cell (World.block_lt_of_cell? w _ hw134_4)).trans hw134_4)⟩ (fun hHeld => ?_)
       clear hK K
       refine norm_ (a' := ?_) ?_ ?_
       rotate_left
       ·show Act.put _ (some 14) _ = _
        simp only [Act.put, sA, sZ, sS, i64_w]
        rfl
       refine pP 5 15 (bR [6, 18]) rfl rfl HT_ ?_
       refine pP 6 16 (bR [7, 17]) rfl rfl HT_ ?_
       refine pP 7 17 (bR [8, 16]) rfl rfl HT_ ?_
       refine pP 8 18 (bR [9, 15]) rfl rfl HT_ ?_
       refine pP 9 19 (bR [10, 14]) rfl rfl HT_ ?_
       refine pU 10 20 (bR [11, 13]) rfl rfl HT_ ?_
       refine pU 11 21 (bR [12, 12]) rfl rfl HT_ ?_
       refine pU 12 22 (bR [13, 11]) rfl rfl HT_ ?_
       refine pU 13 23 (bR [14, 10]) rfl rfl HT_ ?_
       refine pU 14 24 (bR [15, 9]) rfl rfl HT_ ?_
       refine pU 15 25 (bR [16, 8]) rfl rfl HT_ ?_
       refine pU 16 26 (bR [17, 7]) rfl rfl HT_ ?_
       refine pU 17 27 (bR [18, 6]) rfl rfl HT_ ?_
       refine pU 18 28 (bR [19, 5]) rfl rfl HT_ ?_
       refine pU 19 29 (bR [20, 4]) rfl rfl HT_ ?_
       refine pU 20 30 (bR [21, 3]) rfl rfl HT_ ?_
       refine pU 21 31 (bR [22, 2]) rfl rfl HT_ ?_
       refine pP 22 32 (bR [23, 1]) rfl rfl HT_ ?_
       refine pP 23 33 (bR [24]) rfl rfl HT_ ?_
       refine done_ (done_of HT_.out (by kernel_rfl)) ?_
       try go_wp2
       go_roundg k1
       case measure => have := HK1.out; omega
       case rel => exact ⟨(wrap64 (x3_1 + 1)), (by first | rfl | (simp; done) | (simp [*]; done)), H', ⟨by have := HK1.out; omega⟩, ⟨by repeat (first | (with_reducible first | exact HB.out | apply below_alloc | apply pw_below_drewN | apply below_drew1) | exact HB.out)⟩⟩
     ·replace c5 := Bool.eq_false_iff.mpr c5
      subst c5
      have H1 : (some false) = some r := by rw [if_neg (show ¬ (false = true) by decide)] at H; exact H
      clear H
      have H := H1
      clear H1
      obtain rfl := Option.some.inj H
      try go_wp2
      have n0_ := Aside0.mk (below_drew1 HB.out)
      clear HB
      have HB := n0_
      clear n0_
      have p134 : 0 ≤ (x3_1 : Int) := of_decide_eq_true ‹_›
      have q134 : x3_1 < (l0.length : Int) := of_decide_eq_true ‹_›
      obtain ⟨ad134, e134, hx134_0, hx134_1, hx134_2, hx134_3, hx134_4⟩ := at_T73 HR0.out x3_1 p134 q134
      have hw134_4 := hx134_4
      have hw134_3 := hx134_3
      have hw134_2 := hx134_2
      have hw134_1 := hx134_1
      have hw134_0 := hx134_0
      cases e134
      replace hx134_0 := (HB.out.cell (World.block_lt_of_cell? w _ hx134_0)).trans hx134_0
      replace hx134_1 := (HB.out.cell (World.block_lt_of_cell? w _ hx134_1)).trans hx134_1
      replace hx134_2 := (HB.out.cell (World.block_lt_of_cell? w _ hx134_2)).trans hx134_2
      replace hx134_3 := (HB.out.cell (World.block_lt_of_cell? w _ hx134_3)).trans hx134_3
      replace hx134_4 := (HB.out.cell (World.block_lt_of_cell? w _ hx134_4)).trans hx134_4
      replace p134 := eq_true p134
      replace q134 := eq_true q134
      refine start_ (n := 24) (S := fun w' => w'.cell? (ad134.add ((x3_1).toNat * 5)) = some (.int .i64 ((rd_T73 l0 x3_1).f0)) ∧ w'.cell? ⟨(ad134.add ((x3_1).toNat * 5)).block, (ad134.add ((x3_1).toNat * 5)).off + 1, none⟩ = some (.int .i64 ((rd_T73 l0 x3_1).f1)) ∧ w'.cell? ⟨(ad134.add ((x3_1).toNat * 5)).block, (ad134.add ((x3_1).toNat * 5)).off + 2, none⟩ = some (.int .i64 ((rd_T73 l0 x3_1).f2)) ∧ w'.cell? ⟨(ad134.add ((x3_1).toNat * 5)).block, (ad134.add ((x3_1).toNat * 5)).off + 3, none⟩ = some (.int .i64 ((rd_T73 l0 x3_1).f3)) ∧ w'.cell? ⟨(ad134.add ((x3_1).toNat * 5)).block, (ad134.add ((x3_1).toNat * 5)).off + 4, none⟩ = some (.int .i64 ((rd_T73 l0 x3_1).f4))) (ds := []) (bR [0, 24]) (by kernel_rfl) rfl rfl ⟨((HB.out.cell (World.block_lt_of_cell? w _ hw134_0)).trans hw134_0), ((HB.out.cell (World.block_lt_of_cell? w _ hw134_1)).trans hw134_1), ((HB.out.cell (World.block_lt_of_cell? w _ hw134_2)).trans hw134_2), ((HB.out.cell (World.block_lt_of_cell? w _ hw134_3)).trans hw134_3), ((HB.out.cell (World.block_lt_of_cell? w _ hw134_4)).trans hw134_4)⟩ (fun hHeld => ?_); refine with_tabW spec_AreThings.tab4 spec_AreThings.bits4 (fun HT_ HW_ => ?_)
      generalize wr.drew = w17 at HB hx134_0 hx134_1 hx134_2 hx134_3 hx134_4 hHeld ⊢
      refine pP 0 10 (bR [1, 23]) rfl rfl HT_ ?_
      refine pP 1 11 (bR [2, 22]) rfl rfl HT_ ?_
      refine pP 2 12 (bR [3, 21]) rfl rfl HT_ ?_
      refine take_ (i := 3) (N := some 13) (v := ?_) (a' := ?_) (bR [4, 20]) rfl rfl (take_ofW HT_.out HW_.out (by kernel_rfl)) (fun _ _ _ h => h) (Or.inl ⟨by rfl, ?_⟩) hHeld ?_ ?_
      rotate_left; (rintro w' ⟨s0, s1, s2, s3, s4⟩; go_simp; with_reducible rfl); rotate_left; (simp only [Act.put, sA, sZ, sS, i64_w]; rfl)
      refine one_ (i := 4) (N := some 14) (bR [5, 19]) rfl rfl (one_of HT_.out (by kernel_rfl)) (by decide) (fun K hK => ?_)
      refine goes_ Try.func101 (by kernel_rfl) rfl #[.agg #[.int .i64 ((rd_T73 l0 x3_1).f0), .int .i64 ((rd_T73 l0 x3_1).f1), .int .i64 ((rd_T73 l0 x3_1).f2), .int .i64 ((rd_T73 l0 x3_1).f3), .int .i64 ((rd_T73 l0 x3_1).f4)]] (by rfl) rfl rfl (by (try simp only [mA, mC, mN]); first | done | rfl | (simp only [lD, lT]; rfl)) ?_
      with_reducible refine (spec_IsThing.calls ((rd_T73 l0 x3_1).f0) ((rd_T73 l0 x3_1).f1) ((rd_T73 l0 x3_1).f2) ((rd_T73 l0 x3_1).f3) ((rd_T73 l0 x3_1).f4) false _ A4.out).mono ?_
      rintro e w18 ⟨rfl, hb⟩
      refine ⟨_, rfl, ?_⟩
      have n0_ := Aside0.mk (below_step (by repeat (first | (with_reducible first | exact HB.out | apply below_alloc | apply pw_below_drewN | apply below_drew1) | exact HB.out)) hb)
      clear HB
      have HB := n0_
      clear n0_
      (try clear hb)
      (try clear hb2)
      (try clear hk)
      (try clear hi)
      refine hK.out _ _ ⟨((HB.out.cell (World.block_lt_of_cell? w _ hw134_0)).trans hw134_0), ((HB.out.cell (World.block_lt_of_cell? w _ hw134_1)).trans hw134_1), ((HB.out.cell (World.block_lt_of_cell? w _ hw134_2)).trans hw134_2), ((HB.out.cell (World.block_lt_of_cell? w _ hw134_3)).trans hw134_3), ((HB.out.cell (World.block_lt_of_cell? w _ hw134_4)).trans hw134_4)⟩ (fun hHeld => ?_)
      clear hK K
      refine norm_ (a' := ?_) ?_ ?_
      rotate_left
      ·show Act.put _ (some 14) _ = _
       simp only [Act.put, sA, sZ, sS, i64_w]
       rfl
      refine pP 5 15 (bR [6, 18]) rfl rfl HT_ ?_
      refine pP 6 16 (bR [7, 17]) rfl rfl HT_ ?_
      refine pU 7 17 (bR [8, 16]) rfl rfl HT_ ?_
      refine pU 8 18 (bR [9, 15]) rfl rfl HT_ ?_
      refine pU 9 19 (bR [10, 14]) rfl rfl HT_ ?_
      refine pU 10 20 (bR [11, 13]) rfl rfl HT_ ?_
      refine pU 11 21 (bR [12, 12]) rfl rfl HT_ ?_
      refine pU 12 22 (bR [13, 11]) rfl rfl HT_ ?_
      refine pU 13 23 (bR [14, 10]) rfl rfl HT_ ?_
      refine pU 14 24 (bR [15, 9]) rfl rfl HT_ ?_
      refine pU 15 25 (bR [16, 8]) rfl rfl HT_ ?_
      refine pU 16 26 (bR [17, 7]) rfl rfl HT_ ?_
      refine pU 17 27 (bR [18, 6]) rfl rfl HT_ ?_
      refine pU 18 28 (bR [19, 5]) rfl rfl HT_ ?_
      refine pU 19 29 (bR [20, 4]) rfl rfl HT_ ?_
      refine pU 20 30 (bR [21, 3]) rfl rfl HT_ ?_
      refine pU 21 31 (bR [22, 2]) rfl rfl HT_ ?_
      refine pU 22 32 (bR [23, 1]) rfl rfl HT_ ?_
      refine pP 23 33 (bR [24]) rfl rfl HT_ ?_
      refine done_ (done_of HT_.out (by kernel_rfl)) ?_
      try go_wp2
      go_ret
      exact ⟨by first | rfl | (simp [errW_none, errW_some] <;> rfl) | (simp [*, errW_none, errW_some] <;> rfl), by repeat (first | (with_reducible first | exact HB.out | apply below_alloc | apply pw_below_drewN | apply below_drew1) | exact HB.out)⟩
    ·rw [if_neg c3] at H
     exact absurd H (by simp)
   ·rw [if_neg c2] at H
    have c2b0 : decide (x3_1 < (l0.length : Int)) = false := decide_eq_false c2
    clear c2
    obtain rfl := Option.some.inj H
    go_wp2
    go_ret
    exact ⟨by first | rfl | (simp [errW_none, errW_some] <;> rfl) | (simp [*, errW_none, errW_some] <;> rfl), by repeat (first | (with_reducible first | exact HB.out | apply below_alloc | apply pw_below_drewN | apply below_drew1) | exact HB.out)⟩

end Go.Proofs.Ytbbfelgojaioaaa.PFnExactWasted
