-- The printed functions of one law and their contracts, over contracts of this session's own (hand.py).
import Derived.Test.YtppgealmedaihaaPFnExactAddClaimx0
import Derived.Test.YtppgealmedaihaaPFnExactAddClaimx1
namespace Go.Proofs.Ytppgealmedaihaa.PFnExactAddClaim
open Go.RowKit Go.Proofs.YtppgealmedaihaaW.PrintWords Go.Proofs.YtppgealmedaihaaW.PrintLast Go.Proofs.YtppgealmedaihaaW.PrintMore Go.Proofs.Ytppgealmedaihaa.Short
attribute [local go_sem] max2_int min2_int max_two min_two max_three min_three max_four min_four   -- for this text's walks alone
set_option linter.unusedVariables false
set_option linter.unusedSimpArgs false

/-! ### spec_AreClaims: function 87 -/
mutual
def spec_AreClaims.l0 : Nat → List (S84) → Int → Option (Bool)
 | 0, _, _ => none
 | k + 1, x0, x3 => if x3 < (x0.length : Int) then (if 0 ≤ x3 then ((spec_l1In.f ((rd_T84 x0 x3).f0) 1 999).bind fun t103 => (if t103 = true then ((spec_l1In.f ((rd_T84 x0 x3).f1) 1 999).bind fun t104 => (if t104 = true then ((spec_l1In.f ((rd_T84 x0 x3).f2) 1 999).bind fun t105 => (if t105 = true then ((spec_l1In.f ((rd_T84 x0 x3).f3) 0 100000).bind fun t106 => (if t106 = true then ((spec_l1In.f ((rd_T84 x0 x3).f4) 0 3).bind fun t107 => (if t107 = true then (if x3 > 0 then (if 0 ≤ (wrap64 (x3 - 1)) then (if (wrap64 (x3 - 1)) < (x0.length : Int) then (spec_AreClaims.j1 k x0 x3 (decide (((rd_T84 x0 (wrap64 (x3 - 1))).f0) ≥ ((rd_T84 x0 x3).f0))) ((rd_T84 x0 x3).f0) ((rd_T84 x0 x3).f1) ((rd_T84 x0 x3).f2) ((rd_T84 x0 x3).f3) ((rd_T84 x0 x3).f4)) else (none)) else (none)) else (spec_AreClaims.j1 k x0 x3 false ((rd_T84 x0 x3).f0) ((rd_T84 x0 x3).f1) ((rd_T84 x0 x3).f2) ((rd_T84 x0 x3).f3) ((rd_T84 x0 x3).f4))) else (spec_AreClaims.j1 k x0 x3 true ((rd_T84 x0 x3).f0) ((rd_T84 x0 x3).f1) ((rd_T84 x0 x3).f2) ((rd_T84 x0 x3).f3) ((rd_T84 x0 x3).f4)))) else (spec_AreClaims.j1 k x0 x3 true ((rd_T84 x0 x3).f0) ((rd_T84 x0 x3).f1) ((rd_T84 x0 x3).f2) ((rd_T84 x0 x3).f3) ((rd_T84 x0 x3).f4)))) else (spec_AreClaims.j1 k x0 x3 true ((rd_T84 x0 x3).f0) ((rd_T84 x0 x3).f1) ((rd_T84 x0 x3).f2) ((rd_T84 x0 x3).f3) ((rd_T84 x0 x3).f4)))) else (spec_AreClaims.j1 k x0 x3 true ((rd_T84 x0 x3).f0) ((rd_T84 x0 x3).f1) ((rd_T84 x0 x3).f2) ((rd_T84 x0 x3).f3) ((rd_T84 x0 x3).f4)))) else (spec_AreClaims.j1 k x0 x3 true ((rd_T84 x0 x3).f0) ((rd_T84 x0 x3).f1) ((rd_T84 x0 x3).f2) ((rd_T84 x0 x3).f3) ((rd_T84 x0 x3).f4)))) else (none)) else (some (decide ((x0.length : Int) ≤ 20)))
def spec_AreClaims.j1 : Nat → List (S84) → Int → Bool → Int → Int → Int → Int → Int → Option (Bool)
 | 0, _, _, _, _, _, _, _, _ => none
 | k + 1, x0, x3, x58, x103000, x103001, x103002, x103003, x103004 => if x58 = true then (some false) else (spec_AreClaims.l1 k x0 x3 0 x103000 x103001 x103002 x103003 x103004)
def spec_AreClaims.l1 : Nat → List (S84) → Int → Int → Int → Int → Int → Int → Int → Option (Bool)
 | 0, _, _, _, _, _, _, _, _ => none
 | k + 1, x0, x3, x5, x103000, x103001, x103002, x103003, x103004 => if x5 < x3 then (if x103004 = 3 then (if 0 ≤ x5 then (if x5 < (x0.length : Int) then (if ((rd_T84 x0 x5).f4) = 3 then (if ((rd_T84 x0 x5).f2) = x103002 then (some false) else (spec_AreClaims.l1 k x0 x3 (wrap64 (x5 + 1)) x103000 x103001 x103002 x103003 x103004)) else (spec_AreClaims.l1 k x0 x3 (wrap64 (x5 + 1)) x103000 x103001 x103002 x103003 x103004)) else (none)) else (none)) else (spec_AreClaims.l1 k x0 x3 (wrap64 (x5 + 1)) x103000 x103001 x103002 x103003 x103004)) else (spec_AreClaims.l0 k x0 (wrap64 (x3 + 1)))
end
def spec_AreClaims.f (k : Nat) (l0 : List (S84)) : Option (Bool) := spec_AreClaims.l0 k l0 0
theorem spec_AreClaims.mono_l : ∀ k, (∀ y0 y1, LeO (spec_AreClaims.l0 k y0 y1) (spec_AreClaims.l0 (k + 1) y0 y1)) ∧ (∀ y0 y1 y2 y3 y4 y5 y6 y7, LeO (spec_AreClaims.j1 k y0 y1 y2 y3 y4 y5 y6 y7) (spec_AreClaims.j1 (k + 1) y0 y1 y2 y3 y4 y5 y6 y7)) ∧ (∀ y0 y1 y2 y3 y4 y5 y6 y7, LeO (spec_AreClaims.l1 k y0 y1 y2 y3 y4 y5 y6 y7) (spec_AreClaims.l1 (k + 1) y0 y1 y2 y3 y4 y5 y6 y7))
 | 0 => ⟨fun _ _ r h => by simp [spec_AreClaims.l0] at h, fun _ _ _ _ _ _ _ _ r h => by simp [spec_AreClaims.j1] at h, fun _ _ _ _ _ _ _ _ r h => by simp [spec_AreClaims.l1] at h⟩
 | k + 1 => by
  obtain ⟨ih0, ih1, ih2⟩ := spec_AreClaims.mono_l k
  refine ⟨?_, ?_, ?_⟩
  ·intro y0 y1
   unfold spec_AreClaims.l0
   repeat' first
   | (with_reducible exact ih0 _ _)
   | (with_reducible exact ih1 _ _ _ _ _ _ _ _)
   | (with_reducible exact ih2 _ _ _ _ _ _ _ _)
   | (with_reducible exact LeO.refl _)
   | (with_reducible exact LeO.none _)
   | (with_reducible refine LeO.ite ?_ ?_)
   | (with_reducible refine LeO.bind ?_ (fun _ => ?_))
   | exact ih0 _ _
   | exact ih1 _ _ _ _ _ _ _ _
   | exact ih2 _ _ _ _ _ _ _ _
   | exact LeO.none _
   | refine LeO.ite ?_ ?_
   | refine LeO.bind ?_ (fun _ => ?_)
  ·intro y0 y1 y2 y3 y4 y5 y6 y7
   unfold spec_AreClaims.j1
   repeat' first
   | (with_reducible exact ih0 _ _)
   | (with_reducible exact ih1 _ _ _ _ _ _ _ _)
   | (with_reducible exact ih2 _ _ _ _ _ _ _ _)
   | (with_reducible exact LeO.refl _)
   | (with_reducible exact LeO.none _)
   | (with_reducible refine LeO.ite ?_ ?_)
   | (with_reducible refine LeO.bind ?_ (fun _ => ?_))
   | exact ih0 _ _
   | exact ih1 _ _ _ _ _ _ _ _
   | exact ih2 _ _ _ _ _ _ _ _
   | exact LeO.none _
   | refine LeO.ite ?_ ?_
   | refine LeO.bind ?_ (fun _ => ?_)
  ·intro y0 y1 y2 y3 y4 y5 y6 y7
   unfold spec_AreClaims.l1
   repeat' first
   | (with_reducible exact ih0 _ _)
   | (with_reducible exact ih1 _ _ _ _ _ _ _ _)
   | (with_reducible exact ih2 _ _ _ _ _ _ _ _)
   | (with_reducible exact LeO.refl _)
   | (with_reducible exact LeO.none _)
   | (with_reducible refine LeO.ite ?_ ?_)
   | (with_reducible refine LeO.bind ?_ (fun _ => ?_))
   | exact ih0 _ _
   | exact ih1 _ _ _ _ _ _ _ _
   | exact ih2 _ _ _ _ _ _ _ _
   | exact LeO.none _
   | refine LeO.ite ?_ ?_
   | refine LeO.bind ?_ (fun _ => ?_)
theorem spec_AreClaims.mono : ∀ a0 k, LeO (spec_AreClaims.f k a0) (spec_AreClaims.f (k + 1) a0) := by
 intro a0 k
 obtain ⟨ih0, ih1, ih2⟩ := spec_AreClaims.mono_l k
 unfold spec_AreClaims.f
 repeat' first
   | (with_reducible exact ih0 _ _)
   | (with_reducible exact ih1 _ _ _ _ _ _ _ _)
   | (with_reducible exact ih2 _ _ _ _ _ _ _ _)
   | (with_reducible exact LeO.refl _)
   | (with_reducible exact LeO.none _)
   | (with_reducible refine LeO.ite ?_ ?_)
   | (with_reducible refine LeO.bind ?_ (fun _ => ?_))
   | exact ih0 _ _
   | exact ih1 _ _ _ _ _ _ _ _
   | exact ih2 _ _ _ _ _ _ _ _
   | exact LeO.none _
   | refine LeO.ite ?_ ?_
   | refine LeO.bind ?_ (fun _ => ?_)
def spec_AreClaims.T5 : Bool × List (List Nat × List Nat) := (true, [([], []), ([0], [0]), ([1], [1]), ([2], [2]), ([3, 2], [3]), ([4], [4]), ([5, 4], [4, 5]), ([6, 4, 4], [4, 6]), ([7, 4], [4, 7]), ([4, 8], [4, 8]), ([9, 7], [9]), ([10], [10]), ([11, 10], [10, 11]), ([12, 10, 10], [10, 12]), ([13, 10], [10, 13]), ([10, 14], [10, 14]), ([15, 13], [15]), ([16], [16]), ([17, 16], [16, 17]), ([18, 16, 16], [16, 18]), ([19, 16], [16, 19]), ([16, 20], [16, 20]), ([21, 19], [21]), ([22], [22]), ([23, 22], [22, 23]), ([24, 22, 22], [22, 24]), ([25, 22], [22, 25]), ([22, 26], [22, 26]), ([27, 25], [27]), ([28], [28]), ([29, 28], [28, 29]), ([30, 28, 28], [28, 30]), ([31], [31]), ([31], [31]), ([33, 31], [31, 33]), ([32, 34, 31], [31, 32, 34]), ([35, 31], [31, 35]), ([36, 31], [31, 36]), ([31], [31]), ([38, 31], [31, 38]), ([37, 39, 31], [31, 37, 39]), ([31, 40, 28], [28, 31, 40]), ([28, 41], [28, 41])])
def spec_AreClaims.B5 : List Nat := [0, 1, 3, 7, 15, 31, 63, 127, 255, 511, 1023, 2047, 4095, 8191, 16383, 32767, 65535, 131071, 262143, 524287, 1048575, 2097151, 4194303, 8388607, 16777215, 33554431, 67108863, 134217727, 268435455, 536870911, 1073741823, 2147483647, 4294967295, 4294967295, 12884901887, 34359738367, 68719476735, 137438953471, 4294967295, 279172874239, 1099511627775, 2199023255551, 4398046511103]
theorem spec_AreClaims.tab5 : rtab .any (opsOf Try.f87 5) = spec_AreClaims.T5 := by kernel_rfl
theorem spec_AreClaims.bits5 : waitsOk spec_AreClaims.T5.2 spec_AreClaims.B5 = true := by kernel_rfl
def spec_AreClaims.T10 : Bool × List (List Nat × List Nat) := (true, [([], []), ([0], [0]), ([1], [1]), ([2], [2]), ([3], [3]), ([3], [3]), ([4, 5, 3], [3, 4, 5]), ([6, 3], [3, 6]), ([7, 3], [3, 7]), ([8, 3], [3, 8]), ([3, 9], [3, 9]), ([10, 3], [10]), ([11], [11]), ([11], [11]), ([12, 13, 11], [11, 12, 13]), ([14, 11], [11, 14]), ([15, 11], [11, 15]), ([11], [11]), ([17, 11], [11, 17]), ([16, 18, 11], [11, 16, 18]), ([11, 19], [11, 19])])
def spec_AreClaims.B10 : List Nat := [0, 1, 3, 7, 15, 15, 63, 127, 255, 511, 1023, 2047, 4095, 4095, 16383, 32767, 65535, 4095, 135167, 524287, 1048575]
theorem spec_AreClaims.tab10 : rtab .any (opsOf Try.f87 10) = spec_AreClaims.T10 := by kernel_rfl
theorem spec_AreClaims.bits10 : waitsOk spec_AreClaims.T10.2 spec_AreClaims.B10 = true := by kernel_rfl
set_option maxHeartbeats 8000000 in
set_option maxRecDepth 100000 in
theorem spec_AreClaims.calls (k : Nat) (A0 : Option Addr) (c0 : Nat) (l0 : List (S84)) (r : Bool) (w : World) (hr0 : Kd.C k84 w A0 l0.length l0) (hc0 : l0.length ≤ c0) (h : spec_AreClaims.f k l0 = some r) :
  Calls Try.prog 87 #[.slice A0 l0.length c0] w fun e w' => e = .returned (.bool r) ∧ Below w.heap.size w w' := by
 have hu84 := Try.underlying84
 have HR0 := Aside0.mk hr0
 have HC0 := Aside0.mk hc0
 clear hr0 hc0
 have HB := Aside0.mk (Below.refl w.heap.size w)
 have H : (spec_AreClaims.l0 k l0 0) = some r := h
 clear h
 have H' := Aside0.mk H
 clear H
 go_enter Try.func87, Try.ntmps87
 go_wp2
 go_loopg [3] k (fun kq v3 w' => ∃ (x3_1 : Int), v3 = .int .i64 x3_1 ∧ Aside0 (spec_AreClaims.l0 kq l0 x3_1 = some r) ∧ Aside0 (kq ≤ k) ∧ Aside0 (Below w.heap.size w w'))
 case atStart => exact ⟨(0), (by first | rfl | (simp; done) | (simp [*]; done)), H', ⟨Nat.le_refl _⟩, ⟨by repeat (first | (with_reducible first | exact HB.out | apply bA | apply bN | apply bD) | exact HB.out)⟩⟩
 case round =>
  clear H'
  obtain ⟨x3_1, rfl, HA, HK1, HB⟩ := hrel
  cases gk with
  | zero => exact absurd HA.out (by simp [spec_AreClaims.l0])
  | succ k1 =>
   have H := HA.out
   clear HA
   simp only [spec_AreClaims.l0] at H
   by_cases c2 : x3_1 < (l0.length : Int)
   ·rw [if_pos c2] at H
    have c2b0 : decide (x3_1 < (l0.length : Int)) = true := decide_eq_true c2
    clear c2
    by_cases c3 : 0 ≤ x3_1
    ·rw [if_pos c3] at H
     have c3b0 : decide (0 ≤ x3_1) = true := decide_eq_true c3
     clear c3
     have HC4 := Aside0.mk H
     clear H
     have p101 : 0 ≤ (x3_1 : Int) := of_decide_eq_true ‹_›
     have q101 : x3_1 < (l0.length : Int) := of_decide_eq_true ‹_›
     obtain ⟨ad101, e101, hx101_0, hx101_1, hx101_2, hx101_3, hx101_4⟩ := at_T84 HR0.out x3_1 p101 q101
     cases e101
     replace hx101_0 := (HB.out.cell (World.block_lt_of_cell? w _ hx101_0)).trans hx101_0
     replace hx101_1 := (HB.out.cell (World.block_lt_of_cell? w _ hx101_1)).trans hx101_1
     replace hx101_2 := (HB.out.cell (World.block_lt_of_cell? w _ hx101_2)).trans hx101_2
     replace hx101_3 := (HB.out.cell (World.block_lt_of_cell? w _ hx101_3)).trans hx101_3
     replace hx101_4 := (HB.out.cell (World.block_lt_of_cell? w _ hx101_4)).trans hx101_4
     replace p101 := eq_true p101
     replace q101 := eq_true q101
     go_upto_region 5 with (first | ((with_reducible refine gate_dst (N := 4) rfl ?_); refine box_event ?hg (N := 4) ?hd (cs := #[.int .i64 0, .int .i64 0, .int .i64 0, .int .i64 0, .int .i64 0]) (t := 84) ?hr ?_; (case hd => rfl); (case hg => rfl); (case hr => first | (go_simp; done) | (go_simp; rfl)); intro gb102 hg w5 hbox hb; have n0_ := Aside0.mk (below_step (qB HB) hb); have n1_ := Aside0.mk (hbox); have n2_ := Aside0.mk ((by rw [hg]; exact (below_size (qB HB)) : w.heap.size ≤ gb102)); have n3_ := Aside0.mk ((by rw [hg]; exact (below_size (qB HB)) : w.heap.size ≤ gb102)); clear HB; have HB := n0_; have BK102 := n1_; have GW102 := n2_; have GE102 := n3_; clear n0_ n1_ n2_ n3_; clear hb hbox hg; have hcz6_0 : w5.cell? ⟨gb102, 0, none⟩ = some (.int .i64 0) := cC BK102 0; have hcz6_1 : w5.cell? ⟨gb102, 1, none⟩ = some (.int .i64 0) := cC BK102 1; have hcz6_2 : w5.cell? ⟨gb102, 2, none⟩ = some (.int .i64 0) := cC BK102 2; have hcz6_3 : w5.cell? ⟨gb102, 3, none⟩ = some (.int .i64 0) := cC BK102 3; have hcz6_4 : w5.cell? ⟨gb102, 4, none⟩ = some (.int .i64 0) := cC BK102 4; have hfz6_0 := blk_frozen BK102.out 0; have hfz6_1 := blk_frozen BK102.out 1; have hfz6_2 := blk_frozen BK102.out 2; have hfz6_3 := blk_frozen BK102.out 3; have hfz6_4 := blk_frozen BK102.out 4))
     (try simp only [Act.put, sA, sZ, sS])
     go_cut [58] (fun v58 wc => ∃ (kq : Nat) (x58_3 : Bool), v58 = .bool x58_3 ∧ Aside0 (spec_AreClaims.j1 kq l0 x3_1 x58_3 ((rd_T84 l0 x3_1).f0) ((rd_T84 l0 x3_1).f1) ((rd_T84 l0 x3_1).f2) ((rd_T84 l0 x3_1).f3) ((rd_T84 l0 x3_1).f4) = some r) ∧ Aside0 (kq ≤ k1) ∧ Aside0 (wc.heap[gb102]? = some (.cells #[.int .i64 ((rd_T84 l0 x3_1).f0), .int .i64 ((rd_T84 l0 x3_1).f1), .int .i64 ((rd_T84 l0 x3_1).f2), .int .i64 ((rd_T84 l0 x3_1).f3), .int .i64 ((rd_T84 l0 x3_1).f4)] 84 (0, 0))) ∧ Aside0 (Below w.heap.size w wc))
     case first =>
      have H := HC4.out
      clear HC4
      replace H := Option.bind_eq_some_iff.mp H
      obtain ⟨t103, A70, H⟩ := H
      replace H : (if t103 = true then ((spec_l1In.f ((rd_T84 l0 x3_1).f1) 1 999).bind fun t104 => (if t104 = true then ((spec_l1In.f ((rd_T84 l0 x3_1).f2) 1 999).bind fun t105 => (if t105 = true then ((spec_l1In.f ((rd_T84 l0 x3_1).f3) 0 100000).bind fun t106 => (if t106 = true then ((spec_l1In.f ((rd_T84 l0 x3_1).f4) 0 3).bind fun t107 => (if t107 = true then (if x3_1 > 0 then (if 0 ≤ (wrap64 (x3_1 - 1)) then (if (wrap64 (x3_1 - 1)) < (l0.length : Int) then (spec_AreClaims.j1 k1 l0 x3_1 (decide (((rd_T84 l0 (wrap64 (x3_1 - 1))).f0) ≥ ((rd_T84 l0 x3_1).f0))) ((rd_T84 l0 x3_1).f0) ((rd_T84 l0 x3_1).f1) ((rd_T84 l0 x3_1).f2) ((rd_T84 l0 x3_1).f3) ((rd_T84 l0 x3_1).f4)) else (none)) else (none)) else (spec_AreClaims.j1 k1 l0 x3_1 false ((rd_T84 l0 x3_1).f0) ((rd_T84 l0 x3_1).f1) ((rd_T84 l0 x3_1).f2) ((rd_T84 l0 x3_1).f3) ((rd_T84 l0 x3_1).f4))) else (spec_AreClaims.j1 k1 l0 x3_1 true ((rd_T84 l0 x3_1).f0) ((rd_T84 l0 x3_1).f1) ((rd_T84 l0 x3_1).f2) ((rd_T84 l0 x3_1).f3) ((rd_T84 l0 x3_1).f4)))) else (spec_AreClaims.j1 k1 l0 x3_1 true ((rd_T84 l0 x3_1).f0) ((rd_T84 l0 x3_1).f1) ((rd_T84 l0 x3_1).f2) ((rd_T84 l0 x3_1).f3) ((rd_T84 l0 x3_1).f4)))) else (spec_AreClaims.j1 k1 l0 x3_1 true ((rd_T84 l0 x3_1).f0) ((rd_T84 l0 x3_1).f1) ((rd_T84 l0 x3_1).f2) ((rd_T84 l0 x3_1).f3) ((rd_T84 l0 x3_1).f4)))) else (spec_AreClaims.j1 k1 l0 x3_1 true ((rd_T84 l0 x3_1).f0) ((rd_T84 l0 x3_1).f1) ((rd_T84 l0 x3_1).f2) ((rd_T84 l0 x3_1).f3) ((rd_T84 l0 x3_1).f4)))) else (spec_AreClaims.j1 k1 l0 x3_1 true ((rd_T84 l0 x3_1).f0) ((rd_T84 l0 x3_1).f1) ((rd_T84 l0 x3_1).f2) ((rd_T84 l0 x3_1).f3) ((rd_T84 l0 x3_1).f4))) = some r := H
      have A7 := Aside0.mk A70
      clear A70
      by_cases c8 : t103 = true
      ·subst c8
       have H1 : ((spec_l1In.f ((rd_T84 l0 x3_1).f1) 1 999).bind fun t104 => (if t104 = true then ((spec_l1In.f ((rd_T84 l0 x3_1).f2) 1 999).bind fun t105 => (if t105 = true then ((spec_l1In.f ((rd_T84 l0 x3_1).f3) 0 100000).bind fun t106 => (if t106 = true then ((spec_l1In.f ((rd_T84 l0 x3_1).f4) 0 3).bind fun t107 => (if t107 = true then (if x3_1 > 0 then (if 0 ≤ (wrap64 (x3_1 - 1)) then (if (wrap64 (x3_1 - 1)) < (l0.length : Int) then (spec_AreClaims.j1 k1 l0 x3_1 (decide (((rd_T84 l0 (wrap64 (x3_1 - 1))).f0) ≥ ((rd_T84 l0 x3_1).f0))) ((rd_T84 l0 x3_1).f0) ((rd_T84 l0 x3_1).f1) ((rd_T84 l0 x3_1).f2) ((rd_T84 l0 x3_1).f3) ((rd_T84 l0 x3_1).f4)) else (none)) else (none)) else (spec_AreClaims.j1 k1 l0 x3_1 false ((rd_T84 l0 x3_1).f0) ((rd_T84 l0 x3_1).f1) ((rd_T84 l0 x3_1).f2) ((rd_T84 l0 x3_1).f3) ((rd_T84 l0 x3_1).f4))) else (spec_AreClaims.j1 k1 l0 x3_1 true ((rd_T84 l0 x3_1).f0) ((rd_T84 l0 x3_1).f1) ((rd_T84 l0 x3_1).f2) ((rd_T84 l0 x3_1).f3) ((rd_T84 l0 x3_1).f4)))) else (spec_AreClaims.j1 k1 l0 x3_1 true ((rd_T84 l0 x3_1).f0) ((rd_T84 l0 x3_1).f1) ((rd_T84 l0 x3_1).f2) ((rd_T84 l0 x3_1).f3) ((rd_T84 l0 x3_1).f4)))) else (spec_AreClaims.j1 k1 l0 x3_1 true ((rd_T84 l0 x3_1).f0) ((rd_T84 l0 x3_1).f1) ((rd_T84 l0 x3_1).f2) ((rd_T84 l0 x3_1).f3) ((rd_T84 l0 x3_1).f4)))) else (spec_AreClaims.j1 k1 l0 x3_1 true ((rd_T84 l0 x3_1).f0) ((rd_T84 l0 x3_1).f1) ((rd_T84 l0 x3_1).f2) ((rd_T84 l0 x3_1).f3) ((rd_T84 l0 x3_1).f4)))) = some r := by rw [if_pos rfl] at H; exact H
       clear H
       have H := H1
       clear H1
       replace H := Option.bind_eq_some_iff.mp H
       obtain ⟨t104, A90, H⟩ := H
       replace H : (if t104 = true then ((spec_l1In.f ((rd_T84 l0 x3_1).f2) 1 999).bind fun t105 => (if t105 = true then ((spec_l1In.f ((rd_T84 l0 x3_1).f3) 0 100000).bind fun t106 => (if t106 = true then ((spec_l1In.f ((rd_T84 l0 x3_1).f4) 0 3).bind fun t107 => (if t107 = true then (if x3_1 > 0 then (if 0 ≤ (wrap64 (x3_1 - 1)) then (if (wrap64 (x3_1 - 1)) < (l0.length : Int) then (spec_AreClaims.j1 k1 l0 x3_1 (decide (((rd_T84 l0 (wrap64 (x3_1 - 1))).f0) ≥ ((rd_T84 l0 x3_1).f0))) ((rd_T84 l0 x3_1).f0) ((rd_T84 l0 x3_1).f1) ((rd_T84 l0 x3_1).f2) ((rd_T84 l0 x3_1).f3) ((rd_T84 l0 x3_1).f4)) else (none)) else (none)) else (spec_AreClaims.j1 k1 l0 x3_1 false ((rd_T84 l0 x3_1).f0) ((rd_T84 l0 x3_1).f1) ((rd_T84 l0 x3_1).f2) ((rd_T84 l0 x3_1).f3) ((rd_T84 l0 x3_1).f4))) else (spec_AreClaims.j1 k1 l0 x3_1 true ((rd_T84 l0 x3_1).f0) ((rd_T84 l0 x3_1).f1) ((rd_T84 l0 x3_1).f2) ((rd_T84 l0 x3_1).f3) ((rd_T84 l0 x3_1).f4)))) else (spec_AreClaims.j1 k1 l0 x3_1 true ((rd_T84 l0 x3_1).f0) ((rd_T84 l0 x3_1).f1) ((rd_T84 l0 x3_1).f2) ((rd_T84 l0 x3_1).f3) ((rd_T84 l0 x3_1).f4)))) else (spec_AreClaims.j1 k1 l0 x3_1 true ((rd_T84 l0 x3_1).f0) ((rd_T84 l0 x3_1).f1) ((rd_T84 l0 x3_1).f2) ((rd_T84 l0 x3_1).f3) ((rd_T84 l0 x3_1).f4)))) else (spec_AreClaims.j1 k1 l0 x3_1 true ((rd_T84 l0 x3_1).f0) ((rd_T84 l0 x3_1).f1) ((rd_T84 l0 x3_1).f2) ((rd_T84 l0 x3_1).f3) ((rd_T84 l0 x3_1).f4))) = some r := H
       have A9 := Aside0.mk A90
       clear A90
       by_cases c10 : t104 = true
       ·subst c10
        have H1 : ((spec_l1In.f ((rd_T84 l0 x3_1).f2) 1 999).bind fun t105 => (if t105 = true then ((spec_l1In.f ((rd_T84 l0 x3_1).f3) 0 100000).bind fun t106 => (if t106 = true then ((spec_l1In.f ((rd_T84 l0 x3_1).f4) 0 3).bind fun t107 => (if t107 = true then (if x3_1 > 0 then (if 0 ≤ (wrap64 (x3_1 - 1)) then (if (wrap64 (x3_1 - 1)) < (l0.length : Int) then (spec_AreClaims.j1 k1 l0 x3_1 (decide (((rd_T84 l0 (wrap64 (x3_1 - 1))).f0) ≥ ((rd_T84 l0 x3_1).f0))) ((rd_T84 l0 x3_1).f0) ((rd_T84 l0 x3_1).f1) ((rd_T84 l0 x3_1).f2) ((rd_T84 l0 x3_1).f3) ((rd_T84 l0 x3_1).f4)) else (none)) else (none)) else (spec_AreClaims.j1 k1 l0 x3_1 false ((rd_T84 l0 x3_1).f0) ((rd_T84 l0 x3_1).f1) ((rd_T84 l0 x3_1).f2) ((rd_T84 l0 x3_1).f3) ((rd_T84 l0 x3_1).f4))) else (spec_AreClaims.j1 k1 l0 x3_1 true ((rd_T84 l0 x3_1).f0) ((rd_T84 l0 x3_1).f1) ((rd_T84 l0 x3_1).f2) ((rd_T84 l0 x3_1).f3) ((rd_T84 l0 x3_1).f4)))) else (spec_AreClaims.j1 k1 l0 x3_1 true ((rd_T84 l0 x3_1).f0) ((rd_T84 l0 x3_1).f1) ((rd_T84 l0 x3_1).f2) ((rd_T84 l0 x3_1).f3) ((rd_T84 l0 x3_1).f4)))) else (spec_AreClaims.j1 k1 l0 x3_1 true ((rd_T84 l0 x3_1).f0) ((rd_T84 l0 x3_1).f1) ((rd_T84 l0 x3_1).f2) ((rd_T84 l0 x3_1).f3) ((rd_T84 l0 x3_1).f4)))) = some r := by rw [if_pos rfl] at H; exact H
        clear H
        have H := H1
        clear H1
        replace H := Option.bind_eq_some_iff.mp H
        obtain ⟨t105, A110, H⟩ := H
        replace H : (if t105 = true then ((spec_l1In.f ((rd_T84 l0 x3_1).f3) 0 100000).bind fun t106 => (if t106 = true then ((spec_l1In.f ((rd_T84 l0 x3_1).f4) 0 3).bind fun t107 => (if t107 = true then (if x3_1 > 0 then (if 0 ≤ (wrap64 (x3_1 - 1)) then (if (wrap64 (x3_1 - 1)) < (l0.length : Int) then (spec_AreClaims.j1 k1 l0 x3_1 (decide (((rd_T84 l0 (wrap64 (x3_1 - 1))).f0) ≥ ((rd_T84 l0 x3_1).f0))) ((rd_T84 l0 x3_1).f0) ((rd_T84 l0 x3_1).f1) ((rd_T84 l0 x3_1).f2) ((rd_T84 l0 x3_1).f3) ((rd_T84 l0 x3_1).f4)) else (none)) else (none)) else (spec_AreClaims.j1 k1 l0 x3_1 false ((rd_T84 l0 x3_1).f0) ((rd_T84 l0 x3_1).f1) ((rd_T84 l0 x3_1).f2) ((rd_T84 l0 x3_1).f3) ((rd_T84 l0 x3_1).f4))) else (spec_AreClaims.j1 k1 l0 x3_1 true ((rd_T84 l0 x3_1).f0) ((rd_T84 l0 x3_1).f1) ((rd_T84 l0 x3_1).f2) ((rd_T84 l0 x3_1).f3) ((rd_T84 l0 x3_1).f4)))) else (spec_AreClaims.j1 k1 l0 x3_1 true ((rd_T84 l0 x3_1).f0) ((rd_T84 l0 x3_1).f1) ((rd_T84 l0 x3_1).f2) ((rd_T84 l0 x3_1).f3) ((rd_T84 l0 x3_1).f4)))) else (spec_AreClaims.j1 k1 l0 x3_1 true ((rd_T84 l0 x3_1).f0) ((rd_T84 l0 x3_1).f1) ((rd_T84 l0 x3_1).f2) ((rd_T84 l0 x3_1).f3) ((rd_T84 l0 x3_1).f4))) = some r := H
        have A11 := Aside0.mk A110
        clear A110
        by_cases c12 : t105 = true
        ·subst c12
         have H1 : ((spec_l1In.f ((rd_T84 l0 x3_1).f3) 0 100000).bind fun t106 => (if t106 = true then ((spec_l1In.f ((rd_T84 l0 x3_1).f4) 0 3).bind fun t107 => (if t107 = true then (if x3_1 > 0 then (if 0 ≤ (wrap64 (x3_1 - 1)) then (if (wrap64 (x3_1 - 1)) < (l0.length : Int) then (spec_AreClaims.j1 k1 l0 x3_1 (decide (((rd_T84 l0 (wrap64 (x3_1 - 1))).f0) ≥ ((rd_T84 l0 x3_1).f0))) ((rd_T84 l0 x3_1).f0) ((rd_T84 l0 x3_1).f1) ((rd_T84 l0 x3_1).f2) ((rd_T84 l0 x3_1).f3) ((rd_T84 l0 x3_1).f4)) else (none)) else (none)) else (spec_AreClaims.j1 k1 l0 x3_1 false ((rd_T84 l0 x3_1).f0) ((rd_T84 l0 x3_1).f1) ((rd_T84 l0 x3_1).f2) ((rd_T84 l0 x3_1).f3) ((rd_T84 l0 x3_1).f4))) else (spec_AreClaims.j1 k1 l0 x3_1 true ((rd_T84 l0 x3_1).f0) ((rd_T84 l0 x3_1).f1) ((rd_T84 l0 x3_1).f2) ((rd_T84 l0 x3_1).f3) ((rd_T84 l0 x3_1).f4)))) else (spec_AreClaims.j1 k1 l0 x3_1 true ((rd_T84 l0 x3_1).f0) ((rd_T84 l0 x3_1).f1) ((rd_T84 l0 x3_1).f2) ((rd_T84 l0 x3_1).f3) ((rd_T84 l0 x3_1).f4)))) = some r := by rw [if_pos rfl] at H; exact H
         clear H
         have H := H1
         clear H1
         replace H := Option.bind_eq_some_iff.mp H
         obtain ⟨t106, A130, H⟩ := H
         replace H : (if t106 = true then ((spec_l1In.f ((rd_T84 l0 x3_1).f4) 0 3).bind fun t107 => (if t107 = true then (if x3_1 > 0 then (if 0 ≤ (wrap64 (x3_1 - 1)) then (if (wrap64 (x3_1 - 1)) < (l0.length : Int) then (spec_AreClaims.j1 k1 l0 x3_1 (decide (((rd_T84 l0 (wrap64 (x3_1 - 1))).f0) ≥ ((rd_T84 l0 x3_1).f0))) ((rd_T84 l0 x3_1).f0) ((rd_T84 l0 x3_1).f1) ((rd_T84 l0 x3_1).f2) ((rd_T84 l0 x3_1).f3) ((rd_T84 l0 x3_1).f4)) else (none)) else (none)) else (spec_AreClaims.j1 k1 l0 x3_1 false ((rd_T84 l0 x3_1).f0) ((rd_T84 l0 x3_1).f1) ((rd_T84 l0 x3_1).f2) ((rd_T84 l0 x3_1).f3) ((rd_T84 l0 x3_1).f4))) else (spec_AreClaims.j1 k1 l0 x3_1 true ((rd_T84 l0 x3_1).f0) ((rd_T84 l0 x3_1).f1) ((rd_T84 l0 x3_1).f2) ((rd_T84 l0 x3_1).f3) ((rd_T84 l0 x3_1).f4)))) else (spec_AreClaims.j1 k1 l0 x3_1 true ((rd_T84 l0 x3_1).f0) ((rd_T84 l0 x3_1).f1) ((rd_T84 l0 x3_1).f2) ((rd_T84 l0 x3_1).f3) ((rd_T84 l0 x3_1).f4))) = some r := H
         have A13 := Aside0.mk A130
         clear A130
         by_cases c14 : t106 = true
         ·subst c14
          have H1 : ((spec_l1In.f ((rd_T84 l0 x3_1).f4) 0 3).bind fun t107 => (if t107 = true then (if x3_1 > 0 then (if 0 ≤ (wrap64 (x3_1 - 1)) then (if (wrap64 (x3_1 - 1)) < (l0.length : Int) then (spec_AreClaims.j1 k1 l0 x3_1 (decide (((rd_T84 l0 (wrap64 (x3_1 - 1))).f0) ≥ ((rd_T84 l0 x3_1).f0))) ((rd_T84 l0 x3_1).f0) ((rd_T84 l0 x3_1).f1) ((rd_T84 l0 x3_1).f2) ((rd_T84 l0 x3_1).f3) ((rd_T84 l0 x3_1).f4)) else (none)) else (none)) else (spec_AreClaims.j1 k1 l0 x3_1 false ((rd_T84 l0 x3_1).f0) ((rd_T84 l0 x3_1).f1) ((rd_T84 l0 x3_1).f2) ((rd_T84 l0 x3_1).f3) ((rd_T84 l0 x3_1).f4))) else (spec_AreClaims.j1 k1 l0 x3_1 true ((rd_T84 l0 x3_1).f0) ((rd_T84 l0 x3_1).f1) ((rd_T84 l0 x3_1).f2) ((rd_T84 l0 x3_1).f3) ((rd_T84 l0 x3_1).f4)))) = some r := by rw [if_pos rfl] at H; exact H
          clear H
          have H := H1
          clear H1
          replace H := Option.bind_eq_some_iff.mp H
          obtain ⟨t107, A150, H⟩ := H
          replace H : (if t107 = true then (if x3_1 > 0 then (if 0 ≤ (wrap64 (x3_1 - 1)) then (if (wrap64 (x3_1 - 1)) < (l0.length : Int) then (spec_AreClaims.j1 k1 l0 x3_1 (decide (((rd_T84 l0 (wrap64 (x3_1 - 1))).f0) ≥ ((rd_T84 l0 x3_1).f0))) ((rd_T84 l0 x3_1).f0) ((rd_T84 l0 x3_1).f1) ((rd_T84 l0 x3_1).f2) ((rd_T84 l0 x3_1).f3) ((rd_T84 l0 x3_1).f4)) else (none)) else (none)) else (spec_AreClaims.j1 k1 l0 x3_1 false ((rd_T84 l0 x3_1).f0) ((rd_T84 l0 x3_1).f1) ((rd_T84 l0 x3_1).f2) ((rd_T84 l0 x3_1).f3) ((rd_T84 l0 x3_1).f4))) else (spec_AreClaims.j1 k1 l0 x3_1 true ((rd_T84 l0 x3_1).f0) ((rd_T84 l0 x3_1).f1) ((rd_T84 l0 x3_1).f2) ((rd_T84 l0 x3_1).f3) ((rd_T84 l0 x3_1).f4))) = some r := H
          have A15 := Aside0.mk A150
          clear A150
          by_cases c16 : t107 = true
          ·subst c16
           have H1 : (if x3_1 > 0 then (if 0 ≤ (wrap64 (x3_1 - 1)) then (if (wrap64 (x3_1 - 1)) < (l0.length : Int) then (spec_AreClaims.j1 k1 l0 x3_1 (decide (((rd_T84 l0 (wrap64 (x3_1 - 1))).f0) ≥ ((rd_T84 l0 x3_1).f0))) ((rd_T84 l0 x3_1).f0) ((rd_T84 l0 x3_1).f1) ((rd_T84 l0 x3_1).f2) ((rd_T84 l0 x3_1).f3) ((rd_T84 l0 x3_1).f4)) else (none)) else (none)) else (spec_AreClaims.j1 k1 l0 x3_1 false ((rd_T84 l0 x3_1).f0) ((rd_T84 l0 x3_1).f1) ((rd_T84 l0 x3_1).f2) ((rd_T84 l0 x3_1).f3) ((rd_T84 l0 x3_1).f4))) = some r := by rw [if_pos rfl] at H; exact H
           clear H
           have H := H1
           clear H1
           by_cases c17 : x3_1 > 0
           ·rw [if_pos c17] at H
            have c17b0 : decide (0 < x3_1) = true := decide_eq_true c17
            clear c17
            (first | rw [c17b0] | (simp only [i64_w, i32_w]; rw [c17b0]) | skip)
            obtain ⟨ji18, hji18⟩ : ∃ j_ : Int, (wrap64 (x3_1 - 1)) = j_ := ⟨_, rfl⟩
            replace H : (if 0 ≤ (ji18) then (if (ji18) < (l0.length : Int) then (spec_AreClaims.j1 k1 l0 x3_1 (decide (((rd_T84 l0 (ji18)).f0) ≥ ((rd_T84 l0 x3_1).f0))) ((rd_T84 l0 x3_1).f0) ((rd_T84 l0 x3_1).f1) ((rd_T84 l0 x3_1).f2) ((rd_T84 l0 x3_1).f3) ((rd_T84 l0 x3_1).f4)) else (none)) else (none)) = some r := by first | (rw [hji18] at H; exact H) | (simp only [hji18] at H ⊢; exact H)
            (try rw [hji18] at A7)
            (try rw [hji18] at A9)
            (try rw [hji18] at A11)
            (try rw [hji18] at A13)
            (try rw [hji18] at A15)
            have hji18w : (IntKind.i64.wrap (x3_1 - 1)) = ji18 := (i64_w _).trans hji18
            by_cases c19 : 0 ≤ (ji18)
            ·rw [if_pos c19] at H
             have c19b0 : decide (0 ≤ (ji18)) = true := decide_eq_true c19
             clear c19
             by_cases c20 : (ji18) < (l0.length : Int)
             ·rw [if_pos c20] at H
              have c20b0 : decide ((ji18) < (l0.length : Int)) = true := decide_eq_true c20
              clear c20
              have H' := Aside0.mk H
              clear H
              try go_wp2
              have n0_ : Aside0 ((((((w5.setCell ⟨gb102, 0, none⟩ (.int .i64 ((rd_T84 l0 x3_1).f0))).setCell ⟨gb102, 1, none⟩ (.int .i64 ((rd_T84 l0 x3_1).f1))).setCell ⟨gb102, 2, none⟩ (.int .i64 ((rd_T84 l0 x3_1).f2))).setCell ⟨gb102, 3, none⟩ (.int .i64 ((rd_T84 l0 x3_1).f3))).setCell ⟨gb102, 4, none⟩ (.int .i64 ((rd_T84 l0 x3_1).f4))).heap[gb102]? = some (.cells #[.int .i64 ((rd_T84 l0 x3_1).f0), .int .i64 ((rd_T84 l0 x3_1).f1), .int .i64 ((rd_T84 l0 x3_1).f2), .int .i64 ((rd_T84 l0 x3_1).f3), .int .i64 ((rd_T84 l0 x3_1).f4)] 84 (0, 0))) := ⟨by (with_reducible repeat first | refine kN ?_ _ | refine kD ?_ | refine kA ?_ _); refine blk_put (cs := #[.int .i64 ((rd_T84 l0 x3_1).f0), .int .i64 ((rd_T84 l0 x3_1).f1), .int .i64 ((rd_T84 l0 x3_1).f2), .int .i64 ((rd_T84 l0 x3_1).f3), .int .i64 0]) ?_ 4 _ rfl; (with_reducible repeat first | refine kN ?_ _ | refine kD ?_ | refine kA ?_ _); refine blk_put (cs := #[.int .i64 ((rd_T84 l0 x3_1).f0), .int .i64 ((rd_T84 l0 x3_1).f1), .int .i64 ((rd_T84 l0 x3_1).f2), .int .i64 0, .int .i64 0]) ?_ 3 _ rfl; (with_reducible repeat first | refine kN ?_ _ | refine kD ?_ | refine kA ?_ _); refine blk_put (cs := #[.int .i64 ((rd_T84 l0 x3_1).f0), .int .i64 ((rd_T84 l0 x3_1).f1), .int .i64 0, .int .i64 0, .int .i64 0]) ?_ 2 _ rfl; (with_reducible repeat first | refine kN ?_ _ | refine kD ?_ | refine kA ?_ _); refine blk_put (cs := #[.int .i64 ((rd_T84 l0 x3_1).f0), .int .i64 0, .int .i64 0, .int .i64 0, .int .i64 0]) ?_ 1 _ rfl; (with_reducible repeat first | refine kN ?_ _ | refine kD ?_ | refine kA ?_ _); refine blk_put (cs := #[.int .i64 0, .int .i64 0, .int .i64 0, .int .i64 0, .int .i64 0]) ?_ 0 _ rfl; (with_reducible repeat first | refine kN ?_ _ | refine kD ?_ | refine kA ?_ _); exact BK102.out⟩
              have n1_ : Aside0 (Below w.heap.size w (((((w5.setCell ⟨gb102, 0, none⟩ (.int .i64 ((rd_T84 l0 x3_1).f0))).setCell ⟨gb102, 1, none⟩ (.int .i64 ((rd_T84 l0 x3_1).f1))).setCell ⟨gb102, 2, none⟩ (.int .i64 ((rd_T84 l0 x3_1).f2))).setCell ⟨gb102, 3, none⟩ (.int .i64 ((rd_T84 l0 x3_1).f3))).setCell ⟨gb102, 4, none⟩ (.int .i64 ((rd_T84 l0 x3_1).f4)))) := ⟨by repeat (first | (with_reducible first | exact HB.out | apply bA | apply bN | apply bD | refine bS ?_ GE102.out) | exact HB.out)⟩
              (try clear BK102)
              (try clear HB)
              generalize (((((w5.setCell ⟨gb102, 0, none⟩ (.int .i64 ((rd_T84 l0 x3_1).f0))).setCell ⟨gb102, 1, none⟩ (.int .i64 ((rd_T84 l0 x3_1).f1))).setCell ⟨gb102, 2, none⟩ (.int .i64 ((rd_T84 l0 x3_1).f2))).setCell ⟨gb102, 3, none⟩ (.int .i64 ((rd_T84 l0 x3_1).f3))).setCell ⟨gb102, 4, none⟩ (.int .i64 ((rd_T84 l0 x3_1).f4))) = w21 at n0_ n1_ ⊢
              have BK102 := n0_
              have HB := n1_
              clear n0_ n1_
              have n0_ := Aside0.mk (blk_drew BK102.out)
              have n1_ := Aside0.mk (below_drew1 HB.out)
              clear BK102
              clear HB
              have BK102 := n0_
              have HB := n1_
              clear n0_ n1_
              have p108 : 0 ≤ ((ji18) : Int) := of_decide_eq_true ‹_›
              have q108 : (ji18) < (l0.length : Int) := of_decide_eq_true ‹_›
              obtain ⟨ad108, e108, hx108_0, hx108_1, hx108_2, hx108_3, hx108_4⟩ := at_T84 HR0.out (ji18) p108 q108
              have hw108_4 := hx108_4
              have hw108_3 := hx108_3
              have hw108_2 := hx108_2
              have hw108_1 := hx108_1
              have hw108_0 := hx108_0
              obtain rfl : ad101 = ad108 := (by injection e108)
              replace hx108_0 := (HB.out.cell (World.block_lt_of_cell? w _ hx108_0)).trans hx108_0
              replace hx108_1 := (HB.out.cell (World.block_lt_of_cell? w _ hx108_1)).trans hx108_1
              replace hx108_2 := (HB.out.cell (World.block_lt_of_cell? w _ hx108_2)).trans hx108_2
              replace hx108_3 := (HB.out.cell (World.block_lt_of_cell? w _ hx108_3)).trans hx108_3
              replace hx108_4 := (HB.out.cell (World.block_lt_of_cell? w _ hx108_4)).trans hx108_4
              replace p108 := eq_true p108
              replace q108 := eq_true q108
              refine start_ (n := 43) (S := fun w' => w'.cell? ⟨gb102, 0, none⟩ = some (.int .i64 ((rd_T84 l0 x3_1).f0)) ∧ w'.cell? ⟨gb102, 1, none⟩ = some (.int .i64 ((rd_T84 l0 x3_1).f1)) ∧ w'.cell? ⟨gb102, 2, none⟩ = some (.int .i64 ((rd_T84 l0 x3_1).f2)) ∧ w'.cell? ⟨gb102, 3, none⟩ = some (.int .i64 ((rd_T84 l0 x3_1).f3)) ∧ w'.cell? ⟨gb102, 4, none⟩ = some (.int .i64 ((rd_T84 l0 x3_1).f4)) ∧ w'.cell? (ad101.add (((ji18)).toNat * 5)) = some (.int .i64 ((rd_T84 l0 (ji18)).f0)) ∧ w'.cell? ⟨(ad101.add (((ji18)).toNat * 5)).block, (ad101.add (((ji18)).toNat * 5)).off + 1, none⟩ = some (.int .i64 ((rd_T84 l0 (ji18)).f1)) ∧ w'.cell? ⟨(ad101.add (((ji18)).toNat * 5)).block, (ad101.add (((ji18)).toNat * 5)).off + 2, none⟩ = some (.int .i64 ((rd_T84 l0 (ji18)).f2)) ∧ w'.cell? ⟨(ad101.add (((ji18)).toNat * 5)).block, (ad101.add (((ji18)).toNat * 5)).off + 3, none⟩ = some (.int .i64 ((rd_T84 l0 (ji18)).f3)) ∧ w'.cell? ⟨(ad101.add (((ji18)).toNat * 5)).block, (ad101.add (((ji18)).toNat * 5)).off + 4, none⟩ = some (.int .i64 ((rd_T84 l0 (ji18)).f4))) (ds := []) (bR [0, 43]) (by kernel_rfl) rfl rfl ⟨cC BK102 0, cC BK102 1, cC BK102 2, cC BK102 3, cC BK102 4, ((HB.out.cell (World.block_lt_of_cell? w _ hw108_0)).trans hw108_0), ((HB.out.cell (World.block_lt_of_cell? w _ hw108_1)).trans hw108_1), ((HB.out.cell (World.block_lt_of_cell? w _ hw108_2)).trans hw108_2), ((HB.out.cell (World.block_lt_of_cell? w _ hw108_3)).trans hw108_3), ((HB.out.cell (World.block_lt_of_cell? w _ hw108_4)).trans hw108_4)⟩ (fun hHeld => ?_); refine with_tabW spec_AreClaims.tab5 spec_AreClaims.bits5 (fun HT_ HW_ => ?_)
              generalize w21.drew = w22 at BK102 HB hx108_0 hx108_1 hx108_2 hx108_3 hx108_4 hHeld ⊢
              refine pP 0 16 (bR [1, 42]) rfl rfl HT_ ?_
              refine take_ (i := 1) (N := some 17) (v := ?_) (a' := ?_) (bR [2, 41]) rfl rfl (take_ofW HT_.out HW_.out (by kernel_rfl)) (fun _ _ _ h => h) (Or.inl ⟨by rfl, ?_⟩) hHeld ?_ ?_
              rotate_left; (rintro w' ⟨s0, s1, s2, s3, s4, s5, s6, s7, s8, s9⟩; go_simp; with_reducible rfl); rotate_left; (simp only [Act.put, sA, sZ, sS, i64_w]; rfl)
              refine one_ (i := 2) (N := some 18) (bR [3, 40]) rfl rfl (one_of HT_.out (by kernel_rfl)) (by decide) (fun K hK => ?_)
              refine goes_ Try.func151 (by kernel_rfl) rfl #[.int .i64 ((rd_T84 l0 x3_1).f0), .int .i64 1, .int .i64 999] (by rfl) rfl rfl (by (try simp only [mA, mC, mN]); first | done | rfl | (simp only [lD, lT]; rfl)) ?_
              with_reducible refine (spec_l1In.calls ((rd_T84 l0 x3_1).f0) 1 999 true _ A7.out).mono ?_
              rintro e w' ⟨rfl, ⟨nd, rfl⟩⟩
              refine ⟨_, rfl, ?_⟩
              refine hK.out _ _ ⟨cC BK102 0, cC BK102 1, cC BK102 2, cC BK102 3, cC BK102 4, ((HB.out.cell (World.block_lt_of_cell? w _ hw108_0)).trans hw108_0), ((HB.out.cell (World.block_lt_of_cell? w _ hw108_1)).trans hw108_1), ((HB.out.cell (World.block_lt_of_cell? w _ hw108_2)).trans hw108_2), ((HB.out.cell (World.block_lt_of_cell? w _ hw108_3)).trans hw108_3), ((HB.out.cell (World.block_lt_of_cell? w _ hw108_4)).trans hw108_4)⟩ (fun hHeld => ?_)
              clear hK K
              refine norm_ (a' := ?_) ?_ ?_
              rotate_left
              ·show Act.put _ (some 18) _ = _
               simp only [Act.put, sA, sZ, sS, i64_w]
               rfl
              refine pP 3 19 (bR [4, 39]) rfl rfl HT_ ?_
              refine pP 4 20 (bR [5, 38]) rfl rfl HT_ ?_
              refine pP 5 21 (bR [6, 37]) rfl rfl HT_ ?_
              refine take_ (i := 6) (N := some 22) (v := ?_) (a' := ?_) (bR [7, 36]) rfl rfl (take_ofW HT_.out HW_.out (by kernel_rfl)) (fun _ _ _ h => h) (Or.inl ⟨by rfl, ?_⟩) hHeld ?_ ?_
              rotate_left; (rintro w' ⟨s0, s1, s2, s3, s4, s5, s6, s7, s8, s9⟩; go_simp; with_reducible rfl); rotate_left; (simp only [Act.put, sA, sZ, sS, i64_w]; rfl)
              refine one_ (i := 7) (N := some 23) (bR [8, 35]) rfl rfl (one_of HT_.out (by kernel_rfl)) (by decide) (fun K hK => ?_)
              refine goes_ Try.func151 (by kernel_rfl) rfl #[.int .i64 ((rd_T84 l0 x3_1).f1), .int .i64 1, .int .i64 999] (by rfl) rfl rfl (by (try simp only [mA, mC, mN]); first | done | rfl | (simp only [lD, lT]; rfl)) ?_
              with_reducible refine (spec_l1In.calls ((rd_T84 l0 x3_1).f1) 1 999 true _ A9.out).mono ?_
              rintro e w' ⟨rfl, ⟨nd, rfl⟩⟩
              refine ⟨_, rfl, ?_⟩
              refine hK.out _ _ ⟨cC BK102 0, cC BK102 1, cC BK102 2, cC BK102 3, cC BK102 4, ((HB.out.cell (World.block_lt_of_cell? w _ hw108_0)).trans hw108_0), ((HB.out.cell (World.block_lt_of_cell? w _ hw108_1)).trans hw108_1), ((HB.out.cell (World.block_lt_of_cell? w _ hw108_2)).trans hw108_2), ((HB.out.cell (World.block_lt_of_cell? w _ hw108_3)).trans hw108_3), ((HB.out.cell (World.block_lt_of_cell? w _ hw108_4)).trans hw108_4)⟩ (fun hHeld => ?_)
              clear hK K
              refine norm_ (a' := ?_) ?_ ?_
              rotate_left
              ·show Act.put _ (some 23) _ = _
               simp only [Act.put, sA, sZ, sS, i64_w]
               rfl
              refine pP 8 24 (bR [9, 34]) rfl rfl HT_ ?_
              refine pP 9 25 (bR [10, 33]) rfl rfl HT_ ?_
              refine pP 10 26 (bR [11, 32]) rfl rfl HT_ ?_
              refine pP 11 27 (bR [12, 31]) rfl rfl HT_ ?_
              refine take_ (i := 12) (N := some 28) (v := ?_) (a' := ?_) (bR [13, 30]) rfl rfl (take_ofW HT_.out HW_.out (by kernel_rfl)) (fun _ _ _ h => h) (Or.inl ⟨by rfl, ?_⟩) hHeld ?_ ?_
              rotate_left; (rintro w' ⟨s0, s1, s2, s3, s4, s5, s6, s7, s8, s9⟩; go_simp; with_reducible rfl); rotate_left; (simp only [Act.put, sA, sZ, sS, i64_w]; rfl)
              refine one_ (i := 13) (N := some 29) (bR [14, 29]) rfl rfl (one_of HT_.out (by kernel_rfl)) (by decide) (fun K hK => ?_)
              refine goes_ Try.func151 (by kernel_rfl) rfl #[.int .i64 ((rd_T84 l0 x3_1).f2), .int .i64 1, .int .i64 999] (by rfl) rfl rfl (by (try simp only [mA, mC, mN]); first | done | rfl | (simp only [lD, lT]; rfl)) ?_
              with_reducible refine (spec_l1In.calls ((rd_T84 l0 x3_1).f2) 1 999 true _ A11.out).mono ?_
              rintro e w' ⟨rfl, ⟨nd, rfl⟩⟩
              refine ⟨_, rfl, ?_⟩
              refine hK.out _ _ ⟨cC BK102 0, cC BK102 1, cC BK102 2, cC BK102 3, cC BK102 4, ((HB.out.cell (World.block_lt_of_cell? w _ hw108_0)).trans hw108_0), ((HB.out.cell (World.block_lt_of_cell? w _ hw108_1)).trans hw108_1), ((HB.out.cell (World.block_lt_of_cell? w _ hw108_2)).trans hw108_2), ((HB.out.cell (World.block_lt_of_cell? w _ hw108_3)).trans hw108_3), ((HB.out.cell (World.block_lt_of_cell? w _ hw108_4)).trans hw108_4)⟩ (fun hHeld => ?_)
              clear hK K
              refine norm_ (a' := ?_) ?_ ?_
              rotate_left
              ·show Act.put _ (some 29) _ = _
               simp only [Act.put, sA, sZ, sS, i64_w]
               rfl
              refine pP 14 30 (bR [15, 28]) rfl rfl HT_ ?_
              refine pP 15 31 (bR [16, 27]) rfl rfl HT_ ?_
              refine pP 16 32 (bR [17, 26]) rfl rfl HT_ ?_
              refine pP 17 33 (bR [18, 25]) rfl rfl HT_ ?_
              refine take_ (i := 18) (N := some 34) (v := ?_) (a' := ?_) (bR [19, 24]) rfl rfl (take_ofW HT_.out HW_.out (by kernel_rfl)) (fun _ _ _ h => h) (Or.inl ⟨by rfl, ?_⟩) hHeld ?_ ?_
              rotate_left; (rintro w' ⟨s0, s1, s2, s3, s4, s5, s6, s7, s8, s9⟩; go_simp; with_reducible rfl); rotate_left; (simp only [Act.put, sA, sZ, sS, i64_w]; rfl)
              refine one_ (i := 19) (N := some 35) (bR [20, 23]) rfl rfl (one_of HT_.out (by kernel_rfl)) (by decide) (fun K hK => ?_)
              refine goes_ Try.func151 (by kernel_rfl) rfl #[.int .i64 ((rd_T84 l0 x3_1).f3), .int .i64 0, .int .i64 100000] (by rfl) rfl rfl (by (try simp only [mA, mC, mN]); first | done | rfl | (simp only [lD, lT]; rfl)) ?_
              with_reducible refine (spec_l1In.calls ((rd_T84 l0 x3_1).f3) 0 100000 true _ A13.out).mono ?_
              rintro e w' ⟨rfl, ⟨nd, rfl⟩⟩
              refine ⟨_, rfl, ?_⟩
              refine hK.out _ _ ⟨cC BK102 0, cC BK102 1, cC BK102 2, cC BK102 3, cC BK102 4, ((HB.out.cell (World.block_lt_of_cell? w _ hw108_0)).trans hw108_0), ((HB.out.cell (World.block_lt_of_cell? w _ hw108_1)).trans hw108_1), ((HB.out.cell (World.block_lt_of_cell? w _ hw108_2)).trans hw108_2), ((HB.out.cell (World.block_lt_of_cell? w _ hw108_3)).trans hw108_3), ((HB.out.cell (World.block_lt_of_cell? w _ hw108_4)).trans hw108_4)⟩ (fun hHeld => ?_)
              clear hK K
              refine norm_ (a' := ?_) ?_ ?_
              rotate_left
              ·show Act.put _ (some 35) _ = _
               simp only [Act.put, sA, sZ, sS, i64_w]
               rfl
              refine pP 20 36 (bR [21, 22]) rfl rfl HT_ ?_
              refine pP 21 37 (bR [22, 21]) rfl rfl HT_ ?_
              refine pP 22 38 (bR [23, 20]) rfl rfl HT_ ?_
              refine pP 23 39 (bR [24, 19]) rfl rfl HT_ ?_
              refine take_ (i := 24) (N := some 40) (v := ?_) (a' := ?_) (bR [25, 18]) rfl rfl (take_ofW HT_.out HW_.out (by kernel_rfl)) (fun _ _ _ h => h) (Or.inl ⟨by rfl, ?_⟩) hHeld ?_ ?_
              rotate_left; (rintro w' ⟨s0, s1, s2, s3, s4, s5, s6, s7, s8, s9⟩; go_simp; with_reducible rfl); rotate_left; (simp only [Act.put, sA, sZ, sS, i64_w]; rfl)
              refine one_ (i := 25) (N := some 41) (bR [26, 17]) rfl rfl (one_of HT_.out (by kernel_rfl)) (by decide) (fun K hK => ?_)
              refine goes_ Try.func151 (by kernel_rfl) rfl #[.int .i64 ((rd_T84 l0 x3_1).f4), .int .i64 0, .int .i64 3] (by rfl) rfl rfl (by (try simp only [mA, mC, mN]); first | done | rfl | (simp only [lD, lT]; rfl)) ?_
              with_reducible refine (spec_l1In.calls ((rd_T84 l0 x3_1).f4) 0 3 true _ A15.out).mono ?_
              rintro e w' ⟨rfl, ⟨nd, rfl⟩⟩
              refine ⟨_, rfl, ?_⟩
              refine hK.out _ _ ⟨cC BK102 0, cC BK102 1, cC BK102 2, cC BK102 3, cC BK102 4, ((HB.out.cell (World.block_lt_of_cell? w _ hw108_0)).trans hw108_0), ((HB.out.cell (World.block_lt_of_cell? w _ hw108_1)).trans hw108_1), ((HB.out.cell (World.block_lt_of_cell? w _ hw108_2)).trans hw108_2), ((HB.out.cell (World.block_lt_of_cell? w _ hw108_3)).trans hw108_3), ((HB.out.cell (World.block_lt_of_cell? w _ hw108_4)).trans hw108_4)⟩ (fun hHeld => ?_)
              clear hK K
              refine norm_ (a' := ?_) ?_ ?_
              rotate_left
              ·show Act.put _ (some 41) _ = _
               simp only [Act.put, sA, sZ, sS, i64_w]
               rfl
              refine pP 26 42 (bR [27, 16]) rfl rfl HT_ ?_
              refine pP 27 43 (bR [28, 15]) rfl rfl HT_ ?_
              refine pP 28 44 (bR [29, 14]) rfl rfl HT_ ?_
              refine pP 29 45 (bR [30, 13]) rfl rfl HT_ ?_
              refine pP 30 46 (bR [31, 12]) rfl rfl HT_ ?_
              refine pP 31 47 (bR [32, 11]) rfl rfl HT_ ?_
              refine pP 32 48 (bR [33, 10]) rfl rfl HT_ ?_
              refine pP 33 49 (bR [34, 9]) rfl rfl HT_ ?_
              refine pP 34 50 (bR [35, 8]) rfl rfl HT_ ?_
              refine pP 35 51 (bR [36, 7]) rfl rfl HT_ ?_
              refine pP 36 52 (bR [37, 6]) rfl rfl HT_ ?_
              refine pP 38 54 (bR [37, 1, 1, 4]) rfl rfl HT_ ?_
              refine take_ (i := 37) (N := some 53) (v := ?_) (a' := ?_) (bR [39, 4]) rfl rfl (take_ofW HT_.out HW_.out (by kernel_rfl)) (fun _ _ _ h => h) (Or.inl ⟨by rfl, ?_⟩) hHeld ?_ ?_
              rotate_left; (rintro w' ⟨s0, s1, s2, s3, s4, s5, s6, s7, s8, s9⟩; go_simp; with_reducible rfl); rotate_left; (simp only [Act.put, sA, sZ, sS, i64_w]; rfl)
              refine take_ (i := 39) (N := some 55) (v := ?_) (a' := ?_) (bR [40, 3]) rfl rfl (take_ofW HT_.out HW_.out (by kernel_rfl)) (fun _ _ _ h => h) (Or.inl ⟨by rfl, ?_⟩) hHeld ?_ ?_
              rotate_left; (rintro w' ⟨s0, s1, s2, s3, s4, s5, s6, s7, s8, s9⟩; go_simp; with_reducible rfl); rotate_left; (simp only [Act.put, sA, sZ, sS, i64_w]; rfl)
              refine pP 40 56 (bR [41, 2]) rfl rfl HT_ ?_
              refine pP 41 57 (bR [42, 1]) rfl rfl HT_ ?_
              refine pP 42 58 (bR [43]) rfl rfl HT_ ?_
              refine done_ (done_of HT_.out (by kernel_rfl)) ?_
              try go_wp2
              go_meet
              case rel => exact ⟨_, (decide (((rd_T84 l0 (ji18)).f0) ≥ ((rd_T84 l0 x3_1).f0))), (by first | rfl | (simp; done) | (simp only [← hji18] <;> (first | rfl | simp)) | (simp [*]; done)), H', ⟨by have := HK1.out; first | omega | exact Nat.le_refl _⟩, ⟨by (with_reducible repeat first | refine kN ?_ _ | refine kD ?_ | refine kA ?_ _); exact BK102.out⟩, ⟨by repeat (first | (with_reducible first | exact HB.out | apply bA | apply bN | apply bD | refine bS ?_ GE102.out) | exact HB.out)⟩⟩
             ·rw [if_neg c20] at H
              exact absurd H (by simp)
            ·rw [if_neg c19] at H
             exact absurd H (by simp)
           ·rw [if_neg c17] at H
            have c17b0 : decide (0 < x3_1) = false := decide_eq_false c17
            clear c17
            (first | rw [c17b0] | (simp only [i64_w, i32_w]; rw [c17b0]) | skip)
            have H' := Aside0.mk H
            clear H
            try go_wp2
            have n0_ : Aside0 ((((((w5.setCell ⟨gb102, 0, none⟩ (.int .i64 ((rd_T84 l0 x3_1).f0))).setCell ⟨gb102, 1, none⟩ (.int .i64 ((rd_T84 l0 x3_1).f1))).setCell ⟨gb102, 2, none⟩ (.int .i64 ((rd_T84 l0 x3_1).f2))).setCell ⟨gb102, 3, none⟩ (.int .i64 ((rd_T84 l0 x3_1).f3))).setCell ⟨gb102, 4, none⟩ (.int .i64 ((rd_T84 l0 x3_1).f4))).heap[gb102]? = some (.cells #[.int .i64 ((rd_T84 l0 x3_1).f0), .int .i64 ((rd_T84 l0 x3_1).f1), .int .i64 ((rd_T84 l0 x3_1).f2), .int .i64 ((rd_T84 l0 x3_1).f3), .int .i64 ((rd_T84 l0 x3_1).f4)] 84 (0, 0))) := ⟨by (with_reducible repeat first | refine kN ?_ _ | refine kD ?_ | refine kA ?_ _); refine blk_put (cs := #[.int .i64 ((rd_T84 l0 x3_1).f0), .int .i64 ((rd_T84 l0 x3_1).f1), .int .i64 ((rd_T84 l0 x3_1).f2), .int .i64 ((rd_T84 l0 x3_1).f3), .int .i64 0]) ?_ 4 _ rfl; (with_reducible repeat first | refine kN ?_ _ | refine kD ?_ | refine kA ?_ _); refine blk_put (cs := #[.int .i64 ((rd_T84 l0 x3_1).f0), .int .i64 ((rd_T84 l0 x3_1).f1), .int .i64 ((rd_T84 l0 x3_1).f2), .int .i64 0, .int .i64 0]) ?_ 3 _ rfl; (with_reducible repeat first | refine kN ?_ _ | refine kD ?_ | refine kA ?_ _); refine blk_put (cs := #[.int .i64 ((rd_T84 l0 x3_1).f0), .int .i64 ((rd_T84 l0 x3_1).f1), .int .i64 0, .int .i64 0, .int .i64 0]) ?_ 2 _ rfl; (with_reducible repeat first | refine kN ?_ _ | refine kD ?_ | refine kA ?_ _); refine blk_put (cs := #[.int .i64 ((rd_T84 l0 x3_1).f0), .int .i64 0, .int .i64 0, .int .i64 0, .int .i64 0]) ?_ 1 _ rfl; (with_reducible repeat first | refine kN ?_ _ | refine kD ?_ | refine kA ?_ _); refine blk_put (cs := #[.int .i64 0, .int .i64 0, .int .i64 0, .int .i64 0, .int .i64 0]) ?_ 0 _ rfl; (with_reducible repeat first | refine kN ?_ _ | refine kD ?_ | refine kA ?_ _); exact BK102.out⟩
            have n1_ : Aside0 (Below w.heap.size w (((((w5.setCell ⟨gb102, 0, none⟩ (.int .i64 ((rd_T84 l0 x3_1).f0))).setCell ⟨gb102, 1, none⟩ (.int .i64 ((rd_T84 l0 x3_1).f1))).setCell ⟨gb102, 2, none⟩ (.int .i64 ((rd_T84 l0 x3_1).f2))).setCell ⟨gb102, 3, none⟩ (.int .i64 ((rd_T84 l0 x3_1).f3))).setCell ⟨gb102, 4, none⟩ (.int .i64 ((rd_T84 l0 x3_1).f4)))) := ⟨by repeat (first | (with_reducible first | exact HB.out | apply bA | apply bN | apply bD | refine bS ?_ GE102.out) | exact HB.out)⟩
            (try clear BK102)
            (try clear HB)
            generalize (((((w5.setCell ⟨gb102, 0, none⟩ (.int .i64 ((rd_T84 l0 x3_1).f0))).setCell ⟨gb102, 1, none⟩ (.int .i64 ((rd_T84 l0 x3_1).f1))).setCell ⟨gb102, 2, none⟩ (.int .i64 ((rd_T84 l0 x3_1).f2))).setCell ⟨gb102, 3, none⟩ (.int .i64 ((rd_T84 l0 x3_1).f3))).setCell ⟨gb102, 4, none⟩ (.int .i64 ((rd_T84 l0 x3_1).f4))) = w23 at n0_ n1_ ⊢
            have BK102 := n0_
            have HB := n1_
            clear n0_ n1_
            have n0_ := Aside0.mk (blk_drew BK102.out)
            have n1_ := Aside0.mk (below_drew1 HB.out)
            clear BK102
            clear HB
            have BK102 := n0_
            have HB := n1_
            clear n0_ n1_
            refine start_ (n := 43) (S := fun w' => w'.cell? ⟨gb102, 0, none⟩ = some (.int .i64 ((rd_T84 l0 x3_1).f0)) ∧ w'.cell? ⟨gb102, 1, none⟩ = some (.int .i64 ((rd_T84 l0 x3_1).f1)) ∧ w'.cell? ⟨gb102, 2, none⟩ = some (.int .i64 ((rd_T84 l0 x3_1).f2)) ∧ w'.cell? ⟨gb102, 3, none⟩ = some (.int .i64 ((rd_T84 l0 x3_1).f3)) ∧ w'.cell? ⟨gb102, 4, none⟩ = some (.int .i64 ((rd_T84 l0 x3_1).f4))) (ds := []) (bR [0, 43]) (by kernel_rfl) rfl rfl ⟨cC BK102 0, cC BK102 1, cC BK102 2, cC BK102 3, cC BK102 4⟩ (fun hHeld => ?_); refine with_tabW spec_AreClaims.tab5 spec_AreClaims.bits5 (fun HT_ HW_ => ?_)
            generalize w23.drew = w24 at BK102 HB hHeld ⊢
            refine pP 0 16 (bR [1, 42]) rfl rfl HT_ ?_
            refine take_ (i := 1) (N := some 17) (v := ?_) (a' := ?_) (bR [2, 41]) rfl rfl (take_ofW HT_.out HW_.out (by kernel_rfl)) (fun _ _ _ h => h) (Or.inl ⟨by rfl, ?_⟩) hHeld ?_ ?_
            rotate_left; (rintro w' ⟨s0, s1, s2, s3, s4⟩; go_simp; with_reducible rfl); rotate_left; (simp only [Act.put, sA, sZ, sS, i64_w]; rfl)
            refine one_ (i := 2) (N := some 18) (bR [3, 40]) rfl rfl (one_of HT_.out (by kernel_rfl)) (by decide) (fun K hK => ?_)
            refine goes_ Try.func151 (by kernel_rfl) rfl #[.int .i64 ((rd_T84 l0 x3_1).f0), .int .i64 1, .int .i64 999] (by rfl) rfl rfl (by (try simp only [mA, mC, mN]); first | done | rfl | (simp only [lD, lT]; rfl)) ?_
            with_reducible refine (spec_l1In.calls ((rd_T84 l0 x3_1).f0) 1 999 true _ A7.out).mono ?_
            rintro e w' ⟨rfl, ⟨nd, rfl⟩⟩
            refine ⟨_, rfl, ?_⟩
            refine hK.out _ _ ⟨cC BK102 0, cC BK102 1, cC BK102 2, cC BK102 3, cC BK102 4⟩ (fun hHeld => ?_)
            clear hK K
            refine norm_ (a' := ?_) ?_ ?_
            rotate_left
            ·show Act.put _ (some 18) _ = _
             simp only [Act.put, sA, sZ, sS, i64_w]
             rfl
            refine pP 3 19 (bR [4, 39]) rfl rfl HT_ ?_
            refine pP 4 20 (bR [5, 38]) rfl rfl HT_ ?_
            refine pP 5 21 (bR [6, 37]) rfl rfl HT_ ?_
            refine take_ (i := 6) (N := some 22) (v := ?_) (a' := ?_) (bR [7, 36]) rfl rfl (take_ofW HT_.out HW_.out (by kernel_rfl)) (fun _ _ _ h => h) (Or.inl ⟨by rfl, ?_⟩) hHeld ?_ ?_
            rotate_left; (rintro w' ⟨s0, s1, s2, s3, s4⟩; go_simp; with_reducible rfl); rotate_left; (simp only [Act.put, sA, sZ, sS, i64_w]; rfl)
            refine one_ (i := 7) (N := some 23) (bR [8, 35]) rfl rfl (one_of HT_.out (by kernel_rfl)) (by decide) (fun K hK => ?_)
            refine goes_ Try.func151 (by kernel_rfl) rfl #[.int .i64 ((rd_T84 l0 x3_1).f1), .int .i64 1, .int .i64 999] (by rfl) rfl rfl (by (try simp only [mA, mC, mN]); first | done | rfl | (simp only [lD, lT]; rfl)) ?_
            with_reducible refine (spec_l1In.calls ((rd_T84 l0 x3_1).f1) 1 999 true _ A9.out).mono ?_
            rintro e w' ⟨rfl, ⟨nd, rfl⟩⟩
            refine ⟨_, rfl, ?_⟩
            refine hK.out _ _ ⟨cC BK102 0, cC BK102 1, cC BK102 2, cC BK102 3, cC BK102 4⟩ (fun hHeld => ?_)
            clear hK K
            refine norm_ (a' := ?_) ?_ ?_
            rotate_left
            ·show Act.put _ (some 23) _ = _
             simp only [Act.put, sA, sZ, sS, i64_w]
             rfl
            refine pP 8 24 (bR [9, 34]) rfl rfl HT_ ?_
            refine pP 9 25 (bR [10, 33]) rfl rfl HT_ ?_
            refine pP 10 26 (bR [11, 32]) rfl rfl HT_ ?_
            refine pP 11 27 (bR [12, 31]) rfl rfl HT_ ?_
            refine take_ (i := 12) (N := some 28) (v := ?_) (a' := ?_) (bR [13, 30]) rfl rfl (take_ofW HT_.out HW_.out (by kernel_rfl)) (fun _ _ _ h => h) (Or.inl ⟨by rfl, ?_⟩) hHeld ?_ ?_
            rotate_left; (rintro w' ⟨s0, s1, s2, s3, s4⟩; go_simp; with_reducible rfl); rotate_left; (simp only [Act.put, sA, sZ, sS, i64_w]; rfl)
            refine one_ (i := 13) (N := some 29) (bR [14, 29]) rfl rfl (one_of HT_.out (by kernel_rfl)) (by decide) (fun K hK => ?_)
            refine goes_ Try.func151 (by kernel_rfl) rfl #[.int .i64 ((rd_T84 l0 x3_1).f2), .int .i64 1, .int .i64 999] (by rfl) rfl rfl (by (try simp only [mA, mC, mN]); first | done | rfl | (simp only [lD, lT]; rfl)) ?_
            with_reducible refine (spec_l1In.calls ((rd_T84 l0 x3_1).f2) 1 999 true _ A11.out).mono ?_
            rintro e w' ⟨rfl, ⟨nd, rfl⟩⟩
            refine ⟨_, rfl, ?_⟩
            refine hK.out _ _ ⟨cC BK102 0, cC BK102 1, cC BK102 2, cC BK102 3, cC BK102 4⟩ (fun hHeld => ?_)
            clear hK K
            refine norm_ (a' := ?_) ?_ ?_
            rotate_left
            ·show Act.put _ (some 29) _ = _
             simp only [Act.put, sA, sZ, sS, i64_w]
             rfl
            refine pP 14 30 (bR [15, 28]) rfl rfl HT_ ?_
            refine pP 15 31 (bR [16, 27]) rfl rfl HT_ ?_
            refine pP 16 32 (bR [17, 26]) rfl rfl HT_ ?_
            refine pP 17 33 (bR [18, 25]) rfl rfl HT_ ?_
            refine take_ (i := 18) (N := some 34) (v := ?_) (a' := ?_) (bR [19, 24]) rfl rfl (take_ofW HT_.out HW_.out (by kernel_rfl)) (fun _ _ _ h => h) (Or.inl ⟨by rfl, ?_⟩) hHeld ?_ ?_
            rotate_left; (rintro w' ⟨s0, s1, s2, s3, s4⟩; go_simp; with_reducible rfl); rotate_left; (simp only [Act.put, sA, sZ, sS, i64_w]; rfl)
            refine one_ (i := 19) (N := some 35) (bR [20, 23]) rfl rfl (one_of HT_.out (by kernel_rfl)) (by decide) (fun K hK => ?_)
            refine goes_ Try.func151 (by kernel_rfl) rfl #[.int .i64 ((rd_T84 l0 x3_1).f3), .int .i64 0, .int .i64 100000] (by rfl) rfl rfl (by (try simp only [mA, mC, mN]); first | done | rfl | (simp only [lD, lT]; rfl)) ?_
            with_reducible refine (spec_l1In.calls ((rd_T84 l0 x3_1).f3) 0 100000 true _ A13.out).mono ?_
            rintro e w' ⟨rfl, ⟨nd, rfl⟩⟩
            refine ⟨_, rfl, ?_⟩
            refine hK.out _ _ ⟨cC BK102 0, cC BK102 1, cC BK102 2, cC BK102 3, cC BK102 4⟩ (fun hHeld => ?_)
            clear hK K
            refine norm_ (a' := ?_) ?_ ?_
            rotate_left
            ·show Act.put _ (some 35) _ = _
             simp only [Act.put, sA, sZ, sS, i64_w]
             rfl
            refine pP 20 36 (bR [21, 22]) rfl rfl HT_ ?_
            refine pP 21 37 (bR [22, 21]) rfl rfl HT_ ?_
            refine pP 22 38 (bR [23, 20]) rfl rfl HT_ ?_
            refine pP 23 39 (bR [24, 19]) rfl rfl HT_ ?_
            refine take_ (i := 24) (N := some 40) (v := ?_) (a' := ?_) (bR [25, 18]) rfl rfl (take_ofW HT_.out HW_.out (by kernel_rfl)) (fun _ _ _ h => h) (Or.inl ⟨by rfl, ?_⟩) hHeld ?_ ?_
            rotate_left; (rintro w' ⟨s0, s1, s2, s3, s4⟩; go_simp; with_reducible rfl); rotate_left; (simp only [Act.put, sA, sZ, sS, i64_w]; rfl)
            refine one_ (i := 25) (N := some 41) (bR [26, 17]) rfl rfl (one_of HT_.out (by kernel_rfl)) (by decide) (fun K hK => ?_)
            refine goes_ Try.func151 (by kernel_rfl) rfl #[.int .i64 ((rd_T84 l0 x3_1).f4), .int .i64 0, .int .i64 3] (by rfl) rfl rfl (by (try simp only [mA, mC, mN]); first | done | rfl | (simp only [lD, lT]; rfl)) ?_
            with_reducible refine (spec_l1In.calls ((rd_T84 l0 x3_1).f4) 0 3 true _ A15.out).mono ?_
            rintro e w' ⟨rfl, ⟨nd, rfl⟩⟩
            refine ⟨_, rfl, ?_⟩
            refine hK.out _ _ ⟨cC BK102 0, cC BK102 1, cC BK102 2, cC BK102 3, cC BK102 4⟩ (fun hHeld => ?_)
            clear hK K
            refine norm_ (a' := ?_) ?_ ?_
            rotate_left
            ·show Act.put _ (some 41) _ = _
             simp only [Act.put, sA, sZ, sS, i64_w]
             rfl
            refine pP 26 42 (bR [27, 16]) rfl rfl HT_ ?_
            refine pP 27 43 (bR [28, 15]) rfl rfl HT_ ?_
            refine pP 28 44 (bR [29, 14]) rfl rfl HT_ ?_
            refine pP 29 45 (bR [30, 13]) rfl rfl HT_ ?_
            refine pP 30 46 (bR [31, 12]) rfl rfl HT_ ?_
            refine pP 31 47 (bR [32, 11]) rfl rfl HT_ ?_
            refine pU 32 48 (bR [33, 10]) rfl rfl HT_ ?_
            refine pU 33 49 (bR [34, 9]) rfl rfl HT_ ?_
            refine pU 34 50 (bR [35, 8]) rfl rfl HT_ ?_
            refine pU 35 51 (bR [36, 7]) rfl rfl HT_ ?_
            refine pU 36 52 (bR [37, 6]) rfl rfl HT_ ?_
            refine pU 37 53 (bR [38, 5]) rfl rfl HT_ ?_
            refine pU 38 54 (bR [39, 4]) rfl rfl HT_ ?_
            refine pU 39 55 (bR [40, 3]) rfl rfl HT_ ?_
            refine pU 40 56 (bR [41, 2]) rfl rfl HT_ ?_
            refine pP 41 57 (bR [42, 1]) rfl rfl HT_ ?_
            refine pP 42 58 (bR [43]) rfl rfl HT_ ?_
            refine done_ (done_of HT_.out (by kernel_rfl)) ?_
            try go_wp2
            go_meet
            case rel => exact ⟨_, (false), (by first | rfl | (simp; done) | (simp [*]; done)), H', ⟨by have := HK1.out; first | omega | exact Nat.le_refl _⟩, ⟨by (with_reducible repeat first | refine kN ?_ _ | refine kD ?_ | refine kA ?_ _); exact BK102.out⟩, ⟨by repeat (first | (with_reducible first | exact HB.out | apply bA | apply bN | apply bD | refine bS ?_ GE102.out) | exact HB.out)⟩⟩
          ·replace c16 := Bool.eq_false_iff.mpr c16
           subst c16
           have H1 : (spec_AreClaims.j1 k1 l0 x3_1 true ((rd_T84 l0 x3_1).f0) ((rd_T84 l0 x3_1).f1) ((rd_T84 l0 x3_1).f2) ((rd_T84 l0 x3_1).f3) ((rd_T84 l0 x3_1).f4)) = some r := by rw [if_neg (show ¬ (false = true) by decide)] at H; exact H
           clear H
           have H := H1
           clear H1
           have H' := Aside0.mk H
           clear H
           try go_wp2
           have n0_ : Aside0 ((((((w5.setCell ⟨gb102, 0, none⟩ (.int .i64 ((rd_T84 l0 x3_1).f0))).setCell ⟨gb102, 1, none⟩ (.int .i64 ((rd_T84 l0 x3_1).f1))).setCell ⟨gb102, 2, none⟩ (.int .i64 ((rd_T84 l0 x3_1).f2))).setCell ⟨gb102, 3, none⟩ (.int .i64 ((rd_T84 l0 x3_1).f3))).setCell ⟨gb102, 4, none⟩ (.int .i64 ((rd_T84 l0 x3_1).f4))).heap[gb102]? = some (.cells #[.int .i64 ((rd_T84 l0 x3_1).f0), .int .i64 ((rd_T84 l0 x3_1).f1), .int .i64 ((rd_T84 l0 x3_1).f2), .int .i64 ((rd_T84 l0 x3_1).f3), .int .i64 ((rd_T84 l0 x3_1).f4)] 84 (0, 0))) := ⟨by (with_reducible repeat first | refine kN ?_ _ | refine kD ?_ | refine kA ?_ _); refine blk_put (cs := #[.int .i64 ((rd_T84 l0 x3_1).f0), .int .i64 ((rd_T84 l0 x3_1).f1), .int .i64 ((rd_T84 l0 x3_1).f2), .int .i64 ((rd_T84 l0 x3_1).f3), .int .i64 0]) ?_ 4 _ rfl; (with_reducible repeat first | refine kN ?_ _ | refine kD ?_ | refine kA ?_ _); refine blk_put (cs := #[.int .i64 ((rd_T84 l0 x3_1).f0), .int .i64 ((rd_T84 l0 x3_1).f1), .int .i64 ((rd_T84 l0 x3_1).f2), .int .i64 0, .int .i64 0]) ?_ 3 _ rfl; (with_reducible repeat first | refine kN ?_ _ | refine kD ?_ | refine kA ?_ _); refine blk_put (cs := #[.int .i64 ((rd_T84 l0 x3_1).f0), .int .i64 ((rd_T84 l0 x3_1).f1), .int .i64 0, .int .i64 0, .int .i64 0]) ?_ 2 _ rfl; (with_reducible repeat first | refine kN ?_ _ | refine kD ?_ | refine kA ?_ _); refine blk_put (cs := #[.int .i64 ((rd_T84 l0 x3_1).f0), .int .i64 0, .int .i64 0, .int .i64 0, .int .i64 0]) ?_ 1 _ rfl; (with_reducible repeat first | refine kN ?_ _ | refine kD ?_ | refine kA ?_ _); refine blk_put (cs := #[.int .i64 0, .int .i64 0, .int .i64 0, .int .i64 0, .int .i64 0]) ?_ 0 _ rfl; (with_reducible repeat first | refine kN ?_ _ | refine kD ?_ | refine kA ?_ _); exact BK102.out⟩
           have n1_ : Aside0 (Below w.heap.size w (((((w5.setCell ⟨gb102, 0, none⟩ (.int .i64 ((rd_T84 l0 x3_1).f0))).setCell ⟨gb102, 1, none⟩ (.int .i64 ((rd_T84 l0 x3_1).f1))).setCell ⟨gb102, 2, none⟩ (.int .i64 ((rd_T84 l0 x3_1).f2))).setCell ⟨gb102, 3, none⟩ (.int .i64 ((rd_T84 l0 x3_1).f3))).setCell ⟨gb102, 4, none⟩ (.int .i64 ((rd_T84 l0 x3_1).f4)))) := ⟨by repeat (first | (with_reducible first | exact HB.out | apply bA | apply bN | apply bD | refine bS ?_ GE102.out) | exact HB.out)⟩
           (try clear BK102)
           (try clear HB)
           generalize (((((w5.setCell ⟨gb102, 0, none⟩ (.int .i64 ((rd_T84 l0 x3_1).f0))).setCell ⟨gb102, 1, none⟩ (.int .i64 ((rd_T84 l0 x3_1).f1))).setCell ⟨gb102, 2, none⟩ (.int .i64 ((rd_T84 l0 x3_1).f2))).setCell ⟨gb102, 3, none⟩ (.int .i64 ((rd_T84 l0 x3_1).f3))).setCell ⟨gb102, 4, none⟩ (.int .i64 ((rd_T84 l0 x3_1).f4))) = w25 at n0_ n1_ ⊢
           have BK102 := n0_
           have HB := n1_
           clear n0_ n1_
           have n0_ := Aside0.mk (blk_drew BK102.out)
           have n1_ := Aside0.mk (below_drew1 HB.out)
           clear BK102
           clear HB
           have BK102 := n0_
           have HB := n1_
           clear n0_ n1_
           refine start_ (n := 43) (S := fun w' => w'.cell? ⟨gb102, 0, none⟩ = some (.int .i64 ((rd_T84 l0 x3_1).f0)) ∧ w'.cell? ⟨gb102, 1, none⟩ = some (.int .i64 ((rd_T84 l0 x3_1).f1)) ∧ w'.cell? ⟨gb102, 2, none⟩ = some (.int .i64 ((rd_T84 l0 x3_1).f2)) ∧ w'.cell? ⟨gb102, 3, none⟩ = some (.int .i64 ((rd_T84 l0 x3_1).f3)) ∧ w'.cell? ⟨gb102, 4, none⟩ = some (.int .i64 ((rd_T84 l0 x3_1).f4))) (ds := []) (bR [0, 43]) (by kernel_rfl) rfl rfl ⟨cC BK102 0, cC BK102 1, cC BK102 2, cC BK102 3, cC BK102 4⟩ (fun hHeld => ?_); refine with_tabW spec_AreClaims.tab5 spec_AreClaims.bits5 (fun HT_ HW_ => ?_)
           generalize w25.drew = w26 at BK102 HB hHeld ⊢
           refine pP 0 16 (bR [1, 42]) rfl rfl HT_ ?_
           refine take_ (i := 1) (N := some 17) (v := ?_) (a' := ?_) (bR [2, 41]) rfl rfl (take_ofW HT_.out HW_.out (by kernel_rfl)) (fun _ _ _ h => h) (Or.inl ⟨by rfl, ?_⟩) hHeld ?_ ?_
           rotate_left; (rintro w' ⟨s0, s1, s2, s3, s4⟩; go_simp; with_reducible rfl); rotate_left; (simp only [Act.put, sA, sZ, sS, i64_w]; rfl)
           refine one_ (i := 2) (N := some 18) (bR [3, 40]) rfl rfl (one_of HT_.out (by kernel_rfl)) (by decide) (fun K hK => ?_)
           refine goes_ Try.func151 (by kernel_rfl) rfl #[.int .i64 ((rd_T84 l0 x3_1).f0), .int .i64 1, .int .i64 999] (by rfl) rfl rfl (by (try simp only [mA, mC, mN]); first | done | rfl | (simp only [lD, lT]; rfl)) ?_
           with_reducible refine (spec_l1In.calls ((rd_T84 l0 x3_1).f0) 1 999 true _ A7.out).mono ?_
           rintro e w' ⟨rfl, ⟨nd, rfl⟩⟩
           refine ⟨_, rfl, ?_⟩
           refine hK.out _ _ ⟨cC BK102 0, cC BK102 1, cC BK102 2, cC BK102 3, cC BK102 4⟩ (fun hHeld => ?_)
           clear hK K
           refine norm_ (a' := ?_) ?_ ?_
           rotate_left
           ·show Act.put _ (some 18) _ = _
            simp only [Act.put, sA, sZ, sS, i64_w]
            rfl
           refine pP 3 19 (bR [4, 39]) rfl rfl HT_ ?_
           refine pP 4 20 (bR [5, 38]) rfl rfl HT_ ?_
           refine pP 5 21 (bR [6, 37]) rfl rfl HT_ ?_
           refine take_ (i := 6) (N := some 22) (v := ?_) (a' := ?_) (bR [7, 36]) rfl rfl (take_ofW HT_.out HW_.out (by kernel_rfl)) (fun _ _ _ h => h) (Or.inl ⟨by rfl, ?_⟩) hHeld ?_ ?_
           rotate_left; (rintro w' ⟨s0, s1, s2, s3, s4⟩; go_simp; with_reducible rfl); rotate_left; (simp only [Act.put, sA, sZ, sS, i64_w]; rfl)
           refine one_ (i := 7) (N := some 23) (bR [8, 35]) rfl rfl (one_of HT_.out (by kernel_rfl)) (by decide) (fun K hK => ?_)
           refine goes_ Try.func151 (by kernel_rfl) rfl #[.int .i64 ((rd_T84 l0 x3_1).f1), .int .i64 1, .int .i64 999] (by rfl) rfl rfl (by (try simp only [mA, mC, mN]); first | done | rfl | (simp only [lD, lT]; rfl)) ?_
           with_reducible refine (spec_l1In.calls ((rd_T84 l0 x3_1).f1) 1 999 true _ A9.out).mono ?_
           rintro e w' ⟨rfl, ⟨nd, rfl⟩⟩
           refine ⟨_, rfl, ?_⟩
           refine hK.out _ _ ⟨cC BK102 0, cC BK102 1, cC BK102 2, cC BK102 3, cC BK102 4⟩ (fun hHeld => ?_)
           clear hK K
           refine norm_ (a' := ?_) ?_ ?_
           rotate_left
           ·show Act.put _ (some 23) _ = _
            simp only [Act.put, sA, sZ, sS, i64_w]
            rfl
           refine pP 8 24 (bR [9, 34]) rfl rfl HT_ ?_
           refine pP 9 25 (bR [10, 33]) rfl rfl HT_ ?_
           refine pP 10 26 (bR [11, 32]) rfl rfl HT_ ?_
           refine pP 11 27 (bR [12, 31]) rfl rfl HT_ ?_
           refine take_ (i := 12) (N := some 28) (v := ?_) (a' := ?_) (bR [13, 30]) rfl rfl (take_ofW HT_.out HW_.out (by kernel_rfl)) (fun _ _ _ h => h) (Or.inl ⟨by rfl, ?_⟩) hHeld ?_ ?_
           rotate_left; (rintro w' ⟨s0, s1, s2, s3, s4⟩; go_simp; with_reducible rfl); rotate_left; (simp only [Act.put, sA, sZ, sS, i64_w]; rfl)
           refine one_ (i := 13) (N := some 29) (bR [14, 29]) rfl rfl (one_of HT_.out (by kernel_rfl)) (by decide) (fun K hK => ?_)
           refine goes_ Try.func151 (by kernel_rfl) rfl #[.int .i64 ((rd_T84 l0 x3_1).f2), .int .i64 1, .int .i64 999] (by rfl) rfl rfl (by (try simp only [mA, mC, mN]); first | done | rfl | (simp only [lD, lT]; rfl)) ?_
           with_reducible refine (spec_l1In.calls ((rd_T84 l0 x3_1).f2) 1 999 true _ A11.out).mono ?_
           rintro e w' ⟨rfl, ⟨nd, rfl⟩⟩
           refine ⟨_, rfl, ?_⟩
           refine hK.out _ _ ⟨cC BK102 0, cC BK102 1, cC BK102 2, cC BK102 3, cC BK102 4⟩ (fun hHeld => ?_)
           clear hK K
           refine norm_ (a' := ?_) ?_ ?_
           rotate_left
           ·show Act.put _ (some 29) _ = _
            simp only [Act.put, sA, sZ, sS, i64_w]
            rfl
           refine pP 14 30 (bR [15, 28]) rfl rfl HT_ ?_
           refine pP 15 31 (bR [16, 27]) rfl rfl HT_ ?_
           refine pP 16 32 (bR [17, 26]) rfl rfl HT_ ?_
           refine pP 17 33 (bR [18, 25]) rfl rfl HT_ ?_
           refine take_ (i := 18) (N := some 34) (v := ?_) (a' := ?_) (bR [19, 24]) rfl rfl (take_ofW HT_.out HW_.out (by kernel_rfl)) (fun _ _ _ h => h) (Or.inl ⟨by rfl, ?_⟩) hHeld ?_ ?_
           rotate_left; (rintro w' ⟨s0, s1, s2, s3, s4⟩; go_simp; with_reducible rfl); rotate_left; (simp only [Act.put, sA, sZ, sS, i64_w]; rfl)
           refine one_ (i := 19) (N := some 35) (bR [20, 23]) rfl rfl (one_of HT_.out (by kernel_rfl)) (by decide) (fun K hK => ?_)
           refine goes_ Try.func151 (by kernel_rfl) rfl #[.int .i64 ((rd_T84 l0 x3_1).f3), .int .i64 0, .int .i64 100000] (by rfl) rfl rfl (by (try simp only [mA, mC, mN]); first | done | rfl | (simp only [lD, lT]; rfl)) ?_
           with_reducible refine (spec_l1In.calls ((rd_T84 l0 x3_1).f3) 0 100000 true _ A13.out).mono ?_
           rintro e w' ⟨rfl, ⟨nd, rfl⟩⟩
           refine ⟨_, rfl, ?_⟩
           refine hK.out _ _ ⟨cC BK102 0, cC BK102 1, cC BK102 2, cC BK102 3, cC BK102 4⟩ (fun hHeld => ?_)
           clear hK K
           refine norm_ (a' := ?_) ?_ ?_
           rotate_left
           ·show Act.put _ (some 35) _ = _
            simp only [Act.put, sA, sZ, sS, i64_w]
            rfl
           refine pP 20 36 (bR [21, 22]) rfl rfl HT_ ?_
           refine pP 21 37 (bR [22, 21]) rfl rfl HT_ ?_
           refine pP 22 38 (bR [23, 20]) rfl rfl HT_ ?_
           refine pP 23 39 (bR [24, 19]) rfl rfl HT_ ?_
           refine take_ (i := 24) (N := some 40) (v := ?_) (a' := ?_) (bR [25, 18]) rfl rfl (take_ofW HT_.out HW_.out (by kernel_rfl)) (fun _ _ _ h => h) (Or.inl ⟨by rfl, ?_⟩) hHeld ?_ ?_
           rotate_left; (rintro w' ⟨s0, s1, s2, s3, s4⟩; go_simp; with_reducible rfl); rotate_left; (simp only [Act.put, sA, sZ, sS, i64_w]; rfl)
           refine one_ (i := 25) (N := some 41) (bR [26, 17]) rfl rfl (one_of HT_.out (by kernel_rfl)) (by decide) (fun K hK => ?_)
           refine goes_ Try.func151 (by kernel_rfl) rfl #[.int .i64 ((rd_T84 l0 x3_1).f4), .int .i64 0, .int .i64 3] (by rfl) rfl rfl (by (try simp only [mA, mC, mN]); first | done | rfl | (simp only [lD, lT]; rfl)) ?_
           with_reducible refine (spec_l1In.calls ((rd_T84 l0 x3_1).f4) 0 3 false _ A15.out).mono ?_
           rintro e w' ⟨rfl, ⟨nd, rfl⟩⟩
           refine ⟨_, rfl, ?_⟩
           refine hK.out _ _ ⟨cC BK102 0, cC BK102 1, cC BK102 2, cC BK102 3, cC BK102 4⟩ (fun hHeld => ?_)
           clear hK K
           refine norm_ (a' := ?_) ?_ ?_
           rotate_left
           ·show Act.put _ (some 41) _ = _
            simp only [Act.put, sA, sZ, sS, i64_w]
            rfl
           refine pP 26 42 (bR [27, 16]) rfl rfl HT_ ?_
           refine pP 27 43 (bR [28, 15]) rfl rfl HT_ ?_
           refine pP 28 44 (bR [29, 14]) rfl rfl HT_ ?_
           refine pU 29 45 (bR [30, 13]) rfl rfl HT_ ?_
           refine pU 30 46 (bR [31, 12]) rfl rfl HT_ ?_
           refine pU 31 47 (bR [32, 11]) rfl rfl HT_ ?_
           refine pU 32 48 (bR [33, 10]) rfl rfl HT_ ?_
           refine pU 33 49 (bR [34, 9]) rfl rfl HT_ ?_
           refine pU 34 50 (bR [35, 8]) rfl rfl HT_ ?_
           refine pU 35 51 (bR [36, 7]) rfl rfl HT_ ?_
           refine pU 36 52 (bR [37, 6]) rfl rfl HT_ ?_
           refine pU 37 53 (bR [38, 5]) rfl rfl HT_ ?_
           refine pU 38 54 (bR [39, 4]) rfl rfl HT_ ?_
           refine pU 39 55 (bR [40, 3]) rfl rfl HT_ ?_
           refine pU 40 56 (bR [41, 2]) rfl rfl HT_ ?_
           refine pU 41 57 (bR [42, 1]) rfl rfl HT_ ?_
           refine pP 42 58 (bR [43]) rfl rfl HT_ ?_
           refine done_ (done_of HT_.out (by kernel_rfl)) ?_
           try go_wp2
           go_meet
           case rel => exact ⟨_, (true), (by first | rfl | (simp; done) | (simp [*]; done)), H', ⟨by have := HK1.out; first | omega | exact Nat.le_refl _⟩, ⟨by (with_reducible repeat first | refine kN ?_ _ | refine kD ?_ | refine kA ?_ _); exact BK102.out⟩, ⟨by repeat (first | (with_reducible first | exact HB.out | apply bA | apply bN | apply bD | refine bS ?_ GE102.out) | exact HB.out)⟩⟩
         ·replace c14 := Bool.eq_false_iff.mpr c14
          subst c14
          have H1 : (spec_AreClaims.j1 k1 l0 x3_1 true ((rd_T84 l0 x3_1).f0) ((rd_T84 l0 x3_1).f1) ((rd_T84 l0 x3_1).f2) ((rd_T84 l0 x3_1).f3) ((rd_T84 l0 x3_1).f4)) = some r := by rw [if_neg (show ¬ (false = true) by decide)] at H; exact H
          clear H
          have H := H1
          clear H1
          have H' := Aside0.mk H
          clear H
          try go_wp2
          have n0_ : Aside0 ((((((w5.setCell ⟨gb102, 0, none⟩ (.int .i64 ((rd_T84 l0 x3_1).f0))).setCell ⟨gb102, 1, none⟩ (.int .i64 ((rd_T84 l0 x3_1).f1))).setCell ⟨gb102, 2, none⟩ (.int .i64 ((rd_T84 l0 x3_1).f2))).setCell ⟨gb102, 3, none⟩ (.int .i64 ((rd_T84 l0 x3_1).f3))).setCell ⟨gb102, 4, none⟩ (.int .i64 ((rd_T84 l0 x3_1).f4))).heap[gb102]? = some (.cells #[.int .i64 ((rd_T84 l0 x3_1).f0), .int .i64 ((rd_T84 l0 x3_1).f1), .int .i64 ((rd_T84 l0 x3_1).f2), .int .i64 ((rd_T84 l0 x3_1).f3), .int .i64 ((rd_T84 l0 x3_1).f4)] 84 (0, 0))) := ⟨by (with_reducible repeat first | refine kN ?_ _ | refine kD ?_ | refine kA ?_ _); refine blk_put (cs := #[.int .i64 ((rd_T84 l0 x3_1).f0), .int .i64 ((rd_T84 l0 x3_1).f1), .int .i64 ((rd_T84 l0 x3_1).f2), .int .i64 ((rd_T84 l0 x3_1).f3), .int .i64 0]) ?_ 4 _ rfl; (with_reducible repeat first | refine kN ?_ _ | refine kD ?_ | refine kA ?_ _); refine blk_put (cs := #[.int .i64 ((rd_T84 l0 x3_1).f0), .int .i64 ((rd_T84 l0 x3_1).f1), .int .i64 ((rd_T84 l0 x3_1).f2), .int .i64 0, .int .i64 0]) ?_ 3 _ rfl; (with_reducible repeat first | refine kN ?_ _ | refine kD ?_ | refine kA ?_ _); refine blk_put (cs := #[.int .i64 ((rd_T84 l0 x3_1).f0), .int .i64 ((rd_T84 l0 x3_1).f1), .int .i64 0, .int .i64 0, .int .i64 0]) ?_ 2 _ rfl; (with_reducible repeat first | refine kN ?_ _ | refine kD ?_ | refine kA ?_ _); refine blk_put (cs := #[.int .i64 ((rd_T84 l0 x3_1).f0), .int .i64 0, .int .i64 0, .int .i64 0, .int .i64 0]) ?_ 1 _ rfl; (with_reducible repeat first | refine kN ?_ _ | refine kD ?_ | refine kA ?_ _); refine blk_put (cs := #[.int .i64 0, .int .i64 0, .int .i64 0, .int .i64 0, .int .i64 0]) ?_ 0 _ rfl; (with_reducible repeat first | refine kN ?_ _ | refine kD ?_ | refine kA ?_ _); exact BK102.out⟩
          have n1_ : Aside0 (Below w.heap.size w (((((w5.setCell ⟨gb102, 0, none⟩ (.int .i64 ((rd_T84 l0 x3_1).f0))).setCell ⟨gb102, 1, none⟩ (.int .i64 ((rd_T84 l0 x3_1).f1))).setCell ⟨gb102, 2, none⟩ (.int .i64 ((rd_T84 l0 x3_1).f2))).setCell ⟨gb102, 3, none⟩ (.int .i64 ((rd_T84 l0 x3_1).f3))).setCell ⟨gb102, 4, none⟩ (.int .i64 ((rd_T84 l0 x3_1).f4)))) := ⟨by repeat (first | (with_reducible first | exact HB.out | apply bA | apply bN | apply bD | refine bS ?_ GE102.out) | exact HB.out)⟩
          (try clear BK102)
          (try clear HB)
          generalize (((((w5.setCell ⟨gb102, 0, none⟩ (.int .i64 ((rd_T84 l0 x3_1).f0))).setCell ⟨gb102, 1, none⟩ (.int .i64 ((rd_T84 l0 x3_1).f1))).setCell ⟨gb102, 2, none⟩ (.int .i64 ((rd_T84 l0 x3_1).f2))).setCell ⟨gb102, 3, none⟩ (.int .i64 ((rd_T84 l0 x3_1).f3))).setCell ⟨gb102, 4, none⟩ (.int .i64 ((rd_T84 l0 x3_1).f4))) = w27 at n0_ n1_ ⊢
          have BK102 := n0_
          have HB := n1_
          clear n0_ n1_
          have n0_ := Aside0.mk (blk_drew BK102.out)
          have n1_ := Aside0.mk (below_drew1 HB.out)
          clear BK102
          clear HB
          have BK102 := n0_
          have HB := n1_
          clear n0_ n1_
          refine start_ (n := 43) (S := fun w' => w'.cell? ⟨gb102, 0, none⟩ = some (.int .i64 ((rd_T84 l0 x3_1).f0)) ∧ w'.cell? ⟨gb102, 1, none⟩ = some (.int .i64 ((rd_T84 l0 x3_1).f1)) ∧ w'.cell? ⟨gb102, 2, none⟩ = some (.int .i64 ((rd_T84 l0 x3_1).f2)) ∧ w'.cell? ⟨gb102, 3, none⟩ = some (.int .i64 ((rd_T84 l0 x3_1).f3)) ∧ w'.cell? ⟨gb102, 4, none⟩ = some (.int .i64 ((rd_T84 l0 x3_1).f4))) (ds := []) (bR [0, 43]) (by kernel_rfl) rfl rfl ⟨cC BK102 0, cC BK102 1, cC BK102 2, cC BK102 3, cC BK102 4⟩ (fun hHeld => ?_); refine with_tabW spec_AreClaims.tab5 spec_AreClaims.bits5 (fun HT_ HW_ => ?_)
          generalize w27.drew = w28 at BK102 HB hHeld ⊢
          refine pP 0 16 (bR [1, 42]) rfl rfl HT_ ?_
          refine take_ (i := 1) (N := some 17) (v := ?_) (a' := ?_) (bR [2, 41]) rfl rfl (take_ofW HT_.out HW_.out (by kernel_rfl)) (fun _ _ _ h => h) (Or.inl ⟨by rfl, ?_⟩) hHeld ?_ ?_
          rotate_left; (rintro w' ⟨s0, s1, s2, s3, s4⟩; go_simp; with_reducible rfl); rotate_left; (simp only [Act.put, sA, sZ, sS, i64_w]; rfl)
          refine one_ (i := 2) (N := some 18) (bR [3, 40]) rfl rfl (one_of HT_.out (by kernel_rfl)) (by decide) (fun K hK => ?_)
          refine goes_ Try.func151 (by kernel_rfl) rfl #[.int .i64 ((rd_T84 l0 x3_1).f0), .int .i64 1, .int .i64 999] (by rfl) rfl rfl (by (try simp only [mA, mC, mN]); first | done | rfl | (simp only [lD, lT]; rfl)) ?_
          with_reducible refine (spec_l1In.calls ((rd_T84 l0 x3_1).f0) 1 999 true _ A7.out).mono ?_
          rintro e w' ⟨rfl, ⟨nd, rfl⟩⟩
          refine ⟨_, rfl, ?_⟩
          refine hK.out _ _ ⟨cC BK102 0, cC BK102 1, cC BK102 2, cC BK102 3, cC BK102 4⟩ (fun hHeld => ?_)
          clear hK K
          refine norm_ (a' := ?_) ?_ ?_
          rotate_left
          ·show Act.put _ (some 18) _ = _
           simp only [Act.put, sA, sZ, sS, i64_w]
           rfl
          refine pP 3 19 (bR [4, 39]) rfl rfl HT_ ?_
          refine pP 4 20 (bR [5, 38]) rfl rfl HT_ ?_
          refine pP 5 21 (bR [6, 37]) rfl rfl HT_ ?_
          refine take_ (i := 6) (N := some 22) (v := ?_) (a' := ?_) (bR [7, 36]) rfl rfl (take_ofW HT_.out HW_.out (by kernel_rfl)) (fun _ _ _ h => h) (Or.inl ⟨by rfl, ?_⟩) hHeld ?_ ?_
          rotate_left; (rintro w' ⟨s0, s1, s2, s3, s4⟩; go_simp; with_reducible rfl); rotate_left; (simp only [Act.put, sA, sZ, sS, i64_w]; rfl)
          refine one_ (i := 7) (N := some 23) (bR [8, 35]) rfl rfl (one_of HT_.out (by kernel_rfl)) (by decide) (fun K hK => ?_)
          refine goes_ Try.func151 (by kernel_rfl) rfl #[.int .i64 ((rd_T84 l0 x3_1).f1), .int .i64 1, .int .i64 999] (by rfl) rfl rfl (by (try simp only [mA, mC, mN]); first | done | rfl | (simp only [lD, lT]; rfl)) ?_
          with_reducible refine (spec_l1In.calls ((rd_T84 l0 x3_1).f1) 1 999 true _ A9.out).mono ?_
          rintro e w' ⟨rfl, ⟨nd, rfl⟩⟩
          refine ⟨_, rfl, ?_⟩
          refine hK.out _ _ ⟨cC BK102 0, cC BK102 1, cC BK102 2, cC BK102 3, cC BK102 4⟩ (fun hHeld => ?_)
          clear hK K
          refine norm_ (a' := ?_) ?_ ?_
          rotate_left
          ·show Act.put _ (some 23) _ = _
           simp only [Act.put, sA, sZ, sS, i64_w]
           rfl
          refine pP 8 24 (bR [9, 34]) rfl rfl HT_ ?_
          refine pP 9 25 (bR [10, 33]) rfl rfl HT_ ?_
          refine pP 10 26 (bR [11, 32]) rfl rfl HT_ ?_
          refine pP 11 27 (bR [12, 31]) rfl rfl HT_ ?_
          refine take_ (i := 12) (N := some 28) (v := ?_) (a' := ?_) (bR [13, 30]) rfl rfl (take_ofW HT_.out HW_.out (by kernel_rfl)) (fun _ _ _ h => h) (Or.inl ⟨by rfl, ?_⟩) hHeld ?_ ?_
          rotate_left; (rintro w' ⟨s0, s1, s2, s3, s4⟩; go_simp; with_reducible rfl); rotate_left; (simp only [Act.put, sA, sZ, sS, i64_w]; rfl)
          refine one_ (i := 13) (N := some 29) (bR [14, 29]) rfl rfl (one_of HT_.out (by kernel_rfl)) (by decide) (fun K hK => ?_)
          refine goes_ Try.func151 (by kernel_rfl) rfl #[.int .i64 ((rd_T84 l0 x3_1).f2), .int .i64 1, .int .i64 999] (by rfl) rfl rfl (by (try simp only [mA, mC, mN]); first | done | rfl | (simp only [lD, lT]; rfl)) ?_
          with_reducible refine (spec_l1In.calls ((rd_T84 l0 x3_1).f2) 1 999 true _ A11.out).mono ?_
          rintro e w' ⟨rfl, ⟨nd, rfl⟩⟩
          refine ⟨_, rfl, ?_⟩
          refine hK.out _ _ ⟨cC BK102 0, cC BK102 1, cC BK102 2, cC BK102 3, cC BK102 4⟩ (fun hHeld => ?_)
          clear hK K
          refine norm_ (a' := ?_) ?_ ?_
          rotate_left
          ·show Act.put _ (some 29) _ = _
           simp only [Act.put, sA, sZ, sS, i64_w]
           rfl
          refine pP 14 30 (bR [15, 28]) rfl rfl HT_ ?_
          refine pP 15 31 (bR [16, 27]) rfl rfl HT_ ?_
          refine pP 16 32 (bR [17, 26]) rfl rfl HT_ ?_
          refine pP 17 33 (bR [18, 25]) rfl rfl HT_ ?_
          refine take_ (i := 18) (N := some 34) (v := ?_) (a' := ?_) (bR [19, 24]) rfl rfl (take_ofW HT_.out HW_.out (by kernel_rfl)) (fun _ _ _ h => h) (Or.inl ⟨by rfl, ?_⟩) hHeld ?_ ?_
          rotate_left; (rintro w' ⟨s0, s1, s2, s3, s4⟩; go_simp; with_reducible rfl); rotate_left; (simp only [Act.put, sA, sZ, sS, i64_w]; rfl)
          refine one_ (i := 19) (N := some 35) (bR [20, 23]) rfl rfl (one_of HT_.out (by kernel_rfl)) (by decide) (fun K hK => ?_)
          refine goes_ Try.func151 (by kernel_rfl) rfl #[.int .i64 ((rd_T84 l0 x3_1).f3), .int .i64 0, .int .i64 100000] (by rfl) rfl rfl (by (try simp only [mA, mC, mN]); first | done | rfl | (simp only [lD, lT]; rfl)) ?_
          with_reducible refine (spec_l1In.calls ((rd_T84 l0 x3_1).f3) 0 100000 false _ A13.out).mono ?_
          rintro e w' ⟨rfl, ⟨nd, rfl⟩⟩
          refine ⟨_, rfl, ?_⟩
          refine hK.out _ _ ⟨cC BK102 0, cC BK102 1, cC BK102 2, cC BK102 3, cC BK102 4⟩ (fun hHeld => ?_)
          clear hK K
          refine norm_ (a' := ?_) ?_ ?_
          rotate_left
          ·show Act.put _ (some 35) _ = _
           simp only [Act.put, sA, sZ, sS, i64_w]
           rfl
          refine pP 20 36 (bR [21, 22]) rfl rfl HT_ ?_
          refine pP 21 37 (bR [22, 21]) rfl rfl HT_ ?_
          refine pP 22 38 (bR [23, 20]) rfl rfl HT_ ?_
          refine pU 23 39 (bR [24, 19]) rfl rfl HT_ ?_
          refine pU 24 40 (bR [25, 18]) rfl rfl HT_ ?_
          refine pU 25 41 (bR [26, 17]) rfl rfl HT_ ?_
          refine pU 26 42 (bR [27, 16]) rfl rfl HT_ ?_
          refine pP 27 43 (bR [28, 15]) rfl rfl HT_ ?_
          refine pP 28 44 (bR [29, 14]) rfl rfl HT_ ?_
          refine pU 29 45 (bR [30, 13]) rfl rfl HT_ ?_
          refine pU 30 46 (bR [31, 12]) rfl rfl HT_ ?_
          refine pU 31 47 (bR [32, 11]) rfl rfl HT_ ?_
          refine pU 32 48 (bR [33, 10]) rfl rfl HT_ ?_
          refine pU 33 49 (bR [34, 9]) rfl rfl HT_ ?_
          refine pU 34 50 (bR [35, 8]) rfl rfl HT_ ?_
          refine pU 35 51 (bR [36, 7]) rfl rfl HT_ ?_
          refine pU 36 52 (bR [37, 6]) rfl rfl HT_ ?_
          refine pU 37 53 (bR [38, 5]) rfl rfl HT_ ?_
          refine pU 38 54 (bR [39, 4]) rfl rfl HT_ ?_
          refine pU 39 55 (bR [40, 3]) rfl rfl HT_ ?_
          refine pU 40 56 (bR [41, 2]) rfl rfl HT_ ?_
          refine pU 41 57 (bR [42, 1]) rfl rfl HT_ ?_
          refine pP 42 58 (bR [43]) rfl rfl HT_ ?_
          refine done_ (done_of HT_.out (by kernel_rfl)) ?_
          try go_wp2
          go_meet
          case rel => exact ⟨_, (true), (by first | rfl | (simp; done) | (simp [*]; done)), H', ⟨by have := HK1.out; first | omega | exact Nat.le_refl _⟩, ⟨by (with_reducible repeat first | refine kN ?_ _ | refine kD ?_ | refine kA ?_ _); exact BK102.out⟩, ⟨by repeat (first | (with_reducible first | exact HB.out | apply bA | apply bN | apply bD | refine bS ?_ GE102.out) | exact HB.out)⟩⟩
        ·replace c12 := Bool.eq_false_iff.mpr c12
         subst c12
         have H1 : (spec_AreClaims.j1 k1 l0 x3_1 true ((rd_T84 l0 x3_1).f0) ((rd_T84 l0 x3_1).f1) ((rd_T84 l0 x3_1).f2) ((rd_T84 l0 x3_1).f3) ((rd_T84 l0 x3_1).f4)) = some r := by rw [if_neg (show ¬ (false = true) by decide)] at H; exact H
         clear H
         have H := H1
         clear H1
         have H' := Aside0.mk H
         clear H
         try go_wp2
         have n0_ : Aside0 ((((((w5.setCell ⟨gb102, 0, none⟩ (.int .i64 ((rd_T84 l0 x3_1).f0))).setCell ⟨gb102, 1, none⟩ (.int .i64 ((rd_T84 l0 x3_1).f1))).setCell ⟨gb102, 2, none⟩ (.int .i64 ((rd_T84 l0 x3_1).f2))).setCell ⟨gb102, 3, none⟩ (.int .i64 ((rd_T84 l0 x3_1).f3))).setCell ⟨gb102, 4, none⟩ (.int .i64 ((rd_T84 l0 x3_1).f4))).heap[gb102]? = some (.cells #[.int .i64 ((rd_T84 l0 x3_1).f0), .int .i64 ((rd_T84 l0 x3_1).f1), .int .i64 ((rd_T84 l0 x3_1).f2), .int .i64 ((rd_T84 l0 x3_1).f3), .int .i64 ((rd_T84 l0 x3_1).f4)] 84 (0, 0))) := ⟨by (with_reducible repeat first | refine kN ?_ _ | refine kD ?_ | refine kA ?_ _); refine blk_put (cs := #[.int .i64 ((rd_T84 l0 x3_1).f0), .int .i64 ((rd_T84 l0 x3_1).f1), .int .i64 ((rd_T84 l0 x3_1).f2), .int .i64 ((rd_T84 l0 x3_1).f3), .int .i64 0]) ?_ 4 _ rfl; (with_reducible repeat first | refine kN ?_ _ | refine kD ?_ | refine kA ?_ _); refine blk_put (cs := #[.int .i64 ((rd_T84 l0 x3_1).f0), .int .i64 ((rd_T84 l0 x3_1).f1), .int .i64 ((rd_T84 l0 x3_1).f2), .int .i64 0, .int .i64 0]) ?_ 3 _ rfl; (with_reducible repeat first | refine kN ?_ _ | refine kD ?_ | refine kA ?_ _); refine blk_put (cs := #[.int .i64 ((rd_T84 l0 x3_1).f0), .int .i64 ((rd_T84 l0 x3_1).f1), .int .i64 0, .int .i64 0, .int .i64 0]) ?_ 2 _ rfl; (with_reducible repeat first | refine kN ?_ _ | refine kD ?_ | refine kA ?_ _); refine blk_put (cs := #[.int .i64 ((rd_T84 l0 x3_1).f0), .int .i64 0, .int .i64 0, .int .i64 0, .int .i64 0]) ?_ 1 _ rfl; (with_reducible repeat first | refine kN ?_ _ | refine kD ?_ | refine kA ?_ _); refine blk_put (cs := #[.int .i64 0, .int .i64 0, .int .i64 0, .int .i64 0, .int .i64 0]) ?_ 0 _ rfl; (with_reducible repeat first | refine kN ?_ _ | refine kD ?_ | refine kA ?_ _); exact BK102.out⟩
         have n1_ : Aside0 (Below w.heap.size w (((((w5.setCell ⟨gb102, 0, none⟩ (.int .i64 ((rd_T84 l0 x3_1).f0))).setCell ⟨gb102, 1, none⟩ (.int .i64 ((rd_T84 l0 x3_1).f1))).setCell ⟨gb102, 2, none⟩ (.int .i64 ((rd_T84 l0 x3_1).f2))).setCell ⟨gb102, 3, none⟩ (.int .i64 ((rd_T84 l0 x3_1).f3))).setCell ⟨gb102, 4, none⟩ (.int .i64 ((rd_T84 l0 x3_1).f4)))) := ⟨by repeat (first | (with_reducible first | exact HB.out | apply bA | apply bN | apply bD | refine bS ?_ GE102.out) | exact HB.out)⟩
         (try clear BK102)
         (try clear HB)
         generalize (((((w5.setCell ⟨gb102, 0, none⟩ (.int .i64 ((rd_T84 l0 x3_1).f0))).setCell ⟨gb102, 1, none⟩ (.int .i64 ((rd_T84 l0 x3_1).f1))).setCell ⟨gb102, 2, none⟩ (.int .i64 ((rd_T84 l0 x3_1).f2))).setCell ⟨gb102, 3, none⟩ (.int .i64 ((rd_T84 l0 x3_1).f3))).setCell ⟨gb102, 4, none⟩ (.int .i64 ((rd_T84 l0 x3_1).f4))) = w29 at n0_ n1_ ⊢
         have BK102 := n0_
         have HB := n1_
         clear n0_ n1_
         have n0_ := Aside0.mk (blk_drew BK102.out)
         have n1_ := Aside0.mk (below_drew1 HB.out)
         clear BK102
         clear HB
         have BK102 := n0_
         have HB := n1_
         clear n0_ n1_
         refine start_ (n := 43) (S := fun w' => w'.cell? ⟨gb102, 0, none⟩ = some (.int .i64 ((rd_T84 l0 x3_1).f0)) ∧ w'.cell? ⟨gb102, 1, none⟩ = some (.int .i64 ((rd_T84 l0 x3_1).f1)) ∧ w'.cell? ⟨gb102, 2, none⟩ = some (.int .i64 ((rd_T84 l0 x3_1).f2)) ∧ w'.cell? ⟨gb102, 3, none⟩ = some (.int .i64 ((rd_T84 l0 x3_1).f3)) ∧ w'.cell? ⟨gb102, 4, none⟩ = some (.int .i64 ((rd_T84 l0 x3_1).f4))) (ds := []) (bR [0, 43]) (by kernel_rfl) rfl rfl ⟨cC BK102 0, cC BK102 1, cC BK102 2, cC BK102 3, cC BK102 4⟩ (fun hHeld => ?_); refine with_tabW spec_AreClaims.tab5 spec_AreClaims.bits5 (fun HT_ HW_ => ?_)
         generalize w29.drew = w30 at BK102 HB hHeld ⊢
         refine pP 0 16 (bR [1, 42]) rfl rfl HT_ ?_
         refine take_ (i := 1) (N := some 17) (v := ?_) (a' := ?_) (bR [2, 41]) rfl rfl (take_ofW HT_.out HW_.out (by kernel_rfl)) (fun _ _ _ h => h) (Or.inl ⟨by rfl, ?_⟩) hHeld ?_ ?_
         rotate_left; (rintro w' ⟨s0, s1, s2, s3, s4⟩; go_simp; with_reducible rfl); rotate_left; (simp only [Act.put, sA, sZ, sS, i64_w]; rfl)
         refine one_ (i := 2) (N := some 18) (bR [3, 40]) rfl rfl (one_of HT_.out (by kernel_rfl)) (by decide) (fun K hK => ?_)
         refine goes_ Try.func151 (by kernel_rfl) rfl #[.int .i64 ((rd_T84 l0 x3_1).f0), .int .i64 1, .int .i64 999] (by rfl) rfl rfl (by (try simp only [mA, mC, mN]); first | done | rfl | (simp only [lD, lT]; rfl)) ?_
         with_reducible refine (spec_l1In.calls ((rd_T84 l0 x3_1).f0) 1 999 true _ A7.out).mono ?_
         rintro e w' ⟨rfl, ⟨nd, rfl⟩⟩
         refine ⟨_, rfl, ?_⟩
         refine hK.out _ _ ⟨cC BK102 0, cC BK102 1, cC BK102 2, cC BK102 3, cC BK102 4⟩ (fun hHeld => ?_)
         clear hK K
         refine norm_ (a' := ?_) ?_ ?_
         rotate_left
         ·show Act.put _ (some 18) _ = _
          simp only [Act.put, sA, sZ, sS, i64_w]
          rfl
         refine pP 3 19 (bR [4, 39]) rfl rfl HT_ ?_
         refine pP 4 20 (bR [5, 38]) rfl rfl HT_ ?_
         refine pP 5 21 (bR [6, 37]) rfl rfl HT_ ?_
         refine take_ (i := 6) (N := some 22) (v := ?_) (a' := ?_) (bR [7, 36]) rfl rfl (take_ofW HT_.out HW_.out (by kernel_rfl)) (fun _ _ _ h => h) (Or.inl ⟨by rfl, ?_⟩) hHeld ?_ ?_
         rotate_left; (rintro w' ⟨s0, s1, s2, s3, s4⟩; go_simp; with_reducible rfl); rotate_left; (simp only [Act.put, sA, sZ, sS, i64_w]; rfl)
         refine one_ (i := 7) (N := some 23) (bR [8, 35]) rfl rfl (one_of HT_.out (by kernel_rfl)) (by decide) (fun K hK => ?_)
         refine goes_ Try.func151 (by kernel_rfl) rfl #[.int .i64 ((rd_T84 l0 x3_1).f1), .int .i64 1, .int .i64 999] (by rfl) rfl rfl (by (try simp only [mA, mC, mN]); first | done | rfl | (simp only [lD, lT]; rfl)) ?_
         with_reducible refine (spec_l1In.calls ((rd_T84 l0 x3_1).f1) 1 999 true _ A9.out).mono ?_
         rintro e w' ⟨rfl, ⟨nd, rfl⟩⟩
         refine ⟨_, rfl, ?_⟩
         refine hK.out _ _ ⟨cC BK102 0, cC BK102 1, cC BK102 2, cC BK102 3, cC BK102 4⟩ (fun hHeld => ?_)
         clear hK K
         refine norm_ (a' := ?_) ?_ ?_
         rotate_left
         ·show Act.put _ (some 23) _ = _
          simp only [Act.put, sA, sZ, sS, i64_w]
          rfl
         refine pP 8 24 (bR [9, 34]) rfl rfl HT_ ?_
         refine pP 9 25 (bR [10, 33]) rfl rfl HT_ ?_
         refine pP 10 26 (bR [11, 32]) rfl rfl HT_ ?_
         refine pP 11 27 (bR [12, 31]) rfl rfl HT_ ?_
         refine take_ (i := 12) (N := some 28) (v := ?_) (a' := ?_) (bR [13, 30]) rfl rfl (take_ofW HT_.out HW_.out (by kernel_rfl)) (fun _ _ _ h => h) (Or.inl ⟨by rfl, ?_⟩) hHeld ?_ ?_
         rotate_left; (rintro w' ⟨s0, s1, s2, s3, s4⟩; go_simp; with_reducible rfl); rotate_left; (simp only [Act.put, sA, sZ, sS, i64_w]; rfl)
         refine one_ (i := 13) (N := some 29) (bR [14, 29]) rfl rfl (one_of HT_.out (by kernel_rfl)) (by decide) (fun K hK => ?_)
         refine goes_ Try.func151 (by kernel_rfl) rfl #[.int .i64 ((rd_T84 l0 x3_1).f2), .int .i64 1, .int .i64 999] (by rfl) rfl rfl (by (try simp only [mA, mC, mN]); first | done | rfl | (simp only [lD, lT]; rfl)) ?_
         with_reducible refine (spec_l1In.calls ((rd_T84 l0 x3_1).f2) 1 999 false _ A11.out).mono ?_
         rintro e w' ⟨rfl, ⟨nd, rfl⟩⟩
         refine ⟨_, rfl, ?_⟩
         refine hK.out _ _ ⟨cC BK102 0, cC BK102 1, cC BK102 2, cC BK102 3, cC BK102 4⟩ (fun hHeld => ?_)
         clear hK K
         refine norm_ (a' := ?_) ?_ ?_
         rotate_left
         ·show Act.put _ (some 29) _ = _
          simp only [Act.put, sA, sZ, sS, i64_w]
          rfl
         refine pP 14 30 (bR [15, 28]) rfl rfl HT_ ?_
         refine pP 15 31 (bR [16, 27]) rfl rfl HT_ ?_
         refine pP 16 32 (bR [17, 26]) rfl rfl HT_ ?_
         refine pU 17 33 (bR [18, 25]) rfl rfl HT_ ?_
         refine pU 18 34 (bR [19, 24]) rfl rfl HT_ ?_
         refine pU 19 35 (bR [20, 23]) rfl rfl HT_ ?_
         refine pU 20 36 (bR [21, 22]) rfl rfl HT_ ?_
         refine pP 21 37 (bR [22, 21]) rfl rfl HT_ ?_
         refine pP 22 38 (bR [23, 20]) rfl rfl HT_ ?_
         refine pU 23 39 (bR [24, 19]) rfl rfl HT_ ?_
         refine pU 24 40 (bR [25, 18]) rfl rfl HT_ ?_
         refine pU 25 41 (bR [26, 17]) rfl rfl HT_ ?_
         refine pU 26 42 (bR [27, 16]) rfl rfl HT_ ?_
         refine pP 27 43 (bR [28, 15]) rfl rfl HT_ ?_
         refine pP 28 44 (bR [29, 14]) rfl rfl HT_ ?_
         refine pU 29 45 (bR [30, 13]) rfl rfl HT_ ?_
         refine pU 30 46 (bR [31, 12]) rfl rfl HT_ ?_
         refine pU 31 47 (bR [32, 11]) rfl rfl HT_ ?_
         refine pU 32 48 (bR [33, 10]) rfl rfl HT_ ?_
         refine pU 33 49 (bR [34, 9]) rfl rfl HT_ ?_
         refine pU 34 50 (bR [35, 8]) rfl rfl HT_ ?_
         refine pU 35 51 (bR [36, 7]) rfl rfl HT_ ?_
         refine pU 36 52 (bR [37, 6]) rfl rfl HT_ ?_
         refine pU 37 53 (bR [38, 5]) rfl rfl HT_ ?_
         refine pU 38 54 (bR [39, 4]) rfl rfl HT_ ?_
         refine pU 39 55 (bR [40, 3]) rfl rfl HT_ ?_
         refine pU 40 56 (bR [41, 2]) rfl rfl HT_ ?_
         refine pU 41 57 (bR [42, 1]) rfl rfl HT_ ?_
         refine pP 42 58 (bR [43]) rfl rfl HT_ ?_
         refine done_ (done_of HT_.out (by kernel_rfl)) ?_
         try go_wp2
         go_meet
         case rel => exact ⟨_, (true), (by first | rfl | (simp; done) | (simp [*]; done)), H', ⟨by have := HK1.out; first | omega | exact Nat.le_refl _⟩, ⟨by (with_reducible repeat first | refine kN ?_ _ | refine kD ?_ | refine kA ?_ _); exact BK102.out⟩, ⟨by repeat (first | (with_reducible first | exact HB.out | apply bA | apply bN | apply bD | refine bS ?_ GE102.out) | exact HB.out)⟩⟩
       ·replace c10 := Bool.eq_false_iff.mpr c10
        subst c10
        have H1 : (spec_AreClaims.j1 k1 l0 x3_1 true ((rd_T84 l0 x3_1).f0) ((rd_T84 l0 x3_1).f1) ((rd_T84 l0 x3_1).f2) ((rd_T84 l0 x3_1).f3) ((rd_T84 l0 x3_1).f4)) = some r := by rw [if_neg (show ¬ (false = true) by decide)] at H; exact H
        clear H
        have H := H1
        clear H1
        have H' := Aside0.mk H
        clear H
        try go_wp2
        have n0_ : Aside0 ((((((w5.setCell ⟨gb102, 0, none⟩ (.int .i64 ((rd_T84 l0 x3_1).f0))).setCell ⟨gb102, 1, none⟩ (.int .i64 ((rd_T84 l0 x3_1).f1))).setCell ⟨gb102, 2, none⟩ (.int .i64 ((rd_T84 l0 x3_1).f2))).setCell ⟨gb102, 3, none⟩ (.int .i64 ((rd_T84 l0 x3_1).f3))).setCell ⟨gb102, 4, none⟩ (.int .i64 ((rd_T84 l0 x3_1).f4))).heap[gb102]? = some (.cells #[.int .i64 ((rd_T84 l0 x3_1).f0), .int .i64 ((rd_T84 l0 x3_1).f1), .int .i64 ((rd_T84 l0 x3_1).f2), .int .i64 ((rd_T84 l0 x3_1).f3), .int .i64 ((rd_T84 l0 x3_1).f4)] 84 (0, 0))) := ⟨by (with_reducible repeat first | refine kN ?_ _ | refine kD ?_ | refine kA ?_ _); refine blk_put (cs := #[.int .i64 ((rd_T84 l0 x3_1).f0), .int .i64 ((rd_T84 l0 x3_1).f1), .int .i64 ((rd_T84 l0 x3_1).f2), .int .i64 ((rd_T84 l0 x3_1).f3), .int .i64 0]) ?_ 4 _ rfl; (with_reducible repeat first | refine kN ?_ _ | refine kD ?_ | refine kA ?_ _); refine blk_put (cs := #[.int .i64 ((rd_T84 l0 x3_1).f0), .int .i64 ((rd_T84 l0 x3_1).f1), .int .i64 ((rd_T84 l0 x3_1).f2), .int .i64 0, .int .i64 0]) ?_ 3 _ rfl; (with_reducible repeat first | refine kN ?_ _ | refine kD ?_ | refine kA ?_ _); refine blk_put (cs := #[.int .i64 ((rd_T84 l0 x3_1).f0), .int .i64 ((rd_T84 l0 x3_1).f1), .int .i64 0, .int .i64 0, .int .i64 0]) ?_ 2 _ rfl; (with_reducible repeat first | refine kN ?_ _ | refine kD ?_ | refine kA ?_ _); refine blk_put (cs := #[.int .i64 ((rd_T84 l0 x3_1).f0), .int .i64 0, .int .i64 0, .int .i64 0, .int .i64 0]) ?_ 1 _ rfl; (with_reducible repeat first | refine kN ?_ _ | refine kD ?_ | refine kA ?_ _); refine blk_put (cs := #[.int .i64 0, .int .i64 0, .int .i64 0, .int .i64 0, .int .i64 0]) ?_ 0 _ rfl; (with_reducible repeat first | refine kN ?_ _ | refine kD ?_ | refine kA ?_ _); exact BK102.out⟩
        have n1_ : Aside0 (Below w.heap.size w (((((w5.setCell ⟨gb102, 0, none⟩ (.int .i64 ((rd_T84 l0 x3_1).f0))).setCell ⟨gb102, 1, none⟩ (.int .i64 ((rd_T84 l0 x3_1).f1))).setCell ⟨gb102, 2, none⟩ (.int .i64 ((rd_T84 l0 x3_1).f2))).setCell ⟨gb102, 3, none⟩ (.int .i64 ((rd_T84 l0 x3_1).f3))).setCell ⟨gb102, 4, none⟩ (.int .i64 ((rd_T84 l0 x3_1).f4)))) := ⟨by repeat (first | (with_reducible first | exact HB.out | apply bA | apply bN | apply bD | refine bS ?_ GE102.out) | exact HB.out)⟩
        (try clear BK102)
        (try clear HB)
        generalize (((((w5.setCell ⟨gb102, 0, none⟩ (.int .i64 ((rd_T84 l0 x3_1).f0))).setCell ⟨gb102, 1, none⟩ (.int .i64 ((rd_T84 l0 x3_1).f1))).setCell ⟨gb102, 2, none⟩ (.int .i64 ((rd_T84 l0 x3_1).f2))).setCell ⟨gb102, 3, none⟩ (.int .i64 ((rd_T84 l0 x3_1).f3))).setCell ⟨gb102, 4, none⟩ (.int .i64 ((rd_T84 l0 x3_1).f4))) = w31 at n0_ n1_ ⊢
        have BK102 := n0_
        have HB := n1_
        clear n0_ n1_
        have n0_ := Aside0.mk (blk_drew BK102.out)
        have n1_ := Aside0.mk (below_drew1 HB.out)
        clear BK102
        clear HB
        have BK102 := n0_
        have HB := n1_
        clear n0_ n1_
        refine start_ (n := 43) (S := fun w' => w'.cell? ⟨gb102, 0, none⟩ = some (.int .i64 ((rd_T84 l0 x3_1).f0)) ∧ w'.cell? ⟨gb102, 1, none⟩ = some (.int .i64 ((rd_T84 l0 x3_1).f1)) ∧ w'.cell? ⟨gb102, 2, none⟩ = some (.int .i64 ((rd_T84 l0 x3_1).f2)) ∧ w'.cell? ⟨gb102, 3, none⟩ = some (.int .i64 ((rd_T84 l0 x3_1).f3)) ∧ w'.cell? ⟨gb102, 4, none⟩ = some (.int .i64 ((rd_T84 l0 x3_1).f4))) (ds := []) (bR [0, 43]) (by kernel_rfl) rfl rfl ⟨cC BK102 0, cC BK102 1, cC BK102 2, cC BK102 3, cC BK102 4⟩ (fun hHeld => ?_); refine with_tabW spec_AreClaims.tab5 spec_AreClaims.bits5 (fun HT_ HW_ => ?_)
        generalize w31.drew = w32 at BK102 HB hHeld ⊢
        refine pP 0 16 (bR [1, 42]) rfl rfl HT_ ?_
        refine take_ (i := 1) (N := some 17) (v := ?_) (a' := ?_) (bR [2, 41]) rfl rfl (take_ofW HT_.out HW_.out (by kernel_rfl)) (fun _ _ _ h => h) (Or.inl ⟨by rfl, ?_⟩) hHeld ?_ ?_
        rotate_left; (rintro w' ⟨s0, s1, s2, s3, s4⟩; go_simp; with_reducible rfl); rotate_left; (simp only [Act.put, sA, sZ, sS, i64_w]; rfl)
        refine one_ (i := 2) (N := some 18) (bR [3, 40]) rfl rfl (one_of HT_.out (by kernel_rfl)) (by decide) (fun K hK => ?_)
        refine goes_ Try.func151 (by kernel_rfl) rfl #[.int .i64 ((rd_T84 l0 x3_1).f0), .int .i64 1, .int .i64 999] (by rfl) rfl rfl (by (try simp only [mA, mC, mN]); first | done | rfl | (simp only [lD, lT]; rfl)) ?_
        with_reducible refine (spec_l1In.calls ((rd_T84 l0 x3_1).f0) 1 999 true _ A7.out).mono ?_
        rintro e w' ⟨rfl, ⟨nd, rfl⟩⟩
        refine ⟨_, rfl, ?_⟩
        refine hK.out _ _ ⟨cC BK102 0, cC BK102 1, cC BK102 2, cC BK102 3, cC BK102 4⟩ (fun hHeld => ?_)
        clear hK K
        refine norm_ (a' := ?_) ?_ ?_
        rotate_left
        ·show Act.put _ (some 18) _ = _
         simp only [Act.put, sA, sZ, sS, i64_w]
         rfl
        refine pP 3 19 (bR [4, 39]) rfl rfl HT_ ?_
        refine pP 4 20 (bR [5, 38]) rfl rfl HT_ ?_
        refine pP 5 21 (bR [6, 37]) rfl rfl HT_ ?_
        refine take_ (i := 6) (N := some 22) (v := ?_) (a' := ?_) (bR [7, 36]) rfl rfl (take_ofW HT_.out HW_.out (by kernel_rfl)) (fun _ _ _ h => h) (Or.inl ⟨by rfl, ?_⟩) hHeld ?_ ?_
        rotate_left; (rintro w' ⟨s0, s1, s2, s3, s4⟩; go_simp; with_reducible rfl); rotate_left; (simp only [Act.put, sA, sZ, sS, i64_w]; rfl)
        refine one_ (i := 7) (N := some 23) (bR [8, 35]) rfl rfl (one_of HT_.out (by kernel_rfl)) (by decide) (fun K hK => ?_)
        refine goes_ Try.func151 (by kernel_rfl) rfl #[.int .i64 ((rd_T84 l0 x3_1).f1), .int .i64 1, .int .i64 999] (by rfl) rfl rfl (by (try simp only [mA, mC, mN]); first | done | rfl | (simp only [lD, lT]; rfl)) ?_
        with_reducible refine (spec_l1In.calls ((rd_T84 l0 x3_1).f1) 1 999 false _ A9.out).mono ?_
        rintro e w' ⟨rfl, ⟨nd, rfl⟩⟩
        refine ⟨_, rfl, ?_⟩
        refine hK.out _ _ ⟨cC BK102 0, cC BK102 1, cC BK102 2, cC BK102 3, cC BK102 4⟩ (fun hHeld => ?_)
        clear hK K
        refine norm_ (a' := ?_) ?_ ?_
        rotate_left
        ·show Act.put _ (some 23) _ = _
         simp only [Act.put, sA, sZ, sS, i64_w]
         rfl
        refine pP 8 24 (bR [9, 34]) rfl rfl HT_ ?_
        refine pP 9 25 (bR [10, 33]) rfl rfl HT_ ?_
        refine pP 10 26 (bR [11, 32]) rfl rfl HT_ ?_
        refine pU 11 27 (bR [12, 31]) rfl rfl HT_ ?_
        refine pU 12 28 (bR [13, 30]) rfl rfl HT_ ?_
        refine pU 13 29 (bR [14, 29]) rfl rfl HT_ ?_
        refine pU 14 30 (bR [15, 28]) rfl rfl HT_ ?_
        refine pP 15 31 (bR [16, 27]) rfl rfl HT_ ?_
        refine pP 16 32 (bR [17, 26]) rfl rfl HT_ ?_
        refine pU 17 33 (bR [18, 25]) rfl rfl HT_ ?_
        refine pU 18 34 (bR [19, 24]) rfl rfl HT_ ?_
        refine pU 19 35 (bR [20, 23]) rfl rfl HT_ ?_
        refine pU 20 36 (bR [21, 22]) rfl rfl HT_ ?_
        refine pP 21 37 (bR [22, 21]) rfl rfl HT_ ?_
        refine pP 22 38 (bR [23, 20]) rfl rfl HT_ ?_
        refine pU 23 39 (bR [24, 19]) rfl rfl HT_ ?_
        refine pU 24 40 (bR [25, 18]) rfl rfl HT_ ?_
        refine pU 25 41 (bR [26, 17]) rfl rfl HT_ ?_
        refine pU 26 42 (bR [27, 16]) rfl rfl HT_ ?_
        refine pP 27 43 (bR [28, 15]) rfl rfl HT_ ?_
        refine pP 28 44 (bR [29, 14]) rfl rfl HT_ ?_
        refine pU 29 45 (bR [30, 13]) rfl rfl HT_ ?_
        refine pU 30 46 (bR [31, 12]) rfl rfl HT_ ?_
        refine pU 31 47 (bR [32, 11]) rfl rfl HT_ ?_
        refine pU 32 48 (bR [33, 10]) rfl rfl HT_ ?_
        refine pU 33 49 (bR [34, 9]) rfl rfl HT_ ?_
        refine pU 34 50 (bR [35, 8]) rfl rfl HT_ ?_
        refine pU 35 51 (bR [36, 7]) rfl rfl HT_ ?_
        refine pU 36 52 (bR [37, 6]) rfl rfl HT_ ?_
        refine pU 37 53 (bR [38, 5]) rfl rfl HT_ ?_
        refine pU 38 54 (bR [39, 4]) rfl rfl HT_ ?_
        refine pU 39 55 (bR [40, 3]) rfl rfl HT_ ?_
        refine pU 40 56 (bR [41, 2]) rfl rfl HT_ ?_
        refine pU 41 57 (bR [42, 1]) rfl rfl HT_ ?_
        refine pP 42 58 (bR [43]) rfl rfl HT_ ?_
        refine done_ (done_of HT_.out (by kernel_rfl)) ?_
        try go_wp2
        go_meet
        case rel => exact ⟨_, (true), (by first | rfl | (simp; done) | (simp [*]; done)), H', ⟨by have := HK1.out; first | omega | exact Nat.le_refl _⟩, ⟨by (with_reducible repeat first | refine kN ?_ _ | refine kD ?_ | refine kA ?_ _); exact BK102.out⟩, ⟨by repeat (first | (with_reducible first | exact HB.out | apply bA | apply bN | apply bD | refine bS ?_ GE102.out) | exact HB.out)⟩⟩
      ·replace c8 := Bool.eq_false_iff.mpr c8
       subst c8
       have H1 : (spec_AreClaims.j1 k1 l0 x3_1 true ((rd_T84 l0 x3_1).f0) ((rd_T84 l0 x3_1).f1) ((rd_T84 l0 x3_1).f2) ((rd_T84 l0 x3_1).f3) ((rd_T84 l0 x3_1).f4)) = some r := by rw [if_neg (show ¬ (false = true) by decide)] at H; exact H
       clear H
       have H := H1
       clear H1
       have H' := Aside0.mk H
       clear H
       try go_wp2
       have n0_ : Aside0 ((((((w5.setCell ⟨gb102, 0, none⟩ (.int .i64 ((rd_T84 l0 x3_1).f0))).setCell ⟨gb102, 1, none⟩ (.int .i64 ((rd_T84 l0 x3_1).f1))).setCell ⟨gb102, 2, none⟩ (.int .i64 ((rd_T84 l0 x3_1).f2))).setCell ⟨gb102, 3, none⟩ (.int .i64 ((rd_T84 l0 x3_1).f3))).setCell ⟨gb102, 4, none⟩ (.int .i64 ((rd_T84 l0 x3_1).f4))).heap[gb102]? = some (.cells #[.int .i64 ((rd_T84 l0 x3_1).f0), .int .i64 ((rd_T84 l0 x3_1).f1), .int .i64 ((rd_T84 l0 x3_1).f2), .int .i64 ((rd_T84 l0 x3_1).f3), .int .i64 ((rd_T84 l0 x3_1).f4)] 84 (0, 0))) := ⟨by (with_reducible repeat first | refine kN ?_ _ | refine kD ?_ | refine kA ?_ _); refine blk_put (cs := #[.int .i64 ((rd_T84 l0 x3_1).f0), .int .i64 ((rd_T84 l0 x3_1).f1), .int .i64 ((rd_T84 l0 x3_1).f2), .int .i64 ((rd_T84 l0 x3_1).f3), .int .i64 0]) ?_ 4 _ rfl; (with_reducible repeat first | refine kN ?_ _ | refine kD ?_ | refine kA ?_ _); refine blk_put (cs := #[.int .i64 ((rd_T84 l0 x3_1).f0), .int .i64 ((rd_T84 l0 x3_1).f1), .int .i64 ((rd_T84 l0 x3_1).f2), .int .i64 0, .int .i64 0]) ?_ 3 _ rfl; (with_reducible repeat first | refine kN ?_ _ | refine kD ?_ | refine kA ?_ _); refine blk_put (cs := #[.int .i64 ((rd_T84 l0 x3_1).f0), .int .i64 ((rd_T84 l0 x3_1).f1), .int .i64 0, .int .i64 0, .int .i64 0]) ?_ 2 _ rfl; (with_reducible repeat first | refine kN ?_ _ | refine kD ?_ | refine kA ?_ _); refine blk_put (cs := #[.int .i64 ((rd_T84 l0 x3_1).f0), .int .i64 0, .int .i64 0, .int .i64 0, .int .i64 0]) ?_ 1 _ rfl; (with_reducible repeat first | refine kN ?_ _ | refine kD ?_ | refine kA ?_ _); refine blk_put (cs := #[.int .i64 0, .int .i64 0, .int .i64 0, .int .i64 0, .int .i64 0]) ?_ 0 _ rfl; (with_reducible repeat first | refine kN ?_ _ | refine kD ?_ | refine kA ?_ _); exact BK102.out⟩
       have n1_ : Aside0 (Below w.heap.size w (((((w5.setCell ⟨gb102, 0, none⟩ (.int .i64 ((rd_T84 l0 x3_1).f0))).setCell ⟨gb102, 1, none⟩ (.int .i64 ((rd_T84 l0 x3_1).f1))).setCell ⟨gb102, 2, none⟩ (.int .i64 ((rd_T84 l0 x3_1).f2))).setCell ⟨gb102, 3, none⟩ (.int .i64 ((rd_T84 l0 x3_1).f3))).setCell ⟨gb102, 4, none⟩ (.int .i64 ((rd_T84 l0 x3_1).f4)))) := ⟨by repeat (first | (with_reducible first | exact HB.out | apply bA | apply bN | apply bD | refine bS ?_ GE102.out) | exact HB.out)⟩
       (try clear BK102)
       (try clear HB)
       generalize (((((w5.setCell ⟨gb102, 0, none⟩ (.int .i64 ((rd_T84 l0 x3_1).f0))).setCell ⟨gb102, 1, none⟩ (.int .i64 ((rd_T84 l0 x3_1).f1))).setCell ⟨gb102, 2, none⟩ (.int .i64 ((rd_T84 l0 x3_1).f2))).setCell ⟨gb102, 3, none⟩ (.int .i64 ((rd_T84 l0 x3_1).f3))).setCell ⟨gb102, 4, none⟩ (.int .i64 ((rd_T84 l0 x3_1).f4))) = w33 at n0_ n1_ ⊢
       have BK102 := n0_
       have HB := n1_
       clear n0_ n1_
       have n0_ := Aside0.mk (blk_drew BK102.out)
       have n1_ := Aside0.mk (below_drew1 HB.out)
       clear BK102
       clear HB
       have BK102 := n0_
       have HB := n1_
       clear n0_ n1_
       refine start_ (n := 43) (S := fun w' => w'.cell? ⟨gb102, 0, none⟩ = some (.int .i64 ((rd_T84 l0 x3_1).f0)) ∧ w'.cell? ⟨gb102, 1, none⟩ = some (.int .i64 ((rd_T84 l0 x3_1).f1)) ∧ w'.cell? ⟨gb102, 2, none⟩ = some (.int .i64 ((rd_T84 l0 x3_1).f2)) ∧ w'.cell? ⟨gb102, 3, none⟩ = some (.int .i64 ((rd_T84 l0 x3_1).f3)) ∧ w'.cell? ⟨gb102, 4, none⟩ = some (.int .i64 ((rd_T84 l0 x3_1).f4))) (ds := []) (bR [0, 43]) (by kernel_rfl) rfl rfl ⟨cC BK102 0, cC BK102 1, cC BK102 2, cC BK102 3, cC BK102 4⟩ (fun hHeld => ?_); refine with_tabW spec_AreClaims.tab5 spec_AreClaims.bits5 (fun HT_ HW_ => ?_)
       generalize w33.drew = w34 at BK102 HB hHeld ⊢
       refine pP 0 16 (bR [1, 42]) rfl rfl HT_ ?_
       refine take_ (i := 1) (N := some 17) (v := ?_) (a' := ?_) (bR [2, 41]) rfl rfl (take_ofW HT_.out HW_.out (by kernel_rfl)) (fun _ _ _ h => h) (Or.inl ⟨by rfl, ?_⟩) hHeld ?_ ?_
       rotate_left; (rintro w' ⟨s0, s1, s2, s3, s4⟩; go_simp; with_reducible rfl); rotate_left; (simp only [Act.put, sA, sZ, sS, i64_w]; rfl)
       refine one_ (i := 2) (N := some 18) (bR [3, 40]) rfl rfl (one_of HT_.out (by kernel_rfl)) (by decide) (fun K hK => ?_)
       refine goes_ Try.func151 (by kernel_rfl) rfl #[.int .i64 ((rd_T84 l0 x3_1).f0), .int .i64 1, .int .i64 999] (by rfl) rfl rfl (by (try simp only [mA, mC, mN]); first | done | rfl | (simp only [lD, lT]; rfl)) ?_
       with_reducible refine (spec_l1In.calls ((rd_T84 l0 x3_1).f0) 1 999 false _ A7.out).mono ?_
       rintro e w' ⟨rfl, ⟨nd, rfl⟩⟩
       refine ⟨_, rfl, ?_⟩
       refine hK.out _ _ ⟨cC BK102 0, cC BK102 1, cC BK102 2, cC BK102 3, cC BK102 4⟩ (fun hHeld => ?_)
       clear hK K
       refine norm_ (a' := ?_) ?_ ?_
       rotate_left
       ·show Act.put _ (some 18) _ = _
        simp only [Act.put, sA, sZ, sS, i64_w]
        rfl
       refine pP 3 19 (bR [4, 39]) rfl rfl HT_ ?_
       refine pP 4 20 (bR [5, 38]) rfl rfl HT_ ?_
       refine pU 5 21 (bR [6, 37]) rfl rfl HT_ ?_
       refine pU 6 22 (bR [7, 36]) rfl rfl HT_ ?_
       refine pU 7 23 (bR [8, 35]) rfl rfl HT_ ?_
       refine pU 8 24 (bR [9, 34]) rfl rfl HT_ ?_
       refine pP 9 25 (bR [10, 33]) rfl rfl HT_ ?_
       refine pP 10 26 (bR [11, 32]) rfl rfl HT_ ?_
       refine pU 11 27 (bR [12, 31]) rfl rfl HT_ ?_
       refine pU 12 28 (bR [13, 30]) rfl rfl HT_ ?_
       refine pU 13 29 (bR [14, 29]) rfl rfl HT_ ?_
       refine pU 14 30 (bR [15, 28]) rfl rfl HT_ ?_
       refine pP 15 31 (bR [16, 27]) rfl rfl HT_ ?_
       refine pP 16 32 (bR [17, 26]) rfl rfl HT_ ?_
       refine pU 17 33 (bR [18, 25]) rfl rfl HT_ ?_
       refine pU 18 34 (bR [19, 24]) rfl rfl HT_ ?_
       refine pU 19 35 (bR [20, 23]) rfl rfl HT_ ?_
       refine pU 20 36 (bR [21, 22]) rfl rfl HT_ ?_
       refine pP 21 37 (bR [22, 21]) rfl rfl HT_ ?_
       refine pP 22 38 (bR [23, 20]) rfl rfl HT_ ?_
       refine pU 23 39 (bR [24, 19]) rfl rfl HT_ ?_
       refine pU 24 40 (bR [25, 18]) rfl rfl HT_ ?_
       refine pU 25 41 (bR [26, 17]) rfl rfl HT_ ?_
       refine pU 26 42 (bR [27, 16]) rfl rfl HT_ ?_
       refine pP 27 43 (bR [28, 15]) rfl rfl HT_ ?_
       refine pP 28 44 (bR [29, 14]) rfl rfl HT_ ?_
       refine pU 29 45 (bR [30, 13]) rfl rfl HT_ ?_
       refine pU 30 46 (bR [31, 12]) rfl rfl HT_ ?_
       refine pU 31 47 (bR [32, 11]) rfl rfl HT_ ?_
       refine pU 32 48 (bR [33, 10]) rfl rfl HT_ ?_
       refine pU 33 49 (bR [34, 9]) rfl rfl HT_ ?_
       refine pU 34 50 (bR [35, 8]) rfl rfl HT_ ?_
       refine pU 35 51 (bR [36, 7]) rfl rfl HT_ ?_
       refine pU 36 52 (bR [37, 6]) rfl rfl HT_ ?_
       refine pU 37 53 (bR [38, 5]) rfl rfl HT_ ?_
       refine pU 38 54 (bR [39, 4]) rfl rfl HT_ ?_
       refine pU 39 55 (bR [40, 3]) rfl rfl HT_ ?_
       refine pU 40 56 (bR [41, 2]) rfl rfl HT_ ?_
       refine pU 41 57 (bR [42, 1]) rfl rfl HT_ ?_
       refine pP 42 58 (bR [43]) rfl rfl HT_ ?_
       refine done_ (done_of HT_.out (by kernel_rfl)) ?_
       try go_wp2
       go_meet
       case rel => exact ⟨_, (true), (by first | rfl | (simp; done) | (simp [*]; done)), H', ⟨by have := HK1.out; first | omega | exact Nat.le_refl _⟩, ⟨by (with_reducible repeat first | refine kN ?_ _ | refine kD ?_ | refine kA ?_ _); exact BK102.out⟩, ⟨by repeat (first | (with_reducible first | exact HB.out | apply bA | apply bN | apply bD | refine bS ?_ GE102.out) | exact HB.out)⟩⟩
     case rest =>
      clear HC4
      try clear c1
      try clear p2
      try clear c8
      try clear c10
      try clear c15
      obtain ⟨kq, x58_3, rfl, HA, HJ3, BK102, HB⟩ := hcut
      cases kq with
      | zero => exact absurd HA.out (by simp [spec_AreClaims.j1])
      | succ kj3 =>
       have H := HA.out
       clear HA
       simp only [spec_AreClaims.j1] at H
       by_cases c35 : x58_3 = true
       ·subst c35
        have H1 : (some false) = some r := by rw [if_pos rfl] at H; exact H
        clear H
        have H := H1
        clear H1
        obtain rfl := Option.some.inj H
        go_wp2
        go_ret
        exact ⟨by first | rfl | (simp [errW_none, errW_some] <;> rfl) | (simp [*, errW_none, errW_some] <;> rfl), by repeat (first | (with_reducible first | exact HB.out | apply bA | apply bN | apply bD | refine bS ?_ GE102.out) | exact HB.out)⟩
       ·replace c35 := Bool.eq_false_iff.mpr c35
        subst c35
        have H1 : (spec_AreClaims.l1 kj3 l0 x3_1 0 ((rd_T84 l0 x3_1).f0) ((rd_T84 l0 x3_1).f1) ((rd_T84 l0 x3_1).f2) ((rd_T84 l0 x3_1).f3) ((rd_T84 l0 x3_1).f4)) = some r := by rw [if_neg (show ¬ (false = true) by decide)] at H; exact H
        clear H
        have H := H1
        clear H1
        have H' := Aside0.mk H
        clear H
        go_wp2
        go_loopg [5] kj3 (fun kq v5 w' => ∃ (x5_3 : Int), v5 = .int .i64 x5_3 ∧ Aside0 (spec_AreClaims.l1 kq l0 x3_1 x5_3 ((rd_T84 l0 x3_1).f0) ((rd_T84 l0 x3_1).f1) ((rd_T84 l0 x3_1).f2) ((rd_T84 l0 x3_1).f3) ((rd_T84 l0 x3_1).f4) = some r) ∧ Aside0 (kq ≤ kj3) ∧ Aside0 (w'.heap[gb102]? = some (.cells #[.int .i64 ((rd_T84 l0 x3_1).f0), .int .i64 ((rd_T84 l0 x3_1).f1), .int .i64 ((rd_T84 l0 x3_1).f2), .int .i64 ((rd_T84 l0 x3_1).f3), .int .i64 ((rd_T84 l0 x3_1).f4)] 84 (0, 0))) ∧ Aside0 (Below w.heap.size w w'))
        case atStart => exact ⟨(0), (by first | rfl | (simp; done) | (simp [*]; done)), H', ⟨Nat.le_refl _⟩, ⟨by (with_reducible repeat first | refine kN ?_ _ | refine kD ?_ | refine kA ?_ _); exact BK102.out⟩, ⟨by repeat (first | (with_reducible first | exact HB.out | apply bA | apply bN | apply bD | refine bS ?_ GE102.out) | exact HB.out)⟩⟩
        case round =>
         clear H'
         try clear c1
         try clear p2
         try clear c3
         try clear c8
         try clear c10
         try clear c15
         try clear c35
         try clear p2
         obtain ⟨x5_3, rfl, HA, HK3, BK102, HB⟩ := hrel
         cases gk with
         | zero => exact absurd HA.out (by simp [spec_AreClaims.l1])
         | succ k3 =>
          have H := HA.out
          clear HA
          simp only [spec_AreClaims.l1] at H
          by_cases c36 : x5_3 < x3_1
          ·rw [if_pos c36] at H
           have c36b0 : decide (x5_3 < x3_1) = true := decide_eq_true c36
           clear c36
           by_cases c37 : ((rd_T84 l0 x3_1).f4) = 3
           ·rw [if_pos c37] at H
            have c37b0 : (((rd_T84 l0 x3_1).f4) == 3) = true := beq_iff_eq.mpr c37
            have c37b1 : (((rd_T84 l0 x3_1).f4) != 3) = false := bne_eq_false_iff_eq.mpr c37
            clear c37
            by_cases c38 : 0 ≤ x5_3
            ·rw [if_pos c38] at H
             have c38b0 : decide (0 ≤ x5_3) = true := decide_eq_true c38
             clear c38
             by_cases c39 : x5_3 < (l0.length : Int)
             ·rw [if_pos c39] at H
              have c39b0 : decide (x5_3 < (l0.length : Int)) = true := decide_eq_true c39
              clear c39
              by_cases c40 : ((rd_T84 l0 x5_3).f4) = 3
              ·rw [if_pos c40] at H
               have c40b0 : (((rd_T84 l0 x5_3).f4) == 3) = true := beq_iff_eq.mpr c40
               have c40b1 : (((rd_T84 l0 x5_3).f4) != 3) = false := bne_eq_false_iff_eq.mpr c40
               clear c40
               by_cases c41 : ((rd_T84 l0 x5_3).f2) = ((rd_T84 l0 x3_1).f2)
               ·rw [if_pos c41] at H
                have c41b0 : (((rd_T84 l0 x5_3).f2) == ((rd_T84 l0 x3_1).f2)) = true := beq_iff_eq.mpr c41
                have c41b1 : (((rd_T84 l0 x5_3).f2) != ((rd_T84 l0 x3_1).f2)) = false := bne_eq_false_iff_eq.mpr c41
                clear c41
                obtain rfl := Option.some.inj H
                try go_wp2
                have n0_ := Aside0.mk (blk_drew BK102.out)
                have n1_ := Aside0.mk (below_drew1 HB.out)
                clear BK102
                clear HB
                have BK102 := n0_
                have HB := n1_
                clear n0_ n1_
                have p109 : 0 ≤ (x5_3 : Int) := of_decide_eq_true ‹_›
                have q109 : x5_3 < (l0.length : Int) := of_decide_eq_true ‹_›
                obtain ⟨ad109, e109, hx109_0, hx109_1, hx109_2, hx109_3, hx109_4⟩ := at_T84 HR0.out x5_3 p109 q109
                have hw109_4 := hx109_4
                have hw109_3 := hx109_3
                have hw109_2 := hx109_2
                have hw109_1 := hx109_1
                have hw109_0 := hx109_0
                obtain rfl : ad101 = ad109 := (by injection e109)
                replace hx109_0 := (HB.out.cell (World.block_lt_of_cell? w _ hx109_0)).trans hx109_0
                replace hx109_1 := (HB.out.cell (World.block_lt_of_cell? w _ hx109_1)).trans hx109_1
                replace hx109_2 := (HB.out.cell (World.block_lt_of_cell? w _ hx109_2)).trans hx109_2
                replace hx109_3 := (HB.out.cell (World.block_lt_of_cell? w _ hx109_3)).trans hx109_3
                replace hx109_4 := (HB.out.cell (World.block_lt_of_cell? w _ hx109_4)).trans hx109_4
                replace p109 := eq_true p109
                replace q109 := eq_true q109
                have p110 : 0 ≤ (x5_3 : Int) := of_decide_eq_true ‹_›
                have q110 : x5_3 < (l0.length : Int) := of_decide_eq_true ‹_›
                obtain ⟨ad110, e110, hx110_0, hx110_1, hx110_2, hx110_3, hx110_4⟩ := at_T84 HR0.out x5_3 p110 q110
                have hw110_4 := hx110_4
                have hw110_3 := hx110_3
                have hw110_2 := hx110_2
                have hw110_1 := hx110_1
                have hw110_0 := hx110_0
                obtain rfl : ad101 = ad110 := (by injection e110)
                replace hx110_0 := (HB.out.cell (World.block_lt_of_cell? w _ hx110_0)).trans hx110_0
                replace hx110_1 := (HB.out.cell (World.block_lt_of_cell? w _ hx110_1)).trans hx110_1
                replace hx110_2 := (HB.out.cell (World.block_lt_of_cell? w _ hx110_2)).trans hx110_2
                replace hx110_3 := (HB.out.cell (World.block_lt_of_cell? w _ hx110_3)).trans hx110_3
                replace hx110_4 := (HB.out.cell (World.block_lt_of_cell? w _ hx110_4)).trans hx110_4
                replace p110 := eq_true p110
                replace q110 := eq_true q110
                refine start_ (n := 21) (S := fun w' => w'.cell? ⟨gb102, 0, none⟩ = some (.int .i64 ((rd_T84 l0 x3_1).f0)) ∧ w'.cell? ⟨gb102, 1, none⟩ = some (.int .i64 ((rd_T84 l0 x3_1).f1)) ∧ w'.cell? ⟨gb102, 2, none⟩ = some (.int .i64 ((rd_T84 l0 x3_1).f2)) ∧ w'.cell? ⟨gb102, 3, none⟩ = some (.int .i64 ((rd_T84 l0 x3_1).f3)) ∧ w'.cell? ⟨gb102, 4, none⟩ = some (.int .i64 ((rd_T84 l0 x3_1).f4)) ∧ w'.cell? (ad101.add ((x5_3).toNat * 5)) = some (.int .i64 ((rd_T84 l0 x5_3).f0)) ∧ w'.cell? ⟨(ad101.add ((x5_3).toNat * 5)).block, (ad101.add ((x5_3).toNat * 5)).off + 1, none⟩ = some (.int .i64 ((rd_T84 l0 x5_3).f1)) ∧ w'.cell? ⟨(ad101.add ((x5_3).toNat * 5)).block, (ad101.add ((x5_3).toNat * 5)).off + 2, none⟩ = some (.int .i64 ((rd_T84 l0 x5_3).f2)) ∧ w'.cell? ⟨(ad101.add ((x5_3).toNat * 5)).block, (ad101.add ((x5_3).toNat * 5)).off + 3, none⟩ = some (.int .i64 ((rd_T84 l0 x5_3).f3)) ∧ w'.cell? ⟨(ad101.add ((x5_3).toNat * 5)).block, (ad101.add ((x5_3).toNat * 5)).off + 4, none⟩ = some (.int .i64 ((rd_T84 l0 x5_3).f4)) ∧ w'.cell? (ad101.add ((x5_3).toNat * 5)) = some (.int .i64 ((rd_T84 l0 x5_3).f0)) ∧ w'.cell? ⟨(ad101.add ((x5_3).toNat * 5)).block, (ad101.add ((x5_3).toNat * 5)).off + 1, none⟩ = some (.int .i64 ((rd_T84 l0 x5_3).f1)) ∧ w'.cell? ⟨(ad101.add ((x5_3).toNat * 5)).block, (ad101.add ((x5_3).toNat * 5)).off + 2, none⟩ = some (.int .i64 ((rd_T84 l0 x5_3).f2)) ∧ w'.cell? ⟨(ad101.add ((x5_3).toNat * 5)).block, (ad101.add ((x5_3).toNat * 5)).off + 3, none⟩ = some (.int .i64 ((rd_T84 l0 x5_3).f3)) ∧ w'.cell? ⟨(ad101.add ((x5_3).toNat * 5)).block, (ad101.add ((x5_3).toNat * 5)).off + 4, none⟩ = some (.int .i64 ((rd_T84 l0 x5_3).f4))) (ds := []) (bR [0, 21]) (by kernel_rfl) rfl rfl ⟨cC BK102 0, cC BK102 1, cC BK102 2, cC BK102 3, cC BK102 4, ((HB.out.cell (World.block_lt_of_cell? w _ hw109_0)).trans hw109_0), ((HB.out.cell (World.block_lt_of_cell? w _ hw109_1)).trans hw109_1), ((HB.out.cell (World.block_lt_of_cell? w _ hw109_2)).trans hw109_2), ((HB.out.cell (World.block_lt_of_cell? w _ hw109_3)).trans hw109_3), ((HB.out.cell (World.block_lt_of_cell? w _ hw109_4)).trans hw109_4), ((HB.out.cell (World.block_lt_of_cell? w _ hw110_0)).trans hw110_0), ((HB.out.cell (World.block_lt_of_cell? w _ hw110_1)).trans hw110_1), ((HB.out.cell (World.block_lt_of_cell? w _ hw110_2)).trans hw110_2), ((HB.out.cell (World.block_lt_of_cell? w _ hw110_3)).trans hw110_3), ((HB.out.cell (World.block_lt_of_cell? w _ hw110_4)).trans hw110_4)⟩ (fun hHeld => ?_); refine with_tabW spec_AreClaims.tab10 spec_AreClaims.bits10 (fun HT_ HW_ => ?_)
                generalize wr.drew = w42 at BK102 HB hx109_0 hx109_1 hx109_2 hx109_3 hx109_4 hx110_0 hx110_1 hx110_2 hx110_3 hx110_4 hHeld ⊢
                refine pP 0 64 (bR [1, 20]) rfl rfl HT_ ?_
                refine take_ (i := 1) (N := some 65) (v := ?_) (a' := ?_) (bR [2, 19]) rfl rfl (take_ofW HT_.out HW_.out (by kernel_rfl)) (fun _ _ _ h => h) (Or.inl ⟨by rfl, ?_⟩) hHeld ?_ ?_
                rotate_left; (rintro w' ⟨s0, s1, s2, s3, s4, s5, s6, s7, s8, s9, s10, s11, s12, s13, s14⟩; go_simp; with_reducible rfl); rotate_left; (simp only [Act.put, sA, sZ, sS, i64_w]; rfl)
                refine pP 2 66 (bR [3, 18]) rfl rfl HT_ ?_
                refine pP 3 67 (bR [4, 17]) rfl rfl HT_ ?_
                refine pP 4 68 (bR [5, 16]) rfl rfl HT_ ?_
                refine pP 5 69 (bR [6, 15]) rfl rfl HT_ ?_
                refine pP 6 70 (bR [7, 14]) rfl rfl HT_ ?_
                refine pP 7 71 (bR [8, 13]) rfl rfl HT_ ?_
                refine take_ (i := 8) (N := some 72) (v := ?_) (a' := ?_) (bR [9, 12]) rfl rfl (take_ofW HT_.out HW_.out (by kernel_rfl)) (fun _ _ _ h => h) (Or.inl ⟨by rfl, ?_⟩) hHeld ?_ ?_
                rotate_left; (rintro w' ⟨s0, s1, s2, s3, s4, s5, s6, s7, s8, s9, s10, s11, s12, s13, s14⟩; go_simp; with_reducible rfl); rotate_left; (simp only [Act.put, sA, sZ, sS, i64_w]; rfl)
                refine pP 9 73 (bR [10, 11]) rfl rfl HT_ ?_
                refine pP 10 74 (bR [11, 10]) rfl rfl HT_ ?_
                refine pP 11 75 (bR [12, 9]) rfl rfl HT_ ?_
                refine pP 12 76 (bR [13, 8]) rfl rfl HT_ ?_
                refine pP 13 77 (bR [14, 7]) rfl rfl HT_ ?_
                refine pP 14 78 (bR [15, 6]) rfl rfl HT_ ?_
                refine pP 15 79 (bR [16, 5]) rfl rfl HT_ ?_
                refine pP 17 81 (bR [16, 1, 1, 3]) rfl rfl HT_ ?_
                refine take_ (i := 16) (N := some 80) (v := ?_) (a' := ?_) (bR [18, 3]) rfl rfl (take_ofW HT_.out HW_.out (by kernel_rfl)) (fun _ _ _ h => h) (Or.inl ⟨by rfl, ?_⟩) hHeld ?_ ?_
                rotate_left; (rintro w' ⟨s0, s1, s2, s3, s4, s5, s6, s7, s8, s9, s10, s11, s12, s13, s14⟩; go_simp; with_reducible rfl); rotate_left; (simp only [Act.put, sA, sZ, sS, i64_w]; rfl)
                refine take_ (i := 18) (N := some 82) (v := ?_) (a' := ?_) (bR [19, 2]) rfl rfl (take_ofW HT_.out HW_.out (by kernel_rfl)) (fun _ _ _ h => h) (Or.inl ⟨by rfl, ?_⟩) hHeld ?_ ?_
                rotate_left; (rintro w' ⟨s0, s1, s2, s3, s4, s5, s6, s7, s8, s9, s10, s11, s12, s13, s14⟩; go_simp; with_reducible rfl); rotate_left; (simp only [Act.put, sA, sZ, sS, i64_w]; rfl)
                refine pP 19 83 (bR [20, 1]) rfl rfl HT_ ?_
                refine pP 20 84 (bR [21]) rfl rfl HT_ ?_
                refine done_ (done_of HT_.out (by kernel_rfl)) ?_
                try go_wp2
                go_ret
                exact ⟨by first | rfl | (simp [errW_none, errW_some] <;> rfl) | (simp [*, errW_none, errW_some] <;> rfl), by repeat (first | (with_reducible first | exact HB.out | apply bA | apply bN | apply bD | refine bS ?_ GE102.out) | exact HB.out)⟩
               ·rw [if_neg c41] at H
                have c41b0 : (((rd_T84 l0 x5_3).f2) == ((rd_T84 l0 x3_1).f2)) = false := beq_eq_false_iff_ne.mpr c41
                have c41b1 : (((rd_T84 l0 x5_3).f2) != ((rd_T84 l0 x3_1).f2)) = true := bne_iff_ne.mpr c41
                have H' := Aside0.mk H
                clear H
                try go_wp2
                have n0_ := Aside0.mk (blk_drew BK102.out)
                have n1_ := Aside0.mk (below_drew1 HB.out)
                clear BK102
                clear HB
                have BK102 := n0_
                have HB := n1_
                clear n0_ n1_
                have p109 : 0 ≤ (x5_3 : Int) := of_decide_eq_true ‹_›
                have q109 : x5_3 < (l0.length : Int) := of_decide_eq_true ‹_›
                obtain ⟨ad109, e109, hx109_0, hx109_1, hx109_2, hx109_3, hx109_4⟩ := at_T84 HR0.out x5_3 p109 q109
                have hw109_4 := hx109_4
                have hw109_3 := hx109_3
                have hw109_2 := hx109_2
                have hw109_1 := hx109_1
                have hw109_0 := hx109_0
                obtain rfl : ad101 = ad109 := (by injection e109)
                replace hx109_0 := (HB.out.cell (World.block_lt_of_cell? w _ hx109_0)).trans hx109_0
                replace hx109_1 := (HB.out.cell (World.block_lt_of_cell? w _ hx109_1)).trans hx109_1
                replace hx109_2 := (HB.out.cell (World.block_lt_of_cell? w _ hx109_2)).trans hx109_2
                replace hx109_3 := (HB.out.cell (World.block_lt_of_cell? w _ hx109_3)).trans hx109_3
                replace hx109_4 := (HB.out.cell (World.block_lt_of_cell? w _ hx109_4)).trans hx109_4
                replace p109 := eq_true p109
                replace q109 := eq_true q109
                have p110 : 0 ≤ (x5_3 : Int) := of_decide_eq_true ‹_›
                have q110 : x5_3 < (l0.length : Int) := of_decide_eq_true ‹_›
                obtain ⟨ad110, e110, hx110_0, hx110_1, hx110_2, hx110_3, hx110_4⟩ := at_T84 HR0.out x5_3 p110 q110
                have hw110_4 := hx110_4
                have hw110_3 := hx110_3
                have hw110_2 := hx110_2
                have hw110_1 := hx110_1
                have hw110_0 := hx110_0
                obtain rfl : ad101 = ad110 := (by injection e110)
                replace hx110_0 := (HB.out.cell (World.block_lt_of_cell? w _ hx110_0)).trans hx110_0
                replace hx110_1 := (HB.out.cell (World.block_lt_of_cell? w _ hx110_1)).trans hx110_1
                replace hx110_2 := (HB.out.cell (World.block_lt_of_cell? w _ hx110_2)).trans hx110_2
                replace hx110_3 := (HB.out.cell (World.block_lt_of_cell? w _ hx110_3)).trans hx110_3
                replace hx110_4 := (HB.out.cell (World.block_lt_of_cell? w _ hx110_4)).trans hx110_4
                replace p110 := eq_true p110
                replace q110 := eq_true q110
                refine start_ (n := 21) (S := fun w' => w'.cell? ⟨gb102, 0, none⟩ = some (.int .i64 ((rd_T84 l0 x3_1).f0)) ∧ w'.cell? ⟨gb102, 1, none⟩ = some (.int .i64 ((rd_T84 l0 x3_1).f1)) ∧ w'.cell? ⟨gb102, 2, none⟩ = some (.int .i64 ((rd_T84 l0 x3_1).f2)) ∧ w'.cell? ⟨gb102, 3, none⟩ = some (.int .i64 ((rd_T84 l0 x3_1).f3)) ∧ w'.cell? ⟨gb102, 4, none⟩ = some (.int .i64 ((rd_T84 l0 x3_1).f4)) ∧ w'.cell? (ad101.add ((x5_3).toNat * 5)) = some (.int .i64 ((rd_T84 l0 x5_3).f0)) ∧ w'.cell? ⟨(ad101.add ((x5_3).toNat * 5)).block, (ad101.add ((x5_3).toNat * 5)).off + 1, none⟩ = some (.int .i64 ((rd_T84 l0 x5_3).f1)) ∧ w'.cell? ⟨(ad101.add ((x5_3).toNat * 5)).block, (ad101.add ((x5_3).toNat * 5)).off + 2, none⟩ = some (.int .i64 ((rd_T84 l0 x5_3).f2)) ∧ w'.cell? ⟨(ad101.add ((x5_3).toNat * 5)).block, (ad101.add ((x5_3).toNat * 5)).off + 3, none⟩ = some (.int .i64 ((rd_T84 l0 x5_3).f3)) ∧ w'.cell? ⟨(ad101.add ((x5_3).toNat * 5)).block, (ad101.add ((x5_3).toNat * 5)).off + 4, none⟩ = some (.int .i64 ((rd_T84 l0 x5_3).f4)) ∧ w'.cell? (ad101.add ((x5_3).toNat * 5)) = some (.int .i64 ((rd_T84 l0 x5_3).f0)) ∧ w'.cell? ⟨(ad101.add ((x5_3).toNat * 5)).block, (ad101.add ((x5_3).toNat * 5)).off + 1, none⟩ = some (.int .i64 ((rd_T84 l0 x5_3).f1)) ∧ w'.cell? ⟨(ad101.add ((x5_3).toNat * 5)).block, (ad101.add ((x5_3).toNat * 5)).off + 2, none⟩ = some (.int .i64 ((rd_T84 l0 x5_3).f2)) ∧ w'.cell? ⟨(ad101.add ((x5_3).toNat * 5)).block, (ad101.add ((x5_3).toNat * 5)).off + 3, none⟩ = some (.int .i64 ((rd_T84 l0 x5_3).f3)) ∧ w'.cell? ⟨(ad101.add ((x5_3).toNat * 5)).block, (ad101.add ((x5_3).toNat * 5)).off + 4, none⟩ = some (.int .i64 ((rd_T84 l0 x5_3).f4))) (ds := []) (bR [0, 21]) (by kernel_rfl) rfl rfl ⟨cC BK102 0, cC BK102 1, cC BK102 2, cC BK102 3, cC BK102 4, ((HB.out.cell (World.block_lt_of_cell? w _ hw109_0)).trans hw109_0), ((HB.out.cell (World.block_lt_of_cell? w _ hw109_1)).trans hw109_1), ((HB.out.cell (World.block_lt_of_cell? w _ hw109_2)).trans hw109_2), ((HB.out.cell (World.block_lt_of_cell? w _ hw109_3)).trans hw109_3), ((HB.out.cell (World.block_lt_of_cell? w _ hw109_4)).trans hw109_4), ((HB.out.cell (World.block_lt_of_cell? w _ hw110_0)).trans hw110_0), ((HB.out.cell (World.block_lt_of_cell? w _ hw110_1)).trans hw110_1), ((HB.out.cell (World.block_lt_of_cell? w _ hw110_2)).trans hw110_2), ((HB.out.cell (World.block_lt_of_cell? w _ hw110_3)).trans hw110_3), ((HB.out.cell (World.block_lt_of_cell? w _ hw110_4)).trans hw110_4)⟩ (fun hHeld => ?_); refine with_tabW spec_AreClaims.tab10 spec_AreClaims.bits10 (fun HT_ HW_ => ?_)
                generalize wr.drew = w43 at BK102 HB hx109_0 hx109_1 hx109_2 hx109_3 hx109_4 hx110_0 hx110_1 hx110_2 hx110_3 hx110_4 hHeld ⊢
                refine pP 0 64 (bR [1, 20]) rfl rfl HT_ ?_
                refine take_ (i := 1) (N := some 65) (v := ?_) (a' := ?_) (bR [2, 19]) rfl rfl (take_ofW HT_.out HW_.out (by kernel_rfl)) (fun _ _ _ h => h) (Or.inl ⟨by rfl, ?_⟩) hHeld ?_ ?_
                rotate_left; (rintro w' ⟨s0, s1, s2, s3, s4, s5, s6, s7, s8, s9, s10, s11, s12, s13, s14⟩; go_simp; with_reducible rfl); rotate_left; (simp only [Act.put, sA, sZ, sS, i64_w]; rfl)
                refine pP 2 66 (bR [3, 18]) rfl rfl HT_ ?_
                refine pP 3 67 (bR [4, 17]) rfl rfl HT_ ?_
                refine pP 4 68 (bR [5, 16]) rfl rfl HT_ ?_
                refine pP 5 69 (bR [6, 15]) rfl rfl HT_ ?_
                refine pP 6 70 (bR [7, 14]) rfl rfl HT_ ?_
                refine pP 7 71 (bR [8, 13]) rfl rfl HT_ ?_
                refine take_ (i := 8) (N := some 72) (v := ?_) (a' := ?_) (bR [9, 12]) rfl rfl (take_ofW HT_.out HW_.out (by kernel_rfl)) (fun _ _ _ h => h) (Or.inl ⟨by rfl, ?_⟩) hHeld ?_ ?_
                rotate_left; (rintro w' ⟨s0, s1, s2, s3, s4, s5, s6, s7, s8, s9, s10, s11, s12, s13, s14⟩; go_simp; with_reducible rfl); rotate_left; (simp only [Act.put, sA, sZ, sS, i64_w]; rfl)
                refine pP 9 73 (bR [10, 11]) rfl rfl HT_ ?_
                refine pP 10 74 (bR [11, 10]) rfl rfl HT_ ?_
                refine pP 11 75 (bR [12, 9]) rfl rfl HT_ ?_
                refine pP 12 76 (bR [13, 8]) rfl rfl HT_ ?_
                refine pP 13 77 (bR [14, 7]) rfl rfl HT_ ?_
                refine pP 14 78 (bR [15, 6]) rfl rfl HT_ ?_
                refine pP 15 79 (bR [16, 5]) rfl rfl HT_ ?_
                refine pP 17 81 (bR [16, 1, 1, 3]) rfl rfl HT_ ?_
                refine take_ (i := 16) (N := some 80) (v := ?_) (a' := ?_) (bR [18, 3]) rfl rfl (take_ofW HT_.out HW_.out (by kernel_rfl)) (fun _ _ _ h => h) (Or.inl ⟨by rfl, ?_⟩) hHeld ?_ ?_
                rotate_left; (rintro w' ⟨s0, s1, s2, s3, s4, s5, s6, s7, s8, s9, s10, s11, s12, s13, s14⟩; go_simp; with_reducible rfl); rotate_left; (simp only [Act.put, sA, sZ, sS, i64_w]; rfl)
                refine take_ (i := 18) (N := some 82) (v := ?_) (a' := ?_) (bR [19, 2]) rfl rfl (take_ofW HT_.out HW_.out (by kernel_rfl)) (fun _ _ _ h => h) (Or.inl ⟨by rfl, ?_⟩) hHeld ?_ ?_
                rotate_left; (rintro w' ⟨s0, s1, s2, s3, s4, s5, s6, s7, s8, s9, s10, s11, s12, s13, s14⟩; go_simp; with_reducible rfl); rotate_left; (simp only [Act.put, sA, sZ, sS, i64_w]; rfl)
                refine pP 19 83 (bR [20, 1]) rfl rfl HT_ ?_
                refine pP 20 84 (bR [21]) rfl rfl HT_ ?_
                refine done_ (done_of HT_.out (by kernel_rfl)) ?_
                try go_wp2
                go_roundg k3
                case measure => have := HK1.out; have := HJ3.out; have := HK3.out; omega
                case rel => exact ⟨(wrap64 (x5_3 + 1)), (by first | rfl | (simp; done) | (simp [*]; done)), H', ⟨by have := HK1.out; have := HJ3.out; have := HK3.out; omega⟩, ⟨by (with_reducible repeat first | refine kN ?_ _ | refine kD ?_ | refine kA ?_ _); exact BK102.out⟩, ⟨by repeat (first | (with_reducible first | exact HB.out | apply bA | apply bN | apply bD | refine bS ?_ GE102.out) | exact HB.out)⟩⟩
              ·rw [if_neg c40] at H
               have c40b0 : (((rd_T84 l0 x5_3).f4) == 3) = false := beq_eq_false_iff_ne.mpr c40
               have c40b1 : (((rd_T84 l0 x5_3).f4) != 3) = true := bne_iff_ne.mpr c40
               have H' := Aside0.mk H
               clear H
               try go_wp2
               have n0_ := Aside0.mk (blk_drew BK102.out)
               have n1_ := Aside0.mk (below_drew1 HB.out)
               clear BK102
               clear HB
               have BK102 := n0_
               have HB := n1_
               clear n0_ n1_
               have p109 : 0 ≤ (x5_3 : Int) := of_decide_eq_true ‹_›
               have q109 : x5_3 < (l0.length : Int) := of_decide_eq_true ‹_›
               obtain ⟨ad109, e109, hx109_0, hx109_1, hx109_2, hx109_3, hx109_4⟩ := at_T84 HR0.out x5_3 p109 q109
               have hw109_4 := hx109_4
               have hw109_3 := hx109_3
               have hw109_2 := hx109_2
               have hw109_1 := hx109_1
               have hw109_0 := hx109_0
               obtain rfl : ad101 = ad109 := (by injection e109)
               replace hx109_0 := (HB.out.cell (World.block_lt_of_cell? w _ hx109_0)).trans hx109_0
               replace hx109_1 := (HB.out.cell (World.block_lt_of_cell? w _ hx109_1)).trans hx109_1
               replace hx109_2 := (HB.out.cell (World.block_lt_of_cell? w _ hx109_2)).trans hx109_2
               replace hx109_3 := (HB.out.cell (World.block_lt_of_cell? w _ hx109_3)).trans hx109_3
               replace hx109_4 := (HB.out.cell (World.block_lt_of_cell? w _ hx109_4)).trans hx109_4
               replace p109 := eq_true p109
               replace q109 := eq_true q109
               refine start_ (n := 21) (S := fun w' => w'.cell? ⟨gb102, 0, none⟩ = some (.int .i64 ((rd_T84 l0 x3_1).f0)) ∧ w'.cell? ⟨gb102, 1, none⟩ = some (.int .i64 ((rd_T84 l0 x3_1).f1)) ∧ w'.cell? ⟨gb102, 2, none⟩ = some (.int .i64 ((rd_T84 l0 x3_1).f2)) ∧ w'.cell? ⟨gb102, 3, none⟩ = some (.int .i64 ((rd_T84 l0 x3_1).f3)) ∧ w'.cell? ⟨gb102, 4, none⟩ = some (.int .i64 ((rd_T84 l0 x3_1).f4)) ∧ w'.cell? (ad101.add ((x5_3).toNat * 5)) = some (.int .i64 ((rd_T84 l0 x5_3).f0)) ∧ w'.cell? ⟨(ad101.add ((x5_3).toNat * 5)).block, (ad101.add ((x5_3).toNat * 5)).off + 1, none⟩ = some (.int .i64 ((rd_T84 l0 x5_3).f1)) ∧ w'.cell? ⟨(ad101.add ((x5_3).toNat * 5)).block, (ad101.add ((x5_3).toNat * 5)).off + 2, none⟩ = some (.int .i64 ((rd_T84 l0 x5_3).f2)) ∧ w'.cell? ⟨(ad101.add ((x5_3).toNat * 5)).block, (ad101.add ((x5_3).toNat * 5)).off + 3, none⟩ = some (.int .i64 ((rd_T84 l0 x5_3).f3)) ∧ w'.cell? ⟨(ad101.add ((x5_3).toNat * 5)).block, (ad101.add ((x5_3).toNat * 5)).off + 4, none⟩ = some (.int .i64 ((rd_T84 l0 x5_3).f4))) (ds := []) (bR [0, 21]) (by kernel_rfl) rfl rfl ⟨cC BK102 0, cC BK102 1, cC BK102 2, cC BK102 3, cC BK102 4, ((HB.out.cell (World.block_lt_of_cell? w _ hw109_0)).trans hw109_0), ((HB.out.cell (World.block_lt_of_cell? w _ hw109_1)).trans hw109_1), ((HB.out.cell (World.block_lt_of_cell? w _ hw109_2)).trans hw109_2), ((HB.out.cell (World.block_lt_of_cell? w _ hw109_3)).trans hw109_3), ((HB.out.cell (World.block_lt_of_cell? w _ hw109_4)).trans hw109_4)⟩ (fun hHeld => ?_); refine with_tabW spec_AreClaims.tab10 spec_AreClaims.bits10 (fun HT_ HW_ => ?_)
               generalize wr.drew = w44 at BK102 HB hx109_0 hx109_1 hx109_2 hx109_3 hx109_4 hHeld ⊢
               refine pP 0 64 (bR [1, 20]) rfl rfl HT_ ?_
               refine take_ (i := 1) (N := some 65) (v := ?_) (a' := ?_) (bR [2, 19]) rfl rfl (take_ofW HT_.out HW_.out (by kernel_rfl)) (fun _ _ _ h => h) (Or.inl ⟨by rfl, ?_⟩) hHeld ?_ ?_
               rotate_left; (rintro w' ⟨s0, s1, s2, s3, s4, s5, s6, s7, s8, s9⟩; go_simp; with_reducible rfl); rotate_left; (simp only [Act.put, sA, sZ, sS, i64_w]; rfl)
               refine pP 2 66 (bR [3, 18]) rfl rfl HT_ ?_
               refine pP 3 67 (bR [4, 17]) rfl rfl HT_ ?_
               refine pP 4 68 (bR [5, 16]) rfl rfl HT_ ?_
               refine pP 5 69 (bR [6, 15]) rfl rfl HT_ ?_
               refine pP 6 70 (bR [7, 14]) rfl rfl HT_ ?_
               refine pP 7 71 (bR [8, 13]) rfl rfl HT_ ?_
               refine take_ (i := 8) (N := some 72) (v := ?_) (a' := ?_) (bR [9, 12]) rfl rfl (take_ofW HT_.out HW_.out (by kernel_rfl)) (fun _ _ _ h => h) (Or.inl ⟨by rfl, ?_⟩) hHeld ?_ ?_
               rotate_left; (rintro w' ⟨s0, s1, s2, s3, s4, s5, s6, s7, s8, s9⟩; go_simp; with_reducible rfl); rotate_left; (simp only [Act.put, sA, sZ, sS, i64_w]; rfl)
               refine pP 9 73 (bR [10, 11]) rfl rfl HT_ ?_
               refine pP 10 74 (bR [11, 10]) rfl rfl HT_ ?_
               refine pP 11 75 (bR [12, 9]) rfl rfl HT_ ?_
               refine pU 12 76 (bR [13, 8]) rfl rfl HT_ ?_
               refine pU 13 77 (bR [14, 7]) rfl rfl HT_ ?_
               refine pU 14 78 (bR [15, 6]) rfl rfl HT_ ?_
               refine pU 15 79 (bR [16, 5]) rfl rfl HT_ ?_
               refine pU 16 80 (bR [17, 4]) rfl rfl HT_ ?_
               refine pU 17 81 (bR [18, 3]) rfl rfl HT_ ?_
               refine pU 18 82 (bR [19, 2]) rfl rfl HT_ ?_
               refine pU 19 83 (bR [20, 1]) rfl rfl HT_ ?_
               refine pP 20 84 (bR [21]) rfl rfl HT_ ?_
               refine done_ (done_of HT_.out (by kernel_rfl)) ?_
               try go_wp2
               go_roundg k3
               case measure => have := HK1.out; have := HJ3.out; have := HK3.out; omega
               case rel => exact ⟨(wrap64 (x5_3 + 1)), (by first | rfl | (simp; done) | (simp [*]; done)), H', ⟨by have := HK1.out; have := HJ3.out; have := HK3.out; omega⟩, ⟨by (with_reducible repeat first | refine kN ?_ _ | refine kD ?_ | refine kA ?_ _); exact BK102.out⟩, ⟨by repeat (first | (with_reducible first | exact HB.out | apply bA | apply bN | apply bD | refine bS ?_ GE102.out) | exact HB.out)⟩⟩
             ·rw [if_neg c39] at H
              exact absurd H (by simp)
            ·rw [if_neg c38] at H
             exact absurd H (by simp)
           ·rw [if_neg c37] at H
            have c37b0 : (((rd_T84 l0 x3_1).f4) == 3) = false := beq_eq_false_iff_ne.mpr c37
            have c37b1 : (((rd_T84 l0 x3_1).f4) != 3) = true := bne_iff_ne.mpr c37
            have H' := Aside0.mk H
            clear H
            try go_wp2
            have n0_ := Aside0.mk (blk_drew BK102.out)
            have n1_ := Aside0.mk (below_drew1 HB.out)
            clear BK102
            clear HB
            have BK102 := n0_
            have HB := n1_
            clear n0_ n1_
            refine start_ (n := 21) (S := fun w' => w'.cell? ⟨gb102, 0, none⟩ = some (.int .i64 ((rd_T84 l0 x3_1).f0)) ∧ w'.cell? ⟨gb102, 1, none⟩ = some (.int .i64 ((rd_T84 l0 x3_1).f1)) ∧ w'.cell? ⟨gb102, 2, none⟩ = some (.int .i64 ((rd_T84 l0 x3_1).f2)) ∧ w'.cell? ⟨gb102, 3, none⟩ = some (.int .i64 ((rd_T84 l0 x3_1).f3)) ∧ w'.cell? ⟨gb102, 4, none⟩ = some (.int .i64 ((rd_T84 l0 x3_1).f4))) (ds := []) (bR [0, 21]) (by kernel_rfl) rfl rfl ⟨cC BK102 0, cC BK102 1, cC BK102 2, cC BK102 3, cC BK102 4⟩ (fun hHeld => ?_); refine with_tabW spec_AreClaims.tab10 spec_AreClaims.bits10 (fun HT_ HW_ => ?_)
            generalize wr.drew = w45 at BK102 HB hHeld ⊢
            refine pP 0 64 (bR [1, 20]) rfl rfl HT_ ?_
            refine take_ (i := 1) (N := some 65) (v := ?_) (a' := ?_) (bR [2, 19]) rfl rfl (take_ofW HT_.out HW_.out (by kernel_rfl)) (fun _ _ _ h => h) (Or.inl ⟨by rfl, ?_⟩) hHeld ?_ ?_
            rotate_left; (rintro w' ⟨s0, s1, s2, s3, s4⟩; go_simp; with_reducible rfl); rotate_left; (simp only [Act.put, sA, sZ, sS, i64_w]; rfl)
            refine pP 2 66 (bR [3, 18]) rfl rfl HT_ ?_
            refine pP 3 67 (bR [4, 17]) rfl rfl HT_ ?_
            refine pU 4 68 (bR [5, 16]) rfl rfl HT_ ?_
            refine pU 5 69 (bR [6, 15]) rfl rfl HT_ ?_
            refine pU 6 70 (bR [7, 14]) rfl rfl HT_ ?_
            refine pU 7 71 (bR [8, 13]) rfl rfl HT_ ?_
            refine pU 8 72 (bR [9, 12]) rfl rfl HT_ ?_
            refine pU 9 73 (bR [10, 11]) rfl rfl HT_ ?_
            refine pP 10 74 (bR [11, 10]) rfl rfl HT_ ?_
            refine pP 11 75 (bR [12, 9]) rfl rfl HT_ ?_
            refine pU 12 76 (bR [13, 8]) rfl rfl HT_ ?_
            refine pU 13 77 (bR [14, 7]) rfl rfl HT_ ?_
            refine pU 14 78 (bR [15, 6]) rfl rfl HT_ ?_
            refine pU 15 79 (bR [16, 5]) rfl rfl HT_ ?_
            refine pU 16 80 (bR [17, 4]) rfl rfl HT_ ?_
            refine pU 17 81 (bR [18, 3]) rfl rfl HT_ ?_
            refine pU 18 82 (bR [19, 2]) rfl rfl HT_ ?_
            refine pU 19 83 (bR [20, 1]) rfl rfl HT_ ?_
            refine pP 20 84 (bR [21]) rfl rfl HT_ ?_
            refine done_ (done_of HT_.out (by kernel_rfl)) ?_
            try go_wp2
            go_roundg k3
            case measure => have := HK1.out; have := HJ3.out; have := HK3.out; omega
            case rel => exact ⟨(wrap64 (x5_3 + 1)), (by first | rfl | (simp; done) | (simp [*]; done)), H', ⟨by have := HK1.out; have := HJ3.out; have := HK3.out; omega⟩, ⟨by (with_reducible repeat first | refine kN ?_ _ | refine kD ?_ | refine kA ?_ _); exact BK102.out⟩, ⟨by repeat (first | (with_reducible first | exact HB.out | apply bA | apply bN | apply bD | refine bS ?_ GE102.out) | exact HB.out)⟩⟩
          ·rw [if_neg c36] at H
           have c36b0 : decide (x5_3 < x3_1) = false := decide_eq_false c36
           clear c36
           have H' := Aside0.mk H
           clear H
           go_wp2
           go_roundg k3
           case measure => have := HK1.out; have := HJ3.out; have := HK3.out; omega
           case rel => exact ⟨(wrap64 (x3_1 + 1)), (by first | rfl | (simp; done) | (simp [*]; done)), H', ⟨by have := HK1.out; have := HJ3.out; have := HK3.out; omega⟩, ⟨by repeat (first | (with_reducible first | exact HB.out | apply bA | apply bN | apply bD | refine bS ?_ GE102.out) | exact HB.out)⟩⟩
    ·rw [if_neg c3] at H
     exact absurd H (by simp)
   ·rw [if_neg c2] at H
    have c2b0 : decide (x3_1 < (l0.length : Int)) = false := decide_eq_false c2
    clear c2
    obtain rfl := Option.some.inj H
    go_wp2
    go_ret
    exact ⟨by first | rfl | (simp [errW_none, errW_some] <;> rfl) | (simp [*, errW_none, errW_some] <;> rfl), by repeat (first | (with_reducible first | exact HB.out | apply bA | apply bN | apply bD) | exact HB.out)⟩

end Go.Proofs.Ytppgealmedaihaa.PFnExactAddClaim
