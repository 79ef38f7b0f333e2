-- The printed functions of one law and their contracts, over contracts of this session's own (hand.py).
import Derived.Test.YtppgealmedaihaaPFnExactAddClaimx0
import Derived.Test.YtppgealmedaihaaPFnExactAddClaimx4
namespace Go.Proofs.Ytppgealmedaihaa.PFnExactAddClaim
open Go.RowKit Go.Proofs.YtppgealmedaihaaW.PrintWords Go.Proofs.YtppgealmedaihaaW.PrintLast Go.Proofs.YtppgealmedaihaaW.PrintMore Go.Proofs.Ytppgealmedaihaa.Short
attribute [local go_sem] max2_int min2_int max_two min_two max_three min_three max_four min_four   -- for this text's walks alone
set_option linter.unusedVariables false
set_option linter.unusedSimpArgs false

/-! ### impl_AreClaims: function 79 -/
mutual
def impl_AreClaims.l0 : Nat → List (S84) → List (S84) → Int → Int → Option (Bool)
 | 0, _, _, _, _ => none
 | k + 1, x0, x10, x11, x12 => if x12 < x11 then (if 0 ≤ x12 then (if x12 < (x10.length : Int) then ((impl_InRange.f ((rd_T84 x10 x12).f0) 1 999).bind fun t168 => (if t168 = true then (if x12 > 0 then (if 0 ≤ (wrap64 (x12 - 1)) then (if (wrap64 (x12 - 1)) < (x0.length : Int) then (if ((rd_T84 x10 x12).f0) ≤ ((rd_T84 x0 (wrap64 (x12 - 1))).f0) then (impl_AreClaims.j1 k x0 x12 x10 x11 x12 true ((rd_T84 x10 x12).f0) ((rd_T84 x10 x12).f1) ((rd_T84 x10 x12).f2) ((rd_T84 x10 x12).f3) ((rd_T84 x10 x12).f4)) else ((impl_InRange.f ((rd_T84 x10 x12).f1) 1 999).bind fun t170 => (if t170 = true then ((impl_InRange.f ((rd_T84 x10 x12).f2) 1 999).bind fun t171 => (if t171 = true then ((impl_InRange.f ((rd_T84 x10 x12).f3) 0 100000).bind fun t172 => (if t172 = true then ((impl_InRange.f ((rd_T84 x10 x12).f4) 0 3).bind fun t173 => (impl_AreClaims.j1 k x0 x12 x10 x11 x12 (!t173) ((rd_T84 x10 x12).f0) ((rd_T84 x10 x12).f1) ((rd_T84 x10 x12).f2) ((rd_T84 x10 x12).f3) ((rd_T84 x10 x12).f4))) else (impl_AreClaims.j1 k x0 x12 x10 x11 x12 true ((rd_T84 x10 x12).f0) ((rd_T84 x10 x12).f1) ((rd_T84 x10 x12).f2) ((rd_T84 x10 x12).f3) ((rd_T84 x10 x12).f4)))) else (impl_AreClaims.j1 k x0 x12 x10 x11 x12 true ((rd_T84 x10 x12).f0) ((rd_T84 x10 x12).f1) ((rd_T84 x10 x12).f2) ((rd_T84 x10 x12).f3) ((rd_T84 x10 x12).f4)))) else (impl_AreClaims.j1 k x0 x12 x10 x11 x12 true ((rd_T84 x10 x12).f0) ((rd_T84 x10 x12).f1) ((rd_T84 x10 x12).f2) ((rd_T84 x10 x12).f3) ((rd_T84 x10 x12).f4))))) else (none)) else (none)) else ((impl_InRange.f ((rd_T84 x10 x12).f1) 1 999).bind fun t174 => (if t174 = true then ((impl_InRange.f ((rd_T84 x10 x12).f2) 1 999).bind fun t175 => (if t175 = true then ((impl_InRange.f ((rd_T84 x10 x12).f3) 0 100000).bind fun t176 => (if t176 = true then ((impl_InRange.f ((rd_T84 x10 x12).f4) 0 3).bind fun t177 => (impl_AreClaims.j1 k x0 x12 x10 x11 x12 (!t177) ((rd_T84 x10 x12).f0) ((rd_T84 x10 x12).f1) ((rd_T84 x10 x12).f2) ((rd_T84 x10 x12).f3) ((rd_T84 x10 x12).f4))) else (impl_AreClaims.j1 k x0 x12 x10 x11 x12 true ((rd_T84 x10 x12).f0) ((rd_T84 x10 x12).f1) ((rd_T84 x10 x12).f2) ((rd_T84 x10 x12).f3) ((rd_T84 x10 x12).f4)))) else (impl_AreClaims.j1 k x0 x12 x10 x11 x12 true ((rd_T84 x10 x12).f0) ((rd_T84 x10 x12).f1) ((rd_T84 x10 x12).f2) ((rd_T84 x10 x12).f3) ((rd_T84 x10 x12).f4)))) else (impl_AreClaims.j1 k x0 x12 x10 x11 x12 true ((rd_T84 x10 x12).f0) ((rd_T84 x10 x12).f1) ((rd_T84 x10 x12).f2) ((rd_T84 x10 x12).f3) ((rd_T84 x10 x12).f4))))) else (impl_AreClaims.j1 k x0 x12 x10 x11 x12 true ((rd_T84 x10 x12).f0) ((rd_T84 x10 x12).f1) ((rd_T84 x10 x12).f2) ((rd_T84 x10 x12).f3) ((rd_T84 x10 x12).f4)))) else (none)) else (none)) else (some true)
def impl_AreClaims.j1 : Nat → List (S84) → Int → List (S84) → Int → Int → Bool → Int → Int → Int → Int → Int → Option (Bool)
 | 0, _, _, _, _, _, _, _, _, _, _, _ => none
 | k + 1, x0, x3, x10, x11, x12, x59, x168000, x168001, x168002, x168003, x168004 => if x59 = true then (some false) else (if 0 ≤ x3 then (if x3 ≤ (x0.length : Int) then ((some (x0.take (x3 : Int).toNat : List (S84))).bind fun y178 => (impl_AreClaims.l1 k x0 x10 x11 x12 y178 (y178.length : Int) 0 x168000 x168001 x168002 x168003 x168004)) else (none)) else (none))
def impl_AreClaims.l1 : Nat → List (S84) → List (S84) → Int → Int → List (S84) → Int → Int → Int → Int → Int → Int → Int → Option (Bool)
 | 0, _, _, _, _, _, _, _, _, _, _, _, _ => none
 | k + 1, x0, x10, x11, x12, x62, x63, x64, x168000, x168001, x168002, x168003, x168004 => if x64 < x63 then (if 0 ≤ x64 then (if x64 < (x62.length : Int) then (if x168004 = 3 then (if ((rd_T84 x62 x64).f4) = 3 then (if x168002 = ((rd_T84 x62 x64).f2) then (some false) else (impl_AreClaims.l1 k x0 x10 x11 x12 x62 x63 (wrap64 (x64 + 1)) x168000 x168001 x168002 x168003 x168004)) else (impl_AreClaims.l1 k x0 x10 x11 x12 x62 x63 (wrap64 (x64 + 1)) x168000 x168001 x168002 x168003 x168004)) else (impl_AreClaims.l1 k x0 x10 x11 x12 x62 x63 (wrap64 (x64 + 1)) x168000 x168001 x168002 x168003 x168004)) else (none)) else (none)) else (impl_AreClaims.l0 k x0 x10 x11 (wrap64 (x12 + 1)))
end
def impl_AreClaims.f (k : Nat) (l0 : List (S84)) : Option (Bool) := if (l0.length : Int) > 20 then (some false) else (impl_AreClaims.l0 k l0 l0 (l0.length : Int) 0)
theorem impl_AreClaims.mono_l : ∀ k, (∀ y0 y1 y2 y3, LeO (impl_AreClaims.l0 k y0 y1 y2 y3) (impl_AreClaims.l0 (k + 1) y0 y1 y2 y3)) ∧ (∀ y0 y1 y2 y3 y4 y5 y6 y7 y8 y9 y10, LeO (impl_AreClaims.j1 k y0 y1 y2 y3 y4 y5 y6 y7 y8 y9 y10) (impl_AreClaims.j1 (k + 1) y0 y1 y2 y3 y4 y5 y6 y7 y8 y9 y10)) ∧ (∀ y0 y1 y2 y3 y4 y5 y6 y7 y8 y9 y10 y11, LeO (impl_AreClaims.l1 k y0 y1 y2 y3 y4 y5 y6 y7 y8 y9 y10 y11) (impl_AreClaims.l1 (k + 1) y0 y1 y2 y3 y4 y5 y6 y7 y8 y9 y10 y11))
 | 0 => ⟨fun _ _ _ _ r h => by simp [impl_AreClaims.l0] at h, fun _ _ _ _ _ _ _ _ _ _ _ r h => by simp [impl_AreClaims.j1] at h, fun _ _ _ _ _ _ _ _ _ _ _ _ r h => by simp [impl_AreClaims.l1] at h⟩
 | k + 1 => by
  obtain ⟨ih0, ih1, ih2⟩ := impl_AreClaims.mono_l k
  refine ⟨?_, ?_, ?_⟩
  ·intro y0 y1 y2 y3
   unfold impl_AreClaims.l0
   repeat' first
   | (with_reducible exact ih0 _ _ _ _)
   | (with_reducible exact ih1 _ _ _ _ _ _ _ _ _ _ _)
   | (with_reducible exact ih2 _ _ _ _ _ _ _ _ _ _ _ _)
   | (with_reducible exact LeO.refl _)
   | (with_reducible exact LeO.none _)
   | (with_reducible refine LeO.ite ?_ ?_)
   | (with_reducible refine LeO.bind ?_ (fun _ => ?_))
   | exact ih0 _ _ _ _
   | exact ih1 _ _ _ _ _ _ _ _ _ _ _
   | exact ih2 _ _ _ _ _ _ _ _ _ _ _ _
   | exact LeO.none _
   | refine LeO.ite ?_ ?_
   | refine LeO.bind ?_ (fun _ => ?_)
  ·intro y0 y1 y2 y3 y4 y5 y6 y7 y8 y9 y10
   unfold impl_AreClaims.j1
   repeat' first
   | (with_reducible exact ih0 _ _ _ _)
   | (with_reducible exact ih1 _ _ _ _ _ _ _ _ _ _ _)
   | (with_reducible exact ih2 _ _ _ _ _ _ _ _ _ _ _ _)
   | (with_reducible exact LeO.refl _)
   | (with_reducible exact LeO.none _)
   | (with_reducible refine LeO.ite ?_ ?_)
   | (with_reducible refine LeO.bind ?_ (fun _ => ?_))
   | exact ih0 _ _ _ _
   | exact ih1 _ _ _ _ _ _ _ _ _ _ _
   | exact ih2 _ _ _ _ _ _ _ _ _ _ _ _
   | exact LeO.none _
   | refine LeO.ite ?_ ?_
   | refine LeO.bind ?_ (fun _ => ?_)
  ·intro y0 y1 y2 y3 y4 y5 y6 y7 y8 y9 y10 y11
   unfold impl_AreClaims.l1
   repeat' first
   | (with_reducible exact ih0 _ _ _ _)
   | (with_reducible exact ih1 _ _ _ _ _ _ _ _ _ _ _)
   | (with_reducible exact ih2 _ _ _ _ _ _ _ _ _ _ _ _)
   | (with_reducible exact LeO.refl _)
   | (with_reducible exact LeO.none _)
   | (with_reducible refine LeO.ite ?_ ?_)
   | (with_reducible refine LeO.bind ?_ (fun _ => ?_))
   | exact ih0 _ _ _ _
   | exact ih1 _ _ _ _ _ _ _ _ _ _ _
   | exact ih2 _ _ _ _ _ _ _ _ _ _ _ _
   | exact LeO.none _
   | refine LeO.ite ?_ ?_
   | refine LeO.bind ?_ (fun _ => ?_)
theorem impl_AreClaims.mono : ∀ a0 k, LeO (impl_AreClaims.f k a0) (impl_AreClaims.f (k + 1) a0) := by
 intro a0 k
 obtain ⟨ih0, ih1, ih2⟩ := impl_AreClaims.mono_l k
 unfold impl_AreClaims.f
 repeat' first
   | (with_reducible exact ih0 _ _ _ _)
   | (with_reducible exact ih1 _ _ _ _ _ _ _ _ _ _ _)
   | (with_reducible exact ih2 _ _ _ _ _ _ _ _ _ _ _ _)
   | (with_reducible exact LeO.refl _)
   | (with_reducible exact LeO.none _)
   | (with_reducible refine LeO.ite ?_ ?_)
   | (with_reducible refine LeO.bind ?_ (fun _ => ?_))
   | exact ih0 _ _ _ _
   | exact ih1 _ _ _ _ _ _ _ _ _ _ _
   | exact ih2 _ _ _ _ _ _ _ _ _ _ _ _
   | exact LeO.none _
   | refine LeO.ite ?_ ?_
   | refine LeO.bind ?_ (fun _ => ?_)
def impl_AreClaims.T6 : Bool × List (List Nat × List Nat) := (true, [([], []), ([0], [0]), ([1], [1]), ([2], [2]), ([3, 2], [3]), ([4], [4]), ([5, 4], [4, 5]), ([6, 4, 4], [4, 6]), ([7], [7]), ([8, 7], [7, 8]), ([7], [7]), ([7], [7]), ([11, 7], [7, 11]), ([10, 12, 7], [7, 10, 12]), ([13, 7], [7, 13]), ([14, 7], [7, 14]), ([9, 15, 7], [7, 9, 15]), ([7, 16, 4], [4, 7, 16]), ([4, 17], [4, 17]), ([18, 7], [18]), ([19], [19]), ([20, 19], [19, 20]), ([21, 19, 19], [19, 21]), ([22, 19], [19, 22]), ([19, 23], [19, 23]), ([24, 22], [24]), ([25], [25]), ([26, 25], [25, 26]), ([27, 25, 25], [25, 27]), ([28, 25], [25, 28]), ([25, 29], [25, 29]), ([30, 28], [30]), ([31], [31]), ([32, 31], [31, 32]), ([33, 31, 31], [31, 33]), ([34, 31], [31, 34]), ([31, 35], [31, 35]), ([36, 34], [36]), ([37], [37]), ([38, 37], [37, 38]), ([39, 37, 37], [37, 39]), ([40, 37], [37, 40]), ([37, 41], [37, 41])])
def impl_AreClaims.B6 : List Nat := [0, 1, 3, 7, 15, 31, 63, 127, 255, 511, 255, 255, 2303, 7423, 15615, 31999, 65535, 131071, 262143, 524287, 1048575, 2097151, 4194303, 8388607, 16777215, 33554431, 67108863, 134217727, 268435455, 536870911, 1073741823, 2147483647, 4294967295, 8589934591, 17179869183, 34359738367, 68719476735, 137438953471, 274877906943, 549755813887, 1099511627775, 2199023255551, 4398046511103]
theorem impl_AreClaims.tab6 : rtab .any (opsOf Try.f79 6) = impl_AreClaims.T6 := by kernel_rfl
theorem impl_AreClaims.bits6 : waitsOk impl_AreClaims.T6.2 impl_AreClaims.B6 = true := by kernel_rfl
set_option maxHeartbeats 8000000 in
set_option maxRecDepth 100000 in
theorem impl_AreClaims.calls (k : Nat) (A0 : Option Addr) (c0 : Nat) (l0 : List (S84)) (r : Bool) (w : World) (hr0 : Kd.C k84 w A0 l0.length l0) (hc0 : l0.length ≤ c0) (h : impl_AreClaims.f k l0 = some r) :
  Calls Try.prog 79 #[.slice A0 l0.length c0] w fun e w' => e = .returned (.bool r) ∧ Below w.heap.size w w' := by
 have hu84 := Try.underlying84
 have HR0 := Aside0.mk hr0
 have HC0 := Aside0.mk hc0
 clear hr0 hc0
 have HB := Aside0.mk (Below.refl w.heap.size w)
 have H : (if (l0.length : Int) > 20 then (some false) else (impl_AreClaims.l0 k l0 l0 (l0.length : Int) 0)) = some r := h
 clear h
 by_cases c2 : (l0.length : Int) > 20
 ·rw [if_pos c2] at H
  have c2b0 : decide (20 < (l0.length : Int)) = true := decide_eq_true c2
  have c2b1 : decide (20 < l0.length) = true := decide_eq_true (by omega)
  clear c2
  obtain rfl := Option.some.inj H
  go_enter Try.func79, Try.ntmps79
  go_wp2
  go_ret
  exact ⟨by first | rfl | (simp [errW_none, errW_some] <;> rfl) | (simp [*, errW_none, errW_some] <;> rfl), by repeat (first | (with_reducible first | exact HB.out | apply bA | apply bN | apply bD) | exact HB.out)⟩
 ·rw [if_neg c2] at H
  have c2b0 : decide (20 < (l0.length : Int)) = false := decide_eq_false c2
  have c2b1 : decide (20 < l0.length) = false := decide_eq_false (by omega)
  clear c2
  have H' := Aside0.mk H
  clear H
  go_enter Try.func79, Try.ntmps79
  go_wp2
  go_loopg [12] k (fun kq v12 w' => ∃ (x12_1 : Int), v12 = .int .i64 x12_1 ∧ Aside0 (impl_AreClaims.l0 kq l0 l0 (l0.length : Int) x12_1 = some r) ∧ Aside0 (kq ≤ k) ∧ Aside0 (Below w.heap.size w w'))
  case atStart => exact ⟨(0), (by first | rfl | (simp; done) | (simp [*]; done)), H', ⟨Nat.le_refl _⟩, ⟨by repeat (first | (with_reducible first | exact HB.out | apply bA | apply bN | apply bD) | exact HB.out)⟩⟩
  case round =>
   clear H'
   try clear c2
   try clear c2b0
   try clear c2b1
   try clear p2
   obtain ⟨x12_1, rfl, HA, HK1, HB⟩ := hrel
   cases gk with
   | zero => exact absurd HA.out (by simp [impl_AreClaims.l0])
   | succ k1 =>
    have H := HA.out
    clear HA
    simp only [impl_AreClaims.l0] at H
    by_cases c3 : x12_1 < (l0.length : Int)
    ·rw [if_pos c3] at H
     have c3b0 : decide (x12_1 < (l0.length : Int)) = true := decide_eq_true c3
     clear c3
     by_cases c4 : 0 ≤ x12_1
     ·rw [if_pos c4] at H
      have c4b0 : decide (0 ≤ x12_1) = true := decide_eq_true c4
      clear c4
      by_cases c5 : x12_1 < (l0.length : Int)
      ·rw [if_pos c5] at H
       have c5b0 : decide (x12_1 < (l0.length : Int)) = true := decide_eq_true c5
       clear c5
       have HC6 := Aside0.mk H
       clear H
       have p166 : 0 ≤ (x12_1 : Int) := of_decide_eq_true ‹_›
       have q166 : x12_1 < (l0.length : Int) := of_decide_eq_true ‹_›
       obtain ⟨ad166, e166, hx166_0, hx166_1, hx166_2, hx166_3, hx166_4⟩ := at_T84 HR0.out x12_1 p166 q166
       cases e166
       replace hx166_0 := (HB.out.cell (World.block_lt_of_cell? w _ hx166_0)).trans hx166_0
       replace hx166_1 := (HB.out.cell (World.block_lt_of_cell? w _ hx166_1)).trans hx166_1
       replace hx166_2 := (HB.out.cell (World.block_lt_of_cell? w _ hx166_2)).trans hx166_2
       replace hx166_3 := (HB.out.cell (World.block_lt_of_cell? w _ hx166_3)).trans hx166_3
       replace hx166_4 := (HB.out.cell (World.block_lt_of_cell? w _ hx166_4)).trans hx166_4
       replace p166 := eq_true p166
       replace q166 := eq_true q166
       go_upto_region 6 with (first | ((with_reducible refine gate_dst (N := 4) rfl ?_); refine box_event ?hg (N := 4) ?hd (cs := #[.int .i64 0, .int .i64 0, .int .i64 0, .int .i64 0, .int .i64 0]) (t := 84) ?hr ?_; (case hd => rfl); (case hg => rfl); (case hr => first | (go_simp; done) | (go_simp; rfl)); intro gb167 hg w7 hbox hb; have n0_ := Aside0.mk (below_step (qB HB) hb); have n1_ := Aside0.mk (hbox); have n2_ := Aside0.mk ((by rw [hg]; exact (below_size (qB HB)) : w.heap.size ≤ gb167)); have n3_ := Aside0.mk ((by rw [hg]; exact (below_size (qB HB)) : w.heap.size ≤ gb167)); clear HB; have HB := n0_; have BK167 := n1_; have GW167 := n2_; have GE167 := n3_; clear n0_ n1_ n2_ n3_; clear hb hbox hg; have hcz8_0 : w7.cell? ⟨gb167, 0, none⟩ = some (.int .i64 0) := cC BK167 0; have hcz8_1 : w7.cell? ⟨gb167, 1, none⟩ = some (.int .i64 0) := cC BK167 1; have hcz8_2 : w7.cell? ⟨gb167, 2, none⟩ = some (.int .i64 0) := cC BK167 2; have hcz8_3 : w7.cell? ⟨gb167, 3, none⟩ = some (.int .i64 0) := cC BK167 3; have hcz8_4 : w7.cell? ⟨gb167, 4, none⟩ = some (.int .i64 0) := cC BK167 4; have hfz8_0 := blk_frozen BK167.out 0; have hfz8_1 := blk_frozen BK167.out 1; have hfz8_2 := blk_frozen BK167.out 2; have hfz8_3 := blk_frozen BK167.out 3; have hfz8_4 := blk_frozen BK167.out 4))
       (try simp only [Act.put, sA, sZ, sS])
       go_cut [59] (fun v59 wc => ∃ (kq : Nat) (x59_5 : Bool), v59 = .bool x59_5 ∧ Aside0 (impl_AreClaims.j1 kq l0 x12_1 l0 (l0.length : Int) x12_1 x59_5 ((rd_T84 l0 x12_1).f0) ((rd_T84 l0 x12_1).f1) ((rd_T84 l0 x12_1).f2) ((rd_T84 l0 x12_1).f3) ((rd_T84 l0 x12_1).f4) = some r) ∧ Aside0 (kq ≤ k1) ∧ Aside0 (wc.heap[gb167]? = some (.cells #[.int .i64 ((rd_T84 l0 x12_1).f0), .int .i64 ((rd_T84 l0 x12_1).f1), .int .i64 ((rd_T84 l0 x12_1).f2), .int .i64 ((rd_T84 l0 x12_1).f3), .int .i64 ((rd_T84 l0 x12_1).f4)] 84 (0, 0))) ∧ Aside0 (Below w.heap.size w wc))
       case first =>
        have H := HC6.out
        clear HC6
        replace H := Option.bind_eq_some_iff.mp H
        obtain ⟨t168, A90, H⟩ := H
        replace H : (if t168 = true then (if x12_1 > 0 then (if 0 ≤ (wrap64 (x12_1 - 1)) then (if (wrap64 (x12_1 - 1)) < (l0.length : Int) then (if ((rd_T84 l0 x12_1).f0) ≤ ((rd_T84 l0 (wrap64 (x12_1 - 1))).f0) then (impl_AreClaims.j1 k1 l0 x12_1 l0 (l0.length : Int) x12_1 true ((rd_T84 l0 x12_1).f0) ((rd_T84 l0 x12_1).f1) ((rd_T84 l0 x12_1).f2) ((rd_T84 l0 x12_1).f3) ((rd_T84 l0 x12_1).f4)) else ((impl_InRange.f ((rd_T84 l0 x12_1).f1) 1 999).bind fun t170 => (if t170 = true then ((impl_InRange.f ((rd_T84 l0 x12_1).f2) 1 999).bind fun t171 => (if t171 = true then ((impl_InRange.f ((rd_T84 l0 x12_1).f3) 0 100000).bind fun t172 => (if t172 = true then ((impl_InRange.f ((rd_T84 l0 x12_1).f4) 0 3).bind fun t173 => (impl_AreClaims.j1 k1 l0 x12_1 l0 (l0.length : Int) x12_1 (!t173) ((rd_T84 l0 x12_1).f0) ((rd_T84 l0 x12_1).f1) ((rd_T84 l0 x12_1).f2) ((rd_T84 l0 x12_1).f3) ((rd_T84 l0 x12_1).f4))) else (impl_AreClaims.j1 k1 l0 x12_1 l0 (l0.length : Int) x12_1 true ((rd_T84 l0 x12_1).f0) ((rd_T84 l0 x12_1).f1) ((rd_T84 l0 x12_1).f2) ((rd_T84 l0 x12_1).f3) ((rd_T84 l0 x12_1).f4)))) else (impl_AreClaims.j1 k1 l0 x12_1 l0 (l0.length : Int) x12_1 true ((rd_T84 l0 x12_1).f0) ((rd_T84 l0 x12_1).f1) ((rd_T84 l0 x12_1).f2) ((rd_T84 l0 x12_1).f3) ((rd_T84 l0 x12_1).f4)))) else (impl_AreClaims.j1 k1 l0 x12_1 l0 (l0.length : Int) x12_1 true ((rd_T84 l0 x12_1).f0) ((rd_T84 l0 x12_1).f1) ((rd_T84 l0 x12_1).f2) ((rd_T84 l0 x12_1).f3) ((rd_T84 l0 x12_1).f4))))) else (none)) else (none)) else ((impl_InRange.f ((rd_T84 l0 x12_1).f1) 1 999).bind fun t174 => (if t174 = true then ((impl_InRange.f ((rd_T84 l0 x12_1).f2) 1 999).bind fun t175 => (if t175 = true then ((impl_InRange.f ((rd_T84 l0 x12_1).f3) 0 100000).bind fun t176 => (if t176 = true then ((impl_InRange.f ((rd_T84 l0 x12_1).f4) 0 3).bind fun t177 => (impl_AreClaims.j1 k1 l0 x12_1 l0 (l0.length : Int) x12_1 (!t177) ((rd_T84 l0 x12_1).f0) ((rd_T84 l0 x12_1).f1) ((rd_T84 l0 x12_1).f2) ((rd_T84 l0 x12_1).f3) ((rd_T84 l0 x12_1).f4))) else (impl_AreClaims.j1 k1 l0 x12_1 l0 (l0.length : Int) x12_1 true ((rd_T84 l0 x12_1).f0) ((rd_T84 l0 x12_1).f1) ((rd_T84 l0 x12_1).f2) ((rd_T84 l0 x12_1).f3) ((rd_T84 l0 x12_1).f4)))) else (impl_AreClaims.j1 k1 l0 x12_1 l0 (l0.length : Int) x12_1 true ((rd_T84 l0 x12_1).f0) ((rd_T84 l0 x12_1).f1) ((rd_T84 l0 x12_1).f2) ((rd_T84 l0 x12_1).f3) ((rd_T84 l0 x12_1).f4)))) else (impl_AreClaims.j1 k1 l0 x12_1 l0 (l0.length : Int) x12_1 true ((rd_T84 l0 x12_1).f0) ((rd_T84 l0 x12_1).f1) ((rd_T84 l0 x12_1).f2) ((rd_T84 l0 x12_1).f3) ((rd_T84 l0 x12_1).f4))))) else (impl_AreClaims.j1 k1 l0 x12_1 l0 (l0.length : Int) x12_1 true ((rd_T84 l0 x12_1).f0) ((rd_T84 l0 x12_1).f1) ((rd_T84 l0 x12_1).f2) ((rd_T84 l0 x12_1).f3) ((rd_T84 l0 x12_1).f4))) = some r := H
        have A9 := Aside0.mk A90
        clear A90
        by_cases c10 : t168 = true
        ·subst c10
         have H1 : (if x12_1 > 0 then (if 0 ≤ (wrap64 (x12_1 - 1)) then (if (wrap64 (x12_1 - 1)) < (l0.length : Int) then (if ((rd_T84 l0 x12_1).f0) ≤ ((rd_T84 l0 (wrap64 (x12_1 - 1))).f0) then (impl_AreClaims.j1 k1 l0 x12_1 l0 (l0.length : Int) x12_1 true ((rd_T84 l0 x12_1).f0) ((rd_T84 l0 x12_1).f1) ((rd_T84 l0 x12_1).f2) ((rd_T84 l0 x12_1).f3) ((rd_T84 l0 x12_1).f4)) else ((impl_InRange.f ((rd_T84 l0 x12_1).f1) 1 999).bind fun t170 => (if t170 = true then ((impl_InRange.f ((rd_T84 l0 x12_1).f2) 1 999).bind fun t171 => (if t171 = true then ((impl_InRange.f ((rd_T84 l0 x12_1).f3) 0 100000).bind fun t172 => (if t172 = true then ((impl_InRange.f ((rd_T84 l0 x12_1).f4) 0 3).bind fun t173 => (impl_AreClaims.j1 k1 l0 x12_1 l0 (l0.length : Int) x12_1 (!t173) ((rd_T84 l0 x12_1).f0) ((rd_T84 l0 x12_1).f1) ((rd_T84 l0 x12_1).f2) ((rd_T84 l0 x12_1).f3) ((rd_T84 l0 x12_1).f4))) else (impl_AreClaims.j1 k1 l0 x12_1 l0 (l0.length : Int) x12_1 true ((rd_T84 l0 x12_1).f0) ((rd_T84 l0 x12_1).f1) ((rd_T84 l0 x12_1).f2) ((rd_T84 l0 x12_1).f3) ((rd_T84 l0 x12_1).f4)))) else (impl_AreClaims.j1 k1 l0 x12_1 l0 (l0.length : Int) x12_1 true ((rd_T84 l0 x12_1).f0) ((rd_T84 l0 x12_1).f1) ((rd_T84 l0 x12_1).f2) ((rd_T84 l0 x12_1).f3) ((rd_T84 l0 x12_1).f4)))) else (impl_AreClaims.j1 k1 l0 x12_1 l0 (l0.length : Int) x12_1 true ((rd_T84 l0 x12_1).f0) ((rd_T84 l0 x12_1).f1) ((rd_T84 l0 x12_1).f2) ((rd_T84 l0 x12_1).f3) ((rd_T84 l0 x12_1).f4))))) else (none)) else (none)) else ((impl_InRange.f ((rd_T84 l0 x12_1).f1) 1 999).bind fun t174 => (if t174 = true then ((impl_InRange.f ((rd_T84 l0 x12_1).f2) 1 999).bind fun t175 => (if t175 = true then ((impl_InRange.f ((rd_T84 l0 x12_1).f3) 0 100000).bind fun t176 => (if t176 = true then ((impl_InRange.f ((rd_T84 l0 x12_1).f4) 0 3).bind fun t177 => (impl_AreClaims.j1 k1 l0 x12_1 l0 (l0.length : Int) x12_1 (!t177) ((rd_T84 l0 x12_1).f0) ((rd_T84 l0 x12_1).f1) ((rd_T84 l0 x12_1).f2) ((rd_T84 l0 x12_1).f3) ((rd_T84 l0 x12_1).f4))) else (impl_AreClaims.j1 k1 l0 x12_1 l0 (l0.length : Int) x12_1 true ((rd_T84 l0 x12_1).f0) ((rd_T84 l0 x12_1).f1) ((rd_T84 l0 x12_1).f2) ((rd_T84 l0 x12_1).f3) ((rd_T84 l0 x12_1).f4)))) else (impl_AreClaims.j1 k1 l0 x12_1 l0 (l0.length : Int) x12_1 true ((rd_T84 l0 x12_1).f0) ((rd_T84 l0 x12_1).f1) ((rd_T84 l0 x12_1).f2) ((rd_T84 l0 x12_1).f3) ((rd_T84 l0 x12_1).f4)))) else (impl_AreClaims.j1 k1 l0 x12_1 l0 (l0.length : Int) x12_1 true ((rd_T84 l0 x12_1).f0) ((rd_T84 l0 x12_1).f1) ((rd_T84 l0 x12_1).f2) ((rd_T84 l0 x12_1).f3) ((rd_T84 l0 x12_1).f4))))) = some r := by rw [if_pos rfl] at H; exact H
         clear H
         have H := H1
         clear H1
         by_cases c11 : x12_1 > 0
         ·rw [if_pos c11] at H
          have c11b0 : decide (0 < x12_1) = true := decide_eq_true c11
          clear c11
          (first | rw [c11b0] | (simp only [i64_w, i32_w]; rw [c11b0]) | skip)
          obtain ⟨ji12, hji12⟩ : ∃ j_ : Int, (wrap64 (x12_1 - 1)) = j_ := ⟨_, rfl⟩
          replace H : (if 0 ≤ (ji12) then (if (ji12) < (l0.length : Int) then (if ((rd_T84 l0 x12_1).f0) ≤ ((rd_T84 l0 (ji12)).f0) then (impl_AreClaims.j1 k1 l0 x12_1 l0 (l0.length : Int) x12_1 true ((rd_T84 l0 x12_1).f0) ((rd_T84 l0 x12_1).f1) ((rd_T84 l0 x12_1).f2) ((rd_T84 l0 x12_1).f3) ((rd_T84 l0 x12_1).f4)) else ((impl_InRange.f ((rd_T84 l0 x12_1).f1) 1 999).bind fun t170 => (if t170 = true then ((impl_InRange.f ((rd_T84 l0 x12_1).f2) 1 999).bind fun t171 => (if t171 = true then ((impl_InRange.f ((rd_T84 l0 x12_1).f3) 0 100000).bind fun t172 => (if t172 = true then ((impl_InRange.f ((rd_T84 l0 x12_1).f4) 0 3).bind fun t173 => (impl_AreClaims.j1 k1 l0 x12_1 l0 (l0.length : Int) x12_1 (!t173) ((rd_T84 l0 x12_1).f0) ((rd_T84 l0 x12_1).f1) ((rd_T84 l0 x12_1).f2) ((rd_T84 l0 x12_1).f3) ((rd_T84 l0 x12_1).f4))) else (impl_AreClaims.j1 k1 l0 x12_1 l0 (l0.length : Int) x12_1 true ((rd_T84 l0 x12_1).f0) ((rd_T84 l0 x12_1).f1) ((rd_T84 l0 x12_1).f2) ((rd_T84 l0 x12_1).f3) ((rd_T84 l0 x12_1).f4)))) else (impl_AreClaims.j1 k1 l0 x12_1 l0 (l0.length : Int) x12_1 true ((rd_T84 l0 x12_1).f0) ((rd_T84 l0 x12_1).f1) ((rd_T84 l0 x12_1).f2) ((rd_T84 l0 x12_1).f3) ((rd_T84 l0 x12_1).f4)))) else (impl_AreClaims.j1 k1 l0 x12_1 l0 (l0.length : Int) x12_1 true ((rd_T84 l0 x12_1).f0) ((rd_T84 l0 x12_1).f1) ((rd_T84 l0 x12_1).f2) ((rd_T84 l0 x12_1).f3) ((rd_T84 l0 x12_1).f4))))) else (none)) else (none)) = some r := by first | (rw [hji12] at H; exact H) | (simp only [hji12] at H ⊢; exact H)
          (try rw [hji12] at A9)
          have hji12w : (IntKind.i64.wrap (x12_1 - 1)) = ji12 := (i64_w _).trans hji12
          by_cases c13 : 0 ≤ (ji12)
          ·rw [if_pos c13] at H
           have c13b0 : decide (0 ≤ (ji12)) = true := decide_eq_true c13
           clear c13
           by_cases c14 : (ji12) < (l0.length : Int)
           ·rw [if_pos c14] at H
            have c14b0 : decide ((ji12) < (l0.length : Int)) = true := decide_eq_true c14
            clear c14
            by_cases c15 : ((rd_T84 l0 x12_1).f0) ≤ ((rd_T84 l0 (ji12)).f0)
            ·rw [if_pos c15] at H
             have c15b0 : decide (((rd_T84 l0 x12_1).f0) ≤ ((rd_T84 l0 (ji12)).f0)) = true := decide_eq_true c15
             clear c15
             have H' := Aside0.mk H
             clear H
             try go_wp2
             have n0_ : Aside0 ((((((w7.setCell ⟨gb167, 0, none⟩ (.int .i64 ((rd_T84 l0 x12_1).f0))).setCell ⟨gb167, 1, none⟩ (.int .i64 ((rd_T84 l0 x12_1).f1))).setCell ⟨gb167, 2, none⟩ (.int .i64 ((rd_T84 l0 x12_1).f2))).setCell ⟨gb167, 3, none⟩ (.int .i64 ((rd_T84 l0 x12_1).f3))).setCell ⟨gb167, 4, none⟩ (.int .i64 ((rd_T84 l0 x12_1).f4))).heap[gb167]? = some (.cells #[.int .i64 ((rd_T84 l0 x12_1).f0), .int .i64 ((rd_T84 l0 x12_1).f1), .int .i64 ((rd_T84 l0 x12_1).f2), .int .i64 ((rd_T84 l0 x12_1).f3), .int .i64 ((rd_T84 l0 x12_1).f4)] 84 (0, 0))) := ⟨by (with_reducible repeat first | refine kN ?_ _ | refine kD ?_ | refine kA ?_ _); refine blk_put (cs := #[.int .i64 ((rd_T84 l0 x12_1).f0), .int .i64 ((rd_T84 l0 x12_1).f1), .int .i64 ((rd_T84 l0 x12_1).f2), .int .i64 ((rd_T84 l0 x12_1).f3), .int .i64 0]) ?_ 4 _ rfl; (with_reducible repeat first | refine kN ?_ _ | refine kD ?_ | refine kA ?_ _); refine blk_put (cs := #[.int .i64 ((rd_T84 l0 x12_1).f0), .int .i64 ((rd_T84 l0 x12_1).f1), .int .i64 ((rd_T84 l0 x12_1).f2), .int .i64 0, .int .i64 0]) ?_ 3 _ rfl; (with_reducible repeat first | refine kN ?_ _ | refine kD ?_ | refine kA ?_ _); refine blk_put (cs := #[.int .i64 ((rd_T84 l0 x12_1).f0), .int .i64 ((rd_T84 l0 x12_1).f1), .int .i64 0, .int .i64 0, .int .i64 0]) ?_ 2 _ rfl; (with_reducible repeat first | refine kN ?_ _ | refine kD ?_ | refine kA ?_ _); refine blk_put (cs := #[.int .i64 ((rd_T84 l0 x12_1).f0), .int .i64 0, .int .i64 0, .int .i64 0, .int .i64 0]) ?_ 1 _ rfl; (with_reducible repeat first | refine kN ?_ _ | refine kD ?_ | refine kA ?_ _); refine blk_put (cs := #[.int .i64 0, .int .i64 0, .int .i64 0, .int .i64 0, .int .i64 0]) ?_ 0 _ rfl; (with_reducible repeat first | refine kN ?_ _ | refine kD ?_ | refine kA ?_ _); exact BK167.out⟩
             have n1_ : Aside0 (Below w.heap.size w (((((w7.setCell ⟨gb167, 0, none⟩ (.int .i64 ((rd_T84 l0 x12_1).f0))).setCell ⟨gb167, 1, none⟩ (.int .i64 ((rd_T84 l0 x12_1).f1))).setCell ⟨gb167, 2, none⟩ (.int .i64 ((rd_T84 l0 x12_1).f2))).setCell ⟨gb167, 3, none⟩ (.int .i64 ((rd_T84 l0 x12_1).f3))).setCell ⟨gb167, 4, none⟩ (.int .i64 ((rd_T84 l0 x12_1).f4)))) := ⟨by repeat (first | (with_reducible first | exact HB.out | apply bA | apply bN | apply bD | refine bS ?_ GE167.out) | exact HB.out)⟩
             (try clear BK167)
             (try clear HB)
             generalize (((((w7.setCell ⟨gb167, 0, none⟩ (.int .i64 ((rd_T84 l0 x12_1).f0))).setCell ⟨gb167, 1, none⟩ (.int .i64 ((rd_T84 l0 x12_1).f1))).setCell ⟨gb167, 2, none⟩ (.int .i64 ((rd_T84 l0 x12_1).f2))).setCell ⟨gb167, 3, none⟩ (.int .i64 ((rd_T84 l0 x12_1).f3))).setCell ⟨gb167, 4, none⟩ (.int .i64 ((rd_T84 l0 x12_1).f4))) = w16 at n0_ n1_ ⊢
             have BK167 := n0_
             have HB := n1_
             clear n0_ n1_
             have n0_ := Aside0.mk (blk_drew BK167.out)
             have n1_ := Aside0.mk (below_drew1 HB.out)
             clear BK167
             clear HB
             have BK167 := n0_
             have HB := n1_
             clear n0_ n1_
             have p169 : 0 ≤ ((ji12) : Int) := of_decide_eq_true ‹_›
             have q169 : (ji12) < (l0.length : Int) := of_decide_eq_true ‹_›
             obtain ⟨ad169, e169, hx169_0, hx169_1, hx169_2, hx169_3, hx169_4⟩ := at_T84 HR0.out (ji12) p169 q169
             have hw169_4 := hx169_4
             have hw169_3 := hx169_3
             have hw169_2 := hx169_2
             have hw169_1 := hx169_1
             have hw169_0 := hx169_0
             obtain rfl : ad166 = ad169 := (by injection e169)
             replace hx169_0 := (HB.out.cell (World.block_lt_of_cell? w _ hx169_0)).trans hx169_0
             replace hx169_1 := (HB.out.cell (World.block_lt_of_cell? w _ hx169_1)).trans hx169_1
             replace hx169_2 := (HB.out.cell (World.block_lt_of_cell? w _ hx169_2)).trans hx169_2
             replace hx169_3 := (HB.out.cell (World.block_lt_of_cell? w _ hx169_3)).trans hx169_3
             replace hx169_4 := (HB.out.cell (World.block_lt_of_cell? w _ hx169_4)).trans hx169_4
             replace p169 := eq_true p169
             replace q169 := eq_true q169
             refine start_ (n := 43) (S := fun w' => w'.cell? ⟨gb167, 0, none⟩ = some (.int .i64 ((rd_T84 l0 x12_1).f0)) ∧ w'.cell? ⟨gb167, 1, none⟩ = some (.int .i64 ((rd_T84 l0 x12_1).f1)) ∧ w'.cell? ⟨gb167, 2, none⟩ = some (.int .i64 ((rd_T84 l0 x12_1).f2)) ∧ w'.cell? ⟨gb167, 3, none⟩ = some (.int .i64 ((rd_T84 l0 x12_1).f3)) ∧ w'.cell? ⟨gb167, 4, none⟩ = some (.int .i64 ((rd_T84 l0 x12_1).f4)) ∧ w'.cell? (ad166.add (((ji12)).toNat * 5)) = some (.int .i64 ((rd_T84 l0 (ji12)).f0)) ∧ w'.cell? ⟨(ad166.add (((ji12)).toNat * 5)).block, (ad166.add (((ji12)).toNat * 5)).off + 1, none⟩ = some (.int .i64 ((rd_T84 l0 (ji12)).f1)) ∧ w'.cell? ⟨(ad166.add (((ji12)).toNat * 5)).block, (ad166.add (((ji12)).toNat * 5)).off + 2, none⟩ = some (.int .i64 ((rd_T84 l0 (ji12)).f2)) ∧ w'.cell? ⟨(ad166.add (((ji12)).toNat * 5)).block, (ad166.add (((ji12)).toNat * 5)).off + 3, none⟩ = some (.int .i64 ((rd_T84 l0 (ji12)).f3)) ∧ w'.cell? ⟨(ad166.add (((ji12)).toNat * 5)).block, (ad166.add (((ji12)).toNat * 5)).off + 4, none⟩ = some (.int .i64 ((rd_T84 l0 (ji12)).f4))) (ds := []) (bR [0, 43]) (by kernel_rfl) rfl rfl ⟨cC BK167 0, cC BK167 1, cC BK167 2, cC BK167 3, cC BK167 4, ((HB.out.cell (World.block_lt_of_cell? w _ hw169_0)).trans hw169_0), ((HB.out.cell (World.block_lt_of_cell? w _ hw169_1)).trans hw169_1), ((HB.out.cell (World.block_lt_of_cell? w _ hw169_2)).trans hw169_2), ((HB.out.cell (World.block_lt_of_cell? w _ hw169_3)).trans hw169_3), ((HB.out.cell (World.block_lt_of_cell? w _ hw169_4)).trans hw169_4)⟩ (fun hHeld => ?_); refine with_tabW impl_AreClaims.tab6 impl_AreClaims.bits6 (fun HT_ HW_ => ?_)
             generalize w16.drew = w17 at BK167 HB hx169_0 hx169_1 hx169_2 hx169_3 hx169_4 hHeld ⊢
             refine pP 0 17 (bR [1, 42]) rfl rfl HT_ ?_
             refine take_ (i := 1) (N := some 18) (v := ?_) (a' := ?_) (bR [2, 41]) rfl rfl (take_ofW HT_.out HW_.out (by kernel_rfl)) (fun _ _ _ h => h) (Or.inl ⟨by rfl, ?_⟩) hHeld ?_ ?_
             rotate_left; (rintro w' ⟨s0, s1, s2, s3, s4, s5, s6, s7, s8, s9⟩; go_simp; with_reducible rfl); rotate_left; (simp only [Act.put, sA, sZ, sS, i64_w]; rfl)
             refine one_ (i := 2) (N := some 19) (bR [3, 40]) rfl rfl (one_of HT_.out (by kernel_rfl)) (by decide) (fun K hK => ?_)
             refine goes_ Try.func114 (by kernel_rfl) rfl #[.int .i64 ((rd_T84 l0 x12_1).f0), .int .i64 1, .int .i64 999] (by rfl) rfl rfl (by (try simp only [mA, mC, mN]); first | done | rfl | (simp only [lD, lT]; rfl)) ?_
             with_reducible refine (impl_InRange.calls ((rd_T84 l0 x12_1).f0) 1 999 true _ A9.out).mono ?_
             rintro e w' ⟨rfl, ⟨nd, rfl⟩⟩
             refine ⟨_, rfl, ?_⟩
             refine hK.out _ _ ⟨cC BK167 0, cC BK167 1, cC BK167 2, cC BK167 3, cC BK167 4, ((HB.out.cell (World.block_lt_of_cell? w _ hw169_0)).trans hw169_0), ((HB.out.cell (World.block_lt_of_cell? w _ hw169_1)).trans hw169_1), ((HB.out.cell (World.block_lt_of_cell? w _ hw169_2)).trans hw169_2), ((HB.out.cell (World.block_lt_of_cell? w _ hw169_3)).trans hw169_3), ((HB.out.cell (World.block_lt_of_cell? w _ hw169_4)).trans hw169_4)⟩ (fun hHeld => ?_)
             clear hK K
             refine norm_ (a' := ?_) ?_ ?_
             rotate_left
             ·show Act.put _ (some 19) _ = _
              simp only [Act.put, sA, sZ, sS, i64_w]
              rfl
             refine pP 3 20 (bR [4, 39]) rfl rfl HT_ ?_
             refine pP 4 21 (bR [5, 38]) rfl rfl HT_ ?_
             refine pP 5 22 (bR [6, 37]) rfl rfl HT_ ?_
             refine pP 6 23 (bR [7, 36]) rfl rfl HT_ ?_
             refine pP 7 24 (bR [8, 35]) rfl rfl HT_ ?_
             refine pP 8 25 (bR [9, 34]) rfl rfl HT_ ?_
             refine pP 10 27 (bR [9, 1, 1, 32]) rfl rfl HT_ ?_
             refine pP 11 28 (bR [9, 1, 2, 31]) rfl rfl HT_ ?_
             refine pP 12 29 (bR [9, 1, 3, 30]) rfl rfl HT_ ?_
             refine pP 13 30 (bR [9, 1, 4, 29]) rfl rfl HT_ ?_
             refine pP 14 31 (bR [9, 1, 5, 28]) rfl rfl HT_ ?_
             refine take_ (i := 9) (N := some 26) (v := ?_) (a' := ?_) (bR [15, 28]) rfl rfl (take_ofW HT_.out HW_.out (by kernel_rfl)) (fun _ _ _ h => h) (Or.inl ⟨by rfl, ?_⟩) hHeld ?_ ?_
             rotate_left; (rintro w' ⟨s0, s1, s2, s3, s4, s5, s6, s7, s8, s9⟩; go_simp; with_reducible rfl); rotate_left; (simp only [Act.put, sA, sZ, sS, i64_w]; rfl)
             refine take_ (i := 15) (N := some 32) (v := ?_) (a' := ?_) (bR [16, 27]) rfl rfl (take_ofW HT_.out HW_.out (by kernel_rfl)) (fun _ _ _ h => h) (Or.inl ⟨by rfl, ?_⟩) hHeld ?_ ?_
             rotate_left; (rintro w' ⟨s0, s1, s2, s3, s4, s5, s6, s7, s8, s9⟩; go_simp; with_reducible rfl); rotate_left; (simp only [Act.put, sA, sZ, sS, i64_w]; rfl)
             refine pP 16 33 (bR [17, 26]) rfl rfl HT_ ?_
             refine pP 17 34 (bR [18, 25]) rfl rfl HT_ ?_
             refine pP 18 35 (bR [19, 24]) rfl rfl HT_ ?_
             refine pP 19 36 (bR [20, 23]) rfl rfl HT_ ?_
             refine pU 20 37 (bR [21, 22]) rfl rfl HT_ ?_
             refine pU 21 38 (bR [22, 21]) rfl rfl HT_ ?_
             refine pU 22 39 (bR [23, 20]) rfl rfl HT_ ?_
             refine pU 23 40 (bR [24, 19]) rfl rfl HT_ ?_
             refine pP 24 41 (bR [25, 18]) rfl rfl HT_ ?_
             refine pP 25 42 (bR [26, 17]) rfl rfl HT_ ?_
             refine pU 26 43 (bR [27, 16]) rfl rfl HT_ ?_
             refine pU 27 44 (bR [28, 15]) rfl rfl HT_ ?_
             refine pU 28 45 (bR [29, 14]) rfl rfl HT_ ?_
             refine pU 29 46 (bR [30, 13]) rfl rfl HT_ ?_
             refine pP 30 47 (bR [31, 12]) rfl rfl HT_ ?_
             refine pP 31 48 (bR [32, 11]) rfl rfl HT_ ?_
             refine pU 32 49 (bR [33, 10]) rfl rfl HT_ ?_
             refine pU 33 50 (bR [34, 9]) rfl rfl HT_ ?_
             refine pU 34 51 (bR [35, 8]) rfl rfl HT_ ?_
             refine pU 35 52 (bR [36, 7]) rfl rfl HT_ ?_
             refine pP 36 53 (bR [37, 6]) rfl rfl HT_ ?_
             refine pP 37 54 (bR [38, 5]) rfl rfl HT_ ?_
             refine pU 38 55 (bR [39, 4]) rfl rfl HT_ ?_
             refine pU 39 56 (bR [40, 3]) rfl rfl HT_ ?_
             refine pU 40 57 (bR [41, 2]) rfl rfl HT_ ?_
             refine pU 41 58 (bR [42, 1]) rfl rfl HT_ ?_
             refine pP 42 59 (bR [43]) rfl rfl HT_ ?_
             refine done_ (done_of HT_.out (by kernel_rfl)) ?_
             try go_wp2
             go_meet
             case rel => exact ⟨_, (true), (by first | rfl | (simp; done) | (simp [*]; done)), H', ⟨by have := HK1.out; first | omega | exact Nat.le_refl _⟩, ⟨by (with_reducible repeat first | refine kN ?_ _ | refine kD ?_ | refine kA ?_ _); exact BK167.out⟩, ⟨by repeat (first | (with_reducible first | exact HB.out | apply bA | apply bN | apply bD | refine bS ?_ GE167.out) | exact HB.out)⟩⟩
            ·rw [if_neg c15] at H
             have c15b0 : decide (((rd_T84 l0 x12_1).f0) ≤ ((rd_T84 l0 (ji12)).f0)) = false := decide_eq_false c15
             clear c15
             replace H := Option.bind_eq_some_iff.mp H
             obtain ⟨t170, A180, H⟩ := H
             replace H : (if t170 = true then ((impl_InRange.f ((rd_T84 l0 x12_1).f2) 1 999).bind fun t171 => (if t171 = true then ((impl_InRange.f ((rd_T84 l0 x12_1).f3) 0 100000).bind fun t172 => (if t172 = true then ((impl_InRange.f ((rd_T84 l0 x12_1).f4) 0 3).bind fun t173 => (impl_AreClaims.j1 k1 l0 x12_1 l0 (l0.length : Int) x12_1 (!t173) ((rd_T84 l0 x12_1).f0) ((rd_T84 l0 x12_1).f1) ((rd_T84 l0 x12_1).f2) ((rd_T84 l0 x12_1).f3) ((rd_T84 l0 x12_1).f4))) else (impl_AreClaims.j1 k1 l0 x12_1 l0 (l0.length : Int) x12_1 true ((rd_T84 l0 x12_1).f0) ((rd_T84 l0 x12_1).f1) ((rd_T84 l0 x12_1).f2) ((rd_T84 l0 x12_1).f3) ((rd_T84 l0 x12_1).f4)))) else (impl_AreClaims.j1 k1 l0 x12_1 l0 (l0.length : Int) x12_1 true ((rd_T84 l0 x12_1).f0) ((rd_T84 l0 x12_1).f1) ((rd_T84 l0 x12_1).f2) ((rd_T84 l0 x12_1).f3) ((rd_T84 l0 x12_1).f4)))) else (impl_AreClaims.j1 k1 l0 x12_1 l0 (l0.length : Int) x12_1 true ((rd_T84 l0 x12_1).f0) ((rd_T84 l0 x12_1).f1) ((rd_T84 l0 x12_1).f2) ((rd_T84 l0 x12_1).f3) ((rd_T84 l0 x12_1).f4))) = some r := H
             have A18 := Aside0.mk A180
             clear A180
             by_cases c19 : t170 = true
             ·subst c19
              have H1 : ((impl_InRange.f ((rd_T84 l0 x12_1).f2) 1 999).bind fun t171 => (if t171 = true then ((impl_InRange.f ((rd_T84 l0 x12_1).f3) 0 100000).bind fun t172 => (if t172 = true then ((impl_InRange.f ((rd_T84 l0 x12_1).f4) 0 3).bind fun t173 => (impl_AreClaims.j1 k1 l0 x12_1 l0 (l0.length : Int) x12_1 (!t173) ((rd_T84 l0 x12_1).f0) ((rd_T84 l0 x12_1).f1) ((rd_T84 l0 x12_1).f2) ((rd_T84 l0 x12_1).f3) ((rd_T84 l0 x12_1).f4))) else (impl_AreClaims.j1 k1 l0 x12_1 l0 (l0.length : Int) x12_1 true ((rd_T84 l0 x12_1).f0) ((rd_T84 l0 x12_1).f1) ((rd_T84 l0 x12_1).f2) ((rd_T84 l0 x12_1).f3) ((rd_T84 l0 x12_1).f4)))) else (impl_AreClaims.j1 k1 l0 x12_1 l0 (l0.length : Int) x12_1 true ((rd_T84 l0 x12_1).f0) ((rd_T84 l0 x12_1).f1) ((rd_T84 l0 x12_1).f2) ((rd_T84 l0 x12_1).f3) ((rd_T84 l0 x12_1).f4)))) = some r := by rw [if_pos rfl] at H; exact H
              clear H
              have H := H1
              clear H1
              replace H := Option.bind_eq_some_iff.mp H
              obtain ⟨t171, A200, H⟩ := H
              replace H : (if t171 = true then ((impl_InRange.f ((rd_T84 l0 x12_1).f3) 0 100000).bind fun t172 => (if t172 = true then ((impl_InRange.f ((rd_T84 l0 x12_1).f4) 0 3).bind fun t173 => (impl_AreClaims.j1 k1 l0 x12_1 l0 (l0.length : Int) x12_1 (!t173) ((rd_T84 l0 x12_1).f0) ((rd_T84 l0 x12_1).f1) ((rd_T84 l0 x12_1).f2) ((rd_T84 l0 x12_1).f3) ((rd_T84 l0 x12_1).f4))) else (impl_AreClaims.j1 k1 l0 x12_1 l0 (l0.length : Int) x12_1 true ((rd_T84 l0 x12_1).f0) ((rd_T84 l0 x12_1).f1) ((rd_T84 l0 x12_1).f2) ((rd_T84 l0 x12_1).f3) ((rd_T84 l0 x12_1).f4)))) else (impl_AreClaims.j1 k1 l0 x12_1 l0 (l0.length : Int) x12_1 true ((rd_T84 l0 x12_1).f0) ((rd_T84 l0 x12_1).f1) ((rd_T84 l0 x12_1).f2) ((rd_T84 l0 x12_1).f3) ((rd_T84 l0 x12_1).f4))) = some r := H
              have A20 := Aside0.mk A200
              clear A200
              by_cases c21 : t171 = true
              ·subst c21
               have H1 : ((impl_InRange.f ((rd_T84 l0 x12_1).f3) 0 100000).bind fun t172 => (if t172 = true then ((impl_InRange.f ((rd_T84 l0 x12_1).f4) 0 3).bind fun t173 => (impl_AreClaims.j1 k1 l0 x12_1 l0 (l0.length : Int) x12_1 (!t173) ((rd_T84 l0 x12_1).f0) ((rd_T84 l0 x12_1).f1) ((rd_T84 l0 x12_1).f2) ((rd_T84 l0 x12_1).f3) ((rd_T84 l0 x12_1).f4))) else (impl_AreClaims.j1 k1 l0 x12_1 l0 (l0.length : Int) x12_1 true ((rd_T84 l0 x12_1).f0) ((rd_T84 l0 x12_1).f1) ((rd_T84 l0 x12_1).f2) ((rd_T84 l0 x12_1).f3) ((rd_T84 l0 x12_1).f4)))) = some r := by rw [if_pos rfl] at H; exact H
               clear H
               have H := H1
               clear H1
               replace H := Option.bind_eq_some_iff.mp H
               obtain ⟨t172, A220, H⟩ := H
               replace H : (if t172 = true then ((impl_InRange.f ((rd_T84 l0 x12_1).f4) 0 3).bind fun t173 => (impl_AreClaims.j1 k1 l0 x12_1 l0 (l0.length : Int) x12_1 (!t173) ((rd_T84 l0 x12_1).f0) ((rd_T84 l0 x12_1).f1) ((rd_T84 l0 x12_1).f2) ((rd_T84 l0 x12_1).f3) ((rd_T84 l0 x12_1).f4))) else (impl_AreClaims.j1 k1 l0 x12_1 l0 (l0.length : Int) x12_1 true ((rd_T84 l0 x12_1).f0) ((rd_T84 l0 x12_1).f1) ((rd_T84 l0 x12_1).f2) ((rd_T84 l0 x12_1).f3) ((rd_T84 l0 x12_1).f4))) = some r := H
               have A22 := Aside0.mk A220
               clear A220
               by_cases c23 : t172 = true
               ·subst c23
                have H1 : ((impl_InRange.f ((rd_T84 l0 x12_1).f4) 0 3).bind fun t173 => (impl_AreClaims.j1 k1 l0 x12_1 l0 (l0.length : Int) x12_1 (!t173) ((rd_T84 l0 x12_1).f0) ((rd_T84 l0 x12_1).f1) ((rd_T84 l0 x12_1).f2) ((rd_T84 l0 x12_1).f3) ((rd_T84 l0 x12_1).f4))) = some r := by rw [if_pos rfl] at H; exact H
                clear H
                have H := H1
                clear H1
                replace H := Option.bind_eq_some_iff.mp H
                obtain ⟨t173, A240, H⟩ := H
                replace H : (impl_AreClaims.j1 k1 l0 x12_1 l0 (l0.length : Int) x12_1 (!t173) ((rd_T84 l0 x12_1).f0) ((rd_T84 l0 x12_1).f1) ((rd_T84 l0 x12_1).f2) ((rd_T84 l0 x12_1).f3) ((rd_T84 l0 x12_1).f4)) = some r := H
                have A24 := Aside0.mk A240
                clear A240
                have H' := Aside0.mk H
                clear H
                try go_wp2
                have n0_ : Aside0 ((((((w7.setCell ⟨gb167, 0, none⟩ (.int .i64 ((rd_T84 l0 x12_1).f0))).setCell ⟨gb167, 1, none⟩ (.int .i64 ((rd_T84 l0 x12_1).f1))).setCell ⟨gb167, 2, none⟩ (.int .i64 ((rd_T84 l0 x12_1).f2))).setCell ⟨gb167, 3, none⟩ (.int .i64 ((rd_T84 l0 x12_1).f3))).setCell ⟨gb167, 4, none⟩ (.int .i64 ((rd_T84 l0 x12_1).f4))).heap[gb167]? = some (.cells #[.int .i64 ((rd_T84 l0 x12_1).f0), .int .i64 ((rd_T84 l0 x12_1).f1), .int .i64 ((rd_T84 l0 x12_1).f2), .int .i64 ((rd_T84 l0 x12_1).f3), .int .i64 ((rd_T84 l0 x12_1).f4)] 84 (0, 0))) := ⟨by (with_reducible repeat first | refine kN ?_ _ | refine kD ?_ | refine kA ?_ _); refine blk_put (cs := #[.int .i64 ((rd_T84 l0 x12_1).f0), .int .i64 ((rd_T84 l0 x12_1).f1), .int .i64 ((rd_T84 l0 x12_1).f2), .int .i64 ((rd_T84 l0 x12_1).f3), .int .i64 0]) ?_ 4 _ rfl; (with_reducible repeat first | refine kN ?_ _ | refine kD ?_ | refine kA ?_ _); refine blk_put (cs := #[.int .i64 ((rd_T84 l0 x12_1).f0), .int .i64 ((rd_T84 l0 x12_1).f1), .int .i64 ((rd_T84 l0 x12_1).f2), .int .i64 0, .int .i64 0]) ?_ 3 _ rfl; (with_reducible repeat first | refine kN ?_ _ | refine kD ?_ | refine kA ?_ _); refine blk_put (cs := #[.int .i64 ((rd_T84 l0 x12_1).f0), .int .i64 ((rd_T84 l0 x12_1).f1), .int .i64 0, .int .i64 0, .int .i64 0]) ?_ 2 _ rfl; (with_reducible repeat first | refine kN ?_ _ | refine kD ?_ | refine kA ?_ _); refine blk_put (cs := #[.int .i64 ((rd_T84 l0 x12_1).f0), .int .i64 0, .int .i64 0, .int .i64 0, .int .i64 0]) ?_ 1 _ rfl; (with_reducible repeat first | refine kN ?_ _ | refine kD ?_ | refine kA ?_ _); refine blk_put (cs := #[.int .i64 0, .int .i64 0, .int .i64 0, .int .i64 0, .int .i64 0]) ?_ 0 _ rfl; (with_reducible repeat first | refine kN ?_ _ | refine kD ?_ | refine kA ?_ _); exact BK167.out⟩
                have n1_ : Aside0 (Below w.heap.size w (((((w7.setCell ⟨gb167, 0, none⟩ (.int .i64 ((rd_T84 l0 x12_1).f0))).setCell ⟨gb167, 1, none⟩ (.int .i64 ((rd_T84 l0 x12_1).f1))).setCell ⟨gb167, 2, none⟩ (.int .i64 ((rd_T84 l0 x12_1).f2))).setCell ⟨gb167, 3, none⟩ (.int .i64 ((rd_T84 l0 x12_1).f3))).setCell ⟨gb167, 4, none⟩ (.int .i64 ((rd_T84 l0 x12_1).f4)))) := ⟨by repeat (first | (with_reducible first | exact HB.out | apply bA | apply bN | apply bD | refine bS ?_ GE167.out) | exact HB.out)⟩
                (try clear BK167)
                (try clear HB)
                generalize (((((w7.setCell ⟨gb167, 0, none⟩ (.int .i64 ((rd_T84 l0 x12_1).f0))).setCell ⟨gb167, 1, none⟩ (.int .i64 ((rd_T84 l0 x12_1).f1))).setCell ⟨gb167, 2, none⟩ (.int .i64 ((rd_T84 l0 x12_1).f2))).setCell ⟨gb167, 3, none⟩ (.int .i64 ((rd_T84 l0 x12_1).f3))).setCell ⟨gb167, 4, none⟩ (.int .i64 ((rd_T84 l0 x12_1).f4))) = w25 at n0_ n1_ ⊢
                have BK167 := n0_
                have HB := n1_
                clear n0_ n1_
                have n0_ := Aside0.mk (blk_drew BK167.out)
                have n1_ := Aside0.mk (below_drew1 HB.out)
                clear BK167
                clear HB
                have BK167 := n0_
                have HB := n1_
                clear n0_ n1_
                have p169 : 0 ≤ ((ji12) : Int) := of_decide_eq_true ‹_›
                have q169 : (ji12) < (l0.length : Int) := of_decide_eq_true ‹_›
                obtain ⟨ad169, e169, hx169_0, hx169_1, hx169_2, hx169_3, hx169_4⟩ := at_T84 HR0.out (ji12) p169 q169
                have hw169_4 := hx169_4
                have hw169_3 := hx169_3
                have hw169_2 := hx169_2
                have hw169_1 := hx169_1
                have hw169_0 := hx169_0
                obtain rfl : ad166 = ad169 := (by injection e169)
                replace hx169_0 := (HB.out.cell (World.block_lt_of_cell? w _ hx169_0)).trans hx169_0
                replace hx169_1 := (HB.out.cell (World.block_lt_of_cell? w _ hx169_1)).trans hx169_1
                replace hx169_2 := (HB.out.cell (World.block_lt_of_cell? w _ hx169_2)).trans hx169_2
                replace hx169_3 := (HB.out.cell (World.block_lt_of_cell? w _ hx169_3)).trans hx169_3
                replace hx169_4 := (HB.out.cell (World.block_lt_of_cell? w _ hx169_4)).trans hx169_4
                replace p169 := eq_true p169
                replace q169 := eq_true q169
                refine start_ (n := 43) (S := fun w' => w'.cell? ⟨gb167, 0, none⟩ = some (.int .i64 ((rd_T84 l0 x12_1).f0)) ∧ w'.cell? ⟨gb167, 1, none⟩ = some (.int .i64 ((rd_T84 l0 x12_1).f1)) ∧ w'.cell? ⟨gb167, 2, none⟩ = some (.int .i64 ((rd_T84 l0 x12_1).f2)) ∧ w'.cell? ⟨gb167, 3, none⟩ = some (.int .i64 ((rd_T84 l0 x12_1).f3)) ∧ w'.cell? ⟨gb167, 4, none⟩ = some (.int .i64 ((rd_T84 l0 x12_1).f4)) ∧ w'.cell? (ad166.add (((ji12)).toNat * 5)) = some (.int .i64 ((rd_T84 l0 (ji12)).f0)) ∧ w'.cell? ⟨(ad166.add (((ji12)).toNat * 5)).block, (ad166.add (((ji12)).toNat * 5)).off + 1, none⟩ = some (.int .i64 ((rd_T84 l0 (ji12)).f1)) ∧ w'.cell? ⟨(ad166.add (((ji12)).toNat * 5)).block, (ad166.add (((ji12)).toNat * 5)).off + 2, none⟩ = some (.int .i64 ((rd_T84 l0 (ji12)).f2)) ∧ w'.cell? ⟨(ad166.add (((ji12)).toNat * 5)).block, (ad166.add (((ji12)).toNat * 5)).off + 3, none⟩ = some (.int .i64 ((rd_T84 l0 (ji12)).f3)) ∧ w'.cell? ⟨(ad166.add (((ji12)).toNat * 5)).block, (ad166.add (((ji12)).toNat * 5)).off + 4, none⟩ = some (.int .i64 ((rd_T84 l0 (ji12)).f4))) (ds := []) (bR [0, 43]) (by kernel_rfl) rfl rfl ⟨cC BK167 0, cC BK167 1, cC BK167 2, cC BK167 3, cC BK167 4, ((HB.out.cell (World.block_lt_of_cell? w _ hw169_0)).trans hw169_0), ((HB.out.cell (World.block_lt_of_cell? w _ hw169_1)).trans hw169_1), ((HB.out.cell (World.block_lt_of_cell? w _ hw169_2)).trans hw169_2), ((HB.out.cell (World.block_lt_of_cell? w _ hw169_3)).trans hw169_3), ((HB.out.cell (World.block_lt_of_cell? w _ hw169_4)).trans hw169_4)⟩ (fun hHeld => ?_); refine with_tabW impl_AreClaims.tab6 impl_AreClaims.bits6 (fun HT_ HW_ => ?_)
                generalize w25.drew = w26 at BK167 HB hx169_0 hx169_1 hx169_2 hx169_3 hx169_4 hHeld ⊢
                refine pP 0 17 (bR [1, 42]) rfl rfl HT_ ?_
                refine take_ (i := 1) (N := some 18) (v := ?_) (a' := ?_) (bR [2, 41]) rfl rfl (take_ofW HT_.out HW_.out (by kernel_rfl)) (fun _ _ _ h => h) (Or.inl ⟨by rfl, ?_⟩) hHeld ?_ ?_
                rotate_left; (rintro w' ⟨s0, s1, s2, s3, s4, s5, s6, s7, s8, s9⟩; go_simp; with_reducible rfl); rotate_left; (simp only [Act.put, sA, sZ, sS, i64_w]; rfl)
                refine one_ (i := 2) (N := some 19) (bR [3, 40]) rfl rfl (one_of HT_.out (by kernel_rfl)) (by decide) (fun K hK => ?_)
                refine goes_ Try.func114 (by kernel_rfl) rfl #[.int .i64 ((rd_T84 l0 x12_1).f0), .int .i64 1, .int .i64 999] (by rfl) rfl rfl (by (try simp only [mA, mC, mN]); first | done | rfl | (simp only [lD, lT]; rfl)) ?_
                with_reducible refine (impl_InRange.calls ((rd_T84 l0 x12_1).f0) 1 999 true _ A9.out).mono ?_
                rintro e w' ⟨rfl, ⟨nd, rfl⟩⟩
                refine ⟨_, rfl, ?_⟩
                refine hK.out _ _ ⟨cC BK167 0, cC BK167 1, cC BK167 2, cC BK167 3, cC BK167 4, ((HB.out.cell (World.block_lt_of_cell? w _ hw169_0)).trans hw169_0), ((HB.out.cell (World.block_lt_of_cell? w _ hw169_1)).trans hw169_1), ((HB.out.cell (World.block_lt_of_cell? w _ hw169_2)).trans hw169_2), ((HB.out.cell (World.block_lt_of_cell? w _ hw169_3)).trans hw169_3), ((HB.out.cell (World.block_lt_of_cell? w _ hw169_4)).trans hw169_4)⟩ (fun hHeld => ?_)
                clear hK K
                refine norm_ (a' := ?_) ?_ ?_
                rotate_left
                ·show Act.put _ (some 19) _ = _
                 simp only [Act.put, sA, sZ, sS, i64_w]
                 rfl
                refine pP 3 20 (bR [4, 39]) rfl rfl HT_ ?_
                refine pP 4 21 (bR [5, 38]) rfl rfl HT_ ?_
                refine pP 5 22 (bR [6, 37]) rfl rfl HT_ ?_
                refine pP 6 23 (bR [7, 36]) rfl rfl HT_ ?_
                refine pP 7 24 (bR [8, 35]) rfl rfl HT_ ?_
                refine pP 8 25 (bR [9, 34]) rfl rfl HT_ ?_
                refine pP 10 27 (bR [9, 1, 1, 32]) rfl rfl HT_ ?_
                refine pP 11 28 (bR [9, 1, 2, 31]) rfl rfl HT_ ?_
                refine pP 12 29 (bR [9, 1, 3, 30]) rfl rfl HT_ ?_
                refine pP 13 30 (bR [9, 1, 4, 29]) rfl rfl HT_ ?_
                refine pP 14 31 (bR [9, 1, 5, 28]) rfl rfl HT_ ?_
                refine take_ (i := 9) (N := some 26) (v := ?_) (a' := ?_) (bR [15, 28]) rfl rfl (take_ofW HT_.out HW_.out (by kernel_rfl)) (fun _ _ _ h => h) (Or.inl ⟨by rfl, ?_⟩) hHeld ?_ ?_
                rotate_left; (rintro w' ⟨s0, s1, s2, s3, s4, s5, s6, s7, s8, s9⟩; go_simp; with_reducible rfl); rotate_left; (simp only [Act.put, sA, sZ, sS, i64_w]; rfl)
                refine take_ (i := 15) (N := some 32) (v := ?_) (a' := ?_) (bR [16, 27]) rfl rfl (take_ofW HT_.out HW_.out (by kernel_rfl)) (fun _ _ _ h => h) (Or.inl ⟨by rfl, ?_⟩) hHeld ?_ ?_
                rotate_left; (rintro w' ⟨s0, s1, s2, s3, s4, s5, s6, s7, s8, s9⟩; go_simp; with_reducible rfl); rotate_left; (simp only [Act.put, sA, sZ, sS, i64_w]; rfl)
                refine pP 16 33 (bR [17, 26]) rfl rfl HT_ ?_
                refine pP 17 34 (bR [18, 25]) rfl rfl HT_ ?_
                refine pP 18 35 (bR [19, 24]) rfl rfl HT_ ?_
                refine pP 19 36 (bR [20, 23]) rfl rfl HT_ ?_
                refine pP 20 37 (bR [21, 22]) rfl rfl HT_ ?_
                refine take_ (i := 21) (N := some 38) (v := ?_) (a' := ?_) (bR [22, 21]) rfl rfl (take_ofW HT_.out HW_.out (by kernel_rfl)) (fun _ _ _ h => h) (Or.inl ⟨by rfl, ?_⟩) hHeld ?_ ?_
                rotate_left; (rintro w' ⟨s0, s1, s2, s3, s4, s5, s6, s7, s8, s9⟩; go_simp; with_reducible rfl); rotate_left; (simp only [Act.put, sA, sZ, sS, i64_w]; rfl)
                refine one_ (i := 22) (N := some 39) (bR [23, 20]) rfl rfl (one_of HT_.out (by kernel_rfl)) (by decide) (fun K hK => ?_)
                refine goes_ Try.func114 (by kernel_rfl) rfl #[.int .i64 ((rd_T84 l0 x12_1).f1), .int .i64 1, .int .i64 999] (by rfl) rfl rfl (by (try simp only [mA, mC, mN]); first | done | rfl | (simp only [lD, lT]; rfl)) ?_
                with_reducible refine (impl_InRange.calls ((rd_T84 l0 x12_1).f1) 1 999 true _ A18.out).mono ?_
                rintro e w' ⟨rfl, ⟨nd, rfl⟩⟩
                refine ⟨_, rfl, ?_⟩
                refine hK.out _ _ ⟨cC BK167 0, cC BK167 1, cC BK167 2, cC BK167 3, cC BK167 4, ((HB.out.cell (World.block_lt_of_cell? w _ hw169_0)).trans hw169_0), ((HB.out.cell (World.block_lt_of_cell? w _ hw169_1)).trans hw169_1), ((HB.out.cell (World.block_lt_of_cell? w _ hw169_2)).trans hw169_2), ((HB.out.cell (World.block_lt_of_cell? w _ hw169_3)).trans hw169_3), ((HB.out.cell (World.block_lt_of_cell? w _ hw169_4)).trans hw169_4)⟩ (fun hHeld => ?_)
                clear hK K
                refine norm_ (a' := ?_) ?_ ?_
                rotate_left
                ·show Act.put _ (some 39) _ = _
                 simp only [Act.put, sA, sZ, sS, i64_w]
                 rfl
                refine pP 23 40 (bR [24, 19]) rfl rfl HT_ ?_
                refine pP 24 41 (bR [25, 18]) rfl rfl HT_ ?_
                refine pP 25 42 (bR [26, 17]) rfl rfl HT_ ?_
                refine pP 26 43 (bR [27, 16]) rfl rfl HT_ ?_
                refine take_ (i := 27) (N := some 44) (v := ?_) (a' := ?_) (bR [28, 15]) rfl rfl (take_ofW HT_.out HW_.out (by kernel_rfl)) (fun _ _ _ h => h) (Or.inl ⟨by rfl, ?_⟩) hHeld ?_ ?_
                rotate_left; (rintro w' ⟨s0, s1, s2, s3, s4, s5, s6, s7, s8, s9⟩; go_simp; with_reducible rfl); rotate_left; (simp only [Act.put, sA, sZ, sS, i64_w]; rfl)
                refine one_ (i := 28) (N := some 45) (bR [29, 14]) rfl rfl (one_of HT_.out (by kernel_rfl)) (by decide) (fun K hK => ?_)
                refine goes_ Try.func114 (by kernel_rfl) rfl #[.int .i64 ((rd_T84 l0 x12_1).f2), .int .i64 1, .int .i64 999] (by rfl) rfl rfl (by (try simp only [mA, mC, mN]); first | done | rfl | (simp only [lD, lT]; rfl)) ?_
                with_reducible refine (impl_InRange.calls ((rd_T84 l0 x12_1).f2) 1 999 true _ A20.out).mono ?_
                rintro e w' ⟨rfl, ⟨nd, rfl⟩⟩
                refine ⟨_, rfl, ?_⟩
                refine hK.out _ _ ⟨cC BK167 0, cC BK167 1, cC BK167 2, cC BK167 3, cC BK167 4, ((HB.out.cell (World.block_lt_of_cell? w _ hw169_0)).trans hw169_0), ((HB.out.cell (World.block_lt_of_cell? w _ hw169_1)).trans hw169_1), ((HB.out.cell (World.block_lt_of_cell? w _ hw169_2)).trans hw169_2), ((HB.out.cell (World.block_lt_of_cell? w _ hw169_3)).trans hw169_3), ((HB.out.cell (World.block_lt_of_cell? w _ hw169_4)).trans hw169_4)⟩ (fun hHeld => ?_)
                clear hK K
                refine norm_ (a' := ?_) ?_ ?_
                rotate_left
                ·show Act.put _ (some 45) _ = _
                 simp only [Act.put, sA, sZ, sS, i64_w]
                 rfl
                refine pP 29 46 (bR [30, 13]) rfl rfl HT_ ?_
                refine pP 30 47 (bR [31, 12]) rfl rfl HT_ ?_
                refine pP 31 48 (bR [32, 11]) rfl rfl HT_ ?_
                refine pP 32 49 (bR [33, 10]) rfl rfl HT_ ?_
                refine take_ (i := 33) (N := some 50) (v := ?_) (a' := ?_) (bR [34, 9]) rfl rfl (take_ofW HT_.out HW_.out (by kernel_rfl)) (fun _ _ _ h => h) (Or.inl ⟨by rfl, ?_⟩) hHeld ?_ ?_
                rotate_left; (rintro w' ⟨s0, s1, s2, s3, s4, s5, s6, s7, s8, s9⟩; go_simp; with_reducible rfl); rotate_left; (simp only [Act.put, sA, sZ, sS, i64_w]; rfl)
                refine one_ (i := 34) (N := some 51) (bR [35, 8]) rfl rfl (one_of HT_.out (by kernel_rfl)) (by decide) (fun K hK => ?_)
                refine goes_ Try.func114 (by kernel_rfl) rfl #[.int .i64 ((rd_T84 l0 x12_1).f3), .int .i64 0, .int .i64 100000] (by rfl) rfl rfl (by (try simp only [mA, mC, mN]); first | done | rfl | (simp only [lD, lT]; rfl)) ?_
                with_reducible refine (impl_InRange.calls ((rd_T84 l0 x12_1).f3) 0 100000 true _ A22.out).mono ?_
                rintro e w' ⟨rfl, ⟨nd, rfl⟩⟩
                refine ⟨_, rfl, ?_⟩
                refine hK.out _ _ ⟨cC BK167 0, cC BK167 1, cC BK167 2, cC BK167 3, cC BK167 4, ((HB.out.cell (World.block_lt_of_cell? w _ hw169_0)).trans hw169_0), ((HB.out.cell (World.block_lt_of_cell? w _ hw169_1)).trans hw169_1), ((HB.out.cell (World.block_lt_of_cell? w _ hw169_2)).trans hw169_2), ((HB.out.cell (World.block_lt_of_cell? w _ hw169_3)).trans hw169_3), ((HB.out.cell (World.block_lt_of_cell? w _ hw169_4)).trans hw169_4)⟩ (fun hHeld => ?_)
                clear hK K
                refine norm_ (a' := ?_) ?_ ?_
                rotate_left
                ·show Act.put _ (some 51) _ = _
                 simp only [Act.put, sA, sZ, sS, i64_w]
                 rfl
                refine pP 35 52 (bR [36, 7]) rfl rfl HT_ ?_
                refine pP 36 53 (bR [37, 6]) rfl rfl HT_ ?_
                refine pP 37 54 (bR [38, 5]) rfl rfl HT_ ?_
                refine pP 38 55 (bR [39, 4]) rfl rfl HT_ ?_
                refine take_ (i := 39) (N := some 56) (v := ?_) (a' := ?_) (bR [40, 3]) rfl rfl (take_ofW HT_.out HW_.out (by kernel_rfl)) (fun _ _ _ h => h) (Or.inl ⟨by rfl, ?_⟩) hHeld ?_ ?_
                rotate_left; (rintro w' ⟨s0, s1, s2, s3, s4, s5, s6, s7, s8, s9⟩; go_simp; with_reducible rfl); rotate_left; (simp only [Act.put, sA, sZ, sS, i64_w]; rfl)
                refine one_ (i := 40) (N := some 57) (bR [41, 2]) rfl rfl (one_of HT_.out (by kernel_rfl)) (by decide) (fun K hK => ?_)
                refine goes_ Try.func114 (by kernel_rfl) rfl #[.int .i64 ((rd_T84 l0 x12_1).f4), .int .i64 0, .int .i64 3] (by rfl) rfl rfl (by (try simp only [mA, mC, mN]); first | done | rfl | (simp only [lD, lT]; rfl)) ?_
                with_reducible refine (impl_InRange.calls ((rd_T84 l0 x12_1).f4) 0 3 t173 _ A24.out).mono ?_
                rintro e w' ⟨rfl, ⟨nd, rfl⟩⟩
                refine ⟨_, rfl, ?_⟩
                refine hK.out _ _ ⟨cC BK167 0, cC BK167 1, cC BK167 2, cC BK167 3, cC BK167 4, ((HB.out.cell (World.block_lt_of_cell? w _ hw169_0)).trans hw169_0), ((HB.out.cell (World.block_lt_of_cell? w _ hw169_1)).trans hw169_1), ((HB.out.cell (World.block_lt_of_cell? w _ hw169_2)).trans hw169_2), ((HB.out.cell (World.block_lt_of_cell? w _ hw169_3)).trans hw169_3), ((HB.out.cell (World.block_lt_of_cell? w _ hw169_4)).trans hw169_4)⟩ (fun hHeld => ?_)
                clear hK K
                refine norm_ (a' := ?_) ?_ ?_
                rotate_left
                ·show Act.put _ (some 57) _ = _
                 simp only [Act.put, sA, sZ, sS, i64_w]
                 rfl
                refine pP 41 58 (bR [42, 1]) rfl rfl HT_ ?_
                refine pP 42 59 (bR [43]) rfl rfl HT_ ?_
                refine done_ (done_of HT_.out (by kernel_rfl)) ?_
                try go_wp2
                go_meet
                case rel => exact ⟨_, (!t173), (by first | rfl | (simp; done) | (simp [*]; done)), H', ⟨by have := HK1.out; first | omega | exact Nat.le_refl _⟩, ⟨by (with_reducible repeat first | refine kN ?_ _ | refine kD ?_ | refine kA ?_ _); exact BK167.out⟩, ⟨by repeat (first | (with_reducible first | exact HB.out | apply bA | apply bN | apply bD | refine bS ?_ GE167.out) | exact HB.out)⟩⟩
               ·replace c23 := Bool.eq_false_iff.mpr c23
                subst c23
                have H1 : (impl_AreClaims.j1 k1 l0 x12_1 l0 (l0.length : Int) x12_1 true ((rd_T84 l0 x12_1).f0) ((rd_T84 l0 x12_1).f1) ((rd_T84 l0 x12_1).f2) ((rd_T84 l0 x12_1).f3) ((rd_T84 l0 x12_1).f4)) = some r := by rw [if_neg (show ¬ (false = true) by decide)] at H; exact H
                clear H
                have H := H1
                clear H1
                have H' := Aside0.mk H
                clear H
                try go_wp2
                have n0_ : Aside0 ((((((w7.setCell ⟨gb167, 0, none⟩ (.int .i64 ((rd_T84 l0 x12_1).f0))).setCell ⟨gb167, 1, none⟩ (.int .i64 ((rd_T84 l0 x12_1).f1))).setCell ⟨gb167, 2, none⟩ (.int .i64 ((rd_T84 l0 x12_1).f2))).setCell ⟨gb167, 3, none⟩ (.int .i64 ((rd_T84 l0 x12_1).f3))).setCell ⟨gb167, 4, none⟩ (.int .i64 ((rd_T84 l0 x12_1).f4))).heap[gb167]? = some (.cells #[.int .i64 ((rd_T84 l0 x12_1).f0), .int .i64 ((rd_T84 l0 x12_1).f1), .int .i64 ((rd_T84 l0 x12_1).f2), .int .i64 ((rd_T84 l0 x12_1).f3), .int .i64 ((rd_T84 l0 x12_1).f4)] 84 (0, 0))) := ⟨by (with_reducible repeat first | refine kN ?_ _ | refine kD ?_ | refine kA ?_ _); refine blk_put (cs := #[.int .i64 ((rd_T84 l0 x12_1).f0), .int .i64 ((rd_T84 l0 x12_1).f1), .int .i64 ((rd_T84 l0 x12_1).f2), .int .i64 ((rd_T84 l0 x12_1).f3), .int .i64 0]) ?_ 4 _ rfl; (with_reducible repeat first | refine kN ?_ _ | refine kD ?_ | refine kA ?_ _); refine blk_put (cs := #[.int .i64 ((rd_T84 l0 x12_1).f0), .int .i64 ((rd_T84 l0 x12_1).f1), .int .i64 ((rd_T84 l0 x12_1).f2), .int .i64 0, .int .i64 0]) ?_ 3 _ rfl; (with_reducible repeat first | refine kN ?_ _ | refine kD ?_ | refine kA ?_ _); refine blk_put (cs := #[.int .i64 ((rd_T84 l0 x12_1).f0), .int .i64 ((rd_T84 l0 x12_1).f1), .int .i64 0, .int .i64 0, .int .i64 0]) ?_ 2 _ rfl; (with_reducible repeat first | refine kN ?_ _ | refine kD ?_ | refine kA ?_ _); refine blk_put (cs := #[.int .i64 ((rd_T84 l0 x12_1).f0), .int .i64 0, .int .i64 0, .int .i64 0, .int .i64 0]) ?_ 1 _ rfl; (with_reducible repeat first | refine kN ?_ _ | refine kD ?_ | refine kA ?_ _); refine blk_put (cs := #[.int .i64 0, .int .i64 0, .int .i64 0, .int .i64 0, .int .i64 0]) ?_ 0 _ rfl; (with_reducible repeat first | refine kN ?_ _ | refine kD ?_ | refine kA ?_ _); exact BK167.out⟩
                have n1_ : Aside0 (Below w.heap.size w (((((w7.setCell ⟨gb167, 0, none⟩ (.int .i64 ((rd_T84 l0 x12_1).f0))).setCell ⟨gb167, 1, none⟩ (.int .i64 ((rd_T84 l0 x12_1).f1))).setCell ⟨gb167, 2, none⟩ (.int .i64 ((rd_T84 l0 x12_1).f2))).setCell ⟨gb167, 3, none⟩ (.int .i64 ((rd_T84 l0 x12_1).f3))).setCell ⟨gb167, 4, none⟩ (.int .i64 ((rd_T84 l0 x12_1).f4)))) := ⟨by repeat (first | (with_reducible first | exact HB.out | apply bA | apply bN | apply bD | refine bS ?_ GE167.out) | exact HB.out)⟩
                (try clear BK167)
                (try clear HB)
                generalize (((((w7.setCell ⟨gb167, 0, none⟩ (.int .i64 ((rd_T84 l0 x12_1).f0))).setCell ⟨gb167, 1, none⟩ (.int .i64 ((rd_T84 l0 x12_1).f1))).setCell ⟨gb167, 2, none⟩ (.int .i64 ((rd_T84 l0 x12_1).f2))).setCell ⟨gb167, 3, none⟩ (.int .i64 ((rd_T84 l0 x12_1).f3))).setCell ⟨gb167, 4, none⟩ (.int .i64 ((rd_T84 l0 x12_1).f4))) = w27 at n0_ n1_ ⊢
                have BK167 := n0_
                have HB := n1_
                clear n0_ n1_
                have n0_ := Aside0.mk (blk_drew BK167.out)
                have n1_ := Aside0.mk (below_drew1 HB.out)
                clear BK167
                clear HB
                have BK167 := n0_
                have HB := n1_
                clear n0_ n1_
                have p169 : 0 ≤ ((ji12) : Int) := of_decide_eq_true ‹_›
                have q169 : (ji12) < (l0.length : Int) := of_decide_eq_true ‹_›
                obtain ⟨ad169, e169, hx169_0, hx169_1, hx169_2, hx169_3, hx169_4⟩ := at_T84 HR0.out (ji12) p169 q169
                have hw169_4 := hx169_4
                have hw169_3 := hx169_3
                have hw169_2 := hx169_2
                have hw169_1 := hx169_1
                have hw169_0 := hx169_0
                obtain rfl : ad166 = ad169 := (by injection e169)
                replace hx169_0 := (HB.out.cell (World.block_lt_of_cell? w _ hx169_0)).trans hx169_0
                replace hx169_1 := (HB.out.cell (World.block_lt_of_cell? w _ hx169_1)).trans hx169_1
                replace hx169_2 := (HB.out.cell (World.block_lt_of_cell? w _ hx169_2)).trans hx169_2
                replace hx169_3 := (HB.out.cell (World.block_lt_of_cell? w _ hx169_3)).trans hx169_3
                replace hx169_4 := (HB.out.cell (World.block_lt_of_cell? w _ hx169_4)).trans hx169_4
                replace p169 := eq_true p169
                replace q169 := eq_true q169
                refine start_ (n := 43) (S := fun w' => w'.cell? ⟨gb167, 0, none⟩ = some (.int .i64 ((rd_T84 l0 x12_1).f0)) ∧ w'.cell? ⟨gb167, 1, none⟩ = some (.int .i64 ((rd_T84 l0 x12_1).f1)) ∧ w'.cell? ⟨gb167, 2, none⟩ = some (.int .i64 ((rd_T84 l0 x12_1).f2)) ∧ w'.cell? ⟨gb167, 3, none⟩ = some (.int .i64 ((rd_T84 l0 x12_1).f3)) ∧ w'.cell? ⟨gb167, 4, none⟩ = some (.int .i64 ((rd_T84 l0 x12_1).f4)) ∧ w'.cell? (ad166.add (((ji12)).toNat * 5)) = some (.int .i64 ((rd_T84 l0 (ji12)).f0)) ∧ w'.cell? ⟨(ad166.add (((ji12)).toNat * 5)).block, (ad166.add (((ji12)).toNat * 5)).off + 1, none⟩ = some (.int .i64 ((rd_T84 l0 (ji12)).f1)) ∧ w'.cell? ⟨(ad166.add (((ji12)).toNat * 5)).block, (ad166.add (((ji12)).toNat * 5)).off + 2, none⟩ = some (.int .i64 ((rd_T84 l0 (ji12)).f2)) ∧ w'.cell? ⟨(ad166.add (((ji12)).toNat * 5)).block, (ad166.add (((ji12)).toNat * 5)).off + 3, none⟩ = some (.int .i64 ((rd_T84 l0 (ji12)).f3)) ∧ w'.cell? ⟨(ad166.add (((ji12)).toNat * 5)).block, (ad166.add (((ji12)).toNat * 5)).off + 4, none⟩ = some (.int .i64 ((rd_T84 l0 (ji12)).f4))) (ds := []) (bR [0, 43]) (by kernel_rfl) rfl rfl ⟨cC BK167 0, cC BK167 1, cC BK167 2, cC BK167 3, cC BK167 4, ((HB.out.cell (World.block_lt_of_cell? w _ hw169_0)).trans hw169_0), ((HB.out.cell (World.block_lt_of_cell? w _ hw169_1)).trans hw169_1), ((HB.out.cell (World.block_lt_of_cell? w _ hw169_2)).trans hw169_2), ((HB.out.cell (World.block_lt_of_cell? w _ hw169_3)).trans hw169_3), ((HB.out.cell (World.block_lt_of_cell? w _ hw169_4)).trans hw169_4)⟩ (fun hHeld => ?_); refine with_tabW impl_AreClaims.tab6 impl_AreClaims.bits6 (fun HT_ HW_ => ?_)
                generalize w27.drew = w28 at BK167 HB hx169_0 hx169_1 hx169_2 hx169_3 hx169_4 hHeld ⊢
                refine pP 0 17 (bR [1, 42]) rfl rfl HT_ ?_
                refine take_ (i := 1) (N := some 18) (v := ?_) (a' := ?_) (bR [2, 41]) rfl rfl (take_ofW HT_.out HW_.out (by kernel_rfl)) (fun _ _ _ h => h) (Or.inl ⟨by rfl, ?_⟩) hHeld ?_ ?_
                rotate_left; (rintro w' ⟨s0, s1, s2, s3, s4, s5, s6, s7, s8, s9⟩; go_simp; with_reducible rfl); rotate_left; (simp only [Act.put, sA, sZ, sS, i64_w]; rfl)
                refine one_ (i := 2) (N := some 19) (bR [3, 40]) rfl rfl (one_of HT_.out (by kernel_rfl)) (by decide) (fun K hK => ?_)
                refine goes_ Try.func114 (by kernel_rfl) rfl #[.int .i64 ((rd_T84 l0 x12_1).f0), .int .i64 1, .int .i64 999] (by rfl) rfl rfl (by (try simp only [mA, mC, mN]); first | done | rfl | (simp only [lD, lT]; rfl)) ?_
                with_reducible refine (impl_InRange.calls ((rd_T84 l0 x12_1).f0) 1 999 true _ A9.out).mono ?_
                rintro e w' ⟨rfl, ⟨nd, rfl⟩⟩
                refine ⟨_, rfl, ?_⟩
                refine hK.out _ _ ⟨cC BK167 0, cC BK167 1, cC BK167 2, cC BK167 3, cC BK167 4, ((HB.out.cell (World.block_lt_of_cell? w _ hw169_0)).trans hw169_0), ((HB.out.cell (World.block_lt_of_cell? w _ hw169_1)).trans hw169_1), ((HB.out.cell (World.block_lt_of_cell? w _ hw169_2)).trans hw169_2), ((HB.out.cell (World.block_lt_of_cell? w _ hw169_3)).trans hw169_3), ((HB.out.cell (World.block_lt_of_cell? w _ hw169_4)).trans hw169_4)⟩ (fun hHeld => ?_)
                clear hK K
                refine norm_ (a' := ?_) ?_ ?_
                rotate_left
                ·show Act.put _ (some 19) _ = _
                 simp only [Act.put, sA, sZ, sS, i64_w]
                 rfl
                refine pP 3 20 (bR [4, 39]) rfl rfl HT_ ?_
                refine pP 4 21 (bR [5, 38]) rfl rfl HT_ ?_
                refine pP 5 22 (bR [6, 37]) rfl rfl HT_ ?_
                refine pP 6 23 (bR [7, 36]) rfl rfl HT_ ?_
                refine pP 7 24 (bR [8, 35]) rfl rfl HT_ ?_
                refine pP 8 25 (bR [9, 34]) rfl rfl HT_ ?_
                refine pP 10 27 (bR [9, 1, 1, 32]) rfl rfl HT_ ?_
                refine pP 11 28 (bR [9, 1, 2, 31]) rfl rfl HT_ ?_
                refine pP 12 29 (bR [9, 1, 3, 30]) rfl rfl HT_ ?_
                refine pP 13 30 (bR [9, 1, 4, 29]) rfl rfl HT_ ?_
                refine pP 14 31 (bR [9, 1, 5, 28]) rfl rfl HT_ ?_
                refine take_ (i := 9) (N := some 26) (v := ?_) (a' := ?_) (bR [15, 28]) rfl rfl (take_ofW HT_.out HW_.out (by kernel_rfl)) (fun _ _ _ h => h) (Or.inl ⟨by rfl, ?_⟩) hHeld ?_ ?_
                rotate_left; (rintro w' ⟨s0, s1, s2, s3, s4, s5, s6, s7, s8, s9⟩; go_simp; with_reducible rfl); rotate_left; (simp only [Act.put, sA, sZ, sS, i64_w]; rfl)
                refine take_ (i := 15) (N := some 32) (v := ?_) (a' := ?_) (bR [16, 27]) rfl rfl (take_ofW HT_.out HW_.out (by kernel_rfl)) (fun _ _ _ h => h) (Or.inl ⟨by rfl, ?_⟩) hHeld ?_ ?_
                rotate_left; (rintro w' ⟨s0, s1, s2, s3, s4, s5, s6, s7, s8, s9⟩; go_simp; with_reducible rfl); rotate_left; (simp only [Act.put, sA, sZ, sS, i64_w]; rfl)
                refine pP 16 33 (bR [17, 26]) rfl rfl HT_ ?_
                refine pP 17 34 (bR [18, 25]) rfl rfl HT_ ?_
                refine pP 18 35 (bR [19, 24]) rfl rfl HT_ ?_
                refine pP 19 36 (bR [20, 23]) rfl rfl HT_ ?_
                refine pP 20 37 (bR [21, 22]) rfl rfl HT_ ?_
                refine take_ (i := 21) (N := some 38) (v := ?_) (a' := ?_) (bR [22, 21]) rfl rfl (take_ofW HT_.out HW_.out (by kernel_rfl)) (fun _ _ _ h => h) (Or.inl ⟨by rfl, ?_⟩) hHeld ?_ ?_
                rotate_left; (rintro w' ⟨s0, s1, s2, s3, s4, s5, s6, s7, s8, s9⟩; go_simp; with_reducible rfl); rotate_left; (simp only [Act.put, sA, sZ, sS, i64_w]; rfl)
                refine one_ (i := 22) (N := some 39) (bR [23, 20]) rfl rfl (one_of HT_.out (by kernel_rfl)) (by decide) (fun K hK => ?_)
                refine goes_ Try.func114 (by kernel_rfl) rfl #[.int .i64 ((rd_T84 l0 x12_1).f1), .int .i64 1, .int .i64 999] (by rfl) rfl rfl (by (try simp only [mA, mC, mN]); first | done | rfl | (simp only [lD, lT]; rfl)) ?_
                with_reducible refine (impl_InRange.calls ((rd_T84 l0 x12_1).f1) 1 999 true _ A18.out).mono ?_
                rintro e w' ⟨rfl, ⟨nd, rfl⟩⟩
                refine ⟨_, rfl, ?_⟩
                refine hK.out _ _ ⟨cC BK167 0, cC BK167 1, cC BK167 2, cC BK167 3, cC BK167 4, ((HB.out.cell (World.block_lt_of_cell? w _ hw169_0)).trans hw169_0), ((HB.out.cell (World.block_lt_of_cell? w _ hw169_1)).trans hw169_1), ((HB.out.cell (World.block_lt_of_cell? w _ hw169_2)).trans hw169_2), ((HB.out.cell (World.block_lt_of_cell? w _ hw169_3)).trans hw169_3), ((HB.out.cell (World.block_lt_of_cell? w _ hw169_4)).trans hw169_4)⟩ (fun hHeld => ?_)
                clear hK K
                refine norm_ (a' := ?_) ?_ ?_
                rotate_left
                ·show Act.put _ (some 39) _ = _
                 simp only [Act.put, sA, sZ, sS, i64_w]
                 rfl
                refine pP 23 40 (bR [24, 19]) rfl rfl HT_ ?_
                refine pP 24 41 (bR [25, 18]) rfl rfl HT_ ?_
                refine pP 25 42 (bR [26, 17]) rfl rfl HT_ ?_
                refine pP 26 43 (bR [27, 16]) rfl rfl HT_ ?_
                refine take_ (i := 27) (N := some 44) (v := ?_) (a' := ?_) (bR [28, 15]) rfl rfl (take_ofW HT_.out HW_.out (by kernel_rfl)) (fun _ _ _ h => h) (Or.inl ⟨by rfl, ?_⟩) hHeld ?_ ?_
                rotate_left; (rintro w' ⟨s0, s1, s2, s3, s4, s5, s6, s7, s8, s9⟩; go_simp; with_reducible rfl); rotate_left; (simp only [Act.put, sA, sZ, sS, i64_w]; rfl)
                refine one_ (i := 28) (N := some 45) (bR [29, 14]) rfl rfl (one_of HT_.out (by kernel_rfl)) (by decide) (fun K hK => ?_)
                refine goes_ Try.func114 (by kernel_rfl) rfl #[.int .i64 ((rd_T84 l0 x12_1).f2), .int .i64 1, .int .i64 999] (by rfl) rfl rfl (by (try simp only [mA, mC, mN]); first | done | rfl | (simp only [lD, lT]; rfl)) ?_
                with_reducible refine (impl_InRange.calls ((rd_T84 l0 x12_1).f2) 1 999 true _ A20.out).mono ?_
                rintro e w' ⟨rfl, ⟨nd, rfl⟩⟩
                refine ⟨_, rfl, ?_⟩
                refine hK.out _ _ ⟨cC BK167 0, cC BK167 1, cC BK167 2, cC BK167 3, cC BK167 4, ((HB.out.cell (World.block_lt_of_cell? w _ hw169_0)).trans hw169_0), ((HB.out.cell (World.block_lt_of_cell? w _ hw169_1)).trans hw169_1), ((HB.out.cell (World.block_lt_of_cell? w _ hw169_2)).trans hw169_2), ((HB.out.cell (World.block_lt_of_cell? w _ hw169_3)).trans hw169_3), ((HB.out.cell (World.block_lt_of_cell? w _ hw169_4)).trans hw169_4)⟩ (fun hHeld => ?_)
                clear hK K
                refine norm_ (a' := ?_) ?_ ?_
                rotate_left
                ·show Act.put _ (some 45) _ = _
                 simp only [Act.put, sA, sZ, sS, i64_w]
                 rfl
                refine pP 29 46 (bR [30, 13]) rfl rfl HT_ ?_
                refine pP 30 47 (bR [31, 12]) rfl rfl HT_ ?_
                refine pP 31 48 (bR [32, 11]) rfl rfl HT_ ?_
                refine pP 32 49 (bR [33, 10]) rfl rfl HT_ ?_
                refine take_ (i := 33) (N := some 50) (v := ?_) (a' := ?_) (bR [34, 9]) rfl rfl (take_ofW HT_.out HW_.out (by kernel_rfl)) (fun _ _ _ h => h) (Or.inl ⟨by rfl, ?_⟩) hHeld ?_ ?_
                rotate_left; (rintro w' ⟨s0, s1, s2, s3, s4, s5, s6, s7, s8, s9⟩; go_simp; with_reducible rfl); rotate_left; (simp only [Act.put, sA, sZ, sS, i64_w]; rfl)
                refine one_ (i := 34) (N := some 51) (bR [35, 8]) rfl rfl (one_of HT_.out (by kernel_rfl)) (by decide) (fun K hK => ?_)
                refine goes_ Try.func114 (by kernel_rfl) rfl #[.int .i64 ((rd_T84 l0 x12_1).f3), .int .i64 0, .int .i64 100000] (by rfl) rfl rfl (by (try simp only [mA, mC, mN]); first | done | rfl | (simp only [lD, lT]; rfl)) ?_
                with_reducible refine (impl_InRange.calls ((rd_T84 l0 x12_1).f3) 0 100000 false _ A22.out).mono ?_
                rintro e w' ⟨rfl, ⟨nd, rfl⟩⟩
                refine ⟨_, rfl, ?_⟩
                refine hK.out _ _ ⟨cC BK167 0, cC BK167 1, cC BK167 2, cC BK167 3, cC BK167 4, ((HB.out.cell (World.block_lt_of_cell? w _ hw169_0)).trans hw169_0), ((HB.out.cell (World.block_lt_of_cell? w _ hw169_1)).trans hw169_1), ((HB.out.cell (World.block_lt_of_cell? w _ hw169_2)).trans hw169_2), ((HB.out.cell (World.block_lt_of_cell? w _ hw169_3)).trans hw169_3), ((HB.out.cell (World.block_lt_of_cell? w _ hw169_4)).trans hw169_4)⟩ (fun hHeld => ?_)
                clear hK K
                refine norm_ (a' := ?_) ?_ ?_
                rotate_left
                ·show Act.put _ (some 51) _ = _
                 simp only [Act.put, sA, sZ, sS, i64_w]
                 rfl
                refine pP 35 52 (bR [36, 7]) rfl rfl HT_ ?_
                refine pP 36 53 (bR [37, 6]) rfl rfl HT_ ?_
                refine pP 37 54 (bR [38, 5]) rfl rfl HT_ ?_
                refine pU 38 55 (bR [39, 4]) rfl rfl HT_ ?_
                refine pU 39 56 (bR [40, 3]) rfl rfl HT_ ?_
                refine pU 40 57 (bR [41, 2]) rfl rfl HT_ ?_
                refine pU 41 58 (bR [42, 1]) rfl rfl HT_ ?_
                refine pP 42 59 (bR [43]) rfl rfl HT_ ?_
                refine done_ (done_of HT_.out (by kernel_rfl)) ?_
                try go_wp2
                go_meet
                case rel => exact ⟨_, (true), (by first | rfl | (simp; done) | (simp [*]; done)), H', ⟨by have := HK1.out; first | omega | exact Nat.le_refl _⟩, ⟨by (with_reducible repeat first | refine kN ?_ _ | refine kD ?_ | refine kA ?_ _); exact BK167.out⟩, ⟨by repeat (first | (with_reducible first | exact HB.out | apply bA | apply bN | apply bD | refine bS ?_ GE167.out) | exact HB.out)⟩⟩
              ·replace c21 := Bool.eq_false_iff.mpr c21
               subst c21
               have H1 : (impl_AreClaims.j1 k1 l0 x12_1 l0 (l0.length : Int) x12_1 true ((rd_T84 l0 x12_1).f0) ((rd_T84 l0 x12_1).f1) ((rd_T84 l0 x12_1).f2) ((rd_T84 l0 x12_1).f3) ((rd_T84 l0 x12_1).f4)) = some r := by rw [if_neg (show ¬ (false = true) by decide)] at H; exact H
               clear H
               have H := H1
               clear H1
               have H' := Aside0.mk H
               clear H
               try go_wp2
               have n0_ : Aside0 ((((((w7.setCell ⟨gb167, 0, none⟩ (.int .i64 ((rd_T84 l0 x12_1).f0))).setCell ⟨gb167, 1, none⟩ (.int .i64 ((rd_T84 l0 x12_1).f1))).setCell ⟨gb167, 2, none⟩ (.int .i64 ((rd_T84 l0 x12_1).f2))).setCell ⟨gb167, 3, none⟩ (.int .i64 ((rd_T84 l0 x12_1).f3))).setCell ⟨gb167, 4, none⟩ (.int .i64 ((rd_T84 l0 x12_1).f4))).heap[gb167]? = some (.cells #[.int .i64 ((rd_T84 l0 x12_1).f0), .int .i64 ((rd_T84 l0 x12_1).f1), .int .i64 ((rd_T84 l0 x12_1).f2), .int .i64 ((rd_T84 l0 x12_1).f3), .int .i64 ((rd_T84 l0 x12_1).f4)] 84 (0, 0))) := ⟨by (with_reducible repeat first | refine kN ?_ _ | refine kD ?_ | refine kA ?_ _); refine blk_put (cs := #[.int .i64 ((rd_T84 l0 x12_1).f0), .int .i64 ((rd_T84 l0 x12_1).f1), .int .i64 ((rd_T84 l0 x12_1).f2), .int .i64 ((rd_T84 l0 x12_1).f3), .int .i64 0]) ?_ 4 _ rfl; (with_reducible repeat first | refine kN ?_ _ | refine kD ?_ | refine kA ?_ _); refine blk_put (cs := #[.int .i64 ((rd_T84 l0 x12_1).f0), .int .i64 ((rd_T84 l0 x12_1).f1), .int .i64 ((rd_T84 l0 x12_1).f2), .int .i64 0, .int .i64 0]) ?_ 3 _ rfl; (with_reducible repeat first | refine kN ?_ _ | refine kD ?_ | refine kA ?_ _); refine blk_put (cs := #[.int .i64 ((rd_T84 l0 x12_1).f0), .int .i64 ((rd_T84 l0 x12_1).f1), .int .i64 0, .int .i64 0, .int .i64 0]) ?_ 2 _ rfl; (with_reducible repeat first | refine kN ?_ _ | refine kD ?_ | refine kA ?_ _); refine blk_put (cs := #[.int .i64 ((rd_T84 l0 x12_1).f0), .int .i64 0, .int .i64 0, .int .i64 0, .int .i64 0]) ?_ 1 _ rfl; (with_reducible repeat first | refine kN ?_ _ | refine kD ?_ | refine kA ?_ _); refine blk_put (cs := #[.int .i64 0, .int .i64 0, .int .i64 0, .int .i64 0, .int .i64 0]) ?_ 0 _ rfl; (with_reducible repeat first | refine kN ?_ _ | refine kD ?_ | refine kA ?_ _); exact BK167.out⟩
               have n1_ : Aside0 (Below w.heap.size w (((((w7.setCell ⟨gb167, 0, none⟩ (.int .i64 ((rd_T84 l0 x12_1).f0))).setCell ⟨gb167, 1, none⟩ (.int .i64 ((rd_T84 l0 x12_1).f1))).setCell ⟨gb167, 2, none⟩ (.int .i64 ((rd_T84 l0 x12_1).f2))).setCell ⟨gb167, 3, none⟩ (.int .i64 ((rd_T84 l0 x12_1).f3))).setCell ⟨gb167, 4, none⟩ (.int .i64 ((rd_T84 l0 x12_1).f4)))) := ⟨by repeat (first | (with_reducible first | exact HB.out | apply bA | apply bN | apply bD | refine bS ?_ GE167.out) | exact HB.out)⟩
               (try clear BK167)
               (try clear HB)
               generalize (((((w7.setCell ⟨gb167, 0, none⟩ (.int .i64 ((rd_T84 l0 x12_1).f0))).setCell ⟨gb167, 1, none⟩ (.int .i64 ((rd_T84 l0 x12_1).f1))).setCell ⟨gb167, 2, none⟩ (.int .i64 ((rd_T84 l0 x12_1).f2))).setCell ⟨gb167, 3, none⟩ (.int .i64 ((rd_T84 l0 x12_1).f3))).setCell ⟨gb167, 4, none⟩ (.int .i64 ((rd_T84 l0 x12_1).f4))) = w29 at n0_ n1_ ⊢
               have BK167 := n0_
               have HB := n1_
               clear n0_ n1_
               have n0_ := Aside0.mk (blk_drew BK167.out)
               have n1_ := Aside0.mk (below_drew1 HB.out)
               clear BK167
               clear HB
               have BK167 := n0_
               have HB := n1_
               clear n0_ n1_
               have p169 : 0 ≤ ((ji12) : Int) := of_decide_eq_true ‹_›
               have q169 : (ji12) < (l0.length : Int) := of_decide_eq_true ‹_›
               obtain ⟨ad169, e169, hx169_0, hx169_1, hx169_2, hx169_3, hx169_4⟩ := at_T84 HR0.out (ji12) p169 q169
               have hw169_4 := hx169_4
               have hw169_3 := hx169_3
               have hw169_2 := hx169_2
               have hw169_1 := hx169_1
               have hw169_0 := hx169_0
               obtain rfl : ad166 = ad169 := (by injection e169)
               replace hx169_0 := (HB.out.cell (World.block_lt_of_cell? w _ hx169_0)).trans hx169_0
               replace hx169_1 := (HB.out.cell (World.block_lt_of_cell? w _ hx169_1)).trans hx169_1
               replace hx169_2 := (HB.out.cell (World.block_lt_of_cell? w _ hx169_2)).trans hx169_2
               replace hx169_3 := (HB.out.cell (World.block_lt_of_cell? w _ hx169_3)).trans hx169_3
               replace hx169_4 := (HB.out.cell (World.block_lt_of_cell? w _ hx169_4)).trans hx169_4
               replace p169 := eq_true p169
               replace q169 := eq_true q169
               refine start_ (n := 43) (S := fun w' => w'.cell? ⟨gb167, 0, none⟩ = some (.int .i64 ((rd_T84 l0 x12_1).f0)) ∧ w'.cell? ⟨gb167, 1, none⟩ = some (.int .i64 ((rd_T84 l0 x12_1).f1)) ∧ w'.cell? ⟨gb167, 2, none⟩ = some (.int .i64 ((rd_T84 l0 x12_1).f2)) ∧ w'.cell? ⟨gb167, 3, none⟩ = some (.int .i64 ((rd_T84 l0 x12_1).f3)) ∧ w'.cell? ⟨gb167, 4, none⟩ = some (.int .i64 ((rd_T84 l0 x12_1).f4)) ∧ w'.cell? (ad166.add (((ji12)).toNat * 5)) = some (.int .i64 ((rd_T84 l0 (ji12)).f0)) ∧ w'.cell? ⟨(ad166.add (((ji12)).toNat * 5)).block, (ad166.add (((ji12)).toNat * 5)).off + 1, none⟩ = some (.int .i64 ((rd_T84 l0 (ji12)).f1)) ∧ w'.cell? ⟨(ad166.add (((ji12)).toNat * 5)).block, (ad166.add (((ji12)).toNat * 5)).off + 2, none⟩ = some (.int .i64 ((rd_T84 l0 (ji12)).f2)) ∧ w'.cell? ⟨(ad166.add (((ji12)).toNat * 5)).block, (ad166.add (((ji12)).toNat * 5)).off + 3, none⟩ = some (.int .i64 ((rd_T84 l0 (ji12)).f3)) ∧ w'.cell? ⟨(ad166.add (((ji12)).toNat * 5)).block, (ad166.add (((ji12)).toNat * 5)).off + 4, none⟩ = some (.int .i64 ((rd_T84 l0 (ji12)).f4))) (ds := []) (bR [0, 43]) (by kernel_rfl) rfl rfl ⟨cC BK167 0, cC BK167 1, cC BK167 2, cC BK167 3, cC BK167 4, ((HB.out.cell (World.block_lt_of_cell? w _ hw169_0)).trans hw169_0), ((HB.out.cell (World.block_lt_of_cell? w _ hw169_1)).trans hw169_1), ((HB.out.cell (World.block_lt_of_cell? w _ hw169_2)).trans hw169_2), ((HB.out.cell (World.block_lt_of_cell? w _ hw169_3)).trans hw169_3), ((HB.out.cell (World.block_lt_of_cell? w _ hw169_4)).trans hw169_4)⟩ (fun hHeld => ?_); refine with_tabW impl_AreClaims.tab6 impl_AreClaims.bits6 (fun HT_ HW_ => ?_)
               generalize w29.drew = w30 at BK167 HB hx169_0 hx169_1 hx169_2 hx169_3 hx169_4 hHeld ⊢
               refine pP 0 17 (bR [1, 42]) rfl rfl HT_ ?_
               refine take_ (i := 1) (N := some 18) (v := ?_) (a' := ?_) (bR [2, 41]) rfl rfl (take_ofW HT_.out HW_.out (by kernel_rfl)) (fun _ _ _ h => h) (Or.inl ⟨by rfl, ?_⟩) hHeld ?_ ?_
               rotate_left; (rintro w' ⟨s0, s1, s2, s3, s4, s5, s6, s7, s8, s9⟩; go_simp; with_reducible rfl); rotate_left; (simp only [Act.put, sA, sZ, sS, i64_w]; rfl)
               refine one_ (i := 2) (N := some 19) (bR [3, 40]) rfl rfl (one_of HT_.out (by kernel_rfl)) (by decide) (fun K hK => ?_)
               refine goes_ Try.func114 (by kernel_rfl) rfl #[.int .i64 ((rd_T84 l0 x12_1).f0), .int .i64 1, .int .i64 999] (by rfl) rfl rfl (by (try simp only [mA, mC, mN]); first | done | rfl | (simp only [lD, lT]; rfl)) ?_
               with_reducible refine (impl_InRange.calls ((rd_T84 l0 x12_1).f0) 1 999 true _ A9.out).mono ?_
               rintro e w' ⟨rfl, ⟨nd, rfl⟩⟩
               refine ⟨_, rfl, ?_⟩
               refine hK.out _ _ ⟨cC BK167 0, cC BK167 1, cC BK167 2, cC BK167 3, cC BK167 4, ((HB.out.cell (World.block_lt_of_cell? w _ hw169_0)).trans hw169_0), ((HB.out.cell (World.block_lt_of_cell? w _ hw169_1)).trans hw169_1), ((HB.out.cell (World.block_lt_of_cell? w _ hw169_2)).trans hw169_2), ((HB.out.cell (World.block_lt_of_cell? w _ hw169_3)).trans hw169_3), ((HB.out.cell (World.block_lt_of_cell? w _ hw169_4)).trans hw169_4)⟩ (fun hHeld => ?_)
               clear hK K
               refine norm_ (a' := ?_) ?_ ?_
               rotate_left
               ·show Act.put _ (some 19) _ = _
                simp only [Act.put, sA, sZ, sS, i64_w]
                rfl
               refine pP 3 20 (bR [4, 39]) rfl rfl HT_ ?_
               refine pP 4 21 (bR [5, 38]) rfl rfl HT_ ?_
               refine pP 5 22 (bR [6, 37]) rfl rfl HT_ ?_
               refine pP 6 23 (bR [7, 36]) rfl rfl HT_ ?_
               refine pP 7 24 (bR [8, 35]) rfl rfl HT_ ?_
               refine pP 8 25 (bR [9, 34]) rfl rfl HT_ ?_
               refine pP 10 27 (bR [9, 1, 1, 32]) rfl rfl HT_ ?_
               refine pP 11 28 (bR [9, 1, 2, 31]) rfl rfl HT_ ?_
               refine pP 12 29 (bR [9, 1, 3, 30]) rfl rfl HT_ ?_
               refine pP 13 30 (bR [9, 1, 4, 29]) rfl rfl HT_ ?_
               refine pP 14 31 (bR [9, 1, 5, 28]) rfl rfl HT_ ?_
               refine take_ (i := 9) (N := some 26) (v := ?_) (a' := ?_) (bR [15, 28]) rfl rfl (take_ofW HT_.out HW_.out (by kernel_rfl)) (fun _ _ _ h => h) (Or.inl ⟨by rfl, ?_⟩) hHeld ?_ ?_
               rotate_left; (rintro w' ⟨s0, s1, s2, s3, s4, s5, s6, s7, s8, s9⟩; go_simp; with_reducible rfl); rotate_left; (simp only [Act.put, sA, sZ, sS, i64_w]; rfl)
               refine take_ (i := 15) (N := some 32) (v := ?_) (a' := ?_) (bR [16, 27]) rfl rfl (take_ofW HT_.out HW_.out (by kernel_rfl)) (fun _ _ _ h => h) (Or.inl ⟨by rfl, ?_⟩) hHeld ?_ ?_
               rotate_left; (rintro w' ⟨s0, s1, s2, s3, s4, s5, s6, s7, s8, s9⟩; go_simp; with_reducible rfl); rotate_left; (simp only [Act.put, sA, sZ, sS, i64_w]; rfl)
               refine pP 16 33 (bR [17, 26]) rfl rfl HT_ ?_
               refine pP 17 34 (bR [18, 25]) rfl rfl HT_ ?_
               refine pP 18 35 (bR [19, 24]) rfl rfl HT_ ?_
               refine pP 19 36 (bR [20, 23]) rfl rfl HT_ ?_
               refine pP 20 37 (bR [21, 22]) rfl rfl HT_ ?_
               refine take_ (i := 21) (N := some 38) (v := ?_) (a' := ?_) (bR [22, 21]) rfl rfl (take_ofW HT_.out HW_.out (by kernel_rfl)) (fun _ _ _ h => h) (Or.inl ⟨by rfl, ?_⟩) hHeld ?_ ?_
               rotate_left; (rintro w' ⟨s0, s1, s2, s3, s4, s5, s6, s7, s8, s9⟩; go_simp; with_reducible rfl); rotate_left; (simp only [Act.put, sA, sZ, sS, i64_w]; rfl)
               refine one_ (i := 22) (N := some 39) (bR [23, 20]) rfl rfl (one_of HT_.out (by kernel_rfl)) (by decide) (fun K hK => ?_)
               refine goes_ Try.func114 (by kernel_rfl) rfl #[.int .i64 ((rd_T84 l0 x12_1).f1), .int .i64 1, .int .i64 999] (by rfl) rfl rfl (by (try simp only [mA, mC, mN]); first | done | rfl | (simp only [lD, lT]; rfl)) ?_
               with_reducible refine (impl_InRange.calls ((rd_T84 l0 x12_1).f1) 1 999 true _ A18.out).mono ?_
               rintro e w' ⟨rfl, ⟨nd, rfl⟩⟩
               refine ⟨_, rfl, ?_⟩
               refine hK.out _ _ ⟨cC BK167 0, cC BK167 1, cC BK167 2, cC BK167 3, cC BK167 4, ((HB.out.cell (World.block_lt_of_cell? w _ hw169_0)).trans hw169_0), ((HB.out.cell (World.block_lt_of_cell? w _ hw169_1)).trans hw169_1), ((HB.out.cell (World.block_lt_of_cell? w _ hw169_2)).trans hw169_2), ((HB.out.cell (World.block_lt_of_cell? w _ hw169_3)).trans hw169_3), ((HB.out.cell (World.block_lt_of_cell? w _ hw169_4)).trans hw169_4)⟩ (fun hHeld => ?_)
               clear hK K
               refine norm_ (a' := ?_) ?_ ?_
               rotate_left
               ·show Act.put _ (some 39) _ = _
                simp only [Act.put, sA, sZ, sS, i64_w]
                rfl
               refine pP 23 40 (bR [24, 19]) rfl rfl HT_ ?_
               refine pP 24 41 (bR [25, 18]) rfl rfl HT_ ?_
               refine pP 25 42 (bR [26, 17]) rfl rfl HT_ ?_
               refine pP 26 43 (bR [27, 16]) rfl rfl HT_ ?_
               refine take_ (i := 27) (N := some 44) (v := ?_) (a' := ?_) (bR [28, 15]) rfl rfl (take_ofW HT_.out HW_.out (by kernel_rfl)) (fun _ _ _ h => h) (Or.inl ⟨by rfl, ?_⟩) hHeld ?_ ?_
               rotate_left; (rintro w' ⟨s0, s1, s2, s3, s4, s5, s6, s7, s8, s9⟩; go_simp; with_reducible rfl); rotate_left; (simp only [Act.put, sA, sZ, sS, i64_w]; rfl)
               refine one_ (i := 28) (N := some 45) (bR [29, 14]) rfl rfl (one_of HT_.out (by kernel_rfl)) (by decide) (fun K hK => ?_)
               refine goes_ Try.func114 (by kernel_rfl) rfl #[.int .i64 ((rd_T84 l0 x12_1).f2), .int .i64 1, .int .i64 999] (by rfl) rfl rfl (by (try simp only [mA, mC, mN]); first | done | rfl | (simp only [lD, lT]; rfl)) ?_
               with_reducible refine (impl_InRange.calls ((rd_T84 l0 x12_1).f2) 1 999 false _ A20.out).mono ?_
               rintro e w' ⟨rfl, ⟨nd, rfl⟩⟩
               refine ⟨_, rfl, ?_⟩
               refine hK.out _ _ ⟨cC BK167 0, cC BK167 1, cC BK167 2, cC BK167 3, cC BK167 4, ((HB.out.cell (World.block_lt_of_cell? w _ hw169_0)).trans hw169_0), ((HB.out.cell (World.block_lt_of_cell? w _ hw169_1)).trans hw169_1), ((HB.out.cell (World.block_lt_of_cell? w _ hw169_2)).trans hw169_2), ((HB.out.cell (World.block_lt_of_cell? w _ hw169_3)).trans hw169_3), ((HB.out.cell (World.block_lt_of_cell? w _ hw169_4)).trans hw169_4)⟩ (fun hHeld => ?_)
               clear hK K
               refine norm_ (a' := ?_) ?_ ?_
               rotate_left
               ·show Act.put _ (some 45) _ = _
                simp only [Act.put, sA, sZ, sS, i64_w]
                rfl
               refine pP 29 46 (bR [30, 13]) rfl rfl HT_ ?_
               refine pP 30 47 (bR [31, 12]) rfl rfl HT_ ?_
               refine pP 31 48 (bR [32, 11]) rfl rfl HT_ ?_
               refine pU 32 49 (bR [33, 10]) rfl rfl HT_ ?_
               refine pU 33 50 (bR [34, 9]) rfl rfl HT_ ?_
               refine pU 34 51 (bR [35, 8]) rfl rfl HT_ ?_
               refine pU 35 52 (bR [36, 7]) rfl rfl HT_ ?_
               refine pP 36 53 (bR [37, 6]) rfl rfl HT_ ?_
               refine pP 37 54 (bR [38, 5]) rfl rfl HT_ ?_
               refine pU 38 55 (bR [39, 4]) rfl rfl HT_ ?_
               refine pU 39 56 (bR [40, 3]) rfl rfl HT_ ?_
               refine pU 40 57 (bR [41, 2]) rfl rfl HT_ ?_
               refine pU 41 58 (bR [42, 1]) rfl rfl HT_ ?_
               refine pP 42 59 (bR [43]) rfl rfl HT_ ?_
               refine done_ (done_of HT_.out (by kernel_rfl)) ?_
               try go_wp2
               go_meet
               case rel => exact ⟨_, (true), (by first | rfl | (simp; done) | (simp [*]; done)), H', ⟨by have := HK1.out; first | omega | exact Nat.le_refl _⟩, ⟨by (with_reducible repeat first | refine kN ?_ _ | refine kD ?_ | refine kA ?_ _); exact BK167.out⟩, ⟨by repeat (first | (with_reducible first | exact HB.out | apply bA | apply bN | apply bD | refine bS ?_ GE167.out) | exact HB.out)⟩⟩
             ·replace c19 := Bool.eq_false_iff.mpr c19
              subst c19
              have H1 : (impl_AreClaims.j1 k1 l0 x12_1 l0 (l0.length : Int) x12_1 true ((rd_T84 l0 x12_1).f0) ((rd_T84 l0 x12_1).f1) ((rd_T84 l0 x12_1).f2) ((rd_T84 l0 x12_1).f3) ((rd_T84 l0 x12_1).f4)) = some r := by rw [if_neg (show ¬ (false = true) by decide)] at H; exact H
              clear H
              have H := H1
              clear H1
              have H' := Aside0.mk H
              clear H
              try go_wp2
              have n0_ : Aside0 ((((((w7.setCell ⟨gb167, 0, none⟩ (.int .i64 ((rd_T84 l0 x12_1).f0))).setCell ⟨gb167, 1, none⟩ (.int .i64 ((rd_T84 l0 x12_1).f1))).setCell ⟨gb167, 2, none⟩ (.int .i64 ((rd_T84 l0 x12_1).f2))).setCell ⟨gb167, 3, none⟩ (.int .i64 ((rd_T84 l0 x12_1).f3))).setCell ⟨gb167, 4, none⟩ (.int .i64 ((rd_T84 l0 x12_1).f4))).heap[gb167]? = some (.cells #[.int .i64 ((rd_T84 l0 x12_1).f0), .int .i64 ((rd_T84 l0 x12_1).f1), .int .i64 ((rd_T84 l0 x12_1).f2), .int .i64 ((rd_T84 l0 x12_1).f3), .int .i64 ((rd_T84 l0 x12_1).f4)] 84 (0, 0))) := ⟨by (with_reducible repeat first | refine kN ?_ _ | refine kD ?_ | refine kA ?_ _); refine blk_put (cs := #[.int .i64 ((rd_T84 l0 x12_1).f0), .int .i64 ((rd_T84 l0 x12_1).f1), .int .i64 ((rd_T84 l0 x12_1).f2), .int .i64 ((rd_T84 l0 x12_1).f3), .int .i64 0]) ?_ 4 _ rfl; (with_reducible repeat first | refine kN ?_ _ | refine kD ?_ | refine kA ?_ _); refine blk_put (cs := #[.int .i64 ((rd_T84 l0 x12_1).f0), .int .i64 ((rd_T84 l0 x12_1).f1), .int .i64 ((rd_T84 l0 x12_1).f2), .int .i64 0, .int .i64 0]) ?_ 3 _ rfl; (with_reducible repeat first | refine kN ?_ _ | refine kD ?_ | refine kA ?_ _); refine blk_put (cs := #[.int .i64 ((rd_T84 l0 x12_1).f0), .int .i64 ((rd_T84 l0 x12_1).f1), .int .i64 0, .int .i64 0, .int .i64 0]) ?_ 2 _ rfl; (with_reducible repeat first | refine kN ?_ _ | refine kD ?_ | refine kA ?_ _); refine blk_put (cs := #[.int .i64 ((rd_T84 l0 x12_1).f0), .int .i64 0, .int .i64 0, .int .i64 0, .int .i64 0]) ?_ 1 _ rfl; (with_reducible repeat first | refine kN ?_ _ | refine kD ?_ | refine kA ?_ _); refine blk_put (cs := #[.int .i64 0, .int .i64 0, .int .i64 0, .int .i64 0, .int .i64 0]) ?_ 0 _ rfl; (with_reducible repeat first | refine kN ?_ _ | refine kD ?_ | refine kA ?_ _); exact BK167.out⟩
              have n1_ : Aside0 (Below w.heap.size w (((((w7.setCell ⟨gb167, 0, none⟩ (.int .i64 ((rd_T84 l0 x12_1).f0))).setCell ⟨gb167, 1, none⟩ (.int .i64 ((rd_T84 l0 x12_1).f1))).setCell ⟨gb167, 2, none⟩ (.int .i64 ((rd_T84 l0 x12_1).f2))).setCell ⟨gb167, 3, none⟩ (.int .i64 ((rd_T84 l0 x12_1).f3))).setCell ⟨gb167, 4, none⟩ (.int .i64 ((rd_T84 l0 x12_1).f4)))) := ⟨by repeat (first | (with_reducible first | exact HB.out | apply bA | apply bN | apply bD | refine bS ?_ GE167.out) | exact HB.out)⟩
              (try clear BK167)
              (try clear HB)
              generalize (((((w7.setCell ⟨gb167, 0, none⟩ (.int .i64 ((rd_T84 l0 x12_1).f0))).setCell ⟨gb167, 1, none⟩ (.int .i64 ((rd_T84 l0 x12_1).f1))).setCell ⟨gb167, 2, none⟩ (.int .i64 ((rd_T84 l0 x12_1).f2))).setCell ⟨gb167, 3, none⟩ (.int .i64 ((rd_T84 l0 x12_1).f3))).setCell ⟨gb167, 4, none⟩ (.int .i64 ((rd_T84 l0 x12_1).f4))) = w31 at n0_ n1_ ⊢
              have BK167 := n0_
              have HB := n1_
              clear n0_ n1_
              have n0_ := Aside0.mk (blk_drew BK167.out)
              have n1_ := Aside0.mk (below_drew1 HB.out)
              clear BK167
              clear HB
              have BK167 := n0_
              have HB := n1_
              clear n0_ n1_
              have p169 : 0 ≤ ((ji12) : Int) := of_decide_eq_true ‹_›
              have q169 : (ji12) < (l0.length : Int) := of_decide_eq_true ‹_›
              obtain ⟨ad169, e169, hx169_0, hx169_1, hx169_2, hx169_3, hx169_4⟩ := at_T84 HR0.out (ji12) p169 q169
              have hw169_4 := hx169_4
              have hw169_3 := hx169_3
              have hw169_2 := hx169_2
              have hw169_1 := hx169_1
              have hw169_0 := hx169_0
              obtain rfl : ad166 = ad169 := (by injection e169)
              replace hx169_0 := (HB.out.cell (World.block_lt_of_cell? w _ hx169_0)).trans hx169_0
              replace hx169_1 := (HB.out.cell (World.block_lt_of_cell? w _ hx169_1)).trans hx169_1
              replace hx169_2 := (HB.out.cell (World.block_lt_of_cell? w _ hx169_2)).trans hx169_2
              replace hx169_3 := (HB.out.cell (World.block_lt_of_cell? w _ hx169_3)).trans hx169_3
              replace hx169_4 := (HB.out.cell (World.block_lt_of_cell? w _ hx169_4)).trans hx169_4
              replace p169 := eq_true p169
              replace q169 := eq_true q169
              refine start_ (n := 43) (S := fun w' => w'.cell? ⟨gb167, 0, none⟩ = some (.int .i64 ((rd_T84 l0 x12_1).f0)) ∧ w'.cell? ⟨gb167, 1, none⟩ = some (.int .i64 ((rd_T84 l0 x12_1).f1)) ∧ w'.cell? ⟨gb167, 2, none⟩ = some (.int .i64 ((rd_T84 l0 x12_1).f2)) ∧ w'.cell? ⟨gb167, 3, none⟩ = some (.int .i64 ((rd_T84 l0 x12_1).f3)) ∧ w'.cell? ⟨gb167, 4, none⟩ = some (.int .i64 ((rd_T84 l0 x12_1).f4)) ∧ w'.cell? (ad166.add (((ji12)).toNat * 5)) = some (.int .i64 ((rd_T84 l0 (ji12)).f0)) ∧ w'.cell? ⟨(ad166.add (((ji12)).toNat * 5)).block, (ad166.add (((ji12)).toNat * 5)).off + 1, none⟩ = some (.int .i64 ((rd_T84 l0 (ji12)).f1)) ∧ w'.cell? ⟨(ad166.add (((ji12)).toNat * 5)).block, (ad166.add (((ji12)).toNat * 5)).off + 2, none⟩ = some (.int .i64 ((rd_T84 l0 (ji12)).f2)) ∧ w'.cell? ⟨(ad166.add (((ji12)).toNat * 5)).block, (ad166.add (((ji12)).toNat * 5)).off + 3, none⟩ = some (.int .i64 ((rd_T84 l0 (ji12)).f3)) ∧ w'.cell? ⟨(ad166.add (((ji12)).toNat * 5)).block, (ad166.add (((ji12)).toNat * 5)).off + 4, none⟩ = some (.int .i64 ((rd_T84 l0 (ji12)).f4))) (ds := []) (bR [0, 43]) (by kernel_rfl) rfl rfl ⟨cC BK167 0, cC BK167 1, cC BK167 2, cC BK167 3, cC BK167 4, ((HB.out.cell (World.block_lt_of_cell? w _ hw169_0)).trans hw169_0), ((HB.out.cell (World.block_lt_of_cell? w _ hw169_1)).trans hw169_1), ((HB.out.cell (World.block_lt_of_cell? w _ hw169_2)).trans hw169_2), ((HB.out.cell (World.block_lt_of_cell? w _ hw169_3)).trans hw169_3), ((HB.out.cell (World.block_lt_of_cell? w _ hw169_4)).trans hw169_4)⟩ (fun hHeld => ?_); refine with_tabW impl_AreClaims.tab6 impl_AreClaims.bits6 (fun HT_ HW_ => ?_)
              generalize w31.drew = w32 at BK167 HB hx169_0 hx169_1 hx169_2 hx169_3 hx169_4 hHeld ⊢
              refine pP 0 17 (bR [1, 42]) rfl rfl HT_ ?_
              refine take_ (i := 1) (N := some 18) (v := ?_) (a' := ?_) (bR [2, 41]) rfl rfl (take_ofW HT_.out HW_.out (by kernel_rfl)) (fun _ _ _ h => h) (Or.inl ⟨by rfl, ?_⟩) hHeld ?_ ?_
              rotate_left; (rintro w' ⟨s0, s1, s2, s3, s4, s5, s6, s7, s8, s9⟩; go_simp; with_reducible rfl); rotate_left; (simp only [Act.put, sA, sZ, sS, i64_w]; rfl)
              refine one_ (i := 2) (N := some 19) (bR [3, 40]) rfl rfl (one_of HT_.out (by kernel_rfl)) (by decide) (fun K hK => ?_)
              refine goes_ Try.func114 (by kernel_rfl) rfl #[.int .i64 ((rd_T84 l0 x12_1).f0), .int .i64 1, .int .i64 999] (by rfl) rfl rfl (by (try simp only [mA, mC, mN]); first | done | rfl | (simp only [lD, lT]; rfl)) ?_
              with_reducible refine (impl_InRange.calls ((rd_T84 l0 x12_1).f0) 1 999 true _ A9.out).mono ?_
              rintro e w' ⟨rfl, ⟨nd, rfl⟩⟩
              refine ⟨_, rfl, ?_⟩
              refine hK.out _ _ ⟨cC BK167 0, cC BK167 1, cC BK167 2, cC BK167 3, cC BK167 4, ((HB.out.cell (World.block_lt_of_cell? w _ hw169_0)).trans hw169_0), ((HB.out.cell (World.block_lt_of_cell? w _ hw169_1)).trans hw169_1), ((HB.out.cell (World.block_lt_of_cell? w _ hw169_2)).trans hw169_2), ((HB.out.cell (World.block_lt_of_cell? w _ hw169_3)).trans hw169_3), ((HB.out.cell (World.block_lt_of_cell? w _ hw169_4)).trans hw169_4)⟩ (fun hHeld => ?_)
              clear hK K
              refine norm_ (a' := ?_) ?_ ?_
              rotate_left
              ·show Act.put _ (some 19) _ = _
               simp only [Act.put, sA, sZ, sS, i64_w]
               rfl
              refine pP 3 20 (bR [4, 39]) rfl rfl HT_ ?_
              refine pP 4 21 (bR [5, 38]) rfl rfl HT_ ?_
              refine pP 5 22 (bR [6, 37]) rfl rfl HT_ ?_
              refine pP 6 23 (bR [7, 36]) rfl rfl HT_ ?_
              refine pP 7 24 (bR [8, 35]) rfl rfl HT_ ?_
              refine pP 8 25 (bR [9, 34]) rfl rfl HT_ ?_
              refine pP 10 27 (bR [9, 1, 1, 32]) rfl rfl HT_ ?_
              refine pP 11 28 (bR [9, 1, 2, 31]) rfl rfl HT_ ?_
              refine pP 12 29 (bR [9, 1, 3, 30]) rfl rfl HT_ ?_
              refine pP 13 30 (bR [9, 1, 4, 29]) rfl rfl HT_ ?_
              refine pP 14 31 (bR [9, 1, 5, 28]) rfl rfl HT_ ?_
              refine take_ (i := 9) (N := some 26) (v := ?_) (a' := ?_) (bR [15, 28]) rfl rfl (take_ofW HT_.out HW_.out (by kernel_rfl)) (fun _ _ _ h => h) (Or.inl ⟨by rfl, ?_⟩) hHeld ?_ ?_
              rotate_left; (rintro w' ⟨s0, s1, s2, s3, s4, s5, s6, s7, s8, s9⟩; go_simp; with_reducible rfl); rotate_left; (simp only [Act.put, sA, sZ, sS, i64_w]; rfl)
              refine take_ (i := 15) (N := some 32) (v := ?_) (a' := ?_) (bR [16, 27]) rfl rfl (take_ofW HT_.out HW_.out (by kernel_rfl)) (fun _ _ _ h => h) (Or.inl ⟨by rfl, ?_⟩) hHeld ?_ ?_
              rotate_left; (rintro w' ⟨s0, s1, s2, s3, s4, s5, s6, s7, s8, s9⟩; go_simp; with_reducible rfl); rotate_left; (simp only [Act.put, sA, sZ, sS, i64_w]; rfl)
              refine pP 16 33 (bR [17, 26]) rfl rfl HT_ ?_
              refine pP 17 34 (bR [18, 25]) rfl rfl HT_ ?_
              refine pP 18 35 (bR [19, 24]) rfl rfl HT_ ?_
              refine pP 19 36 (bR [20, 23]) rfl rfl HT_ ?_
              refine pP 20 37 (bR [21, 22]) rfl rfl HT_ ?_
              refine take_ (i := 21) (N := some 38) (v := ?_) (a' := ?_) (bR [22, 21]) rfl rfl (take_ofW HT_.out HW_.out (by kernel_rfl)) (fun _ _ _ h => h) (Or.inl ⟨by rfl, ?_⟩) hHeld ?_ ?_
              rotate_left; (rintro w' ⟨s0, s1, s2, s3, s4, s5, s6, s7, s8, s9⟩; go_simp; with_reducible rfl); rotate_left; (simp only [Act.put, sA, sZ, sS, i64_w]; rfl)
              refine one_ (i := 22) (N := some 39) (bR [23, 20]) rfl rfl (one_of HT_.out (by kernel_rfl)) (by decide) (fun K hK => ?_)
              refine goes_ Try.func114 (by kernel_rfl) rfl #[.int .i64 ((rd_T84 l0 x12_1).f1), .int .i64 1, .int .i64 999] (by rfl) rfl rfl (by (try simp only [mA, mC, mN]); first | done | rfl | (simp only [lD, lT]; rfl)) ?_
              with_reducible refine (impl_InRange.calls ((rd_T84 l0 x12_1).f1) 1 999 false _ A18.out).mono ?_
              rintro e w' ⟨rfl, ⟨nd, rfl⟩⟩
              refine ⟨_, rfl, ?_⟩
              refine hK.out _ _ ⟨cC BK167 0, cC BK167 1, cC BK167 2, cC BK167 3, cC BK167 4, ((HB.out.cell (World.block_lt_of_cell? w _ hw169_0)).trans hw169_0), ((HB.out.cell (World.block_lt_of_cell? w _ hw169_1)).trans hw169_1), ((HB.out.cell (World.block_lt_of_cell? w _ hw169_2)).trans hw169_2), ((HB.out.cell (World.block_lt_of_cell? w _ hw169_3)).trans hw169_3), ((HB.out.cell (World.block_lt_of_cell? w _ hw169_4)).trans hw169_4)⟩ (fun hHeld => ?_)
              clear hK K
              refine norm_ (a' := ?_) ?_ ?_
              rotate_left
              ·show Act.put _ (some 39) _ = _
               simp only [Act.put, sA, sZ, sS, i64_w]
               rfl
              refine pP 23 40 (bR [24, 19]) rfl rfl HT_ ?_
              refine pP 24 41 (bR [25, 18]) rfl rfl HT_ ?_
              refine pP 25 42 (bR [26, 17]) rfl rfl HT_ ?_
              refine pU 26 43 (bR [27, 16]) rfl rfl HT_ ?_
              refine pU 27 44 (bR [28, 15]) rfl rfl HT_ ?_
              refine pU 28 45 (bR [29, 14]) rfl rfl HT_ ?_
              refine pU 29 46 (bR [30, 13]) rfl rfl HT_ ?_
              refine pP 30 47 (bR [31, 12]) rfl rfl HT_ ?_
              refine pP 31 48 (bR [32, 11]) rfl rfl HT_ ?_
              refine pU 32 49 (bR [33, 10]) rfl rfl HT_ ?_
              refine pU 33 50 (bR [34, 9]) rfl rfl HT_ ?_
              refine pU 34 51 (bR [35, 8]) rfl rfl HT_ ?_
              refine pU 35 52 (bR [36, 7]) rfl rfl HT_ ?_
              refine pP 36 53 (bR [37, 6]) rfl rfl HT_ ?_
              refine pP 37 54 (bR [38, 5]) rfl rfl HT_ ?_
              refine pU 38 55 (bR [39, 4]) rfl rfl HT_ ?_
              refine pU 39 56 (bR [40, 3]) rfl rfl HT_ ?_
              refine pU 40 57 (bR [41, 2]) rfl rfl HT_ ?_
              refine pU 41 58 (bR [42, 1]) rfl rfl HT_ ?_
              refine pP 42 59 (bR [43]) rfl rfl HT_ ?_
              refine done_ (done_of HT_.out (by kernel_rfl)) ?_
              try go_wp2
              go_meet
              case rel => exact ⟨_, (true), (by first | rfl | (simp; done) | (simp [*]; done)), H', ⟨by have := HK1.out; first | omega | exact Nat.le_refl _⟩, ⟨by (with_reducible repeat first | refine kN ?_ _ | refine kD ?_ | refine kA ?_ _); exact BK167.out⟩, ⟨by repeat (first | (with_reducible first | exact HB.out | apply bA | apply bN | apply bD | refine bS ?_ GE167.out) | exact HB.out)⟩⟩
           ·rw [if_neg c14] at H
            exact absurd H (by simp)
          ·rw [if_neg c13] at H
           exact absurd H (by simp)
         ·rw [if_neg c11] at H
          have c11b0 : decide (0 < x12_1) = false := decide_eq_false c11
          clear c11
          (first | rw [c11b0] | (simp only [i64_w, i32_w]; rw [c11b0]) | skip)
          replace H := Option.bind_eq_some_iff.mp H
          obtain ⟨t174, A330, H⟩ := H
          replace H : (if t174 = true then ((impl_InRange.f ((rd_T84 l0 x12_1).f2) 1 999).bind fun t175 => (if t175 = true then ((impl_InRange.f ((rd_T84 l0 x12_1).f3) 0 100000).bind fun t176 => (if t176 = true then ((impl_InRange.f ((rd_T84 l0 x12_1).f4) 0 3).bind fun t177 => (impl_AreClaims.j1 k1 l0 x12_1 l0 (l0.length : Int) x12_1 (!t177) ((rd_T84 l0 x12_1).f0) ((rd_T84 l0 x12_1).f1) ((rd_T84 l0 x12_1).f2) ((rd_T84 l0 x12_1).f3) ((rd_T84 l0 x12_1).f4))) else (impl_AreClaims.j1 k1 l0 x12_1 l0 (l0.length : Int) x12_1 true ((rd_T84 l0 x12_1).f0) ((rd_T84 l0 x12_1).f1) ((rd_T84 l0 x12_1).f2) ((rd_T84 l0 x12_1).f3) ((rd_T84 l0 x12_1).f4)))) else (impl_AreClaims.j1 k1 l0 x12_1 l0 (l0.length : Int) x12_1 true ((rd_T84 l0 x12_1).f0) ((rd_T84 l0 x12_1).f1) ((rd_T84 l0 x12_1).f2) ((rd_T84 l0 x12_1).f3) ((rd_T84 l0 x12_1).f4)))) else (impl_AreClaims.j1 k1 l0 x12_1 l0 (l0.length : Int) x12_1 true ((rd_T84 l0 x12_1).f0) ((rd_T84 l0 x12_1).f1) ((rd_T84 l0 x12_1).f2) ((rd_T84 l0 x12_1).f3) ((rd_T84 l0 x12_1).f4))) = some r := H
          have A33 := Aside0.mk A330
          clear A330
          by_cases c34 : t174 = true
          ·subst c34
           have H1 : ((impl_InRange.f ((rd_T84 l0 x12_1).f2) 1 999).bind fun t175 => (if t175 = true then ((impl_InRange.f ((rd_T84 l0 x12_1).f3) 0 100000).bind fun t176 => (if t176 = true then ((impl_InRange.f ((rd_T84 l0 x12_1).f4) 0 3).bind fun t177 => (impl_AreClaims.j1 k1 l0 x12_1 l0 (l0.length : Int) x12_1 (!t177) ((rd_T84 l0 x12_1).f0) ((rd_T84 l0 x12_1).f1) ((rd_T84 l0 x12_1).f2) ((rd_T84 l0 x12_1).f3) ((rd_T84 l0 x12_1).f4))) else (impl_AreClaims.j1 k1 l0 x12_1 l0 (l0.length : Int) x12_1 true ((rd_T84 l0 x12_1).f0) ((rd_T84 l0 x12_1).f1) ((rd_T84 l0 x12_1).f2) ((rd_T84 l0 x12_1).f3) ((rd_T84 l0 x12_1).f4)))) else (impl_AreClaims.j1 k1 l0 x12_1 l0 (l0.length : Int) x12_1 true ((rd_T84 l0 x12_1).f0) ((rd_T84 l0 x12_1).f1) ((rd_T84 l0 x12_1).f2) ((rd_T84 l0 x12_1).f3) ((rd_T84 l0 x12_1).f4)))) = some r := by rw [if_pos rfl] at H; exact H
           clear H
           have H := H1
           clear H1
           replace H := Option.bind_eq_some_iff.mp H
           obtain ⟨t175, A350, H⟩ := H
           replace H : (if t175 = true then ((impl_InRange.f ((rd_T84 l0 x12_1).f3) 0 100000).bind fun t176 => (if t176 = true then ((impl_InRange.f ((rd_T84 l0 x12_1).f4) 0 3).bind fun t177 => (impl_AreClaims.j1 k1 l0 x12_1 l0 (l0.length : Int) x12_1 (!t177) ((rd_T84 l0 x12_1).f0) ((rd_T84 l0 x12_1).f1) ((rd_T84 l0 x12_1).f2) ((rd_T84 l0 x12_1).f3) ((rd_T84 l0 x12_1).f4))) else (impl_AreClaims.j1 k1 l0 x12_1 l0 (l0.length : Int) x12_1 true ((rd_T84 l0 x12_1).f0) ((rd_T84 l0 x12_1).f1) ((rd_T84 l0 x12_1).f2) ((rd_T84 l0 x12_1).f3) ((rd_T84 l0 x12_1).f4)))) else (impl_AreClaims.j1 k1 l0 x12_1 l0 (l0.length : Int) x12_1 true ((rd_T84 l0 x12_1).f0) ((rd_T84 l0 x12_1).f1) ((rd_T84 l0 x12_1).f2) ((rd_T84 l0 x12_1).f3) ((rd_T84 l0 x12_1).f4))) = some r := H
           have A35 := Aside0.mk A350
           clear A350
           by_cases c36 : t175 = true
           ·subst c36
            have H1 : ((impl_InRange.f ((rd_T84 l0 x12_1).f3) 0 100000).bind fun t176 => (if t176 = true then ((impl_InRange.f ((rd_T84 l0 x12_1).f4) 0 3).bind fun t177 => (impl_AreClaims.j1 k1 l0 x12_1 l0 (l0.length : Int) x12_1 (!t177) ((rd_T84 l0 x12_1).f0) ((rd_T84 l0 x12_1).f1) ((rd_T84 l0 x12_1).f2) ((rd_T84 l0 x12_1).f3) ((rd_T84 l0 x12_1).f4))) else (impl_AreClaims.j1 k1 l0 x12_1 l0 (l0.length : Int) x12_1 true ((rd_T84 l0 x12_1).f0) ((rd_T84 l0 x12_1).f1) ((rd_T84 l0 x12_1).f2) ((rd_T84 l0 x12_1).f3) ((rd_T84 l0 x12_1).f4)))) = some r := by rw [if_pos rfl] at H; exact H
            clear H
            have H := H1
            clear H1
            replace H := Option.bind_eq_some_iff.mp H
            obtain ⟨t176, A370, H⟩ := H
            replace H : (if t176 = true then ((impl_InRange.f ((rd_T84 l0 x12_1).f4) 0 3).bind fun t177 => (impl_AreClaims.j1 k1 l0 x12_1 l0 (l0.length : Int) x12_1 (!t177) ((rd_T84 l0 x12_1).f0) ((rd_T84 l0 x12_1).f1) ((rd_T84 l0 x12_1).f2) ((rd_T84 l0 x12_1).f3) ((rd_T84 l0 x12_1).f4))) else (impl_AreClaims.j1 k1 l0 x12_1 l0 (l0.length : Int) x12_1 true ((rd_T84 l0 x12_1).f0) ((rd_T84 l0 x12_1).f1) ((rd_T84 l0 x12_1).f2) ((rd_T84 l0 x12_1).f3) ((rd_T84 l0 x12_1).f4))) = some r := H
            have A37 := Aside0.mk A370
            clear A370
            by_cases c38 : t176 = true
            ·subst c38
             have H1 : ((impl_InRange.f ((rd_T84 l0 x12_1).f4) 0 3).bind fun t177 => (impl_AreClaims.j1 k1 l0 x12_1 l0 (l0.length : Int) x12_1 (!t177) ((rd_T84 l0 x12_1).f0) ((rd_T84 l0 x12_1).f1) ((rd_T84 l0 x12_1).f2) ((rd_T84 l0 x12_1).f3) ((rd_T84 l0 x12_1).f4))) = some r := by rw [if_pos rfl] at H; exact H
             clear H
             have H := H1
             clear H1
             replace H := Option.bind_eq_some_iff.mp H
             obtain ⟨t177, A390, H⟩ := H
             replace H : (impl_AreClaims.j1 k1 l0 x12_1 l0 (l0.length : Int) x12_1 (!t177) ((rd_T84 l0 x12_1).f0) ((rd_T84 l0 x12_1).f1) ((rd_T84 l0 x12_1).f2) ((rd_T84 l0 x12_1).f3) ((rd_T84 l0 x12_1).f4)) = some r := H
             have A39 := Aside0.mk A390
             clear A390
             have H' := Aside0.mk H
             clear H
             try go_wp2
             have n0_ : Aside0 ((((((w7.setCell ⟨gb167, 0, none⟩ (.int .i64 ((rd_T84 l0 x12_1).f0))).setCell ⟨gb167, 1, none⟩ (.int .i64 ((rd_T84 l0 x12_1).f1))).setCell ⟨gb167, 2, none⟩ (.int .i64 ((rd_T84 l0 x12_1).f2))).setCell ⟨gb167, 3, none⟩ (.int .i64 ((rd_T84 l0 x12_1).f3))).setCell ⟨gb167, 4, none⟩ (.int .i64 ((rd_T84 l0 x12_1).f4))).heap[gb167]? = some (.cells #[.int .i64 ((rd_T84 l0 x12_1).f0), .int .i64 ((rd_T84 l0 x12_1).f1), .int .i64 ((rd_T84 l0 x12_1).f2), .int .i64 ((rd_T84 l0 x12_1).f3), .int .i64 ((rd_T84 l0 x12_1).f4)] 84 (0, 0))) := ⟨by (with_reducible repeat first | refine kN ?_ _ | refine kD ?_ | refine kA ?_ _); refine blk_put (cs := #[.int .i64 ((rd_T84 l0 x12_1).f0), .int .i64 ((rd_T84 l0 x12_1).f1), .int .i64 ((rd_T84 l0 x12_1).f2), .int .i64 ((rd_T84 l0 x12_1).f3), .int .i64 0]) ?_ 4 _ rfl; (with_reducible repeat first | refine kN ?_ _ | refine kD ?_ | refine kA ?_ _); refine blk_put (cs := #[.int .i64 ((rd_T84 l0 x12_1).f0), .int .i64 ((rd_T84 l0 x12_1).f1), .int .i64 ((rd_T84 l0 x12_1).f2), .int .i64 0, .int .i64 0]) ?_ 3 _ rfl; (with_reducible repeat first | refine kN ?_ _ | refine kD ?_ | refine kA ?_ _); refine blk_put (cs := #[.int .i64 ((rd_T84 l0 x12_1).f0), .int .i64 ((rd_T84 l0 x12_1).f1), .int .i64 0, .int .i64 0, .int .i64 0]) ?_ 2 _ rfl; (with_reducible repeat first | refine kN ?_ _ | refine kD ?_ | refine kA ?_ _); refine blk_put (cs := #[.int .i64 ((rd_T84 l0 x12_1).f0), .int .i64 0, .int .i64 0, .int .i64 0, .int .i64 0]) ?_ 1 _ rfl; (with_reducible repeat first | refine kN ?_ _ | refine kD ?_ | refine kA ?_ _); refine blk_put (cs := #[.int .i64 0, .int .i64 0, .int .i64 0, .int .i64 0, .int .i64 0]) ?_ 0 _ rfl; (with_reducible repeat first | refine kN ?_ _ | refine kD ?_ | refine kA ?_ _); exact BK167.out⟩
             have n1_ : Aside0 (Below w.heap.size w (((((w7.setCell ⟨gb167, 0, none⟩ (.int .i64 ((rd_T84 l0 x12_1).f0))).setCell ⟨gb167, 1, none⟩ (.int .i64 ((rd_T84 l0 x12_1).f1))).setCell ⟨gb167, 2, none⟩ (.int .i64 ((rd_T84 l0 x12_1).f2))).setCell ⟨gb167, 3, none⟩ (.int .i64 ((rd_T84 l0 x12_1).f3))).setCell ⟨gb167, 4, none⟩ (.int .i64 ((rd_T84 l0 x12_1).f4)))) := ⟨by repeat (first | (with_reducible first | exact HB.out | apply bA | apply bN | apply bD | refine bS ?_ GE167.out) | exact HB.out)⟩
             (try clear BK167)
             (try clear HB)
             generalize (((((w7.setCell ⟨gb167, 0, none⟩ (.int .i64 ((rd_T84 l0 x12_1).f0))).setCell ⟨gb167, 1, none⟩ (.int .i64 ((rd_T84 l0 x12_1).f1))).setCell ⟨gb167, 2, none⟩ (.int .i64 ((rd_T84 l0 x12_1).f2))).setCell ⟨gb167, 3, none⟩ (.int .i64 ((rd_T84 l0 x12_1).f3))).setCell ⟨gb167, 4, none⟩ (.int .i64 ((rd_T84 l0 x12_1).f4))) = w40 at n0_ n1_ ⊢
             have BK167 := n0_
             have HB := n1_
             clear n0_ n1_
             have n0_ := Aside0.mk (blk_drew BK167.out)
             have n1_ := Aside0.mk (below_drew1 HB.out)
             clear BK167
             clear HB
             have BK167 := n0_
             have HB := n1_
             clear n0_ n1_
             refine start_ (n := 43) (S := fun w' => w'.cell? ⟨gb167, 0, none⟩ = some (.int .i64 ((rd_T84 l0 x12_1).f0)) ∧ w'.cell? ⟨gb167, 1, none⟩ = some (.int .i64 ((rd_T84 l0 x12_1).f1)) ∧ w'.cell? ⟨gb167, 2, none⟩ = some (.int .i64 ((rd_T84 l0 x12_1).f2)) ∧ w'.cell? ⟨gb167, 3, none⟩ = some (.int .i64 ((rd_T84 l0 x12_1).f3)) ∧ w'.cell? ⟨gb167, 4, none⟩ = some (.int .i64 ((rd_T84 l0 x12_1).f4))) (ds := []) (bR [0, 43]) (by kernel_rfl) rfl rfl ⟨cC BK167 0, cC BK167 1, cC BK167 2, cC BK167 3, cC BK167 4⟩ (fun hHeld => ?_); refine with_tabW impl_AreClaims.tab6 impl_AreClaims.bits6 (fun HT_ HW_ => ?_)
             generalize w40.drew = w41 at BK167 HB hHeld ⊢
             refine pP 0 17 (bR [1, 42]) rfl rfl HT_ ?_
             refine take_ (i := 1) (N := some 18) (v := ?_) (a' := ?_) (bR [2, 41]) rfl rfl (take_ofW HT_.out HW_.out (by kernel_rfl)) (fun _ _ _ h => h) (Or.inl ⟨by rfl, ?_⟩) hHeld ?_ ?_
             rotate_left; (rintro w' ⟨s0, s1, s2, s3, s4⟩; go_simp; with_reducible rfl); rotate_left; (simp only [Act.put, sA, sZ, sS, i64_w]; rfl)
             refine one_ (i := 2) (N := some 19) (bR [3, 40]) rfl rfl (one_of HT_.out (by kernel_rfl)) (by decide) (fun K hK => ?_)
             refine goes_ Try.func114 (by kernel_rfl) rfl #[.int .i64 ((rd_T84 l0 x12_1).f0), .int .i64 1, .int .i64 999] (by rfl) rfl rfl (by (try simp only [mA, mC, mN]); first | done | rfl | (simp only [lD, lT]; rfl)) ?_
             with_reducible refine (impl_InRange.calls ((rd_T84 l0 x12_1).f0) 1 999 true _ A9.out).mono ?_
             rintro e w' ⟨rfl, ⟨nd, rfl⟩⟩
             refine ⟨_, rfl, ?_⟩
             refine hK.out _ _ ⟨cC BK167 0, cC BK167 1, cC BK167 2, cC BK167 3, cC BK167 4⟩ (fun hHeld => ?_)
             clear hK K
             refine norm_ (a' := ?_) ?_ ?_
             rotate_left
             ·show Act.put _ (some 19) _ = _
              simp only [Act.put, sA, sZ, sS, i64_w]
              rfl
             refine pP 3 20 (bR [4, 39]) rfl rfl HT_ ?_
             refine pP 4 21 (bR [5, 38]) rfl rfl HT_ ?_
             refine pP 5 22 (bR [6, 37]) rfl rfl HT_ ?_
             refine pP 6 23 (bR [7, 36]) rfl rfl HT_ ?_
             refine pP 7 24 (bR [8, 35]) rfl rfl HT_ ?_
             refine pU 8 25 (bR [9, 34]) rfl rfl HT_ ?_
             refine pU 9 26 (bR [10, 33]) rfl rfl HT_ ?_
             refine pU 10 27 (bR [11, 32]) rfl rfl HT_ ?_
             refine pU 11 28 (bR [12, 31]) rfl rfl HT_ ?_
             refine pU 12 29 (bR [13, 30]) rfl rfl HT_ ?_
             refine pU 13 30 (bR [14, 29]) rfl rfl HT_ ?_
             refine pU 14 31 (bR [15, 28]) rfl rfl HT_ ?_
             refine pU 15 32 (bR [16, 27]) rfl rfl HT_ ?_
             refine pU 16 33 (bR [17, 26]) rfl rfl HT_ ?_
             refine pP 17 34 (bR [18, 25]) rfl rfl HT_ ?_
             refine pP 18 35 (bR [19, 24]) rfl rfl HT_ ?_
             refine pP 19 36 (bR [20, 23]) rfl rfl HT_ ?_
             refine pP 20 37 (bR [21, 22]) rfl rfl HT_ ?_
             refine take_ (i := 21) (N := some 38) (v := ?_) (a' := ?_) (bR [22, 21]) rfl rfl (take_ofW HT_.out HW_.out (by kernel_rfl)) (fun _ _ _ h => h) (Or.inl ⟨by rfl, ?_⟩) hHeld ?_ ?_
             rotate_left; (rintro w' ⟨s0, s1, s2, s3, s4⟩; go_simp; with_reducible rfl); rotate_left; (simp only [Act.put, sA, sZ, sS, i64_w]; rfl)
             refine one_ (i := 22) (N := some 39) (bR [23, 20]) rfl rfl (one_of HT_.out (by kernel_rfl)) (by decide) (fun K hK => ?_)
             refine goes_ Try.func114 (by kernel_rfl) rfl #[.int .i64 ((rd_T84 l0 x12_1).f1), .int .i64 1, .int .i64 999] (by rfl) rfl rfl (by (try simp only [mA, mC, mN]); first | done | rfl | (simp only [lD, lT]; rfl)) ?_
             with_reducible refine (impl_InRange.calls ((rd_T84 l0 x12_1).f1) 1 999 true _ A33.out).mono ?_
             rintro e w' ⟨rfl, ⟨nd, rfl⟩⟩
             refine ⟨_, rfl, ?_⟩
             refine hK.out _ _ ⟨cC BK167 0, cC BK167 1, cC BK167 2, cC BK167 3, cC BK167 4⟩ (fun hHeld => ?_)
             clear hK K
             refine norm_ (a' := ?_) ?_ ?_
             rotate_left
             ·show Act.put _ (some 39) _ = _
              simp only [Act.put, sA, sZ, sS, i64_w]
              rfl
             refine pP 23 40 (bR [24, 19]) rfl rfl HT_ ?_
             refine pP 24 41 (bR [25, 18]) rfl rfl HT_ ?_
             refine pP 25 42 (bR [26, 17]) rfl rfl HT_ ?_
             refine pP 26 43 (bR [27, 16]) rfl rfl HT_ ?_
             refine take_ (i := 27) (N := some 44) (v := ?_) (a' := ?_) (bR [28, 15]) rfl rfl (take_ofW HT_.out HW_.out (by kernel_rfl)) (fun _ _ _ h => h) (Or.inl ⟨by rfl, ?_⟩) hHeld ?_ ?_
             rotate_left; (rintro w' ⟨s0, s1, s2, s3, s4⟩; go_simp; with_reducible rfl); rotate_left; (simp only [Act.put, sA, sZ, sS, i64_w]; rfl)
             refine one_ (i := 28) (N := some 45) (bR [29, 14]) rfl rfl (one_of HT_.out (by kernel_rfl)) (by decide) (fun K hK => ?_)
             refine goes_ Try.func114 (by kernel_rfl) rfl #[.int .i64 ((rd_T84 l0 x12_1).f2), .int .i64 1, .int .i64 999] (by rfl) rfl rfl (by (try simp only [mA, mC, mN]); first | done | rfl | (simp only [lD, lT]; rfl)) ?_
             with_reducible refine (impl_InRange.calls ((rd_T84 l0 x12_1).f2) 1 999 true _ A35.out).mono ?_
             rintro e w' ⟨rfl, ⟨nd, rfl⟩⟩
             refine ⟨_, rfl, ?_⟩
             refine hK.out _ _ ⟨cC BK167 0, cC BK167 1, cC BK167 2, cC BK167 3, cC BK167 4⟩ (fun hHeld => ?_)
             clear hK K
             refine norm_ (a' := ?_) ?_ ?_
             rotate_left
             ·show Act.put _ (some 45) _ = _
              simp only [Act.put, sA, sZ, sS, i64_w]
              rfl
             refine pP 29 46 (bR [30, 13]) rfl rfl HT_ ?_
             refine pP 30 47 (bR [31, 12]) rfl rfl HT_ ?_
             refine pP 31 48 (bR [32, 11]) rfl rfl HT_ ?_
             refine pP 32 49 (bR [33, 10]) rfl rfl HT_ ?_
             refine take_ (i := 33) (N := some 50) (v := ?_) (a' := ?_) (bR [34, 9]) rfl rfl (take_ofW HT_.out HW_.out (by kernel_rfl)) (fun _ _ _ h => h) (Or.inl ⟨by rfl, ?_⟩) hHeld ?_ ?_
             rotate_left; (rintro w' ⟨s0, s1, s2, s3, s4⟩; go_simp; with_reducible rfl); rotate_left; (simp only [Act.put, sA, sZ, sS, i64_w]; rfl)
             refine one_ (i := 34) (N := some 51) (bR [35, 8]) rfl rfl (one_of HT_.out (by kernel_rfl)) (by decide) (fun K hK => ?_)
             refine goes_ Try.func114 (by kernel_rfl) rfl #[.int .i64 ((rd_T84 l0 x12_1).f3), .int .i64 0, .int .i64 100000] (by rfl) rfl rfl (by (try simp only [mA, mC, mN]); first | done | rfl | (simp only [lD, lT]; rfl)) ?_
             with_reducible refine (impl_InRange.calls ((rd_T84 l0 x12_1).f3) 0 100000 true _ A37.out).mono ?_
             rintro e w' ⟨rfl, ⟨nd, rfl⟩⟩
             refine ⟨_, rfl, ?_⟩
             refine hK.out _ _ ⟨cC BK167 0, cC BK167 1, cC BK167 2, cC BK167 3, cC BK167 4⟩ (fun hHeld => ?_)
             clear hK K
             refine norm_ (a' := ?_) ?_ ?_
             rotate_left
             ·show Act.put _ (some 51) _ = _
              simp only [Act.put, sA, sZ, sS, i64_w]
              rfl
             refine pP 35 52 (bR [36, 7]) rfl rfl HT_ ?_
             refine pP 36 53 (bR [37, 6]) rfl rfl HT_ ?_
             refine pP 37 54 (bR [38, 5]) rfl rfl HT_ ?_
             refine pP 38 55 (bR [39, 4]) rfl rfl HT_ ?_
             refine take_ (i := 39) (N := some 56) (v := ?_) (a' := ?_) (bR [40, 3]) rfl rfl (take_ofW HT_.out HW_.out (by kernel_rfl)) (fun _ _ _ h => h) (Or.inl ⟨by rfl, ?_⟩) hHeld ?_ ?_
             rotate_left; (rintro w' ⟨s0, s1, s2, s3, s4⟩; go_simp; with_reducible rfl); rotate_left; (simp only [Act.put, sA, sZ, sS, i64_w]; rfl)
             refine one_ (i := 40) (N := some 57) (bR [41, 2]) rfl rfl (one_of HT_.out (by kernel_rfl)) (by decide) (fun K hK => ?_)
             refine goes_ Try.func114 (by kernel_rfl) rfl #[.int .i64 ((rd_T84 l0 x12_1).f4), .int .i64 0, .int .i64 3] (by rfl) rfl rfl (by (try simp only [mA, mC, mN]); first | done | rfl | (simp only [lD, lT]; rfl)) ?_
             with_reducible refine (impl_InRange.calls ((rd_T84 l0 x12_1).f4) 0 3 t177 _ A39.out).mono ?_
             rintro e w' ⟨rfl, ⟨nd, rfl⟩⟩
             refine ⟨_, rfl, ?_⟩
             refine hK.out _ _ ⟨cC BK167 0, cC BK167 1, cC BK167 2, cC BK167 3, cC BK167 4⟩ (fun hHeld => ?_)
             clear hK K
             refine norm_ (a' := ?_) ?_ ?_
             rotate_left
             ·show Act.put _ (some 57) _ = _
              simp only [Act.put, sA, sZ, sS, i64_w]
              rfl
             refine pP 41 58 (bR [42, 1]) rfl rfl HT_ ?_
             refine pP 42 59 (bR [43]) rfl rfl HT_ ?_
             refine done_ (done_of HT_.out (by kernel_rfl)) ?_
             try go_wp2
             go_meet
             case rel => exact ⟨_, (!t177), (by first | rfl | (simp; done) | (simp [*]; done)), H', ⟨by have := HK1.out; first | omega | exact Nat.le_refl _⟩, ⟨by (with_reducible repeat first | refine kN ?_ _ | refine kD ?_ | refine kA ?_ _); exact BK167.out⟩, ⟨by repeat (first | (with_reducible first | exact HB.out | apply bA | apply bN | apply bD | refine bS ?_ GE167.out) | exact HB.out)⟩⟩
            ·replace c38 := Bool.eq_false_iff.mpr c38
             subst c38
             have H1 : (impl_AreClaims.j1 k1 l0 x12_1 l0 (l0.length : Int) x12_1 true ((rd_T84 l0 x12_1).f0) ((rd_T84 l0 x12_1).f1) ((rd_T84 l0 x12_1).f2) ((rd_T84 l0 x12_1).f3) ((rd_T84 l0 x12_1).f4)) = some r := by rw [if_neg (show ¬ (false = true) by decide)] at H; exact H
             clear H
             have H := H1
             clear H1
             have H' := Aside0.mk H
             clear H
             try go_wp2
             have n0_ : Aside0 ((((((w7.setCell ⟨gb167, 0, none⟩ (.int .i64 ((rd_T84 l0 x12_1).f0))).setCell ⟨gb167, 1, none⟩ (.int .i64 ((rd_T84 l0 x12_1).f1))).setCell ⟨gb167, 2, none⟩ (.int .i64 ((rd_T84 l0 x12_1).f2))).setCell ⟨gb167, 3, none⟩ (.int .i64 ((rd_T84 l0 x12_1).f3))).setCell ⟨gb167, 4, none⟩ (.int .i64 ((rd_T84 l0 x12_1).f4))).heap[gb167]? = some (.cells #[.int .i64 ((rd_T84 l0 x12_1).f0), .int .i64 ((rd_T84 l0 x12_1).f1), .int .i64 ((rd_T84 l0 x12_1).f2), .int .i64 ((rd_T84 l0 x12_1).f3), .int .i64 ((rd_T84 l0 x12_1).f4)] 84 (0, 0))) := ⟨by (with_reducible repeat first | refine kN ?_ _ | refine kD ?_ | refine kA ?_ _); refine blk_put (cs := #[.int .i64 ((rd_T84 l0 x12_1).f0), .int .i64 ((rd_T84 l0 x12_1).f1), .int .i64 ((rd_T84 l0 x12_1).f2), .int .i64 ((rd_T84 l0 x12_1).f3), .int .i64 0]) ?_ 4 _ rfl; (with_reducible repeat first | refine kN ?_ _ | refine kD ?_ | refine kA ?_ _); refine blk_put (cs := #[.int .i64 ((rd_T84 l0 x12_1).f0), .int .i64 ((rd_T84 l0 x12_1).f1), .int .i64 ((rd_T84 l0 x12_1).f2), .int .i64 0, .int .i64 0]) ?_ 3 _ rfl; (with_reducible repeat first | refine kN ?_ _ | refine kD ?_ | refine kA ?_ _); refine blk_put (cs := #[.int .i64 ((rd_T84 l0 x12_1).f0), .int .i64 ((rd_T84 l0 x12_1).f1), .int .i64 0, .int .i64 0, .int .i64 0]) ?_ 2 _ rfl; (with_reducible repeat first | refine kN ?_ _ | refine kD ?_ | refine kA ?_ _); refine blk_put (cs := #[.int .i64 ((rd_T84 l0 x12_1).f0), .int .i64 0, .int .i64 0, .int .i64 0, .int .i64 0]) ?_ 1 _ rfl; (with_reducible repeat first | refine kN ?_ _ | refine kD ?_ | refine kA ?_ _); refine blk_put (cs := #[.int .i64 0, .int .i64 0, .int .i64 0, .int .i64 0, .int .i64 0]) ?_ 0 _ rfl; (with_reducible repeat first | refine kN ?_ _ | refine kD ?_ | refine kA ?_ _); exact BK167.out⟩
             have n1_ : Aside0 (Below w.heap.size w (((((w7.setCell ⟨gb167, 0, none⟩ (.int .i64 ((rd_T84 l0 x12_1).f0))).setCell ⟨gb167, 1, none⟩ (.int .i64 ((rd_T84 l0 x12_1).f1))).setCell ⟨gb167, 2, none⟩ (.int .i64 ((rd_T84 l0 x12_1).f2))).setCell ⟨gb167, 3, none⟩ (.int .i64 ((rd_T84 l0 x12_1).f3))).setCell ⟨gb167, 4, none⟩ (.int .i64 ((rd_T84 l0 x12_1).f4)))) := ⟨by repeat (first | (with_reducible first | exact HB.out | apply bA | apply bN | apply bD | refine bS ?_ GE167.out) | exact HB.out)⟩
             (try clear BK167)
             (try clear HB)
             generalize (((((w7.setCell ⟨gb167, 0, none⟩ (.int .i64 ((rd_T84 l0 x12_1).f0))).setCell ⟨gb167, 1, none⟩ (.int .i64 ((rd_T84 l0 x12_1).f1))).setCell ⟨gb167, 2, none⟩ (.int .i64 ((rd_T84 l0 x12_1).f2))).setCell ⟨gb167, 3, none⟩ (.int .i64 ((rd_T84 l0 x12_1).f3))).setCell ⟨gb167, 4, none⟩ (.int .i64 ((rd_T84 l0 x12_1).f4))) = w42 at n0_ n1_ ⊢
             have BK167 := n0_
             have HB := n1_
             clear n0_ n1_
             have n0_ := Aside0.mk (blk_drew BK167.out)
             have n1_ := Aside0.mk (below_drew1 HB.out)
             clear BK167
             clear HB
             have BK167 := n0_
             have HB := n1_
             clear n0_ n1_
             refine start_ (n := 43) (S := fun w' => w'.cell? ⟨gb167, 0, none⟩ = some (.int .i64 ((rd_T84 l0 x12_1).f0)) ∧ w'.cell? ⟨gb167, 1, none⟩ = some (.int .i64 ((rd_T84 l0 x12_1).f1)) ∧ w'.cell? ⟨gb167, 2, none⟩ = some (.int .i64 ((rd_T84 l0 x12_1).f2)) ∧ w'.cell? ⟨gb167, 3, none⟩ = some (.int .i64 ((rd_T84 l0 x12_1).f3)) ∧ w'.cell? ⟨gb167, 4, none⟩ = some (.int .i64 ((rd_T84 l0 x12_1).f4))) (ds := []) (bR [0, 43]) (by kernel_rfl) rfl rfl ⟨cC BK167 0, cC BK167 1, cC BK167 2, cC BK167 3, cC BK167 4⟩ (fun hHeld => ?_); refine with_tabW impl_AreClaims.tab6 impl_AreClaims.bits6 (fun HT_ HW_ => ?_)
             generalize w42.drew = w43 at BK167 HB hHeld ⊢
             refine pP 0 17 (bR [1, 42]) rfl rfl HT_ ?_
             refine take_ (i := 1) (N := some 18) (v := ?_) (a' := ?_) (bR [2, 41]) rfl rfl (take_ofW HT_.out HW_.out (by kernel_rfl)) (fun _ _ _ h => h) (Or.inl ⟨by rfl, ?_⟩) hHeld ?_ ?_
             rotate_left; (rintro w' ⟨s0, s1, s2, s3, s4⟩; go_simp; with_reducible rfl); rotate_left; (simp only [Act.put, sA, sZ, sS, i64_w]; rfl)
             refine one_ (i := 2) (N := some 19) (bR [3, 40]) rfl rfl (one_of HT_.out (by kernel_rfl)) (by decide) (fun K hK => ?_)
             refine goes_ Try.func114 (by kernel_rfl) rfl #[.int .i64 ((rd_T84 l0 x12_1).f0), .int .i64 1, .int .i64 999] (by rfl) rfl rfl (by (try simp only [mA, mC, mN]); first | done | rfl | (simp only [lD, lT]; rfl)) ?_
             with_reducible refine (impl_InRange.calls ((rd_T84 l0 x12_1).f0) 1 999 true _ A9.out).mono ?_
             rintro e w' ⟨rfl, ⟨nd, rfl⟩⟩
             refine ⟨_, rfl, ?_⟩
             refine hK.out _ _ ⟨cC BK167 0, cC BK167 1, cC BK167 2, cC BK167 3, cC BK167 4⟩ (fun hHeld => ?_)
             clear hK K
             refine norm_ (a' := ?_) ?_ ?_
             rotate_left
             ·show Act.put _ (some 19) _ = _
              simp only [Act.put, sA, sZ, sS, i64_w]
              rfl
             refine pP 3 20 (bR [4, 39]) rfl rfl HT_ ?_
             refine pP 4 21 (bR [5, 38]) rfl rfl HT_ ?_
             refine pP 5 22 (bR [6, 37]) rfl rfl HT_ ?_
             refine pP 6 23 (bR [7, 36]) rfl rfl HT_ ?_
             refine pP 7 24 (bR [8, 35]) rfl rfl HT_ ?_
             refine pU 8 25 (bR [9, 34]) rfl rfl HT_ ?_
             refine pU 9 26 (bR [10, 33]) rfl rfl HT_ ?_
             refine pU 10 27 (bR [11, 32]) rfl rfl HT_ ?_
             refine pU 11 28 (bR [12, 31]) rfl rfl HT_ ?_
             refine pU 12 29 (bR [13, 30]) rfl rfl HT_ ?_
             refine pU 13 30 (bR [14, 29]) rfl rfl HT_ ?_
             refine pU 14 31 (bR [15, 28]) rfl rfl HT_ ?_
             refine pU 15 32 (bR [16, 27]) rfl rfl HT_ ?_
             refine pU 16 33 (bR [17, 26]) rfl rfl HT_ ?_
             refine pP 17 34 (bR [18, 25]) rfl rfl HT_ ?_
             refine pP 18 35 (bR [19, 24]) rfl rfl HT_ ?_
             refine pP 19 36 (bR [20, 23]) rfl rfl HT_ ?_
             refine pP 20 37 (bR [21, 22]) rfl rfl HT_ ?_
             refine take_ (i := 21) (N := some 38) (v := ?_) (a' := ?_) (bR [22, 21]) rfl rfl (take_ofW HT_.out HW_.out (by kernel_rfl)) (fun _ _ _ h => h) (Or.inl ⟨by rfl, ?_⟩) hHeld ?_ ?_
             rotate_left; (rintro w' ⟨s0, s1, s2, s3, s4⟩; go_simp; with_reducible rfl); rotate_left; (simp only [Act.put, sA, sZ, sS, i64_w]; rfl)
             refine one_ (i := 22) (N := some 39) (bR [23, 20]) rfl rfl (one_of HT_.out (by kernel_rfl)) (by decide) (fun K hK => ?_)
             refine goes_ Try.func114 (by kernel_rfl) rfl #[.int .i64 ((rd_T84 l0 x12_1).f1), .int .i64 1, .int .i64 999] (by rfl) rfl rfl (by (try simp only [mA, mC, mN]); first | done | rfl | (simp only [lD, lT]; rfl)) ?_
             with_reducible refine (impl_InRange.calls ((rd_T84 l0 x12_1).f1) 1 999 true _ A33.out).mono ?_
             rintro e w' ⟨rfl, ⟨nd, rfl⟩⟩
             refine ⟨_, rfl, ?_⟩
             refine hK.out _ _ ⟨cC BK167 0, cC BK167 1, cC BK167 2, cC BK167 3, cC BK167 4⟩ (fun hHeld => ?_)
             clear hK K
             refine norm_ (a' := ?_) ?_ ?_
             rotate_left
             ·show Act.put _ (some 39) _ = _
              simp only [Act.put, sA, sZ, sS, i64_w]
              rfl
             refine pP 23 40 (bR [24, 19]) rfl rfl HT_ ?_
             refine pP 24 41 (bR [25, 18]) rfl rfl HT_ ?_
             refine pP 25 42 (bR [26, 17]) rfl rfl HT_ ?_
             refine pP 26 43 (bR [27, 16]) rfl rfl HT_ ?_
             refine take_ (i := 27) (N := some 44) (v := ?_) (a' := ?_) (bR [28, 15]) rfl rfl (take_ofW HT_.out HW_.out (by kernel_rfl)) (fun _ _ _ h => h) (Or.inl ⟨by rfl, ?_⟩) hHeld ?_ ?_
             rotate_left; (rintro w' ⟨s0, s1, s2, s3, s4⟩; go_simp; with_reducible rfl); rotate_left; (simp only [Act.put, sA, sZ, sS, i64_w]; rfl)
             refine one_ (i := 28) (N := some 45) (bR [29, 14]) rfl rfl (one_of HT_.out (by kernel_rfl)) (by decide) (fun K hK => ?_)
             refine goes_ Try.func114 (by kernel_rfl) rfl #[.int .i64 ((rd_T84 l0 x12_1).f2), .int .i64 1, .int .i64 999] (by rfl) rfl rfl (by (try simp only [mA, mC, mN]); first | done | rfl | (simp only [lD, lT]; rfl)) ?_
             with_reducible refine (impl_InRange.calls ((rd_T84 l0 x12_1).f2) 1 999 true _ A35.out).mono ?_
             rintro e w' ⟨rfl, ⟨nd, rfl⟩⟩
             refine ⟨_, rfl, ?_⟩
             refine hK.out _ _ ⟨cC BK167 0, cC BK167 1, cC BK167 2, cC BK167 3, cC BK167 4⟩ (fun hHeld => ?_)
             clear hK K
             refine norm_ (a' := ?_) ?_ ?_
             rotate_left
             ·show Act.put _ (some 45) _ = _
              simp only [Act.put, sA, sZ, sS, i64_w]
              rfl
             refine pP 29 46 (bR [30, 13]) rfl rfl HT_ ?_
             refine pP 30 47 (bR [31, 12]) rfl rfl HT_ ?_
             refine pP 31 48 (bR [32, 11]) rfl rfl HT_ ?_
             refine pP 32 49 (bR [33, 10]) rfl rfl HT_ ?_
             refine take_ (i := 33) (N := some 50) (v := ?_) (a' := ?_) (bR [34, 9]) rfl rfl (take_ofW HT_.out HW_.out (by kernel_rfl)) (fun _ _ _ h => h) (Or.inl ⟨by rfl, ?_⟩) hHeld ?_ ?_
             rotate_left; (rintro w' ⟨s0, s1, s2, s3, s4⟩; go_simp; with_reducible rfl); rotate_left; (simp only [Act.put, sA, sZ, sS, i64_w]; rfl)
             refine one_ (i := 34) (N := some 51) (bR [35, 8]) rfl rfl (one_of HT_.out (by kernel_rfl)) (by decide) (fun K hK => ?_)
             refine goes_ Try.func114 (by kernel_rfl) rfl #[.int .i64 ((rd_T84 l0 x12_1).f3), .int .i64 0, .int .i64 100000] (by rfl) rfl rfl (by (try simp only [mA, mC, mN]); first | done | rfl | (simp only [lD, lT]; rfl)) ?_
             with_reducible refine (impl_InRange.calls ((rd_T84 l0 x12_1).f3) 0 100000 false _ A37.out).mono ?_
             rintro e w' ⟨rfl, ⟨nd, rfl⟩⟩
             refine ⟨_, rfl, ?_⟩
             refine hK.out _ _ ⟨cC BK167 0, cC BK167 1, cC BK167 2, cC BK167 3, cC BK167 4⟩ (fun hHeld => ?_)
             clear hK K
             refine norm_ (a' := ?_) ?_ ?_
             rotate_left
             ·show Act.put _ (some 51) _ = _
              simp only [Act.put, sA, sZ, sS, i64_w]
              rfl
             refine pP 35 52 (bR [36, 7]) rfl rfl HT_ ?_
             refine pP 36 53 (bR [37, 6]) rfl rfl HT_ ?_
             refine pP 37 54 (bR [38, 5]) rfl rfl HT_ ?_
             refine pU 38 55 (bR [39, 4]) rfl rfl HT_ ?_
             refine pU 39 56 (bR [40, 3]) rfl rfl HT_ ?_
             refine pU 40 57 (bR [41, 2]) rfl rfl HT_ ?_
             refine pU 41 58 (bR [42, 1]) rfl rfl HT_ ?_
             refine pP 42 59 (bR [43]) rfl rfl HT_ ?_
             refine done_ (done_of HT_.out (by kernel_rfl)) ?_
             try go_wp2
             go_meet
             case rel => exact ⟨_, (true), (by first | rfl | (simp; done) | (simp [*]; done)), H', ⟨by have := HK1.out; first | omega | exact Nat.le_refl _⟩, ⟨by (with_reducible repeat first | refine kN ?_ _ | refine kD ?_ | refine kA ?_ _); exact BK167.out⟩, ⟨by repeat (first | (with_reducible first | exact HB.out | apply bA | apply bN | apply bD | refine bS ?_ GE167.out) | exact HB.out)⟩⟩
           ·replace c36 := Bool.eq_false_iff.mpr c36
            subst c36
            have H1 : (impl_AreClaims.j1 k1 l0 x12_1 l0 (l0.length : Int) x12_1 true ((rd_T84 l0 x12_1).f0) ((rd_T84 l0 x12_1).f1) ((rd_T84 l0 x12_1).f2) ((rd_T84 l0 x12_1).f3) ((rd_T84 l0 x12_1).f4)) = some r := by rw [if_neg (show ¬ (false = true) by decide)] at H; exact H
            clear H
            have H := H1
            clear H1
            have H' := Aside0.mk H
            clear H
            try go_wp2
            have n0_ : Aside0 ((((((w7.setCell ⟨gb167, 0, none⟩ (.int .i64 ((rd_T84 l0 x12_1).f0))).setCell ⟨gb167, 1, none⟩ (.int .i64 ((rd_T84 l0 x12_1).f1))).setCell ⟨gb167, 2, none⟩ (.int .i64 ((rd_T84 l0 x12_1).f2))).setCell ⟨gb167, 3, none⟩ (.int .i64 ((rd_T84 l0 x12_1).f3))).setCell ⟨gb167, 4, none⟩ (.int .i64 ((rd_T84 l0 x12_1).f4))).heap[gb167]? = some (.cells #[.int .i64 ((rd_T84 l0 x12_1).f0), .int .i64 ((rd_T84 l0 x12_1).f1), .int .i64 ((rd_T84 l0 x12_1).f2), .int .i64 ((rd_T84 l0 x12_1).f3), .int .i64 ((rd_T84 l0 x12_1).f4)] 84 (0, 0))) := ⟨by (with_reducible repeat first | refine kN ?_ _ | refine kD ?_ | refine kA ?_ _); refine blk_put (cs := #[.int .i64 ((rd_T84 l0 x12_1).f0), .int .i64 ((rd_T84 l0 x12_1).f1), .int .i64 ((rd_T84 l0 x12_1).f2), .int .i64 ((rd_T84 l0 x12_1).f3), .int .i64 0]) ?_ 4 _ rfl; (with_reducible repeat first | refine kN ?_ _ | refine kD ?_ | refine kA ?_ _); refine blk_put (cs := #[.int .i64 ((rd_T84 l0 x12_1).f0), .int .i64 ((rd_T84 l0 x12_1).f1), .int .i64 ((rd_T84 l0 x12_1).f2), .int .i64 0, .int .i64 0]) ?_ 3 _ rfl; (with_reducible repeat first | refine kN ?_ _ | refine kD ?_ | refine kA ?_ _); refine blk_put (cs := #[.int .i64 ((rd_T84 l0 x12_1).f0), .int .i64 ((rd_T84 l0 x12_1).f1), .int .i64 0, .int .i64 0, .int .i64 0]) ?_ 2 _ rfl; (with_reducible repeat first | refine kN ?_ _ | refine kD ?_ | refine kA ?_ _); refine blk_put (cs := #[.int .i64 ((rd_T84 l0 x12_1).f0), .int .i64 0, .int .i64 0, .int .i64 0, .int .i64 0]) ?_ 1 _ rfl; (with_reducible repeat first | refine kN ?_ _ | refine kD ?_ | refine kA ?_ _); refine blk_put (cs := #[.int .i64 0, .int .i64 0, .int .i64 0, .int .i64 0, .int .i64 0]) ?_ 0 _ rfl; (with_reducible repeat first | refine kN ?_ _ | refine kD ?_ | refine kA ?_ _); exact BK167.out⟩
            have n1_ : Aside0 (Below w.heap.size w (((((w7.setCell ⟨gb167, 0, none⟩ (.int .i64 ((rd_T84 l0 x12_1).f0))).setCell ⟨gb167, 1, none⟩ (.int .i64 ((rd_T84 l0 x12_1).f1))).setCell ⟨gb167, 2, none⟩ (.int .i64 ((rd_T84 l0 x12_1).f2))).setCell ⟨gb167, 3, none⟩ (.int .i64 ((rd_T84 l0 x12_1).f3))).setCell ⟨gb167, 4, none⟩ (.int .i64 ((rd_T84 l0 x12_1).f4)))) := ⟨by repeat (first | (with_reducible first | exact HB.out | apply bA | apply bN | apply bD | refine bS ?_ GE167.out) | exact HB.out)⟩
            (try clear BK167)
            (try clear HB)
            generalize (((((w7.setCell ⟨gb167, 0, none⟩ (.int .i64 ((rd_T84 l0 x12_1).f0))).setCell ⟨gb167, 1, none⟩ (.int .i64 ((rd_T84 l0 x12_1).f1))).setCell ⟨gb167, 2, none⟩ (.int .i64 ((rd_T84 l0 x12_1).f2))).setCell ⟨gb167, 3, none⟩ (.int .i64 ((rd_T84 l0 x12_1).f3))).setCell ⟨gb167, 4, none⟩ (.int .i64 ((rd_T84 l0 x12_1).f4))) = w44 at n0_ n1_ ⊢
            have BK167 := n0_
            have HB := n1_
            clear n0_ n1_
            have n0_ := Aside0.mk (blk_drew BK167.out)
            have n1_ := Aside0.mk (below_drew1 HB.out)
            clear BK167
            clear HB
            have BK167 := n0_
            have HB := n1_
            clear n0_ n1_
            refine start_ (n := 43) (S := fun w' => w'.cell? ⟨gb167, 0, none⟩ = some (.int .i64 ((rd_T84 l0 x12_1).f0)) ∧ w'.cell? ⟨gb167, 1, none⟩ = some (.int .i64 ((rd_T84 l0 x12_1).f1)) ∧ w'.cell? ⟨gb167, 2, none⟩ = some (.int .i64 ((rd_T84 l0 x12_1).f2)) ∧ w'.cell? ⟨gb167, 3, none⟩ = some (.int .i64 ((rd_T84 l0 x12_1).f3)) ∧ w'.cell? ⟨gb167, 4, none⟩ = some (.int .i64 ((rd_T84 l0 x12_1).f4))) (ds := []) (bR [0, 43]) (by kernel_rfl) rfl rfl ⟨cC BK167 0, cC BK167 1, cC BK167 2, cC BK167 3, cC BK167 4⟩ (fun hHeld => ?_); refine with_tabW impl_AreClaims.tab6 impl_AreClaims.bits6 (fun HT_ HW_ => ?_)
            generalize w44.drew = w45 at BK167 HB hHeld ⊢
            refine pP 0 17 (bR [1, 42]) rfl rfl HT_ ?_
            refine take_ (i := 1) (N := some 18) (v := ?_) (a' := ?_) (bR [2, 41]) rfl rfl (take_ofW HT_.out HW_.out (by kernel_rfl)) (fun _ _ _ h => h) (Or.inl ⟨by rfl, ?_⟩) hHeld ?_ ?_
            rotate_left; (rintro w' ⟨s0, s1, s2, s3, s4⟩; go_simp; with_reducible rfl); rotate_left; (simp only [Act.put, sA, sZ, sS, i64_w]; rfl)
            refine one_ (i := 2) (N := some 19) (bR [3, 40]) rfl rfl (one_of HT_.out (by kernel_rfl)) (by decide) (fun K hK => ?_)
            refine goes_ Try.func114 (by kernel_rfl) rfl #[.int .i64 ((rd_T84 l0 x12_1).f0), .int .i64 1, .int .i64 999] (by rfl) rfl rfl (by (try simp only [mA, mC, mN]); first | done | rfl | (simp only [lD, lT]; rfl)) ?_
            with_reducible refine (impl_InRange.calls ((rd_T84 l0 x12_1).f0) 1 999 true _ A9.out).mono ?_
            rintro e w' ⟨rfl, ⟨nd, rfl⟩⟩
            refine ⟨_, rfl, ?_⟩
            refine hK.out _ _ ⟨cC BK167 0, cC BK167 1, cC BK167 2, cC BK167 3, cC BK167 4⟩ (fun hHeld => ?_)
            clear hK K
            refine norm_ (a' := ?_) ?_ ?_
            rotate_left
            ·show Act.put _ (some 19) _ = _
             simp only [Act.put, sA, sZ, sS, i64_w]
             rfl
            refine pP 3 20 (bR [4, 39]) rfl rfl HT_ ?_
            refine pP 4 21 (bR [5, 38]) rfl rfl HT_ ?_
            refine pP 5 22 (bR [6, 37]) rfl rfl HT_ ?_
            refine pP 6 23 (bR [7, 36]) rfl rfl HT_ ?_
            refine pP 7 24 (bR [8, 35]) rfl rfl HT_ ?_
            refine pU 8 25 (bR [9, 34]) rfl rfl HT_ ?_
            refine pU 9 26 (bR [10, 33]) rfl rfl HT_ ?_
            refine pU 10 27 (bR [11, 32]) rfl rfl HT_ ?_
            refine pU 11 28 (bR [12, 31]) rfl rfl HT_ ?_
            refine pU 12 29 (bR [13, 30]) rfl rfl HT_ ?_
            refine pU 13 30 (bR [14, 29]) rfl rfl HT_ ?_
            refine pU 14 31 (bR [15, 28]) rfl rfl HT_ ?_
            refine pU 15 32 (bR [16, 27]) rfl rfl HT_ ?_
            refine pU 16 33 (bR [17, 26]) rfl rfl HT_ ?_
            refine pP 17 34 (bR [18, 25]) rfl rfl HT_ ?_
            refine pP 18 35 (bR [19, 24]) rfl rfl HT_ ?_
            refine pP 19 36 (bR [20, 23]) rfl rfl HT_ ?_
            refine pP 20 37 (bR [21, 22]) rfl rfl HT_ ?_
            refine take_ (i := 21) (N := some 38) (v := ?_) (a' := ?_) (bR [22, 21]) rfl rfl (take_ofW HT_.out HW_.out (by kernel_rfl)) (fun _ _ _ h => h) (Or.inl ⟨by rfl, ?_⟩) hHeld ?_ ?_
            rotate_left; (rintro w' ⟨s0, s1, s2, s3, s4⟩; go_simp; with_reducible rfl); rotate_left; (simp only [Act.put, sA, sZ, sS, i64_w]; rfl)
            refine one_ (i := 22) (N := some 39) (bR [23, 20]) rfl rfl (one_of HT_.out (by kernel_rfl)) (by decide) (fun K hK => ?_)
            refine goes_ Try.func114 (by kernel_rfl) rfl #[.int .i64 ((rd_T84 l0 x12_1).f1), .int .i64 1, .int .i64 999] (by rfl) rfl rfl (by (try simp only [mA, mC, mN]); first | done | rfl | (simp only [lD, lT]; rfl)) ?_
            with_reducible refine (impl_InRange.calls ((rd_T84 l0 x12_1).f1) 1 999 true _ A33.out).mono ?_
            rintro e w' ⟨rfl, ⟨nd, rfl⟩⟩
            refine ⟨_, rfl, ?_⟩
            refine hK.out _ _ ⟨cC BK167 0, cC BK167 1, cC BK167 2, cC BK167 3, cC BK167 4⟩ (fun hHeld => ?_)
            clear hK K
            refine norm_ (a' := ?_) ?_ ?_
            rotate_left
            ·show Act.put _ (some 39) _ = _
             simp only [Act.put, sA, sZ, sS, i64_w]
             rfl
            refine pP 23 40 (bR [24, 19]) rfl rfl HT_ ?_
            refine pP 24 41 (bR [25, 18]) rfl rfl HT_ ?_
            refine pP 25 42 (bR [26, 17]) rfl rfl HT_ ?_
            refine pP 26 43 (bR [27, 16]) rfl rfl HT_ ?_
            refine take_ (i := 27) (N := some 44) (v := ?_) (a' := ?_) (bR [28, 15]) rfl rfl (take_ofW HT_.out HW_.out (by kernel_rfl)) (fun _ _ _ h => h) (Or.inl ⟨by rfl, ?_⟩) hHeld ?_ ?_
            rotate_left; (rintro w' ⟨s0, s1, s2, s3, s4⟩; go_simp; with_reducible rfl); rotate_left; (simp only [Act.put, sA, sZ, sS, i64_w]; rfl)
            refine one_ (i := 28) (N := some 45) (bR [29, 14]) rfl rfl (one_of HT_.out (by kernel_rfl)) (by decide) (fun K hK => ?_)
            refine goes_ Try.func114 (by kernel_rfl) rfl #[.int .i64 ((rd_T84 l0 x12_1).f2), .int .i64 1, .int .i64 999] (by rfl) rfl rfl (by (try simp only [mA, mC, mN]); first | done | rfl | (simp only [lD, lT]; rfl)) ?_
            with_reducible refine (impl_InRange.calls ((rd_T84 l0 x12_1).f2) 1 999 false _ A35.out).mono ?_
            rintro e w' ⟨rfl, ⟨nd, rfl⟩⟩
            refine ⟨_, rfl, ?_⟩
            refine hK.out _ _ ⟨cC BK167 0, cC BK167 1, cC BK167 2, cC BK167 3, cC BK167 4⟩ (fun hHeld => ?_)
            clear hK K
            refine norm_ (a' := ?_) ?_ ?_
            rotate_left
            ·show Act.put _ (some 45) _ = _
             simp only [Act.put, sA, sZ, sS, i64_w]
             rfl
            refine pP 29 46 (bR [30, 13]) rfl rfl HT_ ?_
            refine pP 30 47 (bR [31, 12]) rfl rfl HT_ ?_
            refine pP 31 48 (bR [32, 11]) rfl rfl HT_ ?_
            refine pU 32 49 (bR [33, 10]) rfl rfl HT_ ?_
            refine pU 33 50 (bR [34, 9]) rfl rfl HT_ ?_
            refine pU 34 51 (bR [35, 8]) rfl rfl HT_ ?_
            refine pU 35 52 (bR [36, 7]) rfl rfl HT_ ?_
            refine pP 36 53 (bR [37, 6]) rfl rfl HT_ ?_
            refine pP 37 54 (bR [38, 5]) rfl rfl HT_ ?_
            refine pU 38 55 (bR [39, 4]) rfl rfl HT_ ?_
            refine pU 39 56 (bR [40, 3]) rfl rfl HT_ ?_
            refine pU 40 57 (bR [41, 2]) rfl rfl HT_ ?_
            refine pU 41 58 (bR [42, 1]) rfl rfl HT_ ?_
            refine pP 42 59 (bR [43]) rfl rfl HT_ ?_
            refine done_ (done_of HT_.out (by kernel_rfl)) ?_
            try go_wp2
            go_meet
            case rel => exact ⟨_, (true), (by first | rfl | (simp; done) | (simp [*]; done)), H', ⟨by have := HK1.out; first | omega | exact Nat.le_refl _⟩, ⟨by (with_reducible repeat first | refine kN ?_ _ | refine kD ?_ | refine kA ?_ _); exact BK167.out⟩, ⟨by repeat (first | (with_reducible first | exact HB.out | apply bA | apply bN | apply bD | refine bS ?_ GE167.out) | exact HB.out)⟩⟩
          ·replace c34 := Bool.eq_false_iff.mpr c34
           subst c34
           have H1 : (impl_AreClaims.j1 k1 l0 x12_1 l0 (l0.length : Int) x12_1 true ((rd_T84 l0 x12_1).f0) ((rd_T84 l0 x12_1).f1) ((rd_T84 l0 x12_1).f2) ((rd_T84 l0 x12_1).f3) ((rd_T84 l0 x12_1).f4)) = some r := by rw [if_neg (show ¬ (false = true) by decide)] at H; exact H
           clear H
           have H := H1
           clear H1
           have H' := Aside0.mk H
           clear H
           try go_wp2
           have n0_ : Aside0 ((((((w7.setCell ⟨gb167, 0, none⟩ (.int .i64 ((rd_T84 l0 x12_1).f0))).setCell ⟨gb167, 1, none⟩ (.int .i64 ((rd_T84 l0 x12_1).f1))).setCell ⟨gb167, 2, none⟩ (.int .i64 ((rd_T84 l0 x12_1).f2))).setCell ⟨gb167, 3, none⟩ (.int .i64 ((rd_T84 l0 x12_1).f3))).setCell ⟨gb167, 4, none⟩ (.int .i64 ((rd_T84 l0 x12_1).f4))).heap[gb167]? = some (.cells #[.int .i64 ((rd_T84 l0 x12_1).f0), .int .i64 ((rd_T84 l0 x12_1).f1), .int .i64 ((rd_T84 l0 x12_1).f2), .int .i64 ((rd_T84 l0 x12_1).f3), .int .i64 ((rd_T84 l0 x12_1).f4)] 84 (0, 0))) := ⟨by (with_reducible repeat first | refine kN ?_ _ | refine kD ?_ | refine kA ?_ _); refine blk_put (cs := #[.int .i64 ((rd_T84 l0 x12_1).f0), .int .i64 ((rd_T84 l0 x12_1).f1), .int .i64 ((rd_T84 l0 x12_1).f2), .int .i64 ((rd_T84 l0 x12_1).f3), .int .i64 0]) ?_ 4 _ rfl; (with_reducible repeat first | refine kN ?_ _ | refine kD ?_ | refine kA ?_ _); refine blk_put (cs := #[.int .i64 ((rd_T84 l0 x12_1).f0), .int .i64 ((rd_T84 l0 x12_1).f1), .int .i64 ((rd_T84 l0 x12_1).f2), .int .i64 0, .int .i64 0]) ?_ 3 _ rfl; (with_reducible repeat first | refine kN ?_ _ | refine kD ?_ | refine kA ?_ _); refine blk_put (cs := #[.int .i64 ((rd_T84 l0 x12_1).f0), .int .i64 ((rd_T84 l0 x12_1).f1), .int .i64 0, .int .i64 0, .int .i64 0]) ?_ 2 _ rfl; (with_reducible repeat first | refine kN ?_ _ | refine kD ?_ | refine kA ?_ _); refine blk_put (cs := #[.int .i64 ((rd_T84 l0 x12_1).f0), .int .i64 0, .int .i64 0, .int .i64 0, .int .i64 0]) ?_ 1 _ rfl; (with_reducible repeat first | refine kN ?_ _ | refine kD ?_ | refine kA ?_ _); refine blk_put (cs := #[.int .i64 0, .int .i64 0, .int .i64 0, .int .i64 0, .int .i64 0]) ?_ 0 _ rfl; (with_reducible repeat first | refine kN ?_ _ | refine kD ?_ | refine kA ?_ _); exact BK167.out⟩
           have n1_ : Aside0 (Below w.heap.size w (((((w7.setCell ⟨gb167, 0, none⟩ (.int .i64 ((rd_T84 l0 x12_1).f0))).setCell ⟨gb167, 1, none⟩ (.int .i64 ((rd_T84 l0 x12_1).f1))).setCell ⟨gb167, 2, none⟩ (.int .i64 ((rd_T84 l0 x12_1).f2))).setCell ⟨gb167, 3, none⟩ (.int .i64 ((rd_T84 l0 x12_1).f3))).setCell ⟨gb167, 4, none⟩ (.int .i64 ((rd_T84 l0 x12_1).f4)))) := ⟨by repeat (first | (with_reducible first | exact HB.out | apply bA | apply bN | apply bD | refine bS ?_ GE167.out) | exact HB.out)⟩
           (try clear BK167)
           (try clear HB)
           generalize (((((w7.setCell ⟨gb167, 0, none⟩ (.int .i64 ((rd_T84 l0 x12_1).f0))).setCell ⟨gb167, 1, none⟩ (.int .i64 ((rd_T84 l0 x12_1).f1))).setCell ⟨gb167, 2, none⟩ (.int .i64 ((rd_T84 l0 x12_1).f2))).setCell ⟨gb167, 3, none⟩ (.int .i64 ((rd_T84 l0 x12_1).f3))).setCell ⟨gb167, 4, none⟩ (.int .i64 ((rd_T84 l0 x12_1).f4))) = w46 at n0_ n1_ ⊢
           have BK167 := n0_
           have HB := n1_
           clear n0_ n1_
           have n0_ := Aside0.mk (blk_drew BK167.out)
           have n1_ := Aside0.mk (below_drew1 HB.out)
           clear BK167
           clear HB
           have BK167 := n0_
           have HB := n1_
           clear n0_ n1_
           refine start_ (n := 43) (S := fun w' => w'.cell? ⟨gb167, 0, none⟩ = some (.int .i64 ((rd_T84 l0 x12_1).f0)) ∧ w'.cell? ⟨gb167, 1, none⟩ = some (.int .i64 ((rd_T84 l0 x12_1).f1)) ∧ w'.cell? ⟨gb167, 2, none⟩ = some (.int .i64 ((rd_T84 l0 x12_1).f2)) ∧ w'.cell? ⟨gb167, 3, none⟩ = some (.int .i64 ((rd_T84 l0 x12_1).f3)) ∧ w'.cell? ⟨gb167, 4, none⟩ = some (.int .i64 ((rd_T84 l0 x12_1).f4))) (ds := []) (bR [0, 43]) (by kernel_rfl) rfl rfl ⟨cC BK167 0, cC BK167 1, cC BK167 2, cC BK167 3, cC BK167 4⟩ (fun hHeld => ?_); refine with_tabW impl_AreClaims.tab6 impl_AreClaims.bits6 (fun HT_ HW_ => ?_)
           generalize w46.drew = w47 at BK167 HB hHeld ⊢
           refine pP 0 17 (bR [1, 42]) rfl rfl HT_ ?_
           refine take_ (i := 1) (N := some 18) (v := ?_) (a' := ?_) (bR [2, 41]) rfl rfl (take_ofW HT_.out HW_.out (by kernel_rfl)) (fun _ _ _ h => h) (Or.inl ⟨by rfl, ?_⟩) hHeld ?_ ?_
           rotate_left; (rintro w' ⟨s0, s1, s2, s3, s4⟩; go_simp; with_reducible rfl); rotate_left; (simp only [Act.put, sA, sZ, sS, i64_w]; rfl)
           refine one_ (i := 2) (N := some 19) (bR [3, 40]) rfl rfl (one_of HT_.out (by kernel_rfl)) (by decide) (fun K hK => ?_)
           refine goes_ Try.func114 (by kernel_rfl) rfl #[.int .i64 ((rd_T84 l0 x12_1).f0), .int .i64 1, .int .i64 999] (by rfl) rfl rfl (by (try simp only [mA, mC, mN]); first | done | rfl | (simp only [lD, lT]; rfl)) ?_
           with_reducible refine (impl_InRange.calls ((rd_T84 l0 x12_1).f0) 1 999 true _ A9.out).mono ?_
           rintro e w' ⟨rfl, ⟨nd, rfl⟩⟩
           refine ⟨_, rfl, ?_⟩
           refine hK.out _ _ ⟨cC BK167 0, cC BK167 1, cC BK167 2, cC BK167 3, cC BK167 4⟩ (fun hHeld => ?_)
           clear hK K
           refine norm_ (a' := ?_) ?_ ?_
           rotate_left
           ·show Act.put _ (some 19) _ = _
            simp only [Act.put, sA, sZ, sS, i64_w]
            rfl
           refine pP 3 20 (bR [4, 39]) rfl rfl HT_ ?_
           refine pP 4 21 (bR [5, 38]) rfl rfl HT_ ?_
           refine pP 5 22 (bR [6, 37]) rfl rfl HT_ ?_
           refine pP 6 23 (bR [7, 36]) rfl rfl HT_ ?_
           refine pP 7 24 (bR [8, 35]) rfl rfl HT_ ?_
           refine pU 8 25 (bR [9, 34]) rfl rfl HT_ ?_
           refine pU 9 26 (bR [10, 33]) rfl rfl HT_ ?_
           refine pU 10 27 (bR [11, 32]) rfl rfl HT_ ?_
           refine pU 11 28 (bR [12, 31]) rfl rfl HT_ ?_
           refine pU 12 29 (bR [13, 30]) rfl rfl HT_ ?_
           refine pU 13 30 (bR [14, 29]) rfl rfl HT_ ?_
           refine pU 14 31 (bR [15, 28]) rfl rfl HT_ ?_
           refine pU 15 32 (bR [16, 27]) rfl rfl HT_ ?_
           refine pU 16 33 (bR [17, 26]) rfl rfl HT_ ?_
           refine pP 17 34 (bR [18, 25]) rfl rfl HT_ ?_
           refine pP 18 35 (bR [19, 24]) rfl rfl HT_ ?_
           refine pP 19 36 (bR [20, 23]) rfl rfl HT_ ?_
           refine pP 20 37 (bR [21, 22]) rfl rfl HT_ ?_
           refine take_ (i := 21) (N := some 38) (v := ?_) (a' := ?_) (bR [22, 21]) rfl rfl (take_ofW HT_.out HW_.out (by kernel_rfl)) (fun _ _ _ h => h) (Or.inl ⟨by rfl, ?_⟩) hHeld ?_ ?_
           rotate_left; (rintro w' ⟨s0, s1, s2, s3, s4⟩; go_simp; with_reducible rfl); rotate_left; (simp only [Act.put, sA, sZ, sS, i64_w]; rfl)
           refine one_ (i := 22) (N := some 39) (bR [23, 20]) rfl rfl (one_of HT_.out (by kernel_rfl)) (by decide) (fun K hK => ?_)
           refine goes_ Try.func114 (by kernel_rfl) rfl #[.int .i64 ((rd_T84 l0 x12_1).f1), .int .i64 1, .int .i64 999] (by rfl) rfl rfl (by (try simp only [mA, mC, mN]); first | done | rfl | (simp only [lD, lT]; rfl)) ?_
           with_reducible refine (impl_InRange.calls ((rd_T84 l0 x12_1).f1) 1 999 false _ A33.out).mono ?_
           rintro e w' ⟨rfl, ⟨nd, rfl⟩⟩
           refine ⟨_, rfl, ?_⟩
           refine hK.out _ _ ⟨cC BK167 0, cC BK167 1, cC BK167 2, cC BK167 3, cC BK167 4⟩ (fun hHeld => ?_)
           clear hK K
           refine norm_ (a' := ?_) ?_ ?_
           rotate_left
           ·show Act.put _ (some 39) _ = _
            simp only [Act.put, sA, sZ, sS, i64_w]
            rfl
           refine pP 23 40 (bR [24, 19]) rfl rfl HT_ ?_
           refine pP 24 41 (bR [25, 18]) rfl rfl HT_ ?_
           refine pP 25 42 (bR [26, 17]) rfl rfl HT_ ?_
           refine pU 26 43 (bR [27, 16]) rfl rfl HT_ ?_
           refine pU 27 44 (bR [28, 15]) rfl rfl HT_ ?_
           refine pU 28 45 (bR [29, 14]) rfl rfl HT_ ?_
           refine pU 29 46 (bR [30, 13]) rfl rfl HT_ ?_
           refine pP 30 47 (bR [31, 12]) rfl rfl HT_ ?_
           refine pP 31 48 (bR [32, 11]) rfl rfl HT_ ?_
           refine pU 32 49 (bR [33, 10]) rfl rfl HT_ ?_
           refine pU 33 50 (bR [34, 9]) rfl rfl HT_ ?_
           refine pU 34 51 (bR [35, 8]) rfl rfl HT_ ?_
           refine pU 35 52 (bR [36, 7]) rfl rfl HT_ ?_
           refine pP 36 53 (bR [37, 6]) rfl rfl HT_ ?_
           refine pP 37 54 (bR [38, 5]) rfl rfl HT_ ?_
           refine pU 38 55 (bR [39, 4]) rfl rfl HT_ ?_
           refine pU 39 56 (bR [40, 3]) rfl rfl HT_ ?_
           refine pU 40 57 (bR [41, 2]) rfl rfl HT_ ?_
           refine pU 41 58 (bR [42, 1]) rfl rfl HT_ ?_
           refine pP 42 59 (bR [43]) rfl rfl HT_ ?_
           refine done_ (done_of HT_.out (by kernel_rfl)) ?_
           try go_wp2
           go_meet
           case rel => exact ⟨_, (true), (by first | rfl | (simp; done) | (simp [*]; done)), H', ⟨by have := HK1.out; first | omega | exact Nat.le_refl _⟩, ⟨by (with_reducible repeat first | refine kN ?_ _ | refine kD ?_ | refine kA ?_ _); exact BK167.out⟩, ⟨by repeat (first | (with_reducible first | exact HB.out | apply bA | apply bN | apply bD | refine bS ?_ GE167.out) | exact HB.out)⟩⟩
        ·replace c10 := Bool.eq_false_iff.mpr c10
         subst c10
         have H1 : (impl_AreClaims.j1 k1 l0 x12_1 l0 (l0.length : Int) x12_1 true ((rd_T84 l0 x12_1).f0) ((rd_T84 l0 x12_1).f1) ((rd_T84 l0 x12_1).f2) ((rd_T84 l0 x12_1).f3) ((rd_T84 l0 x12_1).f4)) = some r := by rw [if_neg (show ¬ (false = true) by decide)] at H; exact H
         clear H
         have H := H1
         clear H1
         have H' := Aside0.mk H
         clear H
         try go_wp2
         have n0_ : Aside0 ((((((w7.setCell ⟨gb167, 0, none⟩ (.int .i64 ((rd_T84 l0 x12_1).f0))).setCell ⟨gb167, 1, none⟩ (.int .i64 ((rd_T84 l0 x12_1).f1))).setCell ⟨gb167, 2, none⟩ (.int .i64 ((rd_T84 l0 x12_1).f2))).setCell ⟨gb167, 3, none⟩ (.int .i64 ((rd_T84 l0 x12_1).f3))).setCell ⟨gb167, 4, none⟩ (.int .i64 ((rd_T84 l0 x12_1).f4))).heap[gb167]? = some (.cells #[.int .i64 ((rd_T84 l0 x12_1).f0), .int .i64 ((rd_T84 l0 x12_1).f1), .int .i64 ((rd_T84 l0 x12_1).f2), .int .i64 ((rd_T84 l0 x12_1).f3), .int .i64 ((rd_T84 l0 x12_1).f4)] 84 (0, 0))) := ⟨by (with_reducible repeat first | refine kN ?_ _ | refine kD ?_ | refine kA ?_ _); refine blk_put (cs := #[.int .i64 ((rd_T84 l0 x12_1).f0), .int .i64 ((rd_T84 l0 x12_1).f1), .int .i64 ((rd_T84 l0 x12_1).f2), .int .i64 ((rd_T84 l0 x12_1).f3), .int .i64 0]) ?_ 4 _ rfl; (with_reducible repeat first | refine kN ?_ _ | refine kD ?_ | refine kA ?_ _); refine blk_put (cs := #[.int .i64 ((rd_T84 l0 x12_1).f0), .int .i64 ((rd_T84 l0 x12_1).f1), .int .i64 ((rd_T84 l0 x12_1).f2), .int .i64 0, .int .i64 0]) ?_ 3 _ rfl; (with_reducible repeat first | refine kN ?_ _ | refine kD ?_ | refine kA ?_ _); refine blk_put (cs := #[.int .i64 ((rd_T84 l0 x12_1).f0), .int .i64 ((rd_T84 l0 x12_1).f1), .int .i64 0, .int .i64 0, .int .i64 0]) ?_ 2 _ rfl; (with_reducible repeat first | refine kN ?_ _ | refine kD ?_ | refine kA ?_ _); refine blk_put (cs := #[.int .i64 ((rd_T84 l0 x12_1).f0), .int .i64 0, .int .i64 0, .int .i64 0, .int .i64 0]) ?_ 1 _ rfl; (with_reducible repeat first | refine kN ?_ _ | refine kD ?_ | refine kA ?_ _); refine blk_put (cs := #[.int .i64 0, .int .i64 0, .int .i64 0, .int .i64 0, .int .i64 0]) ?_ 0 _ rfl; (with_reducible repeat first | refine kN ?_ _ | refine kD ?_ | refine kA ?_ _); exact BK167.out⟩
         have n1_ : Aside0 (Below w.heap.size w (((((w7.setCell ⟨gb167, 0, none⟩ (.int .i64 ((rd_T84 l0 x12_1).f0))).setCell ⟨gb167, 1, none⟩ (.int .i64 ((rd_T84 l0 x12_1).f1))).setCell ⟨gb167, 2, none⟩ (.int .i64 ((rd_T84 l0 x12_1).f2))).setCell ⟨gb167, 3, none⟩ (.int .i64 ((rd_T84 l0 x12_1).f3))).setCell ⟨gb167, 4, none⟩ (.int .i64 ((rd_T84 l0 x12_1).f4)))) := ⟨by repeat (first | (with_reducible first | exact HB.out | apply bA | apply bN | apply bD | refine bS ?_ GE167.out) | exact HB.out)⟩
         (try clear BK167)
         (try clear HB)
         generalize (((((w7.setCell ⟨gb167, 0, none⟩ (.int .i64 ((rd_T84 l0 x12_1).f0))).setCell ⟨gb167, 1, none⟩ (.int .i64 ((rd_T84 l0 x12_1).f1))).setCell ⟨gb167, 2, none⟩ (.int .i64 ((rd_T84 l0 x12_1).f2))).setCell ⟨gb167, 3, none⟩ (.int .i64 ((rd_T84 l0 x12_1).f3))).setCell ⟨gb167, 4, none⟩ (.int .i64 ((rd_T84 l0 x12_1).f4))) = w48 at n0_ n1_ ⊢
         have BK167 := n0_
         have HB := n1_
         clear n0_ n1_
         have n0_ := Aside0.mk (blk_drew BK167.out)
         have n1_ := Aside0.mk (below_drew1 HB.out)
         clear BK167
         clear HB
         have BK167 := n0_
         have HB := n1_
         clear n0_ n1_
         refine start_ (n := 43) (S := fun w' => w'.cell? ⟨gb167, 0, none⟩ = some (.int .i64 ((rd_T84 l0 x12_1).f0)) ∧ w'.cell? ⟨gb167, 1, none⟩ = some (.int .i64 ((rd_T84 l0 x12_1).f1)) ∧ w'.cell? ⟨gb167, 2, none⟩ = some (.int .i64 ((rd_T84 l0 x12_1).f2)) ∧ w'.cell? ⟨gb167, 3, none⟩ = some (.int .i64 ((rd_T84 l0 x12_1).f3)) ∧ w'.cell? ⟨gb167, 4, none⟩ = some (.int .i64 ((rd_T84 l0 x12_1).f4))) (ds := []) (bR [0, 43]) (by kernel_rfl) rfl rfl ⟨cC BK167 0, cC BK167 1, cC BK167 2, cC BK167 3, cC BK167 4⟩ (fun hHeld => ?_); refine with_tabW impl_AreClaims.tab6 impl_AreClaims.bits6 (fun HT_ HW_ => ?_)
         generalize w48.drew = w49 at BK167 HB hHeld ⊢
         refine pP 0 17 (bR [1, 42]) rfl rfl HT_ ?_
         refine take_ (i := 1) (N := some 18) (v := ?_) (a' := ?_) (bR [2, 41]) rfl rfl (take_ofW HT_.out HW_.out (by kernel_rfl)) (fun _ _ _ h => h) (Or.inl ⟨by rfl, ?_⟩) hHeld ?_ ?_
         rotate_left; (rintro w' ⟨s0, s1, s2, s3, s4⟩; go_simp; with_reducible rfl); rotate_left; (simp only [Act.put, sA, sZ, sS, i64_w]; rfl)
         refine one_ (i := 2) (N := some 19) (bR [3, 40]) rfl rfl (one_of HT_.out (by kernel_rfl)) (by decide) (fun K hK => ?_)
         refine goes_ Try.func114 (by kernel_rfl) rfl #[.int .i64 ((rd_T84 l0 x12_1).f0), .int .i64 1, .int .i64 999] (by rfl) rfl rfl (by (try simp only [mA, mC, mN]); first | done | rfl | (simp only [lD, lT]; rfl)) ?_
         with_reducible refine (impl_InRange.calls ((rd_T84 l0 x12_1).f0) 1 999 false _ A9.out).mono ?_
         rintro e w' ⟨rfl, ⟨nd, rfl⟩⟩
         refine ⟨_, rfl, ?_⟩
         refine hK.out _ _ ⟨cC BK167 0, cC BK167 1, cC BK167 2, cC BK167 3, cC BK167 4⟩ (fun hHeld => ?_)
         clear hK K
         refine norm_ (a' := ?_) ?_ ?_
         rotate_left
         ·show Act.put _ (some 19) _ = _
          simp only [Act.put, sA, sZ, sS, i64_w]
          rfl
         refine pP 3 20 (bR [4, 39]) rfl rfl HT_ ?_
         refine pP 4 21 (bR [5, 38]) rfl rfl HT_ ?_
         refine pU 5 22 (bR [6, 37]) rfl rfl HT_ ?_
         refine pU 6 23 (bR [7, 36]) rfl rfl HT_ ?_
         refine pU 7 24 (bR [8, 35]) rfl rfl HT_ ?_
         refine pU 8 25 (bR [9, 34]) rfl rfl HT_ ?_
         refine pU 9 26 (bR [10, 33]) rfl rfl HT_ ?_
         refine pU 10 27 (bR [11, 32]) rfl rfl HT_ ?_
         refine pU 11 28 (bR [12, 31]) rfl rfl HT_ ?_
         refine pU 12 29 (bR [13, 30]) rfl rfl HT_ ?_
         refine pU 13 30 (bR [14, 29]) rfl rfl HT_ ?_
         refine pU 14 31 (bR [15, 28]) rfl rfl HT_ ?_
         refine pU 15 32 (bR [16, 27]) rfl rfl HT_ ?_
         refine pU 16 33 (bR [17, 26]) rfl rfl HT_ ?_
         refine pU 17 34 (bR [18, 25]) rfl rfl HT_ ?_
         refine pP 18 35 (bR [19, 24]) rfl rfl HT_ ?_
         refine pP 19 36 (bR [20, 23]) rfl rfl HT_ ?_
         refine pU 20 37 (bR [21, 22]) rfl rfl HT_ ?_
         refine pU 21 38 (bR [22, 21]) rfl rfl HT_ ?_
         refine pU 22 39 (bR [23, 20]) rfl rfl HT_ ?_
         refine pU 23 40 (bR [24, 19]) rfl rfl HT_ ?_
         refine pP 24 41 (bR [25, 18]) rfl rfl HT_ ?_
         refine pP 25 42 (bR [26, 17]) rfl rfl HT_ ?_
         refine pU 26 43 (bR [27, 16]) rfl rfl HT_ ?_
         refine pU 27 44 (bR [28, 15]) rfl rfl HT_ ?_
         refine pU 28 45 (bR [29, 14]) rfl rfl HT_ ?_
         refine pU 29 46 (bR [30, 13]) rfl rfl HT_ ?_
         refine pP 30 47 (bR [31, 12]) rfl rfl HT_ ?_
         refine pP 31 48 (bR [32, 11]) rfl rfl HT_ ?_
         refine pU 32 49 (bR [33, 10]) rfl rfl HT_ ?_
         refine pU 33 50 (bR [34, 9]) rfl rfl HT_ ?_
         refine pU 34 51 (bR [35, 8]) rfl rfl HT_ ?_
         refine pU 35 52 (bR [36, 7]) rfl rfl HT_ ?_
         refine pP 36 53 (bR [37, 6]) rfl rfl HT_ ?_
         refine pP 37 54 (bR [38, 5]) rfl rfl HT_ ?_
         refine pU 38 55 (bR [39, 4]) rfl rfl HT_ ?_
         refine pU 39 56 (bR [40, 3]) rfl rfl HT_ ?_
         refine pU 40 57 (bR [41, 2]) rfl rfl HT_ ?_
         refine pU 41 58 (bR [42, 1]) rfl rfl HT_ ?_
         refine pP 42 59 (bR [43]) rfl rfl HT_ ?_
         refine done_ (done_of HT_.out (by kernel_rfl)) ?_
         try go_wp2
         go_meet
         case rel => exact ⟨_, (true), (by first | rfl | (simp; done) | (simp [*]; done)), H', ⟨by have := HK1.out; first | omega | exact Nat.le_refl _⟩, ⟨by (with_reducible repeat first | refine kN ?_ _ | refine kD ?_ | refine kA ?_ _); exact BK167.out⟩, ⟨by repeat (first | (with_reducible first | exact HB.out | apply bA | apply bN | apply bD | refine bS ?_ GE167.out) | exact HB.out)⟩⟩
       case rest =>
        clear HC6
        try clear c1
        try clear p2
        try clear c3
        try clear c10
        try clear c11
        try clear c34
        obtain ⟨kq, x59_5, rfl, HA, HJ5, BK167, HB⟩ := hcut
        cases kq with
        | zero => exact absurd HA.out (by simp [impl_AreClaims.j1])
        | succ kj5 =>
         have H := HA.out
         clear HA
         simp only [impl_AreClaims.j1] at H
         by_cases c50 : x59_5 = true
         ·subst c50
          have H1 : (some false) = some r := by rw [if_pos rfl] at H; exact H
          clear H
          have H := H1
          clear H1
          obtain rfl := Option.some.inj H
          go_wp2
          go_ret
          exact ⟨by first | rfl | (simp [errW_none, errW_some] <;> rfl) | (simp [*, errW_none, errW_some] <;> rfl), by repeat (first | (with_reducible first | exact HB.out | apply bA | apply bN | apply bD | refine bS ?_ GE167.out) | exact HB.out)⟩
         ·replace c50 := Bool.eq_false_iff.mpr c50
          subst c50
          have H1 : (if 0 ≤ x12_1 then (if x12_1 ≤ (l0.length : Int) then ((some (l0.take (x12_1 : Int).toNat : List (S84))).bind fun y178 => (impl_AreClaims.l1 kj5 l0 l0 (l0.length : Int) x12_1 y178 (y178.length : Int) 0 ((rd_T84 l0 x12_1).f0) ((rd_T84 l0 x12_1).f1) ((rd_T84 l0 x12_1).f2) ((rd_T84 l0 x12_1).f3) ((rd_T84 l0 x12_1).f4))) else (none)) else (none)) = some r := by rw [if_neg (show ¬ (false = true) by decide)] at H; exact H
          clear H
          have H := H1
          clear H1
          by_cases c51 : 0 ≤ x12_1
          ·rw [if_pos c51] at H
           have c51b0 := eq_true c51
           have c51b1 : decide (0 ≤ x12_1) = true := decide_eq_true c51
           clear c51
           by_cases c52 : x12_1 ≤ (l0.length : Int)
           ·rw [if_pos c52] at H
            have c52b0 := eq_true c52
            have c52b1 : decide (x12_1 ≤ (l0.length : Int)) = true := decide_eq_true c52
            clear c52
            obtain ⟨y178, hy178⟩ : ∃ y_ : List (S84), y_ = (l0.take (x12_1 : Int).toNat) := ⟨_, rfl⟩
            replace H : (impl_AreClaims.l1 kj5 l0 l0 (l0.length : Int) x12_1 y178 (y178.length : Int) 0 ((rd_T84 l0 x12_1).f0) ((rd_T84 l0 x12_1).f1) ((rd_T84 l0 x12_1).f2) ((rd_T84 l0 x12_1).f3) ((rd_T84 l0 x12_1).f4)) = some r := by first | (rw [hy178]; with_reducible exact H) | (have H2_ := (Option.bind_some _ _).symm.trans H; rw [hy178]; with_reducible exact H2_) | (have H2_ := (Option.bind_some _ _).symm.trans H; with_reducible exact H2_) | with_reducible exact H | (rw [hy178]; exact H) | exact H
            have Ny178 := Aside0.mk hy178
            clear hy178
            have H' := Aside0.mk H
            clear H
            have q53 : (x12_1 : Int) ≤ ((l0.length : Int) : Int) := of_decide_eq_true ‹_›
            obtain ⟨i053, hi053, _, hsz53, _⟩ := info_parts info84
            have hroom53 : l0.length ≤ c0 := HC0.out
            have hC53 : Kd.C k84 _ (some ad166) l0.length l0 := HR0.out
            have hcut53 := cut_to (P := Try.prog) 80 84 .i64 Try.underlying80 hi053 (some ad166) l0.length c0 x12_1 (of_decide_eq_true ‹_›) q53 hroom53
            have hr53 := Kd.C_take (m := (x12_1 : Int).toNat) hC53 (by omega)
            have hy53 : y178.length = (x12_1 : Int).toNat := (by rw [Ny178.out, List.length_take]; omega)
            rw [← Ny178.out] at hr53
            rw [← hy53] at hcut53
            have HR181 := Aside0.mk hr53
            have HC181 := Aside0.mk (show y178.length ≤ c0 from by omega)
            clear hr53 hC53 hroom53 hi053 hsz53
            have KY53 := Aside0.mk hy53
            clear hy53
            replace q53 := eq_true q53
            go_wp2
            go_loopg [64] kj5 (fun kq v64 w' => ∃ (x64_3 : Int), v64 = .int .i64 x64_3 ∧ Aside0 (impl_AreClaims.l1 kq l0 l0 (l0.length : Int) x12_1 y178 (y178.length : Int) x64_3 ((rd_T84 l0 x12_1).f0) ((rd_T84 l0 x12_1).f1) ((rd_T84 l0 x12_1).f2) ((rd_T84 l0 x12_1).f3) ((rd_T84 l0 x12_1).f4) = some r) ∧ Aside0 (kq ≤ kj5) ∧ Aside0 (w'.heap[gb167]? = some (.cells #[.int .i64 ((rd_T84 l0 x12_1).f0), .int .i64 ((rd_T84 l0 x12_1).f1), .int .i64 ((rd_T84 l0 x12_1).f2), .int .i64 ((rd_T84 l0 x12_1).f3), .int .i64 ((rd_T84 l0 x12_1).f4)] 84 (0, 0))) ∧ Aside0 (Below w.heap.size w w'))
            case atStart => exact ⟨(0), (by first | rfl | (simp; done) | (simp [*]; done)), H', ⟨Nat.le_refl _⟩, ⟨by (with_reducible repeat first | refine kN ?_ _ | refine kD ?_ | refine kA ?_ _); exact BK167.out⟩, ⟨by repeat (first | (with_reducible first | exact HB.out | apply bA | apply bN | apply bD | refine bS ?_ GE167.out) | exact HB.out)⟩⟩
            case round =>
             clear H'
             try clear c1
             try clear p2
             try clear c3
             try clear c5
             try clear q5
             try clear c10
             try clear c11
             try clear c34
             try clear c50
             try clear c51
             try clear c51b0
             try clear c51b1
             try clear c52
             try clear c52b0
             try clear c52b1
             try clear q53
             try clear p2
             try clear q53
             obtain ⟨x64_3, rfl, HA, HK3, BK167, HB⟩ := hrel
             cases gk with
             | zero => exact absurd HA.out (by simp [impl_AreClaims.l1])
             | succ k3 =>
              have H := HA.out
              clear HA
              simp only [impl_AreClaims.l1] at H
              by_cases c54 : x64_3 < (y178.length : Int)
              ·rw [if_pos c54] at H
               have c54b0 : decide (x64_3 < (y178.length : Int)) = true := decide_eq_true c54
               clear c54
               by_cases c55 : 0 ≤ x64_3
               ·rw [if_pos c55] at H
                have c55b0 : decide (0 ≤ x64_3) = true := decide_eq_true c55
                clear c55
                by_cases c56 : x64_3 < (y178.length : Int)
                ·rw [if_pos c56] at H
                 have c56b0 : decide (x64_3 < (y178.length : Int)) = true := decide_eq_true c56
                 clear c56
                 by_cases c57 : ((rd_T84 l0 x12_1).f4) = 3
                 ·rw [if_pos c57] at H
                  have c57b0 : (((rd_T84 l0 x12_1).f4) == 3) = true := beq_iff_eq.mpr c57
                  have c57b1 : (((rd_T84 l0 x12_1).f4) != 3) = false := bne_eq_false_iff_eq.mpr c57
                  clear c57
                  by_cases c58 : ((rd_T84 y178 x64_3).f4) = 3
                  ·rw [if_pos c58] at H
                   have c58b0 : (((rd_T84 y178 x64_3).f4) == 3) = true := beq_iff_eq.mpr c58
                   have c58b1 : (((rd_T84 y178 x64_3).f4) != 3) = false := bne_eq_false_iff_eq.mpr c58
                   clear c58
                   by_cases c59 : ((rd_T84 l0 x12_1).f2) = ((rd_T84 y178 x64_3).f2)
                   ·rw [if_pos c59] at H
                    have c59b0 : (((rd_T84 l0 x12_1).f2) == ((rd_T84 y178 x64_3).f2)) = true := beq_iff_eq.mpr c59
                    have c59b1 : (((rd_T84 l0 x12_1).f2) != ((rd_T84 y178 x64_3).f2)) = false := bne_eq_false_iff_eq.mpr c59
                    clear c59
                    obtain rfl := Option.some.inj H
                    have p182 : 0 ≤ (x64_3 : Int) := of_decide_eq_true ‹_›
                    have q182 : x64_3 < (y178.length : Int) := of_decide_eq_true ‹_›
                    obtain ⟨ad182, e182, hx182_0, hx182_1, hx182_2, hx182_3, hx182_4⟩ := at_T84 HR181.out x64_3 p182 q182
                    obtain rfl : ad166 = ad182 := (by injection e182)
                    replace hx182_0 := (HB.out.cell (World.block_lt_of_cell? w _ hx182_0)).trans hx182_0
                    replace hx182_1 := (HB.out.cell (World.block_lt_of_cell? w _ hx182_1)).trans hx182_1
                    replace hx182_2 := (HB.out.cell (World.block_lt_of_cell? w _ hx182_2)).trans hx182_2
                    replace hx182_3 := (HB.out.cell (World.block_lt_of_cell? w _ hx182_3)).trans hx182_3
                    replace hx182_4 := (HB.out.cell (World.block_lt_of_cell? w _ hx182_4)).trans hx182_4
                    replace p182 := eq_true p182
                    replace q182 := eq_true q182
                    go_wp2_with (first | ((with_reducible refine gate_dst (N := 6) rfl ?_); refine box_event ?hg (N := 6) ?hd (cs := #[.int .i64 0, .int .i64 0, .int .i64 0, .int .i64 0, .int .i64 0]) (t := 84) ?hr ?_; (case hd => rfl); (case hg => rfl); (case hr => first | (go_simp; done) | (go_simp; rfl)); intro gb183 hg w60 hbox hb; have n0_ := Aside0.mk (blk_below (qK BK167) hb); have n1_ := Aside0.mk (below_step (by repeat first | (with_reducible first | exact HB.out | apply bA | apply bN | apply bD | refine bS ?_ GE167.out) | exact HB.out) hb); have n2_ := Aside0.mk (hbox); have n3_ := Aside0.mk ((by rw [hg]; exact (below_size (by repeat first | (with_reducible first | exact HB.out | apply bA | apply bN | apply bD | refine bS ?_ GE167.out) | exact HB.out)) : w.heap.size ≤ gb183)); have n4_ := Aside0.mk ((by rw [hg]; exact (below_size (by repeat first | (with_reducible first | exact HB.out | apply bA | apply bN | apply bD | refine bS ?_ GE167.out) | exact HB.out)) : w.heap.size ≤ gb183)); have n5_ := Aside0.mk ((by rw [hg]; exact Nat.ne_of_lt (blk_lt (qK BK167)) : gb167 ≠ gb183)); have n6_ := Aside0.mk ((by rw [hg]; exact Nat.ne_of_gt (blk_lt (qK BK167)) : gb183 ≠ gb167)); clear BK167; clear HB; have BK167 := n0_; have HB := n1_; have BK183 := n2_; have GW183 := n3_; have GE183 := n4_; have NB167_183 := n5_; have NB183_167 := n6_; clear n0_ n1_ n2_ n3_ n4_ n5_ n6_; clear hb hbox hg; have hnb61 := NB183_167.out; have hnc61 := NB167_183.out; have hcz62_0 : w60.cell? ⟨gb183, 0, none⟩ = some (.int .i64 0) := cC BK183 0; have hcz62_1 : w60.cell? ⟨gb183, 1, none⟩ = some (.int .i64 0) := cC BK183 1; have hcz62_2 : w60.cell? ⟨gb183, 2, none⟩ = some (.int .i64 0) := cC BK183 2; have hcz62_3 : w60.cell? ⟨gb183, 3, none⟩ = some (.int .i64 0) := cC BK183 3; have hcz62_4 : w60.cell? ⟨gb183, 4, none⟩ = some (.int .i64 0) := cC BK183 4; have hfz62_0 := blk_frozen BK183.out 0; have hfz62_1 := blk_frozen BK183.out 1; have hfz62_2 := blk_frozen BK183.out 2; have hfz62_3 := blk_frozen BK183.out 3; have hfz62_4 := blk_frozen BK183.out 4; have hcz63_0 : w60.cell? ⟨gb167, 0, none⟩ = some (.int .i64 ((rd_T84 l0 x12_1).f0)) := cC BK167 0; have hcz63_1 : w60.cell? ⟨gb167, 1, none⟩ = some (.int .i64 ((rd_T84 l0 x12_1).f1)) := cC BK167 1; have hcz63_2 : w60.cell? ⟨gb167, 2, none⟩ = some (.int .i64 ((rd_T84 l0 x12_1).f2)) := cC BK167 2; have hcz63_3 : w60.cell? ⟨gb167, 3, none⟩ = some (.int .i64 ((rd_T84 l0 x12_1).f3)) := cC BK167 3; have hcz63_4 : w60.cell? ⟨gb167, 4, none⟩ = some (.int .i64 ((rd_T84 l0 x12_1).f4)) := cC BK167 4; have hfz63_0 := blk_frozen BK167.out 0; have hfz63_1 := blk_frozen BK167.out 1; have hfz63_2 := blk_frozen BK167.out 2; have hfz63_3 := blk_frozen BK167.out 3; have hfz63_4 := blk_frozen BK167.out 4))
                    go_ret
                    exact ⟨by first | rfl | (simp [errW_none, errW_some] <;> rfl) | (simp [*, errW_none, errW_some] <;> rfl), by repeat (first | (with_reducible first | exact HB.out | apply bA | apply bN | apply bD | refine bS ?_ GE167.out | refine bS ?_ GE183.out) | exact HB.out)⟩
                   ·rw [if_neg c59] at H
                    have c59b0 : (((rd_T84 l0 x12_1).f2) == ((rd_T84 y178 x64_3).f2)) = false := beq_eq_false_iff_ne.mpr c59
                    have c59b1 : (((rd_T84 l0 x12_1).f2) != ((rd_T84 y178 x64_3).f2)) = true := bne_iff_ne.mpr c59
                    have H' := Aside0.mk H
                    clear H
                    have p182 : 0 ≤ (x64_3 : Int) := of_decide_eq_true ‹_›
                    have q182 : x64_3 < (y178.length : Int) := of_decide_eq_true ‹_›
                    obtain ⟨ad182, e182, hx182_0, hx182_1, hx182_2, hx182_3, hx182_4⟩ := at_T84 HR181.out x64_3 p182 q182
                    obtain rfl : ad166 = ad182 := (by injection e182)
                    replace hx182_0 := (HB.out.cell (World.block_lt_of_cell? w _ hx182_0)).trans hx182_0
                    replace hx182_1 := (HB.out.cell (World.block_lt_of_cell? w _ hx182_1)).trans hx182_1
                    replace hx182_2 := (HB.out.cell (World.block_lt_of_cell? w _ hx182_2)).trans hx182_2
                    replace hx182_3 := (HB.out.cell (World.block_lt_of_cell? w _ hx182_3)).trans hx182_3
                    replace hx182_4 := (HB.out.cell (World.block_lt_of_cell? w _ hx182_4)).trans hx182_4
                    replace p182 := eq_true p182
                    replace q182 := eq_true q182
                    go_wp2_with (first | ((with_reducible refine gate_dst (N := 6) rfl ?_); refine box_event ?hg (N := 6) ?hd (cs := #[.int .i64 0, .int .i64 0, .int .i64 0, .int .i64 0, .int .i64 0]) (t := 84) ?hr ?_; (case hd => rfl); (case hg => rfl); (case hr => first | (go_simp; done) | (go_simp; rfl)); intro gb183 hg w64 hbox hb; have n0_ := Aside0.mk (blk_below (qK BK167) hb); have n1_ := Aside0.mk (below_step (by repeat first | (with_reducible first | exact HB.out | apply bA | apply bN | apply bD | refine bS ?_ GE167.out) | exact HB.out) hb); have n2_ := Aside0.mk (hbox); have n3_ := Aside0.mk ((by rw [hg]; exact (below_size (by repeat first | (with_reducible first | exact HB.out | apply bA | apply bN | apply bD | refine bS ?_ GE167.out) | exact HB.out)) : w.heap.size ≤ gb183)); have n4_ := Aside0.mk ((by rw [hg]; exact (below_size (by repeat first | (with_reducible first | exact HB.out | apply bA | apply bN | apply bD | refine bS ?_ GE167.out) | exact HB.out)) : w.heap.size ≤ gb183)); have n5_ := Aside0.mk ((by rw [hg]; exact Nat.ne_of_lt (blk_lt (qK BK167)) : gb167 ≠ gb183)); have n6_ := Aside0.mk ((by rw [hg]; exact Nat.ne_of_gt (blk_lt (qK BK167)) : gb183 ≠ gb167)); clear BK167; clear HB; have BK167 := n0_; have HB := n1_; have BK183 := n2_; have GW183 := n3_; have GE183 := n4_; have NB167_183 := n5_; have NB183_167 := n6_; clear n0_ n1_ n2_ n3_ n4_ n5_ n6_; clear hb hbox hg; have hnb65 := NB183_167.out; have hnc65 := NB167_183.out; have hcz66_0 : w64.cell? ⟨gb183, 0, none⟩ = some (.int .i64 0) := cC BK183 0; have hcz66_1 : w64.cell? ⟨gb183, 1, none⟩ = some (.int .i64 0) := cC BK183 1; have hcz66_2 : w64.cell? ⟨gb183, 2, none⟩ = some (.int .i64 0) := cC BK183 2; have hcz66_3 : w64.cell? ⟨gb183, 3, none⟩ = some (.int .i64 0) := cC BK183 3; have hcz66_4 : w64.cell? ⟨gb183, 4, none⟩ = some (.int .i64 0) := cC BK183 4; have hfz66_0 := blk_frozen BK183.out 0; have hfz66_1 := blk_frozen BK183.out 1; have hfz66_2 := blk_frozen BK183.out 2; have hfz66_3 := blk_frozen BK183.out 3; have hfz66_4 := blk_frozen BK183.out 4; have hcz67_0 : w64.cell? ⟨gb167, 0, none⟩ = some (.int .i64 ((rd_T84 l0 x12_1).f0)) := cC BK167 0; have hcz67_1 : w64.cell? ⟨gb167, 1, none⟩ = some (.int .i64 ((rd_T84 l0 x12_1).f1)) := cC BK167 1; have hcz67_2 : w64.cell? ⟨gb167, 2, none⟩ = some (.int .i64 ((rd_T84 l0 x12_1).f2)) := cC BK167 2; have hcz67_3 : w64.cell? ⟨gb167, 3, none⟩ = some (.int .i64 ((rd_T84 l0 x12_1).f3)) := cC BK167 3; have hcz67_4 : w64.cell? ⟨gb167, 4, none⟩ = some (.int .i64 ((rd_T84 l0 x12_1).f4)) := cC BK167 4; have hfz67_0 := blk_frozen BK167.out 0; have hfz67_1 := blk_frozen BK167.out 1; have hfz67_2 := blk_frozen BK167.out 2; have hfz67_3 := blk_frozen BK167.out 3; have hfz67_4 := blk_frozen BK167.out 4))
                    go_roundg k3
                    case measure => have := HK1.out; have := HJ5.out; have := HK3.out; omega
                    case rel => exact ⟨(wrap64 (x64_3 + 1)), (by first | rfl | (simp; done) | (simp [*]; done)), H', ⟨by have := HK1.out; have := HJ5.out; have := HK3.out; omega⟩, ⟨by (with_reducible repeat first | refine kN ?_ _ | refine kD ?_ | refine kA ?_ _); refine blk_far ?_ NB167_183.out _; (with_reducible repeat first | refine kN ?_ _ | refine kD ?_ | refine kA ?_ _); exact blk4 BK167.out NB167_183⟩, ⟨by repeat (first | (with_reducible first | exact HB.out | apply bA | apply bN | apply bD | refine bS ?_ GE167.out | refine bS ?_ GE183.out) | exact HB.out)⟩⟩
                  ·rw [if_neg c58] at H
                   have c58b0 : (((rd_T84 y178 x64_3).f4) == 3) = false := beq_eq_false_iff_ne.mpr c58
                   have c58b1 : (((rd_T84 y178 x64_3).f4) != 3) = true := bne_iff_ne.mpr c58
                   have H' := Aside0.mk H
                   clear H
                   have p182 : 0 ≤ (x64_3 : Int) := of_decide_eq_true ‹_›
                   have q182 : x64_3 < (y178.length : Int) := of_decide_eq_true ‹_›
                   obtain ⟨ad182, e182, hx182_0, hx182_1, hx182_2, hx182_3, hx182_4⟩ := at_T84 HR181.out x64_3 p182 q182
                   obtain rfl : ad166 = ad182 := (by injection e182)
                   replace hx182_0 := (HB.out.cell (World.block_lt_of_cell? w _ hx182_0)).trans hx182_0
                   replace hx182_1 := (HB.out.cell (World.block_lt_of_cell? w _ hx182_1)).trans hx182_1
                   replace hx182_2 := (HB.out.cell (World.block_lt_of_cell? w _ hx182_2)).trans hx182_2
                   replace hx182_3 := (HB.out.cell (World.block_lt_of_cell? w _ hx182_3)).trans hx182_3
                   replace hx182_4 := (HB.out.cell (World.block_lt_of_cell? w _ hx182_4)).trans hx182_4
                   replace p182 := eq_true p182
                   replace q182 := eq_true q182
                   go_wp2_with (first | ((with_reducible refine gate_dst (N := 6) rfl ?_); refine box_event ?hg (N := 6) ?hd (cs := #[.int .i64 0, .int .i64 0, .int .i64 0, .int .i64 0, .int .i64 0]) (t := 84) ?hr ?_; (case hd => rfl); (case hg => rfl); (case hr => first | (go_simp; done) | (go_simp; rfl)); intro gb183 hg w68 hbox hb; have n0_ := Aside0.mk (blk_below (qK BK167) hb); have n1_ := Aside0.mk (below_step (by repeat first | (with_reducible first | exact HB.out | apply bA | apply bN | apply bD | refine bS ?_ GE167.out) | exact HB.out) hb); have n2_ := Aside0.mk (hbox); have n3_ := Aside0.mk ((by rw [hg]; exact (below_size (by repeat first | (with_reducible first | exact HB.out | apply bA | apply bN | apply bD | refine bS ?_ GE167.out) | exact HB.out)) : w.heap.size ≤ gb183)); have n4_ := Aside0.mk ((by rw [hg]; exact (below_size (by repeat first | (with_reducible first | exact HB.out | apply bA | apply bN | apply bD | refine bS ?_ GE167.out) | exact HB.out)) : w.heap.size ≤ gb183)); have n5_ := Aside0.mk ((by rw [hg]; exact Nat.ne_of_lt (blk_lt (qK BK167)) : gb167 ≠ gb183)); have n6_ := Aside0.mk ((by rw [hg]; exact Nat.ne_of_gt (blk_lt (qK BK167)) : gb183 ≠ gb167)); clear BK167; clear HB; have BK167 := n0_; have HB := n1_; have BK183 := n2_; have GW183 := n3_; have GE183 := n4_; have NB167_183 := n5_; have NB183_167 := n6_; clear n0_ n1_ n2_ n3_ n4_ n5_ n6_; clear hb hbox hg; have hnb69 := NB183_167.out; have hnc69 := NB167_183.out; have hcz70_0 : w68.cell? ⟨gb183, 0, none⟩ = some (.int .i64 0) := cC BK183 0; have hcz70_1 : w68.cell? ⟨gb183, 1, none⟩ = some (.int .i64 0) := cC BK183 1; have hcz70_2 : w68.cell? ⟨gb183, 2, none⟩ = some (.int .i64 0) := cC BK183 2; have hcz70_3 : w68.cell? ⟨gb183, 3, none⟩ = some (.int .i64 0) := cC BK183 3; have hcz70_4 : w68.cell? ⟨gb183, 4, none⟩ = some (.int .i64 0) := cC BK183 4; have hfz70_0 := blk_frozen BK183.out 0; have hfz70_1 := blk_frozen BK183.out 1; have hfz70_2 := blk_frozen BK183.out 2; have hfz70_3 := blk_frozen BK183.out 3; have hfz70_4 := blk_frozen BK183.out 4; have hcz71_0 : w68.cell? ⟨gb167, 0, none⟩ = some (.int .i64 ((rd_T84 l0 x12_1).f0)) := cC BK167 0; have hcz71_1 : w68.cell? ⟨gb167, 1, none⟩ = some (.int .i64 ((rd_T84 l0 x12_1).f1)) := cC BK167 1; have hcz71_2 : w68.cell? ⟨gb167, 2, none⟩ = some (.int .i64 ((rd_T84 l0 x12_1).f2)) := cC BK167 2; have hcz71_3 : w68.cell? ⟨gb167, 3, none⟩ = some (.int .i64 ((rd_T84 l0 x12_1).f3)) := cC BK167 3; have hcz71_4 : w68.cell? ⟨gb167, 4, none⟩ = some (.int .i64 ((rd_T84 l0 x12_1).f4)) := cC BK167 4; have hfz71_0 := blk_frozen BK167.out 0; have hfz71_1 := blk_frozen BK167.out 1; have hfz71_2 := blk_frozen BK167.out 2; have hfz71_3 := blk_frozen BK167.out 3; have hfz71_4 := blk_frozen BK167.out 4))
                   go_roundg k3
                   case measure => have := HK1.out; have := HJ5.out; have := HK3.out; omega
                   case rel => exact ⟨(wrap64 (x64_3 + 1)), (by first | rfl | (simp; done) | (simp [*]; done)), H', ⟨by have := HK1.out; have := HJ5.out; have := HK3.out; omega⟩, ⟨by (with_reducible repeat first | refine kN ?_ _ | refine kD ?_ | refine kA ?_ _); refine blk_far ?_ NB167_183.out _; (with_reducible repeat first | refine kN ?_ _ | refine kD ?_ | refine kA ?_ _); exact blk4 BK167.out NB167_183⟩, ⟨by repeat (first | (with_reducible first | exact HB.out | apply bA | apply bN | apply bD | refine bS ?_ GE167.out | refine bS ?_ GE183.out) | exact HB.out)⟩⟩
                 ·rw [if_neg c57] at H
                  have c57b0 : (((rd_T84 l0 x12_1).f4) == 3) = false := beq_eq_false_iff_ne.mpr c57
                  have c57b1 : (((rd_T84 l0 x12_1).f4) != 3) = true := bne_iff_ne.mpr c57
                  have H' := Aside0.mk H
                  clear H
                  have p182 : 0 ≤ (x64_3 : Int) := of_decide_eq_true ‹_›
                  have q182 : x64_3 < (y178.length : Int) := of_decide_eq_true ‹_›
                  obtain ⟨ad182, e182, hx182_0, hx182_1, hx182_2, hx182_3, hx182_4⟩ := at_T84 HR181.out x64_3 p182 q182
                  obtain rfl : ad166 = ad182 := (by injection e182)
                  replace hx182_0 := (HB.out.cell (World.block_lt_of_cell? w _ hx182_0)).trans hx182_0
                  replace hx182_1 := (HB.out.cell (World.block_lt_of_cell? w _ hx182_1)).trans hx182_1
                  replace hx182_2 := (HB.out.cell (World.block_lt_of_cell? w _ hx182_2)).trans hx182_2
                  replace hx182_3 := (HB.out.cell (World.block_lt_of_cell? w _ hx182_3)).trans hx182_3
                  replace hx182_4 := (HB.out.cell (World.block_lt_of_cell? w _ hx182_4)).trans hx182_4
                  replace p182 := eq_true p182
                  replace q182 := eq_true q182
                  go_wp2_with (first | ((with_reducible refine gate_dst (N := 6) rfl ?_); refine box_event ?hg (N := 6) ?hd (cs := #[.int .i64 0, .int .i64 0, .int .i64 0, .int .i64 0, .int .i64 0]) (t := 84) ?hr ?_; (case hd => rfl); (case hg => rfl); (case hr => first | (go_simp; done) | (go_simp; rfl)); intro gb183 hg w72 hbox hb; have n0_ := Aside0.mk (blk_below (qK BK167) hb); have n1_ := Aside0.mk (below_step (by repeat first | (with_reducible first | exact HB.out | apply bA | apply bN | apply bD | refine bS ?_ GE167.out) | exact HB.out) hb); have n2_ := Aside0.mk (hbox); have n3_ := Aside0.mk ((by rw [hg]; exact (below_size (by repeat first | (with_reducible first | exact HB.out | apply bA | apply bN | apply bD | refine bS ?_ GE167.out) | exact HB.out)) : w.heap.size ≤ gb183)); have n4_ := Aside0.mk ((by rw [hg]; exact (below_size (by repeat first | (with_reducible first | exact HB.out | apply bA | apply bN | apply bD | refine bS ?_ GE167.out) | exact HB.out)) : w.heap.size ≤ gb183)); have n5_ := Aside0.mk ((by rw [hg]; exact Nat.ne_of_lt (blk_lt (qK BK167)) : gb167 ≠ gb183)); have n6_ := Aside0.mk ((by rw [hg]; exact Nat.ne_of_gt (blk_lt (qK BK167)) : gb183 ≠ gb167)); clear BK167; clear HB; have BK167 := n0_; have HB := n1_; have BK183 := n2_; have GW183 := n3_; have GE183 := n4_; have NB167_183 := n5_; have NB183_167 := n6_; clear n0_ n1_ n2_ n3_ n4_ n5_ n6_; clear hb hbox hg; have hnb73 := NB183_167.out; have hnc73 := NB167_183.out; have hcz74_0 : w72.cell? ⟨gb183, 0, none⟩ = some (.int .i64 0) := cC BK183 0; have hcz74_1 : w72.cell? ⟨gb183, 1, none⟩ = some (.int .i64 0) := cC BK183 1; have hcz74_2 : w72.cell? ⟨gb183, 2, none⟩ = some (.int .i64 0) := cC BK183 2; have hcz74_3 : w72.cell? ⟨gb183, 3, none⟩ = some (.int .i64 0) := cC BK183 3; have hcz74_4 : w72.cell? ⟨gb183, 4, none⟩ = some (.int .i64 0) := cC BK183 4; have hfz74_0 := blk_frozen BK183.out 0; have hfz74_1 := blk_frozen BK183.out 1; have hfz74_2 := blk_frozen BK183.out 2; have hfz74_3 := blk_frozen BK183.out 3; have hfz74_4 := blk_frozen BK183.out 4; have hcz75_0 : w72.cell? ⟨gb167, 0, none⟩ = some (.int .i64 ((rd_T84 l0 x12_1).f0)) := cC BK167 0; have hcz75_1 : w72.cell? ⟨gb167, 1, none⟩ = some (.int .i64 ((rd_T84 l0 x12_1).f1)) := cC BK167 1; have hcz75_2 : w72.cell? ⟨gb167, 2, none⟩ = some (.int .i64 ((rd_T84 l0 x12_1).f2)) := cC BK167 2; have hcz75_3 : w72.cell? ⟨gb167, 3, none⟩ = some (.int .i64 ((rd_T84 l0 x12_1).f3)) := cC BK167 3; have hcz75_4 : w72.cell? ⟨gb167, 4, none⟩ = some (.int .i64 ((rd_T84 l0 x12_1).f4)) := cC BK167 4; have hfz75_0 := blk_frozen BK167.out 0; have hfz75_1 := blk_frozen BK167.out 1; have hfz75_2 := blk_frozen BK167.out 2; have hfz75_3 := blk_frozen BK167.out 3; have hfz75_4 := blk_frozen BK167.out 4))
                  go_roundg k3
                  case measure => have := HK1.out; have := HJ5.out; have := HK3.out; omega
                  case rel => exact ⟨(wrap64 (x64_3 + 1)), (by first | rfl | (simp; done) | (simp [*]; done)), H', ⟨by have := HK1.out; have := HJ5.out; have := HK3.out; omega⟩, ⟨by (with_reducible repeat first | refine kN ?_ _ | refine kD ?_ | refine kA ?_ _); refine blk_far ?_ NB167_183.out _; (with_reducible repeat first | refine kN ?_ _ | refine kD ?_ | refine kA ?_ _); exact blk4 BK167.out NB167_183⟩, ⟨by repeat (first | (with_reducible first | exact HB.out | apply bA | apply bN | apply bD | refine bS ?_ GE167.out | refine bS ?_ GE183.out) | exact HB.out)⟩⟩
                ·rw [if_neg c56] at H
                 exact absurd H (by simp)
               ·rw [if_neg c55] at H
                exact absurd H (by simp)
              ·rw [if_neg c54] at H
               have c54b0 : decide (x64_3 < (y178.length : Int)) = false := decide_eq_false c54
               clear c54
               have H' := Aside0.mk H
               clear H
               go_wp2
               go_roundg k3
               case measure => have := HK1.out; have := HJ5.out; have := HK3.out; omega
               case rel => exact ⟨(wrap64 (x12_1 + 1)), (by first | rfl | (simp; done) | (simp [*]; done)), H', ⟨by have := HK1.out; have := HJ5.out; have := HK3.out; omega⟩, ⟨by repeat (first | (with_reducible first | exact HB.out | apply bA | apply bN | apply bD | refine bS ?_ GE167.out) | exact HB.out)⟩⟩
           ·rw [if_neg c52] at H
            exact absurd H (by simp)
          ·rw [if_neg c51] at H
           exact absurd H (by simp)
      ·rw [if_neg c5] at H
       exact absurd H (by simp)
     ·rw [if_neg c4] at H
      exact absurd H (by simp)
    ·rw [if_neg c3] at H
     have c3b0 : decide (x12_1 < (l0.length : Int)) = false := decide_eq_false c3
     clear c3
     obtain rfl := Option.some.inj H
     go_wp2
     go_ret
     exact ⟨by first | rfl | (simp [errW_none, errW_some] <;> rfl) | (simp [*, errW_none, errW_some] <;> rfl), by repeat (first | (with_reducible first | exact HB.out | apply bA | apply bN | apply bD) | exact HB.out)⟩

end Go.Proofs.Ytppgealmedaihaa.PFnExactAddClaim
