-- The printed functions of one law and their contracts, over contracts of this session's own (hand.py).
import Derived.Test.YtppgealmedaihaaPFnClaimsx0
import Derived.Test.YtppgealmedaihaaIns
import Derived.Laws.NewBlocks
namespace Go.Proofs.Ytppgealmedaihaa.PFnClaims
open Go.RowKit Go.Proofs.YtppgealmedaihaaW.PrintWords Go.Proofs.YtppgealmedaihaaW.PrintLast Go.Proofs.YtppgealmedaihaaW.PrintMore Go.Proofs.Ytppgealmedaihaa.Short
attribute [local go_sem] max2_int min2_int max_two min_two max_three min_three max_four min_four   -- for this text's walks alone
set_option linter.unusedVariables false
set_option linter.unusedSimpArgs false

-- NOT PRINTED: function 147 (impl_Claim_147)

/-! ### slices.IndexFunc at S84: function 147 -/
def idxF84 (p : S84 → Bool) : List S84 → Int → Int
 | [], _ => -1
 | x :: r, i => if p x = true then i else idxF84 p r (i + 1)
set_option maxHeartbeats 2000000 in
set_option maxRecDepth 100000 in
theorem idxF84_calls (p : S84 → Bool) (g : Nat) (lb : Array Value) (eg : ∀ args w, (callFunc g args).run Try.prog w = .ok (.enter g args) w) (A0 : Option Addr) (c0 : Nat) (l0 : List S84) (w : World)
  (hr0 : Kd.C k84 w A0 l0.length l0) (hc0 : l0.length ≤ c0)
  (hp : ∀ (W : World) (x : S84), Below w.heap.size w W → Calls Try.prog g (#[.agg #[.int .i64 x.f0, .int .i64 x.f1, .int .i64 x.f2, .int .i64 x.f3, .int .i64 x.f4]] ++ lb) W fun e w' => e = .returned (.bool (p x)) ∧ Below w.heap.size w w') :
  Calls Try.prog 147 #[.slice A0 l0.length c0, .func (.func g) #[] lb] w fun e w' => e = .returned (.int .i64 (idxF84 p l0 0)) ∧ Below w.heap.size w w' := by
 have hu84 := Try.underlying84
 have HR0 := Aside0.mk hr0
 have HP := Aside0.mk hp
 have hlen : l0.length ≤ 9223372036854775807 := hr0.2.1
 clear hr0 hc0 hp
 go_enter Try.func147, Try.ntmps147
 go_wp2
 go_loopg [5, 8] l0.length (fun gg _ s8 wr => ∃ x : Int, s8 = .int .i64 x ∧ Aside0 (0 ≤ x ∧ x ≤ (l0.length : Int) ∧ (l0.length : Int) - x ≤ (gg : Int)) ∧ Aside0 (Below w.heap.size w wr) ∧ Aside0 (idxF84 p l0 0 = idxF84 p (l0.drop x.toNat) x))
 case atStart => exact ⟨0, rfl, ⟨by omega⟩, ⟨Below.refl _ w⟩, ⟨rfl⟩⟩
 case round =>
  obtain ⟨x, rfl, HX, HB, HA⟩ := hrel
  by_cases hlt : x < (l0.length : Int)
  ·obtain ⟨ad, e, hx0, hx1, hx2, hx3, hx4⟩ := at_T84 HR0.out x HX.out.1 hlt
   cases e
   replace hx0 := (HB.out.cell (World.block_lt_of_cell? w _ hx0)).trans hx0
   replace hx1 := (HB.out.cell (World.block_lt_of_cell? w _ hx1)).trans hx1
   replace hx2 := (HB.out.cell (World.block_lt_of_cell? w _ hx2)).trans hx2
   replace hx3 := (HB.out.cell (World.block_lt_of_cell? w _ hx3)).trans hx3
   replace hx4 := (HB.out.cell (World.block_lt_of_cell? w _ hx4)).trans hx4
   have hd : l0.drop x.toNat = rd_T84 l0 x :: l0.drop (x.toNat + 1) := by
    have hlt2 : x.toNat < l0.length := by have := HX.out.1; omega
    rw [show rd_T84 l0 x = l0[x.toNat] by simp [rd_T84, hlt2]]
    exact List.drop_eq_getElem_cons hlt2
   have hcall := HP.out wr (rd_T84 l0 x) HB.out
   have HD := Aside0.mk hd
   have HL := Aside0.mk hlt
   have HW := Aside0.mk (show wrap64 (x + 1) = x + 1 by unfold wrap64; have := HX.out; omega)
   have hb1 : decide (x < (l0.length : Int)) = true := decide_eq_true hlt
   have p0 : 0 ≤ x := HX.out.1
   replace p0 := eq_true p0
   replace hlt := eq_true hlt
   clear hd
   cases hq : p (rd_T84 l0 x) with
   | true =>
    rw [hq] at hcall
    have HQ := Aside0.mk hq
    clear hq
    go_wp2_with (go_at_fn g; refine hcall.mono ?_; rintro e w' ⟨rfl, hb'⟩)
    go_ret
    refine ⟨?_, hb'⟩
    rw [HA.out, HD.out]
    simp only [idxF84]
    rw [if_pos HQ.out]
    rfl
   | false =>
    rw [hq] at hcall
    have HQ := Aside0.mk hq
    clear hq
    go_wp2_with (go_at_fn g; refine hcall.mono ?_; rintro e w' ⟨rfl, hb'⟩)
    go_roundg (l0.length - (x.toNat + 1))
    case measure => have := HX.out; have := HL.out; omega
    case rel =>
     refine ⟨x + 1, ?_, ⟨by have := HX.out; have := HL.out; omega⟩, ⟨hb'⟩, ⟨?_⟩⟩
     ·rw [HW.out]
     ·rw [HA.out, HD.out]
      simp only [idxF84]
      rw [if_neg (by rw [HQ.out]; decide), show (x + 1).toNat = x.toNat + 1 by have := HX.out; omega]
  ·have hb1 : decide (x < (l0.length : Int)) = false := decide_eq_false hlt
   have HL := Aside0.mk hlt
   clear hlt
   go_wp2
   go_ret
   refine ⟨?_, HB.out⟩
   rw [HA.out, List.drop_of_length_le (by have := HX.out; have := HL.out; omega)]
   rfl

/-! ### impl_FindClaim: function 80 -/
def impl_FindClaim.f (l0 : List (S84)) (a1 : Int) : Option (Int) := some (idxF84 (fun x => x.f0 == a1) l0 0)
set_option maxRecDepth 100000 in
theorem impl_FindClaim_pred (th : Int) (B : Nat) (w : World) (hB : B < w.heap.size) (hcell : w.cell? ⟨B, 0, none⟩ = some (.int .i64 th)) :
  ∀ (W : World) (x : S84), Below w.heap.size w W → Calls Try.prog 148 (#[.agg #[.int .i64 x.f0, .int .i64 x.f1, .int .i64 x.f2, .int .i64 x.f3, .int .i64 x.f4]] ++ #[.pointer (some ⟨B, 0, none⟩)]) W fun e w' => e = .returned (.bool (x.f0 == th)) ∧ Below w.heap.size w w' := fun W x hb => by
 have hc : W.cell? ⟨B, 0, none⟩ = some (.int .i64 th) := (hb.cell (p := ⟨B, 0, none⟩) hB).trans hcell
 have hBW : B < W.heap.size := Nat.lt_of_lt_of_le hB hb.size
 have hne : B ≠ W.heap.size := by omega
 show Calls Try.prog 148 #[.agg #[.int .i64 x.f0, .int .i64 x.f1, .int .i64 x.f2, .int .i64 x.f3, .int .i64 x.f4], .pointer (some ⟨B, 0, none⟩)] W _
 go_enter Try.func148, Try.ntmps148
 go_wp2
 all_goals (go_ret; exact ⟨by simp_all, hb.alloc hb.size _⟩)
set_option maxHeartbeats 2000000 in
set_option maxRecDepth 100000 in
theorem impl_FindClaim.calls (A0 : Option Addr) (c0 : Nat) (l0 : List (S84)) (a1 : Int) (r : Int) (w : World) (hr0 : Kd.C k84 w A0 l0.length l0) (hc0 : l0.length ≤ c0) (h : impl_FindClaim.f l0 a1 = some r) :
  Calls Try.prog 80 #[.slice A0 l0.length c0, .int .i64 a1] w fun e w' => e = .returned (.int .i64 r) ∧ Below w.heap.size w w' := by
 have eg : ∀ args w, (callFunc 148 args).run Try.prog w = .ok (.enter 148 args) w := enters_of Try.func148 (by kernel_rfl) rfl
 have hb1 : Below w.heap.size w (w.alloc (.cells #[.int .i64 a1] 3)) := (Below.refl _ w).alloc (Nat.le_refl _) _
 have hcon := idxF84_calls (fun x => x.f0 == a1) 148 #[.pointer (some ⟨w.heap.size, 0, none⟩)] eg A0 c0 l0 (w.alloc (.cells #[.int .i64 a1] 3)) (Kd.C_below hr0 hb1) hc0 (impl_FindClaim_pred a1 w.heap.size _ (by simp) (by simp))
 have HB := Aside0.mk hb1
 clear hr0 hb1
 rw [impl_FindClaim.f] at h
 injection h with h
 generalize idxF84 (fun x => x.f0 == a1) l0 0 = rr at hcon h
 subst h
 go_enter Try.func80, Try.ntmps80
 go_wp2_with (go_at_call 147; refine hcon.mono ?_; rintro e w' ⟨rfl, hb'⟩)
 go_ret
 exact ⟨rfl, HB.out.trans (hb'.mono (by simp))⟩

/-! ### impl_Claim_122: function 122 -/
def impl_Claim_122.f (l0 : List (S84)) : Option ((List (S84))) := (some (([] : List (S84)) : List (S84))).bind fun y119 => (if y119.length + l0.length < 3518437208883 then (some (y119 ++ l0)) else (none))
set_option maxHeartbeats 8000000 in
set_option maxRecDepth 100000 in
theorem impl_Claim_122.calls (A0 : Option Addr) (c0 : Nat) (l0 : List (S84)) (r : List (S84)) (w : World) (hr0 : Kd.C k84 w A0 l0.length l0) (hc0 : l0.length ≤ c0) (h : impl_Claim_122.f l0 = some r) :
  Calls Try.prog 122 #[.slice A0 l0.length c0] w fun e w' => ∃ v0_ : Value, e = .returned (v0_) ∧ Kd.R k84 84 w' w.heap.size (fun _ => True) v0_ r ∧ Below w.heap.size w w' := by
 have q_ : ∀ (w : World) (a : Option Addr) (n c n' c' : Nat), (binOp .eql 80 (.slice a n c) (.slice none n' c')).run Try.prog w = .ok (.bool a.isNone) w := fun w a n c n' c' => Lib.run_eql_slice_nil w _ _ a n c n' c' Try.underlying80
 cases A0 with
 | none =>
  have hl : l0 = [] := by
   cases l0 with
   | nil => rfl
   | cons x xs => obtain ⟨ad, he, _⟩ := hr0.2.2 (by simp); cases he
  subst hl
  obtain rfl : r = [] := by
   have h2 : some ([] : List (S84)) = some r := h
   injection h2 with h2
   exact h2.symm
  clear h hr0 hc0
  go_enter Try.func122, Try.ntmps122
  go_wp2
  go_ret
  exact ⟨_, rfl, Kd.R_nil _ _ _ _ _, Below.refl _ _⟩
 | some ad =>
  have HR0 := Aside0.mk hr0
  have HC0 := Aside0.mk hc0
  clear hr0 hc0
  have HB := Aside0.mk (Below.refl w.heap.size w)
  have H : ((some (([] : List (S84)) : List (S84))).bind fun y119 => (if y119.length + l0.length < 3518437208883 then (some (y119 ++ l0)) else (none))) = some r := h
  clear h
  obtain ⟨y119, hy119⟩ : ∃ y_ : List (S84), y_ = (([] : List (S84))) := ⟨_, rfl⟩
  replace H : (if y119.length + l0.length < 3518437208883 then (some (y119 ++ l0)) else (none)) = some r := by first | (rw [hy119]; with_reducible exact H) | (have H2_ := (Option.bind_some _ _).symm.trans H; rw [hy119]; with_reducible exact H2_) | (have H2_ := (Option.bind_some _ _).symm.trans H; with_reducible exact H2_) | with_reducible exact H | (rw [hy119]; exact H) | exact H
  have Ny119 := Aside0.mk hy119
  clear hy119
  by_cases c2 : y119.length + l0.length < 3518437208883
  ·rw [if_pos c2] at H
   have LMc2 := Aside0.mk c2
   clear c2
   obtain ⟨y122, hy122⟩ : ∃ y_ : List (S84), y_ = (y119 ++ l0) := ⟨_, rfl⟩
   replace H : (some y122) = some r := by first | (rw [hy122]; with_reducible exact H) | (have H2_ := (Option.bind_some _ _).symm.trans H; rw [hy122]; with_reducible exact H2_) | (have H2_ := (Option.bind_some _ _).symm.trans H; with_reducible exact H2_) | with_reducible exact H | (rw [hy122]; exact H) | exact H
   have Ny122 := Aside0.mk hy122
   clear hy122
   obtain rfl := Option.some.inj H
   go_enter Try.func122, Try.ntmps122
   go_wp2_with (first | ((with_reducible refine gate_dst (N := 5) rfl ?_); refine Kd.R_lit k84 _ 84 ?hg (N := 5) ?hd (xs := ([] : List (S84))) (inner := []) (ok := fun _ => True) (okp := fun _ => True) ?hr ?hp (fun _ hk => hk) trivial (Below.refl _ _) (Nat.le_refl _) (by simp) ?_; (case hd => rfl); (case hg => rfl); (case hr => first | (go_simp; done) | (go_simp; rfl)); (case hp => exact (Reps.none _ _)); intro v120 w3 ho4 hb hg_ hnew_; clear hg_ hnew_; (first | rw [← Ny119.out] at ho4 | (simp only [Int.reduceToNat] at ho4; rw [← Ny119.out] at ho4)); have n0_ := Aside0.mk (Kd.R_lower ho4 (below_size (qB HB))); have n1_ := Aside0.mk (below_step (qB HB) hb); clear HB; have HO121 := n0_; have HB := n1_; clear n0_ n1_; clear hb ho4) | ((with_reducible refine gate_builtin (b := .append) (xs := #[.tmp 5, .tmp 6]) rfl ?_); at_builtin; refine Kd.R_append_rows k84 (w0 := w) w.heap.size rfl (.tmp 5) (.tmp 6) 80 84 (.agg #[(.int .i64 0), (.int .i64 0), (.int .i64 0), (.int .i64 0), (.int .i64 0)]) 40 rfl Try.underlying80 info84 rfl (by decide) (by omega) v120 y119 l0 _ _ _ (fun _ => True) (fun _ => False) rfl rfl ?aO ?aR (fun _ _ h => h) (fun _ h => h.elim) ?aF ?aB ?aS ?aL ?_; (case aR => exact qC (Kd.C_below HR0.out HB.out)); (case aB => exact (qB HB)); (case aF => exact (fun _ _ => trivial)); (case aO => exact (qR HO121)); (case aS => exact (below_size (qB HB))); (case aL => have := LMc2.out; omega); intro v123 w5 ho hb hg hat; rw [← Ny122.out] at ho; have n0_ := Aside0.mk (hb); have n1_ := Aside0.mk (ho); clear HB; clear HO121; have HB := n0_; have HO124 := n1_; clear n0_ n1_; clear ho hb hg hat))
   go_ret
   exact ⟨_, by first | rfl | (simp [errW_none, errW_some] <;> rfl) | (simp [*, errW_none, errW_some] <;> rfl), by (with_reducible repeat first | apply rA | apply rN | apply rD); exact HO124.out, by repeat (first | (with_reducible first | exact HB.out | apply bA | apply bN | apply bD) | exact HB.out)⟩
  ·rw [if_neg c2] at H
   exact absurd H (by simp)


/-! ### impl_Claim_123: function 123 -/
def impl_Claim_123.f (l0 : List (S84)) (a1_0 a1_1 a1_2 a1_3 a1_4 : Int) : Option (Bool) := some (decide (idxF84 (fun y => y.f1 == a1_1 && y.f2 == a1_2) l0 0 ≥ 0))
set_option maxRecDepth 100000 in
theorem impl_Claim_123_pred (a1_0 a1_1 a1_2 a1_3 a1_4 : Int) (g : Nat) (w : World) (hblk : w.heap[g]? = some (.cells #[.int .i64 a1_0, .int .i64 a1_1, .int .i64 a1_2, .int .i64 a1_3, .int .i64 a1_4] 84 (0, 0))) :
  ∀ (W : World) (x : S84), Below w.heap.size w W → Calls Try.prog 124 (#[.agg #[.int .i64 x.f0, .int .i64 x.f1, .int .i64 x.f2, .int .i64 x.f3, .int .i64 x.f4]] ++ #[.pointer (some ⟨g, 0, none⟩)]) W fun e w' => e = .returned (.bool (x.f1 == a1_1 && x.f2 == a1_2)) ∧ Below w.heap.size w w' := fun W x hb => by
 have hg : g < w.heap.size := blk_lt hblk
 have hblk2 : W.heap[g]? = some (.cells #[.int .i64 a1_0, .int .i64 a1_1, .int .i64 a1_2, .int .i64 a1_3, .int .i64 a1_4] 84 (0, 0)) := (hb.block g hg).trans hblk
 have hc1 : W.cell? ⟨g, 1, none⟩ = some (.int .i64 a1_1) := blk_cell hblk2 1
 have hc2 : W.cell? ⟨g, 2, none⟩ = some (.int .i64 a1_2) := blk_cell hblk2 2
 have hgW : g < W.heap.size := Nat.lt_of_lt_of_le hg hb.size
 have hne : g ≠ W.heap.size := by omega
 clear hblk hblk2
 show Calls Try.prog 124 #[.agg #[.int .i64 x.f0, .int .i64 x.f1, .int .i64 x.f2, .int .i64 x.f3, .int .i64 x.f4], .pointer (some ⟨g, 0, none⟩)] W _
 have hu := Try.underlying84
 go_enter Try.func124, Try.ntmps124
 go_wp2
 all_goals (go_ret; exact ⟨by simp_all, by first | exact hb | exact hb.alloc hb.size _ | (exact Below.trans hb (by simp))⟩)
set_option maxHeartbeats 2000000 in
set_option maxRecDepth 100000 in
theorem impl_Claim_123.calls (A0 : Option Addr) (c0 : Nat) (l0 : List (S84)) (a1_0 a1_1 a1_2 a1_3 a1_4 : Int) (r : Bool) (w : World) (hr0 : Kd.C k84 w A0 l0.length l0) (hc0 : l0.length ≤ c0) (h : impl_Claim_123.f l0 a1_0 a1_1 a1_2 a1_3 a1_4 = some r) {g : Nat} (hblk : w.heap[g]? = some (.cells #[.int .i64 a1_0, .int .i64 a1_1, .int .i64 a1_2, .int .i64 a1_3, .int .i64 a1_4] 84 (0, 0)) := by first | exact Aside0.out (by assumption) | ((with_reducible repeat first | refine blk_drewN ?_ _ | refine blk_drew ?_ | refine blk_alloc ?_ _); exact Aside0.out (by assumption))) :
  Calls Try.prog 123 #[.slice A0 l0.length c0, .func (.func 124) #[] #[.pointer (some ⟨g, 0, none⟩)]] w fun e w' => e = .returned (.bool r) ∧ Below w.heap.size w w' := by
 have eg : ∀ args w, (callFunc 124 args).run Try.prog w = .ok (.enter 124 args) w := enters_of Try.func124 (by kernel_rfl) rfl
 have hcon := idxF84_calls (fun y => y.f1 == a1_1 && y.f2 == a1_2) 124 #[.pointer (some ⟨g, 0, none⟩)] eg A0 c0 l0 w hr0 hc0 (impl_Claim_123_pred a1_0 a1_1 a1_2 a1_3 a1_4 g w hblk)
 clear hr0 hblk
 rw [impl_Claim_123.f] at h
 injection h with h
 generalize idxF84 (fun y => y.f1 == a1_1 && y.f2 == a1_2) l0 0 = rr at hcon h
 subst h
 go_enter Try.func123, Try.ntmps123
 go_wp2_with (go_at_call 147; refine hcon.mono ?_; rintro e w' ⟨rfl, hb'⟩)
 go_ret
 exact ⟨rfl, hb'⟩

-- NOT PRINTED: function 173 (impl_Claim_173)

/-! ### impl_Claim_125: function 125 -/
open Go.Proofs.Ytppgealmedaihaa.Ins
def impl_Claim_125.f (l0 : List S84) (a1 : Int) (l2 : List S84) : Option (List S84) := if 0 ≤ a1 ∧ a1 ≤ (l0.length : Int) ∧ 0 < l2.length ∧ l0.length + l2.length ≤ 4000000 then some (l0.take a1.toNat ++ l2 ++ l0.drop a1.toNat) else none
theorem flat84 : Flat k84 := fun _ _ _ _ _ _ _ _ h => h
set_option maxHeartbeats 4000000 in
set_option maxRecDepth 100000 in
theorem ins84_end (P0_ : Nat → Prop) (u9000_ : Value) (l0 : List S84) (P2_ : Nat → Prop) (u9001_ : Value) (l2 : List S84) (w0 w : World) (hB : Below w0.heap.size w0 w) (ho0 : Kd.R k84 84 w w0.heap.size P0_ u9000_ l0) (ho2 : Kd.R k84 84 w w0.heap.size P2_ u9001_ l2) (a1 : Int) (ha1 : a1 = (l0.length : Int)) (hm : 0 < l2.length) (hbig : l0.length + l2.length ≤ 4000000) :
 Calls Try.prog 125 #[u9000_, .int .i64 a1, u9001_] w fun e w' => ∃ v0_ : Value, e = .returned v0_ ∧ Kd.R k84 84 w' w0.heap.size (fun k_ => ((P0_ k_ ∨ P2_ k_) ∨ w.heap.size ≤ k_)) v0_ (l0 ++ l2) ∧ Below w0.heap.size w0 w' ∧ Kept w w' (fun k_ => (P0_ k_ ∨ P2_ k_)) := by
 have hu29 := Try.underlying80
 have hz1 : ((l2.length : Int) == 0) = false := by rw [beq_eq_false_iff_ne]; omega
 have hself : (a1 == (l0.length : Int)) = true := beq_iff_eq.2 ha1
 obtain ⟨vb, vc, rfl, hvb, hvlt, vcells, hvblk⟩ := Kd.R_form ho2 hm
 obtain ⟨_, _, hC2⟩ := Kd.R_reads' ho2
 have HC2 := Aside0.mk hC2
 have HO0 := Aside0.mk (Kd.R_mono (ok' := fun k_ => ((P0_ k_ ∨ P2_ k_) ∨ w.heap.size ≤ k_)) ho0 (fun k_ hk => .inl (.inl hk)))
 have HOK := Aside0.mk ho0.1
 have HB := Aside0.mk hB
 have HL := Aside0.mk hbig
 clear hC2 hvblk ho2 hB hbig hvb hvlt
 obtain ⟨A0, c0, rfl, hc0, hC0⟩ := Kd.R_reads ho0
 obtain ⟨i0, hi0, _, hsz, _⟩ := info_parts info84
 obtain ⟨cv, hcut⟩ : ∃ cv : Value, ∀ W : World, (Instr.slice 80 (.slice A0 l0.length c0) (some (.int .i64 a1)) none none).run Try.prog W = .ok cv W := ⟨_, cut_from (P := Try.prog) 80 84 .i64 Try.underlying80 hi0 5 hsz A0 l0.length c0 a1 (by omega) (by omega)⟩
 clear ho0 hC0 ha1
 go_enter Try.func125, Try.ntmps125
 go_wp2_with (first | (at_builtin; refine Kd.R_append_rows k84 (Rr := k84.K w) (w0 := w0) w0.heap.size rfl (.tmp 23) (.tmp 24) 80 84 (.agg #[(.int .i64 0), (.int .i64 0), (.int .i64 0), (.int .i64 0), (.int .i64 0)]) 40 rfl Try.underlying80 info84 rfl (by decide) (by decide) (.slice A0 l0.length c0) l0 l2 (some ⟨vb, 0, none⟩) l2.length vc (fun k_ => ((P0_ k_ ∨ P2_ k_) ∨ w.heap.size ≤ k_)) (fun _ => False) rfl rfl HO0.out HC2.out (fun _ _ h => h) (fun _ h => h.elim) (fun k hk => .inr hk) HB.out HB.out.size (by have := HL.out; omega) ?_; intro v1 w1 h1 h2 hg hat) | simp only [hcut])
 go_ret
 exact ⟨v1, rfl, h1, h2, Kept.of_grown hg (Kept.refl w _) (fun k hk => .inl (.inl (HOK.out k hk)))⟩
set_option maxHeartbeats 400000 in
set_option maxRecDepth 100000 in
theorem ins84_shift (g c i vb m vc : Nat) (cs vs : List Value) (cur : Array Value) (n : Nat) (w : World) (vcells : Array Value) (hi : i < n) (hm : 0 < m) (hroom : n + m ≤ c) (hbig : n + m ≤ 4000000) (hcm : c ≤ maxLen) (hvb : vb ≠ g)
 (hg : w.heap[g]? = some (.cells cur 84 (0, 0))) (hv : w.heap[vb]? = some (.cells vcells 84 (0, 0))) (hcl : cs.length = n * 5) (hvl : vs.length = m * 5) (hcs : cur.toList.take (n * 5) = cs) (hvs : vcells.toList.take (m * 5) = vs) (hsz : cur.size = c * 5)
 (h1c : ∀ v ∈ cs, v.oneCell' = true) (h1v : ∀ v ∈ vs, v.oneCell' = true) (hv0 : vcells.size = vc * 5) :
 Calls Try.prog 125 #[.slice (some ⟨g, 0, none⟩) n c, .int .i64 (i : Int), .slice (some ⟨vb, 0, none⟩) m vc] w fun e w' => e = .returned (.slice (some ⟨g, 0, none⟩) (n + m) c) ∧ w' = (w.drew.setCells g ((i + m) * 5) (cs.drop (i * 5))).setCells g (i * 5) vs := by
 have hu29 := Try.underlying80
 obtain ⟨i0, hi0, _, hisz, _⟩ := info_parts info84
 have hinf : (Try.prog.info? 84).map (·.size) = some 5 := by rw [hi0]; simp [hisz]
 have hcm' : c ≤ 9223372036854775807 := by simpa only [maxLen] using hcm
 have hov : ∀ o lb cb, (callFunc 173 #[.slice (some ⟨vb, 0, none⟩) m vc, .slice (some ⟨g, o, none⟩) lb cb]).run Try.prog w = .ok (.value (.bool false)) w := fun o lb cb => by
  rw [run_callFunc_extern Try.func173 (by kernel_rfl) (by kernel_rfl) (by kernel_rfl) (e := Extern.SlicesOverlaps.overlaps #[80, 80] #[4]) (by kernel_rfl),
   Lib.run_overlaps_apart w 80 4 84 Try.underlying80 5 (fun w => by kernel_rfl) ⟨vb, 0, none⟩ ⟨g, o, none⟩ m vc lb cb hvb 84 84 vcells.size cur.size (by simp [World.shape?, hv]) (by simp [World.shape?, hg]) (by omega) (blk_frozen hv 0) (blk_frozen hv _)]
  rfl
 have hdl : (cs.drop (i * 5)).length = (n - i) * 5 := by rw [List.length_drop, hcl, Nat.sub_mul]
 have hcell : ∀ j v, cs[j]? = some v → w.cell? ⟨g, j, none⟩ = some v := fun j v hj => by
  rw [blk_cell hg j]
  rw [← hcs, List.getElem?_take] at hj
  split at hj
  ·simpa using hj
  ·cases hj
 have hvcell : ∀ j v, vs[j]? = some v → w.cell? ⟨vb, j, none⟩ = some v := fun j v hj => by
  rw [blk_cell hv j]
  rw [← hvs, List.getElem?_take] at hj
  split at hj
  ·simpa using hj
  ·cases hj
 have hsp : ∀ j, j < c * 5 → (w.cell? ⟨g, j, none⟩).isSome = true := fun j hj => by
  rw [blk_cell hg j, Array.getElem?_eq_getElem (by omega)]; rfl
 have hcp1 : ∀ ty dc sc, (Builtin.copy_ #[80, 80] ty #[.slice (some ⟨g, (i + m) * 5, none⟩) (n + m - (i + m)) dc, .slice (some ⟨g, i * 5, none⟩) (n + m - i) sc]).run Try.prog w.drew = .ok (goInt (Nat.min (n + m - i) (n + m - (i + m)))) (w.drew.setCells g ((i + m) * 5) (cs.drop (i * 5))) := fun ty dc sc =>
  copy_run w.drew 80 80 ty 84 g ((i + m) * 5) (n + m - (i + m)) dc ⟨g, i * 5, none⟩ (n + m - i) sc 5 (cs.drop (i * 5)) Try.underlying80 hinf (by rw [hdl, show Nat.min (n + m - i) (n + m - (i + m)) = n - i by simp only [Nat.min_def]; split <;> omega])
   (fun j v hj => by rw [Addr.add_lit]; exact hcell (i * 5 + j) v (by rwa [List.getElem?_drop] at hj))
   (fun j hj => hsp _ (by rw [hdl] at hj; omega)) (fun j hj => blk_frozen (w := w.drew) hg _) (fun v hv => h1c v (List.mem_of_mem_drop hv))
 obtain ⟨W1, hW1⟩ : ∃ W1, W1 = w.drew.setCells g ((i + m) * 5) (cs.drop (i * 5)) := ⟨_, rfl⟩
 have hsp1 : ∀ k, k < c * 5 → (W1.cell? ⟨g, k, none⟩).isSome = true := fun k hk => by
  rw [hW1]
  exact isSome_setCells g _ _ w.drew (fun j hj => hsp ((i + m) * 5 + j) (by rw [hdl] at hj; omega)) _ (hsp k hk)
 have hcp2 : ∀ (W : World), (∀ x, W.cell? x = W1.cell? x) → (∀ x, W.frozen? x = W1.frozen? x) → ∀ ty dc, (Builtin.copy_ #[80, 80] ty #[.slice (some ⟨g, i * 5, none⟩) (n + m - i) dc, .slice (some ⟨vb, 0, none⟩) m vc]).run Try.prog W = .ok (goInt (Nat.min m (n + m - i))) (W.setCells g (i * 5) vs) := fun W hWc hWf ty dc =>
  copy_run W 80 80 ty 84 g (i * 5) (n + m - i) dc ⟨vb, 0, none⟩ m vc 5 vs Try.underlying80 hinf (by rw [hvl, show Nat.min m (n + m - i) = m by simp only [Nat.min_def]; split <;> omega])
   (fun j v hj => by
    rw [Addr.add_lit, hWc, hW1, World.cell?_setCells_out g _ _ _ _ (fun h _ => absurd h hvb), Nat.zero_add]
    exact hvcell j v hj)
   (fun j hj => by rw [hWc]; exact hsp1 _ (by omega)) (fun j hj => by rw [hWf, hW1, World.frozen?_setCells]; exact blk_frozen (w := w.drew) hg _) h1v
 rw [← hW1] at hcp1
 have hz1 : ¬ ((m : Int) = 0) := by omega
 have hz2 : ¬ ((i : Int) = (n : Int)) := by omega
 have hb1 : (0 : Int) ≤ (i : Int) + (m : Int) := by omega
 have hin : i ≤ n := by omega
 have htn : ((i : Int) + (m : Int)).toNat = i + m := by omega
 have hb2 : ¬ (c = i + m) := by omega
 have hb3 : (i : Int) ≤ (n : Int) + (m : Int) := by omega
 have hb4 : ¬ (c = i) := by omega
 have hw1 : IntKind.i64.wrap ((i : Int) + (m : Int)) = (i : Int) + (m : Int) := by rw [IntKind.wrap_i64]; omega
 clear hinf hi0 hdl hg hv hcl hvl hcs hvs hsz h1c h1v hv0 hvb hcm hbig hisz hcell hvcell hsp hsp1
 have mixed : Try.prog.follows .mixedOrders = true := by rfl
 go_enter Try.func125, Try.ntmps125
 go_wp2_with (simp only [hov])
 go_region_law_o (refine step_copy_runI rfl _ _ 80 80 rfl _ _ (by simp [Act.eval, Act.put]) (by simp [Act.eval, Act.put]) (hcp1 _ _ _) ?_)
 go_wp2_with (at_builtin; refine wpList_copy_runI _ rfl _ _ 80 80 rfl _ _ rfl rfl (hcp2 _ (fun _ => rfl) (fun _ => rfl) _ _) ?_)
 go_ret
 first | exact ⟨rfl, rfl⟩ | exact ⟨rfl, by rw [hW1]⟩
set_option maxHeartbeats 4000000 in
set_option maxRecDepth 100000 in
theorem ins84_grow (g c i vb m vc : Nat) (cs vs : List Value) (cur : Array Value) (n : Nat) (w : World) (vcells : Array Value) (hi : i < n) (hm : 0 < m) (hnc : n ≤ c) (hroom : c < n + m) (hbig : n + m ≤ 4000000)
 (hg : w.heap[g]? = some (.cells cur 84 (0, 0))) (hv : w.heap[vb]? = some (.cells vcells 84 (0, 0))) (hcl : cs.length = n * 5) (hvl : vs.length = m * 5) (hcs : cur.toList.take (n * 5) = cs) (hvs : vcells.toList.take (m * 5) = vs)
 (h1c : ∀ v ∈ cs, v.oneCell' = true) (h1v : ∀ v ∈ vs, v.oneCell' = true) :
 Calls Try.prog 125 #[.slice (some ⟨g, 0, none⟩) n c, .int .i64 (i : Int), .slice (some ⟨vb, 0, none⟩) m vc] w fun e w' => ∃ (G : Nat) (ROW : List Value), n + m ≤ G ∧ G ≤ maxLen ∧ ROW.length = G * 5 ∧ ROW.take (i * 5) = cs.take (i * 5) ∧
  e = .returned (.slice (some ⟨w.heap.size, 0, none⟩) (n + m) G) ∧ w' = (((w.alloc (.cells ROW.toArray 84)).drew.setCells w.heap.size (i * 5) vs).drew).setCells w.heap.size ((i + m) * 5) (cs.drop (i * 5)) := by
 have hu29 := Try.underlying80
 have hu3 := Try.underlying3
 obtain ⟨i0, hi0, hz0, hisz, hzb⟩ := info_parts info84
 have hinf : (Try.prog.info? 84).map (·.size) = some 5 := by rw [hi0]; simp [hisz]
 have hdl : (cs.drop (i * 5)).length = (n - i) * 5 := by rw [List.length_drop, hcl, Nat.sub_mul]
 have hgw : g < w.heap.size := blk_lt hg
 have hvw : vb < w.heap.size := blk_lt hv
 have hcell : ∀ j v, cs[j]? = some v → w.cell? ⟨g, j, none⟩ = some v := fun j v hj => by
  rw [blk_cell hg j]
  rw [← hcs, List.getElem?_take] at hj
  split at hj
  ·simpa using hj
  ·cases hj
 have hvcell : ∀ j v, vs[j]? = some v → w.cell? ⟨vb, j, none⟩ = some v := fun j v hj => by
  rw [blk_cell hv j]
  rw [← hvs, List.getElem?_take] at hj
  split at hj
  ·simpa using hj
  ·cases hj
 have hkk : (n : Int) + (m : Int) - (i : Int) = ((n + m - i : Nat) : Int) := by omega
 have hik : i + (n + m - i) = n + m := by omega
 have hold : (Builtin.firstCells i0.size i (.slice (some ⟨g, 0, none⟩) i c)).run Try.prog w.drew = .ok (cs.take (i * 5)).toArray w.drew := by
  rw [hisz]
  exact run_firstCells_some w.drew 5 i ⟨g, 0, none⟩ i c (cs.take (i * 5)) (by rw [List.length_take]; omega) (fun j v hj => by
   rw [Addr.add_lit, Nat.zero_add]
   rw [List.getElem?_take] at hj
   split at hj
   ·exact hcell j v hj
   ·cases hj)
 have hrz : ∀ ty, (Builtin.append_ #[80, 3] ty #[.slice (some ⟨g, 0, none⟩) i c, .int .i64 ((n : Int) + (m : Int) - (i : Int))]).run Try.prog w =
   .ok (.slice (some ⟨w.heap.size, 0, none⟩) (n + m) (grownCap w (n + m) c 84)) (w.drew.alloc (.cells ((cs.take (i * 5)).toArray ++ Builtin.zeroCells ((.agg #[(.int .i64 0), (.int .i64 0), (.int .i64 0), (.int .i64 0), (.int .i64 0)]) : Value).cells (n + m - i) ++ Builtin.zeroCells ((.agg #[(.int .i64 0), (.int .i64 0), (.int .i64 0), (.int .i64 0), (.int .i64 0)]) : Value).cells (grownCap w (n + m) c 84 - (n + m))) 84)) := fun ty => by
  have h := Lib.run_append_grow_zeros w 80 3 ty 84 i0 _ .i64 .i64 Try.underlying80 Try.underlying3 hi0 hz0 (some ⟨g, 0, none⟩) i c (cs.take (i * 5)) hold (n + m - i) (by omega) (by omega) (by omega) (by omega) (by rw [hzb]; omega) (by rw [hzb, hik]; exact growslice_fits hroom (by omega))
  rw [hik] at h
  rw [hkk]
  exact h
 have hGn : n + m ≤ grownCap w (n + m) c 84 := grownCap_ge w _ _ _
 have hGm : grownCap w (n + m) c 84 ≤ maxLen := grownCap_le_maxLen w (n + m) c 84 (by unfold maxLen; omega)
 obtain ⟨G, hG⟩ : ∃ G, G = grownCap w (n + m) c 84 := ⟨_, rfl⟩
 rw [← hG] at hrz hGn hGm
 obtain ⟨ROW, hROW⟩ : ∃ ROW : List Value, ROW = cs.take (i * 5) ++ (Builtin.zeroCells ((.agg #[(.int .i64 0), (.int .i64 0), (.int .i64 0), (.int .i64 0), (.int .i64 0)]) : Value).cells (n + m - i)).toList ++ (Builtin.zeroCells ((.agg #[(.int .i64 0), (.int .i64 0), (.int .i64 0), (.int .i64 0), (.int .i64 0)]) : Value).cells (G - (n + m))).toList := ⟨_, rfl⟩
 have hRa : (cs.take (i * 5)).toArray ++ Builtin.zeroCells ((.agg #[(.int .i64 0), (.int .i64 0), (.int .i64 0), (.int .i64 0), (.int .i64 0)]) : Value).cells (n + m - i) ++ Builtin.zeroCells ((.agg #[(.int .i64 0), (.int .i64 0), (.int .i64 0), (.int .i64 0), (.int .i64 0)]) : Value).cells (G - (n + m)) = ROW.toArray := by
  rw [hROW, ← Array.toList_inj]
  simp
 rw [hRa] at hrz
 have hzs : ∀ k, (Builtin.zeroCells ((.agg #[(.int .i64 0), (.int .i64 0), (.int .i64 0), (.int .i64 0), (.int .i64 0)]) : Value).cells k).toList.length = k * 5 := fun k => by rw [Array.length_toList, size_zeroCells]; rfl
 have hRl : ROW.length = G * 5 := by
  rw [hROW, List.length_append, List.length_append, hzs, hzs, List.length_take]
  omega
 have hRt : ROW.take (i * 5) = cs.take (i * 5) := by
  rw [hROW, List.append_assoc]
  exact List.take_left' (by rw [List.length_take]; omega)
 obtain ⟨W1, hW1⟩ : ∃ W1, W1 = w.drew.alloc (.cells ROW.toArray 84) := ⟨_, rfl⟩
 rw [← hW1] at hrz
 have hN : ∀ j, j < G * 5 → (W1.cell? ⟨w.heap.size, j, none⟩).isSome = true := fun j hj => by
  rw [hW1, World.cell?_alloc_at (w := w.drew) ROW.toArray _ w.heap.size j rfl, Array.getElem?_eq_getElem (by simpa [hRl] using hj)]; rfl
 have hNf : ∀ j, W1.frozen? ⟨w.heap.size, j, none⟩ = false := fun j => by rw [hW1]; exact World.frozen?_alloc_at (w := w.drew) ROW.toArray _ w.heap.size j rfl
 have hOb : ∀ j v, w.cell? ⟨g, j, none⟩ = some v → W1.cell? ⟨g, j, none⟩ = some v := fun j v h => by rw [hW1, World.cell?_alloc_past (w := w.drew) _ g j hgw]; exact h
 have hOv : ∀ j v, w.cell? ⟨vb, j, none⟩ = some v → W1.cell? ⟨vb, j, none⟩ = some v := fun j v h => by rw [hW1, World.cell?_alloc_past (w := w.drew) _ vb j hvw]; exact h
 have hcpA : ∀ (W : World), (∀ x, W.cell? x = W1.cell? x) → (∀ x, W.frozen? x = W1.frozen? x) → ∀ ty dc, (Builtin.copy_ #[80, 80] ty #[.slice (some ⟨w.heap.size, i * 5, none⟩) (n + m - i) dc, .slice (some ⟨vb, 0, none⟩) m vc]).run Try.prog W = .ok (goInt (Nat.min m (n + m - i))) (W.setCells w.heap.size (i * 5) vs) := fun W hWc hWf ty dc =>
  copy_run W 80 80 ty 84 w.heap.size (i * 5) (n + m - i) dc ⟨vb, 0, none⟩ m vc 5 vs Try.underlying80 hinf (by rw [hvl, show Nat.min m (n + m - i) = m by simp only [Nat.min_def]; split <;> omega])
   (fun j v hj => by rw [Addr.add_lit, hWc, Nat.zero_add]; exact hOv _ v (hvcell j v hj))
   (fun j hj => by rw [hWc]; exact hN (i * 5 + j) (by omega)) (fun j hj => by rw [hWf]; exact hNf _) h1v
 have hG63 : G ≤ 9223372036854775807 := by simpa only [maxLen] using hGm
 have hGi : ¬ (G = i) := by omega
 have hGim : ¬ (G = i + m) := by omega
 have hci : ¬ (c = i) := by omega
 have hbN : g ≠ w.heap.size := by omega
 have hcpB : ∀ (W : World), (∀ x, W.cell? x = (W1.setCells w.heap.size (i * 5) vs).cell? x) → (∀ x, W.frozen? x = (W1.setCells w.heap.size (i * 5) vs).frozen? x) → ∀ ty dc sc, (Builtin.copy_ #[80, 80] ty #[.slice (some ⟨w.heap.size, (i + m) * 5, none⟩) (n + m - (i + m)) dc, .slice (some ⟨g, i * 5, none⟩) (n - i) sc]).run Try.prog W = .ok (goInt (Nat.min (n - i) (n + m - (i + m)))) (W.setCells w.heap.size ((i + m) * 5) (cs.drop (i * 5))) := fun W hWc hWf ty dc sc =>
  copy_run W 80 80 ty 84 w.heap.size ((i + m) * 5) (n + m - (i + m)) dc ⟨g, i * 5, none⟩ (n - i) sc 5 (cs.drop (i * 5)) Try.underlying80 hinf (by rw [hdl, show Nat.min (n - i) (n + m - (i + m)) = n - i by simp only [Nat.min_def]; split <;> omega])
   (fun j v hj => by
    rw [Addr.add_lit, hWc, World.cell?_setCells_out _ _ _ _ _ (fun h _ => absurd h hbN)]
    exact hOb _ v (hcell (i * 5 + j) v (by rwa [List.getElem?_drop] at hj)))
   (fun j hj => by rw [hWc]; exact isSome_setCells _ _ _ _ (fun t ht => hN (i * 5 + t) (by omega)) _ (hN ((i + m) * 5 + j) (by rw [hdl] at hj; omega)))
   (fun j hj => by rw [hWf, World.frozen?_setCells]; exact hNf _) (fun v hv => h1c v (List.mem_of_mem_drop hv))
 subst hW1
 have hE1 : ∀ x, ((w.alloc (.cells ROW.toArray 84)).drew).cell? x = (w.drew.alloc (.cells ROW.toArray 84)).cell? x := fun x => rfl
 have hE2 : ∀ x, ((w.alloc (.cells ROW.toArray 84)).drew).frozen? x = (w.drew.alloc (.cells ROW.toArray 84)).frozen? x := fun x => rfl
 have hF1 : ∀ x, (((w.alloc (.cells ROW.toArray 84)).drew.setCells w.heap.size (i * 5) vs).drew).cell? x = ((w.drew.alloc (.cells ROW.toArray 84)).setCells w.heap.size (i * 5) vs).cell? x := fun x => rfl
 have hF2 : ∀ x, (((w.alloc (.cells ROW.toArray 84)).drew.setCells w.heap.size (i * 5) vs).drew).frozen? x = ((w.drew.alloc (.cells ROW.toArray 84)).setCells w.heap.size (i * 5) vs).frozen? x := fun x => rfl
 have hz1 : ¬ ((m : Int) = 0) := by omega
 have hz2 : ¬ ((i : Int) = (n : Int)) := by omega
 have hz3 : (c : Int) < (n : Int) + (m : Int) := by omega
 have hw1 : IntKind.i64.wrap ((i : Int) + (m : Int)) = (i : Int) + (m : Int) := by rw [IntKind.wrap_i64]; omega
 have hb1 : (0 : Int) ≤ (i : Int) + (m : Int) := by omega
 have hin : i ≤ n := by omega
 have htn : ((i : Int) + (m : Int)).toNat = i + m := by omega
 have hb3 : (i : Int) ≤ (n : Int) := by omega
 have mixed : Try.prog.follows .mixedOrders = true := by rfl
 have HX := Aside0.mk (And.intro hGn (And.intro hGm (And.intro hRl hRt)))
 clear hkk hik hold hROW hG hRa hinf hi0 hz0 hisz hzb hdl hg hv hcl hvl hcs hvs h1c h1v hcell hvcell hzs hRl hRt hN hNf hOb hOv hGm
 go_enter Try.func125, Try.ntmps125
 go_wp2_with (first
  | (at_builtin; refine Lib.wpList_append_run _ rfl _ _ _ _ rfl _ _ rfl rfl _ _ (hrz _) ?_)
  | (at_builtin; refine wpList_copy_runI _ rfl _ _ 80 80 rfl _ _ rfl rfl (hcpA _ hE1 hE2 _ _) ?_)
  | (at_builtin; refine wpList_copy_runI _ rfl _ _ 80 80 rfl _ _ rfl rfl (hcpB _ (fun _ => rfl) (fun _ => rfl) _ _ _) ?_))
 go_region_law_o (refine step_copy_runI rfl _ _ 80 80 rfl (.slice (some ⟨w.heap.size, (i + m) * 5, none⟩) (n + m - (i + m)) (G - (i + m))) (.slice (some ⟨g, i * 5, none⟩) (n - i) (c - i)) (by simp [Act.eval, Act.put]) (by simp [Act.eval, Act.put]) (hcpB _ hF1 hF2 3 (G - (i + m)) (c - i)) ?_)
 go_wp2
 go_ret
 exact ⟨G, ROW, HX.out.1, HX.out.2.1, HX.out.2.2.1, HX.out.2.2.2, rfl, rfl⟩
set_option maxHeartbeats 4000000 in
theorem impl_Claim_125.calls (P0_ : Nat → Prop) (u9000_ : Value) (l0 : List S84) (a1 : Int) (P2_ : Nat → Prop) (u9001_ : Value) (l2 : List S84) (r1 : List S84) (w0 w : World) (hB : Below w0.heap.size w0 w)
 (ho0 : Kd.R k84 84 w w0.heap.size P0_ u9000_ l0) (hp0_2 : ∀ k_, P0_ k_ → ¬ P2_ k_) (ho2 : Kd.R k84 84 w w0.heap.size P2_ u9001_ l2) (hp2_0 : ∀ k_, P2_ k_ → ¬ P0_ k_) (h : impl_Claim_125.f l0 a1 l2 = some r1) :
 Calls Try.prog 125 #[u9000_, .int .i64 a1, u9001_] w fun e w' => ∃ v0_ : Value, e = .returned v0_ ∧ Kd.R k84 84 w' w0.heap.size (fun k_ => ((P0_ k_ ∨ P2_ k_) ∨ w.heap.size ≤ k_)) v0_ r1 ∧ Below w0.heap.size w0 w' ∧ Kept w w' (fun k_ => (P0_ k_ ∨ P2_ k_)) := by
 rw [impl_Claim_125.f] at h
 by_cases hc : 0 ≤ a1 ∧ a1 ≤ (l0.length : Int) ∧ 0 < l2.length ∧ l0.length + l2.length ≤ 4000000
 ·rw [if_pos hc] at h
  injection h with h
  subst h
  obtain ⟨ha0, ha1, hm, hbig⟩ := hc
  by_cases he : a1 = (l0.length : Int)
  ·have e1 : l0.take a1.toNat ++ l2 ++ l0.drop a1.toNat = l0 ++ l2 := by
    rw [he, Int.toNat_natCast, List.take_length, List.drop_length, List.append_nil]
   rw [e1]
   exact ins84_end P0_ u9000_ l0 P2_ u9001_ l2 w0 w hB ho0 ho2 a1 he hm hbig
  ·obtain ⟨i, rfl⟩ : ∃ i : Nat, a1 = i := ⟨a1.toNat, by omega⟩
   have hi : i < l0.length := by omega
   rw [Int.toNat_natCast]
   obtain ⟨hok0, cs, hown0, hrep0⟩ := ho0
   obtain ⟨hok2, vs, hown2, hrep2⟩ := ho2
   have hbase : w0.heap.size ≤ w.heap.size := hB.size
   have h1c := reps_one hrep0 (by decide)
   have h1v := reps_one hrep2 (by decide)
   have hcl : cs.length = l0.length * 5 := hrep0.1
   have hvl : vs.length = l2.length * 5 := hrep2.1
   have hrep : Reps (k84.M w w0.heap.size (fun _ => True)) k84.sz (l0.take i ++ l2 ++ l0.drop i) (cs.take (i * k84.sz) ++ vs ++ cs.drop (i * k84.sz)) :=
    reps_ins (hrep0.imp_ (fun _ _ hp => flat84 _ _ _ _ _ _ _ _ hp)) (hrep2.imp_ (fun _ _ hp => flat84 _ _ _ _ _ _ _ _ hp)) i (by omega)
   have hlen : (l0.take i ++ l2 ++ l0.drop i).length = l0.length + l2.length := by
    rw [List.length_append, List.length_append, List.length_take, List.length_drop]; omega
   rcases hown0.2 with ⟨rfl, hn⟩ | ⟨g, c, cur, rfl, hb, hh, hnc, hcm, hsz, ht⟩
   ·omega
   rcases hown2.2 with ⟨rfl, hn⟩ | ⟨vb, vc, vcur, rfl, hvb, hvh, hvnc, hvcm, hvsz, hvt⟩
   ·omega
   have hne : vb ≠ g := fun e => hp0_2 g (hok0 g rfl) (e ▸ hok2 vb rfl)
   have hsz' : cur.toList.length = c * 5 := by rw [Array.length_toList]; exact hsz
   have hvsz' : vcur.size = vc * 5 := hvsz
   by_cases hroom : l0.length + l2.length ≤ c
   ·refine (ins84_shift g c i vb l2.length vc cs vs cur l0.length w vcur hi hm hroom hbig hcm hne hh hvh hcl hvl ht hvt hsz h1c h1v hvsz).mono ?_
    rintro e w' ⟨rfl, rfl⟩
    have hg1 : w.grownBy ((w.drew.setCells g ((i + l2.length) * 5) (cs.drop (i * 5))).setCells g (i * 5) vs) (some g) := grown_trans (grown_trans (grown_drew w _) (grown_setCells _ _ _ _)) (grown_setCells _ _ _ _)
    have hdl : (cs.drop (i * 5)).length = (l0.length - i) * 5 := by rw [List.length_drop, hcl, Nat.sub_mul]
    have hl1 : (setL cur.toList ((i + l2.length) * 5) (cs.drop (i * 5))).length = c * 5 := by rw [setL_len _ _ _ (by omega), hsz']
    have hblk := blk_setCells g 84 vs (i * 5) _ _ (blk_setCells g 84 (cs.drop (i * 5)) ((i + l2.length) * 5) w.drew cur.toList (by rw [Array.toArray_toList]; exact hh) (by omega)) (by omega)
    refine ⟨_, rfl, ?_, hB.grown hg1 hbase (fun k hk => by injection hk with hk; omega), Kept.of_grown hg1 (Kept.refl w _) (fun k hk => .inl (.inl (hok0 k hk)))⟩
    have hL := shift_list cur.toList cs vs (i * 5) (l0.length * 5) (by omega) ht (by omega)
    rw [show i * 5 + vs.length = (i + l2.length) * 5 by omega] at hL
    have hR := R_cells (d := k84) (e := 84) (base := w0.heap.size) (ok := fun k_ => ((P0_ k_ ∨ P2_ k_) ∨ w.heap.size ≤ k_)) (c := c) flat84 hb hblk (by rw [hlen]; exact hroom) hcm (by rw [setL_len _ _ _ (by omega), hl1]; rfl)
     (by rw [hlen, show (l0.length + l2.length) * k84.sz = l0.length * 5 + vs.length by rw [hvl, show k84.sz = 5 from rfl]; omega]; exact hL) hrep (.inl (.inl (hok0 g rfl)))
    rw [hlen] at hR
    exact hR
   ·refine (ins84_grow g c i vb l2.length vc cs vs cur l0.length w vcur hi hm hnc (by omega) hbig hh hvh hcl hvl ht hvt h1c h1v).mono ?_
    rintro e w' ⟨G, ROW, hGn, hGm, hRl, hRt, rfl, rfl⟩
    have hdl : (cs.drop (i * 5)).length = (l0.length - i) * 5 := by rw [List.length_drop, hcl, Nat.sub_mul]
    have hg1 : w.grownBy (((w.alloc (.cells ROW.toArray 84)).drew.setCells w.heap.size (i * 5) vs).drew.setCells w.heap.size ((i + l2.length) * 5) (cs.drop (i * 5))) none := by
     refine ⟨?_, ?_, ?_, ?_, fun k hk _ => ?_⟩
     ·rw [(os_setCells _ _ _ _).1]; exact (os_setCells _ _ _ _).1
     ·rw [(os_setCells _ _ _ _).2.1]; exact (os_setCells _ _ _ _).2.1
     ·rw [(os_setCells _ _ _ _).2.2]; exact (os_setCells _ _ _ _).2.2
     ·rw [size_setCells]
      show _ ≤ (((w.alloc (.cells ROW.toArray 84)).drew.setCells w.heap.size (i * 5) vs)).heap.size
      rw [size_setCells]
      show _ ≤ (w.alloc (.cells ROW.toArray 84)).heap.size
      simp
     ·rw [far_setCells _ k (by omega)]
      show (((w.alloc (.cells ROW.toArray 84)).drew.setCells w.heap.size (i * 5) vs)).heap[k]? = _
      rw [far_setCells _ k (by omega)]
      exact heap_alloc_old w _ hk
    have hl1 : (setL ROW (i * 5) vs).length = G * 5 := by rw [setL_len _ _ _ (by omega), hRl]
    have hblk := blk_setCells w.heap.size 84 (cs.drop (i * 5)) ((i + l2.length) * 5) ((w.alloc (.cells ROW.toArray 84)).drew.setCells w.heap.size (i * 5) vs).drew (setL ROW (i * 5) vs) (blk_setCells w.heap.size 84 vs (i * 5) (w.alloc (.cells ROW.toArray 84)).drew ROW (heap_alloc_new w _) (by omega)) (by omega)
    refine ⟨_, rfl, ?_, hB.grown hg1 hbase (fun k hk => by cases hk), Kept.of_grown hg1 (Kept.refl w _) (fun k hk => by cases hk)⟩
    have hL := grow_list ROW cs vs (i * 5) (l0.length * 5) (by omega) hcl hRt (by omega)
    rw [show i * 5 + vs.length = (i + l2.length) * 5 by omega] at hL
    have hR := R_cells (d := k84) (e := 84) (base := w0.heap.size) (ok := fun k_ => ((P0_ k_ ∨ P2_ k_) ∨ w.heap.size ≤ k_)) (c := G) flat84 hbase hblk (by rw [hlen]; exact hGn) hGm (by rw [setL_len _ _ _ (by omega), hl1]; rfl)
     (by rw [hlen, show (l0.length + l2.length) * k84.sz = l0.length * 5 + vs.length by rw [hvl, show k84.sz = 5 from rfl]; omega]; exact hL) hrep (.inr (Nat.le_refl _))
    rw [hlen] at hR
    exact hR
 ·rw [if_neg hc] at h
  cases h

end Go.Proofs.Ytppgealmedaihaa.PFnClaims
