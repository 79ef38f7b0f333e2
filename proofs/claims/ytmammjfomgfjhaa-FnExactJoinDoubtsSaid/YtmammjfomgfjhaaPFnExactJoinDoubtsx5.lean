-- The printed functions of one law and their contracts, over contracts of this session's own (hand.py).
import Derived.Test.YtmammjfomgfjhaaPFnExactJoinDoubtsx0
import Derived.Test.YtmammjfomgfjhaaLay
namespace Go.Proofs.Ytmammjfomgfjhaa.PFnExactJoinDoubts
open Go.RowKit Go.Proofs.YtmammjfomgfjhaaW.PrintWords Go.Proofs.YtmammjfomgfjhaaW.PrintLast Go.Proofs.YtmammjfomgfjhaaW.PrintMore Go.Proofs.Ytmammjfomgfjhaa.Short
attribute [local go_sem] max2_int min2_int max_two min_two max_three min_three max_four min_four   -- for this text's walks alone
set_option linter.unusedVariables false
set_option linter.unusedSimpArgs false

/-! ### laws_toIntS: function 52 -/
def laws_toIntS.l0 : Nat → List Int → List Int → Int → Option (List Int)
 | 0, _, _, _ => none
 | k + 1, x0, x3, x4 => if x4 < (x0.length : Int) then (if 0 ≤ x4 then (if x4 < (x3.length : Int) then (laws_toIntS.l0 k x0 (x3.set (x4 : Int).toNat (rd x0 x4)) (wrap64 (x4 + 1))) else (none)) else (none)) else (some x3)
def laws_toIntS.f (k : Nat) (l0 : List Int) : Option (List Int) := if 0 ≤ (l0.length : Int) then (if ((l0.length : Int) : Int).toNat ≤ 35184372088832 then (laws_toIntS.l0 k l0 (List.replicate ((l0.length : Int) : Int).toNat 0) 0) else (none)) else (none)
theorem laws_toIntS.mono_l : ∀ k, (∀ y0 y1 y2, LeO (laws_toIntS.l0 k y0 y1 y2) (laws_toIntS.l0 (k + 1) y0 y1 y2))
 | 0 => fun _ _ _ r h => by simp [laws_toIntS.l0] at h
 | k + 1 => by
  have ih0 := laws_toIntS.mono_l k
  ·intro y0 y1 y2; unfold laws_toIntS.l0
   repeat' first
   | (with_reducible exact ih0 _ _ _)
   | (with_reducible exact LeO.refl _)
   | (with_reducible exact LeO.none _)
   | (with_reducible refine LeO.ite ?_ ?_)
   | (with_reducible refine LeO.bind ?_ (fun _ => ?_))
   | exact ih0 _ _ _
   | exact LeO.none _
   | refine LeO.ite ?_ ?_
   | refine LeO.bind ?_ (fun _ => ?_)
theorem laws_toIntS.mono : ∀ a0 k, LeO (laws_toIntS.f k a0) (laws_toIntS.f (k + 1) a0) := by
 intro a0 k; have ih0 := laws_toIntS.mono_l k; unfold laws_toIntS.f
 repeat' first
   | (with_reducible exact ih0 _ _ _)
   | (with_reducible exact LeO.refl _)
   | (with_reducible exact LeO.none _)
   | (with_reducible refine LeO.ite ?_ ?_)
   | (with_reducible refine LeO.bind ?_ (fun _ => ?_))
   | exact ih0 _ _ _
   | exact LeO.none _
   | refine LeO.ite ?_ ?_
   | refine LeO.bind ?_ (fun _ => ?_)
set_option maxHeartbeats 8000000 in
set_option maxRecDepth 100000 in
theorem laws_toIntS.calls (k : Nat) (A0 : Option Addr) (c0 : Nat) (l0 : List Int) (r : List Int) (w : World) (hr0 : Kd.C (Kd.int .i64) w A0 l0.length l0) (hc0 : l0.length ≤ c0) (h : laws_toIntS.f k l0 = some r) :
  Calls Try.prog 52 #[.slice A0 l0.length c0] w fun e w' => ∃ v0_ : Value, e = .returned (v0_) ∧ Kd.R (Kd.int .i64) 3 w' w.heap.size (fun _ => True) v0_ r ∧ Below w.heap.size w w' := by
 have HR0 := Aside0.mk hr0; have HC0 := Aside0.mk hc0; clear hr0 hc0; have HB := aM (Below.refl w.heap.size w); have H : (if 0 ≤ (l0.length : Int) then (if ((l0.length : Int) : Int).toNat ≤ 35184372088832 then (laws_toIntS.l0 k l0 (List.replicate ((l0.length : Int) : Int).toNat 0) 0) else (none)) else (none)) = some r := h; clear h; by_cases c2 : 0 ≤ (l0.length : Int)
 ·rw [if_pos c2] at H; have c2b0 := eq_true c2; have c2b1 : decide (0 ≤ (l0.length : Int)) = true := decide_eq_true c2; clear c2; by_cases c3 : ((l0.length : Int) : Int).toNat ≤ 35184372088832
  ·rw [if_pos c3] at H; have c3b0 := eq_true c3; have c3b1 : decide (((l0.length : Int) : Int).toNat ≤ 35184372088832) = true := decide_eq_true c3; clear c3; obtain ⟨y180, hy180⟩ : ∃ y_ : List Int, y_ = (List.replicate ((l0.length : Int) : Int).toNat 0) := ⟨_, rfl⟩
   (first | replace H := bY H hy180 | rw [← hy180] at H | skip); have Ny180 := Aside0.mk hy180; clear hy180; have H' := Aside0.mk H; clear H; go_enter Try.func52, Try.ntmps52; go_wp2_with (first | ((with_reducible refine gate_dst (N := 7) rfl ?_); refine Kd.R_make (Kd.int .i64) _ 3 rfl (N := 7) rfl 22 _ _ rfl (l0.length : Int) rfl rfl Try.underlying22 (.int .i64 0) 8 info3 rfl (by decide) (by omega) 0 (ok := fun _ => True) (okp := fun _ => True) rfl (fun _ hk => hk) trivial (of_decide_eq_true ‹_›) (Nat.le_trans (Nat.mul_le_mul_right _ (of_decide_eq_true ‹_› : (l0.length : Int).toNat ≤ 35184372088832)) (by omega)) (Below.refl _ _) (Nat.le_refl _) ?_; intro v181 w4 ho5 hb hg_ hnew_; clear hg_ hnew_; (first | rw [← Ny180.out] at ho5 | (simp only [Int.reduceToNat] at ho5; rw [← Ny180.out] at ho5)); have HO182 := aM (Kd.R_lower ho5 (below_size (qB HB))); replace HB := aM (below_step (qB HB) hb); clear hb ho5)); go_loopg [4] k (fun kq v4 w' => ∃ (x3_1 : List Int) (x4_1 : Int), v4 = .int .i64 x4_1 ∧ Aside0 (laws_toIntS.l0 kq l0 x3_1 x4_1 = some r) ∧ Aside0 (kq ≤ k) ∧ Aside0 (Kd.R (Kd.int .i64) 3 w' w.heap.size (fun _ => True) v181 x3_1) ∧ Aside0 (Below w.heap.size w w'))
   case atStart => exact ⟨(y180), (0), tS, H', ⟨Nat.le_refl _⟩, ⟨tR HO182⟩, ⟨tB0⟩⟩
   case round =>
    clear H'; try clear c2
    try clear c2b0
    try clear c2b1
    try clear p2
    try clear c3
    try clear c3b0
    try clear c3b1
    try clear c5
    obtain ⟨x3_1, x4_1, rfl, HA, HK1, HO_3, HB⟩ := hrel; cases gk with
    | zero => exact absurd HA.out (by simp [laws_toIntS.l0])
    | succ k1 =>
     have H := HA.out; clear HA; simp only [laws_toIntS.l0] at H; by_cases c6 : x4_1 < (l0.length : Int)
     ·rw [if_pos c6] at H; have c6b0 : decide (x4_1 < (l0.length : Int)) = true := decide_eq_true c6; clear c6; by_cases c7 : 0 ≤ x4_1
      ·rw [if_pos c7] at H; have c7b0 : decide (0 ≤ x4_1) = true := decide_eq_true c7; clear c7; by_cases c8 : x4_1 < (x3_1.length : Int)
       ·rw [if_pos c8] at H; have c8b0 : decide (x4_1 < (x3_1.length : Int)) = true := decide_eq_true c8; clear c8; obtain ⟨y184, hy184⟩ : ∃ y_ : List Int, y_ = (x3_1.set (x4_1 : Int).toNat (rd l0 x4_1)) := ⟨_, rfl⟩
        (first | replace H := bY H hy184 | rw [← hy184] at H | skip); have Ny184 := Aside0.mk hy184; clear hy184; have H' := Aside0.mk H; clear H; have p183 : 0 ≤ (x4_1 : Int) := of_decide_eq_true ‹_›; have q183 : x4_1 < (l0.length : Int) := of_decide_eq_true ‹_›; obtain ⟨ad183, e183, hx183_0⟩ := Kd.at_int HR0.out x4_1 p183 q183; cases e183
        replace hx183_0 := cB HB hx183_0; replace p183 := eq_true p183; replace q183 := eq_true q183; have p9 : 0 ≤ (x4_1 : Int) := of_decide_eq_true ‹_›; have q9 : (x4_1 : Int) < ((x3_1.length : Int) : Int) := of_decide_eq_true ‹_›; obtain ⟨go9, co9, eo9, gb9, gl9, cl9, HG9⟩ := Kd.R_form HO_3.out (by omega); (first | cases eo9 | (injection eo9 with ea_ en_ ec_; (first | subst ea_ | (injection ea_ with ea_; subst ea_)); subst ec_; clear en_)); have GB9 := Aside0.mk gb9; have GG9 := Aside0.mk HG9; clear gb9 gl9 HG9; obtain ⟨hx9_0, hf9_0⟩ := Kd.R_celln 0 HO_3.out (x4_1 : Int) p9 q9; replace p9 := eq_true p9; replace q9 := eq_true q9; have HP10 := Kd.R_putg HO_3.out (x4_1 : Int) (rd l0 x4_1); go_wp2_with (first | ((with_reducible refine gate_store (t := 3) (p := 20) rfl ?_); refine store_event (t := 3) (p := 20) (v := ?vo_w11) (w1 := (wr.setCell ⟨go9, (x4_1 : Int).toNat, none⟩ (.int .i64 (rd l0 x4_1)))) ?hg ?ho ?hn ?hr ?_; (case ho => rfl); (case hg => rfl); (case hn => rfl); (case hr => first | (go_simp; done) | (go_simp; rfl)); intro w11 hw; have hg : wr.grownBy w11 (some go9) := (by rw [hw]; exact HP10.2); have hp_ : Kd.R (Kd.int .i64) 3 w11 w.heap.size (fun _ => True) (.slice (some ⟨go9, 0, none⟩) x3_1.length co9) y184 := (by rw [hw, Ny184.out]; exact HP10.1); clear HP10; replace HO_3 := aM hp_; replace HB := aM ((by rw [hw]; exact below_set (HB.out) GB9.out : Below w.heap.size w w11)); clear hg hw hp_)); go_roundg k1
        case measure => have := HK1.out; omega
        case rel => exact ⟨(y184), (wrap64 (x4_1 + 1)), tS, H', ⟨by have := HK1.out; omega⟩, ⟨tR HO_3⟩, ⟨tB0⟩⟩
       ·rw [if_neg c8] at H; exact absurd H (by simp)
      ·rw [if_neg c7] at H; exact absurd H (by simp)
     ·rw [if_neg c6] at H; have c6b0 : decide (x4_1 < (l0.length : Int)) = false := decide_eq_false c6; clear c6; obtain rfl := Option.some.inj H; go_wp2; go_ret; exact ⟨_, tE, tR HO_3, tB0⟩
  ·rw [if_neg c3] at H; exact absurd H (by simp)
 ·rw [if_neg c2] at H; exact absurd H (by simp)

/-! ### laws_toDoubt: function 31 -/
def laws_toDoubt.f (k : Nat) (l0_0 : List Int) (a0_1 : Int) (l0_2 : List Int) (a0_3 : Int) : Option (List Int × Int × List Int × Int) := (laws_toIntS.f k l0_0).bind fun t188 => ((laws_toIntS.f k l0_2).bind fun t191 => (some (t188, a0_1, t191, a0_3)))
theorem laws_toDoubt.mono : ∀ a0 a1 a2 a3 k, LeO (laws_toDoubt.f k a0 a1 a2 a3) (laws_toDoubt.f (k + 1) a0 a1 a2 a3) := by
 intro a0 a1 a2 a3 k; unfold laws_toDoubt.f
 repeat' first
   | (with_reducible exact laws_toIntS.mono _ _)
   | (with_reducible exact LeO.refl _)
   | (with_reducible exact LeO.none _)
   | (with_reducible refine LeO.ite ?_ ?_)
   | (with_reducible refine LeO.bind ?_ (fun _ => ?_))
   | exact laws_toIntS.mono _ _
   | exact LeO.none _
   | refine LeO.ite ?_ ?_
   | refine LeO.bind ?_ (fun _ => ?_)
set_option maxHeartbeats 8000000 in
set_option maxRecDepth 100000 in
theorem laws_toDoubt.calls (k : Nat) (A0_0 : Option Addr) (c0_0 : Nat) (l0_0 : List Int) (a0_1 : Int) (A0_2 : Option Addr) (c0_2 : Nat) (l0_2 : List Int) (a0_3 : Int) (r1 : List Int) (r2 : Int) (r3 : List Int) (r4 : Int) (w : World) (hr0_0 : Kd.C (Kd.int .i64) w A0_0 l0_0.length l0_0) (hc0_0 : l0_0.length ≤ c0_0) (hr0_2 : Kd.C (Kd.int .i64) w A0_2 l0_2.length l0_2) (hc0_2 : l0_2.length ≤ c0_2) (h : laws_toDoubt.f k l0_0 a0_1 l0_2 a0_3 = some (r1, r2, r3, r4)) :
  Calls Try.prog 31 #[.agg #[.slice A0_0 l0_0.length c0_0, .int .i64 a0_1, .slice A0_2 l0_2.length c0_2, .int .i64 a0_3]] w fun e w' => ∃ v0_ v2_ : Value, e = .returned (.agg #[v0_, .int .i64 r2, v2_, .int .i64 r4]) ∧ Kd.R (Kd.int .i64) 3 w' w.heap.size (fun k_ => some k_ ≠ (v2_ : Value).ownBlock) v0_ r1 ∧ Kd.R (Kd.int .i64) 3 w' w.heap.size (fun k_ => some k_ ≠ (v0_ : Value).ownBlock) v2_ r3 ∧ Below w.heap.size w w' := by
 have hu62 := Try.underlying62; have hu64 := Try.underlying64; have HR0_0 := Aside0.mk hr0_0; have HC0_0 := Aside0.mk hc0_0; clear hr0_0 hc0_0; have HR0_2 := Aside0.mk hr0_2; have HC0_2 := Aside0.mk hc0_2; clear hr0_2 hc0_2; have HB := aM (Below.refl w.heap.size w); have H : ((laws_toIntS.f k l0_0).bind fun t188 => ((laws_toIntS.f k l0_2).bind fun t191 => (some (t188, a0_1, t191, a0_3)))) = some (r1, r2, r3, r4) := h; clear h; replace H := Option.bind_eq_some_iff.mp H; obtain ⟨t188, A20, H⟩ := H; have A2 := Aside0.mk A20; clear A20; replace H := Option.bind_eq_some_iff.mp H; obtain ⟨t191, A30, H⟩ := H; have A3 := Aside0.mk A30; clear A30; simp only [Option.some.injEq, Prod.mk.injEq] at H; obtain ⟨rfl, rfl, rfl, rfl⟩ := H; go_enter Try.func31, Try.ntmps31; go_wp2_with (first | ((with_reducible refine gate_dst (N := 1) rfl ?_); refine bx 1 #[.slice A0_0 l0_0.length c0_0, .int .i64 a0_1, .slice A0_2 l0_2.length c0_2, .int .i64 a0_3] 62 ?_; intro gb185 hg w4 hbox hb; have BK185 := aM hbox; have GW185 := aM ((by rw [hg]; exact (below_size (qB HB)) : w.heap.size ≤ gb185)); have GE185 := aM ((by rw [hg]; exact (below_size (qB HB)) : w.heap.size ≤ gb185)); replace HB := aM (below_step (qB HB) hb); clear hb hbox hg) | ((with_reducible refine gate_dst (N := 2) rfl ?_); refine bx 2 #[.slice none 0 0, .int .i64 0, .slice none 0 0, .int .i64 0] 64 ?_; intro gb186 hg w5 hbox hb; have BK186 := aM hbox; have GW186 := aM ((by rw [hg]; exact (below_size (tB1 GE185)) : w.heap.size ≤ gb186)); have GE186 := aM ((by rw [hg]; exact (below_size (tB1 GE185)) : w.heap.size ≤ gb186)); replace HB := aM (below_step (tB1 GE185) hb); have NB185_186 := aM ((by rw [hg]; exact Nat.ne_of_lt (blk_lt (qK BK185)) : gb185 ≠ gb186)); have NB186_185 := aM ((by rw [hg]; exact Nat.ne_of_gt (blk_lt (qK BK185)) : gb186 ≠ gb185)); replace BK185 := aM (blk_below (qK BK185) hb); clear hb hbox hg) | ((with_reducible refine gate_dst (N := 3) rfl ?_); refine bx 3 #[.slice none 0 0, .int .i64 0, .slice none 0 0, .int .i64 0] 64 ?_; intro gb187 hg w6 hbox hb; have BK187 := aM hbox; have GW187 := aM ((by rw [hg]; exact (below_size (tB2 GE185 GE186)) : w.heap.size ≤ gb187)); have GE187 := aM ((by rw [hg]; exact (below_size (tB2 GE185 GE186)) : w.heap.size ≤ gb187)); replace HB := aM (below_step (tB2 GE185 GE186) hb); have NB185_187 := aM ((by rw [hg]; exact Nat.ne_of_lt (blk_lt (qK BK185)) : gb185 ≠ gb187)); have NB187_185 := aM ((by rw [hg]; exact Nat.ne_of_gt (blk_lt (qK BK185)) : gb187 ≠ gb185)); replace BK185 := aM (blk_below (qK BK185) hb); have NB186_187 := aM ((by rw [hg]; exact Nat.ne_of_lt (blk_lt (qK BK186)) : gb186 ≠ gb187)); have NB187_186 := aM ((by rw [hg]; exact Nat.ne_of_gt (blk_lt (qK BK186)) : gb187 ≠ gb186)); replace BK186 := aM (blk_below (qK BK186) hb); clear hb hbox hg; have hnb7 := NB185_186.out; have hnc7 := NB186_185.out; have hnb8 := NB185_187.out; have hnc8 := NB187_185.out; obtain ⟨hcz9_0, hcz9_1, hcz9_2, hcz9_3⟩ := cz4 BK185; obtain ⟨hfz9_0, hfz9_1, hfz9_2, hfz9_3⟩ := fz4 BK185) | ((with_reducible refine gate_callee (f := 52) rfl ?_); refine gl 6 Try.func52 #[.slice A0_0 l0_0.length c0_0] ?_; (with_reducible refine (laws_toIntS.calls k _ _ l0_0 t188 _ ?side1 ?side2 A2.out).mono ?_); (case side1 => exact qC (Kd.C_below HR0_0.out HB.out)); (case side2 => exact HC0_0.out); rintro e w10 ⟨v189, rfl, ho0, hb⟩; refine ⟨_, rfl, ?_⟩; have HO190 := aM (Kd.R_lower ho0 (below_size (by repeat first | (with_reducible first | exact HB.out | apply bA | apply bN | apply bD | refine bS ?_ GE185.out | refine bS ?_ GE186.out | refine bS ?_ GE187.out) | exact HB.out))); replace BK185 := aM (blk_below (qK BK185) hb); replace BK186 := aM (blk_below (qK BK186) hb); replace BK187 := aM (blk_below (qK BK187) hb); replace HB := aM (below_step (by repeat first | (with_reducible first | exact HB.out | apply bA | apply bN | apply bD | refine bS ?_ GE185.out | refine bS ?_ GE186.out | refine bS ?_ GE187.out) | exact HB.out) hb); (try clear hb); (try clear hb2); (try clear hk); (try clear hi); (try clear ho0); obtain ⟨Ao11, co11, eo11⟩ := Kd.R_slice HO190.out; subst eo11; have hnb12 := NB187_186.out; have hnc12 := NB186_187.out; obtain ⟨hcz13_0, hcz13_1, hcz13_2, hcz13_3⟩ := cz4 BK187; obtain ⟨hfz13_0, hfz13_1, hfz13_2, hfz13_3⟩ := fz4 BK187; obtain ⟨hcz14_0, hcz14_1, hcz14_2, hcz14_3⟩ := cz4 BK185; obtain ⟨hfz14_0, hfz14_1, hfz14_2, hfz14_3⟩ := fz4 BK185) | ((with_reducible refine gate_callee (f := 52) rfl ?_); refine gl 13 Try.func52 #[.slice A0_2 l0_2.length c0_2] ?_; (with_reducible refine (laws_toIntS.calls k _ _ l0_2 t191 _ ?side1 ?side2 A3.out).mono ?_); (case side1 => exact Kd.C_below HR0_2.out (by repeat first | (with_reducible first | exact HB.out | apply bA | apply bN | apply bD | refine bS ?_ GE185.out | refine bS ?_ GE186.out | refine bS ?_ GE187.out) | exact HB.out)); (case side2 => exact HC0_2.out); rintro e w15 ⟨v192, rfl, ho0, hb⟩; refine ⟨_, rfl, ?_⟩; have HO193 := aM (Kd.R_lower (Kd.R_new' ho0 (Kd.R_lt (by (with_reducible repeat first | apply rA | apply rN | apply rD); exact (far2 HO190 BK187)))) (below_size (by repeat first | (with_reducible first | exact HB.out | apply bA | apply bN | apply bD | refine bS ?_ GE185.out | refine bS ?_ GE186.out | refine bS ?_ GE187.out) | exact HB.out))); replace HO190 := aM (Kd.R_elder' (by (with_reducible repeat first | apply rA | apply rN | apply rD); exact (far2 HO190 BK187)) (Kd.R_base ho0) hb); replace BK185 := aM (blk_below (g := gb185) (o := .cells #[.slice A0_0 l0_0.length c0_0, .int .i64 a0_1, .slice A0_2 l0_2.length c0_2, .int .i64 a0_3] 62 (0, 0)) (by (with_reducible repeat first | refine kN ?_ _ | refine kD ?_ | refine kA ?_ _); refine blk_far ?_ NB185_187.out _; (with_reducible repeat first | refine kN ?_ _ | refine kD ?_ | refine kA ?_ _); refine blk_far ?_ NB185_187.out _; (with_reducible repeat first | refine kN ?_ _ | refine kD ?_ | refine kA ?_ _); exact BK185.out) hb); replace BK186 := aM (blk_below (g := gb186) (o := .cells #[.slice none 0 0, .int .i64 0, .slice none 0 0, .int .i64 0] 64 (0, 0)) (by (with_reducible repeat first | refine kN ?_ _ | refine kD ?_ | refine kA ?_ _); refine blk_far ?_ NB186_187.out _; (with_reducible repeat first | refine kN ?_ _ | refine kD ?_ | refine kA ?_ _); refine blk_far ?_ NB186_187.out _; (with_reducible repeat first | refine kN ?_ _ | refine kD ?_ | refine kA ?_ _); exact BK186.out) hb); replace BK187 := aM (blk_below (g := gb187) (o := .cells #[.slice Ao11 t188.length co11, .int .i64 a0_1, .slice none 0 0, .int .i64 0] 64 (0, 0)) (by (with_reducible repeat first | refine kN ?_ _ | refine kD ?_ | refine kA ?_ _); refine blk_put (cs := #[.slice Ao11 t188.length co11, .int .i64 0, .slice none 0 0, .int .i64 0]) ?_ 1 _ rfl; (with_reducible repeat first | refine kN ?_ _ | refine kD ?_ | refine kA ?_ _); refine blk_put (cs := #[.slice none 0 0, .int .i64 0, .slice none 0 0, .int .i64 0]) ?_ 0 _ rfl; (with_reducible repeat first | refine kN ?_ _ | refine kD ?_ | refine kA ?_ _); exact BK187.out) hb); replace HB := aM (below_step (by repeat first | (with_reducible first | exact HB.out | apply bA | apply bN | apply bD | refine bS ?_ GE185.out | refine bS ?_ GE186.out | refine bS ?_ GE187.out) | exact HB.out) hb); (try clear hb); (try clear hb2); (try clear hk); (try clear hi); (try clear ho0); obtain ⟨Ao16, co16, eo16⟩ := Kd.R_slice HO193.out; subst eo16; obtain ⟨hcz17_0, hcz17_1, hcz17_2, hcz17_3⟩ := cz4 BK187; obtain ⟨hfz17_0, hfz17_1, hfz17_2, hfz17_3⟩ := fz4 BK187; obtain ⟨hcz18_0, hcz18_1, hcz18_2, hcz18_3⟩ := cz4 BK185; obtain ⟨hfz18_0, hfz18_1, hfz18_2, hfz18_3⟩ := fz4 BK185; obtain ⟨hcz19_0, hcz19_1, hcz19_2, hcz19_3⟩ := cz4 BK186; obtain ⟨hfz19_0, hfz19_1, hfz19_2, hfz19_3⟩ := fz4 BK186)); refine bodyPost_ret (results_cell_row rfl _ _ gb186 64 #[.slice Ao11 t188.length co11, .int .i64 a0_1, .slice Ao16 t191.length co16, .int .i64 a0_3] (0, 0) _ rfl (by (with_reducible repeat first | refine kN ?_ _ | refine kD ?_ | refine kA ?_ _); refine blk_put (cs := #[.slice Ao11 t188.length co11, .int .i64 a0_1, .slice Ao16 t191.length co16, .int .i64 0]) ?_ 3 _ rfl; (with_reducible repeat first | refine kN ?_ _ | refine kD ?_ | refine kA ?_ _); refine blk_put (cs := #[.slice Ao11 t188.length co11, .int .i64 a0_1, .slice none 0 0, .int .i64 0]) ?_ 2 _ rfl; (with_reducible repeat first | refine kN ?_ _ | refine kD ?_ | refine kA ?_ _); refine blk_put (cs := #[.slice Ao11 t188.length co11, .int .i64 0, .slice none 0 0, .int .i64 0]) ?_ 1 _ rfl; (with_reducible repeat first | refine kN ?_ _ | refine kD ?_ | refine kA ?_ _); refine blk_put (cs := #[.slice none 0 0, .int .i64 0, .slice none 0 0, .int .i64 0]) ?_ 0 _ rfl; (with_reducible repeat first | refine kN ?_ _ | refine kD ?_ | refine kA ?_ _); refine blk_far ?_ NB186_187.out _; (with_reducible repeat first | refine kN ?_ _ | refine kD ?_ | refine kA ?_ _); refine blk_far ?_ NB186_187.out _; (with_reducible repeat first | refine kN ?_ _ | refine kD ?_ | refine kA ?_ _); exact BK186.out) Try.underlying64 rfl (by kernel_rfl)) rfl ?_; exact ⟨_, _, tE, by (with_reducible repeat first | apply rA | apply rN | apply rD); exact Kd.R_mono (Kd.R_far (p := ⟨gb186, 3, none⟩) (Kd.R_far (p := ⟨gb186, 2, none⟩) (Kd.R_far (p := ⟨gb186, 1, none⟩) (Kd.R_far (p := ⟨gb186, 0, none⟩) (Kd.R_far (p := ⟨gb187, 3, none⟩) (Kd.R_far (p := ⟨gb187, 2, none⟩) (Kd.R_types (Kd.R_types HO190.out BK187.out (by decide)) BK186.out (by decide)) (fun _ hk => hk.1.2) (.slice Ao16 t191.length co16)) (fun _ hk => hk.1.2) (.int .i64 a0_3)) (fun _ hk => hk.2) (.slice Ao11 t188.length co11)) (fun _ hk => hk.2) (.int .i64 a0_1)) (fun _ hk => hk.2) (.slice Ao16 t191.length co16)) (fun _ hk => hk.2) (.int .i64 a0_3)) (fun _ hk => hk.1.1.2), by (with_reducible repeat first | apply rA | apply rN | apply rD); exact Kd.R_mono (Kd.R_far (p := ⟨gb186, 3, none⟩) (Kd.R_far (p := ⟨gb186, 2, none⟩) (Kd.R_far (p := ⟨gb186, 1, none⟩) (Kd.R_far (p := ⟨gb186, 0, none⟩) (Kd.R_far (p := ⟨gb187, 3, none⟩) (Kd.R_far (p := ⟨gb187, 2, none⟩) (Kd.R_types (Kd.R_types HO193.out BK187.out (by decide)) BK186.out (by decide)) (fun _ hk => hk.1.2) (.slice Ao16 t191.length co16)) (fun _ hk => hk.1.2) (.int .i64 a0_3)) (fun _ hk => hk.2) (.slice Ao11 t188.length co11)) (fun _ hk => hk.2) (.int .i64 a0_1)) (fun _ hk => hk.2) (.slice Ao16 t191.length co16)) (fun _ hk => hk.2) (.int .i64 a0_3)) (fun _ hk => hk.1.1.2), by repeat (first | (with_reducible first | exact HB.out | apply bA | apply bN | apply bD | refine bS ?_ GE185.out | refine bS ?_ GE186.out | refine bS ?_ GE187.out) | exact HB.out)⟩

/-! ### impl_InRange: function 63 -/
def impl_InRange.f (a0 : Int) (a1 : Int) (a2 : Int) : Option (Bool) := if a1 ≤ a0 then (some (decide (a0 ≤ a2))) else (some false)
set_option maxHeartbeats 8000000 in
set_option maxRecDepth 100000 in
theorem impl_InRange.calls (a0 : Int) (a1 : Int) (a2 : Int) (r : Bool) (w : World) (h : impl_InRange.f a0 a1 a2 = some r) :
  Calls Try.prog 63 #[.int .i64 a0, .int .i64 a1, .int .i64 a2] w fun e w' => e = .returned (.bool r) ∧ Drawn0 w w' := by
 have H : (if a1 ≤ a0 then (some (decide (a0 ≤ a2))) else (some false)) = some r := h; clear h; by_cases c4 : a1 ≤ a0
 ·rw [if_pos c4] at H; have c4b0 : decide (a1 ≤ a0) = true := decide_eq_true c4; clear c4; obtain rfl := Option.some.inj H; go_enter Try.func63, Try.ntmps63; go_wp2; go_ret; exact ⟨by first | rfl | (simp; done) | (simp [*]; done), by repeat (first | exact Drawn0.refl _ | apply Drawn0.step)⟩
 ·rw [if_neg c4] at H; have c4b0 : decide (a1 ≤ a0) = false := decide_eq_false c4; clear c4; obtain rfl := Option.some.inj H; go_enter Try.func63, Try.ntmps63; go_wp2; go_ret; exact ⟨by first | rfl | (simp; done) | (simp [*]; done), by repeat (first | exact Drawn0.refl _ | apply Drawn0.step)⟩

/-! ### impl_isAscending: function 83 -/
def impl_isAscending.l0 : Nat → List Int → Int → Int → List Int → Int → Int → Option (Bool)
 | 0, _, _, _, _, _, _ => none
 | k + 1, x0, x1, x2, x9, x10, x11 => if x11 < x10 then (if 0 ≤ x11 then (if x11 < (x9.length : Int) then ((impl_InRange.f (rd x9 x11) x1 x2).bind fun t195 => (if t195 = true then (if x11 > 0 then (if 0 ≤ (wrap64 (x11 - 1)) then (if (wrap64 (x11 - 1)) < (x0.length : Int) then (if (rd x9 x11) ≤ (rd x0 (wrap64 (x11 - 1))) then (some false) else (impl_isAscending.l0 k x0 x1 x2 x9 x10 (wrap64 (x11 + 1)))) else (none)) else (none)) else (impl_isAscending.l0 k x0 x1 x2 x9 x10 (wrap64 (x11 + 1)))) else (some false))) else (none)) else (none)) else (some true)
def impl_isAscending.f (k : Nat) (l0 : List Int) (a1 : Int) (a2 : Int) : Option (Bool) := impl_isAscending.l0 k l0 a1 a2 l0 (l0.length : Int) 0
theorem impl_isAscending.mono_l : ∀ k, (∀ y0 y1 y2 y3 y4 y5, LeO (impl_isAscending.l0 k y0 y1 y2 y3 y4 y5) (impl_isAscending.l0 (k + 1) y0 y1 y2 y3 y4 y5))
 | 0 => fun _ _ _ _ _ _ r h => by simp [impl_isAscending.l0] at h
 | k + 1 => by
  have ih0 := impl_isAscending.mono_l k
  ·intro y0 y1 y2 y3 y4 y5; unfold impl_isAscending.l0
   repeat' first
   | (with_reducible exact ih0 _ _ _ _ _ _)
   | (with_reducible exact LeO.refl _)
   | (with_reducible exact LeO.none _)
   | (with_reducible refine LeO.ite ?_ ?_)
   | (with_reducible refine LeO.bind ?_ (fun _ => ?_))
   | exact ih0 _ _ _ _ _ _
   | exact LeO.none _
   | refine LeO.ite ?_ ?_
   | refine LeO.bind ?_ (fun _ => ?_)
theorem impl_isAscending.mono : ∀ a0 a1 a2 k, LeO (impl_isAscending.f k a0 a1 a2) (impl_isAscending.f (k + 1) a0 a1 a2) := by
 intro a0 a1 a2 k; have ih0 := impl_isAscending.mono_l k; unfold impl_isAscending.f
 repeat' first
   | (with_reducible exact ih0 _ _ _ _ _ _)
   | (with_reducible exact LeO.refl _)
   | (with_reducible exact LeO.none _)
   | (with_reducible refine LeO.ite ?_ ?_)
   | (with_reducible refine LeO.bind ?_ (fun _ => ?_))
   | exact ih0 _ _ _ _ _ _
   | exact LeO.none _
   | refine LeO.ite ?_ ?_
   | refine LeO.bind ?_ (fun _ => ?_)
set_option maxHeartbeats 8000000 in
set_option maxRecDepth 100000 in
theorem impl_isAscending.calls (k : Nat) (A0 : Option Addr) (c0 : Nat) (l0 : List Int) (a1 : Int) (a2 : Int) (r : Bool) (w : World) (hr0 : Kd.C (Kd.int .i64) w A0 l0.length l0) (hc0 : l0.length ≤ c0) (h : impl_isAscending.f k l0 a1 a2 = some r) :
  Calls Try.prog 83 #[.slice A0 l0.length c0, .int .i64 a1, .int .i64 a2] w fun e w' => e = .returned (.bool r) ∧ Drawn0 w w' := by
 have HR0 := Aside0.mk hr0; have HC0 := Aside0.mk hc0; clear hr0 hc0; have H : (impl_isAscending.l0 k l0 a1 a2 l0 (l0.length : Int) 0) = some r := h; clear h; have H' := Aside0.mk H; clear H; go_enter Try.func83, Try.ntmps83; go_wp2; go_loopg [11] k (fun kq v11 w' => ∃ (x11_1 : Int), v11 = .int .i64 x11_1 ∧ Aside0 (impl_isAscending.l0 kq l0 a1 a2 l0 (l0.length : Int) x11_1 = some r) ∧ Aside0 (kq ≤ k) ∧ Drawn0 w w')
 case atStart => exact ⟨(0), tS, H', ⟨Nat.le_refl _⟩, by repeat (first | exact Drawn0.refl _ | apply Drawn0.step)⟩
 case round =>
  clear H'; try clear p2
  obtain ⟨x11_1, rfl, HA, HK1, ⟨m1, rfl⟩⟩ := hrel; cases gk with
  | zero => exact absurd HA.out (by simp [impl_isAscending.l0])
  | succ k1 =>
   have H := HA.out; clear HA; simp only [impl_isAscending.l0] at H; by_cases c4 : x11_1 < (l0.length : Int)
   ·rw [if_pos c4] at H; have c4b0 : decide (x11_1 < (l0.length : Int)) = true := decide_eq_true c4; clear c4; by_cases c5 : 0 ≤ x11_1
    ·rw [if_pos c5] at H; have c5b0 : decide (0 ≤ x11_1) = true := decide_eq_true c5; clear c5; by_cases c6 : x11_1 < (l0.length : Int)
     ·rw [if_pos c6] at H; have c6b0 : decide (x11_1 < (l0.length : Int)) = true := decide_eq_true c6; clear c6; replace H := Option.bind_eq_some_iff.mp H; obtain ⟨t195, A70, H⟩ := H; have A7 := Aside0.mk A70; clear A70; by_cases c8 : t195 = true
      ·subst c8; rw [if_pos rfl] at H; by_cases c9 : x11_1 > 0
       ·rw [if_pos c9] at H; have c9b0 : decide (0 < x11_1) = true := decide_eq_true c9; clear c9; obtain ⟨ji10, hji10⟩ : ∃ j_ : Int, (wrap64 (x11_1 - 1)) = j_ := ⟨_, rfl⟩
        replace H : (if 0 ≤ (ji10) then (if (ji10) < (l0.length : Int) then (if (rd l0 x11_1) ≤ (rd l0 (ji10)) then (some false) else (impl_isAscending.l0 k1 l0 a1 a2 l0 (l0.length : Int) (wrap64 (x11_1 + 1)))) else (none)) else (none)) = some r := by first | (rw [hji10] at H; exact H) | (simp only [hji10] at H ⊢; exact H)
        (try rw [hji10] at A7); have hji10w : (IntKind.i64.wrap (x11_1 - 1)) = ji10 := (i64_w _).trans hji10; by_cases c11 : 0 ≤ (ji10)
        ·rw [if_pos c11] at H; have c11b0 : decide (0 ≤ (ji10)) = true := decide_eq_true c11; clear c11; by_cases c12 : (ji10) < (l0.length : Int)
         ·rw [if_pos c12] at H; have c12b0 : decide ((ji10) < (l0.length : Int)) = true := decide_eq_true c12; clear c12; by_cases c13 : (rd l0 x11_1) ≤ (rd l0 (ji10))
          ·rw [if_pos c13] at H; have c13b0 : decide ((rd l0 x11_1) ≤ (rd l0 (ji10))) = true := decide_eq_true c13; clear c13; obtain rfl := Option.some.inj H; have p194 : 0 ≤ (x11_1 : Int) := of_decide_eq_true ‹_›; have q194 : x11_1 < (l0.length : Int) := of_decide_eq_true ‹_›; obtain ⟨ad194, e194, hx194_0⟩ := Kd.at_int HR0.out x11_1 p194 q194; cases e194
           replace p194 := eq_true p194; replace q194 := eq_true q194; go_wp2_with (first | ((with_reducible refine gate_callee (f := 63) rfl ?_); refine gl 19 Try.func63 #[.int .i64 (rd l0 x11_1), .int .i64 a1, .int .i64 a2] ?_; (with_reducible refine (impl_InRange.calls (rd l0 x11_1) a1 a2 true _ A7.out).mono ?_); rintro e w' ⟨rfl, ⟨nd, rfl⟩⟩; refine ⟨_, rfl, ?_⟩; have p196 : 0 ≤ ((ji10) : Int) := of_decide_eq_true ‹_›; have q196 : (ji10) < (l0.length : Int) := of_decide_eq_true ‹_›; obtain ⟨ad196, e196, hx196_0⟩ := Kd.at_int HR0.out (ji10) p196 q196; obtain rfl : ad194 = ad196 := (by injection e196); replace p196 := eq_true p196; replace q196 := eq_true q196)); go_ret; exact ⟨by first | rfl | (simp; done) | (simp only [← hji10] <;> (first | rfl | simp)) | (simp [*]; done), by repeat (first | exact Drawn0.refl _ | apply Drawn0.step)⟩
          ·rw [if_neg c13] at H; have c13b0 : decide ((rd l0 x11_1) ≤ (rd l0 (ji10))) = false := decide_eq_false c13; clear c13; have H' := Aside0.mk H; clear H; have p194 : 0 ≤ (x11_1 : Int) := of_decide_eq_true ‹_›; have q194 : x11_1 < (l0.length : Int) := of_decide_eq_true ‹_›; obtain ⟨ad194, e194, hx194_0⟩ := Kd.at_int HR0.out x11_1 p194 q194; cases e194
           replace p194 := eq_true p194; replace q194 := eq_true q194; go_wp2_with (first | ((with_reducible refine gate_callee (f := 63) rfl ?_); refine gl 19 Try.func63 #[.int .i64 (rd l0 x11_1), .int .i64 a1, .int .i64 a2] ?_; (with_reducible refine (impl_InRange.calls (rd l0 x11_1) a1 a2 true _ A7.out).mono ?_); rintro e w' ⟨rfl, ⟨nd, rfl⟩⟩; refine ⟨_, rfl, ?_⟩; have p196 : 0 ≤ ((ji10) : Int) := of_decide_eq_true ‹_›; have q196 : (ji10) < (l0.length : Int) := of_decide_eq_true ‹_›; obtain ⟨ad196, e196, hx196_0⟩ := Kd.at_int HR0.out (ji10) p196 q196; obtain rfl : ad194 = ad196 := (by injection e196); replace p196 := eq_true p196; replace q196 := eq_true q196)); go_roundg k1
           case measure => have := HK1.out; omega
           case rel => exact ⟨(wrap64 (x11_1 + 1)), tS, H', ⟨by have := HK1.out; omega⟩, by repeat (first | exact Drawn0.refl _ | apply Drawn0.step)⟩
         ·rw [if_neg c12] at H; exact absurd H (by simp)
        ·rw [if_neg c11] at H; exact absurd H (by simp)
       ·rw [if_neg c9] at H; have c9b0 : decide (0 < x11_1) = false := decide_eq_false c9; clear c9; have H' := Aside0.mk H; clear H; have p194 : 0 ≤ (x11_1 : Int) := of_decide_eq_true ‹_›; have q194 : x11_1 < (l0.length : Int) := of_decide_eq_true ‹_›; obtain ⟨ad194, e194, hx194_0⟩ := Kd.at_int HR0.out x11_1 p194 q194; cases e194
        replace p194 := eq_true p194; replace q194 := eq_true q194; go_wp2_with (first | ((with_reducible refine gate_callee (f := 63) rfl ?_); refine gl 19 Try.func63 #[.int .i64 (rd l0 x11_1), .int .i64 a1, .int .i64 a2] ?_; (with_reducible refine (impl_InRange.calls (rd l0 x11_1) a1 a2 true _ A7.out).mono ?_); rintro e w' ⟨rfl, ⟨nd, rfl⟩⟩; refine ⟨_, rfl, ?_⟩)); go_roundg k1
        case measure => have := HK1.out; omega
        case rel => exact ⟨(wrap64 (x11_1 + 1)), tS, H', ⟨by have := HK1.out; omega⟩, by repeat (first | exact Drawn0.refl _ | apply Drawn0.step)⟩
      ·replace c8 := Bool.eq_false_iff.mpr c8; subst c8; rw [if_neg ff_] at H; obtain rfl := Option.some.inj H; have p194 : 0 ≤ (x11_1 : Int) := of_decide_eq_true ‹_›; have q194 : x11_1 < (l0.length : Int) := of_decide_eq_true ‹_›; obtain ⟨ad194, e194, hx194_0⟩ := Kd.at_int HR0.out x11_1 p194 q194; cases e194
       replace p194 := eq_true p194; replace q194 := eq_true q194; go_wp2_with (first | ((with_reducible refine gate_callee (f := 63) rfl ?_); refine gl 19 Try.func63 #[.int .i64 (rd l0 x11_1), .int .i64 a1, .int .i64 a2] ?_; (with_reducible refine (impl_InRange.calls (rd l0 x11_1) a1 a2 false _ A7.out).mono ?_); rintro e w' ⟨rfl, ⟨nd, rfl⟩⟩; refine ⟨_, rfl, ?_⟩)); go_ret; exact ⟨by first | rfl | (simp; done) | (simp [*]; done), by repeat (first | exact Drawn0.refl _ | apply Drawn0.step)⟩
     ·rw [if_neg c6] at H; exact absurd H (by simp)
    ·rw [if_neg c5] at H; exact absurd H (by simp)
   ·rw [if_neg c4] at H; have c4b0 : decide (x11_1 < (l0.length : Int)) = false := decide_eq_false c4; clear c4; obtain rfl := Option.some.inj H; go_wp2; go_ret; exact ⟨by first | rfl | (simp; done) | (simp [*]; done), by repeat (first | exact Drawn0.refl _ | apply Drawn0.step)⟩

/-! ### impl_IsDoubt: function 41 -/
def impl_IsDoubt.f (k : Nat) (l0_0 : List Int) (a0_1 : Int) (l0_2 : List Int) (a0_3 : Int) : Option (Bool) := (impl_isAscending.f k l0_0 0 7).bind fun t198 => (if t198 = true then ((impl_InRange.f a0_1 0 50).bind fun t199 => (if t199 = true then ((impl_isAscending.f k l0_2 1 30).bind fun t200 => (if t200 = true then (if (l0_2.length : Int) ≤ 9 then ((impl_InRange.f a0_3 0 1000).bind fun t201 => (some t201)) else (some false)) else (some false))) else (some false))) else (some false))
theorem impl_IsDoubt.mono : ∀ a0 a1 a2 a3 k, LeO (impl_IsDoubt.f k a0 a1 a2 a3) (impl_IsDoubt.f (k + 1) a0 a1 a2 a3) := by
 intro a0 a1 a2 a3 k; unfold impl_IsDoubt.f
 repeat' first
   | (with_reducible exact impl_isAscending.mono _ _ _ _)
   | (with_reducible exact LeO.refl _)
   | (with_reducible exact LeO.none _)
   | (with_reducible refine LeO.ite ?_ ?_)
   | (with_reducible refine LeO.bind ?_ (fun _ => ?_))
   | exact impl_isAscending.mono _ _ _ _
   | exact LeO.none _
   | refine LeO.ite ?_ ?_
   | refine LeO.bind ?_ (fun _ => ?_)
set_option maxHeartbeats 8000000 in
set_option maxRecDepth 100000 in
theorem impl_IsDoubt.calls (k : Nat) (A0_0 : Option Addr) (c0_0 : Nat) (l0_0 : List Int) (a0_1 : Int) (A0_2 : Option Addr) (c0_2 : Nat) (l0_2 : List Int) (a0_3 : Int) (r : Bool) (w : World) (hr0_0 : Kd.C (Kd.int .i64) w A0_0 l0_0.length l0_0) (hc0_0 : l0_0.length ≤ c0_0) (hr0_2 : Kd.C (Kd.int .i64) w A0_2 l0_2.length l0_2) (hc0_2 : l0_2.length ≤ c0_2) (h : impl_IsDoubt.f k l0_0 a0_1 l0_2 a0_3 = some r) :
  Calls Try.prog 41 #[.agg #[.slice A0_0 l0_0.length c0_0, .int .i64 a0_1, .slice A0_2 l0_2.length c0_2, .int .i64 a0_3]] w fun e w' => e = .returned (.bool r) ∧ Below w.heap.size w w' := by
 have hu64 := Try.underlying64; have HR0_0 := Aside0.mk hr0_0; have HC0_0 := Aside0.mk hc0_0; clear hr0_0 hc0_0; have HR0_2 := Aside0.mk hr0_2; have HC0_2 := Aside0.mk hc0_2; clear hr0_2 hc0_2; have HB := aM (Below.refl w.heap.size w); have H : ((impl_isAscending.f k l0_0 0 7).bind fun t198 => (if t198 = true then ((impl_InRange.f a0_1 0 50).bind fun t199 => (if t199 = true then ((impl_isAscending.f k l0_2 1 30).bind fun t200 => (if t200 = true then (if (l0_2.length : Int) ≤ 9 then ((impl_InRange.f a0_3 0 1000).bind fun t201 => (some t201)) else (some false)) else (some false))) else (some false))) else (some false))) = some r := h; clear h; replace H := Option.bind_eq_some_iff.mp H; obtain ⟨t198, A20, H⟩ := H; have A2 := Aside0.mk A20; clear A20; by_cases c3 : t198 = true
 ·subst c3; rw [if_pos rfl] at H; replace H := Option.bind_eq_some_iff.mp H; obtain ⟨t199, A40, H⟩ := H; have A4 := Aside0.mk A40; clear A40; by_cases c5 : t199 = true
  ·subst c5; rw [if_pos rfl] at H; replace H := Option.bind_eq_some_iff.mp H; obtain ⟨t200, A60, H⟩ := H; have A6 := Aside0.mk A60; clear A60; by_cases c7 : t200 = true
   ·subst c7; rw [if_pos rfl] at H; by_cases c8 : (l0_2.length : Int) ≤ 9
    ·rw [if_pos c8] at H; have c8b0 : decide ((l0_2.length : Int) ≤ 9) = true := decide_eq_true c8; have c8b1 : decide (l0_2.length ≤ 9) = true := decide_eq_true (by omega); clear c8; replace H := Option.bind_eq_some_iff.mp H; obtain ⟨t201, A90, H⟩ := H; have A9 := Aside0.mk A90; clear A90; obtain rfl := Option.some.inj H; go_enter Try.func41, Try.ntmps41; go_wp2_with (first | ((with_reducible refine gate_dst (N := 1) rfl ?_); (try (refine gate_guard (by rfl) ?_; dsimp only)); refine bx 1 #[.slice A0_0 l0_0.length c0_0, .int .i64 a0_1, .slice A0_2 l0_2.length c0_2, .int .i64 a0_3] 64 ?_; intro gb197 hg w10 hbox hb; have BK197 := aM hbox; have GW197 := aM ((by rw [hg]; exact (below_size (qB HB)) : w.heap.size ≤ gb197)); have GE197 := aM ((by rw [hg]; exact (below_size (qB HB)) : w.heap.size ≤ gb197)); replace HB := aM (below_step (qB HB) hb); clear hb hbox hg; obtain ⟨hcz11_0, hcz11_1, hcz11_2, hcz11_3⟩ := cz4 BK197; obtain ⟨hfz11_0, hfz11_1, hfz11_2, hfz11_3⟩ := fz4 BK197) | ((with_reducible refine gate_callee (f := 83) rfl ?_); refine gl 5 Try.func83 #[.slice A0_0 l0_0.length c0_0, .int .i64 0, .int .i64 7] ?_; (with_reducible refine (impl_isAscending.calls k _ _ l0_0 0 7 true _ ?side1 ?side2 A2.out).mono ?_); (case side1 => exact qC (Kd.C_below HR0_0.out HB.out)); (case side2 => exact HC0_0.out); rintro e w' ⟨rfl, ⟨nd, rfl⟩⟩; refine ⟨_, rfl, ?_⟩) | (go_at_call 63; (with_reducible refine (impl_InRange.calls a0_1 0 50 true _ A4.out).mono ?_); rintro e w' ⟨rfl, ⟨nd, rfl⟩⟩) | (go_at_call 83; (with_reducible refine (impl_isAscending.calls k _ _ l0_2 1 30 true _ ?side1 ?side2 A6.out).mono ?_); (case side1 => repeat (first | exact (Kd.C_below HR0_2.out (tB1 GE197)) | (with_reducible refine Kd.C_alloc ?_ _) | (with_reducible refine Kd.C_drewN ?_ _) | (with_reducible refine Kd.C_drew ?_))); (case side2 => exact HC0_2.out); rintro e w' ⟨rfl, ⟨nd, rfl⟩⟩) | (go_at_call 63; (with_reducible refine (impl_InRange.calls a0_3 0 1000 t201 _ A9.out).mono ?_); rintro e w' ⟨rfl, ⟨nd, rfl⟩⟩)); go_ret; exact ⟨tE, tB1 GE197⟩
    ·rw [if_neg c8] at H; have c8b0 : decide ((l0_2.length : Int) ≤ 9) = false := decide_eq_false c8; have c8b1 : decide (l0_2.length ≤ 9) = false := decide_eq_false (by omega); clear c8; obtain rfl := Option.some.inj H; go_enter Try.func41, Try.ntmps41; go_wp2_with (first | ((with_reducible refine gate_dst (N := 1) rfl ?_); (try (refine gate_guard (by rfl) ?_; dsimp only)); refine bx 1 #[.slice A0_0 l0_0.length c0_0, .int .i64 a0_1, .slice A0_2 l0_2.length c0_2, .int .i64 a0_3] 64 ?_; intro gb197 hg w12 hbox hb; have BK197 := aM hbox; have GW197 := aM ((by rw [hg]; exact (below_size (qB HB)) : w.heap.size ≤ gb197)); have GE197 := aM ((by rw [hg]; exact (below_size (qB HB)) : w.heap.size ≤ gb197)); replace HB := aM (below_step (qB HB) hb); clear hb hbox hg; obtain ⟨hcz13_0, hcz13_1, hcz13_2, hcz13_3⟩ := cz4 BK197; obtain ⟨hfz13_0, hfz13_1, hfz13_2, hfz13_3⟩ := fz4 BK197) | ((with_reducible refine gate_callee (f := 83) rfl ?_); refine gl 5 Try.func83 #[.slice A0_0 l0_0.length c0_0, .int .i64 0, .int .i64 7] ?_; (with_reducible refine (impl_isAscending.calls k _ _ l0_0 0 7 true _ ?side1 ?side2 A2.out).mono ?_); (case side1 => exact qC (Kd.C_below HR0_0.out HB.out)); (case side2 => exact HC0_0.out); rintro e w' ⟨rfl, ⟨nd, rfl⟩⟩; refine ⟨_, rfl, ?_⟩) | (go_at_call 63; (with_reducible refine (impl_InRange.calls a0_1 0 50 true _ A4.out).mono ?_); rintro e w' ⟨rfl, ⟨nd, rfl⟩⟩) | (go_at_call 83; (with_reducible refine (impl_isAscending.calls k _ _ l0_2 1 30 true _ ?side1 ?side2 A6.out).mono ?_); (case side1 => repeat (first | exact (Kd.C_below HR0_2.out (tB1 GE197)) | (with_reducible refine Kd.C_alloc ?_ _) | (with_reducible refine Kd.C_drewN ?_ _) | (with_reducible refine Kd.C_drew ?_))); (case side2 => exact HC0_2.out); rintro e w' ⟨rfl, ⟨nd, rfl⟩⟩)); go_ret; exact ⟨tE, tB1 GE197⟩
   ·replace c7 := Bool.eq_false_iff.mpr c7; subst c7; rw [if_neg ff_] at H; obtain rfl := Option.some.inj H; go_enter Try.func41, Try.ntmps41; go_wp2_with (first | ((with_reducible refine gate_dst (N := 1) rfl ?_); (try (refine gate_guard (by rfl) ?_; dsimp only)); refine bx 1 #[.slice A0_0 l0_0.length c0_0, .int .i64 a0_1, .slice A0_2 l0_2.length c0_2, .int .i64 a0_3] 64 ?_; intro gb197 hg w14 hbox hb; have BK197 := aM hbox; have GW197 := aM ((by rw [hg]; exact (below_size (qB HB)) : w.heap.size ≤ gb197)); have GE197 := aM ((by rw [hg]; exact (below_size (qB HB)) : w.heap.size ≤ gb197)); replace HB := aM (below_step (qB HB) hb); clear hb hbox hg; obtain ⟨hcz15_0, hcz15_1, hcz15_2, hcz15_3⟩ := cz4 BK197; obtain ⟨hfz15_0, hfz15_1, hfz15_2, hfz15_3⟩ := fz4 BK197) | ((with_reducible refine gate_callee (f := 83) rfl ?_); refine gl 5 Try.func83 #[.slice A0_0 l0_0.length c0_0, .int .i64 0, .int .i64 7] ?_; (with_reducible refine (impl_isAscending.calls k _ _ l0_0 0 7 true _ ?side1 ?side2 A2.out).mono ?_); (case side1 => exact qC (Kd.C_below HR0_0.out HB.out)); (case side2 => exact HC0_0.out); rintro e w' ⟨rfl, ⟨nd, rfl⟩⟩; refine ⟨_, rfl, ?_⟩) | (go_at_call 63; (with_reducible refine (impl_InRange.calls a0_1 0 50 true _ A4.out).mono ?_); rintro e w' ⟨rfl, ⟨nd, rfl⟩⟩) | (go_at_call 83; (with_reducible refine (impl_isAscending.calls k _ _ l0_2 1 30 false _ ?side1 ?side2 A6.out).mono ?_); (case side1 => repeat (first | exact (Kd.C_below HR0_2.out (tB1 GE197)) | (with_reducible refine Kd.C_alloc ?_ _) | (with_reducible refine Kd.C_drewN ?_ _) | (with_reducible refine Kd.C_drew ?_))); (case side2 => exact HC0_2.out); rintro e w' ⟨rfl, ⟨nd, rfl⟩⟩)); go_ret; exact ⟨tE, tB1 GE197⟩
  ·replace c5 := Bool.eq_false_iff.mpr c5; subst c5; rw [if_neg ff_] at H; obtain rfl := Option.some.inj H; go_enter Try.func41, Try.ntmps41; go_wp2_with (first | ((with_reducible refine gate_dst (N := 1) rfl ?_); (try (refine gate_guard (by rfl) ?_; dsimp only)); refine bx 1 #[.slice A0_0 l0_0.length c0_0, .int .i64 a0_1, .slice A0_2 l0_2.length c0_2, .int .i64 a0_3] 64 ?_; intro gb197 hg w16 hbox hb; have BK197 := aM hbox; have GW197 := aM ((by rw [hg]; exact (below_size (qB HB)) : w.heap.size ≤ gb197)); have GE197 := aM ((by rw [hg]; exact (below_size (qB HB)) : w.heap.size ≤ gb197)); replace HB := aM (below_step (qB HB) hb); clear hb hbox hg; obtain ⟨hcz17_0, hcz17_1, hcz17_2, hcz17_3⟩ := cz4 BK197; obtain ⟨hfz17_0, hfz17_1, hfz17_2, hfz17_3⟩ := fz4 BK197) | ((with_reducible refine gate_callee (f := 83) rfl ?_); refine gl 5 Try.func83 #[.slice A0_0 l0_0.length c0_0, .int .i64 0, .int .i64 7] ?_; (with_reducible refine (impl_isAscending.calls k _ _ l0_0 0 7 true _ ?side1 ?side2 A2.out).mono ?_); (case side1 => exact qC (Kd.C_below HR0_0.out HB.out)); (case side2 => exact HC0_0.out); rintro e w' ⟨rfl, ⟨nd, rfl⟩⟩; refine ⟨_, rfl, ?_⟩) | (go_at_call 63; (with_reducible refine (impl_InRange.calls a0_1 0 50 false _ A4.out).mono ?_); rintro e w' ⟨rfl, ⟨nd, rfl⟩⟩)); go_ret; exact ⟨tE, tB1 GE197⟩
 ·replace c3 := Bool.eq_false_iff.mpr c3; subst c3; rw [if_neg ff_] at H; obtain rfl := Option.some.inj H; go_enter Try.func41, Try.ntmps41; go_wp2_with (first | ((with_reducible refine gate_dst (N := 1) rfl ?_); (try (refine gate_guard (by rfl) ?_; dsimp only)); refine bx 1 #[.slice A0_0 l0_0.length c0_0, .int .i64 a0_1, .slice A0_2 l0_2.length c0_2, .int .i64 a0_3] 64 ?_; intro gb197 hg w18 hbox hb; have BK197 := aM hbox; have GW197 := aM ((by rw [hg]; exact (below_size (qB HB)) : w.heap.size ≤ gb197)); have GE197 := aM ((by rw [hg]; exact (below_size (qB HB)) : w.heap.size ≤ gb197)); replace HB := aM (below_step (qB HB) hb); clear hb hbox hg; obtain ⟨hcz19_0, hcz19_1, hcz19_2, hcz19_3⟩ := cz4 BK197; obtain ⟨hfz19_0, hfz19_1, hfz19_2, hfz19_3⟩ := fz4 BK197) | ((with_reducible refine gate_callee (f := 83) rfl ?_); refine gl 5 Try.func83 #[.slice A0_0 l0_0.length c0_0, .int .i64 0, .int .i64 7] ?_; (with_reducible refine (impl_isAscending.calls k _ _ l0_0 0 7 false _ ?side1 ?side2 A2.out).mono ?_); (case side1 => exact qC (Kd.C_below HR0_0.out HB.out)); (case side2 => exact HC0_0.out); rintro e w' ⟨rfl, ⟨nd, rfl⟩⟩; refine ⟨_, rfl, ?_⟩)); go_ret; exact ⟨tE, tB1 GE197⟩

/-! ### slices.Grow of the nil row, slices.Concat of two rows of whole numbers: functions 109 and 99 -/
open Go.Proofs.Ytmammjfomgfjhaa.Srt Go.Proofs.Ytmammjfomgfjhaa.Lay
theorem grow0 (w : World) (n : Nat) (hn : n ≤ 4000000) : Calls Try.prog 109 #[.slice none 0 0, .int .i64 (n : Int)] w fun e w' => ∃ v : Value, e = .returned v ∧ Kd.R (Kd.int .i64) 3 w' w.heap.size (fun _ => True) v [] ∧ Below w.heap.size w w' := by
 by_cases h0 : n = 0
 ·subst h0; refine (Any8.slices_Grow_room laysGrow none 0 0 0 w (by omega) (by omega) (by omega) (by omega)).mono ?_; rintro e w' ⟨rfl, rfl⟩; exact ⟨_, rfl, Kd.R_nil _ _ _ _ _, Below.refl _ _⟩
 ·have hinfo : (Try.prog.info? 3).map (fun i => (i.zero, i.size, i.bytes)) = some (some (.int .i64 0), 1, 8) := by kernel_rfl
  obtain ⟨i0, hi, hzz⟩ := Option.map_eq_some_iff.1 hinfo; simp only [Prod.mk.injEq] at hzz; obtain ⟨hz0, hz1, hz2⟩ := hzz; refine (Any8.slices_Grow_grow laysGrow i0 (.int .i64 0) hi hz0 (by omega) none 0 0 n [] w (by omega) (by omega) (by rw [hz2]; omega) (by omega) (by simp) (fun _ => rfl) (fun a ha => by cases ha)).mono ?_; rintro e w' ⟨rfl, rfl⟩; have hG : 0 + n ≤ grownCap w (0 + n) 0 3 := grownCap_ge w _ _ _; have hM := grownCap_le_maxLen w (0 + n) 0 3 (by unfold maxLen; omega); refine ⟨_, rfl, Kd.R_of_own (enc := Value.int .i64) (h1 := fun _ => rfl) (xs := ([] : List Int)) ?_ (fun _ _ => trivial), below_alloc (below_drew (Below.refl _ w)) _⟩; refine ⟨by simp [encs], .inr ⟨w.heap.size, _, _, rfl, Nat.le_refl _, heap_alloc_new w.drew _, Nat.zero_le _, hM, ?_, by simp [encs]⟩⟩; rw [Array.size_append, Array.size_append, size_zeroCells, size_zeroCells]; simp only [Value.cells, List.size_toArray, List.length_nil]; show 0 + (0 + n - 0) * 1 + (grownCap w (0 + n) 0 3 - (0 + n)) * 1 = grownCap w (0 + n) 0 3 * 1; omega
set_option maxHeartbeats 4000000 in
set_option maxRecDepth 100000 in
theorem concat2 (w : World) (g : Nat) (A0 A1 : Option Addr) (c0 c1 : Nat) (l0 l1 : List Int) (hblk : w.heap[g]? = some (.cells #[.slice A0 l0.length c0, .slice A1 l1.length c1] 22 (0, 0)))
 (hr0 : Kd.C (Kd.int .i64) w A0 l0.length l0) (hr1 : Kd.C (Kd.int .i64) w A1 l1.length l1) (hbig : l0.length + l1.length ≤ 4000000) :
 Calls Try.prog 99 #[.slice (some ⟨g, 0, none⟩) 2 2] w fun e w' => ∃ v : Value, e = .returned v ∧ Kd.R (Kd.int .i64) 3 w' w.heap.size (fun _ => True) v (l0 ++ l1) ∧ Below w.heap.size w w' := by
 have hg : g < w.heap.size := blk_lt hblk; have HX0 := aM (show w.cell? ⟨g, 0, none⟩ = some (.slice A0 l0.length c0) from blk_cell hblk 0); have HX1 := aM (show w.cell? ⟨g, 1, none⟩ = some (.slice A1 l1.length c1) from blk_cell hblk 1); have HG := Aside0.mk hg; have HR0 := Aside0.mk hr0; have HR1 := Aside0.mk hr1; have HL := Aside0.mk hbig; have hw0 : wrap64 (l0.length : Int) = (l0.length : Int) := by unfold wrap64; omega
 have hw1 : wrap64 ((l0.length : Int) + (l1.length : Int)) = ((l0.length + l1.length : Nat) : Int) := by unfold wrap64; omega
 have hn0 : ¬ ((l0.length : Int) < 0) := by omega
 have hn1 : ¬ (((l0.length + l1.length : Nat) : Int) < 0) := by omega
 have hinfo : (Try.prog.info? 3).map (fun i => (i.zero, i.size, i.bytes)) = some (some (.int .i64 0), 1, 8) := by kernel_rfl
 clear hblk hr0 hr1 hbig hg; go_enter Try.func99, Try.ntmps99; go_wp2; go_loopg [3, 11] 3 (fun gg s3 s11 wr => Aside0 (Below w.heap.size w wr) ∧ ((gg = 3 ∧ s3 = .int .i64 0 ∧ s11 = .int .i64 0) ∨ (gg = 2 ∧ s3 = .int .i64 (l0.length : Int) ∧ s11 = .int .i64 1) ∨ (gg = 1 ∧ s3 = .int .i64 ((l0.length + l1.length : Nat) : Int) ∧ s11 = .int .i64 2)))
 case atStart => exact ⟨⟨Below.refl _ w⟩, .inl ⟨rfl, rfl, rfl⟩⟩
 case round =>
  obtain ⟨HB, h⟩ := hrel; have hx0 := (HB.out.cell (p := ⟨g, 0, none⟩) HG.out).trans HX0.out; have hx1 := (HB.out.cell (p := ⟨g, 1, none⟩) HG.out).trans HX1.out; rcases h with ⟨rfl, rfl, rfl⟩ | ⟨rfl, rfl, rfl⟩ | ⟨rfl, rfl, rfl⟩
  ·go_wp2; go_roundg 2
   case measure => decide
   case rel => exact ⟨HB, .inr (.inl ⟨rfl, by rw [hw0], rfl⟩)⟩
  ·go_wp2; go_roundg 1
   case measure => decide
   case rel => exact ⟨HB, .inr (.inr ⟨rfl, by rw [hw1], rfl⟩)⟩
  ·go_wp2_with (go_at_call 109; refine (grow0 wr (l0.length + l1.length) HL.out).mono ?_; rintro e w1 ⟨v, rfl, hv, hb⟩); have HB1 := aM (HB.out.trans (hb.mono HB.out.size)); have HV := aM (Kd.R_lower hv HB.out.size); clear hv hb; go_loopg [6, 27] 3 (fun gg s6 s27 wr => Aside0 (Below w.heap.size w wr) ∧ ((gg = 3 ∧ s27 = .int .i64 0 ∧ Aside0 (Kd.R (Kd.int .i64) 3 wr w.heap.size (fun _ => True) s6 [])) ∨ (gg = 2 ∧ s27 = .int .i64 1 ∧ Aside0 (Kd.R (Kd.int .i64) 3 wr w.heap.size (fun _ => True) s6 l0)) ∨ (gg = 1 ∧ s27 = .int .i64 2 ∧ Aside0 (Kd.R (Kd.int .i64) 3 wr w.heap.size (fun _ => True) s6 (l0 ++ l1)))))
   case atStart => exact ⟨HB1, .inl ⟨rfl, rfl, HV⟩⟩
   case round =>
    obtain ⟨HB, h⟩ := hrel; have hx0 := (HB.out.cell (p := ⟨g, 0, none⟩) HG.out).trans HX0.out; have hx1 := (HB.out.cell (p := ⟨g, 1, none⟩) HG.out).trans HX1.out; rcases h with ⟨rfl, rfl, hs⟩ | ⟨rfl, rfl, hs⟩ | ⟨rfl, rfl, hs⟩
    ·have HS := hs; go_wp2_with (first | (at_builtin; refine Kd.R_append_row (Value.int .i64) (0 : Int) (w0 := w) w.heap.size rfl (.tmp 31) (.tmp 32) 22 3 (.int .i64 0) 8 rfl Try.underlying22 hinfo rfl (by decide) _ [] l0 A0 l0.length c0 (fun _ => True) rfl rfl (fun _ _ => trivial) HS.out (Kd.C_below HR0.out HB.out) HB.out HB.out.size (by have := HL.out; (try simp only [List.length_nil]); omega) ?_; intro v1 w1 h1 h2 hg hat)); have HB2 := Aside0.mk h2; have HV2 := Aside0.mk h1; clear h1 h2 hg hat; go_roundg 2
     case measure => decide
     case rel => exact ⟨HB2, .inr (.inl ⟨rfl, rfl, HV2⟩)⟩
    ·have HS := hs; go_wp2_with (first | (at_builtin; refine Kd.R_append_row (Value.int .i64) (0 : Int) (w0 := w) w.heap.size rfl (.tmp 31) (.tmp 32) 22 3 (.int .i64 0) 8 rfl Try.underlying22 hinfo rfl (by decide) _ l0 l1 A1 l1.length c1 (fun _ => True) rfl rfl (fun _ _ => trivial) HS.out (Kd.C_below HR1.out HB.out) HB.out HB.out.size (by have := HL.out; (try simp only [List.length_nil]); omega) ?_; intro v1 w1 h1 h2 hg hat)); have HB2 := Aside0.mk h2; have HV2 := Aside0.mk h1; clear h1 h2 hg hat; go_roundg 1
     case measure => decide
     case rel => exact ⟨HB2, .inr (.inr ⟨rfl, rfl, HV2⟩)⟩
    ·go_wp2; go_ret; exact ⟨_, rfl, hs.out, HB.out⟩
/-! ### impl.united: function 76 -/
def impl_united.f (l0 l1 : List Int) : Option (List Int) := if l0.length + l1.length ≤ 4000000 then some (Go.Lib.compact (sorted (l0 ++ l1))) else none
set_option maxHeartbeats 4000000 in
set_option maxRecDepth 100000 in
theorem impl_united.calls (A0 : Option Addr) (c0 : Nat) (l0 : List Int) (A1 : Option Addr) (c1 : Nat) (l1 : List Int) (r : List Int) (w : World) (hr0 : Kd.C (Kd.int .i64) w A0 l0.length l0) (hc0 : l0.length ≤ c0) (hr1 : Kd.C (Kd.int .i64) w A1 l1.length l1) (hc1 : l1.length ≤ c1) (h : impl_united.f l0 l1 = some r) :
 Calls Try.prog 76 #[.slice A0 l0.length c0, .slice A1 l1.length c1] w fun e w' => ∃ v0_ : Value, e = .returned v0_ ∧ Kd.R (Kd.int .i64) 3 w' w.heap.size (fun _ => True) v0_ r ∧ Below w.heap.size w w' := by
 unfold impl_united.f at h
 by_cases hb : l0.length + l1.length ≤ 4000000
 ·rw [if_pos hb] at h; injection h with h
  subst h; have hb0 : Below w.heap.size w (w.alloc (.cells #[.slice A0 l0.length c0, .slice A1 l1.length c1] 22)) := (Below.refl _ w).alloc (Nat.le_refl _) _; have HC := aM (concat2 (w.alloc (.cells #[.slice A0 l0.length c0, .slice A1 l1.length c1] 22)) w.heap.size A0 A1 c0 c1 l0 l1 (heap_alloc_new w _) (Kd.C_alloc hr0 _) (Kd.C_alloc hr1 _) hb); have HB := Aside0.mk hb0; have HL := Aside0.mk hb; clear hr0 hr1 hb hb0 hc0 hc1; go_enter Try.func76, Try.ntmps76
  go_wp2_with (first
   | (go_at_call 99; refine HC.out.mono ?_; rintro e w1 ⟨v, rfl, hv, hb1⟩)
   | (go_at_call 100; refine (sort_own laysSort 3 (fun _ => True) v (l0 ++ l1) w w1 (HB.out.trans (hb1.mono HB.out.size)) (Kd.R_lower hv HB.out.size) (by have := HL.out; rw [List.length_append]; omega)).mono ?_; rintro e w2 ⟨rfl, hv2, hb2, _⟩)
   | (go_at_call 101; refine (compact_own laysCompact 3 _ v (sorted (l0 ++ l1)) w w2 hb2 hv2).mono ?_; rintro e w3 ⟨v3, rfl, hv3, hb3, _⟩))
  go_ret; exact ⟨_, rfl, Kd.R_mono hv3 (fun _ _ => trivial), hb3⟩
 ·rw [if_neg hb] at h; cases h

end Go.Proofs.Ytmammjfomgfjhaa.PFnExactJoinDoubts
