-- The printed functions of one law and their contracts, over contracts of this session's own (hand.py).
import Derived.Test.YtfolhmompclmbaaPFnExactPutReportx0
namespace Go.Proofs.Ytfolhmompclmbaa.PFnExactPutReport
open Go.RowKit Go.Proofs.YtfolhmompclmbaaW.PrintWords Go.Proofs.YtfolhmompclmbaaW.PrintLast Go.Proofs.YtfolhmompclmbaaW.PrintMore Go.Proofs.Ytfolhmompclmbaa.Short
attribute [local go_sem] max2_int min2_int max_two min_two max_three min_three max_four min_four   -- for this text's walks alone
set_option linter.unusedVariables false
set_option linter.unusedSimpArgs false

-- NOT PRINTED: function 31 (impl_Report_31)

/-! ### slices.IndexFunc at S29: function 31 -/
def idxF29 (p : S29 → Bool) : List S29 → Int → Int
 | [], _ => -1
 | x :: r, i => if p x = true then i else idxF29 p r (i + 1)
set_option maxHeartbeats 2000000 in
set_option maxRecDepth 100000 in
theorem idxF29_calls (p : S29 → Bool) (g : Nat) (lb : Array Value) (eg : ∀ args w, (callFunc g args).run Try.prog w = .ok (.enter g args) w) (A0 : Option Addr) (c0 : Nat) (l0 : List S29) (w : World)
  (hr0 : Kd.C k29 w A0 l0.length l0) (hc0 : l0.length ≤ c0)
  (hp : ∀ (W : World) (x : S29) (A2 : Option Addr) (c2 : Nat) (A5 : Option Addr) (c5 : Nat), Below w.heap.size w W → Calls Try.prog g (#[.agg #[.int .i64 x.f0, .int .i64 x.f1, .slice A2 x.f2.length c2, .int .i64 x.f3, .int .i64 x.f4, .slice A5 x.f5.length c5, .int .i64 x.f6.f0, .int .i64 x.f6.f1]] ++ lb) W fun e w' => e = .returned (.bool (p x)) ∧ Below w.heap.size w w') :
  Calls Try.prog 31 #[.slice A0 l0.length c0, .func (.func g) #[] lb] w fun e w' => e = .returned (.int .i64 (idxF29 p l0 0)) ∧ Below w.heap.size w w' := by
 have hu29 := Try.underlying29
 have D := Aside0.mk hr0
 have HP := Aside0.mk hp
 have hlen : l0.length ≤ 9223372036854775807 := hr0.2.1
 clear hr0 hc0 hp
 go_enter Try.func31, Try.ntmps31
 go_wp2
 go_loopg [5, 8] l0.length (fun gg _ J wr => ∃ x : Int, J = .int .i64 x ∧ Aside0 (0 ≤ x ∧ x ≤ (l0.length : Int) ∧ (l0.length : Int) - x ≤ (gg : Int)) ∧ Aside0 (Below w.heap.size w wr) ∧ Aside0 (idxF29 p l0 0 = idxF29 p (l0.drop x.toNat) x))
 case atStart => exact ⟨0, rfl, ⟨by omega⟩, ⟨Below.refl _ w⟩, ⟨rfl⟩⟩
 case round =>
  obtain ⟨x, rfl, HX, HB, HA⟩ := hrel
  by_cases hlt : x < (l0.length : Int)
  ·obtain ⟨ad, A2, c2, A5, c5, e, hx0, hx1, hx2, hx3, hx4, hx5, hx6, hx7, _, _, _, _⟩ := at_T29 D.out x HX.out.1 hlt
   cases e
   replace hx0 := (HB.out.cell (World.block_lt_of_cell? w _ hx0)).trans hx0
   replace hx1 := (HB.out.cell (World.block_lt_of_cell? w _ hx1)).trans hx1
   replace hx2 := (HB.out.cell (World.block_lt_of_cell? w _ hx2)).trans hx2
   replace hx3 := (HB.out.cell (World.block_lt_of_cell? w _ hx3)).trans hx3
   replace hx4 := (HB.out.cell (World.block_lt_of_cell? w _ hx4)).trans hx4
   replace hx5 := (HB.out.cell (World.block_lt_of_cell? w _ hx5)).trans hx5
   replace hx6 := (HB.out.cell (World.block_lt_of_cell? w _ hx6)).trans hx6
   replace hx7 := (HB.out.cell (World.block_lt_of_cell? w _ hx7)).trans hx7
   have hd : l0.drop x.toNat = rd_T29 l0 x :: l0.drop (x.toNat + 1) := by
    have hlt2 : x.toNat < l0.length := by have := HX.out.1; omega
    rw [show rd_T29 l0 x = l0[x.toNat] by simp [rd_T29, hlt2]]
    exact List.drop_eq_getElem_cons hlt2
   have hcall := HP.out wr (rd_T29 l0 x) A2 c2 A5 c5 HB.out
   have HD := Aside0.mk hd
   have HL := Aside0.mk hlt
   have HW := Aside0.mk (show wrap64 (x + 1) = x + 1 by unfold wrap64; have := HX.out; omega)
   have hb1 : decide (x < (l0.length : Int)) = true := decide_eq_true hlt
   have p0 : 0 ≤ x := HX.out.1
   replace p0 := eq_true p0
   replace hlt := eq_true hlt
   clear hd
   cases hq : p (rd_T29 l0 x) with
   | true =>
    rw [hq] at hcall
    have HQ := Aside0.mk hq
    clear hq
    go_wp2_with (go_at_fn g; refine hcall.mono ?_; rintro e w' ⟨rfl, hb'⟩)
    go_ret
    refine ⟨?_, hb'⟩
    rw [HA.out, HD.out]
    simp only [idxF29]
    rw [if_pos HQ.out]
    rfl
   | false =>
    rw [hq] at hcall
    have HQ := Aside0.mk hq
    clear hq
    go_wp2_with (go_at_fn g; refine hcall.mono ?_; rintro e w' ⟨rfl, hb'⟩)
    go_roundg (l0.length - (x.toNat + 1))
    case measure => have := HX.out; have := HL.out; omega
    case rel =>
     refine ⟨x + 1, ?_, ⟨by have := HX.out; have := HL.out; omega⟩, ⟨hb'⟩, ⟨?_⟩⟩
     ·rw [HW.out]
     ·rw [HA.out, HD.out]
      simp only [idxF29]
      rw [if_neg (by rw [HQ.out]; decide), show (x + 1).toNat = x.toNat + 1 by have := HX.out; omega]
  ·have hb1 : decide (x < (l0.length : Int)) = false := decide_eq_false hlt
   have HL := Aside0.mk hlt
   clear hlt
   go_wp2
   go_ret
   refine ⟨?_, HB.out⟩
   rw [HA.out, List.drop_of_length_le (by have := HX.out; have := HL.out; omega)]
   rfl

/-! ### impl_FindReport: function 8 -/
def impl_FindReport.f (l0 : List (S29)) (a1 : Int) : Option (Int) := some (idxF29 (fun x => x.f0 == a1) l0 0)
theorem impl_FindReport_pred (th : Int) (B : Nat) (w : World) (hB : B < w.heap.size) (hcell : w.cell? ⟨B, 0, none⟩ = some (.int .i64 th)) :
  ∀ (W : World) (x : S29) (A2 : Option Addr) (c2 : Nat) (A5 : Option Addr) (c5 : Nat), Below w.heap.size w W → Calls Try.prog 32 (#[.agg #[.int .i64 x.f0, .int .i64 x.f1, .slice A2 x.f2.length c2, .int .i64 x.f3, .int .i64 x.f4, .slice A5 x.f5.length c5, .int .i64 x.f6.f0, .int .i64 x.f6.f1]] ++ #[.pointer (some ⟨B, 0, none⟩)]) W fun e w' => e = .returned (.bool (x.f0 == th)) ∧ Below w.heap.size w w' := fun W x A2 c2 A5 c5 hb => by
 have hc : W.cell? ⟨B, 0, none⟩ = some (.int .i64 th) := (hb.cell (p := ⟨B, 0, none⟩) hB).trans hcell
 have hBW : B < W.heap.size := Nat.lt_of_lt_of_le hB hb.size
 have hne : B ≠ W.heap.size := by omega
 show Calls Try.prog 32 #[.agg #[.int .i64 x.f0, .int .i64 x.f1, .slice A2 x.f2.length c2, .int .i64 x.f3, .int .i64 x.f4, .slice A5 x.f5.length c5, .int .i64 x.f6.f0, .int .i64 x.f6.f1], .pointer (some ⟨B, 0, none⟩)] W _
 go_enter Try.func32, Try.ntmps32
 go_wp2
 all_goals (go_ret; exact ⟨by simp_all, hb.alloc hb.size _⟩)
set_option maxHeartbeats 2000000 in
set_option maxRecDepth 100000 in
theorem impl_FindReport.calls (A0 : Option Addr) (c0 : Nat) (l0 : List (S29)) (a1 : Int) (r : Int) (w : World) (hr0 : Kd.C k29 w A0 l0.length l0) (hc0 : l0.length ≤ c0) (h : impl_FindReport.f l0 a1 = some r) :
  Calls Try.prog 8 #[.slice A0 l0.length c0, .int .i64 a1] w fun e w' => e = .returned (.int .i64 r) ∧ Below w.heap.size w w' := by
 have eg : ∀ args w, (callFunc 32 args).run Try.prog w = .ok (.enter 32 args) w := enters_of Try.func32 (by kernel_rfl) rfl
 have hb1 : Below w.heap.size w (w.alloc (.cells #[.int .i64 a1] 3)) := (Below.refl _ w).alloc (Nat.le_refl _) _
 have hcon := idxF29_calls (fun x => x.f0 == a1) 32 #[.pointer (some ⟨w.heap.size, 0, none⟩)] eg A0 c0 l0 (w.alloc (.cells #[.int .i64 a1] 3)) (Kd.C_below hr0 hb1) hc0 (impl_FindReport_pred a1 w.heap.size _ (by simp) (by simp))
 have HB := Aside0.mk hb1
 clear hr0 hb1
 rw [impl_FindReport.f] at h
 injection h with h
 generalize idxF29 (fun x => x.f0 == a1) l0 0 = rr at hcon h
 subst h
 go_enter Try.func8, Try.ntmps8
 go_wp2_with (go_at_call 31; refine hcon.mono ?_; rintro e w' ⟨rfl, hb'⟩)
 go_ret
 exact ⟨rfl, HB.out.trans (hb'.mono (by simp))⟩

/-! ### impl_InRange: function 37 -/
def impl_InRange.f (a0 : Int) (a1 : Int) (a2 : Int) : Option (Bool) := if a1 ≤ a0 then (some (decide (a0 ≤ a2))) else (some false)
set_option maxHeartbeats 8000000 in
set_option maxRecDepth 100000 in
theorem impl_InRange.calls (a0 : Int) (a1 : Int) (a2 : Int) (r : Bool) (w : World) (h : impl_InRange.f a0 a1 a2 = some r) :
  Calls Try.prog 37 #[.int .i64 a0, .int .i64 a1, .int .i64 a2] w fun e w' => e = .returned (.bool r) ∧ Drawn0 w w' := by
 have H : (if a1 ≤ a0 then (some (decide (a0 ≤ a2))) else (some false)) = some r := h; clear h; by_cases c4 : a1 ≤ a0
 ·rw [if_pos c4] at H; have c4b0 : decide (a1 ≤ a0) = true := decide_eq_true c4; clear c4; obtain rfl := Option.some.inj H; go_enter Try.func37, Try.ntmps37; go_wp2; go_ret; exact ⟨by first | rfl | (simp; done) | (simp [*]; done), by repeat (first | exact Drawn0.refl _ | apply Drawn0.step)⟩
 ·rw [if_neg c4] at H; have c4b0 : decide (a1 ≤ a0) = false := decide_eq_false c4; clear c4; obtain rfl := Option.some.inj H; go_enter Try.func37, Try.ntmps37; go_wp2; go_ret; exact ⟨by first | rfl | (simp; done) | (simp [*]; done), by repeat (first | exact Drawn0.refl _ | apply Drawn0.step)⟩

/-! ### impl_isAscending: function 38 -/
def impl_isAscending.l0 : Nat → List Int → Int → Int → List Int → Int → Int → Option (Bool)
 | 0, _, _, _, _, _, _ => none
 | k + 1, x0, x1, x2, x9, J, D => if D < J then (if 0 ≤ D then (if D < (x9.length : Int) then ((impl_InRange.f (rd x9 D) x1 x2).bind fun L => (if L = true then (if D > 0 then (if 0 ≤ (wrap64 (D - 1)) then (if (wrap64 (D - 1)) < (x0.length : Int) then (if (rd x9 D) ≤ (rd x0 (wrap64 (D - 1))) then (some false) else (impl_isAscending.l0 k x0 x1 x2 x9 J (wrap64 (D + 1)))) else (none)) else (none)) else (impl_isAscending.l0 k x0 x1 x2 x9 J (wrap64 (D + 1)))) else (some false))) else (none)) else (none)) else (some true)
def impl_isAscending.f (k : Nat) (l0 : List Int) (a1 : Int) (a2 : Int) : Option (Bool) := impl_isAscending.l0 k l0 a1 a2 l0 (l0.length : Int) 0
theorem impl_isAscending.mono_l : ∀ k, (∀ y0 y1 y2 y3 y4 y5, LeO (impl_isAscending.l0 k y0 y1 y2 y3 y4 y5) (impl_isAscending.l0 (k + 1) y0 y1 y2 y3 y4 y5))
 | 0 => fun _ _ _ _ _ _ r h => by simp [impl_isAscending.l0] at h
 | k + 1 => by
  have ih0 := impl_isAscending.mono_l k
  ·intro y0 y1 y2 y3 y4 y5; unfold impl_isAscending.l0
   repeat' first
   | (with_reducible exact ih0 _ _ _ _ _ _)
   | (with_reducible exact LeO.refl _)
   | (with_reducible exact LeO.none _)
   | (with_reducible refine LeO.ite ?_ ?_)
   | (with_reducible refine LeO.bind ?_ (fun _ => ?_))
   | exact ih0 _ _ _ _ _ _
   | exact LeO.none _
   | refine LeO.ite ?_ ?_
   | refine LeO.bind ?_ (fun _ => ?_)
theorem impl_isAscending.mono : ∀ a0 a1 a2 k, LeO (impl_isAscending.f k a0 a1 a2) (impl_isAscending.f (k + 1) a0 a1 a2) := by
 intro a0 a1 a2 k; have ih0 := impl_isAscending.mono_l k; unfold impl_isAscending.f
 repeat' first
   | (with_reducible exact ih0 _ _ _ _ _ _)
   | (with_reducible exact LeO.refl _)
   | (with_reducible exact LeO.none _)
   | (with_reducible refine LeO.ite ?_ ?_)
   | (with_reducible refine LeO.bind ?_ (fun _ => ?_))
   | exact ih0 _ _ _ _ _ _
   | exact LeO.none _
   | refine LeO.ite ?_ ?_
   | refine LeO.bind ?_ (fun _ => ?_)
set_option maxHeartbeats 8000000 in
set_option maxRecDepth 100000 in
theorem impl_isAscending.calls (k : Nat) (A0 : Option Addr) (c0 : Nat) (l0 : List Int) (a1 : Int) (a2 : Int) (r : Bool) (w : World) (hr0 : Kd.C (Kd.int .i64) w A0 l0.length l0) (hc0 : l0.length ≤ c0) (h : impl_isAscending.f k l0 a1 a2 = some r) :
  Calls Try.prog 38 #[.slice A0 l0.length c0, .int .i64 a1, .int .i64 a2] w fun e w' => e = .returned (.bool r) ∧ Drawn0 w w' := by
 have ac := Aside0.mk hr0; have aG := Aside0.mk hc0; clear hr0 hc0; have H : (impl_isAscending.l0 k l0 a1 a2 l0 (l0.length : Int) 0) = some r := h; clear h; have H' := Aside0.mk H; clear H; go_enter Try.func38, Try.ntmps38; go_wp2; go_loopg [11] k (fun kq ay w' => ∃ (D : Int), ay = .int .i64 D ∧ Aside0 (impl_isAscending.l0 kq l0 a1 a2 l0 (l0.length : Int) D = some r) ∧ Aside0 (kq ≤ k) ∧ Drawn0 w w')
 case atStart => exact ⟨(0), tS, H', ⟨Nat.le_refl _⟩, by repeat (first | exact Drawn0.refl _ | apply Drawn0.step)⟩
 case round =>
  clear H'; try clear p2
  try clear c3
  obtain ⟨D, rfl, HA, ak, ⟨m1, rfl⟩⟩ := hrel; cases gk with
  | zero => exact absurd HA.out (by simp [impl_isAscending.l0])
  | succ k1 =>
   have H := HA.out; clear HA; simp only [impl_isAscending.l0] at H; by_cases c4 : D < (l0.length : Int)
   ·rw [if_pos c4] at H; have az : decide (D < (l0.length : Int)) = true := decide_eq_true c4; clear c4; by_cases c5 : 0 ≤ D
    ·rw [if_pos c5] at H; have aI : decide (0 ≤ D) = true := decide_eq_true c5; clear c5; by_cases c6 : D < (l0.length : Int)
     ·rw [if_pos c6] at H; have aJ : decide (D < (l0.length : Int)) = true := decide_eq_true c6; clear c6; replace H := Option.bind_eq_some_iff.mp H; obtain ⟨aA, ax, H⟩ := H; have A7 := Aside0.mk ax; clear ax; by_cases c8 : aA = true
      ·subst c8; rw [if_pos rfl] at H; by_cases c9 : D > 0
       ·rw [if_pos c9] at H; have aC : decide (0 < D) = true := decide_eq_true c9; clear c9; obtain ⟨ji10, ai⟩ : ∃ j_ : Int, (wrap64 (D - 1)) = j_ := ⟨_, rfl⟩
        replace H : (if 0 ≤ (ji10) then (if (ji10) < (l0.length : Int) then (if (rd l0 D) ≤ (rd l0 (ji10)) then (some false) else (impl_isAscending.l0 k1 l0 a1 a2 l0 (l0.length : Int) (wrap64 (D + 1)))) else (none)) else (none)) = some r := by first | (rw [ai] at H; exact H) | (simp only [ai] at H ⊢; exact H)
        (try rw [ai] at A7); have hji10w : (IntKind.i64.wrap (D - 1)) = ji10 := (i64_w _).trans ai; by_cases aq : 0 ≤ (ji10)
        ·rw [if_pos aq] at H; have aK : decide (0 ≤ (ji10)) = true := decide_eq_true aq; clear aq; by_cases ar : (ji10) < (l0.length : Int)
         ·rw [if_pos ar] at H; have aN : decide ((ji10) < (l0.length : Int)) = true := decide_eq_true ar; clear ar; by_cases ag : (rd l0 D) ≤ (rd l0 (ji10))
          ·rw [if_pos ag] at H; have aD : decide ((rd l0 D) ≤ (rd l0 (ji10))) = true := decide_eq_true ag; clear ag; obtain rfl := Option.some.inj H; have J : 0 ≤ (D : Int) := of_decide_eq_true ‹_›; have L : D < (l0.length : Int) := of_decide_eq_true ‹_›; obtain ⟨aj, Y, au⟩ := Kd.at_int ac.out D J L; cases Y
           replace J := eq_true J; replace L := eq_true L; go_wp2_with (first | ((with_reducible refine gate_callee (f := 37) rfl ?_); refine gl 19 Try.func37 #[.int .i64 (rd l0 D), .int .i64 a1, .int .i64 a2] ?_; (with_reducible refine (impl_InRange.calls (rd l0 D) a1 a2 true _ A7.out).mono ?_); rintro e w' ⟨rfl, ⟨nd, rfl⟩⟩; refine ⟨_, rfl, ?_⟩; have aa : 0 ≤ ((ji10) : Int) := of_decide_eq_true ‹_›; have ab : (ji10) < (l0.length : Int) := of_decide_eq_true ‹_›; obtain ⟨av, aw, aE⟩ := Kd.at_int ac.out (ji10) aa ab; obtain rfl : aj = av := (by injection aw); replace aa := eq_true aa; replace ab := eq_true ab)); go_ret; exact ⟨by first | rfl | (simp; done) | (simp only [← ai] <;> (first | rfl | simp)) | (simp [*]; done), by repeat (first | exact Drawn0.refl _ | apply Drawn0.step)⟩
          ·rw [if_neg ag] at H; have aD : decide ((rd l0 D) ≤ (rd l0 (ji10))) = false := decide_eq_false ag; clear ag; have H' := Aside0.mk H; clear H; have J : 0 ≤ (D : Int) := of_decide_eq_true ‹_›; have L : D < (l0.length : Int) := of_decide_eq_true ‹_›; obtain ⟨aj, Y, au⟩ := Kd.at_int ac.out D J L; cases Y
           replace J := eq_true J; replace L := eq_true L; go_wp2_with (first | ((with_reducible refine gate_callee (f := 37) rfl ?_); refine gl 19 Try.func37 #[.int .i64 (rd l0 D), .int .i64 a1, .int .i64 a2] ?_; (with_reducible refine (impl_InRange.calls (rd l0 D) a1 a2 true _ A7.out).mono ?_); rintro e w' ⟨rfl, ⟨nd, rfl⟩⟩; refine ⟨_, rfl, ?_⟩; have aa : 0 ≤ ((ji10) : Int) := of_decide_eq_true ‹_›; have ab : (ji10) < (l0.length : Int) := of_decide_eq_true ‹_›; obtain ⟨av, aw, aE⟩ := Kd.at_int ac.out (ji10) aa ab; obtain rfl : aj = av := (by injection aw); replace aa := eq_true aa; replace ab := eq_true ab)); go_roundg k1
           case measure => have := ak.out; omega
           case rel => exact ⟨(wrap64 (D + 1)), tS, H', ⟨by have := ak.out; omega⟩, by repeat (first | exact Drawn0.refl _ | apply Drawn0.step)⟩
         ·rw [if_neg ar] at H; exact absurd H (by simp)
        ·rw [if_neg aq] at H; exact absurd H (by simp)
       ·rw [if_neg c9] at H; have aC : decide (0 < D) = false := decide_eq_false c9; clear c9; have H' := Aside0.mk H; clear H; have J : 0 ≤ (D : Int) := of_decide_eq_true ‹_›; have L : D < (l0.length : Int) := of_decide_eq_true ‹_›; obtain ⟨aj, Y, au⟩ := Kd.at_int ac.out D J L; cases Y
        replace J := eq_true J; replace L := eq_true L; go_wp2_with (first | ((with_reducible refine gate_callee (f := 37) rfl ?_); refine gl 19 Try.func37 #[.int .i64 (rd l0 D), .int .i64 a1, .int .i64 a2] ?_; (with_reducible refine (impl_InRange.calls (rd l0 D) a1 a2 true _ A7.out).mono ?_); rintro e w' ⟨rfl, ⟨nd, rfl⟩⟩; refine ⟨_, rfl, ?_⟩)); go_roundg k1
        case measure => have := ak.out; omega
        case rel => exact ⟨(wrap64 (D + 1)), tS, H', ⟨by have := ak.out; omega⟩, by repeat (first | exact Drawn0.refl _ | apply Drawn0.step)⟩
      ·replace c8 := Bool.eq_false_iff.mpr c8; subst c8; rw [if_neg ff_] at H; obtain rfl := Option.some.inj H; have J : 0 ≤ (D : Int) := of_decide_eq_true ‹_›; have L : D < (l0.length : Int) := of_decide_eq_true ‹_›; obtain ⟨aj, Y, au⟩ := Kd.at_int ac.out D J L; cases Y
       replace J := eq_true J; replace L := eq_true L; go_wp2_with (first | ((with_reducible refine gate_callee (f := 37) rfl ?_); refine gl 19 Try.func37 #[.int .i64 (rd l0 D), .int .i64 a1, .int .i64 a2] ?_; (with_reducible refine (impl_InRange.calls (rd l0 D) a1 a2 false _ A7.out).mono ?_); rintro e w' ⟨rfl, ⟨nd, rfl⟩⟩; refine ⟨_, rfl, ?_⟩)); go_ret; exact ⟨by first | rfl | (simp; done) | (simp [*]; done), by repeat (first | exact Drawn0.refl _ | apply Drawn0.step)⟩
     ·rw [if_neg c6] at H; exact absurd H (by simp)
    ·rw [if_neg c5] at H; exact absurd H (by simp)
   ·rw [if_neg c4] at H; have az : decide (D < (l0.length : Int)) = false := decide_eq_false c4; clear c4; obtain rfl := Option.some.inj H; go_wp2; go_ret; exact ⟨by first | rfl | (simp; done) | (simp [*]; done), by repeat (first | exact Drawn0.refl _ | apply Drawn0.step)⟩

/-! ### impl_IsSpan: function 39 -/
def impl_IsSpan.f (a0_0 : Int) (a0_1 : Int) : Option (Bool) := (impl_InRange.f a0_0 0 100000).bind fun t105 => (if t105 = true then ((impl_InRange.f a0_1 0 100000).bind fun t106 => (if t106 = true then (some (decide (a0_0 ≤ a0_1))) else (some false))) else (some false))
set_option maxHeartbeats 8000000 in
set_option maxRecDepth 100000 in
theorem impl_IsSpan.calls (a0_0 : Int) (a0_1 : Int) (r : Bool) (w : World) (h : impl_IsSpan.f a0_0 a0_1 = some r) :
  Calls Try.prog 39 #[.agg #[.int .i64 a0_0, .int .i64 a0_1]] w fun e w' => e = .returned (.bool r) ∧ Below w.heap.size w w' := by
 have hu27 := Try.underlying27; have HB := aM (Below.refl w.heap.size w); have H : ((impl_InRange.f a0_0 0 100000).bind fun ab => (if ab = true then ((impl_InRange.f a0_1 0 100000).bind fun ac => (if ac = true then (some (decide (a0_0 ≤ a0_1))) else (some false))) else (some false))) = some r := h; clear h; replace H := Option.bind_eq_some_iff.mp H; obtain ⟨ab, af, H⟩ := H; have A2 := Aside0.mk af; clear af; by_cases Y : ab = true
 ·subst Y; rw [if_pos rfl] at H; replace H := Option.bind_eq_some_iff.mp H; obtain ⟨ac, ag, H⟩ := H; have A4 := Aside0.mk ag; clear ag; by_cases c5 : ac = true
  ·subst c5; rw [if_pos rfl] at H; obtain rfl := Option.some.inj H; go_enter Try.func39, Try.ntmps39; go_wp2_with (first | ((with_reducible refine gate_dst (N := 1) rfl ?_); refine bx 1 #[.int .i64 a0_0, .int .i64 a0_1] 27 ?_; intro D hg w6 hbox hb; have J := aM hbox; have ai := aM ((by rw [hg]; exact (below_size (qB HB)) : w.heap.size ≤ D)); have L := aM ((by rw [hg]; exact (below_size (qB HB)) : w.heap.size ≤ D)); replace HB := aM (below_step (qB HB) hb); clear hb hbox hg; obtain ⟨ak, al⟩ := cz2 J; obtain ⟨am, ao⟩ := fz2 J) | ((with_reducible refine gate_callee (f := 37) rfl ?_); refine gl 5 Try.func37 #[.int .i64 a0_0, .int .i64 0, .int .i64 100000] ?_; (with_reducible refine (impl_InRange.calls a0_0 0 100000 true _ A2.out).mono ?_); rintro e w' ⟨rfl, ⟨nd, rfl⟩⟩; refine ⟨_, rfl, ?_⟩) | (go_at_call 37; (with_reducible refine (impl_InRange.calls a0_1 0 100000 true _ A4.out).mono ?_); rintro e w' ⟨rfl, ⟨nd, rfl⟩⟩)); go_ret; exact ⟨tE, tB1 L⟩
  ·replace c5 := Bool.eq_false_iff.mpr c5; subst c5; rw [if_neg ff_] at H; obtain rfl := Option.some.inj H; go_enter Try.func39, Try.ntmps39; go_wp2_with (first | ((with_reducible refine gate_dst (N := 1) rfl ?_); refine bx 1 #[.int .i64 a0_0, .int .i64 a0_1] 27 ?_; intro D hg w8 hbox hb; have J := aM hbox; have ai := aM ((by rw [hg]; exact (below_size (qB HB)) : w.heap.size ≤ D)); have L := aM ((by rw [hg]; exact (below_size (qB HB)) : w.heap.size ≤ D)); replace HB := aM (below_step (qB HB) hb); clear hb hbox hg; obtain ⟨ar, au⟩ := cz2 J; obtain ⟨av, aw⟩ := fz2 J) | ((with_reducible refine gate_callee (f := 37) rfl ?_); refine gl 5 Try.func37 #[.int .i64 a0_0, .int .i64 0, .int .i64 100000] ?_; (with_reducible refine (impl_InRange.calls a0_0 0 100000 true _ A2.out).mono ?_); rintro e w' ⟨rfl, ⟨nd, rfl⟩⟩; refine ⟨_, rfl, ?_⟩) | (go_at_call 37; (with_reducible refine (impl_InRange.calls a0_1 0 100000 false _ A4.out).mono ?_); rintro e w' ⟨rfl, ⟨nd, rfl⟩⟩)); go_ret; exact ⟨tE, tB1 L⟩
 ·replace Y := Bool.eq_false_iff.mpr Y; subst Y; rw [if_neg ff_] at H; obtain rfl := Option.some.inj H; go_enter Try.func39, Try.ntmps39; go_wp2_with (first | ((with_reducible refine gate_dst (N := 1) rfl ?_); refine bx 1 #[.int .i64 a0_0, .int .i64 a0_1] 27 ?_; intro D hg ax hbox hb; have J := aM hbox; have ai := aM ((by rw [hg]; exact (below_size (qB HB)) : w.heap.size ≤ D)); have L := aM ((by rw [hg]; exact (below_size (qB HB)) : w.heap.size ≤ D)); replace HB := aM (below_step (qB HB) hb); clear hb hbox hg; obtain ⟨ay, az⟩ := cz2 J; obtain ⟨aA, aC⟩ := fz2 J) | ((with_reducible refine gate_callee (f := 37) rfl ?_); refine gl 5 Try.func37 #[.int .i64 a0_0, .int .i64 0, .int .i64 100000] ?_; (with_reducible refine (impl_InRange.calls a0_0 0 100000 false _ A2.out).mono ?_); rintro e w' ⟨rfl, ⟨nd, rfl⟩⟩; refine ⟨_, rfl, ?_⟩)); go_ret; exact ⟨tE, tB1 L⟩

/-! ### impl_IsReport: function 14 -/
def impl_IsReport.f (k : Nat) (a0_0 : Int) (a0_1 : Int) (l0_2 : List Int) (a0_3 : Int) (a0_4 : Int) (l0_5 : List Int) (a0_6 : Int) (a0_7 : Int) : Option (Bool) := (impl_InRange.f a0_0 1 999).bind fun D => (if D = true then ((impl_InRange.f a0_1 1 8).bind fun J => (if J = true then ((impl_isAscending.f k l0_2 0 7).bind fun L => (if L = true then (if 1 ≤ a0_3 then (if a0_3 ≤ a0_4 then (if a0_4 ≤ 50 then ((impl_isAscending.f k l0_5 1 30).bind fun Y => (if Y = true then (if (l0_5.length : Int) ≤ 10 then ((impl_IsSpan.f a0_6 a0_7).bind fun aa => (some aa)) else (some false)) else (some false))) else (some false)) else (some false)) else (some false)) else (some false))) else (some false))) else (some false))
theorem impl_IsReport.mono : ∀ a0 a1 a2 a3 a4 a5 a6 a7 k, LeO (impl_IsReport.f k a0 a1 a2 a3 a4 a5 a6 a7) (impl_IsReport.f (k + 1) a0 a1 a2 a3 a4 a5 a6 a7) := by
 intro a0 a1 a2 a3 a4 a5 a6 a7 k; unfold impl_IsReport.f
 repeat' first
   | (with_reducible exact impl_isAscending.mono _ _ _ _)
   | (with_reducible exact LeO.refl _)
   | (with_reducible exact LeO.none _)
   | (with_reducible refine LeO.ite ?_ ?_)
   | (with_reducible refine LeO.bind ?_ (fun _ => ?_))
   | exact impl_isAscending.mono _ _ _ _
   | exact LeO.none _
   | refine LeO.ite ?_ ?_
   | refine LeO.bind ?_ (fun _ => ?_)
set_option maxHeartbeats 8000000 in
set_option maxRecDepth 100000 in
theorem impl_IsReport.calls (k : Nat) (a0_0 : Int) (a0_1 : Int) (A0_2 : Option Addr) (c0_2 : Nat) (l0_2 : List Int) (a0_3 : Int) (a0_4 : Int) (A0_5 : Option Addr) (c0_5 : Nat) (l0_5 : List Int) (a0_6 : Int) (a0_7 : Int) (r : Bool) (w : World) (hr0_2 : Kd.C (Kd.int .i64) w A0_2 l0_2.length l0_2) (hc0_2 : l0_2.length ≤ c0_2) (hr0_5 : Kd.C (Kd.int .i64) w A0_5 l0_5.length l0_5) (hc0_5 : l0_5.length ≤ c0_5) (h : impl_IsReport.f k a0_0 a0_1 l0_2 a0_3 a0_4 l0_5 a0_6 a0_7 = some r) :
  Calls Try.prog 14 #[.agg #[.int .i64 a0_0, .int .i64 a0_1, .slice A0_2 l0_2.length c0_2, .int .i64 a0_3, .int .i64 a0_4, .slice A0_5 l0_5.length c0_5, .int .i64 a0_6, .int .i64 a0_7]] w fun e w' => e = .returned (.bool r) ∧ Below w.heap.size w w' := by
 have hu29 := Try.underlying29; have hu27 := Try.underlying27; have ac := Aside0.mk hr0_2; have ae := Aside0.mk hc0_2; clear hr0_2 hc0_2; have aq := Aside0.mk hr0_5; have ar := Aside0.mk hc0_5; clear hr0_5 hc0_5; have HB := aM (Below.refl w.heap.size w); have H : ((impl_InRange.f a0_0 1 999).bind fun au => (if au = true then ((impl_InRange.f a0_1 1 8).bind fun av => (if av = true then ((impl_isAscending.f k l0_2 0 7).bind fun aw => (if aw = true then (if 1 ≤ a0_3 then (if a0_3 ≤ a0_4 then (if a0_4 ≤ 50 then ((impl_isAscending.f k l0_5 1 30).bind fun ax => (if ax = true then (if (l0_5.length : Int) ≤ 10 then ((impl_IsSpan.f a0_6 a0_7).bind fun ay => (some ay)) else (some false)) else (some false))) else (some false)) else (some false)) else (some false)) else (some false))) else (some false))) else (some false))) = some r := h; clear h; replace H := Option.bind_eq_some_iff.mp H; obtain ⟨au, aA, H⟩ := H; have Y := Aside0.mk aA; clear aA; by_cases c3 : au = true
 ·subst c3; rw [if_pos rfl] at H; replace H := Option.bind_eq_some_iff.mp H; obtain ⟨av, aC, H⟩ := H; have A4 := Aside0.mk aC; clear aC; by_cases c5 : av = true
  ·subst c5; rw [if_pos rfl] at H; replace H := Option.bind_eq_some_iff.mp H; obtain ⟨aw, aD, H⟩ := H; have A6 := Aside0.mk aD; clear aD; by_cases c7 : aw = true
   ·subst c7; rw [if_pos rfl] at H; by_cases c8 : 1 ≤ a0_3
    ·rw [if_pos c8] at H; have aH : decide (1 ≤ a0_3) = true := decide_eq_true c8; clear c8; by_cases c9 : a0_3 ≤ a0_4
     ·rw [if_pos c9] at H; have aI : decide (a0_3 ≤ a0_4) = true := decide_eq_true c9; clear c9; by_cases ai : a0_4 ≤ 50
      ·rw [if_pos ai] at H; have aJ : decide (a0_4 ≤ 50) = true := decide_eq_true ai; clear ai; replace H := Option.bind_eq_some_iff.mp H; obtain ⟨ax, aE, H⟩ := H; have az := Aside0.mk aE; clear aE; by_cases ao : ax = true
       ·subst ao; rw [if_pos rfl] at H; by_cases aj : (l0_5.length : Int) ≤ 10
        ·rw [if_pos aj] at H; have aK : decide ((l0_5.length : Int) ≤ 10) = true := decide_eq_true aj; have aN : decide (l0_5.length ≤ 10) = true := decide_eq_true (by omega); clear aj; replace H := Option.bind_eq_some_iff.mp H; obtain ⟨ay, aG, H⟩ := H; have aP := Aside0.mk aG; clear aG; obtain rfl := Option.some.inj H; go_enter Try.func14, Try.ntmps14; go_wp2_with (first | ((with_reducible refine gate_dst (N := 1) rfl ?_); (try (refine gate_guard (by rfl) ?_; dsimp only)); refine bx 1 #[.int .i64 a0_0, .int .i64 a0_1, .slice A0_2 l0_2.length c0_2, .int .i64 a0_3, .int .i64 a0_4, .slice A0_5 l0_5.length c0_5, .int .i64 a0_6, .int .i64 a0_7] 29 ?_; intro L hg aQ hbox hb; have D := aM hbox; have ab := aM ((by rw [hg]; exact (below_size (qB HB)) : w.heap.size ≤ L)); have J := aM ((by rw [hg]; exact (below_size (qB HB)) : w.heap.size ≤ L)); replace HB := aM (below_step (qB HB) hb); clear hb hbox hg; obtain ⟨aT, aU, aV, aW, aX, aY, aZ, a8⟩ := cz8 D; obtain ⟨a9, a_, ba, bb, bc, bd, bf, bg⟩ := fz8 D) | ((with_reducible refine gate_callee (f := 37) rfl ?_); refine gl 5 Try.func37 #[.int .i64 a0_0, .int .i64 1, .int .i64 999] ?_; (with_reducible refine (impl_InRange.calls a0_0 1 999 true _ Y.out).mono ?_); rintro e w' ⟨rfl, ⟨nd, rfl⟩⟩; refine ⟨_, rfl, ?_⟩) | (go_at_call 37; (with_reducible refine (impl_InRange.calls a0_1 1 8 true _ A4.out).mono ?_); rintro e w' ⟨rfl, ⟨nd, rfl⟩⟩) | (go_at_call 38; (with_reducible refine (impl_isAscending.calls k _ _ l0_2 0 7 true _ ?side1 ?side2 A6.out).mono ?_); (case side1 => repeat (first | exact (Kd.C_below ac.out (tB1 J)) | (with_reducible refine Kd.C_alloc ?_ _) | (with_reducible refine Kd.C_drewN ?_ _) | (with_reducible refine Kd.C_drew ?_))); (case side2 => exact ae.out); rintro e w' ⟨rfl, ⟨nd, rfl⟩⟩) | (go_at_call 38; (with_reducible refine (impl_isAscending.calls k _ _ l0_5 1 30 true _ ?side1 ?side2 az.out).mono ?_); (case side1 => repeat (first | exact (Kd.C_below aq.out (tB1 J)) | (with_reducible refine Kd.C_alloc ?_ _) | (with_reducible refine Kd.C_drewN ?_ _) | (with_reducible refine Kd.C_drew ?_))); (case side2 => exact ar.out); rintro e w' ⟨rfl, ⟨nd, rfl⟩⟩) | (go_at_call 39; (with_reducible refine (impl_IsSpan.calls a0_6 a0_7 ay _ aP.out).mono ?_); rintro e bh ⟨rfl, hb⟩; replace D := aM (blk_below (qK D) hb); replace HB := aM (below_step (tB1 J) hb); (try clear hb); (try clear hb2); (try clear hk); (try clear hi))); go_ret; exact ⟨tE, tB1 J⟩
        ·rw [if_neg aj] at H; have aK : decide ((l0_5.length : Int) ≤ 10) = false := decide_eq_false aj; have aN : decide (l0_5.length ≤ 10) = false := decide_eq_false (by omega); clear aj; obtain rfl := Option.some.inj H; go_enter Try.func14, Try.ntmps14; go_wp2_with (first | ((with_reducible refine gate_dst (N := 1) rfl ?_); (try (refine gate_guard (by rfl) ?_; dsimp only)); refine bx 1 #[.int .i64 a0_0, .int .i64 a0_1, .slice A0_2 l0_2.length c0_2, .int .i64 a0_3, .int .i64 a0_4, .slice A0_5 l0_5.length c0_5, .int .i64 a0_6, .int .i64 a0_7] 29 ?_; intro L hg bi hbox hb; have D := aM hbox; have ab := aM ((by rw [hg]; exact (below_size (qB HB)) : w.heap.size ≤ L)); have J := aM ((by rw [hg]; exact (below_size (qB HB)) : w.heap.size ≤ L)); replace HB := aM (below_step (qB HB) hb); clear hb hbox hg; obtain ⟨bj, bk, bl, bm, bn, bo, bp, bq⟩ := cz8 D; obtain ⟨br, bs, bt, bu, bv, bw, bz, bB⟩ := fz8 D) | ((with_reducible refine gate_callee (f := 37) rfl ?_); refine gl 5 Try.func37 #[.int .i64 a0_0, .int .i64 1, .int .i64 999] ?_; (with_reducible refine (impl_InRange.calls a0_0 1 999 true _ Y.out).mono ?_); rintro e w' ⟨rfl, ⟨nd, rfl⟩⟩; refine ⟨_, rfl, ?_⟩) | (go_at_call 37; (with_reducible refine (impl_InRange.calls a0_1 1 8 true _ A4.out).mono ?_); rintro e w' ⟨rfl, ⟨nd, rfl⟩⟩) | (go_at_call 38; (with_reducible refine (impl_isAscending.calls k _ _ l0_2 0 7 true _ ?side1 ?side2 A6.out).mono ?_); (case side1 => repeat (first | exact (Kd.C_below ac.out (tB1 J)) | (with_reducible refine Kd.C_alloc ?_ _) | (with_reducible refine Kd.C_drewN ?_ _) | (with_reducible refine Kd.C_drew ?_))); (case side2 => exact ae.out); rintro e w' ⟨rfl, ⟨nd, rfl⟩⟩) | (go_at_call 38; (with_reducible refine (impl_isAscending.calls k _ _ l0_5 1 30 true _ ?side1 ?side2 az.out).mono ?_); (case side1 => repeat (first | exact (Kd.C_below aq.out (tB1 J)) | (with_reducible refine Kd.C_alloc ?_ _) | (with_reducible refine Kd.C_drewN ?_ _) | (with_reducible refine Kd.C_drew ?_))); (case side2 => exact ar.out); rintro e w' ⟨rfl, ⟨nd, rfl⟩⟩)); go_ret; exact ⟨tE, tB1 J⟩
       ·replace ao := Bool.eq_false_iff.mpr ao; subst ao; rw [if_neg ff_] at H; obtain rfl := Option.some.inj H; go_enter Try.func14, Try.ntmps14; go_wp2_with (first | ((with_reducible refine gate_dst (N := 1) rfl ?_); (try (refine gate_guard (by rfl) ?_; dsimp only)); refine bx 1 #[.int .i64 a0_0, .int .i64 a0_1, .slice A0_2 l0_2.length c0_2, .int .i64 a0_3, .int .i64 a0_4, .slice A0_5 l0_5.length c0_5, .int .i64 a0_6, .int .i64 a0_7] 29 ?_; intro L hg bC hbox hb; have D := aM hbox; have ab := aM ((by rw [hg]; exact (below_size (qB HB)) : w.heap.size ≤ L)); have J := aM ((by rw [hg]; exact (below_size (qB HB)) : w.heap.size ≤ L)); replace HB := aM (below_step (qB HB) hb); clear hb hbox hg; obtain ⟨bE, bF, bG, bH, bI, bJ, bK, bL⟩ := cz8 D; obtain ⟨bM, bO, bP, bQ, bT, bU, bV, bW⟩ := fz8 D) | ((with_reducible refine gate_callee (f := 37) rfl ?_); refine gl 5 Try.func37 #[.int .i64 a0_0, .int .i64 1, .int .i64 999] ?_; (with_reducible refine (impl_InRange.calls a0_0 1 999 true _ Y.out).mono ?_); rintro e w' ⟨rfl, ⟨nd, rfl⟩⟩; refine ⟨_, rfl, ?_⟩) | (go_at_call 37; (with_reducible refine (impl_InRange.calls a0_1 1 8 true _ A4.out).mono ?_); rintro e w' ⟨rfl, ⟨nd, rfl⟩⟩) | (go_at_call 38; (with_reducible refine (impl_isAscending.calls k _ _ l0_2 0 7 true _ ?side1 ?side2 A6.out).mono ?_); (case side1 => repeat (first | exact (Kd.C_below ac.out (tB1 J)) | (with_reducible refine Kd.C_alloc ?_ _) | (with_reducible refine Kd.C_drewN ?_ _) | (with_reducible refine Kd.C_drew ?_))); (case side2 => exact ae.out); rintro e w' ⟨rfl, ⟨nd, rfl⟩⟩) | (go_at_call 38; (with_reducible refine (impl_isAscending.calls k _ _ l0_5 1 30 false _ ?side1 ?side2 az.out).mono ?_); (case side1 => repeat (first | exact (Kd.C_below aq.out (tB1 J)) | (with_reducible refine Kd.C_alloc ?_ _) | (with_reducible refine Kd.C_drewN ?_ _) | (with_reducible refine Kd.C_drew ?_))); (case side2 => exact ar.out); rintro e w' ⟨rfl, ⟨nd, rfl⟩⟩)); go_ret; exact ⟨tE, tB1 J⟩
      ·rw [if_neg ai] at H; have aJ : decide (a0_4 ≤ 50) = false := decide_eq_false ai; clear ai; obtain rfl := Option.some.inj H; go_enter Try.func14, Try.ntmps14; go_wp2_with (first | ((with_reducible refine gate_dst (N := 1) rfl ?_); (try (refine gate_guard (by rfl) ?_; dsimp only)); refine bx 1 #[.int .i64 a0_0, .int .i64 a0_1, .slice A0_2 l0_2.length c0_2, .int .i64 a0_3, .int .i64 a0_4, .slice A0_5 l0_5.length c0_5, .int .i64 a0_6, .int .i64 a0_7] 29 ?_; intro L hg bX hbox hb; have D := aM hbox; have ab := aM ((by rw [hg]; exact (below_size (qB HB)) : w.heap.size ≤ L)); have J := aM ((by rw [hg]; exact (below_size (qB HB)) : w.heap.size ≤ L)); replace HB := aM (below_step (qB HB) hb); clear hb hbox hg; obtain ⟨bZ, b0, b1, b3, b4, b6, b7, b8⟩ := cz8 D; obtain ⟨b9, b_, ca, cc, cd, ce, cf, cg⟩ := fz8 D) | ((with_reducible refine gate_callee (f := 37) rfl ?_); refine gl 5 Try.func37 #[.int .i64 a0_0, .int .i64 1, .int .i64 999] ?_; (with_reducible refine (impl_InRange.calls a0_0 1 999 true _ Y.out).mono ?_); rintro e w' ⟨rfl, ⟨nd, rfl⟩⟩; refine ⟨_, rfl, ?_⟩) | (go_at_call 37; (with_reducible refine (impl_InRange.calls a0_1 1 8 true _ A4.out).mono ?_); rintro e w' ⟨rfl, ⟨nd, rfl⟩⟩) | (go_at_call 38; (with_reducible refine (impl_isAscending.calls k _ _ l0_2 0 7 true _ ?side1 ?side2 A6.out).mono ?_); (case side1 => repeat (first | exact (Kd.C_below ac.out (tB1 J)) | (with_reducible refine Kd.C_alloc ?_ _) | (with_reducible refine Kd.C_drewN ?_ _) | (with_reducible refine Kd.C_drew ?_))); (case side2 => exact ae.out); rintro e w' ⟨rfl, ⟨nd, rfl⟩⟩)); go_ret; exact ⟨tE, tB1 J⟩
     ·rw [if_neg c9] at H; have aI : decide (a0_3 ≤ a0_4) = false := decide_eq_false c9; clear c9; obtain rfl := Option.some.inj H; go_enter Try.func14, Try.ntmps14; go_wp2_with (first | ((with_reducible refine gate_dst (N := 1) rfl ?_); (try (refine gate_guard (by rfl) ?_; dsimp only)); refine bx 1 #[.int .i64 a0_0, .int .i64 a0_1, .slice A0_2 l0_2.length c0_2, .int .i64 a0_3, .int .i64 a0_4, .slice A0_5 l0_5.length c0_5, .int .i64 a0_6, .int .i64 a0_7] 29 ?_; intro L hg ch hbox hb; have D := aM hbox; have ab := aM ((by rw [hg]; exact (below_size (qB HB)) : w.heap.size ≤ L)); have J := aM ((by rw [hg]; exact (below_size (qB HB)) : w.heap.size ≤ L)); replace HB := aM (below_step (qB HB) hb); clear hb hbox hg; obtain ⟨ci, cj, ck, cl, cm, cn, co, cp⟩ := cz8 D; obtain ⟨cq, cr, ct, cu, cw, cx, cy, cz⟩ := fz8 D) | ((with_reducible refine gate_callee (f := 37) rfl ?_); refine gl 5 Try.func37 #[.int .i64 a0_0, .int .i64 1, .int .i64 999] ?_; (with_reducible refine (impl_InRange.calls a0_0 1 999 true _ Y.out).mono ?_); rintro e w' ⟨rfl, ⟨nd, rfl⟩⟩; refine ⟨_, rfl, ?_⟩) | (go_at_call 37; (with_reducible refine (impl_InRange.calls a0_1 1 8 true _ A4.out).mono ?_); rintro e w' ⟨rfl, ⟨nd, rfl⟩⟩) | (go_at_call 38; (with_reducible refine (impl_isAscending.calls k _ _ l0_2 0 7 true _ ?side1 ?side2 A6.out).mono ?_); (case side1 => repeat (first | exact (Kd.C_below ac.out (tB1 J)) | (with_reducible refine Kd.C_alloc ?_ _) | (with_reducible refine Kd.C_drewN ?_ _) | (with_reducible refine Kd.C_drew ?_))); (case side2 => exact ae.out); rintro e w' ⟨rfl, ⟨nd, rfl⟩⟩)); go_ret; exact ⟨tE, tB1 J⟩
    ·rw [if_neg c8] at H; have aH : decide (1 ≤ a0_3) = false := decide_eq_false c8; clear c8; obtain rfl := Option.some.inj H; go_enter Try.func14, Try.ntmps14; go_wp2_with (first | ((with_reducible refine gate_dst (N := 1) rfl ?_); (try (refine gate_guard (by rfl) ?_; dsimp only)); refine bx 1 #[.int .i64 a0_0, .int .i64 a0_1, .slice A0_2 l0_2.length c0_2, .int .i64 a0_3, .int .i64 a0_4, .slice A0_5 l0_5.length c0_5, .int .i64 a0_6, .int .i64 a0_7] 29 ?_; intro L hg cA hbox hb; have D := aM hbox; have ab := aM ((by rw [hg]; exact (below_size (qB HB)) : w.heap.size ≤ L)); have J := aM ((by rw [hg]; exact (below_size (qB HB)) : w.heap.size ≤ L)); replace HB := aM (below_step (qB HB) hb); clear hb hbox hg; obtain ⟨cD, cE, cF, cG, cH, cI, cJ, cK⟩ := cz8 D; obtain ⟨cL, cM, cN, cO, cP, cQ, cR, cS⟩ := fz8 D) | ((with_reducible refine gate_callee (f := 37) rfl ?_); refine gl 5 Try.func37 #[.int .i64 a0_0, .int .i64 1, .int .i64 999] ?_; (with_reducible refine (impl_InRange.calls a0_0 1 999 true _ Y.out).mono ?_); rintro e w' ⟨rfl, ⟨nd, rfl⟩⟩; refine ⟨_, rfl, ?_⟩) | (go_at_call 37; (with_reducible refine (impl_InRange.calls a0_1 1 8 true _ A4.out).mono ?_); rintro e w' ⟨rfl, ⟨nd, rfl⟩⟩) | (go_at_call 38; (with_reducible refine (impl_isAscending.calls k _ _ l0_2 0 7 true _ ?side1 ?side2 A6.out).mono ?_); (case side1 => repeat (first | exact (Kd.C_below ac.out (tB1 J)) | (with_reducible refine Kd.C_alloc ?_ _) | (with_reducible refine Kd.C_drewN ?_ _) | (with_reducible refine Kd.C_drew ?_))); (case side2 => exact ae.out); rintro e w' ⟨rfl, ⟨nd, rfl⟩⟩)); go_ret; exact ⟨tE, tB1 J⟩
   ·replace c7 := Bool.eq_false_iff.mpr c7; subst c7; rw [if_neg ff_] at H; obtain rfl := Option.some.inj H; go_enter Try.func14, Try.ntmps14; go_wp2_with (first | ((with_reducible refine gate_dst (N := 1) rfl ?_); (try (refine gate_guard (by rfl) ?_; dsimp only)); refine bx 1 #[.int .i64 a0_0, .int .i64 a0_1, .slice A0_2 l0_2.length c0_2, .int .i64 a0_3, .int .i64 a0_4, .slice A0_5 l0_5.length c0_5, .int .i64 a0_6, .int .i64 a0_7] 29 ?_; intro L hg cT hbox hb; have D := aM hbox; have ab := aM ((by rw [hg]; exact (below_size (qB HB)) : w.heap.size ≤ L)); have J := aM ((by rw [hg]; exact (below_size (qB HB)) : w.heap.size ≤ L)); replace HB := aM (below_step (qB HB) hb); clear hb hbox hg; obtain ⟨cU, cV, cW, cX, cY, cZ, c_, da⟩ := cz8 D; obtain ⟨db, dd, de, df, dg, dh, di, dj⟩ := fz8 D) | ((with_reducible refine gate_callee (f := 37) rfl ?_); refine gl 5 Try.func37 #[.int .i64 a0_0, .int .i64 1, .int .i64 999] ?_; (with_reducible refine (impl_InRange.calls a0_0 1 999 true _ Y.out).mono ?_); rintro e w' ⟨rfl, ⟨nd, rfl⟩⟩; refine ⟨_, rfl, ?_⟩) | (go_at_call 37; (with_reducible refine (impl_InRange.calls a0_1 1 8 true _ A4.out).mono ?_); rintro e w' ⟨rfl, ⟨nd, rfl⟩⟩) | (go_at_call 38; (with_reducible refine (impl_isAscending.calls k _ _ l0_2 0 7 false _ ?side1 ?side2 A6.out).mono ?_); (case side1 => repeat (first | exact (Kd.C_below ac.out (tB1 J)) | (with_reducible refine Kd.C_alloc ?_ _) | (with_reducible refine Kd.C_drewN ?_ _) | (with_reducible refine Kd.C_drew ?_))); (case side2 => exact ae.out); rintro e w' ⟨rfl, ⟨nd, rfl⟩⟩)); go_ret; exact ⟨tE, tB1 J⟩
  ·replace c5 := Bool.eq_false_iff.mpr c5; subst c5; rw [if_neg ff_] at H; obtain rfl := Option.some.inj H; go_enter Try.func14, Try.ntmps14; go_wp2_with (first | ((with_reducible refine gate_dst (N := 1) rfl ?_); (try (refine gate_guard (by rfl) ?_; dsimp only)); refine bx 1 #[.int .i64 a0_0, .int .i64 a0_1, .slice A0_2 l0_2.length c0_2, .int .i64 a0_3, .int .i64 a0_4, .slice A0_5 l0_5.length c0_5, .int .i64 a0_6, .int .i64 a0_7] 29 ?_; intro L hg dk hbox hb; have D := aM hbox; have ab := aM ((by rw [hg]; exact (below_size (qB HB)) : w.heap.size ≤ L)); have J := aM ((by rw [hg]; exact (below_size (qB HB)) : w.heap.size ≤ L)); replace HB := aM (below_step (qB HB) hb); clear hb hbox hg; obtain ⟨dl, dm, dn, dp, dq, dr, dt, du⟩ := cz8 D; obtain ⟨dv, dw, dx, dy, dz, dA, dC, dD⟩ := fz8 D) | ((with_reducible refine gate_callee (f := 37) rfl ?_); refine gl 5 Try.func37 #[.int .i64 a0_0, .int .i64 1, .int .i64 999] ?_; (with_reducible refine (impl_InRange.calls a0_0 1 999 true _ Y.out).mono ?_); rintro e w' ⟨rfl, ⟨nd, rfl⟩⟩; refine ⟨_, rfl, ?_⟩) | (go_at_call 37; (with_reducible refine (impl_InRange.calls a0_1 1 8 false _ A4.out).mono ?_); rintro e w' ⟨rfl, ⟨nd, rfl⟩⟩)); go_ret; exact ⟨tE, tB1 J⟩
 ·replace c3 := Bool.eq_false_iff.mpr c3; subst c3; rw [if_neg ff_] at H; obtain rfl := Option.some.inj H; go_enter Try.func14, Try.ntmps14; go_wp2_with (first | ((with_reducible refine gate_dst (N := 1) rfl ?_); (try (refine gate_guard (by rfl) ?_; dsimp only)); refine bx 1 #[.int .i64 a0_0, .int .i64 a0_1, .slice A0_2 l0_2.length c0_2, .int .i64 a0_3, .int .i64 a0_4, .slice A0_5 l0_5.length c0_5, .int .i64 a0_6, .int .i64 a0_7] 29 ?_; intro L hg dE hbox hb; have D := aM hbox; have ab := aM ((by rw [hg]; exact (below_size (qB HB)) : w.heap.size ≤ L)); have J := aM ((by rw [hg]; exact (below_size (qB HB)) : w.heap.size ≤ L)); replace HB := aM (below_step (qB HB) hb); clear hb hbox hg; obtain ⟨dF, dG, dH, dI, dJ, dL, dM, dN⟩ := cz8 D; obtain ⟨dO, dP, dQ, dS, dU, dV, dW, dX⟩ := fz8 D) | ((with_reducible refine gate_callee (f := 37) rfl ?_); refine gl 5 Try.func37 #[.int .i64 a0_0, .int .i64 1, .int .i64 999] ?_; (with_reducible refine (impl_InRange.calls a0_0 1 999 false _ Y.out).mono ?_); rintro e w' ⟨rfl, ⟨nd, rfl⟩⟩; refine ⟨_, rfl, ?_⟩)); go_ret; exact ⟨tE, tB1 J⟩

end Go.Proofs.Ytfolhmompclmbaa.PFnExactPutReport
