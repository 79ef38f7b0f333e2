/-
  The program's PutMark answers as the reference's does, for all arguments. It has no conditions.
-/
import Derived.Test.YtkfalbaklodnjaaShFnExactPutMark
import Derived.Test.YtkfalbaklodnjaaEqFnExactPutMark
import Derived.Test.YtkfalbaklodnjaaBase
set_option linter.unusedVariables false
set_option linter.unusedSimpArgs false
namespace Go.Proofs.Ytkfalbaklodnjaa.PFnExactPutMark.Pure
open Go.RowKit Go.Proofs.YtkfalbaklodnjaaW.PrintWords Go.Proofs.YtkfalbaklodnjaaW.PrintLast Go.Proofs.YtkfalbaklodnjaaW.PrintMore Go.Proofs.Ytkfalbaklodnjaa.PFnExactPutMark Go.Proofs.Ytkfalbaklodnjaa.Lim Go.Proofs.Ytkfalbaklodnjaa.Base
set_option maxRecDepth 100000

theorem szMarkS (l : List S24) (a : Int) (ha : 0 ≤ a ∧ a ≤ 1048576) (hl : l.length ≤ maxLen) : laws_szMarkS.f l a = some (if a < (l.length : Int) then -1 else a - (l.length : Int)) := by
  simp only [maxLen] at hl
  unfold laws_szMarkS.f
  rw [wrap_in _ (by omega)]
  by_cases h : a < (l.length : Int)
  · rw [if_pos (by omega), if_pos h]
  · rw [if_neg (by omega), if_neg h]

def cvMark (y : S24) : S30 := ⟨y.f0, y.f1⟩
theorem toMarkS_l0 (l : List S24) (hn : l.length ≤ 1048576) : ∀ (d i : Nat) (acc : List S30), i + d = l.length → acc.length = l.length → acc.take i = (l.take i).map cvMark → laws_toMarkS.L0 l acc (i : Int) = some (l.map cvMark)
  | 0, i, acc, h, ha, ht => by
    rw [laws_toMarkS.L0_eq, if_neg (by omega)]
    rw [List.take_of_length_le (by omega), List.take_of_length_le (by omega)] at ht
    rw [ht]
  | d + 1, i, acc, h, ha, ht => by
    have hi : i < l.length := by omega
    rw [laws_toMarkS.L0_eq, if_pos (by omega), if_pos (by omega)]
    simp only [laws_toMark.f, Option.bind_some, wrap_succ i (by omega)]
    rw [if_pos (by omega)]
    refine toMarkS_l0 l hn d (i + 1) _ (by omega) (by rw [List.length_set]; exact ha) ?_
    rw [Int.toNat_natCast]
    exact fill_step l cvMark acc i ha hi ht _ (by simp [rd_T24, cvMark, hi])
theorem toMarkS (l : List S24) (hn : l.length ≤ 1048576) : laws_toMarkS.F l = some (l.map cvMark) := by
  rw [laws_toMarkS.F_eq, if_pos (by omega), if_pos (by omega)]
  exact toMarkS_l0 l hn l.length 0 _ (by omega) (by simp) (by simp)

theorem eqMarkS_l0 (l : List S30) (hn : l.length ≤ 1048576) : ∀ (d i : Nat), i + d = l.length → laws_eqMarkS.L0 l l (i : Int) = some true
  | 0, i, h => by rw [laws_eqMarkS.L0_eq, if_neg (by omega)]
  | d + 1, i, h => by
    rw [laws_eqMarkS.L0_eq, if_pos (by omega), if_pos (by omega), if_pos (by omega)]
    simp only [laws_eqMark.f, if_true, Option.bind_some, wrap_succ i (by omega)]
    exact eqMarkS_l0 l hn d (i + 1) (by omega)
theorem eqMarkS (l : List S30) (hn : l.length ≤ 1048576) : laws_eqMarkS.F l l = some true := by
  rw [laws_eqMarkS.F_eq, if_pos rfl]
  exact eqMarkS_l0 l hn l.length 0 (by omega)

theorem rdMark_at (l : List S30) (i : Nat) : rd_T30 l (i : Int) = l.getD i z30 := by simp [rd_T30]
theorem dropMark (l : List S30) (i : Nat) (h : i < l.length) : l.drop i = rd_T30 l (i : Int) :: l.drop (i + 1) := by
  rw [rdMark_at, getD_get l i _ h]
  exact List.drop_eq_getElem_cons h

def lineMark (k : Int) (n : Nat) : List S30 := (List.range n).map (fun j : Nat => (⟨k + 2 * (j : Int), k + 2 * (j : Int) + 1⟩ : S30))
theorem lineMark_len (k : Int) (n : Nat) : (lineMark k n).length = n := by simp [lineMark]
theorem rdsetMark (l : List S30) (i : Nat) (v : S30) (h : i < l.length) : rd_T30 (l.set i v) (i : Int) = v := by simp [rd_T30, h]
theorem markMarkS_l0 (k : Int) (n : Nat) (hk : 0 ≤ k ∧ k ≤ 67108864) (hn : n ≤ 1048576) : ∀ (d i : Nat) (acc : List S30), i + d = n → acc.length = n → acc.take i = ((List.range n).take i).map (fun j : Nat => (⟨k + 2 * (j : Int), k + 2 * (j : Int) + 1⟩ : S30)) → laws_markMarkS.L0 acc (k + 2 * (i : Int)) (i : Int) = some (k + 2 * (n : Int), lineMark k n)
  | 0, i, acc, h, ha, ht => by
    rw [laws_markMarkS.L0_eq, if_neg (by omega)]
    rw [List.take_of_length_le (by omega), List.take_of_length_le (by simp; omega)] at ht
    rw [ht, show i = n by omega]; rfl
  | d + 1, i, acc, h, ha, ht => by
    have hi : i < acc.length := by omega
    rw [laws_markMarkS.L0_eq, if_pos (by omega), if_pos (by omega)]
    simp only [Option.bind_some, Int.toNat_natCast, rdsetMark, List.length_set, hi, List.set_set, wrap_succ i (by omega)]
    simp only [wrap_in (k + 2 * (i : Int) + 1) (by omega), wrap_in (k + 2 * (i : Int) + 1 + 1) (by omega)]
    rw [show k + 2 * (i : Int) + 1 + 1 = k + 2 * ((i + 1 : Nat) : Int) by omega]
    refine markMarkS_l0 k n hk hn d (i + 1) _ (by omega) (by rw [List.length_set]; exact ha) ?_
    exact fill_step (List.range n) (fun j : Nat => (⟨k + 2 * (j : Int), k + 2 * (j : Int) + 1⟩ : S30)) acc i (by simp [ha]) (by simp; omega) ht _ (by simp <;> omega)
theorem markMarkS (l : List S30) (k : Int) (hk : 0 ≤ k ∧ k ≤ 67108864) (hn : l.length ≤ 1048576) : laws_markMarkS.F l k = some (k + 2 * (l.length : Int), lineMark k l.length) := by
  rw [laws_markMarkS.F_eq]
  have := markMarkS_l0 k l.length hk hn l.length 0 l (by omega) rfl (by simp)
  simpa using this

theorem heldMarkS_l0 (k : Int) (n : Nat) (hk : 0 ≤ k ∧ k ≤ 67108864) (hn : n ≤ 1048576) : ∀ (d i : Nat), i + d = n → laws_heldMarkS.L0 (lineMark k n) (k + 2 * (i : Int)) (i : Int) = some (k + 2 * (n : Int))
  | 0, i, h => by rw [laws_heldMarkS.L0_eq, lineMark_len, if_neg (by omega), show i = n by omega]
  | d + 1, i, h => by
    have hr : rd_T30 (lineMark k n) (i : Int) = (⟨k + 2 * (i : Int), k + 2 * (i : Int) + 1⟩ : S30) := by simp [rd_T30, lineMark, show i < n by omega]
    rw [laws_heldMarkS.L0_eq, lineMark_len, if_pos (by omega), if_pos (by omega), hr]
    simp only [wrap_succ i (by omega), wrap_in (k + 2 * (i : Int) + 1) (by omega), wrap_in (k + 2 * (i : Int) + 1 + 1) (by omega)]
    repeat rw [if_pos (by first | trivial | omega)]
    rw [show k + 2 * (i : Int) + 1 + 1 = k + 2 * ((i + 1 : Nat) : Int) by omega]
    exact heldMarkS_l0 k n hk hn d (i + 1) (by omega)
theorem heldMarkS (k : Int) (n : Nat) (hk : 0 ≤ k ∧ k ≤ 67108864) (hn : n ≤ 1048576) : laws_heldMarkS.F (lineMark k n) k = some (k + 2 * (n : Int)) := by
  rw [laws_heldMarkS.F_eq]
  have := heldMarkS_l0 k n hk hn n 0 (by omega)
  simpa using this

def okMark (l : List S30) (i : Nat) : Prop := inR (rd_T30 l i).f0 1 20 = true ∧ inR (rd_T30 l i).f1 0 99 = true ∧ ((i : Int) > 0 → (rd_T30 l ((i : Int) - 1)).f0 < (rd_T30 l i).f0)
noncomputable def areMarks (l : List S30) : Bool := allF (okMark l) l.length 0 && decide ((l.length : Int) ≤ 8)

def leadM (q : Int) : List S30 → Nat
  | [] => 0
  | m :: r => if m.f0 < q then leadM q r + 1 else 0
theorem leadM_le (q : Int) : ∀ l : List S30, leadM q l ≤ l.length
  | [] => Nat.le_refl _
  | m :: r => by
    have := leadM_le q r
    simp only [leadM, List.length_cons]
    split <;> omega
def rowM (l : List S30) (k : Nat) (same : Bool) (q a : Int) : List S30 := l.take k ++ [(⟨q, a⟩ : S30)] ++ (if same = true then (l.drop k).drop 1 else l.drop k)
noncomputable def sameM (l : List S30) (k : Nat) (q : Int) : Bool := decide (k < l.length ∧ (rd_T30 l (k : Int)).f0 = q)
noncomputable def putRowM (l : List S30) (q a : Int) : List S30 := rowM l (leadM q l) (sameM l (leadM q l) q) q a
noncomputable def putMark (l : List S30) (q a : Int) : List S30 × Bool := if areMarks (putRowM l q a) = true then (putRowM l q a, true) else (l, false)
theorem rowM_len (l : List S30) (k : Nat) (same : Bool) (q a : Int) (hk : k ≤ l.length) : (rowM l k same q a).length ≤ l.length + 1 := by
  unfold rowM
  rw [List.length_append, List.length_append, List.length_take, List.length_singleton]
  split
  · rw [List.length_drop, List.length_drop]; omega
  · rw [List.length_drop]; omega
theorem putRowM_len (l : List S30) (q a : Int) : (putRowM l q a).length ≤ l.length + 1 := rowM_len _ _ _ _ _ (leadM_le q l)
theorem putMark_len (l : List S30) (q a : Int) : (putMark l q a).1.length ≤ l.length + 1 := by
  unfold putMark
  split
  · exact putRowM_len l q a
  · exact Nat.le_succ _
theorem leadM_step (q : Int) (l : List S30) (i : Nat) (hi : i < l.length) : i + leadM q (l.drop i) = if (rd_T30 l (i : Int)).f0 < q then i + 1 + leadM q (l.drop (i + 1)) else i := by
  rw [dropMark l i hi, leadM]
  split <;> omega
theorem rdMark_drop (l : List S30) (k : Nat) : rd_T30 (l.drop k) 0 = rd_T30 l (k : Int) := by
  have h := rdMark_at (l.drop k) 0
  have e : ((0 : Nat) : Int) = 0 := rfl
  rw [e] at h
  rw [h, rdMark_at, List.getD_eq_getElem?_getD, List.getD_eq_getElem?_getD, List.getElem?_drop, Nat.add_zero]

theorem l1In (a b c : Int) : spec_l1In.f a b c = some (inR a b c) := by
  unfold spec_l1In.f inR
  by_cases h : b ≤ a <;> simp [h]

theorem spec_AreMarksW_l0 (l : List S30) (hn : l.length ≤ 4194304) : ∀ (d i : Nat), i + d = l.length → spec_AreMarks.L0 l (i : Int) = some (allF (okMark l) l.length i && decide ((l.length : Int) ≤ 8))
  | 0, i, h => by rw [spec_AreMarks.L0_eq, if_neg (by omega), allF_end (by omega)]; first | done | rfl | simp [l1In, inR]
  | d + 1, i, h => by
    have hi : i < l.length := by omega
    have ih := spec_AreMarksW_l0 l hn d (i + 1) (by omega)
    rw [spec_AreMarks.L0_eq]
    simp only [wrap_succ i (by omega), wrap_pred i (by omega), ih, l1In, Option.bind_some]
    by_cases hp_ : okMark l i
    · rw [allF_yes hp_]
      simp only [okMark] at hp_
      obtain ⟨h1_, h2_, h3_⟩ := hp_
      repeat' split
      all_goals first
        | rfl
        | (exfalso; first | contradiction | omega)
    · rw [allF_no hi hp_]
      repeat' split
      all_goals first
        | rfl
        | (simp; done)
        | (exfalso; first | contradiction | omega)
        | (exfalso; apply hp_; simp only [okMark]; (repeat' constructor) <;> first | assumption | (intro _; omega) | omega)
theorem spec_AreMarksW_is (l : List S30) (hn : l.length ≤ 4194304) : spec_AreMarks.F l = some (areMarks l) := by
  rw [spec_AreMarks.F_eq, areMarks]
  exact spec_AreMarksW_l0 l hn l.length 0 (by omega)

theorem spec_PutMark_J2' (l : List S30) (k : Nat) (same : Bool) (q a : Int) (hk : k ≤ l.length) (hl : l.length ≤ 2000000) (hs : same = true → k < l.length) : spec_PutMark.J2 l (k : Int) (l.drop k) same q a = some (if areMarks (rowM l k same q a) = true then (rowM l k same q a, true) else (l, false)) := by
  have hlen := rowM_len l k same q a hk
  rw [spec_PutMark.J2_eq]
  cases same with
  | true =>
    by_cases h1 : 1 ≤ ((l.drop k).length : Int)
    · simp only [if_true, Option.bind_some, List.nil_append, Int.toNat_natCast]
      rw [if_pos h1, if_pos (by omega), if_pos (by omega), if_pos (by simp; omega), if_pos (by simp; omega), if_pos (by simp; omega)]
      have e : l.take k ++ [(⟨q, a⟩ : S30)] ++ (l.drop k).drop 1 = rowM l k true q a := rfl
      rw [e, spec_AreMarksW_is _ (by omega), Option.bind_some]
      split
      · rfl
      · rw [if_pos (by simp; omega)]
    · exact absurd (hs rfl) (fun h => h1 (by rw [List.length_drop]; omega))
  | false =>
    simp only [Bool.false_eq_true, if_false, Option.bind_some, List.nil_append, Int.toNat_natCast]
    rw [if_pos (by omega), if_pos (by omega), if_pos (by simp; omega), if_pos (by simp; omega), if_pos (by simp; omega)]
    have e : l.take k ++ [(⟨q, a⟩ : S30)] ++ l.drop k = rowM l k false q a := rfl
    rw [e, spec_AreMarksW_is _ (by omega), Option.bind_some]
    split
    · rfl
    · rw [if_pos (by simp; omega)]
theorem spec_PutMark_l0 (l : List S30) (q a : Int) (hl : l.length ≤ 2000000) : ∀ (d i : Nat), i + d = l.length → spec_PutMark.L0 l (i : Int) q a = spec_PutMark.J1 l ((i + leadM q (l.drop i) : Nat) : Int) q a
  | 0, i, h => by rw [spec_PutMark.L0_eq, if_neg (by omega), List.drop_of_length_le (by omega)]; rfl
  | d + 1, i, h => by
    rw [spec_PutMark.L0_eq, if_pos (by omega), if_pos (by omega), wrap_succ i (by omega), spec_PutMark_l0 l q a hl d (i + 1) (by omega), leadM_step q l i (by omega)]
    split <;> rfl
theorem spec_PutMark_is (l : List S30) (q a : Int) (hl : l.length ≤ 2000000) : spec_PutMark.F l q a = some (putMark l q a) := by
  have h0 := spec_PutMark_l0 l q a hl l.length 0 (by omega)
  rw [List.drop_zero, Nat.zero_add] at h0
  have hk := leadM_le q l
  rw [spec_PutMark.F_eq]
  refine Eq.trans h0 ?_
  rw [spec_PutMark.J1_eq, if_pos (by omega), if_pos (by omega), Option.bind_some, Int.toNat_natCast, rdMark_drop, putMark, putRowM]
  by_cases h1 : leadM q l < l.length
  · rw [if_pos (by rw [List.length_drop]; omega), if_pos (by rw [List.length_drop]; omega), spec_PutMark_J2' l _ _ q a hk hl (fun _ => h1)]
    have e : ((rd_T30 l (leadM q l : Int)).f0 == q) = sameM l (leadM q l) q := by
      unfold sameM
      rw [Bool.eq_iff_iff, beq_iff_eq, decide_eq_true_iff]
      exact ⟨fun h => ⟨h1, h⟩, fun h => h.2⟩
    rw [e]
  · have e : sameM l (leadM q l) q = false := decide_eq_false (fun h => h1 h.1)
    rw [if_neg (by rw [List.length_drop]; omega), spec_PutMark_J2' l _ _ q a hk hl (fun h => by cases h), e]

theorem inRange (a b c : Int) : impl_InRange.f a b c = some (inR a b c) := by
  unfold impl_InRange.f inR
  by_cases h : b ≤ a <;> simp [h]

theorem impl_AreMarksW_l0 (l : List S30) (hn : l.length ≤ 4194304) : ∀ (d i : Nat), i + d = l.length → impl_AreMarks.L0 l l (l.length : Int) (i : Int) = some (allF (okMark l) l.length i)
  | 0, i, h => by rw [impl_AreMarks.L0_eq, if_neg (by omega), allF_end (by omega)]; first | done | rfl | simp [inRange, inR]
  | d + 1, i, h => by
    have hi : i < l.length := by omega
    have ih := impl_AreMarksW_l0 l hn d (i + 1) (by omega)
    rw [impl_AreMarks.L0_eq]
    simp only [wrap_succ i (by omega), wrap_pred i (by omega), ih, inRange, Option.bind_some]
    by_cases hp_ : okMark l i
    · rw [allF_yes hp_]
      simp only [okMark] at hp_
      obtain ⟨h1_, h2_, h3_⟩ := hp_
      repeat' split
      all_goals first
        | rfl
        | (exfalso; first | contradiction | omega)
    · rw [allF_no hi hp_]
      repeat' split
      all_goals first
        | rfl
        | (simp; done)
        | (exfalso; first | contradiction | omega)
        | (exfalso; apply hp_; simp only [okMark]; (repeat' constructor) <;> first | assumption | (intro _; omega) | omega)
theorem impl_AreMarksW_is (l : List S30) (hn : l.length ≤ 4194304) : impl_AreMarks.F l = some (areMarks l) := by
  rw [impl_AreMarks.F_eq, areMarks]
  by_cases h : (l.length : Int) > 8
  · rw [if_pos h, decide_eq_false (by omega), Bool.and_false]
  · rw [if_neg h, decide_eq_true (by omega), Bool.and_true]
    exact impl_AreMarksW_l0 l hn l.length 0 (by omega)

theorem cloneMark_is (l : List S30) (hn : l.length ≤ 4194304) : impl_Mark_105.f l = some l := by
  unfold impl_Mark_105.f
  rw [Option.bind_some, if_pos (by simp only [List.length_nil]; omega)]
  rfl

theorem impl_PutMark_J3 (l x6 : List S30) (hl : l.length ≤ 2000000) (hx : x6.length ≤ 4194304) : impl_PutMark.J3 l x6 = some (if areMarks x6 = true then (x6, true) else (l, false)) := by
  rw [impl_PutMark.J3_eq, impl_AreMarksW_is x6 hx, Option.bind_some]
  split
  · rfl
  · rw [cloneMark_is l (by omega)]; rfl
theorem impl_PutMark_J2 (l : List S30) (k : Nat) (same : Bool) (q a : Int) (hk : k ≤ l.length) (hl : l.length ≤ 2000000) (hs : same = true → k < l.length) : impl_PutMark.J2 l l (k : Int) same q a = some (if areMarks (rowM l k same q a) = true then (rowM l k same q a, true) else (l, false)) := by
  have hlen := rowM_len l k same q a hk
  rw [impl_PutMark.J2_eq]
  cases same with
  | true =>
    have hlt := hs rfl
    rw [if_pos rfl, if_pos (by omega), if_pos (by omega), Int.toNat_natCast]
    have e : l.set k (⟨q, a⟩ : S30) = rowM l k true q a := by
      unfold rowM
      rw [if_pos rfl, List.drop_drop, List.set_eq_take_append_cons_drop, if_pos hlt]
      simp
    rw [e]
    exact impl_PutMark_J3 l _ (by omega) (by omega)
  | false =>
    rw [if_neg (by decide), impl_Mark_106.f, if_pos ⟨by omega, by omega, by simp, by rw [List.length_singleton]; omega⟩, Option.bind_some, Int.toNat_natCast]
    have e : l.take k ++ [(⟨q, a⟩ : S30)] ++ l.drop k = rowM l k false q a := rfl
    rw [e]
    exact impl_PutMark_J3 l _ (by omega) (by omega)
theorem impl_PutMark_l0 (l : List S30) (q a : Int) (hl : l.length ≤ 2000000) : ∀ (d i : Nat), i + d = l.length → impl_PutMark.L0 l l (i : Int) q a = impl_PutMark.J1 l l ((i + leadM q (l.drop i) : Nat) : Int) q a
  | 0, i, h => by rw [impl_PutMark.L0_eq, if_neg (by omega), List.drop_of_length_le (by omega)]; rfl
  | d + 1, i, h => by
    rw [impl_PutMark.L0_eq, if_pos (by omega), if_pos (by omega), wrap_succ i (by omega), impl_PutMark_l0 l q a hl d (i + 1) (by omega), leadM_step q l i (by omega)]
    split <;> rfl
theorem impl_PutMark_is (l : List S30) (q a : Int) (hl : l.length ≤ 2000000) : impl_PutMark.F l q a = some (putMark l q a) := by
  have h0 := impl_PutMark_l0 l q a hl l.length 0 (by omega)
  rw [List.drop_zero, Nat.zero_add] at h0
  have hk := leadM_le q l
  rw [impl_PutMark.F_eq, cloneMark_is l (by omega), Option.bind_some]
  refine Eq.trans h0 ?_
  rw [impl_PutMark.J1_eq, putMark, putRowM]
  by_cases h1 : leadM q l < l.length
  · have e : ((rd_T30 l (leadM q l : Int)).f0 == q) = sameM l (leadM q l) q := by
      unfold sameM
      rw [Bool.eq_iff_iff, beq_iff_eq, decide_eq_true_iff]
      exact ⟨fun h => ⟨h1, h⟩, fun h => h.2⟩
    rw [if_pos (by omega), if_pos (by omega), e, impl_PutMark_J2 l _ _ q a hk hl (fun _ => h1)]
  · have e : sameM l (leadM q l) q = false := decide_eq_false (fun h => h1 h.1)
    rw [if_neg (by omega), e, impl_PutMark_J2 l _ _ q a hk hl (fun h => by cases h)]

theorem putMark_len2 (l : List S30) (q a : Int) (hl : l.length ≤ 1048576) : (putMark l q a).1.length ≤ 1048576 := by
  unfold putMark
  by_cases h : areMarks (putRowM l q a) = true
  · rw [if_pos h]
    unfold areMarks at h
    rw [Bool.and_eq_true, decide_eq_true_iff] at h
    have := h.2
    show (putRowM l q a).length ≤ 1048576
    omega
  · rw [if_neg h]
    exact hl

theorem law_FnExactPutMark (l0 : List S24) (hm0 : l0.length ≤ maxLen) (hw0 : ∀ y ∈ l0, ok24 y) (x1 : S24) (hw1 : ok24 x1) : laws_FnExactPutMark.F l0 x1.f0 x1.f1 = some true := by
  rw [laws_FnExactPutMark.F_eq, szMarkS l0 1048576 (by omega) hm0]
  simp only [Option.bind_some]
  by_cases h : (1048576 : Int) < (l0.length : Int)
  · rw [if_pos h]; rfl
  · have hn : l0.length ≤ 1048576 := by omega
    have hn' : (l0.map cvMark).length ≤ 1048576 := by rw [List.length_map]; exact hn
    rw [if_neg h, if_neg (by omega)]
    have h_spec := spec_PutMark_is (l0.map cvMark) x1.f0 x1.f1 (by omega)
    have h_impl := impl_PutMark_is (l0.map cvMark) x1.f0 x1.f1 (by omega)
    have hR := putMark_len2 (l0.map cvMark) x1.f0 x1.f1 hn'
    obtain ⟨R, hR0⟩ : ∃ R, putMark (l0.map cvMark) x1.f0 x1.f1 = R := ⟨_, rfl⟩
    rw [hR0] at h_spec h_impl hR
    generalize hRR : R = r at h_spec h_impl hR
    obtain ⟨R1, b⟩ := r
    have e1 : ¬ (1 + 2 * ((l0.map cvMark).length : Int) < 0) := by omega
    have e2 : ¬ (1 + 2 * (R1.length : Int) < 0) := by omega
    simp only [toMarkS l0 hn, laws_toMark.f, h_spec, h_impl, eqMarkS _ hR, Option.bind_some, if_true, bne_self_eq_false, laws_FnExactPutMark.J0_eq, laws_FnExactPutMark.J1_eq, laws_FnExactPutMark.J2_eq, Bool.false_eq_true, if_false, eqMarkS _ hn', markMarkS _ 1 (by omega) hn', markMarkS _ 1 (by omega) hR, heldMarkS 1 _ (by omega) hR, if_neg e1, if_neg e2]

theorem FnExactPutMark (l0 : List S24) (hm0 : l0.length ≤ maxLen) (hw0 : ∀ y ∈ l0, ok24 y) (x1 : S24) (hw1 : ok24 x1) : ∃ k, laws_FnExactPutMark.f k l0 x1.f0 x1.f1 = some true :=
  (laws_FnExactPutMark.F_co l0 x1.f0 x1.f1).rounds (law_FnExactPutMark l0 hm0 hw0 x1 hw1)
end Go.Proofs.Ytkfalbaklodnjaa.PFnExactPutMark.Pure
