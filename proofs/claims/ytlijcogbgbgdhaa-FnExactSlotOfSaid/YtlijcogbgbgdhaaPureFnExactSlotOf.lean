/-
  The program's SlotOf answers as the reference's does, for all arguments. It has no conditions.
-/
import Derived.Test.YtlijcogbgbgdhaaShFnExactSlotOf
import Derived.Test.YtlijcogbgbgdhaaEqFnExactSlotOf
import Derived.Test.YtlijcogbgbgdhaaBase
set_option linter.unusedVariables false
set_option linter.unusedSimpArgs false
namespace Go.Proofs.Ytlijcogbgbgdhaa.PFnExactSlotOf.Pure
open Go.RowKit Go.Proofs.YtlijcogbgbgdhaaW.PrintWords Go.Proofs.YtlijcogbgbgdhaaW.PrintLast Go.Proofs.YtlijcogbgbgdhaaW.PrintMore Go.Proofs.Ytlijcogbgbgdhaa.PFnExactSlotOf Go.Proofs.Ytlijcogbgbgdhaa.Lim Go.Proofs.Ytlijcogbgbgdhaa.Base
set_option maxRecDepth 100000

theorem szSlotS (l : List S78) (a : Int) (ha : 0 ≤ a ∧ a ≤ 1048576) (hl : l.length ≤ maxLen) : laws_szSlotS.f l a = some (if a < (l.length : Int) then -1 else a - (l.length : Int)) := by
  simp only [maxLen] at hl
  unfold laws_szSlotS.f
  rw [wrap_in _ (by omega)]
  by_cases h : a < (l.length : Int)
  · rw [if_pos (by omega), if_pos h]
  · rw [if_neg (by omega), if_neg h]

def cvSlot (y : S78) : S76 := ⟨y.f0, y.f1, y.f2⟩
theorem toSlotS_l0 (l : List S78) (hn : l.length ≤ 1048576) : ∀ (d i : Nat) (acc : List S76), i + d = l.length → acc.length = l.length → acc.take i = (l.take i).map cvSlot → laws_toSlotS.L0 l acc (i : Int) = some (l.map cvSlot)
  | 0, i, acc, h, ha, ht => by
    rw [laws_toSlotS.L0_eq, if_neg (by omega)]
    rw [List.take_of_length_le (by omega), List.take_of_length_le (by omega)] at ht
    rw [ht]
  | d + 1, i, acc, h, ha, ht => by
    have hi : i < l.length := by omega
    rw [laws_toSlotS.L0_eq, if_pos (by omega), if_pos (by omega)]
    simp only [laws_toSlot.f, Option.bind_some, wrap_succ i (by omega)]
    rw [if_pos (by omega)]
    refine toSlotS_l0 l hn d (i + 1) _ (by omega) (by rw [List.length_set]; exact ha) ?_
    rw [Int.toNat_natCast]
    exact fill_step l cvSlot acc i ha hi ht _ (by simp [rd_T78, cvSlot, hi])
theorem toSlotS (l : List S78) (hn : l.length ≤ 1048576) : laws_toSlotS.F l = some (l.map cvSlot) := by
  rw [laws_toSlotS.F_eq, if_pos (by omega), if_pos (by omega)]
  exact toSlotS_l0 l hn l.length 0 _ (by omega) (by simp) (by simp)

theorem eqSlotS_l0 (l : List S76) (hn : l.length ≤ 1048576) : ∀ (d i : Nat), i + d = l.length → laws_eqSlotS.L0 l l (i : Int) = some true
  | 0, i, h => by rw [laws_eqSlotS.L0_eq, if_neg (by omega)]
  | d + 1, i, h => by
    rw [laws_eqSlotS.L0_eq, if_pos (by omega), if_pos (by omega), if_pos (by omega)]
    simp only [laws_eqSlot.f, if_true, Option.bind_some, wrap_succ i (by omega)]
    exact eqSlotS_l0 l hn d (i + 1) (by omega)
theorem eqSlotS (l : List S76) (hn : l.length ≤ 1048576) : laws_eqSlotS.F l l = some true := by
  rw [laws_eqSlotS.F_eq, if_pos rfl]
  exact eqSlotS_l0 l hn l.length 0 (by omega)

theorem rdSlot_at (l : List S76) (i : Nat) : rd_T76 l (i : Int) = l.getD i z76 := by simp [rd_T76]
theorem dropSlot (l : List S76) (i : Nat) (h : i < l.length) : l.drop i = rd_T76 l (i : Int) :: l.drop (i + 1) := by
  rw [rdSlot_at, getD_get l i _ h]
  exact List.drop_eq_getElem_cons h

theorem idxFSlot_spec (p : S76 → Bool) : ∀ (l : List S76) (i : Int), (idxF76 p l i = -1 ∧ ∀ x ∈ l, ¬ p x = true) ∨ ∃ j : Nat, j < l.length ∧ idxF76 p l i = i + (j : Int) ∧ p (l.getD j z76) = true ∧ ∀ m : Nat, m < j → ¬ p (l.getD m z76) = true
  | [], i => .inl ⟨rfl, by simp⟩
  | x :: r, i => by
    simp only [idxF76]
    by_cases h : p x = true
    · rw [if_pos h]
      exact .inr ⟨0, by simp, by simp, by simpa using h, fun m hm => absurd hm (by omega)⟩
    · rw [if_neg h]
      rcases idxFSlot_spec p r (i + 1) with ⟨h1, h2⟩ | ⟨j, h1, h2, h3, h4⟩
      · exact .inl ⟨h1, fun y hy => by
          rcases List.mem_cons.1 hy with e | e
          · rw [e]; exact h
          · exact h2 y e⟩
      · refine .inr ⟨j + 1, by simp; omega, by rw [h2]; omega, by simpa using h3, fun m hm => ?_⟩
        cases m with
        | zero => simpa using h
        | succ m => simpa using h4 m (by omega)
theorem idxFSlot_at (p : S76 → Bool) (l : List S76) : (idxF76 p l 0 = -1 ∧ ∀ x ∈ l, ¬ p x = true) ∨ ∃ j : Nat, j < l.length ∧ idxF76 p l 0 = (j : Int) ∧ p (rd_T76 l (j : Int)) = true ∧ ∀ m : Nat, m < j → ¬ p (rd_T76 l (m : Int)) = true := by
  rcases idxFSlot_spec p l 0 with h | ⟨j, h1, h2, h3, h4⟩
  · exact .inl h
  · refine .inr ⟨j, h1, by rw [h2]; omega, by rw [rdSlot_at]; exact h3, fun m hm => by rw [rdSlot_at]; exact h4 m hm⟩

def slotOf : List S76 → Int → Int
  | [], _ => 0
  | x :: r, t => if t ≠ 0 ∧ x.f2 = t then x.f0 else slotOf r t
def slotAt (l : List S76) (t : Int) : Int := if t = 0 then -1 else idxF76 (fun x => x.f2 == t) l 0
theorem slotAt_cases (l : List S76) (t : Int) : (slotAt l t = -1 ∧ (t = 0 ∨ ∀ x ∈ l, x.f2 ≠ t)) ∨ (t ≠ 0 ∧ ∃ j : Nat, j < l.length ∧ slotAt l t = (j : Int) ∧ (rd_T76 l (j : Int)).f2 = t ∧ ∀ m : Nat, m < j → (rd_T76 l (m : Int)).f2 ≠ t) := by
  unfold slotAt
  by_cases h : t = 0
  · exact .inl ⟨by rw [if_pos h], .inl h⟩
  · rw [if_neg h]
    rcases idxFSlot_at (fun x => x.f2 == t) l with ⟨h1, h2⟩ | ⟨j, h1, h2, h3, h4⟩
    · exact .inl ⟨h1, .inr (fun x hx => by simpa using h2 x hx)⟩
    · exact .inr ⟨h, j, h1, h2, by simpa using h3, fun m hm => by simpa using h4 m hm⟩
theorem slotOf_none (t : Int) : ∀ (l : List S76), (t = 0 ∨ ∀ x ∈ l, x.f2 ≠ t) → slotOf l t = 0
  | [], h => rfl
  | x :: r, h => by
    simp only [slotOf]
    rw [if_neg (fun hh => h.elim (fun h0 => hh.1 h0) (fun h1 => h1 x (by simp) hh.2))]
    exact slotOf_none t r (h.imp id (fun h1 y hy => h1 y (by simp [hy])))
theorem slotOf_at (t : Int) (ht : t ≠ 0) : ∀ (l : List S76) (j : Nat), j < l.length → (l.getD j z76).f2 = t → (∀ m : Nat, m < j → (l.getD m z76).f2 ≠ t) → slotOf l t = (l.getD j z76).f0
  | [], j, h, _, _ => by simp at h
  | x :: r, 0, h, h1, h2 => by
    simp only [slotOf]
    rw [if_pos ⟨ht, by simpa using h1⟩]
    simp
  | x :: r, j + 1, h, h1, h2 => by
    simp only [slotOf]
    rw [if_neg (fun hh => h2 0 (by omega) (by simpa using hh.2))]
    have := slotOf_at t ht r j (by simpa using h) (by simpa using h1) (fun m hm => by simpa using h2 (m + 1) (by omega))
    rw [this]
    simp
theorem slotOf_slotAt (l : List S76) (t : Int) : (if slotAt l t < 0 then 0 else (rd_T76 l (slotAt l t)).f0) = slotOf l t := by
  rcases slotAt_cases l t with ⟨h, h1⟩ | ⟨h0, j, h1, h2, h3, h4⟩
  · rw [h, if_pos (by omega), slotOf_none t l h1]
  · rw [h2, if_neg (by omega), rdSlot_at, slotOf_at t h0 l j h1 (by rw [← rdSlot_at]; exact h3) (fun m hm => by rw [← rdSlot_at]; exact h4 m hm)]

theorem spec_SlotOf_l0 (l : List S76) (t : Int) (hn : l.length ≤ 1048576) : ∀ (d i : Nat), i + d = l.length → spec_SlotOf.L0 l t (i : Int) = some (slotOf (l.drop i) t)
  | 0, i, h => by rw [spec_SlotOf.L0_eq, if_neg (by omega), List.drop_of_length_le (by omega)]; rfl
  | d + 1, i, h => by
    rw [spec_SlotOf.L0_eq, if_pos (by omega), wrap_succ i (by omega), spec_SlotOf_l0 l t hn d (i + 1) (by omega), dropSlot l i (by omega)]
    simp only [slotOf]
    by_cases c0 : t = 0
    · rw [if_pos c0, if_neg (fun hh => hh.1 c0)]
    · rw [if_neg c0, if_pos (by omega)]
      by_cases c : (rd_T76 l (i : Int)).f2 = t
      · rw [if_pos c, if_pos ⟨c0, c⟩]
      · rw [if_neg c, if_neg (fun hh => c hh.2)]
theorem spec_SlotOf_is (l : List S76) (t : Int) (hn : l.length ≤ 1048576) : spec_SlotOf.F l t = some (slotOf l t) := by
  rw [spec_SlotOf.F_eq]
  exact spec_SlotOf_l0 l t hn l.length 0 (by omega)

theorem impl_slotWith_is (l : List S76) (t : Int) : impl_slotWith.f l t = some (slotAt l t) := rfl

theorem impl_SlotOf_is (l : List S76) (t : Int) (hn : l.length ≤ 1048576) : impl_SlotOf.f l t = some (slotOf l t) := by
  unfold impl_SlotOf.f
  rw [impl_slotWith_is, Option.bind_some, ← slotOf_slotAt]
  rcases slotAt_cases l t with ⟨h, h1⟩ | ⟨h0, j, h1, h2, h3, h4⟩
  · rw [h, if_pos (by omega), if_pos (by omega)]
  · rw [h2, if_neg (by omega), if_pos (by omega), if_pos (by omega), if_neg (by omega)]

theorem law_FnExactSlotOf (l0 : List S78) (hm0 : l0.length ≤ maxLen) (hw0 : ∀ y ∈ l0, ok78 y) (a1 : Int) (w1 : (Lit.int .i64 a1).wf = true) : laws_FnExactSlotOf.F l0 a1 = some true := by
  rw [laws_FnExactSlotOf.F_eq, szSlotS l0 1048576 (by omega) hm0]
  simp only [Option.bind_some]
  by_cases h : (1048576 : Int) < (l0.length : Int)
  · rw [if_pos h]; rfl
  · have hn : l0.length ≤ 1048576 := by omega
    have hn' : (l0.map cvSlot).length ≤ 1048576 := by rw [List.length_map]; exact hn
    rw [if_neg h, if_neg (by omega)]
    simp [toSlotS l0 hn, spec_SlotOf_is _ a1 hn', impl_SlotOf_is _ a1 hn', eqSlotS _ hn']

theorem FnExactSlotOf (l0 : List S78) (hm0 : l0.length ≤ maxLen) (hw0 : ∀ y ∈ l0, ok78 y) (a1 : Int) (w1 : (Lit.int .i64 a1).wf = true) : ∃ k, laws_FnExactSlotOf.f k l0 a1 = some true :=
  (laws_FnExactSlotOf.F_co l0 a1).rounds (law_FnExactSlotOf l0 hm0 hw0 a1 w1)
end Go.Proofs.Ytlijcogbgbgdhaa.PFnExactSlotOf.Pure
