/-
  The program's SmallestFree answers as the reference's does, for all arguments. It has no conditions.
-/
import Derived.Test.YtlijcogbgbgdhaaShFnExactSmallestFree
import Derived.Test.YtlijcogbgbgdhaaEqFnExactSmallestFree
import Derived.Test.YtlijcogbgbgdhaaBase
set_option linter.unusedVariables false
set_option linter.unusedSimpArgs false
namespace Go.Proofs.Ytlijcogbgbgdhaa.PFnExactSmallestFree.Pure
open Go.RowKit Go.Proofs.YtlijcogbgbgdhaaW.PrintWords Go.Proofs.YtlijcogbgbgdhaaW.PrintLast Go.Proofs.YtlijcogbgbgdhaaW.PrintMore Go.Proofs.Ytlijcogbgbgdhaa.PFnExactSmallestFree Go.Proofs.Ytlijcogbgbgdhaa.Lim Go.Proofs.Ytlijcogbgbgdhaa.Base
set_option maxRecDepth 100000

theorem szSlotS (l : List S78) (a : Int) (ha : 0 ≤ a ∧ a ≤ 1048576) (hl : l.length ≤ maxLen) : laws_szSlotS.f l a = some (if a < (l.length : Int) then -1 else a - (l.length : Int)) := by
  simp only [maxLen] at hl
  unfold laws_szSlotS.f
  rw [wrap_in _ (by omega)]
  by_cases h : a < (l.length : Int)
  · rw [if_pos (by omega), if_pos h]
  · rw [if_neg (by omega), if_neg h]

def cvSlot (y : S78) : S76 := ⟨y.f0, y.f1, y.f2⟩
theorem toSlotS_l0 (l : List S78) (hn : l.length ≤ 1048576) : ∀ (d i : Nat) (acc : List S76), i + d = l.length → acc.length = l.length → acc.take i = (l.take i).map cvSlot → laws_toSlotS.L0 l acc (i : Int) = some (l.map cvSlot)
  | 0, i, acc, h, ha, ht => by
    rw [laws_toSlotS.L0_eq, if_neg (by omega)]
    rw [List.take_of_length_le (by omega), List.take_of_length_le (by omega)] at ht
    rw [ht]
  | d + 1, i, acc, h, ha, ht => by
    have hi : i < l.length := by omega
    rw [laws_toSlotS.L0_eq, if_pos (by omega), if_pos (by omega)]
    simp only [laws_toSlot.f, Option.bind_some, wrap_succ i (by omega)]
    rw [if_pos (by omega)]
    refine toSlotS_l0 l hn d (i + 1) _ (by omega) (by rw [List.length_set]; exact ha) ?_
    rw [Int.toNat_natCast]
    exact fill_step l cvSlot acc i ha hi ht _ (by simp [rd_T78, cvSlot, hi])
theorem toSlotS (l : List S78) (hn : l.length ≤ 1048576) : laws_toSlotS.F l = some (l.map cvSlot) := by
  rw [laws_toSlotS.F_eq, if_pos (by omega), if_pos (by omega)]
  exact toSlotS_l0 l hn l.length 0 _ (by omega) (by simp) (by simp)

theorem eqSlotS_l0 (l : List S76) (hn : l.length ≤ 1048576) : ∀ (d i : Nat), i + d = l.length → laws_eqSlotS.L0 l l (i : Int) = some true
  | 0, i, h => by rw [laws_eqSlotS.L0_eq, if_neg (by omega)]
  | d + 1, i, h => by
    rw [laws_eqSlotS.L0_eq, if_pos (by omega), if_pos (by omega), if_pos (by omega)]
    simp only [laws_eqSlot.f, if_true, Option.bind_some, wrap_succ i (by omega)]
    exact eqSlotS_l0 l hn d (i + 1) (by omega)
theorem eqSlotS (l : List S76) (hn : l.length ≤ 1048576) : laws_eqSlotS.F l l = some true := by
  rw [laws_eqSlotS.F_eq, if_pos rfl]
  exact eqSlotS_l0 l hn l.length 0 (by omega)

def bestSlot (l : List S76) (size : Int) : Nat → Nat → Int → Int
  | 0, _, b => b
  | d + 1, i, b => bestSlot l size d (i + 1) (if (rd_T76 l (i : Int)).f2 = 0 ∧ (rd_T76 l (i : Int)).f1 ≥ size ∧ (b < 0 ∨ (rd_T76 l (i : Int)).f1 < (rd_T76 l b).f1) then (i : Int) else b)
theorem bestSlot_bd (l : List S76) (size : Int) : ∀ (d i : Nat) (b : Int), i + d = l.length → b < i → -1 ≤ b → -1 ≤ bestSlot l size d i b ∧ bestSlot l size d i b < l.length
  | 0, i, b, h, h1, h2 => by simp only [bestSlot]; omega
  | d + 1, i, b, h, h1, h2 => by
    simp only [bestSlot]
    split
    · exact bestSlot_bd l size d (i + 1) _ (by omega) (by omega) (by omega)
    · exact bestSlot_bd l size d (i + 1) _ (by omega) (by omega) (by omega)
def freeId (l : List S76) (b : Int) : Int := if b < 0 then 0 else (rd_T76 l b).f0
def smallestFree (l : List S76) (size : Int) : Int := freeId l (bestSlot l size l.length 0 (-1))

theorem spec_SmallestFree_l0 (l : List S76) (size : Int) (hn : l.length ≤ 1048576) : ∀ (d i : Nat) (b : Int), i + d = l.length → b < i → -1 ≤ b → spec_SmallestFree.L0 l size b (i : Int) = some (freeId l (bestSlot l size d i b))
  | 0, i, b, h, h1, h2 => by
    rw [spec_SmallestFree.L0_eq, if_neg (by omega)]
    show _ = some (freeId l b)
    unfold freeId
    by_cases c : b < 0
    · rw [if_pos c, if_pos c]
    · rw [if_neg c, if_neg c, if_pos (by omega), if_pos (by omega)]
  | d + 1, i, b, h, h1, h2 => by
    have hi : i < l.length := by omega
    rw [spec_SmallestFree.L0_eq, if_pos (by omega), if_pos (by omega)]
    simp only [wrap_succ i (by omega), bestSlot]
    by_cases c1 : (rd_T76 l (i : Int)).f2 = 0
    · by_cases c2 : (rd_T76 l (i : Int)).f1 ≥ size
      · by_cases c3 : b < 0
        · rw [if_pos c1, if_pos c2, if_pos c3, if_pos ⟨c1, c2, .inl c3⟩]
          exact spec_SmallestFree_l0 l size hn d (i + 1) _ (by omega) (by omega) (by omega)
        · by_cases c4 : (rd_T76 l (i : Int)).f1 < (rd_T76 l b).f1
          · rw [if_pos c1, if_pos c2, if_neg c3, if_pos (by omega), if_pos (by omega), if_pos c4, if_pos ⟨c1, c2, .inr c4⟩]
            exact spec_SmallestFree_l0 l size hn d (i + 1) _ (by omega) (by omega) (by omega)
          · rw [if_pos c1, if_pos c2, if_neg c3, if_pos (by omega), if_pos (by omega), if_neg c4, if_neg (fun h => h.2.2.elim c3 c4)]
            exact spec_SmallestFree_l0 l size hn d (i + 1) _ (by omega) (by omega) (by omega)
      · rw [if_pos c1, if_neg c2, if_neg (fun h => c2 h.2.1)]
        exact spec_SmallestFree_l0 l size hn d (i + 1) _ (by omega) (by omega) (by omega)
    · rw [if_neg c1, if_neg (fun h => c1 h.1)]
      exact spec_SmallestFree_l0 l size hn d (i + 1) _ (by omega) (by omega) (by omega)
theorem spec_SmallestFree_is (l : List S76) (size : Int) (hn : l.length ≤ 1048576) : spec_SmallestFree.F l size = some (smallestFree l size) := by
  rw [spec_SmallestFree.F_eq]
  exact spec_SmallestFree_l0 l size hn l.length 0 (-1) (by omega) (by omega) (by omega)

theorem impl_freeFor_l0 (l : List S76) (size : Int) (hn : l.length ≤ 1048576) : ∀ (d i : Nat) (b : Int), i + d = l.length → b < i → -1 ≤ b → impl_freeFor.L0 l size b l (l.length : Int) (i : Int) = some (bestSlot l size d i b)
  | 0, i, b, h, h1, h2 => by rw [impl_freeFor.L0_eq, if_neg (by omega)]; rfl
  | d + 1, i, b, h, h1, h2 => by
    have hi : i < l.length := by omega
    rw [impl_freeFor.L0_eq, if_pos (by omega), if_pos (by omega), if_pos (by omega)]
    simp only [wrap_succ i (by omega), bestSlot]
    by_cases c1 : (rd_T76 l (i : Int)).f2 = 0
    · by_cases c2 : (rd_T76 l (i : Int)).f1 ≥ size
      · by_cases c3 : b < 0
        · rw [if_pos c1, if_pos c2, if_pos c3, if_pos ⟨c1, c2, .inl c3⟩]
          exact impl_freeFor_l0 l size hn d (i + 1) _ (by omega) (by omega) (by omega)
        · by_cases c4 : (rd_T76 l (i : Int)).f1 < (rd_T76 l b).f1
          · rw [if_pos c1, if_pos c2, if_neg c3, if_pos (by omega), if_pos (by omega), if_pos c4, if_pos ⟨c1, c2, .inr c4⟩]
            exact impl_freeFor_l0 l size hn d (i + 1) _ (by omega) (by omega) (by omega)
          · rw [if_pos c1, if_pos c2, if_neg c3, if_pos (by omega), if_pos (by omega), if_neg c4, if_neg (fun h => h.2.2.elim c3 c4)]
            exact impl_freeFor_l0 l size hn d (i + 1) _ (by omega) (by omega) (by omega)
      · rw [if_pos c1, if_neg c2, if_neg (fun h => c2 h.2.1)]
        exact impl_freeFor_l0 l size hn d (i + 1) _ (by omega) (by omega) (by omega)
    · rw [if_neg c1, if_neg (fun h => c1 h.1)]
      exact impl_freeFor_l0 l size hn d (i + 1) _ (by omega) (by omega) (by omega)
theorem impl_freeFor_is (l : List S76) (size : Int) (hn : l.length ≤ 1048576) : impl_freeFor.F l size = some (bestSlot l size l.length 0 (-1)) := by
  rw [impl_freeFor.F_eq]
  exact impl_freeFor_l0 l size hn l.length 0 (-1) (by omega) (by omega) (by omega)

theorem impl_SmallestFree_is (l : List S76) (size : Int) (hn : l.length ≤ 1048576) : impl_SmallestFree.F l size = some (smallestFree l size) := by
  have hb := bestSlot_bd l size l.length 0 (-1) (by omega) (by omega) (by omega)
  rw [impl_SmallestFree.F_eq, impl_freeFor_is l size hn, Option.bind_some]
  unfold smallestFree freeId
  by_cases c : bestSlot l size l.length 0 (-1) < 0
  · rw [if_pos c, if_pos c]
  · rw [if_neg c, if_neg c, if_pos (by omega), if_pos (by omega)]

theorem law_FnExactSmallestFree (l0 : List S78) (hm0 : l0.length ≤ maxLen) (hw0 : ∀ y ∈ l0, ok78 y) (a1 : Int) (w1 : (Lit.int .i64 a1).wf = true) : laws_FnExactSmallestFree.F l0 a1 = some true := by
  rw [laws_FnExactSmallestFree.F_eq, szSlotS l0 1048576 (by omega) hm0]
  simp only [Option.bind_some]
  by_cases h : (1048576 : Int) < (l0.length : Int)
  · rw [if_pos h]; rfl
  · have hn : l0.length ≤ 1048576 := by omega
    have hn' : (l0.map cvSlot).length ≤ 1048576 := by rw [List.length_map]; exact hn
    rw [if_neg h, if_neg (by omega)]
    simp [toSlotS l0 hn, spec_SmallestFree_is _ a1 hn', impl_SmallestFree_is _ a1 hn', eqSlotS _ hn']

theorem FnExactSmallestFree (l0 : List S78) (hm0 : l0.length ≤ maxLen) (hw0 : ∀ y ∈ l0, ok78 y) (a1 : Int) (w1 : (Lit.int .i64 a1).wf = true) : ∃ k, laws_FnExactSmallestFree.f k l0 a1 = some true :=
  (laws_FnExactSmallestFree.F_co l0 a1).rounds (law_FnExactSmallestFree l0 hm0 hw0 a1 w1)
end Go.Proofs.Ytlijcogbgbgdhaa.PFnExactSmallestFree.Pure
