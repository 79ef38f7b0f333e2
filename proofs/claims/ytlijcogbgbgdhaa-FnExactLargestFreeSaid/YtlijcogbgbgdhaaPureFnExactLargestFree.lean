/-
  The program's LargestFree answers as the reference's does, for all arguments. It has no conditions.
-/
import Derived.Test.YtlijcogbgbgdhaaShFnExactLargestFree
import Derived.Test.YtlijcogbgbgdhaaEqFnExactLargestFree
import Derived.Test.YtlijcogbgbgdhaaBase
set_option linter.unusedVariables false
set_option linter.unusedSimpArgs false
namespace Go.Proofs.Ytlijcogbgbgdhaa.PFnExactLargestFree.Pure
open Go.RowKit Go.Proofs.YtlijcogbgbgdhaaW.PrintWords Go.Proofs.YtlijcogbgbgdhaaW.PrintLast Go.Proofs.YtlijcogbgbgdhaaW.PrintMore Go.Proofs.Ytlijcogbgbgdhaa.PFnExactLargestFree Go.Proofs.Ytlijcogbgbgdhaa.Lim Go.Proofs.Ytlijcogbgbgdhaa.Base
set_option maxRecDepth 100000

theorem szSlotS (l : List S78) (a : Int) (ha : 0 ≤ a ∧ a ≤ 1048576) (hl : l.length ≤ maxLen) : laws_szSlotS.f l a = some (if a < (l.length : Int) then -1 else a - (l.length : Int)) := by
  simp only [maxLen] at hl
  unfold laws_szSlotS.f
  rw [wrap_in _ (by omega)]
  by_cases h : a < (l.length : Int)
  · rw [if_pos (by omega), if_pos h]
  · rw [if_neg (by omega), if_neg h]

def cvSlot (y : S78) : S76 := ⟨y.f0, y.f1, y.f2⟩
theorem toSlotS_l0 (l : List S78) (hn : l.length ≤ 1048576) : ∀ (d i : Nat) (acc : List S76), i + d = l.length → acc.length = l.length → acc.take i = (l.take i).map cvSlot → laws_toSlotS.L0 l acc (i : Int) = some (l.map cvSlot)
  | 0, i, acc, h, ha, ht => by
    rw [laws_toSlotS.L0_eq, if_neg (by omega)]
    rw [List.take_of_length_le (by omega), List.take_of_length_le (by omega)] at ht
    rw [ht]
  | d + 1, i, acc, h, ha, ht => by
    have hi : i < l.length := by omega
    rw [laws_toSlotS.L0_eq, if_pos (by omega), if_pos (by omega)]
    simp only [laws_toSlot.f, Option.bind_some, wrap_succ i (by omega)]
    rw [if_pos (by omega)]
    refine toSlotS_l0 l hn d (i + 1) _ (by omega) (by rw [List.length_set]; exact ha) ?_
    rw [Int.toNat_natCast]
    exact fill_step l cvSlot acc i ha hi ht _ (by simp [rd_T78, cvSlot, hi])
theorem toSlotS (l : List S78) (hn : l.length ≤ 1048576) : laws_toSlotS.F l = some (l.map cvSlot) := by
  rw [laws_toSlotS.F_eq, if_pos (by omega), if_pos (by omega)]
  exact toSlotS_l0 l hn l.length 0 _ (by omega) (by simp) (by simp)

theorem eqSlotS_l0 (l : List S76) (hn : l.length ≤ 1048576) : ∀ (d i : Nat), i + d = l.length → laws_eqSlotS.L0 l l (i : Int) = some true
  | 0, i, h => by rw [laws_eqSlotS.L0_eq, if_neg (by omega)]
  | d + 1, i, h => by
    rw [laws_eqSlotS.L0_eq, if_pos (by omega), if_pos (by omega), if_pos (by omega)]
    simp only [laws_eqSlot.f, if_true, Option.bind_some, wrap_succ i (by omega)]
    exact eqSlotS_l0 l hn d (i + 1) (by omega)
theorem eqSlotS (l : List S76) (hn : l.length ≤ 1048576) : laws_eqSlotS.F l l = some true := by
  rw [laws_eqSlotS.F_eq, if_pos rfl]
  exact eqSlotS_l0 l hn l.length 0 (by omega)

theorem rdSlot_at (l : List S76) (i : Nat) : rd_T76 l (i : Int) = l.getD i z76 := by simp [rd_T76]
theorem dropSlot (l : List S76) (i : Nat) (h : i < l.length) : l.drop i = rd_T76 l (i : Int) :: l.drop (i + 1) := by
  rw [rdSlot_at, getD_get l i _ h]
  exact List.drop_eq_getElem_cons h

def freeSlots : List S76 → Int
  | [] => 0
  | x :: r => (if x.f2 = 0 then 1 else 0) + freeSlots r
theorem freeSlots_bd : ∀ (l : List S76), 0 ≤ freeSlots l ∧ freeSlots l ≤ l.length
  | [] => by simp [freeSlots]
  | x :: r => by
    have := freeSlots_bd r
    simp only [freeSlots, List.length_cons]
    split <;> omega
def largestFree : List S76 → Int → Int
  | [], a => a
  | x :: r, a => largestFree r (if x.f2 = 0 then (if x.f1 > a then x.f1 else a) else a)

theorem spec_LargestFree_l0 (l : List S76) (hn : l.length ≤ 1048576) : ∀ (d i : Nat) (acc : Int), i + d = l.length → spec_LargestFree.L0 l acc (i : Int) = some (largestFree (l.drop i) acc)
  | 0, i, acc, h => by rw [spec_LargestFree.L0_eq, if_neg (by omega), List.drop_of_length_le (by omega)]; rfl
  | d + 1, i, acc, h => by
    have hi : i < l.length := by omega
    rw [spec_LargestFree.L0_eq, if_pos (by omega), if_pos (by omega), dropSlot l i hi]
    simp only [wrap_succ i (by omega), largestFree, spec_Max.f]
    by_cases hc : (rd_T76 l (i : Int)).f2 = 0
    · rw [if_pos hc, if_pos hc]
      by_cases hm : (rd_T76 l (i : Int)).f1 > acc
      · simp only [if_pos hm, Option.bind_some]
        exact spec_LargestFree_l0 l hn d (i + 1) _ (by omega)
      · simp only [if_neg hm, Option.bind_some]
        exact spec_LargestFree_l0 l hn d (i + 1) _ (by omega)
    · rw [if_neg hc, if_neg hc, spec_LargestFree_l0 l hn d (i + 1) _ (by omega)]
theorem spec_LargestFree_is (l : List S76) (hn : l.length ≤ 1048576) : spec_LargestFree.F l = some (largestFree l 0) := by
  rw [spec_LargestFree.F_eq]
  exact spec_LargestFree_l0 l hn l.length 0 0 (by omega)

theorem impl_LargestFree_l0 (l : List S76) (hn : l.length ≤ 1048576) : ∀ (d i : Nat) (acc : Int), i + d = l.length → impl_LargestFree.L0 acc l (l.length : Int) (i : Int) = some (largestFree (l.drop i) acc)
  | 0, i, acc, h => by rw [impl_LargestFree.L0_eq, if_neg (by omega), List.drop_of_length_le (by omega)]; rfl
  | d + 1, i, acc, h => by
    have hi : i < l.length := by omega
    rw [impl_LargestFree.L0_eq, if_pos (by omega), if_pos (by omega), if_pos (by omega), dropSlot l i hi]
    simp only [wrap_succ i (by omega), largestFree]
    by_cases hc : (rd_T76 l (i : Int)).f2 = 0
    · rw [if_pos hc, if_pos hc]
      rw [show mx acc (rd_T76 l (i : Int)).f1 = if (rd_T76 l (i : Int)).f1 > acc then (rd_T76 l (i : Int)).f1 else acc by unfold mx; rfl]
      by_cases hm : (rd_T76 l (i : Int)).f1 > acc
      · simp only [if_pos hm, Option.bind_some]
        exact impl_LargestFree_l0 l hn d (i + 1) _ (by omega)
      · simp only [if_neg hm, Option.bind_some]
        exact impl_LargestFree_l0 l hn d (i + 1) _ (by omega)
    · rw [if_neg hc, if_neg hc, impl_LargestFree_l0 l hn d (i + 1) _ (by omega)]
theorem impl_LargestFree_is (l : List S76) (hn : l.length ≤ 1048576) : impl_LargestFree.F l = some (largestFree l 0) := by
  rw [impl_LargestFree.F_eq]
  exact impl_LargestFree_l0 l hn l.length 0 0 (by omega)

theorem law_FnExactLargestFree (l0 : List S78) (hm0 : l0.length ≤ maxLen) (hw0 : ∀ y ∈ l0, ok78 y) : laws_FnExactLargestFree.F l0 = some true := by
  rw [laws_FnExactLargestFree.F_eq, szSlotS l0 1048576 (by omega) hm0]
  simp only [Option.bind_some]
  by_cases h : (1048576 : Int) < (l0.length : Int)
  · rw [if_pos h]; rfl
  · have hn : l0.length ≤ 1048576 := by omega
    have hn' : (l0.map cvSlot).length ≤ 1048576 := by rw [List.length_map]; exact hn
    rw [if_neg h, if_neg (by omega)]
    simp [toSlotS l0 hn, spec_LargestFree_is _ hn', impl_LargestFree_is _ hn', eqSlotS _ hn']

theorem FnExactLargestFree (l0 : List S78) (hm0 : l0.length ≤ maxLen) (hw0 : ∀ y ∈ l0, ok78 y) : ∃ k, laws_FnExactLargestFree.f k l0 = some true :=
  (laws_FnExactLargestFree.F_co l0).rounds (law_FnExactLargestFree l0 hm0 hw0)
end Go.Proofs.Ytlijcogbgbgdhaa.PFnExactLargestFree.Pure
