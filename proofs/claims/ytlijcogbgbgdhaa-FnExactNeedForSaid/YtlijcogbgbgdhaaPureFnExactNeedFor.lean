/-
  The program's NeedFor answers as the reference's does, for all arguments. It has no conditions.
-/
import Derived.Test.YtlijcogbgbgdhaaShFnExactNeedFor
import Derived.Test.YtlijcogbgbgdhaaEqFnExactNeedFor
import Derived.Test.YtlijcogbgbgdhaaBase
set_option linter.unusedVariables false
set_option linter.unusedSimpArgs false
namespace Go.Proofs.Ytlijcogbgbgdhaa.PFnExactNeedFor.Pure
open Go.RowKit Go.Proofs.YtlijcogbgbgdhaaW.PrintWords Go.Proofs.YtlijcogbgbgdhaaW.PrintLast Go.Proofs.YtlijcogbgbgdhaaW.PrintMore Go.Proofs.Ytlijcogbgbgdhaa.PFnExactNeedFor Go.Proofs.Ytlijcogbgbgdhaa.Lim Go.Proofs.Ytlijcogbgbgdhaa.Base
set_option maxRecDepth 100000

theorem szMarkS (l : List S73) (a : Int) (ha : 0 ≤ a ∧ a ≤ 1048576) (hl : l.length ≤ maxLen) : laws_szMarkS.f l a = some (if a < (l.length : Int) then -1 else a - (l.length : Int)) := by
  simp only [maxLen] at hl
  unfold laws_szMarkS.f
  rw [wrap_in _ (by omega)]
  by_cases h : a < (l.length : Int)
  · rw [if_pos (by omega), if_pos h]
  · rw [if_neg (by omega), if_neg h]

def cvMark (y : S73) : S71 := ⟨y.f0, y.f1⟩
theorem toMarkS_l0 (l : List S73) (hn : l.length ≤ 1048576) : ∀ (d i : Nat) (acc : List S71), i + d = l.length → acc.length = l.length → acc.take i = (l.take i).map cvMark → laws_toMarkS.L0 l acc (i : Int) = some (l.map cvMark)
  | 0, i, acc, h, ha, ht => by
    rw [laws_toMarkS.L0_eq, if_neg (by omega)]
    rw [List.take_of_length_le (by omega), List.take_of_length_le (by omega)] at ht
    rw [ht]
  | d + 1, i, acc, h, ha, ht => by
    have hi : i < l.length := by omega
    rw [laws_toMarkS.L0_eq, if_pos (by omega), if_pos (by omega)]
    simp only [laws_toMark.f, Option.bind_some, wrap_succ i (by omega)]
    rw [if_pos (by omega)]
    refine toMarkS_l0 l hn d (i + 1) _ (by omega) (by rw [List.length_set]; exact ha) ?_
    rw [Int.toNat_natCast]
    exact fill_step l cvMark acc i ha hi ht _ (by simp [rd_T73, cvMark, hi])
theorem toMarkS (l : List S73) (hn : l.length ≤ 1048576) : laws_toMarkS.F l = some (l.map cvMark) := by
  rw [laws_toMarkS.F_eq, if_pos (by omega), if_pos (by omega)]
  exact toMarkS_l0 l hn l.length 0 _ (by omega) (by simp) (by simp)

theorem eqMarkS_l0 (l : List S71) (hn : l.length ≤ 1048576) : ∀ (d i : Nat), i + d = l.length → laws_eqMarkS.L0 l l (i : Int) = some true
  | 0, i, h => by rw [laws_eqMarkS.L0_eq, if_neg (by omega)]
  | d + 1, i, h => by
    rw [laws_eqMarkS.L0_eq, if_pos (by omega), if_pos (by omega), if_pos (by omega)]
    simp only [laws_eqMark.f, if_true, Option.bind_some, wrap_succ i (by omega)]
    exact eqMarkS_l0 l hn d (i + 1) (by omega)
theorem eqMarkS (l : List S71) (hn : l.length ≤ 1048576) : laws_eqMarkS.F l l = some true := by
  rw [laws_eqMarkS.F_eq, if_pos rfl]
  exact eqMarkS_l0 l hn l.length 0 (by omega)

theorem spec_NeedFor_is (l : List S71) (hn : l.length ≤ 1048576) : spec_NeedFor.f l = some (if (l.length : Int) < 3 then (l.length : Int) else 3) := by
  unfold spec_NeedFor.f spec_Min.f
  split <;> rfl

theorem impl_NeedFor_is (l : List S71) (hn : l.length ≤ 1048576) : impl_NeedFor.f l = some (if (l.length : Int) < 3 then (l.length : Int) else 3) := by
  unfold impl_NeedFor.f mn
  rfl

theorem law_FnExactNeedFor (l0 : List S73) (hm0 : l0.length ≤ maxLen) (hw0 : ∀ y ∈ l0, ok73 y) : laws_FnExactNeedFor.F l0 = some true := by
  rw [laws_FnExactNeedFor.F_eq, szMarkS l0 1048576 (by omega) hm0]
  simp only [Option.bind_some]
  by_cases h : (1048576 : Int) < (l0.length : Int)
  · rw [if_pos h]; rfl
  · have hn : l0.length ≤ 1048576 := by omega
    have hn' : (l0.map cvMark).length ≤ 1048576 := by rw [List.length_map]; exact hn
    rw [if_neg h, if_neg (by omega)]
    simp [toMarkS l0 hn, spec_NeedFor_is _ hn', impl_NeedFor_is _ hn', eqMarkS _ hn']

theorem FnExactNeedFor (l0 : List S73) (hm0 : l0.length ≤ maxLen) (hw0 : ∀ y ∈ l0, ok73 y) : ∃ k, laws_FnExactNeedFor.f k l0 = some true :=
  (laws_FnExactNeedFor.F_co l0).rounds (law_FnExactNeedFor l0 hm0 hw0)
end Go.Proofs.Ytlijcogbgbgdhaa.PFnExactNeedFor.Pure
