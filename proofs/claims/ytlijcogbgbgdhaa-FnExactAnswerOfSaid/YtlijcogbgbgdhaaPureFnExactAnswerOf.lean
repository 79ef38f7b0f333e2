/-
  The program's AnswerOf answers as the reference's does, for all arguments. It has no conditions.
-/
import Derived.Test.YtlijcogbgbgdhaaShFnExactAnswerOf
import Derived.Test.YtlijcogbgbgdhaaEqFnExactAnswerOf
import Derived.Test.YtlijcogbgbgdhaaBase
set_option linter.unusedVariables false
set_option linter.unusedSimpArgs false
namespace Go.Proofs.Ytlijcogbgbgdhaa.PFnExactAnswerOf.Pure
open Go.RowKit Go.Proofs.YtlijcogbgbgdhaaW.PrintWords Go.Proofs.YtlijcogbgbgdhaaW.PrintLast Go.Proofs.YtlijcogbgbgdhaaW.PrintMore Go.Proofs.Ytlijcogbgbgdhaa.PFnExactAnswerOf Go.Proofs.Ytlijcogbgbgdhaa.Lim Go.Proofs.Ytlijcogbgbgdhaa.Base
set_option maxRecDepth 100000

theorem szMarkS (l : List S73) (a : Int) (ha : 0 ≤ a ∧ a ≤ 1048576) (hl : l.length ≤ maxLen) : laws_szMarkS.f l a = some (if a < (l.length : Int) then -1 else a - (l.length : Int)) := by
  simp only [maxLen] at hl
  unfold laws_szMarkS.f
  rw [wrap_in _ (by omega)]
  by_cases h : a < (l.length : Int)
  · rw [if_pos (by omega), if_pos h]
  · rw [if_neg (by omega), if_neg h]

def cvMark (y : S73) : S71 := ⟨y.f0, y.f1⟩
theorem toMarkS_l0 (l : List S73) (hn : l.length ≤ 1048576) : ∀ (d i : Nat) (acc : List S71), i + d = l.length → acc.length = l.length → acc.take i = (l.take i).map cvMark → laws_toMarkS.L0 l acc (i : Int) = some (l.map cvMark)
  | 0, i, acc, h, ha, ht => by
    rw [laws_toMarkS.L0_eq, if_neg (by omega)]
    rw [List.take_of_length_le (by omega), List.take_of_length_le (by omega)] at ht
    rw [ht]
  | d + 1, i, acc, h, ha, ht => by
    have hi : i < l.length := by omega
    rw [laws_toMarkS.L0_eq, if_pos (by omega), if_pos (by omega)]
    simp only [laws_toMark.f, Option.bind_some, wrap_succ i (by omega)]
    rw [if_pos (by omega)]
    refine toMarkS_l0 l hn d (i + 1) _ (by omega) (by rw [List.length_set]; exact ha) ?_
    rw [Int.toNat_natCast]
    exact fill_step l cvMark acc i ha hi ht _ (by simp [rd_T73, cvMark, hi])
theorem toMarkS (l : List S73) (hn : l.length ≤ 1048576) : laws_toMarkS.F l = some (l.map cvMark) := by
  rw [laws_toMarkS.F_eq, if_pos (by omega), if_pos (by omega)]
  exact toMarkS_l0 l hn l.length 0 _ (by omega) (by simp) (by simp)

theorem eqMarkS_l0 (l : List S71) (hn : l.length ≤ 1048576) : ∀ (d i : Nat), i + d = l.length → laws_eqMarkS.L0 l l (i : Int) = some true
  | 0, i, h => by rw [laws_eqMarkS.L0_eq, if_neg (by omega)]
  | d + 1, i, h => by
    rw [laws_eqMarkS.L0_eq, if_pos (by omega), if_pos (by omega), if_pos (by omega)]
    simp only [laws_eqMark.f, if_true, Option.bind_some, wrap_succ i (by omega)]
    exact eqMarkS_l0 l hn d (i + 1) (by omega)
theorem eqMarkS (l : List S71) (hn : l.length ≤ 1048576) : laws_eqMarkS.F l l = some true := by
  rw [laws_eqMarkS.F_eq, if_pos rfl]
  exact eqMarkS_l0 l hn l.length 0 (by omega)

theorem rdMark_at (l : List S71) (i : Nat) : rd_T71 l (i : Int) = l.getD i z71 := by simp [rd_T71]
theorem dropMark (l : List S71) (i : Nat) (h : i < l.length) : l.drop i = rd_T71 l (i : Int) :: l.drop (i + 1) := by
  rw [rdMark_at, getD_get l i _ h]
  exact List.drop_eq_getElem_cons h

def answerOf : List S71 → Int → Int
  | [], _ => -1
  | m :: r, q => if m.f0 = q then m.f1 else answerOf r q

theorem spec_AnswerOf_l0 (l : List S71) (q : Int) (hn : l.length ≤ 1048576) : ∀ (d i : Nat), i + d = l.length → spec_AnswerOf.L0 l q (i : Int) = some (answerOf (l.drop i) q)
  | 0, i, h => by rw [spec_AnswerOf.L0_eq, if_neg (by omega), List.drop_of_length_le (by omega)]; rfl
  | d + 1, i, h => by
    have hi : i < l.length := by omega
    have ih := spec_AnswerOf_l0 l q hn d (i + 1) (by omega)
    rw [spec_AnswerOf.L0_eq, dropMark l i hi]
    simp only [wrap_succ i (by omega), wrap_pred i (by omega), ih, Option.bind_some, answerOf]
    repeat' split
    all_goals first
      | rfl
      | (exfalso; first | contradiction | omega)
      | (simp_all; done)

theorem spec_AnswerOf_is (l : List S71) (q : Int) (hn : l.length ≤ 1048576) : spec_AnswerOf.F l q = some (answerOf l q) := by
  rw [spec_AnswerOf.F_eq]
  exact spec_AnswerOf_l0 l q hn l.length 0 (by omega)

theorem impl_AnswerOf_l0 (l : List S71) (q : Int) (hn : l.length ≤ 1048576) : ∀ (d i : Nat), i + d = l.length → impl_AnswerOf.L0 q l (l.length : Int) (i : Int) = some (answerOf (l.drop i) q)
  | 0, i, h => by rw [impl_AnswerOf.L0_eq, if_neg (by omega), List.drop_of_length_le (by omega)]; rfl
  | d + 1, i, h => by
    have hi : i < l.length := by omega
    have ih := impl_AnswerOf_l0 l q hn d (i + 1) (by omega)
    rw [impl_AnswerOf.L0_eq, dropMark l i hi]
    simp only [wrap_succ i (by omega), wrap_pred i (by omega), ih, Option.bind_some, answerOf]
    repeat' split
    all_goals first
      | rfl
      | (exfalso; first | contradiction | omega)
      | (simp_all; done)

theorem impl_AnswerOf_is (l : List S71) (q : Int) (hn : l.length ≤ 1048576) : impl_AnswerOf.F l q = some (answerOf l q) := by
  rw [impl_AnswerOf.F_eq]
  exact impl_AnswerOf_l0 l q hn l.length 0 (by omega)

theorem law_FnExactAnswerOf (l0 : List S73) (hm0 : l0.length ≤ maxLen) (hw0 : ∀ y ∈ l0, ok73 y) (a1 : Int) (w1 : (Lit.int .i64 a1).wf = true) : laws_FnExactAnswerOf.F l0 a1 = some true := by
  rw [laws_FnExactAnswerOf.F_eq, szMarkS l0 1048576 (by omega) hm0]
  simp only [Option.bind_some]
  by_cases h : (1048576 : Int) < (l0.length : Int)
  · rw [if_pos h]; rfl
  · have hn : l0.length ≤ 1048576 := by omega
    have hn' : (l0.map cvMark).length ≤ 1048576 := by rw [List.length_map]; exact hn
    rw [if_neg h, if_neg (by omega)]
    simp [toMarkS l0 hn, spec_AnswerOf_is _ a1 hn', impl_AnswerOf_is _ a1 hn', eqMarkS _ hn']

theorem FnExactAnswerOf (l0 : List S73) (hm0 : l0.length ≤ maxLen) (hw0 : ∀ y ∈ l0, ok73 y) (a1 : Int) (w1 : (Lit.int .i64 a1).wf = true) : ∃ k, laws_FnExactAnswerOf.f k l0 a1 = some true :=
  (laws_FnExactAnswerOf.F_co l0 a1).rounds (law_FnExactAnswerOf l0 hm0 hw0 a1 w1)
end Go.Proofs.Ytlijcogbgbgdhaa.PFnExactAnswerOf.Pure
