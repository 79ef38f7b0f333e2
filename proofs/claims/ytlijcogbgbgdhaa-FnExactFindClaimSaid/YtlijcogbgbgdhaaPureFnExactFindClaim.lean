/-
  The program's FindClaim answers as the reference's does, for all arguments. It has no conditions.
-/
import Derived.Test.YtlijcogbgbgdhaaShFnExactFindClaim
import Derived.Test.YtlijcogbgbgdhaaEqFnExactFindClaim
import Derived.Test.YtlijcogbgbgdhaaBase
set_option linter.unusedVariables false
set_option linter.unusedSimpArgs false
namespace Go.Proofs.Ytlijcogbgbgdhaa.PFnExactFindClaim.Pure
open Go.RowKit Go.Proofs.YtlijcogbgbgdhaaW.PrintWords Go.Proofs.YtlijcogbgbgdhaaW.PrintLast Go.Proofs.YtlijcogbgbgdhaaW.PrintMore Go.Proofs.Ytlijcogbgbgdhaa.PFnExactFindClaim Go.Proofs.Ytlijcogbgbgdhaa.Lim Go.Proofs.Ytlijcogbgbgdhaa.Base
set_option maxRecDepth 100000

theorem szClaimS (l : List S98) (a : Int) (ha : 0 ≤ a ∧ a ≤ 1048576) (hl : l.length ≤ maxLen) : laws_szClaimS.f l a = some (if a < (l.length : Int) then -1 else a - (l.length : Int)) := by
  simp only [maxLen] at hl
  unfold laws_szClaimS.f
  rw [wrap_in _ (by omega)]
  by_cases h : a < (l.length : Int)
  · rw [if_pos (by omega), if_pos h]
  · rw [if_neg (by omega), if_neg h]

def cvClaim (y : S98) : S96 := ⟨y.f0, y.f1, y.f2, y.f3, y.f4⟩
theorem toClaimS_l0 (l : List S98) (hn : l.length ≤ 1048576) : ∀ (d i : Nat) (acc : List S96), i + d = l.length → acc.length = l.length → acc.take i = (l.take i).map cvClaim → laws_toClaimS.L0 l acc (i : Int) = some (l.map cvClaim)
  | 0, i, acc, h, ha, ht => by
    rw [laws_toClaimS.L0_eq, if_neg (by omega)]
    rw [List.take_of_length_le (by omega), List.take_of_length_le (by omega)] at ht
    rw [ht]
  | d + 1, i, acc, h, ha, ht => by
    have hi : i < l.length := by omega
    rw [laws_toClaimS.L0_eq, if_pos (by omega), if_pos (by omega)]
    simp only [laws_toClaim.f, Option.bind_some, wrap_succ i (by omega)]
    rw [if_pos (by omega)]
    refine toClaimS_l0 l hn d (i + 1) _ (by omega) (by rw [List.length_set]; exact ha) ?_
    rw [Int.toNat_natCast]
    exact fill_step l cvClaim acc i ha hi ht _ (by simp [rd_T98, cvClaim, hi])
theorem toClaimS (l : List S98) (hn : l.length ≤ 1048576) : laws_toClaimS.F l = some (l.map cvClaim) := by
  rw [laws_toClaimS.F_eq, if_pos (by omega), if_pos (by omega)]
  exact toClaimS_l0 l hn l.length 0 _ (by omega) (by simp) (by simp)

theorem eqClaimS_l0 (l : List S96) (hn : l.length ≤ 1048576) : ∀ (d i : Nat), i + d = l.length → laws_eqClaimS.L0 l l (i : Int) = some true
  | 0, i, h => by rw [laws_eqClaimS.L0_eq, if_neg (by omega)]
  | d + 1, i, h => by
    rw [laws_eqClaimS.L0_eq, if_pos (by omega), if_pos (by omega), if_pos (by omega)]
    simp only [laws_eqClaim.f, if_true, Option.bind_some, wrap_succ i (by omega)]
    exact eqClaimS_l0 l hn d (i + 1) (by omega)
theorem eqClaimS (l : List S96) (hn : l.length ≤ 1048576) : laws_eqClaimS.F l l = some true := by
  rw [laws_eqClaimS.F_eq, if_pos rfl]
  exact eqClaimS_l0 l hn l.length 0 (by omega)

theorem rdClaim_at (l : List S96) (i : Nat) : rd_T96 l (i : Int) = l.getD i z96 := by simp [rd_T96]
theorem dropClaim (l : List S96) (i : Nat) (h : i < l.length) : l.drop i = rd_T96 l (i : Int) :: l.drop (i + 1) := by
  rw [rdClaim_at, getD_get l i _ h]
  exact List.drop_eq_getElem_cons h

theorem spec_FindClaim_l0 (l : List S96) (id : Int) (hn : l.length ≤ 1048576) : ∀ (d i : Nat), i + d = l.length → spec_FindClaim.L0 l id (i : Int) = some (idxF96 (fun x => x.f0 == id) (l.drop i) (i : Int))
  | 0, i, h => by rw [spec_FindClaim.L0_eq, if_neg (by omega), List.drop_of_length_le (by omega)]; rfl
  | d + 1, i, h => by
    rw [spec_FindClaim.L0_eq, if_pos (by omega), if_pos (by omega), wrap_succ i (by omega), spec_FindClaim_l0 l id hn d (i + 1) (by omega), dropClaim l i (by omega)]
    simp only [idxF96]
    by_cases c : (rd_T96 l (i : Int)).f0 = id
    · rw [if_pos c, if_pos (by simpa using c)]
    · rw [if_neg c, if_neg (by simpa using c)]
      rfl
theorem spec_FindClaim_is (l : List S96) (id : Int) (hn : l.length ≤ 1048576) : spec_FindClaim.F l id = some (idxF96 (fun x => x.f0 == id) l 0) := by
  rw [spec_FindClaim.F_eq]
  exact spec_FindClaim_l0 l id hn l.length 0 (by omega)

theorem impl_FindClaim_is (l : List S96) (id : Int) (hn : l.length ≤ 1048576) : impl_FindClaim.f l id = some (idxF96 (fun x => x.f0 == id) l 0) := rfl

theorem law_FnExactFindClaim (l0 : List S98) (hm0 : l0.length ≤ maxLen) (hw0 : ∀ y ∈ l0, ok98 y) (a1 : Int) (w1 : (Lit.int .i64 a1).wf = true) : laws_FnExactFindClaim.F l0 a1 = some true := by
  rw [laws_FnExactFindClaim.F_eq, szClaimS l0 1048576 (by omega) hm0]
  simp only [Option.bind_some]
  by_cases h : (1048576 : Int) < (l0.length : Int)
  · rw [if_pos h]; rfl
  · have hn : l0.length ≤ 1048576 := by omega
    have hn' : (l0.map cvClaim).length ≤ 1048576 := by rw [List.length_map]; exact hn
    rw [if_neg h, if_neg (by omega)]
    simp [toClaimS l0 hn, spec_FindClaim_is _ a1 hn', impl_FindClaim_is _ a1 hn', eqClaimS _ hn']

theorem FnExactFindClaim (l0 : List S98) (hm0 : l0.length ≤ maxLen) (hw0 : ∀ y ∈ l0, ok98 y) (a1 : Int) (w1 : (Lit.int .i64 a1).wf = true) : ∃ k, laws_FnExactFindClaim.f k l0 a1 = some true :=
  (laws_FnExactFindClaim.F_co l0 a1).rounds (law_FnExactFindClaim l0 hm0 hw0 a1 w1)
end Go.Proofs.Ytlijcogbgbgdhaa.PFnExactFindClaim.Pure
