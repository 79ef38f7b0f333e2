/-
  The program's ClaimsFor answers as the reference's does, for all arguments. It has no conditions.
-/
import Derived.Test.YtjokfllhbmodeaaShFnExactClaimsFor
import Derived.Test.YtjokfllhbmodeaaEqFnExactClaimsFor
import Derived.Test.YtjokfllhbmodeaaBase
set_option linter.unusedVariables false
set_option linter.unusedSimpArgs false
namespace Go.Proofs.Ytjokfllhbmodeaa.PFnExactClaimsFor.Pure
open Go.RowKit Go.Proofs.YtjokfllhbmodeaaW.PrintWords Go.Proofs.YtjokfllhbmodeaaW.PrintLast Go.Proofs.YtjokfllhbmodeaaW.PrintMore Go.Proofs.Ytjokfllhbmodeaa.PFnExactClaimsFor Go.Proofs.Ytjokfllhbmodeaa.Lim Go.Proofs.Ytjokfllhbmodeaa.Base
set_option maxRecDepth 100000

theorem szClaimS (l : List S124) (a : Int) (ha : 0 ≤ a ∧ a ≤ 1048576) (hl : l.length ≤ maxLen) : laws_szClaimS.f l a = some (if a < (l.length : Int) then -1 else a - (l.length : Int)) := by
  simp only [maxLen] at hl
  unfold laws_szClaimS.f
  rw [wrap_in _ (by omega)]
  by_cases h : a < (l.length : Int)
  · rw [if_pos (by omega), if_pos h]
  · rw [if_neg (by omega), if_neg h]

def cvClaim (y : S124) : S122 := ⟨y.f0, y.f1, y.f2, y.f3, y.f4⟩
theorem toClaimS_l0 (l : List S124) (hn : l.length ≤ 1048576) : ∀ (d i : Nat) (acc : List S122), i + d = l.length → acc.length = l.length → acc.take i = (l.take i).map cvClaim → laws_toClaimS.L0 l acc (i : Int) = some (l.map cvClaim)
  | 0, i, acc, h, ha, ht => by
    rw [laws_toClaimS.L0_eq, if_neg (by omega)]
    rw [List.take_of_length_le (by omega), List.take_of_length_le (by omega)] at ht
    rw [ht]
  | d + 1, i, acc, h, ha, ht => by
    have hi : i < l.length := by omega
    rw [laws_toClaimS.L0_eq, if_pos (by omega), if_pos (by omega)]
    simp only [laws_toClaim.f, Option.bind_some, wrap_succ i (by omega)]
    rw [if_pos (by omega)]
    refine toClaimS_l0 l hn d (i + 1) _ (by omega) (by rw [List.length_set]; exact ha) ?_
    rw [Int.toNat_natCast]
    exact fill_step l cvClaim acc i ha hi ht _ (by simp [rd_T124, cvClaim, hi])
theorem toClaimS (l : List S124) (hn : l.length ≤ 1048576) : laws_toClaimS.F l = some (l.map cvClaim) := by
  rw [laws_toClaimS.F_eq, if_pos (by omega), if_pos (by omega)]
  exact toClaimS_l0 l hn l.length 0 _ (by omega) (by simp) (by simp)

theorem eqClaimS_l0 (l : List S122) (hn : l.length ≤ 1048576) : ∀ (d i : Nat), i + d = l.length → laws_eqClaimS.L0 l l (i : Int) = some true
  | 0, i, h => by rw [laws_eqClaimS.L0_eq, if_neg (by omega)]
  | d + 1, i, h => by
    rw [laws_eqClaimS.L0_eq, if_pos (by omega), if_pos (by omega), if_pos (by omega)]
    simp only [laws_eqClaim.f, if_true, Option.bind_some, wrap_succ i (by omega)]
    exact eqClaimS_l0 l hn d (i + 1) (by omega)
theorem eqClaimS (l : List S122) (hn : l.length ≤ 1048576) : laws_eqClaimS.F l l = some true := by
  rw [laws_eqClaimS.F_eq, if_pos rfl]
  exact eqClaimS_l0 l hn l.length 0 (by omega)

theorem eqIntS_l0 (l : List Int) (hn : l.length ≤ 4194304) : ∀ (d i : Nat), i + d = l.length → laws_eqIntS.L0 l l (i : Int) = some true
  | 0, i, h => by rw [laws_eqIntS.L0_eq, if_neg (by omega)]
  | d + 1, i, h => by
    rw [laws_eqIntS.L0_eq, if_pos (by omega), if_pos (by omega), if_pos (by omega), if_pos rfl, wrap_succ i (by omega)]
    exact eqIntS_l0 l hn d (i + 1) (by omega)
theorem eqIntS (l : List Int) (hn : l.length ≤ 4194304) : laws_eqIntS.F l l = some true := by
  rw [laws_eqIntS.F_eq, if_pos rfl]
  exact eqIntS_l0 l hn l.length 0 (by omega)

theorem rdClaim_at (l : List S122) (i : Nat) : rd_T122 l (i : Int) = l.getD i z122 := by simp [rd_T122]
theorem dropClaim (l : List S122) (i : Nat) (h : i < l.length) : l.drop i = rd_T122 l (i : Int) :: l.drop (i + 1) := by
  rw [rdClaim_at, getD_get l i _ h]
  exact List.drop_eq_getElem_cons h

def lineClaim (k : Int) (n : Nat) : List S122 := (List.range n).map (fun j : Nat => (⟨k + 5 * (j : Int), k + 5 * (j : Int) + 1, k + 5 * (j : Int) + 2, k + 5 * (j : Int) + 3, k + 5 * (j : Int) + 4⟩ : S122))
theorem lineClaim_len (k : Int) (n : Nat) : (lineClaim k n).length = n := by simp [lineClaim]
theorem rdsetClaim (l : List S122) (i : Nat) (v : S122) (h : i < l.length) : rd_T122 (l.set i v) (i : Int) = v := by simp [rd_T122, h]
theorem markClaimS_l0 (k : Int) (n : Nat) (hk : 0 ≤ k ∧ k ≤ 67108864) (hn : n ≤ 1048576) : ∀ (d i : Nat) (acc : List S122), i + d = n → acc.length = n → acc.take i = ((List.range n).take i).map (fun j : Nat => (⟨k + 5 * (j : Int), k + 5 * (j : Int) + 1, k + 5 * (j : Int) + 2, k + 5 * (j : Int) + 3, k + 5 * (j : Int) + 4⟩ : S122)) → laws_markClaimS.L0 acc (k + 5 * (i : Int)) (i : Int) = some (k + 5 * (n : Int), lineClaim k n)
  | 0, i, acc, h, ha, ht => by
    rw [laws_markClaimS.L0_eq, if_neg (by omega)]
    rw [List.take_of_length_le (by omega), List.take_of_length_le (by simp; omega)] at ht
    rw [ht, show i = n by omega]; rfl
  | d + 1, i, acc, h, ha, ht => by
    have hi : i < acc.length := by omega
    rw [laws_markClaimS.L0_eq, if_pos (by omega), if_pos (by omega)]
    simp only [Option.bind_some, Int.toNat_natCast, rdsetClaim, List.length_set, hi, List.set_set, wrap_succ i (by omega)]
    simp only [wrap_in (k + 5 * (i : Int) + 1) (by omega), wrap_in (k + 5 * (i : Int) + 1 + 1) (by omega), wrap_in (k + 5 * (i : Int) + 1 + 1 + 1) (by omega), wrap_in (k + 5 * (i : Int) + 1 + 1 + 1 + 1) (by omega), wrap_in (k + 5 * (i : Int) + 1 + 1 + 1 + 1 + 1) (by omega)]
    rw [show k + 5 * (i : Int) + 1 + 1 + 1 + 1 + 1 = k + 5 * ((i + 1 : Nat) : Int) by omega]
    refine markClaimS_l0 k n hk hn d (i + 1) _ (by omega) (by rw [List.length_set]; exact ha) ?_
    exact fill_step (List.range n) (fun j : Nat => (⟨k + 5 * (j : Int), k + 5 * (j : Int) + 1, k + 5 * (j : Int) + 2, k + 5 * (j : Int) + 3, k + 5 * (j : Int) + 4⟩ : S122)) acc i (by simp [ha]) (by simp; omega) ht _ (by simp <;> omega)
theorem markClaimS (l : List S122) (k : Int) (hk : 0 ≤ k ∧ k ≤ 67108864) (hn : l.length ≤ 1048576) : laws_markClaimS.F l k = some (k + 5 * (l.length : Int), lineClaim k l.length) := by
  rw [laws_markClaimS.F_eq]
  have := markClaimS_l0 k l.length hk hn l.length 0 l (by omega) rfl (by simp)
  simpa using this

def lineInt (k : Int) (n : Nat) : List Int := (List.range n).map (fun j : Nat => k + (j : Int))
theorem lineInt_len (k : Int) (n : Nat) : (lineInt k n).length = n := by simp [lineInt]
theorem markIntS_l0 (k : Int) (n : Nat) (hk : 0 ≤ k ∧ k ≤ 67108864) (hn : n ≤ 4194304) : ∀ (d i : Nat) (acc : List Int), i + d = n → acc.length = n → acc.take i = ((List.range n).take i).map (fun j : Nat => k + (j : Int)) → laws_markIntS.L0 acc (k + (i : Int)) (i : Int) = some (k + (n : Int), lineInt k n)
  | 0, i, acc, h, ha, ht => by
    rw [laws_markIntS.L0_eq, if_neg (by omega)]
    rw [List.take_of_length_le (by omega), List.take_of_length_le (by simp; omega)] at ht
    rw [ht, show i = n by omega]; rfl
  | d + 1, i, acc, h, ha, ht => by
    rw [laws_markIntS.L0_eq, if_pos (by omega), if_pos (by omega), wrap_succ i (by omega), wrap_in _ (by omega), Int.toNat_natCast, show k + (i : Int) + 1 = k + ((i + 1 : Nat) : Int) by omega]
    refine markIntS_l0 k n hk hn d (i + 1) _ (by omega) (by rw [List.length_set]; exact ha) ?_
    exact fill_step (List.range n) (fun j : Nat => k + (j : Int)) acc i (by simp [ha]) (by simp; omega) ht _ (by simp)
theorem markIntS (l : List Int) (k : Int) (hk : 0 ≤ k ∧ k ≤ 67108864) (hn : l.length ≤ 4194304) : laws_markIntS.F l k = some (k + (l.length : Int), lineInt k l.length) := by
  rw [laws_markIntS.F_eq]
  have := markIntS_l0 k l.length hk hn l.length 0 l (by omega) rfl (by simp)
  simpa using this

theorem heldIntS_l0 (k : Int) (n : Nat) (hk : 0 ≤ k ∧ k ≤ 67108864) (hn : n ≤ 4194304) : ∀ (d i : Nat), i + d = n → laws_heldIntS.L0 (lineInt k n) (k + (i : Int)) (i : Int) = some (k + (n : Int))
  | 0, i, h => by rw [laws_heldIntS.L0_eq, lineInt_len, if_neg (by omega), show i = n by omega]
  | d + 1, i, h => by
    have hr : rd (lineInt k n) (i : Int) = k + (i : Int) := by simp [rd, lineInt, show i < n by omega]
    rw [laws_heldIntS.L0_eq, lineInt_len, if_pos (by omega), if_pos (by omega), hr, if_pos rfl, wrap_succ i (by omega), wrap_in _ (by omega), show k + (i : Int) + 1 = k + ((i + 1 : Nat) : Int) by omega]
    exact heldIntS_l0 k n hk hn d (i + 1) (by omega)
theorem heldIntS (k : Int) (n : Nat) (hk : 0 ≤ k ∧ k ≤ 67108864) (hn : n ≤ 4194304) : laws_heldIntS.F (lineInt k n) k = some (k + (n : Int)) := by
  rw [laws_heldIntS.F_eq]
  have := heldIntS_l0 k n hk hn n 0 (by omega)
  simpa using this

def claimsFor : List S122 → Int → List Int
  | [], _ => []
  | x :: r, t => if x.f2 = t then x.f0 :: claimsFor r t else claimsFor r t
theorem claimsFor_len : ∀ (l : List S122) (t : Int), (claimsFor l t).length ≤ l.length
  | [], t => Nat.le_refl _
  | x :: r, t => by
    have := claimsFor_len r t
    simp only [claimsFor]
    split <;> simp only [List.length_cons] <;> omega

theorem spec_ClaimsFor_l0 (l : List S122) (t : Int) (hn : l.length ≤ 1048576) : ∀ (d i : Nat) (acc : List Int), i + d = l.length → acc.length ≤ i → spec_ClaimsFor.L0 l t acc (i : Int) = some (acc ++ claimsFor (l.drop i) t)
  | 0, i, acc, h, ha => by
    rw [spec_ClaimsFor.L0_eq, if_neg (by omega), List.drop_of_length_le (by omega)]
    simp [claimsFor]
  | d + 1, i, acc, h, ha => by
    rw [spec_ClaimsFor.L0_eq, if_pos (by omega), if_pos (by omega), wrap_succ i (by omega), dropClaim l i (by omega)]
    simp only [claimsFor]
    by_cases c : (rd_T122 l (i : Int)).f2 = t
    · rw [if_pos c, if_pos c, if_pos (by omega), spec_ClaimsFor_l0 l t hn d (i + 1) _ (by omega) (by simp; omega)]
      simp
    · rw [if_neg c, if_neg c, spec_ClaimsFor_l0 l t hn d (i + 1) _ (by omega) (by omega)]
theorem spec_ClaimsFor_is (l : List S122) (t : Int) (hn : l.length ≤ 1048576) : spec_ClaimsFor.F l t = some (claimsFor l t) := by
  rw [spec_ClaimsFor.F_eq]
  exact spec_ClaimsFor_l0 l t hn l.length 0 [] (by omega) (by simp)

theorem impl_ClaimsFor_l0 (l : List S122) (t : Int) (hn : l.length ≤ 1048576) : ∀ (d i : Nat) (acc : List Int), i + d = l.length → acc.length ≤ i → impl_ClaimsFor.L0 t acc l (l.length : Int) (i : Int) = some (acc ++ claimsFor (l.drop i) t)
  | 0, i, acc, h, ha => by
    rw [impl_ClaimsFor.L0_eq, if_neg (by omega), List.drop_of_length_le (by omega)]
    simp [claimsFor]
  | d + 1, i, acc, h, ha => by
    rw [impl_ClaimsFor.L0_eq, if_pos (by omega), if_pos (by omega), if_pos (by omega), wrap_succ i (by omega), dropClaim l i (by omega)]
    simp only [claimsFor]
    by_cases c : (rd_T122 l (i : Int)).f2 = t
    · rw [if_pos c, if_pos c, if_pos (by omega), impl_ClaimsFor_l0 l t hn d (i + 1) _ (by omega) (by simp; omega)]
      simp
    · rw [if_neg c, if_neg c, impl_ClaimsFor_l0 l t hn d (i + 1) _ (by omega) (by omega)]
theorem impl_ClaimsFor_is (l : List S122) (t : Int) (hn : l.length ≤ 1048576) : impl_ClaimsFor.F l t = some (claimsFor l t) := by
  rw [impl_ClaimsFor.F_eq]
  exact impl_ClaimsFor_l0 l t hn l.length 0 [] (by omega) (by simp)

theorem law_FnExactClaimsFor (l0 : List S124) (hm0 : l0.length ≤ maxLen) (hw0 : ∀ y ∈ l0, ok124 y) (a1 : Int) (w1 : (Lit.int .i64 a1).wf = true) : laws_FnExactClaimsFor.F l0 a1 = some true := by
  rw [laws_FnExactClaimsFor.F_eq, szClaimS l0 1048576 (by omega) hm0]
  simp only [Option.bind_some]
  by_cases h : (1048576 : Int) < (l0.length : Int)
  · rw [if_pos h]; rfl
  · have hn : l0.length ≤ 1048576 := by omega
    have hn' : (l0.map cvClaim).length ≤ 1048576 := by rw [List.length_map]; exact hn
    have hr := claimsFor_len (l0.map cvClaim) a1
    have hr' : (claimsFor (l0.map cvClaim) a1).length ≤ 1048576 := by omega
    have hr2 : (claimsFor (l0.map cvClaim) a1).length ≤ 4194304 := by omega
    rw [if_neg h, if_neg (by omega)]
    simp only [toClaimS l0 hn, spec_ClaimsFor_is _ a1 hn', impl_ClaimsFor_is _ a1 hn', eqIntS _ hr2, eqClaimS _ hn', markClaimS _ 1 (by omega) hn', Option.bind_some, if_true]
    rw [if_neg (by omega)]
    simp only [laws_FnExactClaimsFor.J0_eq, markIntS _ 1 (by omega) hr2, heldIntS 1 _ (by omega) hr2, Option.bind_some, toClaimS l0 hn, impl_ClaimsFor_is _ a1 hn', eqIntS _ hr2, if_true, Bool.not_true, Bool.false_eq_true, if_false]
    rw [if_neg (by omega), if_neg (by omega)]

theorem FnExactClaimsFor (l0 : List S124) (hm0 : l0.length ≤ maxLen) (hw0 : ∀ y ∈ l0, ok124 y) (a1 : Int) (w1 : (Lit.int .i64 a1).wf = true) : ∃ k, laws_FnExactClaimsFor.f k l0 a1 = some true :=
  (laws_FnExactClaimsFor.F_co l0 a1).rounds (law_FnExactClaimsFor l0 hm0 hw0 a1 w1)
end Go.Proofs.Ytjokfllhbmodeaa.PFnExactClaimsFor.Pure
