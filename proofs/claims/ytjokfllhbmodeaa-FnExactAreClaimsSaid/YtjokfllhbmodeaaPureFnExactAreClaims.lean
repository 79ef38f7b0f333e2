/-
  The program's AreClaims answers as the reference's does, for all arguments. It has no conditions.
-/
import Derived.Test.YtjokfllhbmodeaaShFnExactAreClaims
import Derived.Test.YtjokfllhbmodeaaEqFnExactAreClaims
import Derived.Test.YtjokfllhbmodeaaBase
set_option linter.unusedVariables false
set_option linter.unusedSimpArgs false
namespace Go.Proofs.Ytjokfllhbmodeaa.PFnExactAreClaims.Pure
open Go.RowKit Go.Proofs.YtjokfllhbmodeaaW.PrintWords Go.Proofs.YtjokfllhbmodeaaW.PrintLast Go.Proofs.YtjokfllhbmodeaaW.PrintMore Go.Proofs.Ytjokfllhbmodeaa.PFnExactAreClaims Go.Proofs.Ytjokfllhbmodeaa.Lim Go.Proofs.Ytjokfllhbmodeaa.Base
set_option maxRecDepth 100000

theorem szClaimS (l : List S124) (a : Int) (ha : 0 ≤ a ∧ a ≤ 1048576) (hl : l.length ≤ maxLen) : laws_szClaimS.f l a = some (if a < (l.length : Int) then -1 else a - (l.length : Int)) := by
  simp only [maxLen] at hl
  unfold laws_szClaimS.f
  rw [wrap_in _ (by omega)]
  by_cases h : a < (l.length : Int)
  · rw [if_pos (by omega), if_pos h]
  · rw [if_neg (by omega), if_neg h]

def cvClaim (y : S124) : S122 := ⟨y.f0, y.f1, y.f2, y.f3, y.f4⟩
theorem toClaimS_l0 (l : List S124) (hn : l.length ≤ 1048576) : ∀ (d i : Nat) (acc : List S122), i + d = l.length → acc.length = l.length → acc.take i = (l.take i).map cvClaim → laws_toClaimS.L0 l acc (i : Int) = some (l.map cvClaim)
  | 0, i, acc, h, ha, ht => by
    rw [laws_toClaimS.L0_eq, if_neg (by omega)]
    rw [List.take_of_length_le (by omega), List.take_of_length_le (by omega)] at ht
    rw [ht]
  | d + 1, i, acc, h, ha, ht => by
    have hi : i < l.length := by omega
    rw [laws_toClaimS.L0_eq, if_pos (by omega), if_pos (by omega)]
    simp only [laws_toClaim.f, Option.bind_some, wrap_succ i (by omega)]
    rw [if_pos (by omega)]
    refine toClaimS_l0 l hn d (i + 1) _ (by omega) (by rw [List.length_set]; exact ha) ?_
    rw [Int.toNat_natCast]
    exact fill_step l cvClaim acc i ha hi ht _ (by simp [rd_T124, cvClaim, hi])
theorem toClaimS (l : List S124) (hn : l.length ≤ 1048576) : laws_toClaimS.F l = some (l.map cvClaim) := by
  rw [laws_toClaimS.F_eq, if_pos (by omega), if_pos (by omega)]
  exact toClaimS_l0 l hn l.length 0 _ (by omega) (by simp) (by simp)

theorem eqClaimS_l0 (l : List S122) (hn : l.length ≤ 1048576) : ∀ (d i : Nat), i + d = l.length → laws_eqClaimS.L0 l l (i : Int) = some true
  | 0, i, h => by rw [laws_eqClaimS.L0_eq, if_neg (by omega)]
  | d + 1, i, h => by
    rw [laws_eqClaimS.L0_eq, if_pos (by omega), if_pos (by omega), if_pos (by omega)]
    simp only [laws_eqClaim.f, if_true, Option.bind_some, wrap_succ i (by omega)]
    exact eqClaimS_l0 l hn d (i + 1) (by omega)
theorem eqClaimS (l : List S122) (hn : l.length ≤ 1048576) : laws_eqClaimS.F l l = some true := by
  rw [laws_eqClaimS.F_eq, if_pos rfl]
  exact eqClaimS_l0 l hn l.length 0 (by omega)

theorem rdClaim_at (l : List S122) (i : Nat) : rd_T122 l (i : Int) = l.getD i z122 := by simp [rd_T122]
theorem dropClaim (l : List S122) (i : Nat) (h : i < l.length) : l.drop i = rd_T122 l (i : Int) :: l.drop (i + 1) := by
  rw [rdClaim_at, getD_get l i _ h]
  exact List.drop_eq_getElem_cons h

noncomputable def onceB (l : List S122) (i : Nat) : Bool := decide ((rd_T122 l i).f4 ≠ 3) || allF (fun q : Nat => ¬ ((rd_T122 l q).f4 = 3 ∧ (rd_T122 l q).f2 = (rd_T122 l i).f2)) i 0
def okClaim (l : List S122) (i : Nat) : Prop := inR (rd_T122 l i).f0 1 999 = true ∧ ((i : Int) > 0 → (rd_T122 l ((i : Int) - 1)).f0 < (rd_T122 l i).f0) ∧ inR (rd_T122 l i).f1 1 999 = true ∧ inR (rd_T122 l i).f2 1 999 = true ∧ inR (rd_T122 l i).f3 0 100000 = true ∧ inR (rd_T122 l i).f4 0 3 = true ∧ onceB l i = true
noncomputable def areClaims (l : List S122) : Bool := allF (okClaim l) l.length 0 && decide ((l.length : Int) ≤ 20)
theorem rdClaim_take (l : List S122) (i q : Nat) (h : q < i) : rd_T122 (l.take i) (q : Int) = rd_T122 l (q : Int) := by
  rw [rdClaim_at, rdClaim_at, List.getD_eq_getElem?_getD, List.getD_eq_getElem?_getD, List.getElem?_take, if_pos h]

theorem l1In (a b c : Int) : spec_l1In.f a b c = some (inR a b c) := by
  unfold spec_l1In.f inR
  by_cases h : b ≤ a <;> simp [h]

theorem spec_AreClaims_l1 (l : List S122) (hn : l.length ≤ 1048576) (i : Nat) (hi : i < l.length) (y0 y1 y3 : Int) : ∀ (d m : Nat), m + d = i → spec_AreClaims.L1 l (i : Int) (m : Int) y0 y1 (rd_T122 l (i : Int)).f2 y3 (rd_T122 l (i : Int)).f4 = if (decide ((rd_T122 l i).f4 ≠ 3) || allF (fun q : Nat => ¬ ((rd_T122 l q).f4 = 3 ∧ (rd_T122 l q).f2 = (rd_T122 l i).f2)) i m) = true then spec_AreClaims.L0 l ((i + 1 : Nat) : Int) else some false
  | 0, m, h => by
    rw [spec_AreClaims.L1_eq, if_neg (by omega), allF_end (by omega), Bool.or_true, if_pos rfl, wrap_succ i (by omega)]
  | d + 1, m, h => by
    have hm : m < i := by omega
    have hy := fun hc => allF_yes (p := fun q : Nat => ¬ ((rd_T122 l q).f4 = 3 ∧ (rd_T122 l q).f2 = (rd_T122 l i).f2)) (n := i) (i := m) hc
    rw [spec_AreClaims.L1_eq, if_pos (by omega), wrap_succ m (by omega), spec_AreClaims_l1 l hn i hi y0 y1 y3 d (m + 1) (by omega)]
    by_cases c0 : (rd_T122 l (i : Int)).f4 = 3
    · rw [if_pos c0, decide_eq_false (fun hh => hh c0), Bool.false_or, Bool.false_or, if_pos (by omega), if_pos (by omega)]
      by_cases c1 : (rd_T122 l (m : Int)).f4 = 3
      · by_cases c2 : (rd_T122 l (m : Int)).f2 = (rd_T122 l (i : Int)).f2
        · rw [if_pos c1, if_pos c2, allF_no hm (fun hh => hh ⟨c1, c2⟩), if_neg (by decide)]
        · rw [if_pos c1, if_neg c2, hy (fun hh => c2 hh.2)]
      · rw [if_neg c1, hy (fun hh => c1 hh.1)]
    · rw [if_neg c0, decide_eq_true c0, Bool.true_or, Bool.true_or]
theorem spec_AreClaims_l0 (l : List S122) (hn : l.length ≤ 1048576) : ∀ (d i : Nat), i + d = l.length → spec_AreClaims.L0 l (i : Int) = some (allF (okClaim l) l.length i && decide ((l.length : Int) ≤ 20))
  | 0, i, h => by rw [spec_AreClaims.L0_eq, if_neg (by omega), allF_end (by omega)]; rfl
  | d + 1, i, h => by
    have hi : i < l.length := by omega
    have ih := spec_AreClaims_l0 l hn d (i + 1) (by omega)
    have h1 : ∀ y0 y1 y3, spec_AreClaims.L1 l (i : Int) 0 y0 y1 (rd_T122 l (i : Int)).f2 y3 (rd_T122 l (i : Int)).f4 = if onceB l i = true then spec_AreClaims.L0 l ((i + 1 : Nat) : Int) else some false := fun y0 y1 y3 => spec_AreClaims_l1 l hn i hi y0 y1 y3 i 0 (by omega)
    rw [spec_AreClaims.L0_eq]
    have e1 : (i : Int) < (l.length : Int) := by omega
    have e2 : (0 : Int) ≤ (i : Int) := by omega
    have t1 : (if (true : Bool) = true then some false else spec_AreClaims.L0 l ((i + 1 : Nat) : Int)) = some false := rfl
    simp only [wrap_pred i (by omega), l1In, Option.bind_some, spec_AreClaims.J1_eq, h1, if_pos e1, if_pos e2, if_true]
    by_cases c0 : (i : Int) > 0
    · have e4 : (0 : Int) ≤ (i : Int) - 1 := by omega
      have e5 : (i : Int) - 1 < (l.length : Int) := by omega
      simp only [if_pos c0, if_pos e4, if_pos e5, decide_eq_true_eq]
      by_cases c1 : inR (rd_T122 l (i : Int)).f0 1 999 = true
      · rw [if_pos c1]
        by_cases c2 : inR (rd_T122 l (i : Int)).f1 1 999 = true
        · rw [if_pos c2]
          by_cases c3 : inR (rd_T122 l (i : Int)).f2 1 999 = true
          · rw [if_pos c3]
            by_cases c4 : inR (rd_T122 l (i : Int)).f3 0 100000 = true
            · rw [if_pos c4]
              by_cases c5 : inR (rd_T122 l (i : Int)).f4 0 3 = true
              · rw [if_pos c5]
                by_cases c6 : (rd_T122 l ((i : Int) - 1)).f0 ≥ (rd_T122 l (i : Int)).f0
                · rw [if_pos c6, allF_no hi (fun h => absurd (h.2.1 c0) (by omega))]
                  first | done | rfl | simp
                · rw [if_neg c6]
                  by_cases c7 : onceB l i = true
                  · rw [if_pos c7]
                    have hp_ : okClaim l i := ⟨c1, fun _ => by omega, c2, c3, c4, c5, c7⟩
                    rw [ih, allF_yes hp_]
                  · rw [if_neg c7, allF_no hi (fun h => c7 h.2.2.2.2.2.2)]
                    first | done | rfl | simp
              · rw [if_neg c5, allF_no hi (fun h => c5 h.2.2.2.2.2.1)]
                first | done | rfl | simp
            · rw [if_neg c4, allF_no hi (fun h => c4 h.2.2.2.2.1)]
              first | done | rfl | simp
          · rw [if_neg c3, allF_no hi (fun h => c3 h.2.2.2.1)]
            first | done | rfl | simp
        · rw [if_neg c2, allF_no hi (fun h => c2 h.2.2.1)]
          first | done | rfl | simp
      · rw [if_neg c1, allF_no hi (fun h => c1 h.1)]
        first | done | rfl | simp
    · simp only [if_neg c0, Bool.false_eq_true, if_false]
      by_cases c1 : inR (rd_T122 l (i : Int)).f0 1 999 = true
      · rw [if_pos c1]
        by_cases c2 : inR (rd_T122 l (i : Int)).f1 1 999 = true
        · rw [if_pos c2]
          by_cases c3 : inR (rd_T122 l (i : Int)).f2 1 999 = true
          · rw [if_pos c3]
            by_cases c4 : inR (rd_T122 l (i : Int)).f3 0 100000 = true
            · rw [if_pos c4]
              by_cases c5 : inR (rd_T122 l (i : Int)).f4 0 3 = true
              · rw [if_pos c5]
                by_cases c6 : onceB l i = true
                · rw [if_pos c6]
                  have hp_ : okClaim l i := ⟨c1, fun hh => absurd hh c0, c2, c3, c4, c5, c6⟩
                  rw [ih, allF_yes hp_]
                · rw [if_neg c6, allF_no hi (fun h => c6 h.2.2.2.2.2.2)]
                  first | done | rfl | simp
              · rw [if_neg c5, allF_no hi (fun h => c5 h.2.2.2.2.2.1)]
                first | done | rfl | simp
            · rw [if_neg c4, allF_no hi (fun h => c4 h.2.2.2.2.1)]
              first | done | rfl | simp
          · rw [if_neg c3, allF_no hi (fun h => c3 h.2.2.2.1)]
            first | done | rfl | simp
        · rw [if_neg c2, allF_no hi (fun h => c2 h.2.2.1)]
          first | done | rfl | simp
      · rw [if_neg c1, allF_no hi (fun h => c1 h.1)]
        first | done | rfl | simp
theorem spec_AreClaims_is (l : List S122) (hn : l.length ≤ 1048576) : spec_AreClaims.F l = some (areClaims l) := by
  rw [spec_AreClaims.F_eq, areClaims]
  exact spec_AreClaims_l0 l hn l.length 0 (by omega)

theorem inRange (a b c : Int) : impl_InRange.f a b c = some (inR a b c) := by
  unfold impl_InRange.f inR
  by_cases h : b ≤ a <;> simp [h]

theorem impl_AreClaims_l1 (l : List S122) (hn : l.length ≤ 1048576) (i : Nat) (hi : i < l.length) (y0 y1 y3 : Int) : ∀ (d m : Nat), m + d = i → impl_AreClaims.L1 l l (l.length : Int) (i : Int) (l.take i) ((l.take i).length : Int) (m : Int) y0 y1 (rd_T122 l (i : Int)).f2 y3 (rd_T122 l (i : Int)).f4 = if (decide ((rd_T122 l i).f4 ≠ 3) || allF (fun q : Nat => ¬ ((rd_T122 l q).f4 = 3 ∧ (rd_T122 l q).f2 = (rd_T122 l i).f2)) i m) = true then impl_AreClaims.L0 l l (l.length : Int) ((i + 1 : Nat) : Int) else some false
  | 0, m, h => by
    have hl : (l.take i).length = i := by rw [List.length_take]; omega
    rw [impl_AreClaims.L1_eq, hl, if_neg (by omega), allF_end (by omega), Bool.or_true, if_pos rfl, wrap_succ i (by omega)]
  | d + 1, m, h => by
    have hl : (l.take i).length = i := by rw [List.length_take]; omega
    have hm : m < i := by omega
    have hy := fun hc => allF_yes (p := fun q : Nat => ¬ ((rd_T122 l q).f4 = 3 ∧ (rd_T122 l q).f2 = (rd_T122 l i).f2)) (n := i) (i := m) hc
    have ih := impl_AreClaims_l1 l hn i hi y0 y1 y3 d (m + 1) (by omega)
    rw [impl_AreClaims.L1_eq, wrap_succ m (by omega), ih, hl, if_pos (by omega), if_pos (by omega), if_pos (by omega), rdClaim_take l i m hm]
    by_cases c0 : (rd_T122 l (i : Int)).f4 = 3
    · rw [if_pos c0, decide_eq_false (fun hh => hh c0), Bool.false_or, Bool.false_or]
      by_cases c1 : (rd_T122 l (m : Int)).f4 = 3
      · by_cases c2 : (rd_T122 l (i : Int)).f2 = (rd_T122 l (m : Int)).f2
        · rw [if_pos c1, if_pos c2, allF_no hm (fun hh => hh ⟨c1, c2.symm⟩), if_neg (by decide)]
        · rw [if_pos c1, if_neg c2, hy (fun hh => c2 hh.2.symm)]
      · rw [if_neg c1, hy (fun hh => c1 hh.1)]
    · rw [if_neg c0, decide_eq_true c0, Bool.true_or, Bool.true_or]
theorem impl_AreClaims_l0 (l : List S122) (hn : l.length ≤ 1048576) : ∀ (d i : Nat), i + d = l.length → impl_AreClaims.L0 l l (l.length : Int) (i : Int) = some (allF (okClaim l) l.length i)
  | 0, i, h => by rw [impl_AreClaims.L0_eq, if_neg (by omega), allF_end (by omega)]
  | d + 1, i, h => by
    have hi : i < l.length := by omega
    have ih := impl_AreClaims_l0 l hn d (i + 1) (by omega)
    have h1 : ∀ y0 y1 y3, impl_AreClaims.L1 l l (l.length : Int) (i : Int) (l.take i) ((l.take i).length : Int) 0 y0 y1 (rd_T122 l (i : Int)).f2 y3 (rd_T122 l (i : Int)).f4 = if onceB l i = true then impl_AreClaims.L0 l l (l.length : Int) ((i + 1 : Nat) : Int) else some false := fun y0 y1 y3 => impl_AreClaims_l1 l hn i hi y0 y1 y3 i 0 (by omega)
    have e1 : (i : Int) < (l.length : Int) := by omega
    have e2 : (0 : Int) ≤ (i : Int) := by omega
    have e3 : (i : Int) ≤ (l.length : Int) := by omega
    rw [impl_AreClaims.L0_eq]
    simp only [wrap_pred i (by omega), inRange, Option.bind_some, impl_AreClaims.J1_eq, Int.toNat_natCast, if_pos e1, if_pos e2, if_pos e3, h1, if_true]
    by_cases c0 : (i : Int) > 0
    · have e4 : (0 : Int) ≤ (i : Int) - 1 := by omega
      have e5 : (i : Int) - 1 < (l.length : Int) := by omega
      simp only [if_pos c0, if_pos e4, if_pos e5]
      by_cases c1 : inR (rd_T122 l (i : Int)).f0 1 999 = true
      · rw [if_pos c1]
        by_cases c2 : (rd_T122 l (i : Int)).f0 ≤ (rd_T122 l ((i : Int) - 1)).f0
        · rw [if_pos c2, allF_no hi (fun h => absurd (h.2.1 c0) (by omega))]
          first | done | rfl | simp
        · rw [if_neg c2]
          by_cases c3 : inR (rd_T122 l (i : Int)).f1 1 999 = true
          · rw [if_pos c3]
            by_cases c4 : inR (rd_T122 l (i : Int)).f2 1 999 = true
            · rw [if_pos c4]
              by_cases c5 : inR (rd_T122 l (i : Int)).f3 0 100000 = true
              · rw [if_pos c5]
                by_cases c6 : (!inR (rd_T122 l (i : Int)).f4 0 3) = true
                · rw [if_pos c6, allF_no hi (fun h => by have := h.2.2.2.2.2.1; rw [this] at c6; exact absurd c6 (by decide))]
                  first | done | rfl | simp
                · rw [if_neg c6]
                  by_cases c7 : onceB l i = true
                  · rw [if_pos c7]
                    have hp_ : okClaim l i := ⟨c1, fun _ => by omega, c3, c4, c5, by simpa using c6, c7⟩
                    rw [ih, allF_yes hp_]
                  · rw [if_neg c7, allF_no hi (fun h => c7 h.2.2.2.2.2.2)]
                    first | done | rfl | simp
              · rw [if_neg c5, allF_no hi (fun h => c5 h.2.2.2.2.1)]
                first | done | rfl | simp
            · rw [if_neg c4, allF_no hi (fun h => c4 h.2.2.2.1)]
              first | done | rfl | simp
          · rw [if_neg c3, allF_no hi (fun h => c3 h.2.2.1)]
            first | done | rfl | simp
      · rw [if_neg c1, allF_no hi (fun h => c1 h.1)]
        first | done | rfl | simp
    · simp only [if_neg c0]
      by_cases c1 : inR (rd_T122 l (i : Int)).f0 1 999 = true
      · rw [if_pos c1]
        by_cases c2 : inR (rd_T122 l (i : Int)).f1 1 999 = true
        · rw [if_pos c2]
          by_cases c3 : inR (rd_T122 l (i : Int)).f2 1 999 = true
          · rw [if_pos c3]
            by_cases c4 : inR (rd_T122 l (i : Int)).f3 0 100000 = true
            · rw [if_pos c4]
              by_cases c5 : (!inR (rd_T122 l (i : Int)).f4 0 3) = true
              · rw [if_pos c5, allF_no hi (fun h => by have := h.2.2.2.2.2.1; rw [this] at c5; exact absurd c5 (by decide))]
                first | done | rfl | simp
              · rw [if_neg c5]
                by_cases c6 : onceB l i = true
                · rw [if_pos c6]
                  have hp_ : okClaim l i := ⟨c1, fun hh => absurd hh c0, c2, c3, c4, by simpa using c5, c6⟩
                  rw [ih, allF_yes hp_]
                · rw [if_neg c6, allF_no hi (fun h => c6 h.2.2.2.2.2.2)]
                  first | done | rfl | simp
            · rw [if_neg c4, allF_no hi (fun h => c4 h.2.2.2.2.1)]
              first | done | rfl | simp
          · rw [if_neg c3, allF_no hi (fun h => c3 h.2.2.2.1)]
            first | done | rfl | simp
        · rw [if_neg c2, allF_no hi (fun h => c2 h.2.2.1)]
          first | done | rfl | simp
      · rw [if_neg c1, allF_no hi (fun h => c1 h.1)]
        first | done | rfl | simp
theorem impl_AreClaims_is (l : List S122) (hn : l.length ≤ 1048576) : impl_AreClaims.F l = some (areClaims l) := by
  rw [impl_AreClaims.F_eq, areClaims]
  by_cases h : (l.length : Int) > 20
  · rw [if_pos h, decide_eq_false (by omega), Bool.and_false]
  · rw [if_neg h, decide_eq_true (by omega), Bool.and_true]
    exact impl_AreClaims_l0 l hn l.length 0 (by omega)

theorem law_FnExactAreClaims (l0 : List S124) (hm0 : l0.length ≤ maxLen) (hw0 : ∀ y ∈ l0, ok124 y) : laws_FnExactAreClaims.F l0 = some true := by
  rw [laws_FnExactAreClaims.F_eq, szClaimS l0 1048576 (by omega) hm0]
  simp only [Option.bind_some]
  by_cases h : (1048576 : Int) < (l0.length : Int)
  · rw [if_pos h]; rfl
  · have hn : l0.length ≤ 1048576 := by omega
    have hn' : (l0.map cvClaim).length ≤ 1048576 := by rw [List.length_map]; exact hn
    rw [if_neg h, if_neg (by omega)]
    simp [toClaimS l0 hn, spec_AreClaims_is _ hn', impl_AreClaims_is _ hn', eqClaimS _ hn']

theorem FnExactAreClaims (l0 : List S124) (hm0 : l0.length ≤ maxLen) (hw0 : ∀ y ∈ l0, ok124 y) : ∃ k, laws_FnExactAreClaims.f k l0 = some true :=
  (laws_FnExactAreClaims.F_co l0).rounds (law_FnExactAreClaims l0 hm0 hw0)
end Go.Proofs.Ytjokfllhbmodeaa.PFnExactAreClaims.Pure
