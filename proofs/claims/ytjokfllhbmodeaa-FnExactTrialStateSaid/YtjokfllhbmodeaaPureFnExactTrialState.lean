/-
  The program's TrialState answers as the reference's does, for all arguments. It has no conditions.
-/
import Derived.Test.YtjokfllhbmodeaaShFnExactTrialState
import Derived.Test.YtjokfllhbmodeaaEqFnExactTrialState
import Derived.Test.YtjokfllhbmodeaaBase
set_option linter.unusedVariables false
set_option linter.unusedSimpArgs false
namespace Go.Proofs.Ytjokfllhbmodeaa.PFnExactTrialState.Pure
open Go.RowKit Go.Proofs.YtjokfllhbmodeaaW.PrintWords Go.Proofs.YtjokfllhbmodeaaW.PrintLast Go.Proofs.YtjokfllhbmodeaaW.PrintMore Go.Proofs.Ytjokfllhbmodeaa.PFnExactTrialState Go.Proofs.Ytjokfllhbmodeaa.Lim Go.Proofs.Ytjokfllhbmodeaa.Base
set_option maxRecDepth 100000

theorem szMarkS (l : List S130) (a : Int) (ha : 0 ≤ a ∧ a ≤ 1048576) (hl : l.length ≤ maxLen) : laws_szMarkS.f l a = some (if a < (l.length : Int) then -1 else a - (l.length : Int)) := by
  simp only [maxLen] at hl
  unfold laws_szMarkS.f
  rw [wrap_in _ (by omega)]
  by_cases h : a < (l.length : Int)
  · rw [if_pos (by omega), if_pos h]
  · rw [if_neg (by omega), if_neg h]

def cvMark (y : S130) : S127 := ⟨y.f0, y.f1⟩
theorem toMarkS_l0 (l : List S130) (hn : l.length ≤ 1048576) : ∀ (d i : Nat) (acc : List S127), i + d = l.length → acc.length = l.length → acc.take i = (l.take i).map cvMark → laws_toMarkS.L0 l acc (i : Int) = some (l.map cvMark)
  | 0, i, acc, h, ha, ht => by
    rw [laws_toMarkS.L0_eq, if_neg (by omega)]
    rw [List.take_of_length_le (by omega), List.take_of_length_le (by omega)] at ht
    rw [ht]
  | d + 1, i, acc, h, ha, ht => by
    have hi : i < l.length := by omega
    rw [laws_toMarkS.L0_eq, if_pos (by omega), if_pos (by omega)]
    simp only [laws_toMark.f, Option.bind_some, wrap_succ i (by omega)]
    rw [if_pos (by omega)]
    refine toMarkS_l0 l hn d (i + 1) _ (by omega) (by rw [List.length_set]; exact ha) ?_
    rw [Int.toNat_natCast]
    exact fill_step l cvMark acc i ha hi ht _ (by simp [rd_T130, cvMark, hi])
theorem toMarkS (l : List S130) (hn : l.length ≤ 1048576) : laws_toMarkS.F l = some (l.map cvMark) := by
  rw [laws_toMarkS.F_eq, if_pos (by omega), if_pos (by omega)]
  exact toMarkS_l0 l hn l.length 0 _ (by omega) (by simp) (by simp)

theorem eqMarkS_l0 (l : List S127) (hn : l.length ≤ 1048576) : ∀ (d i : Nat), i + d = l.length → laws_eqMarkS.L0 l l (i : Int) = some true
  | 0, i, h => by rw [laws_eqMarkS.L0_eq, if_neg (by omega)]
  | d + 1, i, h => by
    rw [laws_eqMarkS.L0_eq, if_pos (by omega), if_pos (by omega), if_pos (by omega)]
    simp only [laws_eqMark.f, if_true, Option.bind_some, wrap_succ i (by omega)]
    exact eqMarkS_l0 l hn d (i + 1) (by omega)
theorem eqMarkS (l : List S127) (hn : l.length ≤ 1048576) : laws_eqMarkS.F l l = some true := by
  rw [laws_eqMarkS.F_eq, if_pos rfl]
  exact eqMarkS_l0 l hn l.length 0 (by omega)

def okMark (l : List S127) (i : Nat) : Prop := inR (rd_T127 l i).f0 1 20 = true ∧ inR (rd_T127 l i).f1 0 99 = true ∧ ((i : Int) > 0 → (rd_T127 l ((i : Int) - 1)).f0 < (rd_T127 l i).f0)
noncomputable def areMarks (l : List S127) : Bool := allF (okMark l) l.length 0 && decide ((l.length : Int) ≤ 8)

noncomputable def isTrial (a0 a1 a2 a3 : Int) : Bool := inR a0 1 999 && inR a2 0 100 && inR a3 0 100 && a1 == wrap64 (a2 + a3)
noncomputable def trialState (l : List S127) (a0 a1 a2 a3 : Int) : Int :=
  if isTrial a0 a1 a2 a3 = true ∧ areMarks l = true ∧ ¬ a3 > 1 then (if (l.length : Int) > 0 ∧ a2 ≥ (if (l.length : Int) < 3 then (l.length : Int) else 3) then 1 else 0) else 2

theorem l1In (a b c : Int) : spec_l1In.f a b c = some (inR a b c) := by
  unfold spec_l1In.f inR
  by_cases h : b ≤ a <;> simp [h]

theorem rdMark_at (l : List S127) (i : Nat) : rd_T127 l (i : Int) = l.getD i z127 := by simp [rd_T127]
theorem dropMark (l : List S127) (i : Nat) (h : i < l.length) : l.drop i = rd_T127 l (i : Int) :: l.drop (i + 1) := by
  rw [rdMark_at, getD_get l i _ h]
  exact List.drop_eq_getElem_cons h

theorem spec_AreMarks_l0 (l : List S127) (hn : l.length ≤ 1048576) : ∀ (d i : Nat), i + d = l.length → spec_AreMarks.L0 l (i : Int) = some (allF (okMark l) l.length i && decide ((l.length : Int) ≤ 8))
  | 0, i, h => by rw [spec_AreMarks.L0_eq, if_neg (by omega), allF_end (by omega)]; first | done | rfl | simp [l1In, inR]
  | d + 1, i, h => by
    have hi : i < l.length := by omega
    have ih := spec_AreMarks_l0 l hn d (i + 1) (by omega)
    rw [spec_AreMarks.L0_eq]
    simp only [wrap_succ i (by omega), wrap_pred i (by omega), ih, l1In, Option.bind_some]
    by_cases hp_ : okMark l i
    · rw [allF_yes hp_]
      simp only [okMark] at hp_
      obtain ⟨h1_, h2_, h3_⟩ := hp_
      repeat' split
      all_goals first
        | rfl
        | (exfalso; first | contradiction | omega)
    · rw [allF_no hi hp_]
      repeat' split
      all_goals first
        | rfl
        | (simp; done)
        | (exfalso; omega)
        | (exfalso; apply hp_; simp only [okMark]; (repeat' constructor) <;> first | assumption | (intro _; omega) | omega)

theorem spec_AreMarks_is (l : List S127) (hn : l.length ≤ 1048576) : spec_AreMarks.F l = some (areMarks l) := by
  rw [spec_AreMarks.F_eq, areMarks]
  exact spec_AreMarks_l0 l hn l.length 0 (by omega)

theorem spec_NeedFor_is (l : List S127) (hn : l.length ≤ 1048576) : spec_NeedFor.f l = some (if (l.length : Int) < 3 then (l.length : Int) else 3) := by
  unfold spec_NeedFor.f spec_Min.f
  split <;> rfl

theorem spec_IsTrial_is (a0 a1 a2 a3 : Int) : spec_IsTrial.f a0 a1 a2 a3 = some (isTrial a0 a1 a2 a3) := by
  unfold spec_IsTrial.f isTrial
  simp only [l1In, Option.bind_some]
  cases inR a0 1 999 <;> cases inR a2 0 100 <;> cases inR a3 0 100 <;> simp
theorem spec_TrialState_is (l : List S127) (a0 a1 a2 a3 : Int) (hn : l.length ≤ 1048576) : spec_TrialState.F l a0 a1 a2 a3 = some (trialState l a0 a1 a2 a3) := by
  rw [spec_TrialState.F_eq, spec_IsTrial_is, Option.bind_some, spec_AreMarks_is l hn, Option.bind_some]
  simp only [spec_TrialState.J0_eq, spec_NeedFor_is l hn, Option.bind_some, trialState]
  by_cases h1 : isTrial a0 a1 a2 a3 = true
  · by_cases h2 : areMarks l = true
    · by_cases h3 : a3 > 1
      · simp [h1, h2, h3]
      · by_cases h4 : (l.length : Int) > 0
        · by_cases h5 : a2 ≥ (if (l.length : Int) < 3 then (l.length : Int) else 3)
          · simp only [h1, h2, h3, h4, h5, if_true, decide_false, true_and, not_false_eq_true, and_self, Bool.false_eq_true, if_false]
          · simp only [h1, h2, h3, h4, h5, if_true, decide_false, true_and, not_false_eq_true, and_self, and_false, Bool.false_eq_true, if_false]
        · simp only [h1, h2, h3, h4, if_true, decide_false, true_and, false_and, not_false_eq_true, and_self, Bool.false_eq_true, if_false]
    · simp [h1, h2]
  · simp [h1]

theorem inRange (a b c : Int) : impl_InRange.f a b c = some (inR a b c) := by
  unfold impl_InRange.f inR
  by_cases h : b ≤ a <;> simp [h]

theorem impl_AreMarks_l0 (l : List S127) (hn : l.length ≤ 1048576) : ∀ (d i : Nat), i + d = l.length → impl_AreMarks.L0 l l (l.length : Int) (i : Int) = some (allF (okMark l) l.length i)
  | 0, i, h => by rw [impl_AreMarks.L0_eq, if_neg (by omega), allF_end (by omega)]; first | done | rfl | simp [inRange, inR]
  | d + 1, i, h => by
    have hi : i < l.length := by omega
    have ih := impl_AreMarks_l0 l hn d (i + 1) (by omega)
    rw [impl_AreMarks.L0_eq]
    simp only [wrap_succ i (by omega), wrap_pred i (by omega), ih, inRange, Option.bind_some]
    by_cases hp_ : okMark l i
    · rw [allF_yes hp_]
      simp only [okMark] at hp_
      obtain ⟨h1_, h2_, h3_⟩ := hp_
      repeat' split
      all_goals first
        | rfl
        | (exfalso; first | contradiction | omega)
    · rw [allF_no hi hp_]
      repeat' split
      all_goals first
        | rfl
        | (simp; done)
        | (exfalso; omega)
        | (exfalso; apply hp_; simp only [okMark]; (repeat' constructor) <;> first | assumption | (intro _; omega) | omega)

theorem impl_AreMarks_is (l : List S127) (hn : l.length ≤ 1048576) : impl_AreMarks.F l = some (areMarks l) := by
  rw [impl_AreMarks.F_eq, areMarks]
  by_cases h : (l.length : Int) > 8
  · rw [if_pos h, decide_eq_false (by omega), Bool.and_false]
  · rw [if_neg h, decide_eq_true (by omega), Bool.and_true]
    exact impl_AreMarks_l0 l hn l.length 0 (by omega)

theorem impl_NeedFor_is (l : List S127) (hn : l.length ≤ 1048576) : impl_NeedFor.f l = some (if (l.length : Int) < 3 then (l.length : Int) else 3) := by
  unfold impl_NeedFor.f mn
  rfl

theorem impl_IsTrial_is (a0 a1 a2 a3 : Int) : impl_IsTrial.f a0 a1 a2 a3 = some (isTrial a0 a1 a2 a3) := by
  unfold impl_IsTrial.f isTrial
  simp only [inRange, Option.bind_some]
  cases inR a0 1 999 <;> cases inR a2 0 100 <;> cases inR a3 0 100 <;> simp
theorem impl_TrialState_is (l : List S127) (a0 a1 a2 a3 : Int) (hn : l.length ≤ 1048576) : impl_TrialState.F l a0 a1 a2 a3 = some (trialState l a0 a1 a2 a3) := by
  rw [impl_TrialState.F_eq, impl_IsTrial_is, Option.bind_some, impl_AreMarks_is l hn, Option.bind_some]
  simp only [impl_TrialState.J0_eq, impl_NeedFor_is l hn, Option.bind_some, trialState]
  by_cases h1 : isTrial a0 a1 a2 a3 = true
  · by_cases h2 : areMarks l = true
    · by_cases h3 : a3 > 1
      · simp [h1, h2, h3]
      · by_cases h4 : (l.length : Int) > 0
        · by_cases h5 : a2 ≥ (if (l.length : Int) < 3 then (l.length : Int) else 3)
          · simp only [h1, h2, h3, h4, h5, if_true, decide_false, true_and, not_false_eq_true, and_self, Bool.false_eq_true, if_false]
          · simp only [h1, h2, h3, h4, h5, if_true, decide_false, true_and, not_false_eq_true, and_self, and_false, Bool.false_eq_true, if_false]
        · simp only [h1, h2, h3, h4, if_true, decide_false, true_and, false_and, not_false_eq_true, and_self, Bool.false_eq_true, if_false]
    · simp [h1, h2]
  · simp [h1]

theorem law_FnExactTrialState (l0 : List S130) (hm0 : l0.length ≤ maxLen) (hw0 : ∀ y ∈ l0, ok130 y) (x1 : S88) (hw1 : ok88 x1) : laws_FnExactTrialState.F l0 x1.f0 x1.f1 x1.f2 x1.f3 = some true := by
  rw [laws_FnExactTrialState.F_eq, szMarkS l0 1048576 (by omega) hm0]
  simp only [Option.bind_some]
  by_cases h : (1048576 : Int) < (l0.length : Int)
  · rw [if_pos h]; rfl
  · have hn : l0.length ≤ 1048576 := by omega
    have hn' : (l0.map cvMark).length ≤ 1048576 := by rw [List.length_map]; exact hn
    rw [if_neg h, if_neg (by omega)]
    simp [toMarkS l0 hn, laws_toTrial.f, spec_TrialState_is _ _ _ _ _ hn', impl_TrialState_is _ _ _ _ _ hn', eqMarkS _ hn']

theorem FnExactTrialState (l0 : List S130) (hm0 : l0.length ≤ maxLen) (hw0 : ∀ y ∈ l0, ok130 y) (x1 : S88) (hw1 : ok88 x1) : ∃ k, laws_FnExactTrialState.f k l0 x1.f0 x1.f1 x1.f2 x1.f3 = some true :=
  (laws_FnExactTrialState.F_co l0 x1.f0 x1.f1 x1.f2 x1.f3).rounds (law_FnExactTrialState l0 hm0 hw0 x1 hw1)
end Go.Proofs.Ytjokfllhbmodeaa.PFnExactTrialState.Pure
