/-
  The program's AnswerAll answers as the reference's does, for all arguments. It has no conditions.
-/
import Derived.Test.YtppgealmedaihaaShFnExactAnswerAll
import Derived.Test.YtppgealmedaihaaEqFnExactAnswerAll
import Derived.Test.YtppgealmedaihaaBase
set_option linter.unusedVariables false
set_option linter.unusedSimpArgs false
namespace Go.Proofs.Ytppgealmedaihaa.PFnExactAnswerAll.Pure
open Go.RowKit Go.Proofs.YtppgealmedaihaaW.PrintWords Go.Proofs.YtppgealmedaihaaW.PrintLast Go.Proofs.YtppgealmedaihaaW.PrintMore Go.Proofs.Ytppgealmedaihaa.PFnExactAnswerAll Go.Proofs.Ytppgealmedaihaa.Lim Go.Proofs.Ytppgealmedaihaa.Base
set_option maxRecDepth 100000

theorem szMarkS (l : List S145) (a : Int) (ha : 0 ≤ a ∧ a ≤ 1048576) (hl : l.length ≤ maxLen) : laws_szMarkS.f l a = some (if a < (l.length : Int) then -1 else a - (l.length : Int)) := by
  simp only [maxLen] at hl
  unfold laws_szMarkS.f
  rw [wrap_in _ (by omega)]
  by_cases h : a < (l.length : Int)
  · rw [if_pos (by omega), if_pos h]
  · rw [if_neg (by omega), if_neg h]

def cvMark (y : S145) : S62 := ⟨y.f0, y.f1⟩
theorem toMarkS_l0 (l : List S145) (hn : l.length ≤ 1048576) : ∀ (d i : Nat) (acc : List S62), i + d = l.length → acc.length = l.length → acc.take i = (l.take i).map cvMark → laws_toMarkS.L0 l acc (i : Int) = some (l.map cvMark)
  | 0, i, acc, h, ha, ht => by
    rw [laws_toMarkS.L0_eq, if_neg (by omega)]
    rw [List.take_of_length_le (by omega), List.take_of_length_le (by omega)] at ht
    rw [ht]
  | d + 1, i, acc, h, ha, ht => by
    have hi : i < l.length := by omega
    rw [laws_toMarkS.L0_eq, if_pos (by omega), if_pos (by omega)]
    simp only [laws_toMark.f, Option.bind_some, wrap_succ i (by omega)]
    rw [if_pos (by omega)]
    refine toMarkS_l0 l hn d (i + 1) _ (by omega) (by rw [List.length_set]; exact ha) ?_
    rw [Int.toNat_natCast]
    exact fill_step l cvMark acc i ha hi ht _ (by simp [rd_T145, cvMark, hi])
theorem toMarkS (l : List S145) (hn : l.length ≤ 1048576) : laws_toMarkS.F l = some (l.map cvMark) := by
  rw [laws_toMarkS.F_eq, if_pos (by omega), if_pos (by omega)]
  exact toMarkS_l0 l hn l.length 0 _ (by omega) (by simp) (by simp)

theorem eqMarkS_l0 (l : List S62) (hn : l.length ≤ 1048576) : ∀ (d i : Nat), i + d = l.length → laws_eqMarkS.L0 l l (i : Int) = some true
  | 0, i, h => by rw [laws_eqMarkS.L0_eq, if_neg (by omega)]
  | d + 1, i, h => by
    rw [laws_eqMarkS.L0_eq, if_pos (by omega), if_pos (by omega), if_pos (by omega)]
    simp only [laws_eqMark.f, if_true, Option.bind_some, wrap_succ i (by omega)]
    exact eqMarkS_l0 l hn d (i + 1) (by omega)
theorem eqMarkS (l : List S62) (hn : l.length ≤ 1048576) : laws_eqMarkS.F l l = some true := by
  rw [laws_eqMarkS.F_eq, if_pos rfl]
  exact eqMarkS_l0 l hn l.length 0 (by omega)

theorem toIntS_l0 (l : List Int) (hn : l.length ≤ 1048576) : ∀ (d i : Nat) (acc : List Int), i + d = l.length → acc.length = l.length → acc.take i = (l.take i).map id → laws_toIntS.L0 l acc (i : Int) = some l
  | 0, i, acc, h, ha, ht => by
    rw [laws_toIntS.L0_eq, if_neg (by omega)]
    rw [List.take_of_length_le (by omega), List.take_of_length_le (by omega)] at ht
    rw [ht, List.map_id]
  | d + 1, i, acc, h, ha, ht => by
    have hi : i < l.length := by omega
    rw [laws_toIntS.L0_eq, if_pos (by omega), if_pos (by omega), if_pos (by omega), wrap_succ i (by omega)]
    refine toIntS_l0 l hn d (i + 1) _ (by omega) (by rw [List.length_set]; exact ha) ?_
    rw [Int.toNat_natCast]
    exact fill_step l id acc i ha hi ht _ (by simp [rd, hi])
theorem toIntS (l : List Int) (hn : l.length ≤ 1048576) : laws_toIntS.F l = some l := by
  rw [laws_toIntS.F_eq, if_pos (by omega), if_pos (by omega)]
  exact toIntS_l0 l hn l.length 0 _ (by omega) (by simp) (by simp)

theorem eqIntS_l0 (l : List Int) (hn : l.length ≤ 4194304) : ∀ (d i : Nat), i + d = l.length → laws_eqIntS.L0 l l (i : Int) = some true
  | 0, i, h => by rw [laws_eqIntS.L0_eq, if_neg (by omega)]
  | d + 1, i, h => by
    rw [laws_eqIntS.L0_eq, if_pos (by omega), if_pos (by omega), if_pos (by omega), if_pos rfl, wrap_succ i (by omega)]
    exact eqIntS_l0 l hn d (i + 1) (by omega)
theorem eqIntS (l : List Int) (hn : l.length ≤ 4194304) : laws_eqIntS.F l l = some true := by
  rw [laws_eqIntS.F_eq, if_pos rfl]
  exact eqIntS_l0 l hn l.length 0 (by omega)

def okMark (l : List S62) (i : Nat) : Prop := inR (rd_T62 l i).f0 1 20 = true ∧ inR (rd_T62 l i).f1 0 99 = true ∧ ((i : Int) > 0 → (rd_T62 l ((i : Int) - 1)).f0 < (rd_T62 l i).f0)
noncomputable def areMarks (l : List S62) : Bool := allF (okMark l) l.length 0 && decide ((l.length : Int) ≤ 8)

noncomputable def isTrial (a0 a1 a2 a3 : Int) : Bool := inR a0 1 999 && inR a2 0 100 && inR a3 0 100 && a1 == wrap64 (a2 + a3)
noncomputable def trialState (l : List S62) (a0 a1 a2 a3 : Int) : Int :=
  if isTrial a0 a1 a2 a3 = true ∧ areMarks l = true ∧ ¬ a3 > 1 then (if (l.length : Int) > 0 ∧ a2 ≥ (if (l.length : Int) < 3 then (l.length : Int) else 3) then 1 else 0) else 2

theorem rdInt_at (l : List Int) (i : Nat) : rd l (i : Int) = l.getD i 0 := by simp [rd]
theorem dropInt (l : List Int) (i : Nat) (h : i < l.length) : l.drop i = rd l (i : Int) :: l.drop (i + 1) := by
  rw [rdInt_at, getD_get l i _ h]
  exact List.drop_eq_getElem_cons h

def hashStep (d x : Int) : Int := Int.tmod (wrap64 (wrap64 (wrap64 (d * 1000003) + x % 2147483647) + 13)) 2147483647
def hashL : List Int → Int → Int
  | [], d => d
  | x :: r, d => hashL r (hashStep d x)
theorem hashStep_bd (d x : Int) (h : 0 ≤ d ∧ d < 2147483647) : 0 ≤ hashStep d x ∧ hashStep d x < 2147483647 := by
  have hx := Int.emod_nonneg x (show (2147483647 : Int) ≠ 0 by decide)
  have hy := Int.emod_lt_of_pos x (show (0 : Int) < 2147483647 by decide)
  unfold hashStep
  generalize x % 2147483647 = y at *
  rw [wrap_in (d * 1000003) (by omega), wrap_in (d * 1000003 + y) (by omega), wrap_in (d * 1000003 + y + 13) (by omega), Int.tmod_eq_emod_of_nonneg (by omega)]
  exact ⟨Int.emod_nonneg _ (by decide), Int.emod_lt_of_pos _ (by decide)⟩
theorem hashL_bd : ∀ (l : List Int) (d : Int), 0 ≤ d ∧ d < 2147483647 → 0 ≤ hashL l d ∧ hashL l d < 2147483647
  | [], d, h => h
  | x :: r, d, h => hashL_bd r _ (hashStep_bd d x h)
theorem tmod_of (x : Int) : Int.tmod x 2147483647 = if x % 2147483647 = 0 then 0 else if 0 ≤ x then x % 2147483647 else x % 2147483647 - 2147483647 := by
  by_cases h : 0 ≤ x
  · rw [Int.tmod_eq_emod_of_nonneg h]
    split
    · assumption
    · first | rfl | rw [if_pos h]
  · rw [Int.tmod_eq_emod]
    simp only [h, false_or, if_false]
    split
    · rename_i h1
      rw [if_pos (Int.emod_eq_zero_of_dvd h1), Int.emod_eq_zero_of_dvd h1]
      rfl
    · rename_i h1
      rw [if_neg (fun h2 => h1 (Int.dvd_of_emod_eq_zero h2))]
      rfl

theorem rdMark_at (l : List S62) (i : Nat) : rd_T62 l (i : Int) = l.getD i z62 := by simp [rd_T62]
theorem dropMark (l : List S62) (i : Nat) (h : i < l.length) : l.drop i = rd_T62 l (i : Int) :: l.drop (i + 1) := by
  rw [rdMark_at, getD_get l i _ h]
  exact List.drop_eq_getElem_cons h

noncomputable def questionFor (l : List S62) (c n : Int) : Int :=
  if l.length ≠ 0 ∧ areMarks l = true ∧ inR n 0 1000 = true then (rd_T62 l ((hashL [c] 11 % (l.length : Int) + n) % (l.length : Int))).f0 else 0
theorem question_idx (c n m : Int) (hm : 0 < m ∧ m ≤ 1048576) (hn : 0 ≤ n ∧ n ≤ 1000) : Int.tmod (wrap64 (Int.tmod (hashL [c] 11) m + n)) m = (hashL [c] 11 % m + n) % m ∧ 0 ≤ (hashL [c] 11 % m + n) % m ∧ (hashL [c] 11 % m + n) % m < m := by
  have hb := hashL_bd [c] 11 (by omega)
  have h1 := Int.emod_nonneg (hashL [c] 11) (show m ≠ 0 by omega)
  have h2 := Int.emod_lt_of_pos (hashL [c] 11) hm.1
  rw [Int.tmod_eq_emod_of_nonneg hb.1, wrap_in _ (by omega), Int.tmod_eq_emod_of_nonneg (by omega)]
  exact ⟨rfl, Int.emod_nonneg _ (by omega), Int.emod_lt_of_pos _ hm.1⟩

noncomputable def nextQuestion (l : List S62) (a0 a1 a2 a3 : Int) : Int := if trialState l a0 a1 a2 a3 = 0 then questionFor l a0 a1 else 0

def answerOf : List S62 → Int → Int
  | [], _ => -1
  | m :: r, q => if m.f0 = q then m.f1 else answerOf r q

noncomputable def giveAnswer (l : List S62) (a0 a1 a2 a3 a : Int) : Int × Int × Int × Int × Bool :=
  if nextQuestion l a0 a1 a2 a3 = 0 then (a0, a1, a2, a3, false)
  else if answerOf l (nextQuestion l a0 a1 a2 a3) = a then (a0, wrap64 (a1 + 1), wrap64 (a2 + 1), a3, true) else (a0, wrap64 (a1 + 1), a2, wrap64 (a3 + 1), true)

noncomputable def answerAll (l : List S62) : List Int → Int → Int → Int → Int → Int × Int × Int × Int
  | [], a0, a1, a2, a3 => (a0, a1, a2, a3)
  | a :: r, a0, a1, a2, a3 => answerAll l r (giveAnswer l a0 a1 a2 a3 a).1 (giveAnswer l a0 a1 a2 a3 a).2.1 (giveAnswer l a0 a1 a2 a3 a).2.2.1 (giveAnswer l a0 a1 a2 a3 a).2.2.2.1

theorem l1In (a b c : Int) : spec_l1In.f a b c = some (inR a b c) := by
  unfold spec_l1In.f inR
  by_cases h : b ≤ a <;> simp [h]

theorem spec_AreMarks_l0 (l : List S62) (hn : l.length ≤ 1048576) : ∀ (d i : Nat), i + d = l.length → spec_AreMarks.L0 l (i : Int) = some (allF (okMark l) l.length i && decide ((l.length : Int) ≤ 8))
  | 0, i, h => by rw [spec_AreMarks.L0_eq, if_neg (by omega), allF_end (by omega)]; first | done | rfl | simp [l1In, inR]
  | d + 1, i, h => by
    have hi : i < l.length := by omega
    have ih := spec_AreMarks_l0 l hn d (i + 1) (by omega)
    rw [spec_AreMarks.L0_eq]
    simp only [wrap_succ i (by omega), wrap_pred i (by omega), ih, l1In, Option.bind_some]
    by_cases hp_ : okMark l i
    · rw [allF_yes hp_]
      simp only [okMark] at hp_
      obtain ⟨h1_, h2_, h3_⟩ := hp_
      repeat' split
      all_goals first
        | rfl
        | (exfalso; first | contradiction | omega)
    · rw [allF_no hi hp_]
      repeat' split
      all_goals first
        | rfl
        | (simp; done)
        | (exfalso; first | contradiction | omega)
        | (exfalso; apply hp_; simp only [okMark]; (repeat' constructor) <;> first | assumption | (intro _; omega) | omega)

theorem spec_AreMarks_is (l : List S62) (hn : l.length ≤ 1048576) : spec_AreMarks.F l = some (areMarks l) := by
  rw [spec_AreMarks.F_eq, areMarks]
  exact spec_AreMarks_l0 l hn l.length 0 (by omega)

theorem spec_NeedFor_is (l : List S62) (hn : l.length ≤ 1048576) : spec_NeedFor.f l = some (if (l.length : Int) < 3 then (l.length : Int) else 3) := by
  unfold spec_NeedFor.f spec_Min.f
  split <;> rfl

theorem spec_IsTrial_is (a0 a1 a2 a3 : Int) : spec_IsTrial.f a0 a1 a2 a3 = some (isTrial a0 a1 a2 a3) := by
  unfold spec_IsTrial.f isTrial
  simp only [l1In, Option.bind_some]
  cases inR a0 1 999 <;> cases inR a2 0 100 <;> cases inR a3 0 100 <;> simp
theorem spec_TrialState_is (l : List S62) (a0 a1 a2 a3 : Int) (hn : l.length ≤ 1048576) : spec_TrialState.F l a0 a1 a2 a3 = some (trialState l a0 a1 a2 a3) := by
  rw [spec_TrialState.F_eq, spec_IsTrial_is, Option.bind_some, spec_AreMarks_is l hn, Option.bind_some]
  simp only [spec_TrialState.J0_eq, spec_NeedFor_is l hn, Option.bind_some, trialState]
  by_cases h1 : isTrial a0 a1 a2 a3 = true
  · by_cases h2 : areMarks l = true
    · by_cases h3 : a3 > 1
      · simp [h1, h2, h3]
      · by_cases h4 : (l.length : Int) > 0
        · by_cases h5 : a2 ≥ (if (l.length : Int) < 3 then (l.length : Int) else 3)
          · simp only [h1, h2, h3, h4, h5, if_true, decide_false, true_and, not_false_eq_true, and_self, Bool.false_eq_true, if_false]
          · simp only [h1, h2, h3, h4, h5, if_true, decide_false, true_and, not_false_eq_true, and_self, and_false, Bool.false_eq_true, if_false]
        · simp only [h1, h2, h3, h4, if_true, decide_false, true_and, false_and, not_false_eq_true, and_self, Bool.false_eq_true, if_false]
    · simp [h1, h2]
  · simp [h1]

theorem spec_Mod_big (x : Int) : spec_Mod.f x 2147483647 = some (x % 2147483647) := by
  have hx := Int.emod_nonneg x (show (2147483647 : Int) ≠ 0 by decide)
  have hy := Int.emod_lt_of_pos x (show (0 : Int) < 2147483647 by decide)
  unfold spec_Mod.f
  rw [l1In, Option.bind_some, if_pos (by decide), if_neg (by decide), tmod_of x]
  have e : ∀ y : Int, 0 ≤ y → y < 4294967294 → Int.tmod (wrap64 y) 2147483647 = y % 2147483647 := fun y h1 h2 => by
    rw [wrap_in y (by omega), Int.tmod_eq_emod_of_nonneg h1]
  split
  · rename_i h
    rw [e _ (by omega) (by omega), h]; rfl
  · split
    · rw [e _ (by omega) (by omega)]
      congr 1
      omega
    · rw [e _ (by omega) (by omega)]
      congr 1
      omega
theorem spec_Hash_l0 (l : List Int) (hn : l.length ≤ 4194304) : ∀ (d i : Nat) (a : Int), i + d = l.length → spec_Hash.L0 l a (i : Int) = some (hashL (l.drop i) a)
  | 0, i, a, h => by rw [spec_Hash.L0_eq, if_neg (by omega), List.drop_of_length_le (by omega)]; rfl
  | d + 1, i, a, h => by
    rw [spec_Hash.L0_eq, if_pos (by omega), if_pos (by omega), spec_Mod_big, Option.bind_some, wrap_succ i (by omega), spec_Hash_l0 l hn d (i + 1) _ (by omega), dropInt l i (by omega)]
    rfl
theorem spec_Hash_is (l : List Int) (hn : l.length ≤ 4194304) : spec_Hash.F l = some (hashL l 11) := by
  rw [spec_Hash.F_eq]
  exact spec_Hash_l0 l hn l.length 0 11 (by omega)

theorem spec_Mod_small (x m : Int) (hx : 0 ≤ x ∧ x < 2147483647) (hm : 0 < m ∧ m ≤ 1048576) : spec_Mod.f x m = some (x % m) := by
  have h1 := Int.emod_nonneg x (show m ≠ 0 by omega)
  have h2 := Int.emod_lt_of_pos x hm.1
  unfold spec_Mod.f
  rw [l1In, Option.bind_some, if_pos (inR_iff.2 (by omega)), if_neg (by omega), Int.tmod_eq_emod_of_nonneg hx.1, wrap_in _ (by omega), Int.tmod_eq_emod_of_nonneg (by omega), Int.add_emod_right, Int.emod_emod]
theorem spec_QuestionFor_is (l : List S62) (c n : Int) (hn : l.length ≤ 1048576) : spec_QuestionFor.F l c n = some (questionFor l c n) := by
  rw [spec_QuestionFor.F_eq, questionFor]
  by_cases h0 : l.length = 0
  · rw [if_pos (by omega), if_neg (fun h => h.1 h0), spec_QuestionFor.J0_eq, if_pos rfl]
  · rw [if_neg (by omega), spec_AreMarks_is l hn, Option.bind_some]
    by_cases h1 : areMarks l = true
    · rw [if_pos h1, l1In, Option.bind_some, spec_QuestionFor.J0_eq]
      by_cases h2 : inR n 0 1000 = true
      · have hb := hashL_bd [c] 11 (by omega)
        obtain ⟨e, e1, e2⟩ := question_idx c n (l.length : Int) (by omega) (inR_iff.1 h2)
        rw [Int.tmod_eq_emod_of_nonneg hb.1] at e
        rw [h2, if_neg (by decide), spec_Hash_is [c] (by simp), Option.bind_some, spec_Mod_small _ _ hb (by omega), Option.bind_some, if_neg (by omega), e, if_pos e1, if_pos e2, if_pos ⟨h0, h1, rfl⟩]
      · rw [Bool.eq_false_iff.2 h2, if_pos (by decide), if_neg (fun h => absurd h.2.2 (by decide))]
    · rw [if_neg h1, if_neg (fun h => h1 h.2.1), spec_QuestionFor.J0_eq, if_pos rfl]

theorem spec_NextQuestion_is (l : List S62) (a0 a1 a2 a3 : Int) (hn : l.length ≤ 1048576) : spec_NextQuestion.F l a0 a1 a2 a3 = some (nextQuestion l a0 a1 a2 a3) := by
  rw [spec_NextQuestion.F_eq, spec_TrialState_is l a0 a1 a2 a3 hn, Option.bind_some, spec_QuestionFor_is l a0 a1 hn, nextQuestion]
  by_cases h : trialState l a0 a1 a2 a3 = 0
  · rw [if_pos h, if_pos h]; rfl
  · rw [if_neg h, if_neg h]

theorem spec_AnswerOf_l0 (l : List S62) (q : Int) (hn : l.length ≤ 1048576) : ∀ (d i : Nat), i + d = l.length → spec_AnswerOf.L0 l q (i : Int) = some (answerOf (l.drop i) q)
  | 0, i, h => by rw [spec_AnswerOf.L0_eq, if_neg (by omega), List.drop_of_length_le (by omega)]; rfl
  | d + 1, i, h => by
    have hi : i < l.length := by omega
    have ih := spec_AnswerOf_l0 l q hn d (i + 1) (by omega)
    rw [spec_AnswerOf.L0_eq, dropMark l i hi]
    simp only [wrap_succ i (by omega), wrap_pred i (by omega), ih, Option.bind_some, answerOf]
    repeat' split
    all_goals first
      | rfl
      | (exfalso; first | contradiction | omega)
      | (simp_all; done)

theorem spec_AnswerOf_is (l : List S62) (q : Int) (hn : l.length ≤ 1048576) : spec_AnswerOf.F l q = some (answerOf l q) := by
  rw [spec_AnswerOf.F_eq]
  exact spec_AnswerOf_l0 l q hn l.length 0 (by omega)

theorem spec_GiveAnswer_is (l : List S62) (a0 a1 a2 a3 a : Int) (hn : l.length ≤ 1048576) : spec_GiveAnswer.F l a0 a1 a2 a3 a = some (giveAnswer l a0 a1 a2 a3 a) := by
  rw [spec_GiveAnswer.F_eq, spec_NextQuestion_is l a0 a1 a2 a3 hn, Option.bind_some, spec_AnswerOf_is l _ hn, Option.bind_some, giveAnswer]
  split
  · rfl
  · split <;> rfl

theorem spec_AnswerAll_l0 (l : List S62) (q : List Int) (hn : l.length ≤ 1048576) (hq : q.length ≤ 1048576) : ∀ (d i : Nat) (a0 a1 a2 a3 : Int), i + d = q.length → spec_AnswerAll.L0 l q (i : Int) a0 a1 a2 a3 = some (answerAll l (q.drop i) a0 a1 a2 a3)
  | 0, i, a0, a1, a2, a3, h => by rw [spec_AnswerAll.L0_eq, if_neg (by omega), List.drop_of_length_le (by omega), answerAll]
  | d + 1, i, a0, a1, a2, a3, h => by
    rw [spec_AnswerAll.L0_eq, if_pos (by omega), if_pos (by omega), spec_GiveAnswer_is l _ _ _ _ _ hn, Option.bind_some, wrap_succ i (by omega), spec_AnswerAll_l0 l q hn hq d (i + 1) _ _ _ _ (by omega), dropInt q i (by omega), answerAll]
theorem spec_AnswerAll_is (l : List S62) (a0 a1 a2 a3 : Int) (q : List Int) (hn : l.length ≤ 1048576) (hq : q.length ≤ 1048576) : spec_AnswerAll.F l a0 a1 a2 a3 q = some (answerAll l q a0 a1 a2 a3) := by
  rw [spec_AnswerAll.F_eq]
  have := spec_AnswerAll_l0 l q hn hq q.length 0 a0 a1 a2 a3 (by omega)
  rw [List.drop_zero] at this
  exact this

theorem inRange (a b c : Int) : impl_InRange.f a b c = some (inR a b c) := by
  unfold impl_InRange.f inR
  by_cases h : b ≤ a <;> simp [h]

theorem impl_AreMarks_l0 (l : List S62) (hn : l.length ≤ 1048576) : ∀ (d i : Nat), i + d = l.length → impl_AreMarks.L0 l l (l.length : Int) (i : Int) = some (allF (okMark l) l.length i)
  | 0, i, h => by rw [impl_AreMarks.L0_eq, if_neg (by omega), allF_end (by omega)]; first | done | rfl | simp [inRange, inR]
  | d + 1, i, h => by
    have hi : i < l.length := by omega
    have ih := impl_AreMarks_l0 l hn d (i + 1) (by omega)
    rw [impl_AreMarks.L0_eq]
    simp only [wrap_succ i (by omega), wrap_pred i (by omega), ih, inRange, Option.bind_some]
    by_cases hp_ : okMark l i
    · rw [allF_yes hp_]
      simp only [okMark] at hp_
      obtain ⟨h1_, h2_, h3_⟩ := hp_
      repeat' split
      all_goals first
        | rfl
        | (exfalso; first | contradiction | omega)
    · rw [allF_no hi hp_]
      repeat' split
      all_goals first
        | rfl
        | (simp; done)
        | (exfalso; first | contradiction | omega)
        | (exfalso; apply hp_; simp only [okMark]; (repeat' constructor) <;> first | assumption | (intro _; omega) | omega)

theorem impl_AreMarks_is (l : List S62) (hn : l.length ≤ 1048576) : impl_AreMarks.F l = some (areMarks l) := by
  rw [impl_AreMarks.F_eq, areMarks]
  by_cases h : (l.length : Int) > 8
  · rw [if_pos h, decide_eq_false (by omega), Bool.and_false]
  · rw [if_neg h, decide_eq_true (by omega), Bool.and_true]
    exact impl_AreMarks_l0 l hn l.length 0 (by omega)

theorem impl_NeedFor_is (l : List S62) (hn : l.length ≤ 1048576) : impl_NeedFor.f l = some (if (l.length : Int) < 3 then (l.length : Int) else 3) := by
  unfold impl_NeedFor.f mn
  rfl

theorem impl_IsTrial_is (a0 a1 a2 a3 : Int) : impl_IsTrial.f a0 a1 a2 a3 = some (isTrial a0 a1 a2 a3) := by
  unfold impl_IsTrial.f isTrial
  simp only [inRange, Option.bind_some]
  cases inR a0 1 999 <;> cases inR a2 0 100 <;> cases inR a3 0 100 <;> simp
theorem impl_TrialState_is (l : List S62) (a0 a1 a2 a3 : Int) (hn : l.length ≤ 1048576) : impl_TrialState.F l a0 a1 a2 a3 = some (trialState l a0 a1 a2 a3) := by
  rw [impl_TrialState.F_eq, impl_IsTrial_is, Option.bind_some, impl_AreMarks_is l hn, Option.bind_some]
  simp only [impl_TrialState.J0_eq, impl_NeedFor_is l hn, Option.bind_some, trialState]
  by_cases h1 : isTrial a0 a1 a2 a3 = true
  · by_cases h2 : areMarks l = true
    · by_cases h3 : a3 > 1
      · simp [h1, h2, h3]
      · by_cases h4 : (l.length : Int) > 0
        · by_cases h5 : a2 ≥ (if (l.length : Int) < 3 then (l.length : Int) else 3)
          · simp only [h1, h2, h3, h4, h5, if_true, decide_false, true_and, not_false_eq_true, and_self, Bool.false_eq_true, if_false]
          · simp only [h1, h2, h3, h4, h5, if_true, decide_false, true_and, not_false_eq_true, and_self, and_false, Bool.false_eq_true, if_false]
        · simp only [h1, h2, h3, h4, if_true, decide_false, true_and, false_and, not_false_eq_true, and_self, Bool.false_eq_true, if_false]
    · simp [h1, h2]
  · simp [h1]

theorem impl_fold_is (a x : Int) : impl_fold.f a x = some (hashStep a x) := by
  have hx := Int.emod_nonneg x (show (2147483647 : Int) ≠ 0 by decide)
  have hy := Int.emod_lt_of_pos x (show (0 : Int) < 2147483647 by decide)
  have e : impl_Mod.f x 2147483647 = some (x % 2147483647) := by
    unfold impl_Mod.f
    rw [inRange, Option.bind_some, if_pos (by decide), if_neg (by decide), tmod_of x]
    by_cases h : x % 2147483647 = 0
    · rw [if_pos h, if_neg (by decide), h]
    · rw [if_neg h]
      by_cases h0 : 0 ≤ x
      · rw [if_pos h0, if_neg (by omega)]
      · rw [if_neg h0, if_pos (by omega), wrap_in _ (by omega)]
        congr 1
        omega
  unfold impl_fold.f
  rw [e, Option.bind_some]
  rfl
theorem impl_Hash_l0 (l : List Int) (hn : l.length ≤ 4194304) : ∀ (d i : Nat) (a : Int), i + d = l.length → impl_Hash.L0 a l (l.length : Int) (i : Int) = some (hashL (l.drop i) a)
  | 0, i, a, h => by rw [impl_Hash.L0_eq, if_neg (by omega), List.drop_of_length_le (by omega)]; rfl
  | d + 1, i, a, h => by
    rw [impl_Hash.L0_eq, if_pos (by omega), if_pos (by omega), if_pos (by omega), impl_fold_is, Option.bind_some, wrap_succ i (by omega), impl_Hash_l0 l hn d (i + 1) _ (by omega), dropInt l i (by omega)]
    rfl
theorem impl_Hash_is (l : List Int) (hn : l.length ≤ 4194304) : impl_Hash.F l = some (hashL l 11) := by
  rw [impl_Hash.F_eq]
  exact impl_Hash_l0 l hn l.length 0 11 (by omega)

theorem impl_QuestionFor_is (l : List S62) (c n : Int) (hn : l.length ≤ 1048576) : impl_QuestionFor.F l c n = some (questionFor l c n) := by
  rw [impl_QuestionFor.F_eq, questionFor]
  by_cases h0 : l.length = 0
  · rw [if_pos (by omega), if_neg (fun h => h.1 h0)]
  · rw [if_neg (by omega), impl_AreMarks_is l hn, Option.bind_some]
    by_cases h1 : areMarks l = true
    · rw [if_pos h1, inRange, Option.bind_some]
      by_cases h2 : inR n 0 1000 = true
      · obtain ⟨e, e1, e2⟩ := question_idx c n (l.length : Int) (by omega) (inR_iff.1 h2)
        rw [if_pos h2, impl_Hash_is [c] (by simp), Option.bind_some, e, if_pos e1, if_pos e2, if_pos ⟨h0, h1, h2⟩]
      · rw [if_neg h2, if_neg (fun h => h2 h.2.2)]
    · rw [if_neg h1, if_neg (fun h => h1 h.2.1)]

theorem impl_NextQuestion_is (l : List S62) (a0 a1 a2 a3 : Int) (hn : l.length ≤ 1048576) : impl_NextQuestion.F l a0 a1 a2 a3 = some (nextQuestion l a0 a1 a2 a3) := by
  rw [impl_NextQuestion.F_eq, impl_TrialState_is l a0 a1 a2 a3 hn, Option.bind_some, impl_QuestionFor_is l a0 a1 hn, nextQuestion]
  by_cases h : trialState l a0 a1 a2 a3 = 0
  · rw [if_pos h, if_pos h]; rfl
  · rw [if_neg h, if_neg h]

theorem impl_AnswerOf_l0 (l : List S62) (q : Int) (hn : l.length ≤ 1048576) : ∀ (d i : Nat), i + d = l.length → impl_AnswerOf.L0 q l (l.length : Int) (i : Int) = some (answerOf (l.drop i) q)
  | 0, i, h => by rw [impl_AnswerOf.L0_eq, if_neg (by omega), List.drop_of_length_le (by omega)]; rfl
  | d + 1, i, h => by
    have hi : i < l.length := by omega
    have ih := impl_AnswerOf_l0 l q hn d (i + 1) (by omega)
    rw [impl_AnswerOf.L0_eq, dropMark l i hi]
    simp only [wrap_succ i (by omega), wrap_pred i (by omega), ih, Option.bind_some, answerOf]
    repeat' split
    all_goals first
      | rfl
      | (exfalso; first | contradiction | omega)
      | (simp_all; done)

theorem impl_AnswerOf_is (l : List S62) (q : Int) (hn : l.length ≤ 1048576) : impl_AnswerOf.F l q = some (answerOf l q) := by
  rw [impl_AnswerOf.F_eq]
  exact impl_AnswerOf_l0 l q hn l.length 0 (by omega)

theorem impl_GiveAnswer_is (l : List S62) (a0 a1 a2 a3 a : Int) (hn : l.length ≤ 1048576) : impl_GiveAnswer.F l a0 a1 a2 a3 a = some (giveAnswer l a0 a1 a2 a3 a) := by
  rw [impl_GiveAnswer.F_eq, impl_NextQuestion_is l a0 a1 a2 a3 hn, Option.bind_some, impl_AnswerOf_is l _ hn, Option.bind_some, giveAnswer]
  split
  · rfl
  · split <;> rfl

theorem impl_AnswerAll_l0 (l : List S62) (q : List Int) (hn : l.length ≤ 1048576) (hq : q.length ≤ 1048576) : ∀ (d i : Nat) (a0 a1 a2 a3 : Int), i + d = q.length → impl_AnswerAll.L0 l q (q.length : Int) (i : Int) a0 a1 a2 a3 = some (answerAll l (q.drop i) a0 a1 a2 a3)
  | 0, i, a0, a1, a2, a3, h => by rw [impl_AnswerAll.L0_eq, if_neg (by omega), List.drop_of_length_le (by omega), answerAll]
  | d + 1, i, a0, a1, a2, a3, h => by
    rw [impl_AnswerAll.L0_eq, if_pos (by omega), if_pos (by omega), if_pos (by omega), impl_GiveAnswer_is l _ _ _ _ _ hn, Option.bind_some, wrap_succ i (by omega), impl_AnswerAll_l0 l q hn hq d (i + 1) _ _ _ _ (by omega), dropInt q i (by omega), answerAll]
theorem impl_AnswerAll_is (l : List S62) (a0 a1 a2 a3 : Int) (q : List Int) (hn : l.length ≤ 1048576) (hq : q.length ≤ 1048576) : impl_AnswerAll.F l a0 a1 a2 a3 q = some (answerAll l q a0 a1 a2 a3) := by
  rw [impl_AnswerAll.F_eq]
  have := impl_AnswerAll_l0 l q hn hq q.length 0 a0 a1 a2 a3 (by omega)
  rw [List.drop_zero] at this
  exact this

theorem law_FnExactAnswerAll (l0 : List S145) (hm0 : l0.length ≤ maxLen) (hw0 : ∀ y ∈ l0, ok145 y) (x1 : S24) (hw1 : ok24 x1) (l2 : List Int) (hm2 : l2.length ≤ maxLen) (hw2 : ∀ y ∈ l2, (Lit.int .i64 y).wf = true) : laws_FnExactAnswerAll.F l0 x1.f0 x1.f1 x1.f2 x1.f3 l2 = some true := by
  rw [laws_FnExactAnswerAll.F_eq]
  by_cases h2 : (l2.length : Int) > 1048576
  · rw [if_pos h2]
  · have hq : l2.length ≤ 1048576 := by omega
    have hq' : l2.length ≤ 4194304 := by omega
    rw [if_neg h2, szMarkS l0 1048576 (by omega) hm0]
    simp only [Option.bind_some]
    by_cases h : (1048576 : Int) < (l0.length : Int)
    · rw [if_pos h]; rfl
    · have hn : l0.length ≤ 1048576 := by omega
      have hn' : (l0.map cvMark).length ≤ 1048576 := by rw [List.length_map]; exact hn
      rw [if_neg h, if_neg (by omega)]
      simp [toMarkS l0 hn, toIntS l2 hq, laws_toTrial.f, spec_AnswerAll_is _ _ _ _ _ _ hn' hq, impl_AnswerAll_is _ _ _ _ _ _ hn' hq, laws_eqTrial.f, eqMarkS _ hn', eqIntS l2 hq']

theorem FnExactAnswerAll (l0 : List S145) (hm0 : l0.length ≤ maxLen) (hw0 : ∀ y ∈ l0, ok145 y) (x1 : S24) (hw1 : ok24 x1) (l2 : List Int) (hm2 : l2.length ≤ maxLen) (hw2 : ∀ y ∈ l2, (fun n : Int => (Lit.int .i64 n).wf = true) y) : ∃ k, laws_FnExactAnswerAll.f k l0 x1.f0 x1.f1 x1.f2 x1.f3 l2 = some true :=
  (laws_FnExactAnswerAll.F_co l0 x1.f0 x1.f1 x1.f2 x1.f3 l2).rounds (law_FnExactAnswerAll l0 hm0 hw0 x1 hw1 l2 hm2 hw2)
end Go.Proofs.Ytppgealmedaihaa.PFnExactAnswerAll.Pure
