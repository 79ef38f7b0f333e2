/-
  The program's Score answers as the reference's does, for all arguments. It has no conditions.
-/
import Derived.Test.YtbbfelgojaioaaaShFnExactScore
import Derived.Test.YtbbfelgojaioaaaEqFnExactScore
import Derived.Test.YtbbfelgojaioaaaBase
set_option linter.unusedVariables false
set_option linter.unusedSimpArgs false
namespace Go.Proofs.Ytbbfelgojaioaaa.PFnExactScore.Pure
open Go.RowKit Go.Proofs.YtbbfelgojaioaaaW.PrintWords Go.Proofs.YtbbfelgojaioaaaW.PrintLast Go.Proofs.YtbbfelgojaioaaaW.PrintMore Go.Proofs.Ytbbfelgojaioaaa.PFnExactScore Go.Proofs.Ytbbfelgojaioaaa.Lim Go.Proofs.Ytbbfelgojaioaaa.Base
set_option maxRecDepth 100000

theorem szIntS (l : List Int) (a : Int) (ha : 0 ≤ a ∧ a ≤ 1048576) (hl : l.length ≤ maxLen) : laws_szIntS.f l a = some (if a < (l.length : Int) then -1 else a - (l.length : Int)) := by
  simp only [maxLen] at hl
  unfold laws_szIntS.f
  rw [wrap_in _ (by omega)]
  by_cases h : a < (l.length : Int)
  · rw [if_pos (by omega), if_pos h]
  · rw [if_neg (by omega), if_neg h]

theorem szReport_is (r0 r1 : Int) (rc : List Int) (r3 r4 : Int) (rp : List Int) (r6 r7 : Int) (a : Int) (ha : 0 ≤ a ∧ a ≤ 1048576) (hc : rc.length ≤ maxLen) (hp : rp.length ≤ maxLen) :
    laws_szReport.f r0 r1 rc r3 r4 rp r6 r7 a = some (-1) ∨ (laws_szReport.f r0 r1 rc r3 r4 rp r6 r7 a = some (a - (rc.length : Int) - (rp.length : Int)) ∧ (rc.length : Int) + (rp.length : Int) ≤ a) := by
  unfold laws_szReport.f
  rw [szIntS rc a ha hc, Option.bind_some]
  by_cases h1 : a < (rc.length : Int)
  · left
    rw [if_pos h1]; rfl
  · rw [if_neg h1, if_neg (by omega), szIntS rp _ (by omega) hp, Option.bind_some]
    by_cases h2 : a - (rc.length : Int) < (rp.length : Int)
    · left
      rw [if_pos h2]; rfl
    · right
      rw [if_neg h2, if_neg (by omega)]
      exact ⟨rfl, by omega⟩

theorem toIntS_l0 (l : List Int) (hn : l.length ≤ 1048576) : ∀ (d i : Nat) (acc : List Int), i + d = l.length → acc.length = l.length → acc.take i = (l.take i).map id → laws_toIntS.L0 l acc (i : Int) = some l
  | 0, i, acc, h, ha, ht => by
    rw [laws_toIntS.L0_eq, if_neg (by omega)]
    rw [List.take_of_length_le (by omega), List.take_of_length_le (by omega)] at ht
    rw [ht, List.map_id]
  | d + 1, i, acc, h, ha, ht => by
    have hi : i < l.length := by omega
    rw [laws_toIntS.L0_eq, if_pos (by omega), if_pos (by omega), if_pos (by omega), wrap_succ i (by omega)]
    refine toIntS_l0 l hn d (i + 1) _ (by omega) (by rw [List.length_set]; exact ha) ?_
    rw [Int.toNat_natCast]
    exact fill_step l id acc i ha hi ht _ (by simp [rd, hi])
theorem toIntS (l : List Int) (hn : l.length ≤ 1048576) : laws_toIntS.F l = some l := by
  rw [laws_toIntS.F_eq, if_pos (by omega), if_pos (by omega)]
  exact toIntS_l0 l hn l.length 0 _ (by omega) (by simp) (by simp)

theorem toReport_is (r0 r1 : Int) (rc : List Int) (r3 r4 : Int) (rp : List Int) (r6 r7 : Int) (hc : rc.length ≤ 1048576) (hp : rp.length ≤ 1048576) : laws_toReport.F r0 r1 rc r3 r4 rp r6 r7 = some (r0, r1, rc, r3, r4, rp, r6, r7) := by
  rw [laws_toReport.F_eq, toIntS _ hc, toIntS _ hp]
  rfl

theorem eqIntS_l0 (l : List Int) (hn : l.length ≤ 4194304) : ∀ (d i : Nat), i + d = l.length → laws_eqIntS.L0 l l (i : Int) = some true
  | 0, i, h => by rw [laws_eqIntS.L0_eq, if_neg (by omega)]
  | d + 1, i, h => by
    rw [laws_eqIntS.L0_eq, if_pos (by omega), if_pos (by omega), if_pos (by omega), if_pos rfl, wrap_succ i (by omega)]
    exact eqIntS_l0 l hn d (i + 1) (by omega)
theorem eqIntS (l : List Int) (hn : l.length ≤ 4194304) : laws_eqIntS.F l l = some true := by
  rw [laws_eqIntS.F_eq, if_pos rfl]
  exact eqIntS_l0 l hn l.length 0 (by omega)

theorem eqReport_is (r0 r1 : Int) (rc : List Int) (r3 r4 : Int) (rp : List Int) (r6 r7 : Int) (hc : rc.length ≤ 4194304) (hp : rp.length ≤ 4194304) : laws_eqReport.F r0 r1 rc r3 r4 rp r6 r7 r0 r1 rc r3 r4 rp r6 r7 = some true := by
  rw [laws_eqReport.F_eq]
  simp [eqIntS _ hc, eqIntS _ hp, laws_eqSpan.f]

theorem toFind_is (f0 f1 f2 f3 f4 f5 f6 f7 : Int) : laws_toFind.f f0 f1 f2 f3 f4 f5 f6 f7 = some (f0, f1, f2, f3, f4, f5, f6, f7) := rfl

theorem rdInt_at (l : List Int) (i : Nat) : rd l (i : Int) = l.getD i 0 := by simp [rd]
theorem dropInt (l : List Int) (i : Nat) (h : i < l.length) : l.drop i = rd l (i : Int) :: l.drop (i + 1) := by
  rw [rdInt_at, getD_get l i _ h]
  exact List.drop_eq_getElem_cons h

def okAsc (a b : Int) (l : List Int) (i : Nat) : Prop := inR (rd l i) a b = true ∧ ((i : Int) > 0 → rd l ((i : Int) - 1) < rd l i)
noncomputable def isAsc (l : List Int) (a b : Int) : Bool := allF (okAsc a b l) l.length 0

noncomputable def isReport (r0 r1 : Int) (rc : List Int) (r3 r4 : Int) (rp : List Int) (r6 r7 : Int) : Bool := inR r0 1 999 && inR r1 1 8 && isAsc rc 0 7 && decide (1 ≤ r3) && decide (r3 ≤ r4) && decide (r4 ≤ 50) && isAsc rp 1 30 && decide ((rp.length : Int) ≤ 10) && (inR r6 0 100000 && inR r7 0 100000 && decide (r6 ≤ r7))
noncomputable def isFind (f0 f1 f2 f3 f4 f5 f6 f7 : Int) : Bool := (inR f0 1 999 && inR f1 1 8 && inR f2 0 7 && inR f3 1 50 && inR f4 0 10000000) && inR f5 1 30 && inR f6 0 100000 && inR f7 0 999

def allow (l : List Int) (n : Int) : Bool := decide (l.length = 0) || decide (n ∈ l)

noncomputable def whyNot (r0 r1 : Int) (rc : List Int) (r3 r4 : Int) (rp : List Int) (r6 r7 : Int) (f0 f1 f2 f3 f4 f5 f6 f7 : Int) : ByteArray :=
  if ¬ (isReport r0 r1 rc r3 r4 rp r6 r7 = true ∧ isFind f0 f1 f2 f3 f4 f5 f6 f7 = true) then ⟨#[105, 110, 118, 97, 108, 105, 100]⟩
  else if ¬ r1 = f1 then ⟨#[107, 105, 110, 100]⟩
  else if ¬ allow rc f2 = true then ⟨#[99, 111, 108, 111, 117, 114]⟩
  else if ¬ inR f3 r3 r4 = true then ⟨#[115, 105, 122, 101]⟩
  else if ¬ allow rp f5 = true then ⟨#[112, 108, 97, 99, 101]⟩
  else if f6 < r6 then ⟨#[116, 105, 109, 101]⟩ else ⟨#[]⟩
noncomputable def canBe (r0 r1 : Int) (rc : List Int) (r3 r4 : Int) (rp : List Int) (r6 r7 : Int) (f0 f1 f2 f3 f4 f5 f6 f7 : Int) : Bool := isReport r0 r1 rc r3 r4 rp r6 r7 && isFind f0 f1 f2 f3 f4 f5 f6 f7 && decide (r1 = f1) && allow rc f2 && inR f3 r3 r4 && allow rp f5 && decide (r6 ≤ f6)
theorem canBe_why (r0 r1 : Int) (rc : List Int) (r3 r4 : Int) (rp : List Int) (r6 r7 : Int) (f0 f1 f2 f3 f4 f5 f6 f7 : Int) : ((whyNot r0 r1 rc r3 r4 rp r6 r7 f0 f1 f2 f3 f4 f5 f6 f7).toList == ([] : List UInt8)) = canBe r0 r1 rc r3 r4 rp r6 r7 f0 f1 f2 f3 f4 f5 f6 f7 := by
  unfold whyNot canBe
  by_cases h1 : isReport r0 r1 rc r3 r4 rp r6 r7 = true
  · by_cases h2 : isFind f0 f1 f2 f3 f4 f5 f6 f7 = true
    · rw [h1, h2]
      simp only [and_self, not_true_eq_false, if_false, Bool.true_and]
      by_cases h3 : r1 = f1
      · simp only [h3, not_true_eq_false, if_false, decide_true, Bool.true_and]
        cases allow rc f2
        · first | (simp; done) | (simp; decide +kernel)
        · cases inR f3 r3 r4
          · first | (simp; done) | (simp; decide +kernel)
          · cases allow rp f5
            · first | (simp; done) | (simp; decide +kernel)
            · by_cases h4 : f6 < r6
              · simp only [h4, not_true_eq_false, if_false, if_true, Bool.true_and, decide_eq_false (show ¬ r6 ≤ f6 by omega)]
                decide +kernel
              · simp only [h4, not_true_eq_false, if_false, Bool.true_and, decide_eq_true (show r6 ≤ f6 by omega)]
                decide +kernel
      · simp only [h3, not_false_eq_true, if_true, decide_false, Bool.false_and]
        decide +kernel
    · rw [Bool.eq_false_iff.2 h2]
      simp only [Bool.false_eq_true, and_false, not_false_eq_true, if_true, Bool.and_false, Bool.false_and]
      decide +kernel
  · rw [Bool.eq_false_iff.2 h1]
    simp only [Bool.false_eq_true, false_and, not_false_eq_true, if_true, Bool.false_and]
    decide +kernel

def b2i (b : Bool) : Int := if b = true then 1 else 0
theorem b2i_bd (b : Bool) : 0 ≤ b2i b ∧ b2i b ≤ 1 := by cases b <;> simp [b2i]
noncomputable def score (r0 r1 : Int) (rc : List Int) (r3 r4 : Int) (rp : List Int) (r6 r7 : Int) (f0 f1 f2 f3 f4 f5 f6 f7 : Int) : Int :=
  if canBe r0 r1 rc r3 r4 rp r6 r7 f0 f1 f2 f3 f4 f5 f6 f7 = true then 1 + b2i (inR (rc.length : Int) 1 2) + b2i (decide (r4 - r3 ≤ 5)) + b2i (inR (rp.length : Int) 1 2) + b2i (decide (f6 ≤ r7 + 24)) else 0
theorem canBe_bd (r0 r1 : Int) (rc : List Int) (r3 r4 : Int) (rp : List Int) (r6 r7 : Int) (f0 f1 f2 f3 f4 f5 f6 f7 : Int) (h : canBe r0 r1 rc r3 r4 rp r6 r7 f0 f1 f2 f3 f4 f5 f6 f7 = true) : 1 ≤ r3 ∧ r3 ≤ r4 ∧ r4 ≤ 50 ∧ 0 ≤ r7 ∧ r7 ≤ 100000 ∧ 0 ≤ f6 ∧ f6 ≤ 100000 := by
  simp only [canBe, isReport, isFind, Bool.and_eq_true, decide_eq_true_iff, inR_iff] at h
  omega

theorem l1In (a b c : Int) : spec_l1In.f a b c = some (inR a b c) := by
  unfold spec_l1In.f inR
  by_cases h : b ≤ a <;> simp [h]

theorem spec_l7Ids_l0 (l : List Int) (a b : Int) (hn : l.length ≤ 4194304) : ∀ (d i : Nat), i + d = l.length → spec_l7Ids.L0 l a b (i : Int) = some (allF (okAsc a b l) l.length i)
  | 0, i, h => by rw [spec_l7Ids.L0_eq, if_neg (by omega), allF_end (by omega)]
  | d + 1, i, h => by
    have hi : i < l.length := by omega
    have ih := spec_l7Ids_l0 l a b hn d (i + 1) (by omega)
    rw [spec_l7Ids.L0_eq]
    simp only [wrap_succ i (by omega), wrap_pred i (by omega), ih, l1In, Option.bind_some]
    by_cases hp_ : okAsc a b l i
    · rw [allF_yes hp_]
      simp only [okAsc] at hp_
      obtain ⟨h1_, h2_⟩ := hp_
      repeat' split
      all_goals first
        | rfl
        | (exfalso; first | contradiction | omega)
    · rw [allF_no hi hp_]
      repeat' split
      all_goals first
        | rfl
        | (simp; done)
        | (exfalso; omega)
        | (exfalso; apply hp_; simp only [okAsc]; (repeat' constructor) <;> first | assumption | (intro _; omega) | omega)
theorem spec_l7Ids_is (l : List Int) (a b : Int) (hn : l.length ≤ 4194304) : spec_l7Ids.F l a b = some (isAsc l a b) := by
  rw [spec_l7Ids.F_eq]
  exact spec_l7Ids_l0 l a b hn l.length 0 (by omega)

theorem spec_IsSpan_is (a b : Int) : spec_IsSpan.f a b = some (inR a 0 100000 && inR b 0 100000 && decide (a ≤ b)) := by
  unfold spec_IsSpan.f
  simp only [l1In, Option.bind_some]
  cases inR a 0 100000 <;> cases inR b 0 100000 <;> simp

theorem spec_IsReport_is (r0 r1 : Int) (rc : List Int) (r3 r4 : Int) (rp : List Int) (r6 r7 : Int) (hc : rc.length ≤ 4194304) (hp : rp.length ≤ 4194304) : spec_IsReport.F r0 r1 rc r3 r4 rp r6 r7 = some (isReport r0 r1 rc r3 r4 rp r6 r7) := by
  rw [spec_IsReport.F_eq]
  simp only [l1In, spec_l7Ids_is rc 0 7 hc, spec_l7Ids_is rp 1 30 hp, spec_IsSpan_is, Option.bind_some, isReport]
  generalize (inR r6 0 100000 && inR r7 0 100000 && decide (r6 ≤ r7)) = s
  cases inR r0 1 999 <;> cases inR r1 1 8 <;> cases isAsc rc 0 7 <;> cases isAsc rp 1 30 <;> by_cases h1 : 1 ≤ r3 <;> by_cases h2 : r3 ≤ r4 <;> by_cases h3 : r4 ≤ 50 <;> by_cases h4 : (rp.length : Int) ≤ 10 <;> simp [h1, h2, h3, h4]

theorem spec_IsThing_is (a b c d e : Int) : spec_IsThing.f a b c d e = some (inR a 1 999 && inR b 1 8 && inR c 0 7 && inR d 1 50 && inR e 0 10000000) := by
  unfold spec_IsThing.f
  simp only [l1In, Option.bind_some]
  cases inR a 1 999 <;> cases inR b 1 8 <;> cases inR c 0 7 <;> cases inR d 1 50 <;> simp

theorem spec_IsFind_is (f0 f1 f2 f3 f4 f5 f6 f7 : Int) : spec_IsFind.f f0 f1 f2 f3 f4 f5 f6 f7 = some (isFind f0 f1 f2 f3 f4 f5 f6 f7) := by
  unfold spec_IsFind.f
  simp only [spec_IsThing_is, l1In, Option.bind_some, isFind]
  generalize (inR f0 1 999 && inR f1 1 8 && inR f2 0 7 && inR f3 1 50 && inR f4 0 10000000) = t
  cases t <;> cases inR f5 1 30 <;> cases inR f6 0 100000 <;> simp

theorem spec_l8Has_l0 (l : List Int) (n : Int) (hn : l.length ≤ 4194304) : ∀ (d i : Nat), i + d = l.length → spec_l8Has.L0 l n (i : Int) = some (decide (n ∈ l.drop i))
  | 0, i, h => by
    rw [spec_l8Has.L0_eq, if_neg (by omega), List.drop_of_length_le (by omega)]
    simp
  | d + 1, i, h => by
    rw [spec_l8Has.L0_eq, if_pos (by omega), if_pos (by omega), dropInt l i (by omega), wrap_succ i (by omega), spec_l8Has_l0 l n hn d (i + 1) (by omega)]
    by_cases c : rd l (i : Int) = n
    · rw [if_pos c]
      simp [c]
    · rw [if_neg c]
      have c' : ¬ n = rd l (i : Int) := fun e => c e.symm
      simp [c']
theorem spec_l8Has_is (l : List Int) (n : Int) (hn : l.length ≤ 4194304) : spec_l8Has.F l n = some (decide (n ∈ l)) := by
  rw [spec_l8Has.F_eq]
  exact spec_l8Has_l0 l n hn l.length 0 (by omega)

theorem spec_WhyNot_is (r0 r1 : Int) (rc : List Int) (r3 r4 : Int) (rp : List Int) (r6 r7 : Int) (f0 f1 f2 f3 f4 f5 f6 f7 : Int) (hc : rc.length ≤ 4194304) (hp : rp.length ≤ 4194304) : spec_WhyNot.F r0 r1 rc r3 r4 rp r6 r7 f0 f1 f2 f3 f4 f5 f6 f7 = some (whyNot r0 r1 rc r3 r4 rp r6 r7 f0 f1 f2 f3 f4 f5 f6 f7) := by
  rw [spec_WhyNot.F_eq, spec_IsReport_is r0 r1 rc r3 r4 rp r6 r7 hc hp]
  simp only [Option.bind_some, spec_IsFind_is, spec_WhyNot.J0_eq, spec_WhyNot.J1_eq, spec_WhyNot.J2_eq, spec_l8Has_is rc _ hc, spec_l8Has_is rp _ hp, l1In, whyNot, allow]
  have e1 : ((rc.length : Int) > 0) = ¬ rc.length = 0 := propext ⟨fun h => by omega, fun h => by omega⟩
  have e2 : ((rp.length : Int) > 0) = ¬ rp.length = 0 := propext ⟨fun h => by omega, fun h => by omega⟩
  simp only [e1, e2]
  cases isReport r0 r1 rc r3 r4 rp r6 r7 <;> cases isFind f0 f1 f2 f3 f4 f5 f6 f7 <;> by_cases h3 : r1 = f1 <;> by_cases h5 : rc.length = 0 <;> by_cases h6 : f2 ∈ rc <;> cases inR f3 r3 r4 <;> by_cases h7 : rp.length = 0 <;> by_cases h8 : f5 ∈ rp <;> by_cases h4 : f6 < r6 <;> simp only [h3, h4, h5, h6, h7, h8, not_true_eq_false, not_false_eq_true, and_true, and_false, and_self, true_and, false_and, if_true, if_false, Bool.not_true, Bool.not_false, Bool.false_eq_true, decide_true, decide_false, Bool.true_or, Bool.false_or, Bool.or_true, Bool.or_false]

theorem spec_CanBe_is (r0 r1 : Int) (rc : List Int) (r3 r4 : Int) (rp : List Int) (r6 r7 : Int) (f0 f1 f2 f3 f4 f5 f6 f7 : Int) (hc : rc.length ≤ 4194304) (hp : rp.length ≤ 4194304) : spec_CanBe.F r0 r1 rc r3 r4 rp r6 r7 f0 f1 f2 f3 f4 f5 f6 f7 = some (canBe r0 r1 rc r3 r4 rp r6 r7 f0 f1 f2 f3 f4 f5 f6 f7) := by
  rw [spec_CanBe.F_eq, spec_WhyNot_is r0 r1 rc r3 r4 rp r6 r7 f0 f1 f2 f3 f4 f5 f6 f7 hc hp, Option.bind_some, canBe_why]

theorem spec_Score_is (r0 r1 : Int) (rc : List Int) (r3 r4 : Int) (rp : List Int) (r6 r7 : Int) (f0 f1 f2 f3 f4 f5 f6 f7 : Int) (hc : rc.length ≤ 4194304) (hp : rp.length ≤ 4194304) : spec_Score.F r0 r1 rc r3 r4 rp r6 r7 f0 f1 f2 f3 f4 f5 f6 f7 = some (score r0 r1 rc r3 r4 rp r6 r7 f0 f1 f2 f3 f4 f5 f6 f7) := by
  have e : ∀ b, spec_l8One.f b = some (b2i b) := fun b => by unfold spec_l8One.f b2i; cases b <;> rfl
  rw [spec_Score.F_eq, spec_CanBe_is r0 r1 rc r3 r4 rp r6 r7 f0 f1 f2 f3 f4 f5 f6 f7 hc hp, Option.bind_some, score]
  by_cases h : canBe r0 r1 rc r3 r4 rp r6 r7 f0 f1 f2 f3 f4 f5 f6 f7 = true
  · obtain ⟨h1, h2, h3, h4, h5, h6, h7⟩ := canBe_bd r0 r1 rc r3 r4 rp r6 r7 f0 f1 f2 f3 f4 f5 f6 f7 h
    simp only [if_pos h, l1In, e, Option.bind_some]
    rw [wrap_in (r4 - r3) (by omega), wrap_in (r7 + 24) (by omega)]
    have b1 := b2i_bd (inR (rc.length : Int) 1 2)
    have b2 := b2i_bd (decide (r4 - r3 ≤ 5))
    have b3 := b2i_bd (inR (rp.length : Int) 1 2)
    have b4 := b2i_bd (decide (f6 ≤ r7 + 24))
    generalize b2i (inR (rc.length : Int) 1 2) = u1 at *
    generalize b2i (decide (r4 - r3 ≤ 5)) = u2 at *
    generalize b2i (inR (rp.length : Int) 1 2) = u3 at *
    generalize b2i (decide (f6 ≤ r7 + 24)) = u4 at *
    rw [wrap_in (1 + u1) (by omega), wrap_in (1 + u1 + u2) (by omega), wrap_in (1 + u1 + u2 + u3) (by omega), wrap_in _ (by omega)]
  · rw [if_neg h, if_neg h]

theorem inRange (a b c : Int) : impl_InRange.f a b c = some (inR a b c) := by
  unfold impl_InRange.f inR
  by_cases h : b ≤ a <;> simp [h]

theorem impl_isAscending_l0 (l : List Int) (a b : Int) (hn : l.length ≤ 4194304) : ∀ (d i : Nat), i + d = l.length → impl_isAscending.L0 l a b l (l.length : Int) (i : Int) = some (allF (okAsc a b l) l.length i)
  | 0, i, h => by rw [impl_isAscending.L0_eq, if_neg (by omega), allF_end (by omega)]
  | d + 1, i, h => by
    have hi : i < l.length := by omega
    have ih := impl_isAscending_l0 l a b hn d (i + 1) (by omega)
    rw [impl_isAscending.L0_eq]
    simp only [wrap_succ i (by omega), wrap_pred i (by omega), ih, inRange, Option.bind_some]
    by_cases hp_ : okAsc a b l i
    · rw [allF_yes hp_]
      simp only [okAsc] at hp_
      obtain ⟨h1_, h2_⟩ := hp_
      repeat' split
      all_goals first
        | rfl
        | (exfalso; first | contradiction | omega)
    · rw [allF_no hi hp_]
      repeat' split
      all_goals first
        | rfl
        | (simp; done)
        | (exfalso; omega)
        | (exfalso; apply hp_; simp only [okAsc]; (repeat' constructor) <;> first | assumption | (intro _; omega) | omega)
theorem impl_isAscending_is (l : List Int) (a b : Int) (hn : l.length ≤ 4194304) : impl_isAscending.F l a b = some (isAsc l a b) := by
  rw [impl_isAscending.F_eq]
  exact impl_isAscending_l0 l a b hn l.length 0 (by omega)

theorem impl_IsSpan_is (a b : Int) : impl_IsSpan.f a b = some (inR a 0 100000 && inR b 0 100000 && decide (a ≤ b)) := by
  unfold impl_IsSpan.f
  simp only [inRange, Option.bind_some]
  cases inR a 0 100000 <;> cases inR b 0 100000 <;> simp

theorem impl_IsReport_is (r0 r1 : Int) (rc : List Int) (r3 r4 : Int) (rp : List Int) (r6 r7 : Int) (hc : rc.length ≤ 4194304) (hp : rp.length ≤ 4194304) : impl_IsReport.F r0 r1 rc r3 r4 rp r6 r7 = some (isReport r0 r1 rc r3 r4 rp r6 r7) := by
  rw [impl_IsReport.F_eq]
  simp only [inRange, impl_isAscending_is rc 0 7 hc, impl_isAscending_is rp 1 30 hp, impl_IsSpan_is, Option.bind_some, isReport]
  generalize (inR r6 0 100000 && inR r7 0 100000 && decide (r6 ≤ r7)) = s
  cases inR r0 1 999 <;> cases inR r1 1 8 <;> cases isAsc rc 0 7 <;> cases isAsc rp 1 30 <;> by_cases h1 : 1 ≤ r3 <;> by_cases h2 : r3 ≤ r4 <;> by_cases h3 : r4 ≤ 50 <;> by_cases h4 : (rp.length : Int) ≤ 10 <;> simp [h1, h2, h3, h4]

theorem impl_IsThing_is (a b c d e : Int) : impl_IsThing.f a b c d e = some (inR a 1 999 && inR b 1 8 && inR c 0 7 && inR d 1 50 && inR e 0 10000000) := by
  unfold impl_IsThing.f
  simp only [inRange, Option.bind_some]
  cases inR a 1 999 <;> cases inR b 1 8 <;> cases inR c 0 7 <;> cases inR d 1 50 <;> simp

theorem impl_IsFind_is (f0 f1 f2 f3 f4 f5 f6 f7 : Int) : impl_IsFind.f f0 f1 f2 f3 f4 f5 f6 f7 = some (isFind f0 f1 f2 f3 f4 f5 f6 f7) := by
  unfold impl_IsFind.f
  simp only [impl_IsThing_is, inRange, Option.bind_some, isFind]
  generalize (inR f0 1 999 && inR f1 1 8 && inR f2 0 7 && inR f3 1 50 && inR f4 0 10000000) = t
  cases t <;> cases inR f5 1 30 <;> cases inR f6 0 100000 <;> simp

theorem slices_Index_l0 (l : List Int) (n : Int) (hn : l.length ≤ 4194304) : ∀ (d i : Nat), i + d = l.length → ∃ r, slices_Index_int_int.L0 l n (l.length : Int) (i : Int) = some r ∧ (0 ≤ r ↔ n ∈ l.drop i)
  | 0, i, h => by
    refine ⟨-1, by rw [slices_Index_int_int.L0_eq, if_neg (by omega)], ?_⟩
    rw [List.drop_of_length_le (by omega)]
    simp
  | d + 1, i, h => by
    rw [slices_Index_int_int.L0_eq, if_pos (by omega), if_pos (by omega), if_pos (by omega), dropInt l i (by omega), wrap_succ i (by omega)]
    by_cases c : n = rd l (i : Int)
    · rw [if_pos c]
      exact ⟨_, rfl, ⟨fun _ => by rw [← c]; exact List.mem_cons_self, fun _ => by omega⟩⟩
    · rw [if_neg c]
      obtain ⟨r, hr, hi⟩ := slices_Index_l0 l n hn d (i + 1) (by omega)
      refine ⟨r, hr, hi.trans ⟨fun hm => List.mem_cons_of_mem _ hm, fun hm => ?_⟩⟩
      rcases List.mem_cons.1 hm with he | he
      · exact absurd he c
      · exact he
theorem slices_Contains_is (l : List Int) (n : Int) (hn : l.length ≤ 4194304) : slices_Contains_int_int.F l n = some (decide (n ∈ l)) := by
  obtain ⟨r, hr, hi⟩ := slices_Index_l0 l n hn l.length 0 (by omega)
  rw [slices_Contains_int_int.F_eq, slices_Index_int_int.F_eq]
  have hr' : slices_Index_int_int.L0 l n (l.length : Int) 0 = some r := hr
  rw [hr', Option.bind_some]
  congr 1
  rw [Bool.eq_iff_iff, decide_eq_true_iff, decide_eq_true_iff]
  exact hi
theorem impl_allows_is (l : List Int) (n : Int) (hn : l.length ≤ 4194304) : impl_allows.F l n = some (allow l n) := by
  rw [impl_allows.F_eq, slices_Contains_is l n hn, allow]
  by_cases h : l.length = 0
  · rw [if_pos (by omega), decide_eq_true h]; rfl
  · rw [if_neg (by omega), decide_eq_false h]; rfl

theorem impl_WhyNot_is (r0 r1 : Int) (rc : List Int) (r3 r4 : Int) (rp : List Int) (r6 r7 : Int) (f0 f1 f2 f3 f4 f5 f6 f7 : Int) (hc : rc.length ≤ 4194304) (hp : rp.length ≤ 4194304) : impl_WhyNot.F r0 r1 rc r3 r4 rp r6 r7 f0 f1 f2 f3 f4 f5 f6 f7 = some (whyNot r0 r1 rc r3 r4 rp r6 r7 f0 f1 f2 f3 f4 f5 f6 f7) := by
  rw [impl_WhyNot.F_eq, impl_IsReport_is r0 r1 rc r3 r4 rp r6 r7 hc hp]
  simp only [Option.bind_some, impl_IsFind_is, impl_WhyNot.J0_eq, impl_allows_is rc _ hc, impl_allows_is rp _ hp, inRange, whyNot]
  cases isReport r0 r1 rc r3 r4 rp r6 r7 <;> cases isFind f0 f1 f2 f3 f4 f5 f6 f7 <;> by_cases h3 : r1 = f1 <;> cases allow rc f2 <;> cases inR f3 r3 r4 <;> cases allow rp f5 <;> by_cases h4 : f6 < r6 <;> simp [h3, h4]

theorem impl_CanBe_is (r0 r1 : Int) (rc : List Int) (r3 r4 : Int) (rp : List Int) (r6 r7 : Int) (f0 f1 f2 f3 f4 f5 f6 f7 : Int) (hc : rc.length ≤ 4194304) (hp : rp.length ≤ 4194304) : impl_CanBe.F r0 r1 rc r3 r4 rp r6 r7 f0 f1 f2 f3 f4 f5 f6 f7 = some (canBe r0 r1 rc r3 r4 rp r6 r7 f0 f1 f2 f3 f4 f5 f6 f7) := by
  rw [impl_CanBe.F_eq, impl_WhyNot_is r0 r1 rc r3 r4 rp r6 r7 f0 f1 f2 f3 f4 f5 f6 f7 hc hp, Option.bind_some, canBe_why]

theorem impl_Score_is (r0 r1 : Int) (rc : List Int) (r3 r4 : Int) (rp : List Int) (r6 r7 : Int) (f0 f1 f2 f3 f4 f5 f6 f7 : Int) (hc : rc.length ≤ 4194304) (hp : rp.length ≤ 4194304) : impl_Score.F r0 r1 rc r3 r4 rp r6 r7 f0 f1 f2 f3 f4 f5 f6 f7 = some (score r0 r1 rc r3 r4 rp r6 r7 f0 f1 f2 f3 f4 f5 f6 f7) := by
  rw [impl_Score.F_eq, impl_CanBe_is r0 r1 rc r3 r4 rp r6 r7 f0 f1 f2 f3 f4 f5 f6 f7 hc hp, Option.bind_some, score]
  by_cases h : canBe r0 r1 rc r3 r4 rp r6 r7 f0 f1 f2 f3 f4 f5 f6 f7 = true
  · obtain ⟨h1, h2, h3, h4, h5, h6, h7⟩ := canBe_bd r0 r1 rc r3 r4 rp r6 r7 f0 f1 f2 f3 f4 f5 f6 f7 h
    simp only [if_pos h, inRange, Option.bind_some, impl_Score.J0_eq, impl_Score.J1_eq]
    rw [wrap_in (r4 - r3) (by omega), wrap_in (f6 - r7) (by omega)]
    have e : decide (f6 ≤ r7 + 24) = decide (f6 - r7 ≤ 24) := by rw [Bool.eq_iff_iff, decide_eq_true_iff, decide_eq_true_iff]; omega
    rw [e]
    have v2 : wrap64 2 = 2 := by unfold wrap64; omega
    have v3 : wrap64 3 = 3 := by unfold wrap64; omega
    have v4 : wrap64 4 = 4 := by unfold wrap64; omega
    have v5 : wrap64 5 = 5 := by unfold wrap64; omega
    have w2 : wrap64 (1 + 1) = 2 := by unfold wrap64; omega
    have w3 : wrap64 (2 + 1) = 3 := by unfold wrap64; omega
    have w4 : wrap64 (3 + 1) = 4 := by unfold wrap64; omega
    have w5 : wrap64 (4 + 1) = 5 := by unfold wrap64; omega
    cases inR (rc.length : Int) 1 2 <;> by_cases h8 : r4 - r3 ≤ 5 <;> cases inR (rp.length : Int) 1 2 <;> by_cases h9 : f6 - r7 ≤ 24 <;> simp [h8, h9, b2i, v2, v3, v4, v5, w2, w3, w4, w5]
  · rw [if_neg h, if_neg h]

theorem law_FnExactScore (x0 : S46) (hw0 : ok46 x0) (x1 : S77) (hw1 : ok77 x1) : laws_FnExactScore.F x0.f0 x0.f1 x0.f2 x0.f3 x0.f4 x0.f5 x0.f6.f0 x0.f6.f1 x1.f0.f0 x1.f0.f1 x1.f0.f2 x1.f0.f3 x1.f0.f4 x1.f1 x1.f2 x1.f3 = some true := by
  obtain ⟨_, _, ⟨m0, _⟩, _, _, ⟨m2, _⟩, _⟩ := hw0
  rw [laws_FnExactScore.F_eq]
  rcases szReport_is x0.f0 x0.f1 x0.f2 x0.f3 x0.f4 x0.f5 x0.f6.f0 x0.f6.f1 1048576 (by omega) m0 m2 with h | ⟨h, hl⟩
  · rw [h]; rfl
  · have n0 : x0.f2.length ≤ 1048576 := by omega
    have n2 : x0.f5.length ≤ 1048576 := by omega
    have n0' : x0.f2.length ≤ 4194304 := by omega
    have n2' : x0.f5.length ≤ 4194304 := by omega
    rw [h, Option.bind_some, if_neg (by omega)]
    simp [toReport_is _ _ _ _ _ _ _ _ n0 n2, toFind_is, spec_Score_is _ _ _ _ _ _ _ _ _ _ _ _ _ _ _ _ n0' n2', impl_Score_is _ _ _ _ _ _ _ _ _ _ _ _ _ _ _ _ n0' n2', eqReport_is _ _ _ _ _ _ _ _ n0' n2']

theorem FnExactScore (x0 : S46) (hw0 : ok46 x0) (x1 : S77) (hw1 : ok77 x1) : ∃ k, laws_FnExactScore.f k x0.f0 x0.f1 x0.f2 x0.f3 x0.f4 x0.f5 x0.f6.f0 x0.f6.f1 x1.f0.f0 x1.f0.f1 x1.f0.f2 x1.f0.f3 x1.f0.f4 x1.f1 x1.f2 x1.f3 = some true :=
  (laws_FnExactScore.F_co x0.f0 x0.f1 x0.f2 x0.f3 x0.f4 x0.f5 x0.f6.f0 x0.f6.f1 x1.f0.f0 x1.f0.f1 x1.f0.f2 x1.f0.f3 x1.f0.f4 x1.f1 x1.f2 x1.f3).rounds (law_FnExactScore x0 hw0 x1 hw1)
end Go.Proofs.Ytbbfelgojaioaaa.PFnExactScore.Pure
