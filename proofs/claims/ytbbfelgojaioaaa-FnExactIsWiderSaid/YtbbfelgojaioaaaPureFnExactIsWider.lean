/-
  The program's IsWider answers as the reference's does, for all arguments. It has no conditions.
-/
import Derived.Test.YtbbfelgojaioaaaShFnExactIsWider
import Derived.Test.YtbbfelgojaioaaaEqFnExactIsWider
import Derived.Test.YtbbfelgojaioaaaBase
set_option linter.unusedVariables false
set_option linter.unusedSimpArgs false
namespace Go.Proofs.Ytbbfelgojaioaaa.PFnExactIsWider.Pure
open Go.RowKit Go.Proofs.YtbbfelgojaioaaaW.PrintWords Go.Proofs.YtbbfelgojaioaaaW.PrintLast Go.Proofs.YtbbfelgojaioaaaW.PrintMore Go.Proofs.Ytbbfelgojaioaaa.PFnExactIsWider Go.Proofs.Ytbbfelgojaioaaa.Lim Go.Proofs.Ytbbfelgojaioaaa.Base
set_option maxRecDepth 100000

theorem szIntS (l : List Int) (a : Int) (ha : 0 ≤ a ∧ a ≤ 1048576) (hl : l.length ≤ maxLen) : laws_szIntS.f l a = some (if a < (l.length : Int) then -1 else a - (l.length : Int)) := by
  simp only [maxLen] at hl
  unfold laws_szIntS.f
  rw [wrap_in _ (by omega)]
  by_cases h : a < (l.length : Int)
  · rw [if_pos (by omega), if_pos h]
  · rw [if_neg (by omega), if_neg h]

theorem szReport_is (r0 r1 : Int) (rc : List Int) (r3 r4 : Int) (rp : List Int) (r6 r7 : Int) (a : Int) (ha : 0 ≤ a ∧ a ≤ 1048576) (hc : rc.length ≤ maxLen) (hp : rp.length ≤ maxLen) :
    laws_szReport.f r0 r1 rc r3 r4 rp r6 r7 a = some (-1) ∨ (laws_szReport.f r0 r1 rc r3 r4 rp r6 r7 a = some (a - (rc.length : Int) - (rp.length : Int)) ∧ (rc.length : Int) + (rp.length : Int) ≤ a) := by
  unfold laws_szReport.f
  rw [szIntS rc a ha hc, Option.bind_some]
  by_cases h1 : a < (rc.length : Int)
  · left
    rw [if_pos h1]; rfl
  · rw [if_neg h1, if_neg (by omega), szIntS rp _ (by omega) hp, Option.bind_some]
    by_cases h2 : a - (rc.length : Int) < (rp.length : Int)
    · left
      rw [if_pos h2]; rfl
    · right
      rw [if_neg h2, if_neg (by omega)]
      exact ⟨rfl, by omega⟩

theorem toIntS_l0 (l : List Int) (hn : l.length ≤ 1048576) : ∀ (d i : Nat) (acc : List Int), i + d = l.length → acc.length = l.length → acc.take i = (l.take i).map id → laws_toIntS.L0 l acc (i : Int) = some l
  | 0, i, acc, h, ha, ht => by
    rw [laws_toIntS.L0_eq, if_neg (by omega)]
    rw [List.take_of_length_le (by omega), List.take_of_length_le (by omega)] at ht
    rw [ht, List.map_id]
  | d + 1, i, acc, h, ha, ht => by
    have hi : i < l.length := by omega
    rw [laws_toIntS.L0_eq, if_pos (by omega), if_pos (by omega), if_pos (by omega), wrap_succ i (by omega)]
    refine toIntS_l0 l hn d (i + 1) _ (by omega) (by rw [List.length_set]; exact ha) ?_
    rw [Int.toNat_natCast]
    exact fill_step l id acc i ha hi ht _ (by simp [rd, hi])
theorem toIntS (l : List Int) (hn : l.length ≤ 1048576) : laws_toIntS.F l = some l := by
  rw [laws_toIntS.F_eq, if_pos (by omega), if_pos (by omega)]
  exact toIntS_l0 l hn l.length 0 _ (by omega) (by simp) (by simp)

theorem toReport_is (r0 r1 : Int) (rc : List Int) (r3 r4 : Int) (rp : List Int) (r6 r7 : Int) (hc : rc.length ≤ 1048576) (hp : rp.length ≤ 1048576) : laws_toReport.F r0 r1 rc r3 r4 rp r6 r7 = some (r0, r1, rc, r3, r4, rp, r6, r7) := by
  rw [laws_toReport.F_eq, toIntS _ hc, toIntS _ hp]
  rfl

theorem eqIntS_l0 (l : List Int) (hn : l.length ≤ 4194304) : ∀ (d i : Nat), i + d = l.length → laws_eqIntS.L0 l l (i : Int) = some true
  | 0, i, h => by rw [laws_eqIntS.L0_eq, if_neg (by omega)]
  | d + 1, i, h => by
    rw [laws_eqIntS.L0_eq, if_pos (by omega), if_pos (by omega), if_pos (by omega), if_pos rfl, wrap_succ i (by omega)]
    exact eqIntS_l0 l hn d (i + 1) (by omega)
theorem eqIntS (l : List Int) (hn : l.length ≤ 4194304) : laws_eqIntS.F l l = some true := by
  rw [laws_eqIntS.F_eq, if_pos rfl]
  exact eqIntS_l0 l hn l.length 0 (by omega)

theorem eqReport_is (r0 r1 : Int) (rc : List Int) (r3 r4 : Int) (rp : List Int) (r6 r7 : Int) (hc : rc.length ≤ 4194304) (hp : rp.length ≤ 4194304) : laws_eqReport.F r0 r1 rc r3 r4 rp r6 r7 r0 r1 rc r3 r4 rp r6 r7 = some true := by
  rw [laws_eqReport.F_eq]
  simp [eqIntS _ hc, eqIntS _ hp, laws_eqSpan.f]

theorem rdInt_at (l : List Int) (i : Nat) : rd l (i : Int) = l.getD i 0 := by simp [rd]
theorem dropInt (l : List Int) (i : Nat) (h : i < l.length) : l.drop i = rd l (i : Int) :: l.drop (i + 1) := by
  rw [rdInt_at, getD_get l i _ h]
  exact List.drop_eq_getElem_cons h

def okAsc (a b : Int) (l : List Int) (i : Nat) : Prop := inR (rd l i) a b = true ∧ ((i : Int) > 0 → rd l ((i : Int) - 1) < rd l i)
noncomputable def isAsc (l : List Int) (a b : Int) : Bool := allF (okAsc a b l) l.length 0

noncomputable def isReport (r0 r1 : Int) (rc : List Int) (r3 r4 : Int) (rp : List Int) (r6 r7 : Int) : Bool := inR r0 1 999 && inR r1 1 8 && isAsc rc 0 7 && decide (1 ≤ r3) && decide (r3 ≤ r4) && decide (r4 ≤ 50) && isAsc rp 1 30 && decide ((rp.length : Int) ≤ 10) && (inR r6 0 100000 && inR r7 0 100000 && decide (r6 ≤ r7))
noncomputable def isFind (f0 f1 f2 f3 f4 f5 f6 f7 : Int) : Bool := (inR f0 1 999 && inR f1 1 8 && inR f2 0 7 && inR f3 1 50 && inR f4 0 10000000) && inR f5 1 30 && inR f6 0 100000 && inR f7 0 999

def allow (l : List Int) (n : Int) : Bool := decide (l.length = 0) || decide (n ∈ l)

def wider (a b : List Int) : Bool := decide (a.length = 0) || (decide (0 < b.length) && b.all (fun n => decide (n ∈ a)))
noncomputable def isWider (r0 r1 : Int) (rc : List Int) (r3 r4 : Int) (rp : List Int) (r6 r7 : Int) (q0 q1 : Int) (qc : List Int) (q3 q4 : Int) (qp : List Int) (q6 q7 : Int) : Bool := isReport r0 r1 rc r3 r4 rp r6 r7 && isReport q0 q1 qc q3 q4 qp q6 q7 && decide (r1 = q1) && wider rc qc && decide (r3 ≤ q3) && decide (q4 ≤ r4) && wider rp qp && decide (r6 ≤ q6)

theorem l1In (a b c : Int) : spec_l1In.f a b c = some (inR a b c) := by
  unfold spec_l1In.f inR
  by_cases h : b ≤ a <;> simp [h]

theorem spec_l7Ids_l0 (l : List Int) (a b : Int) (hn : l.length ≤ 4194304) : ∀ (d i : Nat), i + d = l.length → spec_l7Ids.L0 l a b (i : Int) = some (allF (okAsc a b l) l.length i)
  | 0, i, h => by rw [spec_l7Ids.L0_eq, if_neg (by omega), allF_end (by omega)]
  | d + 1, i, h => by
    have hi : i < l.length := by omega
    have ih := spec_l7Ids_l0 l a b hn d (i + 1) (by omega)
    rw [spec_l7Ids.L0_eq]
    simp only [wrap_succ i (by omega), wrap_pred i (by omega), ih, l1In, Option.bind_some]
    by_cases hp_ : okAsc a b l i
    · rw [allF_yes hp_]
      simp only [okAsc] at hp_
      obtain ⟨h1_, h2_⟩ := hp_
      repeat' split
      all_goals first
        | rfl
        | (exfalso; first | contradiction | omega)
    · rw [allF_no hi hp_]
      repeat' split
      all_goals first
        | rfl
        | (simp; done)
        | (exfalso; first | contradiction | omega)
        | (exfalso; apply hp_; simp only [okAsc]; (repeat' constructor) <;> first | assumption | (intro _; omega) | omega)
theorem spec_l7Ids_is (l : List Int) (a b : Int) (hn : l.length ≤ 4194304) : spec_l7Ids.F l a b = some (isAsc l a b) := by
  rw [spec_l7Ids.F_eq]
  exact spec_l7Ids_l0 l a b hn l.length 0 (by omega)

theorem spec_IsSpan_is (a b : Int) : spec_IsSpan.f a b = some (inR a 0 100000 && inR b 0 100000 && decide (a ≤ b)) := by
  unfold spec_IsSpan.f
  simp only [l1In, Option.bind_some]
  cases inR a 0 100000 <;> cases inR b 0 100000 <;> simp

theorem spec_IsReport_is (r0 r1 : Int) (rc : List Int) (r3 r4 : Int) (rp : List Int) (r6 r7 : Int) (hc : rc.length ≤ 4194304) (hp : rp.length ≤ 4194304) : spec_IsReport.F r0 r1 rc r3 r4 rp r6 r7 = some (isReport r0 r1 rc r3 r4 rp r6 r7) := by
  rw [spec_IsReport.F_eq]
  simp only [l1In, spec_l7Ids_is rc 0 7 hc, spec_l7Ids_is rp 1 30 hp, spec_IsSpan_is, Option.bind_some, isReport]
  generalize (inR r6 0 100000 && inR r7 0 100000 && decide (r6 ≤ r7)) = s
  cases inR r0 1 999 <;> cases inR r1 1 8 <;> cases isAsc rc 0 7 <;> cases isAsc rp 1 30 <;> by_cases h1 : 1 ≤ r3 <;> by_cases h2 : r3 ≤ r4 <;> by_cases h3 : r4 ≤ 50 <;> by_cases h4 : (rp.length : Int) ≤ 10 <;> simp [h1, h2, h3, h4]

theorem spec_l8Has_l0 (l : List Int) (n : Int) (hn : l.length ≤ 4194304) : ∀ (d i : Nat), i + d = l.length → spec_l8Has.L0 l n (i : Int) = some (decide (n ∈ l.drop i))
  | 0, i, h => by
    rw [spec_l8Has.L0_eq, if_neg (by omega), List.drop_of_length_le (by omega)]
    simp
  | d + 1, i, h => by
    rw [spec_l8Has.L0_eq, if_pos (by omega), if_pos (by omega), dropInt l i (by omega), wrap_succ i (by omega), spec_l8Has_l0 l n hn d (i + 1) (by omega)]
    by_cases c : rd l (i : Int) = n
    · rw [if_pos c]
      simp [c]
    · rw [if_neg c]
      have c' : ¬ n = rd l (i : Int) := fun e => c e.symm
      simp [c']
theorem spec_l8Has_is (l : List Int) (n : Int) (hn : l.length ≤ 4194304) : spec_l8Has.F l n = some (decide (n ∈ l)) := by
  rw [spec_l8Has.F_eq]
  exact spec_l8Has_l0 l n hn l.length 0 (by omega)

theorem spec_l9Wider_l0 (a b : List Int) (ha : a.length ≤ 4194304) (hb : b.length ≤ 4194304) : ∀ (d i : Nat), i + d = b.length → spec_l9Wider.L0 a b (i : Int) = some (decide (0 < b.length) && (b.drop i).all (fun n => decide (n ∈ a)))
  | 0, i, h => by
    rw [spec_l9Wider.L0_eq, if_neg (by omega), List.drop_of_length_le (by omega), List.all_nil, Bool.and_true]
    congr 1
    rw [Bool.eq_iff_iff, decide_eq_true_iff, decide_eq_true_iff]
    omega
  | d + 1, i, h => by
    rw [spec_l9Wider.L0_eq, if_pos (by omega), if_pos (by omega), spec_l8Has_is a _ ha, Option.bind_some, wrap_succ i (by omega), spec_l9Wider_l0 a b ha hb d (i + 1) (by omega), dropInt b i (by omega), List.all_cons]
    by_cases c : rd b (i : Int) ∈ a
    · rw [decide_eq_true c, if_pos rfl, Bool.true_and]
    · rw [decide_eq_false c, if_neg (by decide), Bool.false_and, Bool.and_false]
theorem spec_l9Wider_is (a b : List Int) (ha : a.length ≤ 4194304) (hb : b.length ≤ 4194304) : spec_l9Wider.F a b = some (wider a b) := by
  rw [spec_l9Wider.F_eq, wider]
  by_cases h : a.length = 0
  · rw [if_pos (by omega), decide_eq_true h, Bool.true_or]
  · rw [if_neg (by omega), decide_eq_false h, Bool.false_or]
    have := spec_l9Wider_l0 a b ha hb b.length 0 (by omega)
    rw [List.drop_zero] at this
    exact this
theorem spec_IsWider_is (r0 r1 : Int) (rc : List Int) (r3 r4 : Int) (rp : List Int) (r6 r7 : Int) (q0 q1 : Int) (qc : List Int) (q3 q4 : Int) (qp : List Int) (q6 q7 : Int) (hc : rc.length ≤ 4194304) (hp : rp.length ≤ 4194304) (hqc : qc.length ≤ 4194304) (hqp : qp.length ≤ 4194304) : spec_IsWider.F r0 r1 rc r3 r4 rp r6 r7 q0 q1 qc q3 q4 qp q6 q7 = some (isWider r0 r1 rc r3 r4 rp r6 r7 q0 q1 qc q3 q4 qp q6 q7) := by
  rw [spec_IsWider.F_eq, spec_IsReport_is r0 r1 rc r3 r4 rp r6 r7 hc hp, spec_IsReport_is q0 q1 qc q3 q4 qp q6 q7 hqc hqp, spec_l9Wider_is rc qc hc hqc, spec_l9Wider_is rp qp hp hqp, isWider]
  simp only [Option.bind_some]
  cases isReport r0 r1 rc r3 r4 rp r6 r7 <;> cases isReport q0 q1 qc q3 q4 qp q6 q7 <;> by_cases h1 : r1 = q1 <;> cases wider rc qc <;> by_cases h2 : r3 ≤ q3 <;> by_cases h3 : q4 ≤ r4 <;> cases wider rp qp <;> simp [h1, h2, h3]

theorem inRange (a b c : Int) : impl_InRange.f a b c = some (inR a b c) := by
  unfold impl_InRange.f inR
  by_cases h : b ≤ a <;> simp [h]

theorem impl_isAscending_l0 (l : List Int) (a b : Int) (hn : l.length ≤ 4194304) : ∀ (d i : Nat), i + d = l.length → impl_isAscending.L0 l a b l (l.length : Int) (i : Int) = some (allF (okAsc a b l) l.length i)
  | 0, i, h => by rw [impl_isAscending.L0_eq, if_neg (by omega), allF_end (by omega)]
  | d + 1, i, h => by
    have hi : i < l.length := by omega
    have ih := impl_isAscending_l0 l a b hn d (i + 1) (by omega)
    rw [impl_isAscending.L0_eq]
    simp only [wrap_succ i (by omega), wrap_pred i (by omega), ih, inRange, Option.bind_some]
    by_cases hp_ : okAsc a b l i
    · rw [allF_yes hp_]
      simp only [okAsc] at hp_
      obtain ⟨h1_, h2_⟩ := hp_
      repeat' split
      all_goals first
        | rfl
        | (exfalso; first | contradiction | omega)
    · rw [allF_no hi hp_]
      repeat' split
      all_goals first
        | rfl
        | (simp; done)
        | (exfalso; first | contradiction | omega)
        | (exfalso; apply hp_; simp only [okAsc]; (repeat' constructor) <;> first | assumption | (intro _; omega) | omega)
theorem impl_isAscending_is (l : List Int) (a b : Int) (hn : l.length ≤ 4194304) : impl_isAscending.F l a b = some (isAsc l a b) := by
  rw [impl_isAscending.F_eq]
  exact impl_isAscending_l0 l a b hn l.length 0 (by omega)

theorem impl_IsSpan_is (a b : Int) : impl_IsSpan.f a b = some (inR a 0 100000 && inR b 0 100000 && decide (a ≤ b)) := by
  unfold impl_IsSpan.f
  simp only [inRange, Option.bind_some]
  cases inR a 0 100000 <;> cases inR b 0 100000 <;> simp

theorem impl_IsReport_is (r0 r1 : Int) (rc : List Int) (r3 r4 : Int) (rp : List Int) (r6 r7 : Int) (hc : rc.length ≤ 4194304) (hp : rp.length ≤ 4194304) : impl_IsReport.F r0 r1 rc r3 r4 rp r6 r7 = some (isReport r0 r1 rc r3 r4 rp r6 r7) := by
  rw [impl_IsReport.F_eq]
  simp only [inRange, impl_isAscending_is rc 0 7 hc, impl_isAscending_is rp 1 30 hp, impl_IsSpan_is, Option.bind_some, isReport]
  generalize (inR r6 0 100000 && inR r7 0 100000 && decide (r6 ≤ r7)) = s
  cases inR r0 1 999 <;> cases inR r1 1 8 <;> cases isAsc rc 0 7 <;> cases isAsc rp 1 30 <;> by_cases h1 : 1 ≤ r3 <;> by_cases h2 : r3 ≤ r4 <;> by_cases h3 : r4 ≤ 50 <;> by_cases h4 : (rp.length : Int) ≤ 10 <;> simp [h1, h2, h3, h4]

theorem slices_Index_l0 (l : List Int) (n : Int) (hn : l.length ≤ 4194304) : ∀ (d i : Nat), i + d = l.length → ∃ r, slices_Index_int_int.L0 l n (l.length : Int) (i : Int) = some r ∧ (0 ≤ r ↔ n ∈ l.drop i)
  | 0, i, h => by
    refine ⟨-1, by rw [slices_Index_int_int.L0_eq, if_neg (by omega)], ?_⟩
    rw [List.drop_of_length_le (by omega)]
    simp
  | d + 1, i, h => by
    rw [slices_Index_int_int.L0_eq, if_pos (by omega), if_pos (by omega), if_pos (by omega), dropInt l i (by omega), wrap_succ i (by omega)]
    by_cases c : n = rd l (i : Int)
    · rw [if_pos c]
      exact ⟨_, rfl, ⟨fun _ => by rw [← c]; exact List.mem_cons_self, fun _ => by omega⟩⟩
    · rw [if_neg c]
      obtain ⟨r, hr, hi⟩ := slices_Index_l0 l n hn d (i + 1) (by omega)
      refine ⟨r, hr, hi.trans ⟨fun hm => List.mem_cons_of_mem _ hm, fun hm => ?_⟩⟩
      rcases List.mem_cons.1 hm with he | he
      · exact absurd he c
      · exact he
theorem slices_Contains_is (l : List Int) (n : Int) (hn : l.length ≤ 4194304) : slices_Contains_int_int.F l n = some (decide (n ∈ l)) := by
  obtain ⟨r, hr, hi⟩ := slices_Index_l0 l n hn l.length 0 (by omega)
  rw [slices_Contains_int_int.F_eq, slices_Index_int_int.F_eq]
  have hr' : slices_Index_int_int.L0 l n (l.length : Int) 0 = some r := hr
  rw [hr', Option.bind_some]
  congr 1
  rw [Bool.eq_iff_iff, decide_eq_true_iff, decide_eq_true_iff]
  exact hi

theorem impl_allowsAll_l0 (a b : List Int) (ha : a.length ≤ 4194304) (hb : b.length ≤ 4194304) : ∀ (d i : Nat), i + d = b.length → impl_allowsAll.L0 a b (b.length : Int) (i : Int) = some ((b.drop i).all (fun n => decide (n ∈ a)))
  | 0, i, h => by rw [impl_allowsAll.L0_eq, if_neg (by omega), List.drop_of_length_le (by omega)]; rfl
  | d + 1, i, h => by
    rw [impl_allowsAll.L0_eq, if_pos (by omega), if_pos (by omega), if_pos (by omega), slices_Contains_is a _ ha, Option.bind_some, wrap_succ i (by omega), impl_allowsAll_l0 a b ha hb d (i + 1) (by omega), dropInt b i (by omega), List.all_cons]
    by_cases c : rd b (i : Int) ∈ a
    · rw [decide_eq_true c, if_pos rfl, Bool.true_and]
    · rw [decide_eq_false c, if_neg (by decide), Bool.false_and]
theorem impl_allowsAll_is (a b : List Int) (ha : a.length ≤ 4194304) (hb : b.length ≤ 4194304) : impl_allowsAll.F a b = some (wider a b) := by
  rw [impl_allowsAll.F_eq, wider]
  by_cases h : a.length = 0
  · rw [if_pos (by omega), impl_allowsAll.J0_eq, if_pos rfl, decide_eq_true h, Bool.true_or, h]; rfl
  · rw [if_neg (by omega), impl_allowsAll.J0_eq, decide_eq_false h, Bool.false_or]
    by_cases h2 : b.length = 0
    · have e1 : ((a.length : Int) == 0) = false := by rw [beq_eq_false_iff_ne]; omega
      rw [if_pos (by rw [beq_iff_eq]; omega), decide_eq_false (by omega), Bool.false_and, e1]
    · rw [if_neg (by rw [beq_iff_eq]; omega), decide_eq_true (by omega), Bool.true_and]
      have := impl_allowsAll_l0 a b ha hb b.length 0 (by omega)
      rw [List.drop_zero] at this
      exact this
theorem impl_IsWider_is (r0 r1 : Int) (rc : List Int) (r3 r4 : Int) (rp : List Int) (r6 r7 : Int) (q0 q1 : Int) (qc : List Int) (q3 q4 : Int) (qp : List Int) (q6 q7 : Int) (hc : rc.length ≤ 4194304) (hp : rp.length ≤ 4194304) (hqc : qc.length ≤ 4194304) (hqp : qp.length ≤ 4194304) : impl_IsWider.F r0 r1 rc r3 r4 rp r6 r7 q0 q1 qc q3 q4 qp q6 q7 = some (isWider r0 r1 rc r3 r4 rp r6 r7 q0 q1 qc q3 q4 qp q6 q7) := by
  rw [impl_IsWider.F_eq, impl_IsReport_is r0 r1 rc r3 r4 rp r6 r7 hc hp, impl_IsReport_is q0 q1 qc q3 q4 qp q6 q7 hqc hqp, impl_allowsAll_is rc qc hc hqc, impl_allowsAll_is rp qp hp hqp, isWider]
  simp only [Option.bind_some]
  cases isReport r0 r1 rc r3 r4 rp r6 r7 <;> cases isReport q0 q1 qc q3 q4 qp q6 q7 <;> by_cases h1 : r1 = q1 <;> cases wider rc qc <;> by_cases h2 : r3 ≤ q3 <;> by_cases h3 : q4 ≤ r4 <;> cases wider rp qp <;> simp [h1, h2, h3]

theorem law_FnExactIsWider (x0 : S46) (hw0 : ok46 x0) (x1 : S46) (hw1 : ok46 x1) : laws_FnExactIsWider.F x0.f0 x0.f1 x0.f2 x0.f3 x0.f4 x0.f5 x0.f6.f0 x0.f6.f1 x1.f0 x1.f1 x1.f2 x1.f3 x1.f4 x1.f5 x1.f6.f0 x1.f6.f1 = some true := by
  obtain ⟨_, _, ⟨m0, _⟩, _, _, ⟨m2, _⟩, _⟩ := hw0
  obtain ⟨_, _, ⟨k0, _⟩, _, _, ⟨k2, _⟩, _⟩ := hw1
  rw [laws_FnExactIsWider.F_eq]
  rcases szReport_is x0.f0 x0.f1 x0.f2 x0.f3 x0.f4 x0.f5 x0.f6.f0 x0.f6.f1 1048576 (by omega) m0 m2 with h | ⟨h, hl⟩
  · rw [h]; rfl
  · rw [h, Option.bind_some, if_neg (by omega)]
    rcases szReport_is x1.f0 x1.f1 x1.f2 x1.f3 x1.f4 x1.f5 x1.f6.f0 x1.f6.f1 (1048576 - (x0.f2.length : Int) - (x0.f5.length : Int)) (by omega) k0 k2 with h' | ⟨h', hl'⟩
    · rw [h']; rfl
    · have n0 : x0.f2.length ≤ 1048576 := by omega
      have n2 : x0.f5.length ≤ 1048576 := by omega
      have p0 : x1.f2.length ≤ 1048576 := by omega
      have p2 : x1.f5.length ≤ 1048576 := by omega
      have n0' : x0.f2.length ≤ 4194304 := by omega
      have n2' : x0.f5.length ≤ 4194304 := by omega
      have p0' : x1.f2.length ≤ 4194304 := by omega
      have p2' : x1.f5.length ≤ 4194304 := by omega
      rw [h', Option.bind_some, if_neg (by omega)]
      simp [toReport_is x0.f0 x0.f1 x0.f2 x0.f3 x0.f4 x0.f5 x0.f6.f0 x0.f6.f1 n0 n2, toReport_is x1.f0 x1.f1 x1.f2 x1.f3 x1.f4 x1.f5 x1.f6.f0 x1.f6.f1 p0 p2, spec_IsWider_is x0.f0 x0.f1 x0.f2 x0.f3 x0.f4 x0.f5 x0.f6.f0 x0.f6.f1 x1.f0 x1.f1 x1.f2 x1.f3 x1.f4 x1.f5 x1.f6.f0 x1.f6.f1 n0' n2' p0' p2', impl_IsWider_is x0.f0 x0.f1 x0.f2 x0.f3 x0.f4 x0.f5 x0.f6.f0 x0.f6.f1 x1.f0 x1.f1 x1.f2 x1.f3 x1.f4 x1.f5 x1.f6.f0 x1.f6.f1 n0' n2' p0' p2', eqReport_is x0.f0 x0.f1 x0.f2 x0.f3 x0.f4 x0.f5 x0.f6.f0 x0.f6.f1 n0' n2', eqReport_is x1.f0 x1.f1 x1.f2 x1.f3 x1.f4 x1.f5 x1.f6.f0 x1.f6.f1 p0' p2']

theorem FnExactIsWider (x0 : S46) (hw0 : ok46 x0) (x1 : S46) (hw1 : ok46 x1) : ∃ k, laws_FnExactIsWider.f k x0.f0 x0.f1 x0.f2 x0.f3 x0.f4 x0.f5 x0.f6.f0 x0.f6.f1 x1.f0 x1.f1 x1.f2 x1.f3 x1.f4 x1.f5 x1.f6.f0 x1.f6.f1 = some true :=
  (laws_FnExactIsWider.F_co x0.f0 x0.f1 x0.f2 x0.f3 x0.f4 x0.f5 x0.f6.f0 x0.f6.f1 x1.f0 x1.f1 x1.f2 x1.f3 x1.f4 x1.f5 x1.f6.f0 x1.f6.f1).rounds (law_FnExactIsWider x0 hw0 x1 hw1)
end Go.Proofs.Ytbbfelgojaioaaa.PFnExactIsWider.Pure
