/-
  The program's IsDoubt answers as the reference's does, for all arguments. It has no conditions.
-/
import Derived.Test.YtjokfllhbmodeaaShFnExactIsDoubt
import Derived.Test.YtjokfllhbmodeaaEqFnExactIsDoubt
import Derived.Test.YtjokfllhbmodeaaBase
set_option linter.unusedVariables false
set_option linter.unusedSimpArgs false
namespace Go.Proofs.Ytjokfllhbmodeaa.PFnExactIsDoubt.Pure
open Go.RowKit Go.Proofs.YtjokfllhbmodeaaW.PrintWords Go.Proofs.YtjokfllhbmodeaaW.PrintLast Go.Proofs.YtjokfllhbmodeaaW.PrintMore Go.Proofs.Ytjokfllhbmodeaa.PFnExactIsDoubt Go.Proofs.Ytjokfllhbmodeaa.Lim Go.Proofs.Ytjokfllhbmodeaa.Base
set_option maxRecDepth 100000

theorem szIntS (l : List Int) (a : Int) (ha : 0 ≤ a ∧ a ≤ 1048576) (hl : l.length ≤ maxLen) : laws_szIntS.f l a = some (if a < (l.length : Int) then -1 else a - (l.length : Int)) := by
  simp only [maxLen] at hl
  unfold laws_szIntS.f
  rw [wrap_in _ (by omega)]
  by_cases h : a < (l.length : Int)
  · rw [if_pos (by omega), if_pos h]
  · rw [if_neg (by omega), if_neg h]

theorem szDoubt_is (c : List Int) (s : Int) (p : List Int) (h : Int) (hc : c.length ≤ maxLen) (hp : p.length ≤ maxLen) :
    laws_szDoubt.f c s p h 1048576 = some (-1) ∨ (laws_szDoubt.f c s p h 1048576 = some (1048576 - (c.length : Int) - (p.length : Int)) ∧ (c.length : Int) + (p.length : Int) ≤ 1048576) := by
  unfold laws_szDoubt.f
  rw [szIntS c 1048576 (by omega) hc, Option.bind_some]
  by_cases h1 : (1048576 : Int) < (c.length : Int)
  · left
    rw [if_pos h1]; rfl
  · rw [if_neg h1, if_neg (by omega), szIntS p _ (by omega) hp, Option.bind_some]
    by_cases h2 : (1048576 : Int) - (c.length : Int) < (p.length : Int)
    · left
      rw [if_pos h2]; rfl
    · right
      rw [if_neg h2, if_neg (by omega)]
      exact ⟨rfl, by omega⟩

theorem toIntS_l0 (l : List Int) (hn : l.length ≤ 1048576) : ∀ (d i : Nat) (acc : List Int), i + d = l.length → acc.length = l.length → acc.take i = (l.take i).map id → laws_toIntS.L0 l acc (i : Int) = some l
  | 0, i, acc, h, ha, ht => by
    rw [laws_toIntS.L0_eq, if_neg (by omega)]
    rw [List.take_of_length_le (by omega), List.take_of_length_le (by omega)] at ht
    rw [ht, List.map_id]
  | d + 1, i, acc, h, ha, ht => by
    have hi : i < l.length := by omega
    rw [laws_toIntS.L0_eq, if_pos (by omega), if_pos (by omega), if_pos (by omega), wrap_succ i (by omega)]
    refine toIntS_l0 l hn d (i + 1) _ (by omega) (by rw [List.length_set]; exact ha) ?_
    rw [Int.toNat_natCast]
    exact fill_step l id acc i ha hi ht _ (by simp [rd, hi])
theorem toIntS (l : List Int) (hn : l.length ≤ 1048576) : laws_toIntS.F l = some l := by
  rw [laws_toIntS.F_eq, if_pos (by omega), if_pos (by omega)]
  exact toIntS_l0 l hn l.length 0 _ (by omega) (by simp) (by simp)

theorem eqIntS_l0 (l : List Int) (hn : l.length ≤ 4194304) : ∀ (d i : Nat), i + d = l.length → laws_eqIntS.L0 l l (i : Int) = some true
  | 0, i, h => by rw [laws_eqIntS.L0_eq, if_neg (by omega)]
  | d + 1, i, h => by
    rw [laws_eqIntS.L0_eq, if_pos (by omega), if_pos (by omega), if_pos (by omega), if_pos rfl, wrap_succ i (by omega)]
    exact eqIntS_l0 l hn d (i + 1) (by omega)
theorem eqIntS (l : List Int) (hn : l.length ≤ 4194304) : laws_eqIntS.F l l = some true := by
  rw [laws_eqIntS.F_eq, if_pos rfl]
  exact eqIntS_l0 l hn l.length 0 (by omega)

theorem rdInt_at (l : List Int) (i : Nat) : rd l (i : Int) = l.getD i 0 := by simp [rd]
theorem dropInt (l : List Int) (i : Nat) (h : i < l.length) : l.drop i = rd l (i : Int) :: l.drop (i + 1) := by
  rw [rdInt_at, getD_get l i _ h]
  exact List.drop_eq_getElem_cons h

def okAsc (a b : Int) (l : List Int) (i : Nat) : Prop := inR (rd l i) a b = true ∧ ((i : Int) > 0 → rd l ((i : Int) - 1) < rd l i)
noncomputable def isAsc (l : List Int) (a b : Int) : Bool := allF (okAsc a b l) l.length 0

noncomputable def isDoubt (c : List Int) (s : Int) (p : List Int) (h : Int) : Bool := isAsc c 0 7 && inR s 0 50 && isAsc p 1 30 && decide ((p.length : Int) ≤ 9) && inR h 0 1000

theorem l1In (a b c : Int) : spec_l1In.f a b c = some (inR a b c) := by
  unfold spec_l1In.f inR
  by_cases h : b ≤ a <;> simp [h]

theorem spec_l7Ids_l0 (l : List Int) (a b : Int) (hn : l.length ≤ 4194304) : ∀ (d i : Nat), i + d = l.length → spec_l7Ids.L0 l a b (i : Int) = some (allF (okAsc a b l) l.length i)
  | 0, i, h => by rw [spec_l7Ids.L0_eq, if_neg (by omega), allF_end (by omega)]
  | d + 1, i, h => by
    have hi : i < l.length := by omega
    have ih := spec_l7Ids_l0 l a b hn d (i + 1) (by omega)
    rw [spec_l7Ids.L0_eq]
    simp only [wrap_succ i (by omega), wrap_pred i (by omega), ih, l1In, Option.bind_some]
    by_cases hp_ : okAsc a b l i
    · rw [allF_yes hp_]
      simp only [okAsc] at hp_
      obtain ⟨h1_, h2_⟩ := hp_
      repeat' split
      all_goals first
        | rfl
        | (exfalso; first | contradiction | omega)
    · rw [allF_no hi hp_]
      repeat' split
      all_goals first
        | rfl
        | (simp; done)
        | (exfalso; omega)
        | (exfalso; apply hp_; simp only [okAsc]; (repeat' constructor) <;> first | assumption | (intro _; omega) | omega)
theorem spec_l7Ids_is (l : List Int) (a b : Int) (hn : l.length ≤ 4194304) : spec_l7Ids.F l a b = some (isAsc l a b) := by
  rw [spec_l7Ids.F_eq]
  exact spec_l7Ids_l0 l a b hn l.length 0 (by omega)

theorem spec_IsDoubt_is (c : List Int) (s : Int) (p : List Int) (h : Int) (hc : c.length ≤ 4194304) (hp : p.length ≤ 4194304) : spec_IsDoubt.F c s p h = some (isDoubt c s p h) := by
  rw [spec_IsDoubt.F_eq, spec_l7Ids_is c 0 7 hc]
  simp only [l1In, spec_l7Ids_is p 1 30 hp, Option.bind_some, isDoubt]
  cases isAsc c 0 7 <;> cases inR s 0 50 <;> cases isAsc p 1 30 <;> by_cases hl : (p.length : Int) ≤ 9 <;> simp [hl]

theorem inRange (a b c : Int) : impl_InRange.f a b c = some (inR a b c) := by
  unfold impl_InRange.f inR
  by_cases h : b ≤ a <;> simp [h]

theorem impl_isAscending_l0 (l : List Int) (a b : Int) (hn : l.length ≤ 4194304) : ∀ (d i : Nat), i + d = l.length → impl_isAscending.L0 l a b l (l.length : Int) (i : Int) = some (allF (okAsc a b l) l.length i)
  | 0, i, h => by rw [impl_isAscending.L0_eq, if_neg (by omega), allF_end (by omega)]
  | d + 1, i, h => by
    have hi : i < l.length := by omega
    have ih := impl_isAscending_l0 l a b hn d (i + 1) (by omega)
    rw [impl_isAscending.L0_eq]
    simp only [wrap_succ i (by omega), wrap_pred i (by omega), ih, inRange, Option.bind_some]
    by_cases hp_ : okAsc a b l i
    · rw [allF_yes hp_]
      simp only [okAsc] at hp_
      obtain ⟨h1_, h2_⟩ := hp_
      repeat' split
      all_goals first
        | rfl
        | (exfalso; first | contradiction | omega)
    · rw [allF_no hi hp_]
      repeat' split
      all_goals first
        | rfl
        | (simp; done)
        | (exfalso; omega)
        | (exfalso; apply hp_; simp only [okAsc]; (repeat' constructor) <;> first | assumption | (intro _; omega) | omega)
theorem impl_isAscending_is (l : List Int) (a b : Int) (hn : l.length ≤ 4194304) : impl_isAscending.F l a b = some (isAsc l a b) := by
  rw [impl_isAscending.F_eq]
  exact impl_isAscending_l0 l a b hn l.length 0 (by omega)

theorem impl_IsDoubt_is (c : List Int) (s : Int) (p : List Int) (h : Int) (hc : c.length ≤ 4194304) (hp : p.length ≤ 4194304) : impl_IsDoubt.F c s p h = some (isDoubt c s p h) := by
  rw [impl_IsDoubt.F_eq, impl_isAscending_is c 0 7 hc]
  simp only [inRange, impl_isAscending_is p 1 30 hp, Option.bind_some, isDoubt]
  cases isAsc c 0 7 <;> cases inR s 0 50 <;> cases isAsc p 1 30 <;> by_cases hl : (p.length : Int) ≤ 9 <;> simp [hl]

theorem law_FnExactIsDoubt (x0 : S51) (hw0 : ok51 x0) : laws_FnExactIsDoubt.F x0.f0 x0.f1 x0.f2 x0.f3 = some true := by
  obtain ⟨⟨m0, _⟩, _, ⟨m2, _⟩, _⟩ := hw0
  rw [laws_FnExactIsDoubt.F_eq]
  rcases szDoubt_is x0.f0 x0.f1 x0.f2 x0.f3 m0 m2 with h | ⟨h, hl⟩
  · rw [h]; rfl
  · have n0 : x0.f0.length ≤ 1048576 := by omega
    have n2 : x0.f2.length ≤ 1048576 := by omega
    have n0' : x0.f0.length ≤ 4194304 := by omega
    have n2' : x0.f2.length ≤ 4194304 := by omega
    rw [h, Option.bind_some, if_neg (by omega)]
    simp [laws_toDoubt.F_eq, toIntS _ n0, toIntS _ n2, spec_IsDoubt_is _ _ _ _ n0' n2', impl_IsDoubt_is _ _ _ _ n0' n2', laws_eqDoubt.F_eq, eqIntS _ n0', eqIntS _ n2']

theorem FnExactIsDoubt (x0 : S51) (hw0 : ok51 x0) : ∃ k, laws_FnExactIsDoubt.f k x0.f0 x0.f1 x0.f2 x0.f3 = some true :=
  (laws_FnExactIsDoubt.F_co x0.f0 x0.f1 x0.f2 x0.f3).rounds (law_FnExactIsDoubt x0 hw0)
end Go.Proofs.Ytjokfllhbmodeaa.PFnExactIsDoubt.Pure
