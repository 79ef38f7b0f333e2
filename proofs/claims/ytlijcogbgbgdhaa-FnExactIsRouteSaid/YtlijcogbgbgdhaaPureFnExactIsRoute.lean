/-
  The program's IsRoute answers as the reference's does, for all arguments. It has no conditions.
-/
import Derived.Test.YtlijcogbgbgdhaaShFnExactIsRoute
import Derived.Test.YtlijcogbgbgdhaaEqFnExactIsRoute
import Derived.Test.YtlijcogbgbgdhaaBase
set_option linter.unusedVariables false
set_option linter.unusedSimpArgs false
namespace Go.Proofs.Ytlijcogbgbgdhaa.PFnExactIsRoute.Pure
open Go.RowKit Go.Proofs.YtlijcogbgbgdhaaW.PrintWords Go.Proofs.YtlijcogbgbgdhaaW.PrintLast Go.Proofs.YtlijcogbgbgdhaaW.PrintMore Go.Proofs.Ytlijcogbgbgdhaa.PFnExactIsRoute Go.Proofs.Ytlijcogbgbgdhaa.Lim Go.Proofs.Ytlijcogbgbgdhaa.Base
set_option maxRecDepth 100000

theorem szStopS (l : List S83) (a : Int) (ha : 0 ≤ a ∧ a ≤ 1048576) (hl : l.length ≤ maxLen) : laws_szStopS.f l a = some (if a < (l.length : Int) then -1 else a - (l.length : Int)) := by
  simp only [maxLen] at hl
  unfold laws_szStopS.f
  rw [wrap_in _ (by omega)]
  by_cases h : a < (l.length : Int)
  · rw [if_pos (by omega), if_pos h]
  · rw [if_neg (by omega), if_neg h]

def cvStop (y : S83) : S81 := ⟨y.f0, y.f1, y.f2⟩
theorem toStopS_l0 (l : List S83) (hn : l.length ≤ 1048576) : ∀ (d i : Nat) (acc : List S81), i + d = l.length → acc.length = l.length → acc.take i = (l.take i).map cvStop → laws_toStopS.L0 l acc (i : Int) = some (l.map cvStop)
  | 0, i, acc, h, ha, ht => by
    rw [laws_toStopS.L0_eq, if_neg (by omega)]
    rw [List.take_of_length_le (by omega), List.take_of_length_le (by omega)] at ht
    rw [ht]
  | d + 1, i, acc, h, ha, ht => by
    have hi : i < l.length := by omega
    rw [laws_toStopS.L0_eq, if_pos (by omega), if_pos (by omega)]
    simp only [laws_toStop.f, Option.bind_some, wrap_succ i (by omega)]
    rw [if_pos (by omega)]
    refine toStopS_l0 l hn d (i + 1) _ (by omega) (by rw [List.length_set]; exact ha) ?_
    rw [Int.toNat_natCast]
    exact fill_step l cvStop acc i ha hi ht _ (by simp [rd_T83, cvStop, hi])
theorem toStopS (l : List S83) (hn : l.length ≤ 1048576) : laws_toStopS.F l = some (l.map cvStop) := by
  rw [laws_toStopS.F_eq, if_pos (by omega), if_pos (by omega)]
  exact toStopS_l0 l hn l.length 0 _ (by omega) (by simp) (by simp)

theorem eqStopS_l0 (l : List S81) (hn : l.length ≤ 1048576) : ∀ (d i : Nat), i + d = l.length → laws_eqStopS.L0 l l (i : Int) = some true
  | 0, i, h => by rw [laws_eqStopS.L0_eq, if_neg (by omega)]
  | d + 1, i, h => by
    rw [laws_eqStopS.L0_eq, if_pos (by omega), if_pos (by omega), if_pos (by omega)]
    simp only [laws_eqStop.f, if_true, Option.bind_some, wrap_succ i (by omega)]
    exact eqStopS_l0 l hn d (i + 1) (by omega)
theorem eqStopS (l : List S81) (hn : l.length ≤ 1048576) : laws_eqStopS.F l l = some true := by
  rw [laws_eqStopS.F_eq, if_pos rfl]
  exact eqStopS_l0 l hn l.length 0 (by omega)

def okStop (l : List S81) (i : Nat) : Prop := inR (rd_T81 l i).f0 1 30 = true ∧ ¬ (rd_T81 l i).f1 < 0 ∧ ¬ (rd_T81 l i).f1 > (rd_T81 l i).f2 ∧ ¬ (rd_T81 l i).f2 > 100000 ∧ ((i : Int) > 0 → ¬ (rd_T81 l i).f1 < (rd_T81 l ((i : Int) - 1)).f2)
noncomputable def isRoute (l : List S81) : Bool := allF (okStop l) l.length 0 && inR (l.length : Int) 1 10

theorem rdStop_at (l : List S81) (i : Nat) : rd_T81 l (i : Int) = l.getD i z81 := by simp [rd_T81]
theorem dropStop (l : List S81) (i : Nat) (h : i < l.length) : l.drop i = rd_T81 l (i : Int) :: l.drop (i + 1) := by
  rw [rdStop_at, getD_get l i _ h]
  exact List.drop_eq_getElem_cons h

theorem l1In (a b c : Int) : spec_l1In.f a b c = some (inR a b c) := by
  unfold spec_l1In.f inR
  by_cases h : b ≤ a <;> simp [h]

theorem spec_IsRoute_l0 (l : List S81) (hn : l.length ≤ 1048576) : ∀ (d i : Nat), i + d = l.length → spec_IsRoute.L0 l (i : Int) = some (allF (okStop l) l.length i && inR (l.length : Int) 1 10)
  | 0, i, h => by rw [spec_IsRoute.L0_eq, if_neg (by omega), allF_end (by omega)]; first | done | rfl | simp [l1In, inR]
  | d + 1, i, h => by
    have hi : i < l.length := by omega
    have ih := spec_IsRoute_l0 l hn d (i + 1) (by omega)
    rw [spec_IsRoute.L0_eq]
    simp only [wrap_succ i (by omega), wrap_pred i (by omega), ih, l1In, Option.bind_some]
    by_cases hp_ : okStop l i
    · rw [allF_yes hp_]
      simp only [okStop] at hp_
      obtain ⟨h1_, h2_, h3_, h4_, h5_⟩ := hp_
      repeat' split
      all_goals first
        | rfl
        | (exfalso; first | contradiction | omega)
    · rw [allF_no hi hp_]
      repeat' split
      all_goals first
        | rfl
        | (simp; done)
        | (exfalso; omega)
        | (exfalso; apply hp_; simp only [okStop]; (repeat' constructor) <;> first | assumption | (intro _; omega) | omega)

theorem spec_IsRoute_is (l : List S81) (hn : l.length ≤ 1048576) : spec_IsRoute.F l = some (isRoute l) := by
  rw [spec_IsRoute.F_eq, isRoute]
  exact spec_IsRoute_l0 l hn l.length 0 (by omega)

theorem inRange (a b c : Int) : impl_InRange.f a b c = some (inR a b c) := by
  unfold impl_InRange.f inR
  by_cases h : b ≤ a <;> simp [h]

theorem impl_IsRoute_l0 (l : List S81) (hn : l.length ≤ 1048576) : ∀ (d i : Nat), i + d = l.length → impl_IsRoute.L0 l l (l.length : Int) (i : Int) = some (allF (okStop l) l.length i)
  | 0, i, h => by rw [impl_IsRoute.L0_eq, if_neg (by omega), allF_end (by omega)]; first | done | rfl | simp [inRange, inR]
  | d + 1, i, h => by
    have hi : i < l.length := by omega
    have ih := impl_IsRoute_l0 l hn d (i + 1) (by omega)
    rw [impl_IsRoute.L0_eq]
    simp only [wrap_succ i (by omega), wrap_pred i (by omega), ih, inRange, Option.bind_some]
    by_cases hp_ : okStop l i
    · rw [allF_yes hp_]
      simp only [okStop] at hp_
      obtain ⟨h1_, h2_, h3_, h4_, h5_⟩ := hp_
      repeat' split
      all_goals first
        | rfl
        | (exfalso; first | contradiction | omega)
    · rw [allF_no hi hp_]
      repeat' split
      all_goals first
        | rfl
        | (simp; done)
        | (exfalso; omega)
        | (exfalso; apply hp_; simp only [okStop]; (repeat' constructor) <;> first | assumption | (intro _; omega) | omega)

theorem impl_IsRoute_is (l : List S81) (hn : l.length ≤ 1048576) : impl_IsRoute.F l = some (isRoute l) := by
  rw [impl_IsRoute.F_eq, isRoute, inRange, Option.bind_some]
  by_cases h : inR (l.length : Int) 1 10 = true
  · rw [if_pos h, h, Bool.and_true]
    exact impl_IsRoute_l0 l hn l.length 0 (by omega)
  · rw [if_neg h, Bool.eq_false_iff.2 h, Bool.and_false]

theorem law_FnExactIsRoute (l0 : List S83) (hm0 : l0.length ≤ maxLen) (hw0 : ∀ y ∈ l0, ok83 y) : laws_FnExactIsRoute.F l0 = some true := by
  rw [laws_FnExactIsRoute.F_eq, szStopS l0 1048576 (by omega) hm0]
  simp only [Option.bind_some]
  by_cases h : (1048576 : Int) < (l0.length : Int)
  · rw [if_pos h]; rfl
  · have hn : l0.length ≤ 1048576 := by omega
    have hn' : (l0.map cvStop).length ≤ 1048576 := by rw [List.length_map]; exact hn
    rw [if_neg h, if_neg (by omega)]
    simp [toStopS l0 hn, spec_IsRoute_is _ hn', impl_IsRoute_is _ hn', eqStopS _ hn']

theorem FnExactIsRoute (l0 : List S83) (hm0 : l0.length ≤ maxLen) (hw0 : ∀ y ∈ l0, ok83 y) : ∃ k, laws_FnExactIsRoute.f k l0 = some true :=
  (laws_FnExactIsRoute.F_co l0).rounds (law_FnExactIsRoute l0 hm0 hw0)
end Go.Proofs.Ytlijcogbgbgdhaa.PFnExactIsRoute.Pure
