/-
  The program's FirstProved answers as the reference's does, for all arguments. It has no conditions.
-/
import Derived.Test.YtlijcogbgbgdhaaShFnExactFirstProved
import Derived.Test.YtlijcogbgbgdhaaEqFnExactFirstProved
import Derived.Test.YtlijcogbgbgdhaaBase
set_option linter.unusedVariables false
set_option linter.unusedSimpArgs false
namespace Go.Proofs.Ytlijcogbgbgdhaa.PFnExactFirstProved.Pure
open Go.RowKit Go.Proofs.YtlijcogbgbgdhaaW.PrintWords Go.Proofs.YtlijcogbgbgdhaaW.PrintLast Go.Proofs.YtlijcogbgbgdhaaW.PrintMore Go.Proofs.Ytlijcogbgbgdhaa.PFnExactFirstProved Go.Proofs.Ytlijcogbgbgdhaa.Lim Go.Proofs.Ytlijcogbgbgdhaa.Base
set_option maxRecDepth 100000

theorem szClaimS (l : List S98) (a : Int) (ha : 0 ≤ a ∧ a ≤ 1048576) (hl : l.length ≤ maxLen) : laws_szClaimS.f l a = some (if a < (l.length : Int) then -1 else a - (l.length : Int)) := by
  simp only [maxLen] at hl
  unfold laws_szClaimS.f
  rw [wrap_in _ (by omega)]
  by_cases h : a < (l.length : Int)
  · rw [if_pos (by omega), if_pos h]
  · rw [if_neg (by omega), if_neg h]

def cvClaim (y : S98) : S96 := ⟨y.f0, y.f1, y.f2, y.f3, y.f4⟩
theorem toClaimS_l0 (l : List S98) (hn : l.length ≤ 1048576) : ∀ (d i : Nat) (acc : List S96), i + d = l.length → acc.length = l.length → acc.take i = (l.take i).map cvClaim → laws_toClaimS.L0 l acc (i : Int) = some (l.map cvClaim)
  | 0, i, acc, h, ha, ht => by
    rw [laws_toClaimS.L0_eq, if_neg (by omega)]
    rw [List.take_of_length_le (by omega), List.take_of_length_le (by omega)] at ht
    rw [ht]
  | d + 1, i, acc, h, ha, ht => by
    have hi : i < l.length := by omega
    rw [laws_toClaimS.L0_eq, if_pos (by omega), if_pos (by omega)]
    simp only [laws_toClaim.f, Option.bind_some, wrap_succ i (by omega)]
    rw [if_pos (by omega)]
    refine toClaimS_l0 l hn d (i + 1) _ (by omega) (by rw [List.length_set]; exact ha) ?_
    rw [Int.toNat_natCast]
    exact fill_step l cvClaim acc i ha hi ht _ (by simp [rd_T98, cvClaim, hi])
theorem toClaimS (l : List S98) (hn : l.length ≤ 1048576) : laws_toClaimS.F l = some (l.map cvClaim) := by
  rw [laws_toClaimS.F_eq, if_pos (by omega), if_pos (by omega)]
  exact toClaimS_l0 l hn l.length 0 _ (by omega) (by simp) (by simp)

theorem eqClaimS_l0 (l : List S96) (hn : l.length ≤ 1048576) : ∀ (d i : Nat), i + d = l.length → laws_eqClaimS.L0 l l (i : Int) = some true
  | 0, i, h => by rw [laws_eqClaimS.L0_eq, if_neg (by omega)]
  | d + 1, i, h => by
    rw [laws_eqClaimS.L0_eq, if_pos (by omega), if_pos (by omega), if_pos (by omega)]
    simp only [laws_eqClaim.f, if_true, Option.bind_some, wrap_succ i (by omega)]
    exact eqClaimS_l0 l hn d (i + 1) (by omega)
theorem eqClaimS (l : List S96) (hn : l.length ≤ 1048576) : laws_eqClaimS.F l l = some true := by
  rw [laws_eqClaimS.F_eq, if_pos rfl]
  exact eqClaimS_l0 l hn l.length 0 (by omega)

theorem rdClaim_at (l : List S96) (i : Nat) : rd_T96 l (i : Int) = l.getD i z96 := by simp [rd_T96]
theorem dropClaim (l : List S96) (i : Nat) (h : i < l.length) : l.drop i = rd_T96 l (i : Int) :: l.drop (i + 1) := by
  rw [rdClaim_at, getD_get l i _ h]
  exact List.drop_eq_getElem_cons h

def better (x : S96) : Option S96 → Bool
  | none => true
  | some y => decide (x.f3 < y.f3)
def firstP (t : Int) : List S96 → Option S96 → Option S96
  | [], b => b
  | x :: r, b => firstP t r (if x.f2 = t ∧ x.f4 = 1 ∧ better x b = true then some x else b)
def firstId : Option S96 → Int
  | none => 0
  | some y => y.f0
def firstProved (l : List S96) (t : Int) : Int := firstId (firstP t l none)

def atPlace (l : List S96) (b : Int) : Option S96 := if b < 0 then none else some (rd_T96 l b)
theorem spec_FirstProved_l0 (l : List S96) (t : Int) (hn : l.length ≤ 1048576) : ∀ (d i : Nat) (b : Int), i + d = l.length → b < i → -1 ≤ b → spec_FirstProved.L0 l t b (i : Int) = some (firstId (firstP t (l.drop i) (atPlace l b)))
  | 0, i, b, h, h1, h2 => by
    rw [spec_FirstProved.L0_eq, if_neg (by omega), List.drop_of_length_le (by omega)]
    simp only [firstP, atPlace]
    by_cases c : b < 0
    · rw [if_pos c, if_pos c]; rfl
    · rw [if_neg c, if_neg c, if_pos (by omega), if_pos (by omega)]; rfl
  | d + 1, i, b, h, h1, h2 => by
    have hi : i < l.length := by omega
    have ih := fun b h1 h2 => spec_FirstProved_l0 l t hn d (i + 1) b (by omega) h1 h2
    rw [spec_FirstProved.L0_eq, if_pos (by omega), if_pos (by omega), dropClaim l i hi]
    simp only [wrap_succ i (by omega), firstP]
    have hnew : atPlace l (i : Int) = some (rd_T96 l (i : Int)) := by unfold atPlace; rw [if_neg (by omega)]
    by_cases c1 : (rd_T96 l (i : Int)).f2 = t
    · by_cases c2 : (rd_T96 l (i : Int)).f4 = 1
      · by_cases c3 : b < 0
        · have ho : atPlace l b = none := by unfold atPlace; rw [if_pos c3]
          rw [if_pos c1, if_pos c2, if_pos c3, ih _ (by omega) (by omega), hnew, if_pos ⟨c1, c2, by rw [ho]; rfl⟩]
        · have ho : atPlace l b = some (rd_T96 l b) := by unfold atPlace; rw [if_neg c3]
          by_cases c4 : (rd_T96 l (i : Int)).f3 < (rd_T96 l b).f3
          · rw [if_pos c1, if_pos c2, if_neg c3, if_pos (by omega), if_pos (by omega), if_pos c4, ih _ (by omega) (by omega), hnew, if_pos ⟨c1, c2, by rw [ho]; exact decide_eq_true c4⟩]
          · rw [if_pos c1, if_pos c2, if_neg c3, if_pos (by omega), if_pos (by omega), if_neg c4, ih _ (by omega) (by omega), if_neg (fun hh => c4 (by have h3 := hh.2.2; rw [ho] at h3; exact of_decide_eq_true h3))]
      · rw [if_pos c1, if_neg c2, ih _ (by omega) (by omega), if_neg (fun hh => c2 hh.2.1)]
    · rw [if_neg c1, ih _ (by omega) (by omega), if_neg (fun hh => c1 hh.1)]
theorem spec_FirstProved_is (l : List S96) (t : Int) (hn : l.length ≤ 1048576) : spec_FirstProved.F l t = some (firstProved l t) := by
  rw [spec_FirstProved.F_eq]
  exact spec_FirstProved_l0 l t hn l.length 0 (-1) (by omega) (by omega) (by omega)

theorem impl_FirstProved_l0 (l : List S96) (t : Int) (hn : l.length ≤ 1048576) : ∀ (d i : Nat) (b : Option S96) (y0 y1 y2 y3 y4 : Int), i + d = l.length → (b = none → y0 = 0) → (∀ y, b = some y → y0 = y.f0 ∧ y3 = y.f3) →
    impl_FirstProved.L0 t b.isSome l (l.length : Int) (i : Int) y0 y1 y2 y3 y4 = some (firstId (firstP t (l.drop i) b))
  | 0, i, b, y0, y1, y2, y3, y4, h, h1, h2 => by
    rw [impl_FirstProved.L0_eq, if_neg (by omega), List.drop_of_length_le (by omega)]
    simp only [firstP]
    cases b with
    | none => rw [h1 rfl]; rfl
    | some y => rw [(h2 y rfl).1]; rfl
  | d + 1, i, b, y0, y1, y2, y3, y4, h, h1, h2 => by
    have hi : i < l.length := by omega
    have ih := fun b y0 y1 y2 y3 y4 h1 h2 => impl_FirstProved_l0 l t hn d (i + 1) b y0 y1 y2 y3 y4 (by omega) h1 h2
    have ihn := ih (some (rd_T96 l (i : Int))) (rd_T96 l (i : Int)).f0 (rd_T96 l (i : Int)).f1 (rd_T96 l (i : Int)).f2 (rd_T96 l (i : Int)).f3 (rd_T96 l (i : Int)).f4 (fun hh => by cases hh) (fun y hy => by injection hy with hy; rw [hy]; exact ⟨rfl, rfl⟩)
    rw [Option.isSome_some] at ihn
    have iho := ih b y0 y1 y2 y3 y4 h1 h2
    rw [impl_FirstProved.L0_eq, if_pos (by omega), if_pos (by omega), if_pos (by omega), dropClaim l i hi]
    simp only [wrap_succ i (by omega), firstP]
    by_cases c1 : (rd_T96 l (i : Int)).f2 = t
    · by_cases c2 : (rd_T96 l (i : Int)).f4 = 1
      · cases b with
        | none =>
          rw [if_pos c1, if_pos c2, if_neg (by simp), ihn, if_pos ⟨c1, c2, rfl⟩]
        | some y =>
          have e3 := (h2 y rfl).2
          by_cases c4 : (rd_T96 l (i : Int)).f3 < y3
          · rw [if_pos c1, if_pos c2, if_pos (show (some y).isSome = true from rfl), if_pos c4, ihn, if_pos ⟨c1, c2, decide_eq_true (by rw [← e3]; exact c4)⟩]
          · rw [if_pos c1, if_pos c2, if_pos (show (some y).isSome = true from rfl), if_neg c4, iho, if_neg (fun hh => c4 (by rw [e3]; exact of_decide_eq_true hh.2.2))]
      · rw [if_pos c1, if_neg c2, iho, if_neg (fun hh => c2 hh.2.1)]
    · rw [if_neg c1, iho, if_neg (fun hh => c1 hh.1)]
theorem impl_FirstProved_is (l : List S96) (t : Int) (hn : l.length ≤ 1048576) : impl_FirstProved.F l t = some (firstProved l t) := by
  rw [impl_FirstProved.F_eq]
  exact impl_FirstProved_l0 l t hn l.length 0 none 0 0 0 0 0 (by omega) (fun _ => rfl) (fun y hy => by cases hy)

theorem law_FnExactFirstProved (l0 : List S98) (hm0 : l0.length ≤ maxLen) (hw0 : ∀ y ∈ l0, ok98 y) (a1 : Int) (w1 : (Lit.int .i64 a1).wf = true) : laws_FnExactFirstProved.F l0 a1 = some true := by
  rw [laws_FnExactFirstProved.F_eq, szClaimS l0 1048576 (by omega) hm0]
  simp only [Option.bind_some]
  by_cases h : (1048576 : Int) < (l0.length : Int)
  · rw [if_pos h]; rfl
  · have hn : l0.length ≤ 1048576 := by omega
    have hn' : (l0.map cvClaim).length ≤ 1048576 := by rw [List.length_map]; exact hn
    rw [if_neg h, if_neg (by omega)]
    simp [toClaimS l0 hn, spec_FirstProved_is _ a1 hn', impl_FirstProved_is _ a1 hn', eqClaimS _ hn']

theorem FnExactFirstProved (l0 : List S98) (hm0 : l0.length ≤ maxLen) (hw0 : ∀ y ∈ l0, ok98 y) (a1 : Int) (w1 : (Lit.int .i64 a1).wf = true) : ∃ k, laws_FnExactFirstProved.f k l0 a1 = some true :=
  (laws_FnExactFirstProved.F_co l0 a1).rounds (law_FnExactFirstProved l0 hm0 hw0 a1 w1)
end Go.Proofs.Ytlijcogbgbgdhaa.PFnExactFirstProved.Pure
