/-
  Lists, loops over places and int arithmetic: what every pure proof of this seat uses.
-/
import Derived.Test.YtlodmdmcgalkmaaWWords
import Derived.IntWalk
set_option linter.unusedVariables false
namespace Go.Proofs.Ytlodmdmcgalkmaa.Base
open Go.RowKit

theorem wrap_in (x : Int) (h : -9223372036854775808 ≤ x ∧ x ≤ 9223372036854775807) : wrap64 x = x := by unfold wrap64; omega
theorem wrap_succ (i : Nat) (h : i ≤ 4611686018427387904) : wrap64 ((i : Int) + 1) = ((i + 1 : Nat) : Int) := by unfold wrap64; omega
theorem wrap_pred (i : Nat) (h : i ≤ 4611686018427387904) : wrap64 ((i : Int) - 1) = (i : Int) - 1 := by unfold wrap64; omega

def inR (n a b : Int) : Bool := decide (a ≤ n ∧ n ≤ b)
theorem inR_iff {n a b : Int} : inR n a b = true ↔ a ≤ n ∧ n ≤ b := by simp [inR]
noncomputable def allF (p : Nat → Prop) (n i : Nat) : Bool := @decide (∀ j, i ≤ j → j < n → p j) (Classical.propDecidable _)
theorem allF_iff {p : Nat → Prop} {n i : Nat} : allF p n i = true ↔ ∀ j, i ≤ j → j < n → p j := by simp [allF]
theorem allF_end {p : Nat → Prop} {n i : Nat} (h : n ≤ i) : allF p n i = true := allF_iff.2 (fun j h1 h2 => by omega)
theorem allF_yes {p : Nat → Prop} {n i : Nat} (h : p i) : allF p n i = allF p n (i + 1) := by
  rw [Bool.eq_iff_iff, allF_iff, allF_iff]
  constructor
  · intro k j h1 h2
    exact k j (by omega) h2
  · intro k j h1 h2
    by_cases e : j = i
    · rw [e]; exact h
    · exact k j (by omega) h2
theorem allF_no {p : Nat → Prop} {n i : Nat} (hi : i < n) (h : ¬ p i) : allF p n i = false := by
  rw [Bool.eq_false_iff]
  intro k
  exact h (allF_iff.1 k i (Nat.le_refl _) hi)
theorem allF_all {p : Nat → Prop} {n : Nat} : allF p n 0 = true ↔ ∀ j, j < n → p j := by
  rw [allF_iff]
  exact ⟨fun h j hj => h j (Nat.zero_le _) hj, fun h j _ hj => h j hj⟩

theorem getD_get {α : Type} (l : List α) (i : Nat) (z : α) (h : i < l.length) : l.getD i z = l[i] := by simp [List.getD_eq_getElem?_getD, h]
end Go.Proofs.Ytlodmdmcgalkmaa.Base
