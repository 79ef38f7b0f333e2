/-
  The program's IsTrial answers as the reference's does, for all arguments. It has no conditions.
-/
import Derived.Test.YtlijcogbgbgdhaaShFnExactIsTrial
set_option linter.unusedVariables false
namespace Go.Proofs.Ytlijcogbgbgdhaa.PFnExactIsTrial.Pure
open Go.RowKit Go.Proofs.YtlijcogbgbgdhaaW.PrintWords Go.Proofs.Ytlijcogbgbgdhaa.PFnExactIsTrial

theorem inRange (a b c : Int) : impl_InRange.f a b c = some (decide (b ≤ a ∧ a ≤ c)) := by
  unfold impl_InRange.f
  by_cases h : b ≤ a <;> simp [h]
theorem l1In (a b c : Int) : spec_l1In.f a b c = some (decide (b ≤ a ∧ a ≤ c)) := by
  unfold spec_l1In.f
  by_cases h : b ≤ a <;> simp [h]
theorem FnExactIsTrial (x0 : S23) (hw0 : ok23 x0) : laws_FnExactIsTrial.f x0.f0 x0.f1 x0.f2 x0.f3 = some true := by
  simp only [laws_FnExactIsTrial.f, laws_toTrial.f, spec_IsTrial.f, impl_IsTrial.f, inRange, l1In, Option.bind_some]
  generalize decide (1 ≤ x0.f0 ∧ x0.f0 ≤ 999) = a
  generalize decide (0 ≤ x0.f2 ∧ x0.f2 ≤ 100) = b
  generalize decide (0 ≤ x0.f3 ∧ x0.f3 ≤ 100) = c
  cases a <;> cases b <;> cases c <;> simp
end Go.Proofs.Ytlijcogbgbgdhaa.PFnExactIsTrial.Pure
