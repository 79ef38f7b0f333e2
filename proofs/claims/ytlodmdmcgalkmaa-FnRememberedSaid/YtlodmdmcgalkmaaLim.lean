/-
  Functions with rounds, the rounds used up: what a monotone family of answers comes to, and that it goes through 'if' and 'bind'.
-/
import Derived.Test.YtlodmdmcgalkmaaWWords
set_option linter.unusedVariables false
namespace Go.Proofs.Ytlodmdmcgalkmaa.Lim
open Go.Proofs.YtlodmdmcgalkmaaW.PrintWords

open Classical in
noncomputable def lim {α : Type} (g : Nat → Option α) : Option α := if h : ∃ r, ∃ k, g k = some r then some (Classical.choose h) else none

structure Co {α : Type} (g : Nat → Option α) (r : Option α) : Prop where
  mono : ∀ k, LeO (g k) (g (k + 1))
  eq : lim g = r

theorem up {α : Type} {g : Nat → Option α} (hg : ∀ k, LeO (g k) (g (k + 1))) {k k' : Nat} (h : k ≤ k') {r : α} (hr : g k = some r) : g k' = some r := at_rounds hg h hr

theorem lim_iff {α : Type} {g : Nat → Option α} (hg : ∀ k, LeO (g k) (g (k + 1))) (r : α) : lim g = some r ↔ ∃ k, g k = some r := by
  unfold lim
  constructor
  · intro h
    split at h
    · rename_i he
      have := Classical.choose_spec he
      injection h with h
      rw [h] at this
      exact this
    · cases h
  · rintro ⟨k, hk⟩
    have he : ∃ r, ∃ k, g k = some r := ⟨r, k, hk⟩
    rw [dif_pos he]
    obtain ⟨k2, hk2⟩ := Classical.choose_spec he
    have h1 := up hg (Nat.le_max_left k k2) hk
    have h2 := up hg (Nat.le_max_right k k2) hk2
    rw [h1] at h2
    exact h2.symm

theorem Co.iff {α : Type} {g : Nat → Option α} {r : Option α} (h : Co g r) (x : α) : r = some x ↔ ∃ k, g k = some x := by
  rw [← h.eq]
  exact lim_iff h.mono x
theorem Co.rounds {α : Type} {g : Nat → Option α} {r : Option α} (h : Co g r) {x : α} (hx : r = some x) : ∃ k, g k = some x := (h.iff x).1 hx
theorem Co.mk_iff {α : Type} {g : Nat → Option α} {r : Option α} (hm : ∀ k, LeO (g k) (g (k + 1))) (h : ∀ x, r = some x ↔ ∃ k, g k = some x) : Co g r := by
  refine ⟨hm, ?_⟩
  apply Option.ext
  intro x
  exact (lim_iff hm x).trans (h x).symm
theorem Co.base {α : Type} {g : Nat → Option α} (hm : ∀ k, LeO (g k) (g (k + 1))) : Co g (lim g) := ⟨hm, rfl⟩
theorem Co.const {α : Type} (r : Option α) : Co (fun _ => r) r := Co.mk_iff (fun _ => LeO.refl _) (fun _ => ⟨fun h => ⟨0, h⟩, fun ⟨_, h⟩ => h⟩)
theorem Co.ite {α : Type} {c : Prop} [Decidable c] {a b : Nat → Option α} {a' b' : Option α} (ha : Co a a') (hb : Co b b') : Co (fun k => if c then a k else b k) (if c then a' else b') := by
  by_cases h : c
  · simp only [if_pos h]
    exact ha
  · simp only [if_neg h]
    exact hb
theorem Co.bind {α β : Type} {g : Nat → Option α} {f : Nat → α → Option β} {r : Option α} {q : α → Option β} (hg : Co g r) (hf : ∀ x, Co (fun k => f k x) (q x)) : Co (fun k => (g k).bind (f k)) (r.bind q) := by
  refine Co.mk_iff (fun k => LeO.bind (hg.mono k) (fun x => (hf x).mono k)) (fun x => ?_)
  constructor
  · intro h
    obtain ⟨a, ha, hq⟩ := Option.bind_eq_some_iff.1 h
    obtain ⟨k1, h1⟩ := hg.rounds ha
    obtain ⟨k2, h2⟩ := (hf a).rounds hq
    refine ⟨max k1 k2, ?_⟩
    rw [up hg.mono (Nat.le_max_left k1 k2) h1]
    exact up (hf a).mono (Nat.le_max_right k1 k2) h2
  · rintro ⟨k, hk⟩
    obtain ⟨a, ha, hq⟩ := Option.bind_eq_some_iff.1 hk
    rw [(hg.iff a).2 ⟨k, ha⟩]
    exact ((hf a).iff x).2 ⟨k, hq⟩
theorem Co.step {α : Type} {g h : Nat → Option α} {r q : Option α} (hg : Co g r) (e : ∀ k, g (k + 1) = h k) (hh : Co h q) : r = q := by
  apply Option.ext
  intro x
  rw [hg.iff, hh.iff]
  constructor
  · rintro ⟨k, hk⟩
    exact ⟨k, by rw [← e]; exact up hg.mono (Nat.le_succ k) hk⟩
  · rintro ⟨k, hk⟩
    exact ⟨k + 1, by rw [e]; exact hk⟩
theorem Co.same {α : Type} {g h : Nat → Option α} {r q : Option α} (hg : Co g r) (e : ∀ k, g k = h k) (hh : Co h q) : r = q := by
  apply Option.ext
  intro x
  rw [hg.iff, hh.iff]
  exact ⟨fun ⟨k, hk⟩ => ⟨k, (e k) ▸ hk⟩, fun ⟨k, hk⟩ => ⟨k, (e k).symm ▸ hk⟩⟩
end Go.Proofs.Ytlodmdmcgalkmaa.Lim
