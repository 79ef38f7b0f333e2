/-
  slices.Sort and slices.Compact at a row of whole numbers that is the call's own.
-/
import Derived.Test.YtlodmdmcgalkmaaWKept
import Derived.Shelf.Sort.Plain
import Derived.Shelf.Slices.In.SortNone
import Derived.Shelf.Slices.CompactI
import Derived.Sort.OwnSortedInts
import Derived.Lib.RowBridge
set_option linter.unusedVariables false
namespace Go.Proofs.Ytlodmdmcgalkmaa.Srt
open Go Go.RowKit Go.Shelf Go.Sort Go.Proofs.YtlodmdmcgalkmaaW.PrintWords
variable {P : Program} {ρ : Ren}
def sorted (l : List Int) : List Int := l.mergeSort fun x y => decide (x ≤ y)
theorem sorted_len (l : List Int) : (sorted l).length = l.length := by unfold sorted; exact List.length_mergeSort l
theorem sort_own (Ly : Lays.n189 P ρ) (e : Nat) (P0 : Nat → Prop) (u : Value) (l : List Int) (w0 w : World) (hB : Below w0.heap.size w0 w) (ho : (Kd.int .i64).R e w w0.heap.size P0 u l) (hl : l.length < 4611686018427387904) :
    Calls P (ρ.f 189) #[u] w fun x w' => x = .returned (.tuple #[]) ∧ (Kd.int .i64).R e w' w0.heap.size (fun k_ => (P0 k_ ∨ w.heap.size ≤ k_)) u (sorted l) ∧ Below w0.heap.size w0 w' ∧ Kept w w' (fun k_ => P0 k_) := by
  have hok := ho.1
  have hown : w.ownsRow w0.heap.size e 1 u l.length (l.map (Value.int .i64)) := Kd.own_of_R ho
  rcases hown.2 with ⟨rfl, hn⟩ | ⟨g, c, cur, rfl, hb, hh, hnc, hcm, hsz, ht⟩
  · have hl0 : l = [] := List.eq_nil_of_length_eq_zero hn
    subst hl0
    refine (Any.slices_Sort_int_none Ly none 0 w).mono ?_
    rintro x w' ⟨rfl, rfl⟩
    refine ⟨rfl, ?_, hB, Kept.refl _ _⟩
    rw [show sorted [] = [] by simp [sorted]]
    exact Kd.R_nil _ _ _ _ _
  · rw [Nat.mul_one] at ht
    refine (Any.slices_Sort_int Ly g 0 c l w (holds_of_blockI hh ht) (Array.getElem?_eq_some_iff.1 hh).1 hl).mono ?_
    rintro x w' ⟨rfl, n, os, rfl⟩
    have hg := grownBy_sortedI (w := w) (g := g) (n := n) (os := os) (sorted l).toArray
    refine ⟨rfl, ?_, hB.grown hg hB.size (fun k hk => by injection hk with hk; omega), Kept.of_grown hg (Kept.refl w _) (fun k hk => .inl (hok k hk))⟩
    have ho2 := ownsRow_sortedI (n := n) (os := os) (sorted_len l) hb hh hnc hcm hsz
    have := Kd.R_of_own (enc := Value.int .i64) (h1 := fun _ => rfl) (ok := fun k_ => (P0 k_ ∨ w.heap.size ≤ k_)) (xs := sorted l) (by rw [sorted_len]; exact ho2) (fun k hk => .inl (hok k hk))
    exact this
theorem compact_len (l : List Int) : (Lib.compact l).length ≤ l.length := by
  exact Lib.compact_length_le l
theorem compact_own (Ly : Lays2.n20 P ρ) (e : Nat) (P0 : Nat → Prop) (u : Value) (l : List Int) (w0 w : World) (hB : Below w0.heap.size w0 w) (ho : (Kd.int .i64).R e w w0.heap.size P0 u l) :
    Calls P (ρ.f 20) #[u] w fun x w' => ∃ v0_ : Value, x = .returned v0_ ∧ (Kd.int .i64).R e w' w0.heap.size (fun k_ => (P0 k_ ∨ w.heap.size ≤ k_)) v0_ (Lib.compact l) ∧ Below w0.heap.size w0 w' ∧ Kept w w' (fun k_ => P0 k_) := by
  have hok := ho.1
  have hown : w.ownsRow w0.heap.size e 1 u l.length (l.map (Value.int .i64)) := Kd.own_of_R ho
  rcases hown.2 with ⟨rfl, hn⟩ | ⟨g, c, cur, rfl, hb, hh, hnc, hcm, hsz, ht⟩
  · have hl0 : l = [] := List.eq_nil_of_length_eq_zero hn
    subst hl0
    refine (Any.slices_Compact_int_empty Ly none 0 w).mono ?_
    rintro x w' ⟨rfl, rfl⟩
    refine ⟨_, rfl, ?_, hB, Kept.refl _ _⟩
    rw [show Lib.compact ([] : List Int) = [] by simp [Lib.compact, Lib.compactUpTo]]
    exact Kd.R_nil _ _ _ _ _
  · rw [Nat.mul_one] at ht
    refine (Any.slices_Compact_int Ly g 0 c l w (holds_of_blockI hh ht) (by simp only [maxLen] at hcm; omega) hnc).mono ?_
    rintro x w' ⟨rfl, n, rfl⟩
    have hlen := compact_len l
    have hg := grownBy_sortedI (w := w) (g := g) (n := n) (os := #[]) (Lib.compact l ++ List.replicate (l.length - (Lib.compact l).length) 0).toArray
    rw [grow_empty] at hg
    refine ⟨_, rfl, ?_, hB.grown hg hB.size (fun k hk => by injection hk with hk; omega), Kept.of_grown hg (Kept.refl w _) (fun k hk => .inl (hok k hk))⟩
    have hl2 : (Lib.compact l ++ List.replicate (l.length - (Lib.compact l).length) 0).length = l.length := by rw [List.length_append, List.length_replicate]; omega
    have ho2 := ownsRow_sortedI (n := n) (os := #[]) hl2 hb hh hnc hcm hsz
    rw [grow_empty] at ho2
    rcases ho2.2 with ⟨h0, _⟩ | ⟨g', cap', cur', hv, hg', hh', hn', hcap', hs', ht'⟩
    · cases h0
    · injection hv with hv1 hv2 hv3
      injection hv1 with hv1
      injection hv1 with hv1
      subst hv1
      subst hv3
      rw [Nat.mul_one] at ht'
      have ht2 : cur'.toList.take ((Lib.compact l).length * 1) = (Lib.compact l).map (Value.int .i64) := by
        have := congrArg (List.take (Lib.compact l).length) ht'
        rw [List.take_take, Nat.min_eq_left hlen, List.map_append, List.take_left' (by simp)] at this
        rw [Nat.mul_one]
        exact this
      exact Kd.R_of_own (enc := Value.int .i64) (h1 := fun _ => rfl) (xs := Lib.compact l) ⟨by simp [encs], .inr ⟨g, c, cur', rfl, hg', hh', by omega, hcap', hs', ht2⟩⟩ (fun k hk => .inl (hok k hk))
end Go.Proofs.Ytlodmdmcgalkmaa.Srt
