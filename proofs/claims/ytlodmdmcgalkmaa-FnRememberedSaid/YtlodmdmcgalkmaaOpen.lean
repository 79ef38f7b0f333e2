/-
  What a reading of plain data says in the words of the printed contracts: a type at which a memory reads, as a kind.
-/
import Derived.Test.YtlodmdmcgalkmaaWWords
import Derived.ChangeSlices
import Derived.Lib.SmallJoins
import Derived.ProofKit
set_option linter.unusedVariables false
set_option linter.unusedSimpArgs false
namespace Go.Proofs.Ytlodmdmcgalkmaa.Opened
open Go.RowKit Go.ChangeShapes Go.WideShapes Go.Proofs.YtlodmdmcgalkmaaW.PrintWords

theorem exists_list {α : Type} (p : Nat → α → Prop) : ∀ (len : Nat), (∀ i, i < len → ∃ y, p i y) → ∃ xs : List α, xs.length = len ∧ ∀ i y, xs[i]? = some y → p i y
  | 0, _ => ⟨[], rfl, fun i y h => by simp at h⟩
  | n + 1, h => by
    obtain ⟨xs, hl, hx⟩ := exists_list p n (fun i hi => h i (by omega))
    obtain ⟨y, hy⟩ := h n (by omega)
    refine ⟨xs ++ [y], by simp [hl], fun i z hz => ?_⟩
    rcases Nat.lt_or_ge i xs.length with hi | hi
    · rw [List.getElem?_append_left hi] at hz
      exact hx i z hz
    · have hlt := (List.getElem?_eq_some_iff.1 hz).1
      simp at hlt
      have : i = xs.length := by omega
      subst this
      simp at hz
      subst hz
      rw [hl]
      exact hy

theorem add_addr (a : Addr) (n m : Nat) : (a.add n).add m = a.add (n + m) := by
  unfold Addr.add
  by_cases h1 : n = 0
  · subst h1
    simp
  · by_cases h2 : m = 0
    · subst h2
      simp [h1]
    · rw [if_neg h1, if_neg h2, if_neg (by omega)]
      simp [Nat.add_assoc]

def Reading (P : Program) (w : World) (t : TypeId) {α : Type} (d : Kd α) (g : α → Prop) : Prop :=
  P.cellsOf t = d.sz ∧ ∀ (H : Type) (enc : TypeId × Value → H) (fuel : Nat) (cs : List Value) (x : DataW H × List MemPlace),
    DataW.trod enc P w 0 (fun _ => true) true fuel t cs = some x → ∃ y, d.K w y cs ∧ g y

theorem Reading.int {P : Program} {w : World} {t : TypeId} {k : IntKind} (ht : P.underlying t = some (.int k)) (hc : P.cellsOf t = 1) :
    Reading P w t (Kd.int k) (fun n => (Lit.int k n).wf = true) := by
  refine ⟨hc, fun H enc fuel cs x h => ?_⟩
  obtain ⟨n, rfl, _, hw⟩ := DataW.trod_int ht h
  exact ⟨n, rfl, hw⟩

theorem Reading.row {P : Program} {w : World} {t e : TypeId} {α : Type} {d : Kd α} {g : α → Prop} (he : Reading P w e d g) (ht : P.underlying t = some (.slice e))
    {H : Type} {enc : TypeId × Value → H} {fuel : Nat} {cs : List Value} {x : DataW H × List MemPlace} (h : DataW.trod enc P w 0 (fun _ => true) true fuel t cs = some x) :
    ∃ (A : Option Addr) (c : Nat) (xs : List α), cs = [.slice A xs.length c] ∧ xs.length ≤ c ∧ Kd.C d w A xs.length xs ∧ xs.length ≤ maxLen ∧ ∀ y ∈ xs, g y := by
  rcases DataW.trod_slice ht h with ⟨rfl, _⟩ | ⟨a, len, cap, elems, rest, n, _, rfl, _, hb, hl, hm, hlen, hel, _, _⟩
  · exact ⟨none, 0, [], rfl, by simp, ⟨rfl, by simp, fun hp => by simp at hp⟩, by simp, by simp⟩
  · obtain ⟨xs, hxl, hx⟩ := exists_list (fun i y => (∃ c, c.length = d.sz ∧ d.K w y c ∧ ∀ j u, c[j]? = some u → w.cell? (a.add (i * d.sz + j)) = some u) ∧ g y) len (by
      intro i hi
      have h1 := hel i hi
      have hlt : i < elems.length := by omega
      rw [List.getElem?_eq_getElem hlt, Option.bind_eq_some_iff] at h1
      obtain ⟨c, hc, hy⟩ := h1
      obtain ⟨_, hcl, hcell⟩ := World.cells?_some hc
      obtain ⟨y, hK, hg⟩ := he.2 H enc n c _ hy
      rw [he.1] at hcl hcell
      refine ⟨y, ⟨c, hcl, hK, fun j u hu => ?_⟩, hg⟩
      have hj : j < d.sz := by
        have := (List.getElem?_eq_some_iff.1 hu).1
        omega
      have h2 := hcell j hj
      rw [← h2, add_addr] at hu
      exact hu)
    subst hxl
    refine ⟨some a, cap, xs, rfl, hl, ⟨rfl, ?_, fun _ => ⟨a, rfl, fun j p hp => (hx j p hp).1⟩⟩, Nat.le_trans hl hm, fun y hy => ?_⟩
    · simp only [maxLen] at hm
      omega
    · obtain ⟨i, hi⟩ := List.getElem?_of_mem hy
      exact (hx i y hi).2

theorem Reading.slice {P : Program} {w : World} {t e : TypeId} {α : Type} {d : Kd α} {g : α → Prop} (he : Reading P w e d g) (ht : P.underlying t = some (.slice e)) (hc : P.cellsOf t = 1) :
    Reading P w t (Kd.slice e d) (fun xs => xs.length ≤ maxLen ∧ ∀ y ∈ xs, g y) := by
  refine ⟨hc, fun H enc fuel cs x h => ?_⟩
  obtain ⟨A, c, xs, rfl, hl, hC, hm, hg⟩ := he.row ht h
  exact ⟨xs, ⟨A, c, rfl, hl, hC⟩, hm, hg⟩

def Fields (P : Program) (w : World) (fs : List Field) (off : Nat) {α : Type} (d : Kd α) (g : α → Prop) : Prop :=
  ∀ (H : Type) (enc : TypeId × Value → H) (cs : List Value), cs.length = off + d.sz →
    (∀ (i : Nat) (f : Field), fs[i]? = some f → ∃ fuel x, DataW.trod enc P w 0 (fun _ => true) true fuel f.type ((cs.drop f.offset).take (P.cellsOf f.type)) = some x) → ∃ y, d.K w y (cs.drop off) ∧ g y

theorem Fields.last {P : Program} {w : World} {f : Field} {off : Nat} {α : Type} {d : Kd α} {g : α → Prop} (hf : Reading P w f.type d g) (ho : f.offset = off) : Fields P w [f] off d g := by
  intro H enc cs hl h
  obtain ⟨fuel, x, hx⟩ := h 0 f rfl
  rw [hf.1, ho, List.take_of_length_le (by rw [List.length_drop]; omega)] at hx
  exact hf.2 H enc fuel _ x hx

theorem Fields.more {P : Program} {w : World} {f : Field} {fs : List Field} {off : Nat} {α β : Type} {d : Kd α} {d' : Kd β} {g : α → Prop} {g' : β → Prop} (hf : Reading P w f.type d g) (ho : f.offset = off)
    (hr : Fields P w fs (off + d.sz) d' g') : Fields P w (f :: fs) off (Kd.pair d d') (fun p => g p.1 ∧ g' p.2) := by
  intro H enc cs hl h
  obtain ⟨fuel, x, hx⟩ := h 0 f rfl
  rw [hf.1, ho] at hx
  obtain ⟨y, hy, gy⟩ := hf.2 H enc fuel _ x hx
  have hl' : cs.length = off + d.sz + d'.sz := by
    have : (Kd.pair d d').sz = d.sz + d'.sz := rfl
    omega
  obtain ⟨z, hz, gz⟩ := hr H enc cs hl' (fun i f' hi => h (i + 1) f' (by simpa using hi))
  refine ⟨(y, z), ⟨_, _, ?_, hy, hz⟩, gy, gz⟩
  rw [← List.drop_drop, List.take_append_drop]

theorem Reading.struct {P : Program} {w : World} {t : TypeId} {fs : Array Field} {α β : Type} {d : Kd α} {g : α → Prop} {out : β → α} {inv : α → β} {g' : β → Prop} (ht : P.underlying t = some (.struct fs)) (hc : P.cellsOf t = d.sz)
    (hf : Fields P w fs.toList 0 d g) (hinv : ∀ p, out (inv p) = p) (hg : ∀ p, g p → g' (inv p)) : Reading P w t (Kd.iso d out) g' := by
  refine ⟨hc, fun H enc fuel cs x h => ?_⟩
  obtain ⟨xs, n, rfl, rfl, hl, hlen, hi⟩ := DataW.trod_struct ht h
  rw [hc] at hl
  obtain ⟨y, hy, gy⟩ := hf H enc cs (by omega) (fun i f hif => by
    have h1 := hi i f (by simpa using hif)
    have hlt : i < xs.length := by
      have := (List.getElem?_eq_some_iff.1 hif).1
      rw [hlen]
      simpa using this
    rw [List.getElem?_eq_getElem hlt] at h1
    exact ⟨n, _, h1⟩)
  refine ⟨inv y, ?_, hg y gy⟩
  show d.K w (out (inv y)) cs
  rw [hinv]
  simpa using hy

theorem Reading.argRow {P : Program} {w : World} {t e : TypeId} {α : Type} {d : Kd α} {g : α → Prop} (he : Reading P w e d g) (ht : P.underlying t = some (.slice e)) {H : Type} {enc : TypeId × Value → H}
    {r : Reach} {b : Nat} {v : Value} {x : DataW H} {ps : List MemPlace} (hv : Value.okWide P w r b t v) (h : DataW.Trod enc P w 0 (fun _ => true) true t v x ps) :
    ∃ (A : Option Addr) (c : Nat) (xs : List α), v = .slice A xs.length c ∧ xs.length ≤ c ∧ Kd.C d w A xs.length xs ∧ xs.length ≤ maxLen ∧ ∀ y ∈ xs, g y := by
  obtain ⟨a, len, cap, rfl⟩ := okWide_slice ht hv
  obtain ⟨fuel, hf⟩ := h
  obtain ⟨A, c, xs, hcs, hl, hC, hm, hg⟩ := he.row ht hf
  simp [Value.cells] at hcs
  obtain ⟨rfl, rfl, rfl⟩ := hcs
  exact ⟨a, cap, xs, rfl, hl, hC, hm, hg⟩
end Go.Proofs.Ytlodmdmcgalkmaa.Opened
