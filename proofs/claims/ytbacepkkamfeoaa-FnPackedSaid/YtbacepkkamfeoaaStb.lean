/-
  Rows of structs of whole numbers that are the call's own, sorted by the library's insertion sort (slices.SortStableFunc at up to twenty things).
-/
import Derived.Test.YtbacepkkamfeoaaWKept
import Derived.Shelf.SlSortCmp.KitK
import Derived.Sort.OwnSortedInts
set_option linter.unusedVariables false
set_option linter.unusedSimpArgs false
namespace Go.Proofs.Ytbacepkkamfeoaa.Stb
open Go Go.RowKit Go.Shelf Go.Sort Go.Lib Go.Proofs Go.Proofs.YtbacepkkamfeoaaW.PrintWords
/-- New blocks and draws alone. -/
def Gr (W W' : World) : Prop := ∃ q os', W' = grow (W.drewN q) os'
theorem Gr.refl (W : World) : Gr W W := ⟨0, #[], by rw [grow_empty]; rfl⟩
theorem Gr.alloc {W W' : World} (h : Gr W W') (o : Obj) : Gr W (W'.alloc o) := by
  obtain ⟨q, os, rfl⟩ := h
  exact ⟨q, os ++ #[o], by rw [alloc_eq_grow, grow_grow]⟩
theorem Gr.drewN {W W' : World} (h : Gr W W') (n : Nat) : Gr W (W'.drewN n) := by
  obtain ⟨q, os, rfl⟩ := h
  exact ⟨q + n, os, by rw [← World.drewN_drewN]; rfl⟩
theorem Gr.drew {W W' : World} (h : Gr W W') : Gr W W'.drew := h.drewN 1
theorem Gr.trans {W W1 W2 : World} (h : Gr W W1) (h' : Gr W1 W2) : Gr W W2 := by
  obtain ⟨q, os, rfl⟩ := h
  obtain ⟨q', os', rfl⟩ := h'
  exact ⟨q + q', os ++ os', by rw [← grow_grow]; show grow (grow ((W.drewN q).drewN q') os) os' = _; rw [World.drewN_drewN]⟩
section
variable {α : Type} [Inhabited α] {d : Kd α} {enc : α → List Value} {k : Nat}
theorem flat_at (hk : ∀ x, (enc x).length = k) (l : List α) (t : Nat) (ht : t < l.length * k) : (flatK enc k l.toArray).toList[t]? = (enc (l.toArray[t / k]!))[t % k]? := by
  have hk0 : 0 < k := Nat.pos_of_ne_zero (fun e => by subst e; omega)
  have h1 : t < (flatK enc k l.toArray).size := by rw [size_flatK]; simpa using ht
  have h2 := get_flatK enc k l.toArray t (by simpa using ht)
  rw [Array.getElem?_toList, Array.getElem?_eq_getElem h1]
  have h4 : (flatK enc k l.toArray)[t] = (enc (l.toArray[t / k]!))[t % k]! := (getElem!_pos (flatK enc k l.toArray) t h1).symm.trans h2
  have h3 : t % k < (enc (l.toArray[t / k]!)).length := by rw [hk]; exact Nat.mod_lt _ hk0
  rw [h4, List.getElem?_eq_getElem h3]
  exact congrArg some (getElem!_pos (enc (l.toArray[t / k]!)) (t % k) h3)
theorem reps_flat (hM : ∀ {w : World} {base : Nat} {ok : Nat → Prop} {x : α} {cs : List Value}, d.M w base ok x cs → cs = enc x) (hsz : d.sz = k) (hk : ∀ x, (enc x).length = k) (hk0 : 0 < k) {w : World} {base : Nat} {ok : Nat → Prop} {l : List α} {inner : List Value}
    (h : Reps (d.M w base ok) d.sz l inner) : inner = (flatK enc k l.toArray).toList := by
  rw [hsz] at h
  apply List.ext_getElem?
  intro t
  by_cases ht : t < l.length * k
  · have hq : t / k < l.length := by rw [Nat.div_lt_iff_lt_mul hk0]; exact ht
    have h1 := hM (h.2 (t / k) _ (List.getElem?_eq_getElem hq))
    have h2 : ((inner.drop (t / k * k)).take k)[t % k]? = (enc l[t / k])[t % k]? := by rw [h1]
    rw [List.getElem?_take, if_pos (Nat.mod_lt _ hk0), List.getElem?_drop, Nat.mul_comm, Nat.div_add_mod] at h2
    rw [h2, flat_at hk l t ht]
    congr 2
    simp [hq]
  · rw [List.getElem?_eq_none (by rw [h.1]; omega), List.getElem?_eq_none (by rw [Array.length_toList, size_flatK]; simpa using Nat.not_lt.1 ht)]
theorem flat_reps (hM : ∀ (w : World) (base : Nat) (ok : Nat → Prop) (x : α), d.M w base ok x (enc x)) (hsz : d.sz = k) (hk : ∀ x, (enc x).length = k) (hk0 : 0 < k) (w : World) (base : Nat) (ok : Nat → Prop) (l : List α) :
    Reps (d.M w base ok) d.sz l (flatK enc k l.toArray).toList := by
  rw [hsz]
  refine ⟨by simp, fun j p hj => ?_⟩
  have hlt := (List.getElem?_eq_some_iff.1 hj).1
  have e : ((flatK enc k l.toArray).toList.drop (j * k)).take k = enc p := by
    apply List.ext_getElem?
    intro r
    by_cases hr : r < k
    · have h1 : j * k + r < l.length * k := by
        have := Nat.mul_le_mul_right k (show j + 1 ≤ l.length from hlt)
        rw [Nat.add_mul, Nat.one_mul] at this
        omega
      rw [List.getElem?_take, if_pos hr, List.getElem?_drop, flat_at hk l _ h1, Nat.mul_comm j k, Nat.mul_add_div hk0, Nat.mul_add_mod, Nat.div_eq_of_lt hr, Nat.mod_eq_of_lt hr, Nat.add_zero]
      congr 2
      rw [List.getElem?_eq_getElem hlt] at hj
      injection hj with hj
      rw [← hj]
      simp [hlt]
    · rw [List.getElem?_take, if_neg hr, List.getElem?_eq_none (by rw [hk]; omega)]
  rw [e]
  exact hM w base ok p
end
theorem size_insInner {α : Type} [Inhabited α] (lt : α → α → Bool) (a : Nat) : ∀ (j : Nat) (d : Array α), (Sort.insInner lt a j d).size = d.size
  | 0, d => rfl
  | j + 1, d => by
    unfold Sort.insInner
    split
    · rw [size_insInner lt a j]; simp [Sort.swp]
    · rfl
theorem size_insOuter {α : Type} [Inhabited α] (lt : α → α → Bool) (a b : Nat) : ∀ (n i : Nat) (d : Array α), b - i = n → (Sort.insOuter lt a b i d).size = d.size
  | 0, i, d, h => by rw [Sort.insOuter, if_neg (by omega)]
  | n + 1, i, d, h => by rw [Sort.insOuter, if_pos (by omega), size_insOuter lt a b n (i + 1) _ (by omega), size_insInner]
theorem size_insertionSort {α : Type} [Inhabited α] (lt : α → α → Bool) (d : Array α) (a b : Nat) : (Sort.insertionSort lt d a b).size = d.size := size_insOuter lt a b _ _ _ rfl
theorem holds_cells {w : World} {g : Nat} {cur : Array Value} {e : TypeId} {F : Array Value} (hb : w.heap[g]? = some (.cells cur e (0, 0))) (ht : cur.toList.take F.size = F.toList) : Holds id w g 0 F := by
  intro j hj
  refine ⟨?_, by simp [World.frozen?, hb]⟩
  have h1 : (cur.toList.take F.size)[j]? = F.toList[j]? := by rw [ht]
  rw [List.getElem?_take_of_lt hj] at h1
  simp only [World.cell?, hb, Nat.zero_add]
  simp only [Option.isSome_none, Bool.false_eq_true, if_false]
  rw [← Array.getElem?_toList, h1]
  simp [hj]
theorem heap_sortedV {w : World} {g n : Nat} {os : Array Obj} {cur : Array Value} {e : TypeId} {fr : Nat × Nat} (F : Array Value) (hb : w.heap[g]? = some (.cells cur e fr)) :
    (grow (putRow id (Sort.ahead w n) g 0 F) os).heap[g]? = some (.cells (putCells id 0 F cur) e fr) := by
  have hg : g < w.heap.size := (Array.getElem?_eq_some_iff.1 hb).1
  rw [heap_grow_old _ _ (by simpa using hg)]
  simp [putRow, mapBlock, Sort.ahead, Array.getElem?_modify, hb, onCells]
theorem grownBy_sortedV {w : World} {g n : Nat} {os : Array Obj} (F : Array Value) : w.grownBy (grow (putRow id (Sort.ahead w n) g 0 F) os) (some g) := by
  refine ⟨rfl, rfl, rfl, by simp, fun k hk hne => ?_⟩
  rw [heap_grow_old _ _ (by simpa using hk)]
  have : g ≠ k := fun e => hne (by rw [e])
  simp [putRow, mapBlock, Sort.ahead, Array.getElem?_modify, this]
theorem take_putCellsV (cur F : Array Value) (h : F.size ≤ cur.size) : (putCells id 0 F cur).toList.take F.size = F.toList := by
  apply List.ext_getElem?
  intro j
  by_cases hj : j < F.size
  · rw [List.getElem?_take_of_lt hj, Array.getElem?_toList]
    simp [putCells, hj, show j < cur.size by omega]
  · rw [List.getElem?_take_eq_none (by omega), List.getElem?_eq_none (by simp; omega)]
/-- A row of the call's own, sorted in line by f: it holds what the library's law says. -/
theorem sort_ownK {P : Program} {α : Type} [Inhabited α] (d : Kd α) (enc : α → List Value) (k : Nat) (hM : ∀ {w : World} {base : Nat} {ok : Nat → Prop} {x : α} {cs : List Value}, d.M w base ok x cs → cs = enc x) (hM' : ∀ (w : World) (base : Nat) (ok : Nat → Prop) (x : α), d.M w base ok x (enc x))
    (hsz : d.sz = k) (hk : ∀ x, (enc x).length = k) (hk0 : 0 < k) (f : FuncId) (tail : List Value) (e : Nat) (P0 : Nat → Prop) (u : Value) (l X : List α) (hX : X.length = l.length) (w0 w : World) (hB : Below w0.heap.size w0 w) (ho : d.R e w w0.heap.size P0 u l)
    (hnil : l = [] → Calls P f (Value.slice none 0 0 :: tail).toArray w fun x w' => x = .returned (.tuple #[]) ∧ w' = w)
    (hsome : ∀ g cap, HoldsK enc k w g 0 l.toArray → g < w.heap.size → Calls P f (Value.slice (some ⟨g, 0, none⟩) l.length cap :: tail).toArray w fun x w' => x = .returned (.tuple #[]) ∧ SWK enc k w g 0 X.toArray w') :
    Calls P f (u :: tail).toArray w fun x w' => x = .returned (.tuple #[]) ∧ d.R e w' w0.heap.size (fun k_ => (P0 k_ ∨ w.heap.size ≤ k_)) u X ∧ Below w0.heap.size w0 w' ∧ Kept w w' (fun k_ => P0 k_) := by
  obtain ⟨hok, inner, hown, hrep⟩ := ho
  rcases hown.2 with ⟨rfl, hn⟩ | ⟨g, c, cur, rfl, hb, hh, hnc, hcm, hs, ht⟩
  · have hl0 : l = [] := List.eq_nil_of_length_eq_zero hn
    subst hl0
    have hX0 : X = [] := List.eq_nil_of_length_eq_zero hX
    subst hX0
    refine (hnil rfl).mono ?_
    rintro x w' ⟨rfl, rfl⟩
    exact ⟨rfl, Kd.R_nil _ _ _ _ _, hB, Kept.refl _ _⟩
  · have hi := reps_flat (d := d) hM hsz hk hk0 hrep
    have hF : (flatK enc k l.toArray).size = l.length * k := by rw [size_flatK]; simp
    have hg : g < w.heap.size := (Array.getElem?_eq_some_iff.1 hh).1
    have hH : HoldsK enc k w g 0 l.toArray := holds_cells hh (by rw [hF, ← hi, ← ht, hsz])
    refine (hsome g c hH hg).mono ?_
    rintro x w' ⟨rfl, n, os, rfl⟩
    have hFX : (flatK enc k X.toArray).size = l.length * k := by rw [size_flatK, ← hX]; simp
    have hgr : w.grownBy (sortWorldK enc k w g 0 n X.toArray os) (some g) := grownBy_sortedV _
    have hcs : cur.size = c * k := by rw [hs, hsz]
    have hlec : l.length * k ≤ c * k := Nat.mul_le_mul_right _ hnc
    refine ⟨rfl, ⟨fun j hj => .inl (hok j hj), (flatK enc k X.toArray).toList, ⟨by rw [Array.length_toList, hFX, hX, hsz], .inr ⟨g, c, _, by rw [hX], hb, heap_sortedV _ hh, by omega, hcm, by simp [putCells, hs], ?_⟩⟩, flat_reps hM' hsz hk hk0 _ _ _ X⟩,
      hB.grown hgr hB.size (fun j hj => by injection hj with hj; omega), Kept.of_grown hgr (Kept.refl w _) (fun j hj => .inl (hok j hj))⟩
    rw [hX, hsz, ← hFX]
    exact take_putCellsV cur _ (by rw [hFX]; omega)
end Go.Proofs.Ytbacepkkamfeoaa.Stb
