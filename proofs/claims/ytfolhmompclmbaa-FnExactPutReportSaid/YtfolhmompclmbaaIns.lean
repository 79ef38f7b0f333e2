/-
  Rows of cells where a row is put in between: what the copies of slices.Insert leave, at elements of several cells.
-/
import Derived.Test.YtfolhmompclmbaaWKept
import Derived.Test.YtfolhmompclmbaaWZeros
import Derived.Test.YtfolhmompclmbaaWMore
import Derived.Shelf.Spec.SlicesInsert
import Derived.Lib.AppendZerosOnto
import Derived.Laws.IdiomCopy
set_option linter.unusedVariables false
set_option linter.unusedSimpArgs false
namespace Go.Proofs.Ytfolhmompclmbaa.Ins
open Go Go.RowKit Go.Proofs.YtfolhmompclmbaaW.PrintWords Go.Proofs.YtfolhmompclmbaaW.PrintLast Go.Proofs.YtfolhmompclmbaaW.PrintMore Go.Proofs.YtfolhmompclmbaaW.PrintWords.Kd
section
variable {P : Program}
theorem copy_run (w : World) (dT sT ty elem : TypeId) (b o dLen dCap : Nat) (a : Addr) (sLen sCap sz : Nat) (cs : List Value)
    (hu : P.underlying dT = some (.slice elem)) (hs : (P.info? elem).map (·.size) = some sz) (hn : cs.length = Nat.min sLen dLen * sz)
    (hsrc : ∀ j v, cs[j]? = some v → w.cell? (a.add j) = some v) (hc : ∀ j, j < cs.length → (w.cell? ⟨b, o + j, none⟩).isSome = true) (hf : ∀ j, j < cs.length → w.frozen? ⟨b, o + j, none⟩ = false) (h1 : ∀ v ∈ cs, v.oneCell' = true) :
    (Builtin.copy_ #[dT, sT] ty #[.slice (some ⟨b, o, none⟩) dLen dCap, .slice (some a) sLen sCap]).run P w = .ok (goInt (Nat.min sLen dLen)) (w.setCells b o cs) := by
  have hl := run_loadCells_list (P := P) w a cs hsrc
  have hst := run_storeCells_cells (P := P) b o cs 0 w (by simpa using hc) (by simpa using hf) h1
  cases hq : P.info? elem with
  | none => simp [hq] at hs
  | some i =>
    have hi : i.size = sz := by simpa [hq] using hs
    simp [Builtin.copy_, run_underlying hu, Builtin.lenOf, Builtin.firstCells, sizeOf, typeInfo, hq, hi, ← hn, hl, hst]
end
/-- A part of a row of cells, written anew. -/
def setL (l : List Value) (o : Nat) (vs : List Value) : List Value := l.take o ++ vs ++ l.drop (o + vs.length)
theorem setL_len (l : List Value) (o : Nat) (vs : List Value) (h : o + vs.length ≤ l.length) : (setL l o vs).length = l.length := by
  simp only [setL, List.length_append, List.length_take, List.length_drop]
  omega
theorem setL_cons (l : List Value) (o : Nat) (v : Value) (r : List Value) (h : o < l.length) : setL (l.set o v) (o + 1) r = setL l o (v :: r) := by
  have h1 : (l.set o v).take (o + 1) = l.take o ++ [v] := by
    rw [List.take_add_one, List.take_set_of_le (Nat.le_refl _)]
    simp [h]
  have h2 : (l.set o v).drop (o + 1 + r.length) = l.drop (o + (v :: r).length) := by
    rw [List.drop_set_of_lt (by omega)]
    congr 1
    simp only [List.length_cons]
    omega
  unfold setL
  rw [h1, h2]
  simp
theorem blk_setCells (b : Nat) (t : TypeId) : ∀ (vs : List Value) (o : Nat) (w : World) (cs : List Value), w.heap[b]? = some (.cells cs.toArray t (0, 0)) → o + vs.length ≤ cs.length → (w.setCells b o vs).heap[b]? = some (.cells (setL cs o vs).toArray t (0, 0))
  | [], o, w, cs, h, hl => by
    rw [World.setCells, h]
    simp [setL]
  | v :: r, o, w, cs, h, hl => by
    simp only [List.length_cons] at hl
    have h1 := blk_set h o v
    rw [List.setIfInBounds_toArray] at h1
    rw [World.setCells, blk_setCells b t r (o + 1) _ (cs.set o v) h1 (by rw [List.length_set]; omega), setL_cons cs o v r (by omega)]
theorem far_setCells (b k : Nat) (hk : k ≠ b) : ∀ (vs : List Value) (o : Nat) (w : World), (w.setCells b o vs).heap[k]? = w.heap[k]?
  | [], o, w => rfl
  | v :: r, o, w => by
    rw [World.setCells, far_setCells b k hk r (o + 1)]
    exact Below.heap_setCell w ⟨b, o, none⟩ v k hk
theorem size_setCells (b : Nat) : ∀ (vs : List Value) (o : Nat) (w : World), (w.setCells b o vs).heap.size = w.heap.size
  | [], o, w => rfl
  | v :: r, o, w => by
    rw [World.setCells, size_setCells b r (o + 1)]
    simp [World.setCell]
theorem os_setCells (b : Nat) : ∀ (vs : List Value) (o : Nat) (w : World), (w.setCells b o vs).os = w.os ∧ (w.setCells b o vs).tape = w.tape ∧ (w.setCells b o vs).output = w.output
  | [], o, w => ⟨rfl, rfl, rfl⟩
  | v :: r, o, w => by
    rw [World.setCells]
    exact os_setCells b r (o + 1) _
theorem grown_setCells (w : World) (b o : Nat) (vs : List Value) : w.grownBy (w.setCells b o vs) (some b) :=
  ⟨(os_setCells b vs o w).1, (os_setCells b vs o w).2.1, (os_setCells b vs o w).2.2, by rw [size_setCells]; exact Nat.le_refl _, fun k _ hk => far_setCells b k (fun e => hk (by rw [e])) vs o w⟩
theorem grown_drew (w : World) (row : Option Nat) : w.grownBy w.drew row := ⟨rfl, rfl, rfl, Nat.le_refl _, fun k _ _ => rfl⟩
theorem grown_trans {w w1 w2 : World} {row : Option Nat} (h : w.grownBy w1 row) (h' : w1.grownBy w2 row) : w.grownBy w2 row :=
  ⟨h'.os.trans h.os, h'.tape.trans h.tape, h'.output.trans h.output, Nat.le_trans h.size h'.size, fun k hk hn => (h'.block k (Nat.lt_of_lt_of_le hk h.size) hn).trans (h.block k hk hn)⟩
/-- First what stood behind, then the new: from I on. -/
theorem shift_list (cur cs vs : List Value) (I N : Nat) (hI : I ≤ N) (hcs : cur.take N = cs) (hl : N + vs.length ≤ cur.length) :
    (setL (setL cur (I + vs.length) (cs.drop I)) I vs).take (N + vs.length) = cs.take I ++ vs ++ cs.drop I := by
  have hcl : cs.length = N := by rw [← hcs, List.length_take]; omega
  have hD : (cs.drop I).length = N - I := by rw [List.length_drop, hcl]
  have h1 : (setL cur (I + vs.length) (cs.drop I)).take I = cs.take I := by
    unfold setL
    rw [List.append_assoc, List.take_append_of_le_length (by rw [List.length_take]; omega), List.take_take, Nat.min_eq_left (by omega), ← hcs, List.take_take, Nat.min_eq_left hI]
  have h2 : (setL cur (I + vs.length) (cs.drop I)).drop (I + vs.length) = cs.drop I ++ cur.drop (I + vs.length + (cs.drop I).length) := by
    unfold setL
    rw [List.append_assoc, List.drop_append_of_le_length (by rw [List.length_take]; omega), List.drop_of_length_le (by rw [List.length_take]; omega), List.nil_append]
  rw [setL, h1, h2, ← List.append_assoc]
  exact List.take_left' (by rw [List.length_append, List.length_append, hD, List.length_take, hcl]; omega)
/-- First the new, then what stood behind. -/
theorem grow_list (cur cs vs : List Value) (I N : Nat) (hI : I ≤ N) (hcl : cs.length = N) (hcs : cur.take I = cs.take I) (hl : N + vs.length ≤ cur.length) :
    (setL (setL cur I vs) (I + vs.length) (cs.drop I)).take (N + vs.length) = cs.take I ++ vs ++ cs.drop I := by
  have hD : (cs.drop I).length = N - I := by rw [List.length_drop, hcl]
  have h1 : (setL cur I vs).take (I + vs.length) = cs.take I ++ vs := by
    unfold setL
    rw [hcs]
    exact List.take_left' (by rw [List.length_append, List.length_take, hcl]; omega)
  rw [setL, h1]
  exact List.take_left' (by rw [List.length_append, List.length_append, hD, List.length_take, hcl]; omega)
section
variable {α : Type} {R : α → List Value → Prop} {sz : Nat} {ps : List α} {cs : List Value}
theorem reps_take (h : Reps R sz ps cs) (i : Nat) (hi : i ≤ ps.length) : Reps R sz (ps.take i) (cs.take (i * sz)) := by
  have hle : i * sz ≤ cs.length := by rw [h.1]; exact Nat.mul_le_mul_right _ hi
  refine ⟨by rw [List.length_take, List.length_take, Nat.min_eq_left hle, Nat.min_eq_left hi], fun j p hj => ?_⟩
  rw [List.getElem?_take] at hj
  split at hj
  · rename_i hlt
    have h2 := h.2 j p hj
    have h3 : j * sz + sz ≤ i * sz := by rw [← Nat.succ_mul]; exact Nat.mul_le_mul_right _ hlt
    rw [List.drop_take, List.take_take, Nat.min_eq_left (by omega)]
    exact h2
  · cases hj
theorem reps_drop (h : Reps R sz ps cs) (i : Nat) (hi : i ≤ ps.length) : Reps R sz (ps.drop i) (cs.drop (i * sz)) := by
  refine ⟨by rw [List.length_drop, List.length_drop, h.1, Nat.sub_mul], fun j p hj => ?_⟩
  rw [List.getElem?_drop] at hj
  have h2 := h.2 (i + j) p hj
  rw [List.drop_drop, ← Nat.add_mul]
  exact h2
theorem reps_ins {qs : List α} {ds : List Value} (h : Reps R sz ps cs) (h' : Reps R sz qs ds) (i : Nat) (hi : i ≤ ps.length) : Reps R sz (ps.take i ++ qs ++ ps.drop i) (cs.take (i * sz) ++ ds ++ cs.drop (i * sz)) :=
  reps_append (reps_append (reps_take h i hi) h') (reps_drop h i hi)
theorem reps_one {d : Kd α} {w : World} {base : Nat} {ok : Nat → Prop} {qs : List α} {ds : List Value} (h : Reps (d.M w base ok) d.sz qs ds) (hs : 0 < d.sz) : ∀ u ∈ ds, u.oneCell' = true := by
  intro u hu
  obtain ⟨q, hq, rfl⟩ := List.mem_iff_getElem.1 hu
  have hql : q / d.sz < qs.length := by
    rw [Nat.div_lt_iff_lt_mul hs, ← h.1]
    exact hq
  have hc := h.2 (q / d.sz) _ (List.getElem?_eq_getElem hql)
  refine d.K_one (d.K_of_M hc) _ ?_
  rw [List.mem_iff_getElem?]
  refine ⟨q % d.sz, ?_⟩
  rw [List.getElem?_take, if_pos (Nat.mod_lt _ hs), List.getElem?_drop, Nat.mul_comm, Nat.div_add_mod, List.getElem?_eq_getElem hq]
end
def Flat {α : Type} (d : Kd α) : Prop := ∀ (w w' : World) (b b' : Nat) (ok ok' : Nat → Prop) (x : α) (cs : List Value), d.M w b ok x cs → d.M w' b' ok' x cs
theorem R_cells {α : Type} {d : Kd α} {e base g c : Nat} {ok : Nat → Prop} {w W : World} {b : Nat} {ok' : Nat → Prop} {ps : List α} {inner : List Value} {cur : List Value} (hd : Flat d) (hb : base ≤ g) (hh : W.heap[g]? = some (.cells cur.toArray e (0, 0))) (hn : ps.length ≤ c) (hc : c ≤ maxLen) (hs : cur.length = c * d.sz)
    (ht : cur.take (ps.length * d.sz) = inner) (hr : Reps (d.M w b ok') d.sz ps inner) (hok : ok g) : d.R e W base ok (.slice (some ⟨g, 0, none⟩) ps.length c) ps :=
  ⟨fun k hk => by simp [Value.ownBlock] at hk; rw [← hk]; exact hok, inner, ⟨hr.1, .inr ⟨g, c, cur.toArray, rfl, hb, hh, hn, hc, by simpa using hs, by simpa using ht⟩⟩, hr.imp_ (fun _ _ hp => hd _ _ _ _ _ _ _ _ hp)⟩
end Go.Proofs.Ytfolhmompclmbaa.Ins
