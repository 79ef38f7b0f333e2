/-
  Short words for what the printed walks say often: a proof that stands as a word's default, over the names that the walks give their facts.
-/
import Derived.Test.YtppgealmedaihaaFar
namespace Go.Proofs.Ytppgealmedaihaa.Short
open Go Go.RowKit Go.Proofs.YtppgealmedaihaaW.PrintWords Go.Proofs.YtppgealmedaihaaW.PrintLast Go.Proofs.YtppgealmedaihaaW.PrintMore
theorem tB0 {p : Prop} (h : p := by repeat (first | (with_reducible first | exact HB.out | apply bA | apply bN | apply bD) | exact HB.out)) : p := h
theorem tB1 {p q : Prop} (g : Aside0 q) (h : Aside0 q → p := by (intro G_; repeat (first | (with_reducible first | exact HB.out | apply bA | apply bN | apply bD | refine bS ?_ G_.out) | exact HB.out))) : p := h g
theorem tB2 {p q r : Prop} (g : Aside0 q) (g' : Aside0 r) (h : Aside0 q → Aside0 r → p := by (intro G_ G'_; repeat (first | (with_reducible first | exact HB.out | apply bA | apply bN | apply bD | refine bS ?_ G_.out | refine bS ?_ G'_.out) | exact HB.out))) : p := h g g'
theorem tH {p : Prop} (h : p := by repeat (first | (with_reducible first | exact HK.out | apply KeepBut.set_ | apply keep_drewN | apply keep_drew | apply keep_alloc) | exact HK.out)) : p := h
theorem tK {p q : Prop} (g : Aside0 q) (h : Aside0 q → p := by (intro G_; (with_reducible repeat first | refine kN ?_ _ | refine kD ?_ | refine kA ?_ _); exact G_.out)) : p := h g
theorem tR {p q : Prop} (g : Aside0 q) (h : Aside0 q → p := by (intro G_; (with_reducible repeat first | apply rA | apply rN | apply rD); exact G_.out)) : p := h g
theorem tM {p : Prop} (h : p := by ((try simp only [mA, mC, mN]); first | done | rfl | (simp only [lD, lT]; rfl))) : p := h
theorem tE {p : Prop} (h : p := by first | rfl | (simp [errW_none, errW_some] <;> rfl) | (simp [*, errW_none, errW_some] <;> rfl)) : p := h
theorem tS {p : Prop} (h : p := by first | rfl | (simp; done) | (simp [*]; done)) : p := h
theorem tC {p q : Prop} (g : Aside0 q) (h : Aside0 q → p := by (intro G_; repeat (first | exact (Kd.R_reads' G_.out).2.2 | (with_reducible refine Kd.C_alloc ?_ _) | (with_reducible refine Kd.C_drewN ?_ _) | (with_reducible refine Kd.C_drew ?_)))) : p := h g
theorem tL {p q : Prop} (t n : Int) (g : Aside0 q) (h : Aside0 q → t < n → p := by (intro G_ h_; first | exact h_ | (have e_ := (Kd.R_reads' G_.out).1; omega) | simpa using h_)) (d : decide (t < n) = true := by assumption) : p := h g (of_decide_eq_true d)
theorem ff_ : ¬ (false = true) := by decide
theorem bY {α β : Type} {v : α} {f : α → Option β} {r : Option β} (H : (some v).bind f = r) {y : α} (hy : y = v) : f y = r := by subst hy; exact (Option.bind_some _ _).symm.trans H
theorem cB {w w' : World} (hb : Aside0 (Below w.heap.size w w')) {p : Addr} {v : Value} (h : w.cell? p = some v) : w'.cell? p = some v := (hb.out.cell (World.block_lt_of_cell? w _ h)).trans h
theorem dK {w : World} {g : Nat} {o : Obj} (h : Aside0 (w.heap[g]? = some o)) : Aside0 (w.drew.heap[g]? = some o) := ⟨blk_drew h.out⟩
theorem dB {b : Nat} {u w : World} (h : Aside0 (Below b u w)) : Aside0 (Below b u w.drew) := ⟨below_drew1 h.out⟩
theorem dR {α : Type} {d : Kd α} {e base : Nat} {ok : Nat → Prop} {w : World} {v : Value} {xs : List α} (h : Aside0 (d.R e w base ok v xs)) : Aside0 (d.R e w.drew base ok v xs) := ⟨Kd.R_drew h.out⟩
section
variable {P : Program} {ops : Array Oper} {Q : Exit → Act → World → Prop} {md : Region.Mode} {S : World → Prop} {ds : List Nat}
theorem pp (i n : Nat) {T : Bool × List (List Nat × List Nat)} {oi : Oper} {v : Value} {fuel : Nat} {l : Array Bool} {a : Act} {w : World} (l' : Array Bool) {a' : Act} (h : wpAnyLast P md ops Q S ds fuel l' a' w) (hi : ops[i]? = some oi := by rfl) (hN : oi.dst = some n := by rfl) (hT : Aside0 (rtab md ops = T) := by exact HT_) (hc : anyT T l.toList l'.toList i = true := by kernel_rfl) (hw : Region.wanted oi (yielded ops a.tmps) = true := by rfl) (hv : ∀ w', (execOp a.eval oi).run P w' = .ok (.value v) w' := by (intro w'; go_simp; with_reducible rfl)) (ha : a.put (some n) v = a' := by (simp only [Act.put, sA, sZ, sS, i64_w]; rfl)) (hQ : ∀ c a w, Q (.panic c) (a.put oi.dst v) w → Q (.panic c) a w := by exact fun _ _ _ h => h) : wpAnyLast P md ops Q S ds (fuel + 1) l a w :=
  pure_ (i := i) (N := some n) l' hi hN (any_of hT.out hc) hQ (Or.inl ⟨hw, hv⟩) ha h
theorem pu (i n : Nat) {T : Bool × List (List Nat × List Nat)} {oi : Oper} {fuel : Nat} {l : Array Bool} {a : Act} {w : World} (l' : Array Bool) {a' : Act} (h : wpAnyLast P md ops Q S ds fuel l' a' w) (hi : ops[i]? = some oi := by rfl) (hN : oi.dst = some n := by rfl) (hT : Aside0 (rtab md ops = T) := by exact HT_) (hc : anyT T l.toList l'.toList i = true := by kernel_rfl) (hw : Region.wanted oi (yielded ops a.tmps) = false := by rfl) (ha : a.put (some n) undef = a' := by (simp only [Act.put, sA, sZ, sS, i64_w]; rfl)) (hQ : ∀ c a w, Q (.panic c) (a.put oi.dst undef) w → Q (.panic c) a w := by exact fun _ _ _ h => h) : wpAnyLast P md ops Q S ds (fuel + 1) l a w :=
  pure_ (i := i) (N := some n) l' hi hN (any_of hT.out hc) hQ (Or.inr ⟨hw, rfl⟩) ha h
theorem tk (i n : Nat) {T : Bool × List (List Nat × List Nat)} {B : List Nat} {oi : Oper} {v : Value} {fuel : Nat} {l : Array Bool} {a : Act} {w : World} (l' : Array Bool) (hS : S w) {a' : Act} (h : wpAnyLast P md ops Q S ds fuel l' a' w) (hi : ops[i]? = some oi := by rfl) (hN : oi.dst = some n := by rfl) (hT : Aside0 (rtab md ops = T) := by exact HT_) (hB : Aside0 (waitsOk T.2 B = true) := by exact HW_) (hc : takeW T B ds l.toList l'.toList i = true := by kernel_rfl) (hw : Region.wanted oi (yielded ops a.tmps) = true := by rfl) (hv : ∀ w', S w' → (execOp a.eval oi).run P w' = .ok (.value v) w' := by (intro w' s_; go_simp; with_reducible rfl)) (ha : a.put (some n) v = a' := by (simp only [Act.put, sA, sZ, sS, i64_w]; rfl)) (hQ : ∀ c a w, Q (.panic c) (a.put oi.dst v) w → Q (.panic c) a w := by exact fun _ _ _ h => h) : wpAnyLast P md ops Q S ds (fuel + 1) l a w :=
  take_ (i := i) (N := some n) l' hi hN (take_ofW hT.out hB.out hc) hQ (Or.inl ⟨hw, hv⟩) hS ha h
theorem on (i n : Nat) {T : Bool × List (List Nat × List Nat)} {oi : Oper} {fuel : Nat} {l : Array Bool} {a : Act} {w : World} (l' : Array Bool) (h : ∀ K : Act → World → Prop, Shut (∀ a' w', S w' → (S w' → wpAnyLast P md ops Q S ds fuel l' a' w') → K a' w') → if Region.wanted oi (yielded ops a.tmps) = true then Oper.wp P oi a w K Q else K (a.put (some n) undef) w) (hi : ops[i]? = some oi := by rfl) (hN : oi.dst = some n := by rfl) (hT : Aside0 (rtab md ops = T) := by exact HT_) (hc : (readyT T.2 l.toList == [i] && l.toList.set i true == l'.toList) = true := by kernel_rfl) (hd : i ∉ ds := by decide) : wpAnyLast P md ops Q S ds (fuel + 1) l a w :=
  one_ (i := i) (N := some n) l' hi hN (one_of hT.out hc) hd h
end
theorem put5 {w u : World} {g : Nat} {t : TypeId} {c0 c1 c2 c3 c4 : Value} (h : Aside0 (w.heap[g]? = some (.cells #[c0, c1, c2, c3, c4] t (0, 0)))) (hB : Aside0 (Below u.heap.size u w)) (hg : Aside0 (u.heap.size ≤ g)) (u0 u1 u2 u3 u4 : Value) :
    Aside0 ((((((w.setCell ⟨g, 0, none⟩ u0).setCell ⟨g, 1, none⟩ u1).setCell ⟨g, 2, none⟩ u2).setCell ⟨g, 3, none⟩ u3).setCell ⟨g, 4, none⟩ u4).heap[g]? = some (.cells #[u0, u1, u2, u3, u4] t (0, 0))) ∧
    Aside0 (Below u.heap.size u (((((w.setCell ⟨g, 0, none⟩ u0).setCell ⟨g, 1, none⟩ u1).setCell ⟨g, 2, none⟩ u2).setCell ⟨g, 3, none⟩ u3).setCell ⟨g, 4, none⟩ u4)) :=
  ⟨⟨blk_put (blk_put (blk_put (blk_put (blk_put h.out 0 u0 rfl) 1 u1 rfl) 2 u2 rfl) 3 u3 rfl) 4 u4 rfl⟩, ⟨bS (bS (bS (bS (bS hB.out hg.out) hg.out) hg.out) hg.out) hg.out⟩⟩
end Go.Proofs.Ytppgealmedaihaa.Short
