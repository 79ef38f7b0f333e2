-- Mine: what laws.markReportS leaves in a row of structs with rows.
import Derived.Test.YtfolhmompclmbaaPFnExactPutReportx0
import Derived.Test.YtfolhmompclmbaaPFnExactPutReportx3
import Derived.Test.YtfolhmompclmbaaPFnExactPutReportx9
namespace Go.Proofs.Ytfolhmompclmbaa.PFnExactPutReport
open Go.RowKit Go.Proofs.YtfolhmompclmbaaW.PrintWords Go.Proofs.YtfolhmompclmbaaW.PrintLast Go.Proofs.YtfolhmompclmbaaW.PrintMore Go.Proofs.Ytfolhmompclmbaa.Short
attribute [local go_sem] max2_int min2_int max_two min_two max_three min_three max_four min_four   -- for this text's walks alone
set_option linter.unusedVariables false
set_option linter.unusedSimpArgs false
/-- Only the cells of T are written. -/
structure Chg (T : Addr → Prop) (w w' : World) : Prop where
  os : w'.os = w.os
  tape : w'.tape = w.tape
  output : w'.output = w.output
  size : w.heap.size ≤ w'.heap.size
  kept : ∀ i, i < w.heap.size → (∀ o, ¬ T ⟨i, o, none⟩) → w'.heap[i]? = w.heap[i]?
  cells : ∀ p, ¬ T p → w'.cell? p = w.cell? p
  frozen : ∀ p, w'.frozen? p = w.frozen? p
theorem Chg.refl (T : Addr → Prop) (w : World) : Chg T w w := ⟨rfl, rfl, rfl, Nat.le_refl _, fun _ _ _ => rfl, fun _ _ => rfl, fun _ => rfl⟩
theorem Chg.trans {T : Addr → Prop} {w w1 w2 : World} (h : Chg T w w1) (g : Chg T w1 w2) : Chg T w w2 :=
  ⟨g.os.trans h.os, g.tape.trans h.tape, g.output.trans h.output, Nat.le_trans h.size g.size, fun i hi hn => (g.kept i (Nat.lt_of_lt_of_le hi h.size) hn).trans (h.kept i hi hn), fun p hp => (g.cells p hp).trans (h.cells p hp), fun p => (g.frozen p).trans (h.frozen p)⟩
theorem Chg.mono {T T' : Addr → Prop} {w w1 : World} (h : Chg T w w1) (hT : ∀ p, T p → T' p) : Chg T' w w1 :=
  ⟨h.os, h.tape, h.output, h.size, fun i hi hn => h.kept i hi (fun o ht => hn o (hT _ ht)), fun p hp => h.cells p (fun ht => hp (hT p ht)), h.frozen⟩
theorem Chg.drew {T : Addr → Prop} {w w1 : World} (h : Chg T w w1) : Chg T w w1.drew := ⟨h.os, h.tape, h.output, h.size, h.kept, h.cells, h.frozen⟩
theorem Chg.drewN {T : Addr → Prop} {w w1 : World} (h : Chg T w w1) (m : Nat) : Chg T w (w1.drewN m) := ⟨h.os, h.tape, h.output, h.size, h.kept, h.cells, h.frozen⟩
theorem Chg.set {T : Addr → Prop} {w w1 : World} (h : Chg T w w1) {g o : Nat} (hs : T ⟨g, o, none⟩) (v : Value) : Chg T w (w1.setCell ⟨g, o, none⟩ v) := by
  refine h.trans ⟨rfl, rfl, rfl, by simp [World.setCell], fun i _ hn => Below.heap_setCell w1 ⟨g, o, none⟩ _ i (fun e => hn o (by rw [show i = g from e]; exact hs)), fun q hq => ?_, fun q => World.frozen?_setCell ..⟩
  have e : (⟨g, o, none⟩ : Addr) ≠ q := fun e => hq (e ▸ hs)
  rw [World.cell?_setCell_other (h := e)]
set_option maxHeartbeats 2000000 in
set_option maxRecDepth 100000 in
/-- laws.markIntS: what the row holds behind it. -/
theorem markInt_fill (T : Addr → Prop) (A : Option Addr) (g n c : Nat) (k r : Int) (w : World) (hA : 0 < n → A = some ⟨g, 0, none⟩) (hT : ∀ i : Nat, i < n → T ⟨g, i, none⟩) (hr : ∀ i : Nat, i < n → (∃ x, w.cell? ⟨g, i, none⟩ = some (.int .i64 x)) ∧ w.frozen? ⟨g, i, none⟩ = false) (hc : n ≤ c) (hk : 0 ≤ k ∧ k + (n : Int) ≤ 1000000000000 ∧ r = k + (n : Int)) :
  Calls Try.prog 47 #[.slice A n c, .int .i64 k] w fun e w' => e = .returned (.int .i64 r) ∧ Chg T w w' ∧ ∀ i : Nat, i < n → w'.cell? ⟨g, i, none⟩ = some (.int .i64 (k + (i : Int))) := by
  have HA := Aside0.mk hA
  have HT := Aside0.mk hT
  have HR := Aside0.mk hr
  have HK := Aside0.mk hk
  have HC := Aside0.mk hc
  have HE := Aside0.mk (Chg.refl T w)
  have HD := Aside0.mk (show ∀ j : Nat, j < 0 → w.cell? ⟨g, j, none⟩ = some (.int .i64 (k + (j : Int))) from fun j hj => absurd hj (Nat.not_lt_zero j))
  clear hA hT hr hk hc
  go_enter Try.func47, Try.ntmps47
  go_wp2
  go_loopg [1, 5] (n + 1) (fun gg v1 v5 wr => ∃ i : Nat, v1 = .int .i64 (k + (i : Int)) ∧ v5 = .int .i64 (i : Int) ∧ Aside0 (i ≤ n ∧ gg + i = n + 1) ∧ Aside0 (Chg T w wr) ∧ Aside0 (∀ j : Nat, j < i → wr.cell? ⟨g, j, none⟩ = some (.int .i64 (k + (j : Int)))) ∧ Aside0 (∀ j : Nat, i ≤ j → j < n → wr.cell? ⟨g, j, none⟩ = w.cell? ⟨g, j, none⟩))
  case atStart => exact ⟨0, by simp, rfl, ⟨Nat.zero_le _, rfl⟩, HE, HD, ⟨fun _ _ _ => rfl⟩⟩
  case round =>
    obtain ⟨i, rfl, rfl, HI, HE, HD, HU⟩ := hrel
    by_cases hlt : (i : Int) < (n : Int)
    · have hlt2 : i < n := by omega
      obtain rfl := HA.out (by omega)
      obtain ⟨⟨x, hx0⟩, hf0⟩ := HR.out i hlt2
      have hx := (HU.out i (Nat.le_refl _) hlt2).trans hx0
      have HX := Aside0.mk hx
      have hf : World.frozen? _ ⟨g, i, none⟩ = false := (HE.out.frozen _).trans hf0
      have hw1 : wrap64 (k + (i : Int) + 1) = k + ((i + 1 : Nat) : Int) := by have := HK.out; unfold wrap64; omega
      have hw2 : wrap64 ((i : Int) + 1) = ((i + 1 : Nat) : Int) := by have := HK.out; unfold wrap64; omega
      have hd : decide ((i : Int) < (n : Int)) = true := decide_eq_true hlt
      have hd2 : (i < n) = True := eq_true hlt2
      have HL := Aside0.mk hlt2
      have p5 : (0 ≤ (i : Int)) = True := eq_true (by omega)
      have q5 : ((i : Int) < (n : Int)) = True := eq_true hlt
      clear hlt hlt2 hx0 hf0
      go_wp2
      go_roundg (n - i)
      case measure => have := HI.out; have := HL.out; omega
      case rel =>
        refine ⟨i + 1, by first | rfl | (simp; done) | (simp [*]; done), by first | rfl | (simp; done) | (simp [*]; done), ⟨by have := HI.out; have := HL.out; omega⟩, ⟨HE.out.set (HT.out i HL.out) _⟩, ⟨fun j hj => ?_⟩, ⟨fun j hj hn => ?_⟩⟩
        · by_cases e : j = i
          · subst e
            exact World.cell?_setCell_same (h := HX.out) ..
          · have e2 : (⟨g, i, none⟩ : Addr) ≠ ⟨g, j, none⟩ := fun h => e (by injection h with _ h; exact h.symm)
            rw [World.cell?_setCell_other (h := e2)]
            exact HD.out j (by omega)
        · have e2 : (⟨g, i, none⟩ : Addr) ≠ ⟨g, j, none⟩ := fun h => by
            injection h with _ h
            omega
          rw [World.cell?_setCell_other (h := e2)]
          exact HU.out j (by omega) hn
    · have hd : decide ((i : Int) < (n : Int)) = false := decide_eq_false hlt
      have hd2 : (i < n) = False := eq_false (by omega)
      have HL := Aside0.mk hlt
      clear hlt
      have HQ := Aside0.mk (show k + (i : Int) = r by have := HI.out; have := HK.out; have := HL.out; omega)
      go_wp2
      go_ret
      exact ⟨by rw [HQ.out]; rfl, HE.out, fun j hj => HD.out j (by have := HL.out; omega)⟩
set_option maxHeartbeats 2000000 in
set_option maxRecDepth 100000 in
/-- laws.heldIntS over a row that holds k, k + 1, .. -/
theorem heldInt_read (A : Option Addr) (g n c : Nat) (k r : Int) (w : World) (hA : 0 < n → A = some ⟨g, 0, none⟩) (hr : ∀ i : Nat, i < n → w.cell? ⟨g, i, none⟩ = some (.int .i64 (k + (i : Int)))) (hc : n ≤ c) (hk : 0 ≤ k ∧ k + (n : Int) ≤ 1000000000000 ∧ r = k + (n : Int)) :
  Calls Try.prog 48 #[.slice A n c, .int .i64 k] w fun e w' => e = .returned (.int .i64 r) ∧ Below w.heap.size w w' := by
  have HA := Aside0.mk hA
  have HR := Aside0.mk hr
  have HK := Aside0.mk hk
  have HC := Aside0.mk hc
  have HB := Aside0.mk (Below.refl w.heap.size w)
  clear hA hr hk hc
  go_enter Try.func48, Try.ntmps48
  go_wp2
  go_loopg [1, 5] (n + 1) (fun gg v1 v5 wr => ∃ i : Nat, v1 = .int .i64 (k + (i : Int)) ∧ v5 = .int .i64 (i : Int) ∧ Aside0 (i ≤ n ∧ gg + i = n + 1) ∧ Aside0 (Below w.heap.size w wr))
  case atStart => exact ⟨0, by simp, rfl, ⟨Nat.zero_le _, rfl⟩, HB⟩
  case round =>
    obtain ⟨i, rfl, rfl, HI, HB⟩ := hrel
    by_cases hlt : (i : Int) < (n : Int)
    · have hlt2 : i < n := by omega
      obtain rfl := HA.out (by omega)
      have hx0 := HR.out i hlt2
      have hx := (HB.out.cell (World.block_lt_of_cell? w _ hx0)).trans hx0
      have hw1 : wrap64 (k + (i : Int) + 1) = k + ((i + 1 : Nat) : Int) := by have := HK.out; unfold wrap64; omega
      have hw2 : wrap64 ((i : Int) + 1) = ((i + 1 : Nat) : Int) := by have := HK.out; unfold wrap64; omega
      have hd : decide ((i : Int) < (n : Int)) = true := decide_eq_true hlt
      have hd2 : (i < n) = True := eq_true hlt2
      have HL := Aside0.mk hlt2
      have p5 : (0 ≤ (i : Int)) = True := eq_true (by omega)
      have q5 : ((i : Int) < (n : Int)) = True := eq_true hlt
      clear hlt hlt2 hx0
      go_wp2
      go_roundg (n - i)
      case measure => have := HI.out; have := HL.out; omega
      case rel => exact ⟨i + 1, by first | rfl | (simp; done) | (simp [*]; done), by first | rfl | (simp; done) | (simp [*]; done), ⟨by have := HI.out; have := HL.out; omega⟩, HB⟩
    · have hd : decide ((i : Int) < (n : Int)) = false := decide_eq_false hlt
      have hd2 : (i < n) = False := eq_false (by omega)
      have HL := Aside0.mk hlt
      clear hlt
      have HQ := Aside0.mk (show k + (i : Int) = r by have := HI.out; have := HK.out; have := HL.out; omega)
      go_wp2
      go_ret
      exact ⟨by rw [HQ.out]; rfl, HB.out⟩
/-! ### laws.markReportS, all of it: what its row holds behind it -/
/-- The numbers k, k + 1, .. -/
def upTo (k : Int) (n : Nat) : List Int := (List.range n).map (fun i : Nat => k + (i : Int))
theorem upTo_len (k : Int) (n : Nat) : (upTo k n).length = n := by rw [upTo, List.length_map, List.length_range]
theorem upTo_get (k : Int) (n j : Nat) (y : Int) (h : (upTo k n)[j]? = some y) : j < n ∧ y = k + (j : Int) := by
  obtain ⟨hj, e⟩ := List.getElem?_eq_some_iff.1 h
  rw [upTo_len] at hj
  refine ⟨hj, ?_⟩
  rw [← e]
  simp [upTo]
/-- A marked element. -/
def mkElt (k : Int) (n2 n5 : Nat) : S29 := ⟨k, k + 1, upTo (k + 1 + 1) n2, k + 1 + 1 + (n2 : Int), k + 1 + 1 + (n2 : Int) + 1, upTo (k + 1 + 1 + (n2 : Int) + 1 + 1) n5, (⟨k + 1 + 1 + (n2 : Int) + 1 + 1 + (n5 : Int), k + 1 + 1 + (n2 : Int) + 1 + 1 + (n5 : Int) + 1⟩ : S27)⟩
/-- A marked row. -/
def mkList : Int → List S29 → List S29
  | _, [] => []
  | k, y :: r => mkElt k y.f2.length y.f5.length :: mkList (k + (6 + (y.f2.length : Int) + (y.f5.length : Int))) r
theorem mkList_len : ∀ (l : List S29) (k : Int), (mkList k l).length = l.length
  | [], _ => rfl
  | y :: r, k => by rw [mkList, List.length_cons, List.length_cons, mkList_len r]
theorem mkList_get : ∀ (l : List S29) (k : Int) (j : Nat), j < l.length → (mkList k l)[j]? = some (mkElt (k + mkLen (l.take j)) (rd_T29 l (j : Int)).f2.length (rd_T29 l (j : Int)).f5.length)
  | [], _, _, h => absurd h (Nat.not_lt_zero _)
  | y :: r, k, 0, _ => by
    rw [mkList, List.getElem?_cons_zero, List.take_zero, mkLen, Int.add_zero]
    rfl
  | y :: r, k, j + 1, h => by
    have hj : j < r.length := by simpa using h
    rw [mkList, List.getElem?_cons_succ, mkList_get r _ j hj, List.take_succ_cons, mkLen]
    have e : rd_T29 (y :: r) ((j + 1 : Nat) : Int) = rd_T29 r (j : Int) := by simp [rd_T29]
    rw [e]
    congr 1
    congr 1
    omega
/-- Which cells one element has: its own eight, and the blocks that f gives to it. -/
def OfE (f : Nat → Nat) (g s i : Nat) (p : Addr) : Prop := (p.block = g ∧ i * 8 ≤ p.off ∧ p.off < i * 8 + 8) ∨ (p.block ≠ g ∧ f p.block = i ∧ s ≤ p.block)
theorem ofE_g {f : Nat → Nat} {g s i j o : Nat} (h : i ≠ j) (ho : o < 8) : ¬ OfE f g s j ⟨g, i * 8 + o, none⟩ := by
  rintro (⟨_, h1, h2⟩ | ⟨h1, _⟩)
  · simp only at h1 h2
    omega
  · exact h1 rfl
theorem ofE_b {f : Nat → Nat} {g s i j b o : Nat} (h : i ≠ j) (hb : b ≠ g) (hf : f b = i) : ¬ OfE f g s j ⟨b, o, none⟩ := by
  rintro (⟨h1, _⟩ | ⟨_, h1, _⟩)
  · exact hb h1
  · exact h (hf.symm.trans h1)
/-- The two rows of an element: blocks of its own, and two of them. -/
structure Sep (f : Nat → Nat) (g s i n2 n5 b2 b5 : Nat) (A2 A5 : Option Addr) : Prop where
  a2 : 0 < n2 → A2 = some ⟨b2, 0, none⟩ ∧ b2 ≠ g ∧ f b2 = i ∧ s ≤ b2
  a5 : 0 < n5 → A5 = some ⟨b5, 0, none⟩ ∧ b5 ≠ g ∧ f b5 = i ∧ s ≤ b5
  ap : 0 < n2 → 0 < n5 → b2 ≠ b5
/-- A row of numbers that may be written. -/
def RowX (w : World) (b n : Nat) : Prop := ∀ j : Nat, j < n → (∃ x, w.cell? ⟨b, j, none⟩ = some (.int .i64 x)) ∧ w.frozen? ⟨b, j, none⟩ = false
theorem RowX.chg {T : Addr → Prop} {w w1 : World} {b n : Nat} (h : RowX w b n) (hC : Chg T w w1) (hT : 0 < n → ∀ j : Nat, ¬ T ⟨b, j, none⟩) : RowX w1 b n := fun j hj => by
  rw [hC.cells _ (hT (by omega) j), hC.frozen]
  exact h j hj
/-- An element as it was. -/
structure Todo (f : Nat → Nat) (g s : Nat) (w : World) (i n2 n5 : Nat) : Prop where
  c0 : ∃ x, w.cell? ⟨g, i * 8, none⟩ = some (.int .i64 x)
  c1 : ∃ x, w.cell? ⟨g, i * 8 + 1, none⟩ = some (.int .i64 x)
  c3 : ∃ x, w.cell? ⟨g, i * 8 + 3, none⟩ = some (.int .i64 x)
  c4 : ∃ x, w.cell? ⟨g, i * 8 + 4, none⟩ = some (.int .i64 x)
  c6 : ∃ x, w.cell? ⟨g, i * 8 + 6, none⟩ = some (.int .i64 x)
  c7 : ∃ x, w.cell? ⟨g, i * 8 + 7, none⟩ = some (.int .i64 x)
  rs : ∃ A2 c2 b2 A5 c5 b5, Sep f g s i n2 n5 b2 b5 A2 A5 ∧ n2 ≤ c2 ∧ n5 ≤ c5 ∧ w.cell? ⟨g, i * 8 + 2, none⟩ = some (.slice A2 n2 c2) ∧ w.cell? ⟨g, i * 8 + 5, none⟩ = some (.slice A5 n5 c5) ∧ RowX w b2 n2 ∧ RowX w b5 n5
  fr : ∀ j, w.frozen? ⟨g, i * 8 + j, none⟩ = false
/-- A marked element. -/
structure Done (f : Nat → Nat) (g s : Nat) (w : World) (i : Nat) (k : Int) (n2 n5 : Nat) : Prop where
  c0 : w.cell? ⟨g, i * 8, none⟩ = some (.int .i64 k)
  c1 : w.cell? ⟨g, i * 8 + 1, none⟩ = some (.int .i64 (k + 1))
  c3 : w.cell? ⟨g, i * 8 + 3, none⟩ = some (.int .i64 (k + 1 + 1 + (n2 : Int)))
  c4 : w.cell? ⟨g, i * 8 + 4, none⟩ = some (.int .i64 (k + 1 + 1 + (n2 : Int) + 1))
  c6 : w.cell? ⟨g, i * 8 + 6, none⟩ = some (.int .i64 (k + 1 + 1 + (n2 : Int) + 1 + 1 + (n5 : Int)))
  c7 : w.cell? ⟨g, i * 8 + 7, none⟩ = some (.int .i64 (k + 1 + 1 + (n2 : Int) + 1 + 1 + (n5 : Int) + 1))
  rs : ∃ A2 c2 b2 A5 c5 b5, Sep f g s i n2 n5 b2 b5 A2 A5 ∧ n2 ≤ c2 ∧ n5 ≤ c5 ∧ w.cell? ⟨g, i * 8 + 2, none⟩ = some (.slice A2 n2 c2) ∧ w.cell? ⟨g, i * 8 + 5, none⟩ = some (.slice A5 n5 c5) ∧ (∀ j : Nat, j < n2 → w.cell? ⟨b2, j, none⟩ = some (.int .i64 (k + 1 + 1 + (j : Int)))) ∧ (∀ j : Nat, j < n5 → w.cell? ⟨b5, j, none⟩ = some (.int .i64 (k + 1 + 1 + (n2 : Int) + 1 + 1 + (j : Int))))
theorem Todo.chg {f : Nat → Nat} {g s : Nat} {w w1 : World} {i j n2 n5 : Nat} (h : Todo f g s w i n2 n5) (hC : Chg (OfE f g s j) w w1) (hn : i ≠ j) : Todo f g s w1 i n2 n5 := by
  obtain ⟨h0, h1, h3, h4, h6, h7, ⟨A2, c2, b2, A5, c5, b5, hs, l2, l5, e2, e5, r2, r5⟩, hf⟩ := h
  have hq : ∀ o, o < 8 → w1.cell? ⟨g, i * 8 + o, none⟩ = w.cell? ⟨g, i * 8 + o, none⟩ := fun o ho => hC.cells _ (ofE_g hn ho)
  refine ⟨by rw [show w1.cell? ⟨g, i * 8, none⟩ = _ from hq 0 (by decide)]; exact h0, by rw [hq 1 (by decide)]; exact h1, by rw [hq 3 (by decide)]; exact h3, by rw [hq 4 (by decide)]; exact h4, by rw [hq 6 (by decide)]; exact h6, by rw [hq 7 (by decide)]; exact h7, ⟨A2, c2, b2, A5, c5, b5, hs, l2, l5, (hq 2 (by decide)).trans e2, (hq 5 (by decide)).trans e5, r2.chg hC (fun hp j => ofE_b hn (hs.a2 hp).2.1 (hs.a2 hp).2.2.1), r5.chg hC (fun hp j => ofE_b hn (hs.a5 hp).2.1 (hs.a5 hp).2.2.1)⟩, fun j => (hC.frozen _).trans (hf j)⟩
theorem Done.chg {f : Nat → Nat} {g s : Nat} {w w1 : World} {i j : Nat} {k : Int} {n2 n5 : Nat} (h : Done f g s w i k n2 n5) (hC : Chg (OfE f g s j) w w1) (hn : i ≠ j) : Done f g s w1 i k n2 n5 := by
  obtain ⟨h0, h1, h3, h4, h6, h7, ⟨A2, c2, b2, A5, c5, b5, hs, l2, l5, e2, e5, r2, r5⟩⟩ := h
  have hq : ∀ o, o < 8 → w1.cell? ⟨g, i * 8 + o, none⟩ = w.cell? ⟨g, i * 8 + o, none⟩ := fun o ho => hC.cells _ (ofE_g hn ho)
  refine ⟨(hq 0 (by decide)).trans h0, (hq 1 (by decide)).trans h1, (hq 3 (by decide)).trans h3, (hq 4 (by decide)).trans h4, (hq 6 (by decide)).trans h6, (hq 7 (by decide)).trans h7, ⟨A2, c2, b2, A5, c5, b5, hs, l2, l5, (hq 2 (by decide)).trans e2, (hq 5 (by decide)).trans e5, fun o ho => ?_, fun o ho => ?_⟩⟩
  · exact (hC.cells _ (ofE_b hn (hs.a2 (by omega)).2.1 (hs.a2 (by omega)).2.2.1)).trans (r2 o ho)
  · exact (hC.cells _ (ofE_b hn (hs.a5 (by omega)).2.1 (hs.a5 (by omega)).2.2.1)).trans (r5 o ho)
theorem Chg.below {T : Addr → Prop} {w w1 : World} {s : Nat} (h : Chg T w w1) (hs : s ≤ w.heap.size) (hT : ∀ p, T p → s ≤ p.block) : Below s w w1 :=
  ⟨h.os, h.tape, h.output, h.size, fun k hk => h.kept k (by omega) (fun o ht => absurd (hT _ ht) (by simp only; omega))⟩
theorem RowX.of {w : World} {base : Nat} {ok : Nat → Prop} {b n c : Nat} {l : List Int} (h : (Kd.int .i64).R 3 w base ok (.slice (some ⟨b, 0, none⟩) n c) l) : RowX w b n := fun j hj => by
  obtain ⟨h1, h2⟩ := Kd.R_celln 0 h (j : Int) (by omega) (by omega)
  rw [Int.toNat_natCast] at h1 h2
  exact ⟨⟨_, h1⟩, h2⟩
/-- One row of an element, from its owner's fact. -/
theorem row_of {w : World} {base : Nat} {f : Nat → Nat} {ok : Nat → Prop} {g i : Nat} {v : Value} {l : List Int} (h : (Kd.int .i64).R 3 w base (fun k => (ok k ∧ k ≠ g) ∧ f k = i) v l) : ∃ A c b, v = .slice A l.length c ∧ l.length ≤ c ∧ (0 < l.length → A = some ⟨b, 0, none⟩ ∧ b ≠ g ∧ f b = i ∧ base ≤ b) ∧ RowX w b l.length := by
  obtain ⟨A, c, rfl⟩ := Kd.R_slice h
  have hl := (Kd.R_reads' h).2.1
  by_cases hp : 0 < l.length
  · obtain ⟨b, cap, e, hb, _⟩ := Kd.R_form h hp
    injection e with e1 e2 e3
    subst e1
    have ho := h.1 b rfl
    exact ⟨_, c, b, rfl, hl, fun _ => ⟨rfl, ho.1.2, ho.2, hb⟩, RowX.of h⟩
  · exact ⟨A, c, 0, rfl, hl, fun h0 => absurd h0 hp, fun j hj => absurd hj (by omega)⟩
theorem Todo.of {f : Nat → Nat} {w : World} {base : Nat} {ok : Nat → Prop} {g n c : Nat} {l : List S29} (h : (Kd.tag f k29a).R 29 w base ok (.slice (some ⟨g, 0, none⟩) n c) l.zipIdx) (hn : n = l.length) (i : Nat) (hi : i < n) : Todo f g base w i (rd_T29 l (i : Int)).f2.length (rd_T29 l (i : Int)).f5.length := by
  obtain ⟨cs, _, hM, hc, hf⟩ := Kd.R_elem h (z29, i) (i : Int) (by omega) (by omega)
  rw [Int.toNat_natCast] at hM hc hf
  have e : l.zipIdx.getD i (z29, i) = (rd_T29 l (i : Int), i) := by
    have hi2 : i < l.length := by omega
    rw [List.getD_eq_getElem?_getD, List.getElem?_zipIdx, List.getElem?_eq_getElem hi2]
    simp [rd_T29, hi2]
  rw [e] at hM
  obtain ⟨v2, v5, rfl, h2, h5, hap⟩ := k29a_openM hM
  obtain ⟨A2, c2, b2, rfl, l2, a2, r2⟩ := row_of h2
  obtain ⟨A5, c5, b5, rfl, l5, a5, r5⟩ := row_of h5
  refine ⟨⟨_, hc 0 _ rfl⟩, ⟨_, hc 1 _ rfl⟩, ⟨_, hc 3 _ rfl⟩, ⟨_, hc 4 _ rfl⟩, ⟨_, hc 6 _ rfl⟩, ⟨_, hc 7 _ rfl⟩, ⟨A2, c2, b2, A5, c5, b5, ⟨a2, a5, fun p2 p5 eb => ?_⟩, l2, l5, hc 2 _ rfl, hc 5 _ rfl, r2, r5⟩, hf⟩
  refine hap b2 ?_ ?_
  · rw [(a2 p2).1]
    rfl
  · rw [(a5 p5).1, eb]
    rfl
theorem upTo_reads {w : World} {A : Option Addr} {b n : Nat} {k : Int} (hA : 0 < n → A = some ⟨b, 0, none⟩) (hn : n ≤ 9223372036854775807) (hc : ∀ j : Nat, j < n → w.cell? ⟨b, j, none⟩ = some (.int .i64 (k + (j : Int)))) : (Kd.int .i64).C w A (upTo k n).length (upTo k n) := by
  rw [upTo_len]
  refine ⟨upTo_len k n, hn, fun hp => ⟨_, hA hp, fun j p hj => ?_⟩⟩
  obtain ⟨hj1, rfl⟩ := upTo_get k n j p hj
  refine ⟨[.int .i64 (k + (j : Int))], rfl, rfl, fun i u hu => ?_⟩
  obtain ⟨hi, e⟩ := List.getElem?_eq_some_iff.1 hu
  have hi0 : i = 0 := by
    simp only [List.length_cons, List.length_nil] at hi
    omega
  subst hi0
  simp only [List.getElem_cons_zero] at e
  subst e
  rw [add_at]
  have e2 : 0 + (j * (Kd.int .i64).sz + 0) = j := by
    show 0 + (j * 1 + 0) = j
    omega
  rw [e2]
  exact hc j hj1
/-- What marked elements are, told as a row that is read. -/
theorem Done.reads {f : Nat → Nat} {g s : Nat} {w : World} {l : List S29} {k : Int} {A0 : Option Addr} (hA : 0 < l.length → A0 = some ⟨g, 0, none⟩) (hl : l.length ≤ 9223372036854775807) (hD : ∀ j : Nat, j < l.length → Done f g s w j (k + mkLen (l.take j)) (rd_T29 l (j : Int)).f2.length (rd_T29 l (j : Int)).f5.length) (hb : ∀ j : Nat, j < l.length → (rd_T29 l (j : Int)).f2.length ≤ 9223372036854775807 ∧ (rd_T29 l (j : Int)).f5.length ≤ 9223372036854775807) : Kd.C k29 w A0 l.length (mkList k l) := by
  refine ⟨mkList_len l k, hl, fun hp => ⟨_, hA hp, fun j p hj => ?_⟩⟩
  obtain ⟨hjl, _⟩ := List.getElem?_eq_some_iff.1 hj
  rw [mkList_len] at hjl
  rw [mkList_get l k j hjl] at hj
  injection hj with hj
  subst hj
  have hbj := hb j hjl
  obtain ⟨h0, h1, h3, h4, h6, h7, ⟨A2, c2, b2, A5, c5, b5, hs, l2, l5, e2, e5, r2, r5⟩⟩ := hD j hjl
  generalize k + mkLen (l.take j) = kk at *
  generalize (rd_T29 l (j : Int)).f2.length = n2 at *
  generalize (rd_T29 l (j : Int)).f5.length = n5 at *
  have q2 := upTo_reads (k := kk + 1 + 1) (fun hp => (hs.a2 hp).1) hbj.1 r2
  have q5 := upTo_reads (k := kk + 1 + 1 + (n2 : Int) + 1 + 1) (fun hp => (hs.a5 hp).1) hbj.2 r5
  refine ⟨_, rfl, k29_mk w (mkElt kk n2 n5) (A2 := A2) (c2 := c2) (by rw [mkElt, upTo_len]; exact l2) q2 (A5 := A5) (c5 := c5) (by rw [mkElt, upTo_len]; exact l5) q5, fun i u hu => ?_⟩
  have e29 : k29.sz = 8 := rfl
  rw [add_at, e29, Nat.zero_add]
  match i, hu with
  | 0, hu => injection hu with hu; rw [← hu]; exact h0
  | 1, hu => injection hu with hu; rw [← hu]; exact h1
  | 2, hu => injection hu with hu; rw [← hu]; simp only [mkElt, upTo_len]; exact e2
  | 3, hu => injection hu with hu; rw [← hu]; exact h3
  | 4, hu => injection hu with hu; rw [← hu]; exact h4
  | 5, hu => injection hu with hu; rw [← hu]; simp only [mkElt, upTo_len]; exact e5
  | 6, hu => injection hu with hu; rw [← hu]; exact h6
  | 7, hu => injection hu with hu; rw [← hu]; exact h7
  | i + 8, hu => simp at hu
/-! ### laws.markReportS, the walk -/
def look : List (Addr × Value) → Addr → Option Value → Option Value
  | [], _, d => d
  | (q, v) :: r, p, d => if q = p then some v else look r p d
theorem look_some : ∀ (L : List (Addr × Value)) (p : Addr) (d : Option Value), (∃ v, d = some v) → ∃ v, look L p d = some v
  | [], _, _, h => h
  | (q, v) :: r, p, d, h => by
    rw [look]
    split
    · exact ⟨v, rfl⟩
    · exact look_some r p d h
theorem look_other : ∀ (L : List (Addr × Value)) (p : Addr) (d : Option Value), (∀ e, e ∈ L → e.1 ≠ p) → look L p d = d
  | [], _, _, _ => rfl
  | (q, v) :: r, p, d, h => by
    rw [look, if_neg (h (q, v) List.mem_cons_self), look_other r p d (fun e he => h e (List.mem_cons_of_mem _ he))]
/-- The cells of L are written, and nothing else. -/
structure Ups (L : List (Addr × Value)) (w w' : World) : Prop where
  os : w'.os = w.os
  tape : w'.tape = w.tape
  output : w'.output = w.output
  size : w.heap.size ≤ w'.heap.size
  kept : ∀ k, (∀ e, e ∈ L → e.1.block ≠ k) → w'.heap[k]? = w.heap[k]?
  cells : ∀ p, w'.cell? p = look L p (w.cell? p)
  frozen : ∀ p, w'.frozen? p = w.frozen? p
theorem Ups.refl (w : World) : Ups [] w w := ⟨rfl, rfl, rfl, Nat.le_refl _, fun _ _ => rfl, fun _ => rfl, fun _ => rfl⟩
theorem Ups.drew {L : List (Addr × Value)} {w w1 : World} (h : Ups L w w1) : Ups L w w1.drew := ⟨h.os, h.tape, h.output, h.size, h.kept, h.cells, h.frozen⟩
theorem Ups.drewN {L : List (Addr × Value)} {w w1 : World} (h : Ups L w w1) (m : Nat) : Ups L w (w1.drewN m) := ⟨h.os, h.tape, h.output, h.size, h.kept, h.cells, h.frozen⟩
theorem Ups.set {L : List (Addr × Value)} {w w1 : World} {p : Addr} {v : Value} (h : Ups L w w1) (hx : ∃ x, w.cell? p = some (.int .i64 x)) : Ups ((p, v) :: L) w (w1.setCell p v) := by
  obtain ⟨x, hx⟩ := hx
  obtain ⟨y, hy⟩ := look_some L p (w.cell? p) ⟨_, hx⟩
  rw [← h.cells] at hy
  refine ⟨h.os, h.tape, h.output, by simp [World.setCell, h.size], fun k hk => ?_, fun q => ?_, fun q => (World.frozen?_setCell ..).trans (h.frozen q)⟩
  · rw [Below.heap_setCell w1 p v k (fun e => hk (p, v) List.mem_cons_self e.symm)]
    exact h.kept k (fun e he => hk e (List.mem_cons_of_mem _ he))
  · rw [look]
    by_cases e : p = q
    · subst e
      rw [if_pos rfl]
      exact World.cell?_setCell_same (h := hy) ..
    · rw [if_neg e, World.cell?_setCell_other (h := e)]
      exact h.cells q
/-- Two stores into one element, and a row that is filled. -/
structure PH (f : Nat → Nat) (g s i a b : Nat) (va vb : Value) (nn bb : Nat) (w w2 : World) : Prop where
  chg : Chg (OfE f g s i) w w2
  off : ∀ o, o ≠ a → o ≠ b → w2.cell? ⟨g, o, none⟩ = w.cell? ⟨g, o, none⟩
  fst : w2.cell? ⟨g, a, none⟩ = some va
  snd : w2.cell? ⟨g, b, none⟩ = some vb
  blk : ∀ q o, q ≠ g → (0 < nn → q ≠ bb) → w2.cell? ⟨q, o, none⟩ = w.cell? ⟨q, o, none⟩
  frozen : ∀ p, w2.frozen? p = w.frozen? p
theorem phase {f : Nat → Nat} {g s i a b : Nat} {va vb : Value} {nn bb : Nat} {w W w2 : World} (ha : i * 8 ≤ a ∧ a < i * 8 + 8) (hb : i * 8 ≤ b ∧ b < i * 8 + 8) (hab : a ≠ b) (hr : 0 < nn → bb ≠ g ∧ f bb = i ∧ s ≤ bb) (U : Ups [(⟨g, a, none⟩, va), (⟨g, b, none⟩, vb)] w W) (C : Chg (fun p => 0 < nn ∧ p.block = bb) W w2) : PH f g s i a b va vb nn bb w w2 := by
  have hg : ∀ o, w2.cell? ⟨g, o, none⟩ = W.cell? ⟨g, o, none⟩ := fun o => C.cells _ (fun h => (hr h.1).1 h.2.symm)
  have n1 : ∀ {o : Nat}, o ≠ a → (⟨g, a, none⟩ : Addr) ≠ ⟨g, o, none⟩ := fun h e => h (by injection e with _ e; exact e.symm)
  have n2 : ∀ {o : Nat}, o ≠ b → (⟨g, b, none⟩ : Addr) ≠ ⟨g, o, none⟩ := fun h e => h (by injection e with _ e; exact e.symm)
  have no : ∀ p : Addr, ¬ OfE f g s i p → look [(⟨g, a, none⟩, va), (⟨g, b, none⟩, vb)] p (w.cell? p) = w.cell? p := fun p hp => look_other _ _ _ (fun e he ee => by
    simp only [List.mem_cons, List.mem_nil_iff, or_false] at he
    rcases he with rfl | rfl
    · exact hp (ee ▸ Or.inl ⟨rfl, ha.1, ha.2⟩)
    · exact hp (ee ▸ Or.inl ⟨rfl, hb.1, hb.2⟩))
  have nT : ∀ p : Addr, ¬ OfE f g s i p → p.block ≠ g → ¬ (0 < nn ∧ p.block = bb) := fun p hp _ h => hp (Or.inr ⟨by rw [h.2]; exact (hr h.1).1, by rw [h.2]; exact (hr h.1).2.1, by rw [h.2]; exact (hr h.1).2.2⟩)
  refine ⟨⟨C.os.trans U.os, C.tape.trans U.tape, C.output.trans U.output, Nat.le_trans U.size C.size, fun k hk hn => ?_, fun p hp => ?_, fun p => (C.frozen p).trans (U.frozen p)⟩, fun o h1 h2 => ?_, ?_, ?_, fun q o hq h => ?_, fun p => (C.frozen p).trans (U.frozen p)⟩
  · have hkg : k ≠ g := fun e => hn a (Or.inl ⟨e, ha.1, ha.2⟩)
    rw [C.kept k (Nat.lt_of_lt_of_le hk U.size) (fun o h => hn o (Or.inr ⟨hkg, by rw [show (⟨k, o, none⟩ : Addr).block = bb from h.2]; exact (hr h.1).2.1, by rw [show (⟨k, o, none⟩ : Addr).block = bb from h.2]; exact (hr h.1).2.2⟩))]
    refine U.kept k (fun e he => ?_)
    simp only [List.mem_cons, List.mem_nil_iff, or_false] at he
    rcases he with rfl | rfl
    · exact fun e => hkg e.symm
    · exact fun e => hkg e.symm
  · rw [C.cells p (fun h => ?_), U.cells, no p hp]
    by_cases hpg : p.block = g
    · exact (hr h.1).1 (h.2.symm.trans hpg)
    · exact nT p hp hpg h
  · rw [hg, U.cells, look, if_neg (n1 h1), look, if_neg (n2 h2), look]
  · rw [hg, U.cells, look, if_pos rfl]
  · rw [hg, U.cells, look, if_neg (n1 (Ne.symm hab)), look, if_pos rfl]
  · rw [C.cells _ (fun e => h e.1 e.2), U.cells]
    refine look_other _ _ _ (fun e he ee => ?_)
    simp only [List.mem_cons, List.mem_nil_iff, or_false] at he
    rcases he with rfl | rfl
    · exact hq (congrArg Addr.block ee).symm
    · exact hq (congrArg Addr.block ee).symm
theorem RowX.ups {w W : World} {b n g a c : Nat} {va vc : Value} (h : RowX w b n) (hb : 0 < n → b ≠ g) (U : Ups [(⟨g, a, none⟩, va), (⟨g, c, none⟩, vc)] w W) : RowX W b n := fun j hj => by
  have e : W.cell? ⟨b, j, none⟩ = w.cell? ⟨b, j, none⟩ := by
    rw [U.cells]
    refine look_other _ _ _ (fun e he ee => ?_)
    simp only [List.mem_cons, List.mem_nil_iff, or_false] at he
    rcases he with rfl | rfl
    · exact hb (by omega) (congrArg Addr.block ee).symm
    · exact hb (by omega) (congrArg Addr.block ee).symm
  rw [e, U.frozen]
  exact h j hj
theorem RowX.ph {f : Nat → Nat} {g s i a b : Nat} {va vb : Value} {nn bb : Nat} {w w2 : World} {q n : Nat} (h : RowX w q n) (P : PH f g s i a b va vb nn bb w w2) (hq : 0 < n → q ≠ g) (h2 : 0 < nn → 0 < n → q ≠ bb) : RowX w2 q n := fun j hj => by
  rw [P.blk q j (hq (by omega)) (fun hn => h2 hn (by omega)), P.frozen]
  exact h j hj
theorem Done.mk3 {f : Nat → Nat} {g s i n2 n5 b2 b5 c2 c5 : Nat} {A2 A5 : Option Addr} {w w2 w3 w4 : World} {kk m2 m3 : Int} (hs : Sep f g s i n2 n5 b2 b5 A2 A5) (l2 : n2 ≤ c2) (l5 : n5 ≤ c5) (e2 : w.cell? ⟨g, i * 8 + 2, none⟩ = some (.slice A2 n2 c2)) (e5 : w.cell? ⟨g, i * 8 + 5, none⟩ = some (.slice A5 n5 c5))
  (P1 : PH f g s i (i * 8 + 1) (i * 8) (.int .i64 (kk + 1)) (.int .i64 kk) n2 b2 w w2) (r2 : ∀ j : Nat, j < n2 → w2.cell? ⟨b2, j, none⟩ = some (.int .i64 (kk + 1 + 1 + (j : Int)))) (hm2 : m2 = kk + 1 + 1 + (n2 : Int))
  (P2 : PH f g s i (i * 8 + 4) (i * 8 + 3) (.int .i64 (m2 + 1)) (.int .i64 m2) n5 b5 w2 w3) (r5 : ∀ j : Nat, j < n5 → w3.cell? ⟨b5, j, none⟩ = some (.int .i64 (m2 + 1 + 1 + (j : Int)))) (hm3 : m3 = m2 + 1 + 1 + (n5 : Int))
  (P3 : PH f g s i (i * 8 + 7) (i * 8 + 6) (.int .i64 (m3 + 1)) (.int .i64 m3) 0 0 w3 w4) : Done f g s w4 i kk n2 n5 := by
  subst hm3 hm2
  have z : ∀ {q : Nat}, 0 < 0 → q ≠ 0 := fun h => absurd h (Nat.lt_irrefl _)
  refine ⟨?_, ?_, ?_, ?_, P3.snd, P3.fst, ⟨A2, c2, b2, A5, c5, b5, hs, l2, l5, ?_, ?_, fun j hj => ?_, fun j hj => ?_⟩⟩
  · rw [P3.off _ (by omega) (by omega), P2.off _ (by omega) (by omega)]
    exact P1.snd
  · rw [P3.off _ (by omega) (by omega), P2.off _ (by omega) (by omega)]
    exact P1.fst
  · rw [P3.off _ (by omega) (by omega)]
    exact P2.snd
  · rw [P3.off _ (by omega) (by omega)]
    exact P2.fst
  · rw [P3.off _ (by omega) (by omega), P2.off _ (by omega) (by omega), P1.off _ (by omega) (by omega)]
    exact e2
  · rw [P3.off _ (by omega) (by omega), P2.off _ (by omega) (by omega), P1.off _ (by omega) (by omega)]
    exact e5
  · have hn : 0 < n2 := by omega
    rw [P3.blk _ _ (hs.a2 hn).2.1 z, P2.blk _ _ (hs.a2 hn).2.1 (fun h5 => hs.ap hn h5)]
    exact r2 j hj
  · have hn : 0 < n5 := by omega
    rw [P3.blk _ _ (hs.a5 hn).2.1 z]
    exact r5 j hj
theorem mkLen_cnt : ∀ l : List S29, (l.length : Int) ≤ mkLen l
  | [] => Int.le_refl _
  | y :: r => by
    have := mkLen_cnt r
    rw [mkLen, List.length_cons]
    omega
theorem mkLen_in (l : List S29) (j : Nat) (hj : j < l.length) : ((rd_T29 l (j : Int)).f2.length : Int) ≤ mkLen l ∧ ((rd_T29 l (j : Int)).f5.length : Int) ≤ mkLen l := by
  have h1 := mkLen_step l j hj
  have h2 := mkLen_le l (j + 1)
  have h3 := mkLen_nn (l.take j)
  omega
/-- What a round of the loop has done. -/
theorem fill_rel {f : Nat → Nat} {g s i : Nat} {l : List S29} {a1 : Int} {w wr w4 : World} (hi : i < l.length) (hsz : s ≤ w.heap.size) (hg : s ≤ g) (HB : Below s w wr) (HD : ∀ j : Nat, j < i → Done f g s wr j (a1 + mkLen (l.take j)) (rd_T29 l (j : Int)).f2.length (rd_T29 l (j : Int)).f5.length) (HU : ∀ j : Nat, i ≤ j → j < l.length → Todo f g s wr j (rd_T29 l (j : Int)).f2.length (rd_T29 l (j : Int)).f5.length)
  (C : Chg (OfE f g s i) wr w4) (hD : Done f g s w4 i (a1 + mkLen (l.take i)) (rd_T29 l (i : Int)).f2.length (rd_T29 l (i : Int)).f5.length) :
  Aside0 (Below s w w4) ∧ Aside0 (∀ j : Nat, j < i + 1 → Done f g s w4 j (a1 + mkLen (l.take j)) (rd_T29 l (j : Int)).f2.length (rd_T29 l (j : Int)).f5.length) ∧ Aside0 (∀ j : Nat, i + 1 ≤ j → j < l.length → Todo f g s w4 j (rd_T29 l (j : Int)).f2.length (rd_T29 l (j : Int)).f5.length) := by
  refine ⟨⟨HB.trans (C.below (Nat.le_trans hsz HB.size) (fun p hp => ?_))⟩, ⟨fun j hj => ?_⟩, ⟨fun j hj hl => (HU j (by omega) hl).chg C (by omega)⟩⟩
  · rcases hp with ⟨e, _⟩ | ⟨_, _, e⟩
    · rw [e]
      exact hg
    · exact e
  · by_cases e : j = i
    · subst e
      exact hD
    · exact (HD j (by omega)).chg C e
section
variable {f : Nat → Nat} {g s i nn bb : Nat} {va vb : Value} {w W w2 : World}
theorem phase1 (hr : 0 < nn → bb ≠ g ∧ f bb = i ∧ s ≤ bb) (U : Ups [(⟨g, i * 8 + 1, none⟩, va), (⟨g, i * 8, none⟩, vb)] w W) (C : Chg (fun p => 0 < nn ∧ p.block = bb) W w2) : PH f g s i (i * 8 + 1) (i * 8) va vb nn bb w w2 := phase (by omega) (by omega) (by omega) hr U C
theorem phase2 (hr : 0 < nn → bb ≠ g ∧ f bb = i ∧ s ≤ bb) (U : Ups [(⟨g, i * 8 + 4, none⟩, va), (⟨g, i * 8 + 3, none⟩, vb)] w W) (C : Chg (fun p => 0 < nn ∧ p.block = bb) W w2) : PH f g s i (i * 8 + 4) (i * 8 + 3) va vb nn bb w w2 := phase (by omega) (by omega) (by omega) hr U C
theorem phase3 (U : Ups [(⟨g, i * 8 + 7, none⟩, va), (⟨g, i * 8 + 6, none⟩, vb)] w W) : PH f g s i (i * 8 + 7) (i * 8 + 6) va vb 0 0 w W := phase (by omega) (by omega) (by omega) (fun h => absurd h (Nat.lt_irrefl _)) U (Chg.refl _ _)
theorem PH.at1 (P : PH f g s i (i * 8 + 1) (i * 8) va vb nn bb w w2) (o : Nat) (ho : 2 ≤ o) : w2.cell? ⟨g, i * 8 + o, none⟩ = w.cell? ⟨g, i * 8 + o, none⟩ := P.off _ (by omega) (by omega)
theorem PH.at2 (P : PH f g s i (i * 8 + 4) (i * 8 + 3) va vb nn bb w w2) (o : Nat) (ho : 5 ≤ o) : w2.cell? ⟨g, i * 8 + o, none⟩ = w.cell? ⟨g, i * 8 + o, none⟩ := P.off _ (by omega) (by omega)
theorem ex_of {a b : Option Value} (e : a = b) (h : ∃ x, b = some (.int .i64 x)) : ∃ x, a = some (.int .i64 x) := e ▸ h
end
set_option maxHeartbeats 8000000 in
set_option maxRecDepth 100000 in
theorem laws_markReportS.fill (s : Nat) (ok : Nat → Prop) (A0 : Option Addr) (c0 : Nat) (l0 : List S29) (a1 r : Int) (w : World) (hS : Kd.S k29a 29 w s ok (.slice A0 l0.length c0) l0) (hsz : s ≤ w.heap.size) (h : laws_markReportS.f l0 a1 = some r) :
  Calls Try.prog 22 #[.slice A0 l0.length c0, .int .i64 a1] w fun e w' => e = .returned (.int .i64 r) ∧ Below s w w' ∧ Kd.C k29 w' A0 l0.length (mkList a1 l0) := by
  unfold laws_markReportS.f at h
  by_cases hb : 0 ≤ a1 ∧ a1 + mkLen l0 ≤ 1000000000000
  · rw [if_pos hb] at h
    injection h with h
    subst h
    obtain ⟨f, hR⟩ := hS
    have hc : l0.length ≤ c0 := (Kd.R_reads' hR).2.1
    have hzl : l0.zipIdx.length = l0.length := List.length_zipIdx
    obtain ⟨g, hA, hg, hT⟩ : ∃ g, (0 < l0.length → A0 = some ⟨g, 0, none⟩) ∧ (0 < l0.length → s ≤ g) ∧ ∀ j : Nat, j < l0.length → Todo f g s w j (rd_T29 l0 (j : Int)).f2.length (rd_T29 l0 (j : Int)).f5.length := by
      by_cases hp : 0 < l0.length
      · obtain ⟨g, cap, e, hgb, _⟩ := Kd.R_form hR (by omega)
        injection e with e1 e2 e3
        subst e1
        exact ⟨g, fun _ => rfl, fun _ => hgb, fun j hj => Todo.of hR rfl j hj⟩
      · exact ⟨0, fun h => absurd h hp, fun h => absurd h hp, fun j hj => absurd hj (by omega)⟩
    have HA := Aside0.mk hA
    have HG := Aside0.mk hg
    have HC := Aside0.mk hc
    have HB := Aside0.mk hb
    have HZ := Aside0.mk hsz
    have HE := Aside0.mk (Below.refl s w)
    have HT := Aside0.mk hT
    have HD := Aside0.mk (show ∀ j : Nat, j < 0 → Done f g s w j (a1 + mkLen (l0.take j)) (rd_T29 l0 (j : Int)).f2.length (rd_T29 l0 (j : Int)).f5.length from fun j hj => absurd hj (Nat.not_lt_zero j))
    have HU0 := Aside0.mk (show ∀ j : Nat, 0 ≤ j → j < l0.length → Todo f g s w j (rd_T29 l0 (j : Int)).f2.length (rd_T29 l0 (j : Int)).f5.length from fun j _ hj => hT j hj)
    have hu29 := Try.underlying29
    have hu27 := Try.underlying27
    clear hA hc hb hg hT hR hzl hsz
    go_enter Try.func22, Try.ntmps22
    go_wp2
    go_loopg [1, 5] (l0.length + 1) (fun gg v1 v5 wr => ∃ i : Nat, v1 = .int .i64 (a1 + mkLen (l0.take i)) ∧ v5 = .int .i64 (i : Int) ∧ Aside0 (i ≤ l0.length ∧ gg + i = l0.length + 1) ∧ Aside0 (Below s w wr) ∧ Aside0 (∀ j : Nat, j < i → Done f g s wr j (a1 + mkLen (l0.take j)) (rd_T29 l0 (j : Int)).f2.length (rd_T29 l0 (j : Int)).f5.length) ∧ Aside0 (∀ j : Nat, i ≤ j → j < l0.length → Todo f g s wr j (rd_T29 l0 (j : Int)).f2.length (rd_T29 l0 (j : Int)).f5.length))
    case atStart => exact ⟨0, by simp [mkLen], rfl, ⟨Nat.zero_le _, rfl⟩, HE, HD, HU0⟩
    case round =>
      obtain ⟨i, rfl, rfl, HI, HE, HD, HU⟩ := hrel
      by_cases hlt : (i : Int) < (l0.length : Int)
      · have hlt2 : i < l0.length := by omega
        obtain rfl := HA.out (by omega)
        have hm := mkLen_step l0 i hlt2
        have hn0 := mkLen_nn (l0.take i)
        have hn1 := mkLen_le l0 (i + 1)
        have hbb := HB.out
        have hci := mkLen_cnt l0
        have HIB := Aside0.mk (show (i : Int) ≤ 1000000000000 by omega)
        have hE0 := HU.out i (Nat.le_refl _) hlt2
        have HREL := Aside0.mk (fun (w4 : World) => fill_rel (f := f) (s := s) (w := w) (w4 := w4) hlt2 HZ.out (HG.out (by omega)) HE.out HD.out HU.out)
        generalize hkk : a1 + mkLen (l0.take i) = kk at HREL
        generalize (rd_T29 l0 (i : Int)).f2.length = n2 at hm hE0 HREL
        generalize (rd_T29 l0 (i : Int)).f5.length = n5 at hm hE0 HREL
        obtain ⟨m2, hm2⟩ : ∃ q, q = kk + 1 + 1 + (n2 : Int) := ⟨_, rfl⟩
        obtain ⟨m3, hm3⟩ : ∃ q, q = m2 + 1 + 1 + (n5 : Int) := ⟨_, rfl⟩
        have HEND := Aside0.mk (show a1 + mkLen (l0.take (i + 1)) = m3 + 1 + 1 by omega)
        have HK := Aside0.mk (show 0 ≤ kk ∧ kk + 6 + (n2 : Int) + (n5 : Int) ≤ 1000000000000 by omega)
        have P3 := Aside0.mk (show 0 ≤ kk + 1 + 1 ∧ kk + 1 + 1 + (n2 : Int) ≤ 1000000000000 ∧ m2 = kk + 1 + 1 + (n2 : Int) by omega)
        have P4 := Aside0.mk (show 0 ≤ m2 + 1 + 1 ∧ m2 + 1 + 1 + (n5 : Int) ≤ 1000000000000 ∧ m3 = m2 + 1 + 1 + (n5 : Int) by omega)
        have hw1 : wrap64 (kk + 1) = kk + 1 := wrap64_in _ (by omega) (by omega)
        have hw2 : wrap64 (kk + 1 + 1) = kk + 1 + 1 := wrap64_in _ (by omega) (by omega)
        have hw3 : wrap64 (m2 + 1) = m2 + 1 := wrap64_in _ (by omega) (by omega)
        have hw4 : wrap64 (m2 + 1 + 1) = m2 + 1 + 1 := wrap64_in _ (by omega) (by omega)
        have hw5 : wrap64 (m3 + 1) = m3 + 1 := wrap64_in _ (by omega) (by omega)
        have hw6 : wrap64 (m3 + 1 + 1) = m3 + 1 + 1 := wrap64_in _ (by omega) (by omega)
        have hw7 : wrap64 ((i : Int) + 1) = ((i + 1 : Nat) : Int) := wrap64_in _ (by have := HIB.out; omega) (by have := HIB.out; omega)
        have HM2 := Aside0.mk hm2
        have HM3 := Aside0.mk hm3
        have HL := Aside0.mk hlt2
        have hd : decide ((i : Int) < (l0.length : Int)) = true := decide_eq_true hlt
        have hd2 : (i < l0.length) = True := eq_true hlt2
        have p5 : (0 ≤ (i : Int)) = True := eq_true (Int.natCast_nonneg i)
        have q5 : ((i : Int) < (l0.length : Int)) = True := eq_true hlt
        clear hm hn0 hn1 hbb hkk hm2 hm3 hlt hlt2 hci
        obtain ⟨h0, h1, h3, h4, h6, h7, ⟨A2, c2, b2, A5, c5, b5, hs, l2, l5, h2, h5, r2, r5⟩, hfr⟩ := hE0
        have HS := Aside0.mk hs
        have H0 := Aside0.mk h0
        have H1 := Aside0.mk h1
        have H3 := Aside0.mk h3
        have H4 := Aside0.mk h4
        have H6 := Aside0.mk h6
        have H7 := Aside0.mk h7
        have H2 := Aside0.mk h2
        have H5 := Aside0.mk h5
        have R2 := Aside0.mk r2
        have R5 := Aside0.mk r5
        have L2 := Aside0.mk l2
        have L5 := Aside0.mk l5
        have HF := Aside0.mk hfr
        obtain ⟨x0, h0⟩ := h0
        obtain ⟨x1, h1⟩ := h1
        have f0 : World.frozen? _ ⟨g, i * 8, none⟩ = false := hfr 0
        have f1 := hfr 1
        clear h3 h4 h6 h7 h5 r2 r5 l2 l5 hfr hs
        go_wp2_with (first | (go_at_call 47; (with_reducible refine (markInt_fill (fun p => 0 < n2 ∧ p.block = b2) A2 b2 n2 c2 (kk + 1 + 1) m2 _ ?s0 ?sT ?s1 ?s2 ?s3).mono ?_); (case s0 => exact fun hp => (HS.out.a2 hp).1); (case sT => exact fun j hj => ⟨Nat.lt_of_le_of_lt (Nat.zero_le _) hj, rfl⟩); (case s1 => exact RowX.ups R2.out (fun hp => (HS.out.a2 hp).2.1) (show Ups [(⟨g, i * 8 + 1, none⟩, .int .i64 (kk + 1)), (⟨g, i * 8, none⟩, .int .i64 kk)] wr _ from by repeat (with_reducible first | exact Ups.refl _ | apply Ups.drew | apply Ups.drewN | (refine Ups.set ?_ (by first | exact H0.out | exact H1.out))))); (case s2 => exact L2.out); (case s3 => exact P3.out); rintro e w2 ⟨rfl, hC, hR⟩; have Q1 := Aside0.mk (phase1 (f := f) (s := s) (fun hp => (HS.out.a2 hp).2) (show Ups [(⟨g, i * 8 + 1, none⟩, .int .i64 (kk + 1)), (⟨g, i * 8, none⟩, .int .i64 kk)] wr _ from by repeat (with_reducible first | exact Ups.refl _ | apply Ups.drew | apply Ups.drewN | (refine Ups.set ?_ (by first | exact H0.out | exact H1.out)))) hC); have F2 := Aside0.mk hR; clear hC hR; have G3 := Aside0.mk (ex_of (Q1.out.at1 3 (by decide)) H3.out); have G4 := Aside0.mk (ex_of (Q1.out.at1 4 (by decide)) H4.out); obtain ⟨y3, g3⟩ := G3.out; obtain ⟨y4, g4⟩ := G4.out; have g5 := (Q1.out.at1 5 (by decide)).trans H5.out; have f3 := (Q1.out.frozen _).trans (HF.out 3); have f4 := (Q1.out.frozen _).trans (HF.out 4)) | (go_at_call 47; (with_reducible refine (markInt_fill (fun p => 0 < n5 ∧ p.block = b5) A5 b5 n5 c5 (m2 + 1 + 1) m3 _ ?s0 ?sT ?s1 ?s2 ?s3).mono ?_); (case s0 => exact fun hp => (HS.out.a5 hp).1); (case sT => exact fun j hj => ⟨Nat.lt_of_le_of_lt (Nat.zero_le _) hj, rfl⟩); (case s1 => exact RowX.ups (R5.out.ph Q1.out (fun hp => (HS.out.a5 hp).2.1) (fun h2 h5 e => HS.out.ap h2 h5 e.symm)) (fun hp => (HS.out.a5 hp).2.1) (show Ups [(⟨g, i * 8 + 4, none⟩, .int .i64 (m2 + 1)), (⟨g, i * 8 + 3, none⟩, .int .i64 m2)] w2 _ from by repeat (with_reducible first | exact Ups.refl _ | apply Ups.drew | apply Ups.drewN | (refine Ups.set ?_ (by first | exact G3.out | exact G4.out))))); (case s2 => exact L5.out); (case s3 => exact P4.out); rintro e w3 ⟨rfl, hC, hR⟩; have Q2 := Aside0.mk (phase2 (f := f) (s := s) (fun hp => (HS.out.a5 hp).2) (show Ups [(⟨g, i * 8 + 4, none⟩, .int .i64 (m2 + 1)), (⟨g, i * 8 + 3, none⟩, .int .i64 m2)] w2 _ from by repeat (with_reducible first | exact Ups.refl _ | apply Ups.drew | apply Ups.drewN | (refine Ups.set ?_ (by first | exact G3.out | exact G4.out)))) hC); have F5 := Aside0.mk hR; clear hC hR; have G6 := Aside0.mk (ex_of ((Q2.out.at2 6 (by decide)).trans (Q1.out.at1 6 (by decide))) H6.out); have G7 := Aside0.mk (ex_of ((Q2.out.at2 7 (by decide)).trans (Q1.out.at1 7 (by decide))) H7.out); obtain ⟨y6, g6⟩ := G6.out; obtain ⟨y7, g7⟩ := G7.out; have f6 := ((Q2.out.frozen _).trans (Q1.out.frozen _)).trans (HF.out 6); have f7 := ((Q2.out.frozen _).trans (Q1.out.frozen _)).trans (HF.out 7)))
        go_roundg (l0.length - i)
        case measure => clear hw1 hw2 hw3 hw4 hw5 hw6 hw7; have := HI.out; have := HL.out; omega
        case rel =>
          have hr3 := fun (w4 : World) (U : Ups [(⟨g, i * 8 + 7, none⟩, .int .i64 (m3 + 1)), (⟨g, i * 8 + 6, none⟩, .int .i64 m3)] w3 w4) => HREL.out w4 ((Q1.out.chg.trans Q2.out.chg).trans (phase3 (f := f) (s := s) U).chg) (Done.mk3 HS.out L2.out L5.out H2.out H5.out Q1.out F2.out HM2.out Q2.out F5.out HM3.out (phase3 U))
          exact ⟨i + 1, by rw [HEND.out]; first | rfl | rw [hw6], by first | rfl | (simp; done) | (simp [*]; done), ⟨by clear hw1 hw2 hw3 hw4 hw5 hw6 hw7; have := HI.out; have := HL.out; omega⟩, hr3 _ (by repeat (with_reducible first | exact Ups.refl _ | apply Ups.drew | apply Ups.drewN | (refine Ups.set ?_ (by first | exact G6.out | exact G7.out))))⟩
      · have hd : decide ((i : Int) < (l0.length : Int)) = false := decide_eq_false hlt
        have hd2 : (i < l0.length) = False := eq_false (by omega)
        have HQ := Aside0.mk (show l0.take i = l0 from List.take_of_length_le (by omega))
        have HI2 := Aside0.mk (show i = l0.length by have := HI.out; omega)
        go_wp2
        go_ret
        have hq := HB.out
        have hq2 := mkLen_cnt l0
        refine ⟨by rw [HQ.out]; rfl, HE.out, Done.reads HA.out (by omega) (fun j hj => HD.out j (by rw [HI2.out]; exact hj)) (fun j hj => ?_)⟩
        have hq3 := mkLen_in l0 j hj
        omega
  · rw [if_neg hb] at h
    cases h
end Go.Proofs.Ytfolhmompclmbaa.PFnExactPutReport
