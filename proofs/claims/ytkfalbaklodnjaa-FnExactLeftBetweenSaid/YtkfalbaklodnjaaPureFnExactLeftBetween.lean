/-
  The program's LeftBetween answers as the reference's does, for all arguments. It has no conditions.
-/
import Derived.Test.YtkfalbaklodnjaaShFnExactLeftBetween
import Derived.Test.YtkfalbaklodnjaaEqFnExactLeftBetween
import Derived.Test.YtkfalbaklodnjaaBase
set_option linter.unusedVariables false
set_option linter.unusedSimpArgs false
namespace Go.Proofs.Ytkfalbaklodnjaa.PFnExactLeftBetween.Pure
open Go.RowKit Go.Proofs.YtkfalbaklodnjaaW.PrintWords Go.Proofs.YtkfalbaklodnjaaW.PrintLast Go.Proofs.YtkfalbaklodnjaaW.PrintMore Go.Proofs.Ytkfalbaklodnjaa.PFnExactLeftBetween Go.Proofs.Ytkfalbaklodnjaa.Lim Go.Proofs.Ytkfalbaklodnjaa.Base
set_option maxRecDepth 100000

theorem szStopS (l : List S154) (a : Int) (ha : 0 ≤ a ∧ a ≤ 1048576) (hl : l.length ≤ maxLen) : laws_szStopS.f l a = some (if a < (l.length : Int) then -1 else a - (l.length : Int)) := by
  simp only [maxLen] at hl
  unfold laws_szStopS.f
  rw [wrap_in _ (by omega)]
  by_cases h : a < (l.length : Int)
  · rw [if_pos (by omega), if_pos h]
  · rw [if_neg (by omega), if_neg h]

def cvStop (y : S154) : S130 := ⟨y.f0, y.f1, y.f2⟩
theorem toStopS_l0 (l : List S154) (hn : l.length ≤ 1048576) : ∀ (d i : Nat) (acc : List S130), i + d = l.length → acc.length = l.length → acc.take i = (l.take i).map cvStop → laws_toStopS.L0 l acc (i : Int) = some (l.map cvStop)
  | 0, i, acc, h, ha, ht => by
    rw [laws_toStopS.L0_eq, if_neg (by omega)]
    rw [List.take_of_length_le (by omega), List.take_of_length_le (by omega)] at ht
    rw [ht]
  | d + 1, i, acc, h, ha, ht => by
    have hi : i < l.length := by omega
    rw [laws_toStopS.L0_eq, if_pos (by omega), if_pos (by omega)]
    simp only [laws_toStop.f, Option.bind_some, wrap_succ i (by omega)]
    rw [if_pos (by omega)]
    refine toStopS_l0 l hn d (i + 1) _ (by omega) (by rw [List.length_set]; exact ha) ?_
    rw [Int.toNat_natCast]
    exact fill_step l cvStop acc i ha hi ht _ (by simp [rd_T154, cvStop, hi])
theorem toStopS (l : List S154) (hn : l.length ≤ 1048576) : laws_toStopS.F l = some (l.map cvStop) := by
  rw [laws_toStopS.F_eq, if_pos (by omega), if_pos (by omega)]
  exact toStopS_l0 l hn l.length 0 _ (by omega) (by simp) (by simp)

theorem eqStopS_l0 (l : List S130) (hn : l.length ≤ 1048576) : ∀ (d i : Nat), i + d = l.length → laws_eqStopS.L0 l l (i : Int) = some true
  | 0, i, h => by rw [laws_eqStopS.L0_eq, if_neg (by omega)]
  | d + 1, i, h => by
    rw [laws_eqStopS.L0_eq, if_pos (by omega), if_pos (by omega), if_pos (by omega)]
    simp only [laws_eqStop.f, if_true, Option.bind_some, wrap_succ i (by omega)]
    exact eqStopS_l0 l hn d (i + 1) (by omega)
theorem eqStopS (l : List S130) (hn : l.length ≤ 1048576) : laws_eqStopS.F l l = some true := by
  rw [laws_eqStopS.F_eq, if_pos rfl]
  exact eqStopS_l0 l hn l.length 0 (by omega)

theorem eqIntS_l0 (l : List Int) (hn : l.length ≤ 4194304) : ∀ (d i : Nat), i + d = l.length → laws_eqIntS.L0 l l (i : Int) = some true
  | 0, i, h => by rw [laws_eqIntS.L0_eq, if_neg (by omega)]
  | d + 1, i, h => by
    rw [laws_eqIntS.L0_eq, if_pos (by omega), if_pos (by omega), if_pos (by omega), if_pos rfl, wrap_succ i (by omega)]
    exact eqIntS_l0 l hn d (i + 1) (by omega)
theorem eqIntS (l : List Int) (hn : l.length ≤ 4194304) : laws_eqIntS.F l l = some true := by
  rw [laws_eqIntS.F_eq, if_pos rfl]
  exact eqIntS_l0 l hn l.length 0 (by omega)

theorem rdStop_at (l : List S130) (i : Nat) : rd_T130 l (i : Int) = l.getD i z130 := by simp [rd_T130]
theorem dropStop (l : List S130) (i : Nat) (h : i < l.length) : l.drop i = rd_T130 l (i : Int) :: l.drop (i + 1) := by
  rw [rdStop_at, getD_get l i _ h]
  exact List.drop_eq_getElem_cons h

def lineStop (k : Int) (n : Nat) : List S130 := (List.range n).map (fun j : Nat => (⟨k + 3 * (j : Int), k + 3 * (j : Int) + 1, k + 3 * (j : Int) + 2⟩ : S130))
theorem lineStop_len (k : Int) (n : Nat) : (lineStop k n).length = n := by simp [lineStop]
theorem rdsetStop (l : List S130) (i : Nat) (v : S130) (h : i < l.length) : rd_T130 (l.set i v) (i : Int) = v := by simp [rd_T130, h]
theorem markStopS_l0 (k : Int) (n : Nat) (hk : 0 ≤ k ∧ k ≤ 67108864) (hn : n ≤ 1048576) : ∀ (d i : Nat) (acc : List S130), i + d = n → acc.length = n → acc.take i = ((List.range n).take i).map (fun j : Nat => (⟨k + 3 * (j : Int), k + 3 * (j : Int) + 1, k + 3 * (j : Int) + 2⟩ : S130)) → laws_markStopS.L0 acc (k + 3 * (i : Int)) (i : Int) = some (k + 3 * (n : Int), lineStop k n)
  | 0, i, acc, h, ha, ht => by
    rw [laws_markStopS.L0_eq, if_neg (by omega)]
    rw [List.take_of_length_le (by omega), List.take_of_length_le (by simp; omega)] at ht
    rw [ht, show i = n by omega]; rfl
  | d + 1, i, acc, h, ha, ht => by
    have hi : i < acc.length := by omega
    rw [laws_markStopS.L0_eq, if_pos (by omega), if_pos (by omega)]
    simp only [Option.bind_some, Int.toNat_natCast, rdsetStop, List.length_set, hi, List.set_set, wrap_succ i (by omega)]
    simp only [wrap_in (k + 3 * (i : Int) + 1) (by omega), wrap_in (k + 3 * (i : Int) + 1 + 1) (by omega), wrap_in (k + 3 * (i : Int) + 1 + 1 + 1) (by omega)]
    rw [show k + 3 * (i : Int) + 1 + 1 + 1 = k + 3 * ((i + 1 : Nat) : Int) by omega]
    refine markStopS_l0 k n hk hn d (i + 1) _ (by omega) (by rw [List.length_set]; exact ha) ?_
    exact fill_step (List.range n) (fun j : Nat => (⟨k + 3 * (j : Int), k + 3 * (j : Int) + 1, k + 3 * (j : Int) + 2⟩ : S130)) acc i (by simp [ha]) (by simp; omega) ht _ (by simp <;> omega)
theorem markStopS (l : List S130) (k : Int) (hk : 0 ≤ k ∧ k ≤ 67108864) (hn : l.length ≤ 1048576) : laws_markStopS.F l k = some (k + 3 * (l.length : Int), lineStop k l.length) := by
  rw [laws_markStopS.F_eq]
  have := markStopS_l0 k l.length hk hn l.length 0 l (by omega) rfl (by simp)
  simpa using this

def lineInt (k : Int) (n : Nat) : List Int := (List.range n).map (fun j : Nat => k + (j : Int))
theorem lineInt_len (k : Int) (n : Nat) : (lineInt k n).length = n := by simp [lineInt]
theorem markIntS_l0 (k : Int) (n : Nat) (hk : 0 ≤ k ∧ k ≤ 67108864) (hn : n ≤ 4194304) : ∀ (d i : Nat) (acc : List Int), i + d = n → acc.length = n → acc.take i = ((List.range n).take i).map (fun j : Nat => k + (j : Int)) → laws_markIntS.L0 acc (k + (i : Int)) (i : Int) = some (k + (n : Int), lineInt k n)
  | 0, i, acc, h, ha, ht => by
    rw [laws_markIntS.L0_eq, if_neg (by omega)]
    rw [List.take_of_length_le (by omega), List.take_of_length_le (by simp; omega)] at ht
    rw [ht, show i = n by omega]; rfl
  | d + 1, i, acc, h, ha, ht => by
    rw [laws_markIntS.L0_eq, if_pos (by omega), if_pos (by omega), wrap_succ i (by omega), wrap_in _ (by omega), Int.toNat_natCast, show k + (i : Int) + 1 = k + ((i + 1 : Nat) : Int) by omega]
    refine markIntS_l0 k n hk hn d (i + 1) _ (by omega) (by rw [List.length_set]; exact ha) ?_
    exact fill_step (List.range n) (fun j : Nat => k + (j : Int)) acc i (by simp [ha]) (by simp; omega) ht _ (by simp)
theorem markIntS (l : List Int) (k : Int) (hk : 0 ≤ k ∧ k ≤ 67108864) (hn : l.length ≤ 4194304) : laws_markIntS.F l k = some (k + (l.length : Int), lineInt k l.length) := by
  rw [laws_markIntS.F_eq]
  have := markIntS_l0 k l.length hk hn l.length 0 l (by omega) rfl (by simp)
  simpa using this

theorem heldIntS_l0 (k : Int) (n : Nat) (hk : 0 ≤ k ∧ k ≤ 67108864) (hn : n ≤ 4194304) : ∀ (d i : Nat), i + d = n → laws_heldIntS.L0 (lineInt k n) (k + (i : Int)) (i : Int) = some (k + (n : Int))
  | 0, i, h => by rw [laws_heldIntS.L0_eq, lineInt_len, if_neg (by omega), show i = n by omega]
  | d + 1, i, h => by
    have hr : rd (lineInt k n) (i : Int) = k + (i : Int) := by simp [rd, lineInt, show i < n by omega]
    rw [laws_heldIntS.L0_eq, lineInt_len, if_pos (by omega), if_pos (by omega), hr, if_pos rfl, wrap_succ i (by omega), wrap_in _ (by omega), show k + (i : Int) + 1 = k + ((i + 1 : Nat) : Int) by omega]
    exact heldIntS_l0 k n hk hn d (i + 1) (by omega)
theorem heldIntS (k : Int) (n : Nat) (hk : 0 ≤ k ∧ k ≤ 67108864) (hn : n ≤ 4194304) : laws_heldIntS.F (lineInt k n) k = some (k + (n : Int)) := by
  rw [laws_heldIntS.F_eq]
  have := heldIntS_l0 k n hk hn n 0 (by omega)
  simpa using this

theorem inRange (a b c : Int) : impl_InRange.f a b c = some (inR a b c) := by
  unfold impl_InRange.f inR
  by_cases h : b ≤ a <;> simp [h]

theorem l1In (a b c : Int) : spec_l1In.f a b c = some (inR a b c) := by
  unfold spec_l1In.f inR
  by_cases h : b ≤ a <;> simp [h]

def spanB (a b : Int) : Bool := inR a 0 100000 && inR b 0 100000 && decide (a ≤ b)
def maxI (a b : Int) : Int := if b > a then b else a
def minI (a b : Int) : Int := if b < a then b else a
theorem maxI_comm (a b : Int) : maxI a b = maxI b a := by unfold maxI; split <;> split <;> omega
theorem minI_comm (a b : Int) : minI a b = minI b a := by unfold minI; split <;> split <;> omega
def meetB (a0 a1 b0 b1 : Int) : Bool := spanB a0 a1 && spanB b0 b1 && spanB (maxI a0 b0) (minI a1 b1)
theorem meetB_comm (a0 a1 b0 b1 : Int) : meetB a0 a1 b0 b1 = meetB b0 b1 a0 a1 := by
  unfold meetB
  rw [maxI_comm a0, minI_comm a1, Bool.and_comm (spanB a0 a1)]
theorem spec_Meet_is (a0 a1 b0 b1 : Int) : ∃ u v, spec_Meet.f a0 a1 b0 b1 = some (u, v, meetB a0 a1 b0 b1) := by
  have hs : ∀ a b, spec_IsSpan.f a b = some (spanB a b) := fun a b => by
    unfold spec_IsSpan.f spanB
    simp only [l1In, Option.bind_some]
    cases inR a 0 100000 <;> cases inR b 0 100000 <;> simp
  have h1 : ∀ a b, spec_Max.f a b = some (maxI a b) := fun a b => by unfold spec_Max.f maxI; split <;> rfl
  have h2 : ∀ a b, spec_Min.f a b = some (minI a b) := fun a b => by unfold spec_Min.f minI; split <;> rfl
  unfold spec_Meet.f meetB
  rw [h1, Option.bind_some, h2, Option.bind_some, hs, Option.bind_some, hs, Option.bind_some, hs, Option.bind_some]
  cases spanB a0 a1 <;> cases spanB b0 b1 <;> cases spanB (maxI a0 b0) (minI a1 b1) <;> exact ⟨_, _, rfl⟩
theorem impl_Meet_is (a0 a1 b0 b1 : Int) : ∃ u v, impl_Meet.f a0 a1 b0 b1 = some (u, v, meetB a0 a1 b0 b1) := by
  have hs : ∀ a b, impl_IsSpan.f a b = some (spanB a b) := fun a b => by
    unfold impl_IsSpan.f spanB
    simp only [inRange, Option.bind_some]
    cases inR a 0 100000 <;> cases inR b 0 100000 <;> simp
  have h1 : ∀ a b : Int, mx a b = maxI a b := fun a b => by unfold mx maxI; first | rfl | (split <;> rfl)
  have h2 : ∀ a b : Int, mn a b = minI a b := fun a b => by unfold mn minI; first | rfl | (split <;> rfl)
  unfold impl_Meet.f meetB
  rw [h1, h2, hs, Option.bind_some, hs, Option.bind_some, hs, Option.bind_some]
  cases spanB a0 a1 <;> cases spanB b0 b1 <;> cases spanB (maxI a0 b0) (minI a1 b1) <;> exact ⟨_, _, rfl⟩
theorem spec_Span_is (a b : Int) : spec_IsSpan.f a b = some (spanB a b) := by
  unfold spec_IsSpan.f spanB
  simp only [l1In, Option.bind_some]
  cases inR a 0 100000 <;> cases inR b 0 100000 <;> simp
theorem impl_Span_is (a b : Int) : impl_IsSpan.f a b = some (spanB a b) := by
  unfold impl_IsSpan.f spanB
  simp only [inRange, Option.bind_some]
  cases inR a 0 100000 <;> cases inR b 0 100000 <;> simp

def Asc (l : List Int) : Prop := l.Pairwise (fun x y => x < y)
theorem asc_ext : ∀ (a b : List Int), Asc a → Asc b → (∀ x, x ∈ a ↔ x ∈ b) → a = b
  | [], [], _, _, _ => rfl
  | [], y :: b, _, _, h => by have := (h y).2 (List.mem_cons_self ..); cases this
  | x :: a, [], _, _, h => by have := (h x).1 (List.mem_cons_self ..); cases this
  | x :: a, y :: b, ha, hb, h => by
    have ha' := List.pairwise_cons.1 ha
    have hb' := List.pairwise_cons.1 hb
    have e : x = y := by
      rcases List.mem_cons.1 ((h x).1 (List.mem_cons_self ..)) with h1 | h1
      · exact h1
      · rcases List.mem_cons.1 ((h y).2 (List.mem_cons_self ..)) with h2 | h2
        · exact h2.symm
        · have := hb'.1 x h1
          have := ha'.1 y h2
          omega
    subst e
    congr 1
    refine asc_ext a b ha'.2 hb'.2 (fun z => ⟨fun hz => ?_, fun hz => ?_⟩)
    · rcases List.mem_cons.1 ((h z).1 (List.mem_cons_of_mem _ hz)) with h1 | h1
      · have := ha'.1 z hz; omega
      · exact h1
    · rcases List.mem_cons.1 ((h z).2 (List.mem_cons_of_mem _ hz)) with h1 | h1
      · have := hb'.1 z hz; omega
      · exact h1
def putA : List Int → Int → List Int
  | [], n => [n]
  | x :: r, n => if x < n then x :: putA r n else if x = n then x :: r else n :: x :: r
theorem putA_mem (n z : Int) : ∀ l : List Int, z ∈ putA l n ↔ z = n ∨ z ∈ l
  | [] => by simp [putA]
  | x :: r => by
    simp only [putA]
    by_cases h1 : x < n
    · rw [if_pos h1, List.mem_cons, putA_mem n z r, List.mem_cons]
      exact ⟨fun h => by rcases h with h | h | h <;> simp [h], fun h => by rcases h with h | h | h <;> simp [h]⟩
    · rw [if_neg h1]
      by_cases h2 : x = n
      · rw [if_pos h2, List.mem_cons]
        refine ⟨fun h => .inr h, fun h => ?_⟩
        rcases h with h | h
        · exact .inl (by omega)
        · exact h
      · rw [if_neg h2, List.mem_cons]
theorem putA_asc (n : Int) : ∀ l : List Int, Asc l → Asc (putA l n)
  | [], _ => List.pairwise_singleton _ _
  | x :: r, h => by
    have h' := List.pairwise_cons.1 h
    simp only [putA]
    by_cases h1 : x < n
    · rw [if_pos h1]
      refine List.pairwise_cons.2 ⟨fun z hz => ?_, putA_asc n r h'.2⟩
      rcases (putA_mem n z r).1 hz with e | e
      · omega
      · exact h'.1 z e
    · rw [if_neg h1]
      by_cases h2 : x = n
      · rw [if_pos h2]; exact h
      · rw [if_neg h2]
        refine List.pairwise_cons.2 ⟨fun z hz => ?_, h⟩
        rcases List.mem_cons.1 hz with e | e
        · omega
        · have := h'.1 z e; omega
theorem putA_len (n : Int) : ∀ l : List Int, (putA l n).length ≤ l.length + 1
  | [] => by simp [putA]
  | x :: r => by
    simp only [putA]
    by_cases h1 : x < n
    · rw [if_pos h1, List.length_cons, List.length_cons]
      have := putA_len n r
      omega
    · rw [if_neg h1]
      split <;> simp

theorem sortedA_mem (l : List Int) (z : Int) : z ∈ Srt.sorted l ↔ z ∈ l := (List.mergeSort_perm l _).mem_iff
theorem sortedA_pw (l : List Int) : (Srt.sorted l).Pairwise (fun x y => x ≤ y) := by
  have h := List.pairwise_mergeSort (le := fun x y : Int => decide (x ≤ y)) (fun a b c h1 h2 => by simp only [decide_eq_true_eq] at *; omega) (fun a b => by simp only [Bool.or_eq_true, decide_eq_true_eq]; omega) l
  exact h.imp (fun h => by simpa using h)
theorem get_le {l : List Int} (h : l.Pairwise (fun x y => x ≤ y)) {i j : Nat} (hij : i ≤ j) (hj : j < l.length) : l.toArray[i]! ≤ l.toArray[j]! := by
  rcases Nat.lt_or_eq_of_le hij with hlt | rfl
  · have := List.pairwise_iff_getElem.1 h i j (by omega) hj hlt
    simpa [show i < l.length by omega, hj] using this
  · exact Int.le_refl _
theorem compact_asc {l : List Int} (h : l.Pairwise (fun x y => x ≤ y)) : Asc (Go.Lib.compact l) := by
  unfold Asc Go.Lib.compact Go.Lib.compactUpTo
  rw [List.pairwise_map]
  refine List.Pairwise.imp_of_mem ?_ (List.Pairwise.filter _ List.pairwise_lt_range)
  intro i j hi hj hij
  rw [List.mem_filter, List.mem_range] at hi hj
  have hk := hj.2
  unfold Go.Lib.keeps at hk
  rw [decide_eq_true_iff] at hk
  have hne := hk.resolve_left (by omega)
  have h1 := get_le h (show i ≤ j - 1 by omega) (by omega)
  have h2 := get_le h (show j - 1 ≤ j by omega) hj.1
  omega
theorem compact_mem (l : List Int) (z : Int) : z ∈ Go.Lib.compact l ↔ z ∈ l := by
  unfold Go.Lib.compact Go.Lib.compactUpTo
  rw [List.mem_map]
  constructor
  · rintro ⟨j, hj, rfl⟩
    rw [List.mem_filter, List.mem_range] at hj
    simp [hj.1]
  · intro hz
    obtain ⟨i, hi, rfl⟩ := List.getElem_of_mem hz
    have key : ∀ (n i : Nat), i ≤ n → (hi : i < l.length) → ∃ j, j ∈ (List.range l.length).filter (Go.Lib.keeps l.toArray) ∧ l.toArray[j]! = l[i] := by
      intro n
      induction n with
      | zero =>
        intro i hin hi
        have e : i = 0 := by omega
        subst e
        exact ⟨0, by rw [List.mem_filter, List.mem_range]; exact ⟨hi, by simp [Go.Lib.keeps]⟩, by simp [hi]⟩
      | succ n ih =>
        intro i hin hi
        by_cases hk : Go.Lib.keeps l.toArray i = true
        · exact ⟨i, by rw [List.mem_filter, List.mem_range]; exact ⟨hi, hk⟩, by simp [hi]⟩
        · unfold Go.Lib.keeps at hk
          rw [decide_eq_true_iff, not_or] at hk
          have h2 : l.toArray[i]! = l.toArray[i - 1]! := Classical.byContradiction (fun hh => hk.2 hh)
          obtain ⟨j, hj, e⟩ := ih (i - 1) (by omega) (by omega)
          refine ⟨j, hj, e.trans ?_⟩
          simpa [hi, show i - 1 < l.length by omega] using h2.symm
    exact key i i (Nat.le_refl _) hi
theorem united_is {a b : List Int} (hb : Asc b) (h : ∀ z, z ∈ a ↔ z ∈ b) : Go.Lib.compact (Srt.sorted a) = b :=
  asc_ext _ _ (compact_asc (sortedA_pw a)) hb (fun z => by rw [compact_mem, sortedA_mem]; exact h z)

def okStop (l : List S130) (i : Nat) : Prop := inR (rd_T130 l i).f0 1 30 = true ∧ ¬ (rd_T130 l i).f1 < 0 ∧ ¬ (rd_T130 l i).f1 > (rd_T130 l i).f2 ∧ ¬ (rd_T130 l i).f2 > 100000 ∧ ((i : Int) > 0 → ¬ (rd_T130 l i).f1 < (rd_T130 l ((i : Int) - 1)).f2)
noncomputable def isRoute (l : List S130) : Bool := allF (okStop l) l.length 0 && inR (l.length : Int) 1 10

def leftS (s0 s1 : Int) : List S130 → List Int → List Int
  | [], acc => acc
  | x :: r, acc => leftS s0 s1 r (if meetB s0 s1 x.f1 x.f2 = true ∨ r.length = 0 then putA acc x.f0 else acc)
def leftI (s0 s1 : Int) : List S130 → List Int → List Int
  | [], acc => acc
  | x :: r, acc => leftI s0 s1 r (if meetB s0 s1 x.f1 x.f2 = true then acc ++ [x.f0] else acc)
theorem leftS_asc (s0 s1 : Int) : ∀ (l : List S130) (acc : List Int), Asc acc → Asc (leftS s0 s1 l acc)
  | [], acc, h => h
  | x :: r, acc, h => by
    rw [leftS]
    refine leftS_asc s0 s1 r _ ?_
    split
    · exact putA_asc _ _ h
    · exact h
theorem leftS_len (s0 s1 : Int) : ∀ (l : List S130) (acc : List Int), (leftS s0 s1 l acc).length ≤ acc.length + l.length
  | [], acc => Nat.le_refl _
  | x :: r, acc => by
    rw [leftS, List.length_cons]
    have h1 := leftS_len s0 s1 r (if meetB s0 s1 x.f1 x.f2 = true ∨ r.length = 0 then putA acc x.f0 else acc)
    have h2 := putA_len x.f0 acc
    split at h1 <;> rename_i hc
    · rw [if_pos hc]; omega
    · rw [if_neg hc]; omega
theorem leftI_len (s0 s1 : Int) : ∀ (l : List S130) (acc : List Int), (leftI s0 s1 l acc).length ≤ acc.length + l.length
  | [], acc => Nat.le_refl _
  | x :: r, acc => by
    rw [leftI, List.length_cons]
    by_cases hc : meetB s0 s1 x.f1 x.f2 = true
    · rw [if_pos hc]
      have h1 := leftI_len s0 s1 r (acc ++ [x.f0])
      rw [List.length_append, List.length_singleton] at h1
      omega
    · rw [if_neg hc]
      have h1 := leftI_len s0 s1 r acc
      omega
theorem leftI_mem (s0 s1 z : Int) : ∀ (l : List S130) (acc : List Int), z ∈ leftI s0 s1 l acc ↔ z ∈ acc ∨ ∃ y ∈ l, meetB s0 s1 y.f1 y.f2 = true ∧ y.f0 = z
  | [], acc => by simp [leftI]
  | x :: r, acc => by
    rw [leftI]
    by_cases hc : meetB s0 s1 x.f1 x.f2 = true
    · rw [if_pos hc, leftI_mem s0 s1 z r]
      constructor
      · rintro (h | ⟨y, hy, h⟩)
        · rcases List.mem_append.1 h with h | h
          · exact .inl h
          · exact .inr ⟨x, List.mem_cons_self .., hc, (List.mem_singleton.1 h).symm⟩
        · exact .inr ⟨y, List.mem_cons_of_mem _ hy, h⟩
      · rintro (h | ⟨y, hy, h⟩)
        · exact .inl (List.mem_append_left _ h)
        · rcases List.mem_cons.1 hy with e | e
          · exact .inl (List.mem_append_right _ (by rw [← h.2, e]; exact List.mem_singleton.2 rfl))
          · exact .inr ⟨y, e, h⟩
    · rw [if_neg hc, leftI_mem s0 s1 z r]
      constructor
      · rintro (h | ⟨y, hy, h⟩)
        · exact .inl h
        · exact .inr ⟨y, List.mem_cons_of_mem _ hy, h⟩
      · rintro (h | ⟨y, hy, h⟩)
        · exact .inl h
        · rcases List.mem_cons.1 hy with e | e
          · rw [e] at h; exact absurd h.1 hc
          · exact .inr ⟨y, e, h⟩
theorem leftS_mem (s0 s1 z : Int) : ∀ (l : List S130) (acc : List Int), z ∈ leftS s0 s1 l acc ↔ z ∈ acc ∨ (∃ y ∈ l, meetB s0 s1 y.f1 y.f2 = true ∧ y.f0 = z) ∨ (0 < l.length ∧ (l.getD (l.length - 1) z130).f0 = z)
  | [], acc => by simp [leftS]
  | x :: r, acc => by
    have hlast : (0 < (x :: r).length ∧ ((x :: r).getD ((x :: r).length - 1) z130).f0 = z) ↔ (if r.length = 0 then x.f0 = z else (0 < r.length ∧ (r.getD (r.length - 1) z130).f0 = z)) := by
      cases r with
      | nil => simp
      | cons y q => simp
    rw [leftS, hlast, leftS_mem s0 s1 z r]
    have hp := putA_mem x.f0 z acc
    by_cases hr : r.length = 0
    · have hr0 : r = [] := List.eq_nil_of_length_eq_zero hr
      subst hr0
      rw [if_pos (.inr hr), if_pos hr, hp]
      constructor
      · rintro ((h | h) | h | h)
        · exact .inr (.inr h.symm)
        · exact .inl h
        · obtain ⟨y, hy, _⟩ := h; cases hy
        · exact absurd h.1 (by simp)
      · rintro (h | ⟨y, hy, h⟩ | h)
        · exact .inl (.inr h)
        · rcases List.mem_cons.1 hy with e | e
          · exact .inl (.inl (by rw [← h.2, e]))
          · cases e
        · exact .inl (.inl h.symm)
    · rw [if_neg hr]
      by_cases hc : meetB s0 s1 x.f1 x.f2 = true
      · rw [if_pos (.inl hc), hp]
        constructor
        · rintro ((h | h) | ⟨y, hy, h⟩ | h)
          · exact .inr (.inl ⟨x, List.mem_cons_self .., hc, h.symm⟩)
          · exact .inl h
          · exact .inr (.inl ⟨y, List.mem_cons_of_mem _ hy, h⟩)
          · exact .inr (.inr h)
        · rintro (h | ⟨y, hy, h⟩ | h)
          · exact .inl (.inr h)
          · rcases List.mem_cons.1 hy with e | e
            · exact .inl (.inl (by rw [← h.2, e]))
            · exact .inr (.inl ⟨y, e, h⟩)
          · exact .inr (.inr h)
      · rw [if_neg (fun hh => hh.elim hc hr)]
        constructor
        · rintro (h | ⟨y, hy, h⟩ | h)
          · exact .inl h
          · exact .inr (.inl ⟨y, List.mem_cons_of_mem _ hy, h⟩)
          · exact .inr (.inr h)
        · rintro (h | ⟨y, hy, h⟩ | h)
          · exact .inl h
          · rcases List.mem_cons.1 hy with e | e
            · rw [e] at h; exact absurd h.1 hc
            · exact .inr (.inl ⟨y, e, h⟩)
          · exact .inr (.inr h)
noncomputable def leftBetween (l : List S130) (s0 s1 : Int) : List Int := if isRoute l = true ∧ spanB s0 s1 = true then leftS s0 s1 l [] else []
theorem route_len {l : List S130} (h : isRoute l = true) : 1 ≤ l.length ∧ l.length ≤ 10 := by
  unfold isRoute at h
  rw [Bool.and_eq_true, inR_iff] at h
  omega
theorem leftBetween_len (l : List S130) (s0 s1 : Int) : (leftBetween l s0 s1).length ≤ 10 := by
  unfold leftBetween
  by_cases h : isRoute l = true ∧ spanB s0 s1 = true
  · rw [if_pos h]
    have h1 := leftS_len s0 s1 l []
    have h2 := (route_len h.1).2
    simp at h1
    omega
  · rw [if_neg h]
    simp

theorem rdInt_at (l : List Int) (i : Nat) : rd l (i : Int) = l.getD i 0 := by simp [rd]
theorem dropInt (l : List Int) (i : Nat) (h : i < l.length) : l.drop i = rd l (i : Int) :: l.drop (i + 1) := by
  rw [rdInt_at, getD_get l i _ h]
  exact List.drop_eq_getElem_cons h

theorem spec_l9Put_l0 (l : List Int) (n : Int) (hl : l.length ≤ 2000000) : ∀ (d i : Nat), i + d = l.length → spec_l9Put.L0 l n (i : Int) = some (l.take i ++ putA (l.drop i) n)
  | 0, i, h => by
    have ht := List.length_take (i := i) (l := l)
    have hd := List.length_drop (i := i) (l := l)
    rw [spec_l9Put.L0_eq, if_neg (by omega), Option.bind_some, if_pos (by omega), if_pos (by omega), Int.toNat_natCast, List.nil_append, if_pos (by simp; omega), Option.bind_some, Option.bind_some, if_pos (by simp; omega), Option.bind_some, if_pos (by simp; omega), List.drop_of_length_le (by omega)]
    simp [putA]
  | d + 1, i, h => by
    rw [spec_l9Put.L0_eq, if_pos (by omega), if_pos (by omega), wrap_succ i (by omega), spec_l9Put_l0 l n hl d (i + 1) (by omega)]
    have e := dropInt l i (by omega)
    have e2 : l.take (i + 1) = l.take i ++ [rd l (i : Int)] := by
      rw [List.take_succ_eq_append_getElem (by omega)]
      congr 2
      simp [rd, show i < l.length by omega]
    by_cases h1 : rd l (i : Int) < n
    · rw [if_pos h1, e, putA, if_pos h1, e2]
      simp
    · rw [if_neg h1]
      by_cases h2 : rd l (i : Int) = n
      · rw [if_pos h2, Option.bind_some, if_pos (by simp; omega), e, putA, if_neg h1, if_pos h2, ← e, List.take_append_drop, List.nil_append]
      · rw [if_neg h2, Option.bind_some, if_pos (by omega), Int.toNat_natCast, List.nil_append, if_pos (by simp; omega), Option.bind_some, Option.bind_some, if_pos (by simp; omega), Option.bind_some, if_pos (by simp; omega), e, putA, if_neg h1, if_neg h2]
        simp
theorem spec_l9Put_is (l : List Int) (n : Int) (hl : l.length ≤ 2000000) : spec_l9Put.F l n = some (putA l n) := by
  have := spec_l9Put_l0 l n hl l.length 0 (by omega)
  rw [spec_l9Put.F_eq]
  simpa using this

theorem spec_IsRoute_l0 (l : List S130) (hn : l.length ≤ 1048576) : ∀ (d i : Nat), i + d = l.length → spec_IsRoute.L0 l (i : Int) = some (allF (okStop l) l.length i && inR (l.length : Int) 1 10)
  | 0, i, h => by rw [spec_IsRoute.L0_eq, if_neg (by omega), allF_end (by omega)]; first | done | rfl | simp [l1In, inR]
  | d + 1, i, h => by
    have hi : i < l.length := by omega
    have ih := spec_IsRoute_l0 l hn d (i + 1) (by omega)
    rw [spec_IsRoute.L0_eq]
    simp only [wrap_succ i (by omega), wrap_pred i (by omega), ih, l1In, Option.bind_some]
    by_cases hp_ : okStop l i
    · rw [allF_yes hp_]
      simp only [okStop] at hp_
      obtain ⟨h1_, h2_, h3_, h4_, h5_⟩ := hp_
      repeat' split
      all_goals first
        | rfl
        | (exfalso; first | contradiction | omega)
    · rw [allF_no hi hp_]
      repeat' split
      all_goals first
        | rfl
        | (simp; done)
        | (exfalso; first | contradiction | omega)
        | (exfalso; apply hp_; simp only [okStop]; (repeat' constructor) <;> first | assumption | (intro _; omega) | omega)

theorem spec_IsRoute_is (l : List S130) (hn : l.length ≤ 1048576) : spec_IsRoute.F l = some (isRoute l) := by
  rw [spec_IsRoute.F_eq, isRoute]
  exact spec_IsRoute_l0 l hn l.length 0 (by omega)

theorem spec_LeftBetween_l0 (l : List S130) (s0 s1 : Int) (hr : isRoute l = true) (hs : spanB s0 s1 = true) (hn : l.length ≤ 1000) : ∀ (d i : Nat) (acc : List Int), i + d = l.length → acc.length ≤ i → spec_LeftBetween.L0 l acc (i : Int) s0 s1 = some (leftS s0 s1 (l.drop i) acc)
  | 0, i, acc, h, ha => by
    rw [spec_LeftBetween.L0_eq, if_neg (by omega), spec_LeftBetween.J1_eq, if_neg (by decide), List.drop_of_length_le (by omega)]
    rfl
  | d + 1, i, acc, h, ha => by
    obtain ⟨u, v, em⟩ := spec_Meet_is s0 s1 (rd_T130 l (i : Int)).f1 (rd_T130 l (i : Int)).f2
    have hp := putA_len (rd_T130 l (i : Int)).f0 acc
    have hdl : (l.drop (i + 1)).length = l.length - (i + 1) := List.length_drop
    rw [spec_LeftBetween.L0_eq, if_pos (by omega), spec_IsRoute_is l (by omega), Option.bind_some, if_pos hr, spec_Span_is, Option.bind_some, hs, spec_LeftBetween.J1_eq, if_pos rfl, if_pos (by omega), if_pos (by omega), em, Option.bind_some, dropStop l i (by omega), leftS]
    dsimp only
    rw [wrap_succ i (by omega), spec_l9Put_is _ _ (by omega), Option.bind_some]
    have i1 := spec_LeftBetween_l0 l s0 s1 hr hs hn d (i + 1) (putA acc (rd_T130 l (i : Int)).f0) (by omega) (by omega)
    have i2 := spec_LeftBetween_l0 l s0 s1 hr hs hn d (i + 1) acc (by omega) (by omega)
    by_cases hc : meetB s0 s1 (rd_T130 l (i : Int)).f1 (rd_T130 l (i : Int)).f2 = true
    · rw [if_pos hc, if_pos (.inl hc)]
      exact i1
    · rw [if_neg hc]
      by_cases hl : ((i + 1 : Nat) : Int) = (l.length : Int)
      · rw [if_pos hl, if_pos (.inr (by omega))]
        exact i1
      · rw [if_neg hl, if_neg (fun hh => hh.elim hc (fun h2 => hl (by omega)))]
        exact i2
theorem spec_LeftBetween_is (l : List S130) (s0 s1 : Int) (hn : l.length ≤ 1048576) : spec_LeftBetween.F l s0 s1 = some (leftBetween l s0 s1) := by
  rw [spec_LeftBetween.F_eq, leftBetween]
  by_cases h : isRoute l = true ∧ spanB s0 s1 = true
  · have hl := route_len h.1
    rw [if_pos h]
    exact spec_LeftBetween_l0 l s0 s1 h.1 h.2 (by omega) l.length 0 [] (by omega) (by simp)
  · rw [if_neg h, spec_LeftBetween.L0_eq]
    have e : spec_LeftBetween.J1 l [] 0 false s0 s1 = some [] := by rw [spec_LeftBetween.J1_eq, if_neg (by decide)]
    split
    · rw [spec_IsRoute_is l hn, Option.bind_some]
      by_cases h1 : isRoute l = true
      · have h2 : spanB s0 s1 = false := Bool.eq_false_iff.2 (fun hh => h ⟨h1, hh⟩)
        rw [if_pos h1, spec_Span_is, Option.bind_some, h2]
        exact e
      · rw [if_neg h1]
        exact e
    · exact e

theorem impl_IsRoute_l0 (l : List S130) (hn : l.length ≤ 1048576) : ∀ (d i : Nat), i + d = l.length → impl_IsRoute.L0 l l (l.length : Int) (i : Int) = some (allF (okStop l) l.length i)
  | 0, i, h => by rw [impl_IsRoute.L0_eq, if_neg (by omega), allF_end (by omega)]; first | done | rfl | simp [inRange, inR]
  | d + 1, i, h => by
    have hi : i < l.length := by omega
    have ih := impl_IsRoute_l0 l hn d (i + 1) (by omega)
    rw [impl_IsRoute.L0_eq]
    simp only [wrap_succ i (by omega), wrap_pred i (by omega), ih, inRange, Option.bind_some]
    by_cases hp_ : okStop l i
    · rw [allF_yes hp_]
      simp only [okStop] at hp_
      obtain ⟨h1_, h2_, h3_, h4_, h5_⟩ := hp_
      repeat' split
      all_goals first
        | rfl
        | (exfalso; first | contradiction | omega)
    · rw [allF_no hi hp_]
      repeat' split
      all_goals first
        | rfl
        | (simp; done)
        | (exfalso; first | contradiction | omega)
        | (exfalso; apply hp_; simp only [okStop]; (repeat' constructor) <;> first | assumption | (intro _; omega) | omega)

theorem impl_IsRoute_is (l : List S130) (hn : l.length ≤ 1048576) : impl_IsRoute.F l = some (isRoute l) := by
  rw [impl_IsRoute.F_eq, isRoute, inRange, Option.bind_some]
  by_cases h : inR (l.length : Int) 1 10 = true
  · rw [if_pos h, h, Bool.and_true]
    exact impl_IsRoute_l0 l hn l.length 0 (by omega)
  · rw [if_neg h, Bool.eq_false_iff.2 h, Bool.and_false]

theorem impl_LeftBetween_l0 (l : List S130) (s0 s1 : Int) (hn : l.length ≤ 1000) : ∀ (d i : Nat) (acc : List Int), i + d = l.length → acc.length ≤ i + 1 → impl_LeftBetween.L0 acc l (l.length : Int) (i : Int) s0 s1 = some (Go.Lib.compact (Srt.sorted (leftI s0 s1 (l.drop i) acc)))
  | 0, i, acc, h, ha => by
    rw [impl_LeftBetween.L0_eq, if_neg (by omega), slices_Sort_int_int.f, if_pos (by omega), Option.bind_some, slices_Compact_int_int.f, Option.bind_some, List.drop_of_length_le (by omega)]
    rfl
  | d + 1, i, acc, h, ha => by
    obtain ⟨u, v, em⟩ := impl_Meet_is (rd_T130 l (i : Int)).f1 (rd_T130 l (i : Int)).f2 s0 s1
    rw [meetB_comm] at em
    rw [impl_LeftBetween.L0_eq, if_pos (by omega), if_pos (by omega), if_pos (by omega), em, Option.bind_some, dropStop l i (by omega), leftI]
    dsimp only
    rw [wrap_succ i (by omega)]
    by_cases hc : meetB s0 s1 (rd_T130 l (i : Int)).f1 (rd_T130 l (i : Int)).f2 = true
    · rw [if_pos hc, if_pos hc, if_pos (by omega)]
      exact impl_LeftBetween_l0 l s0 s1 hn d (i + 1) _ (by omega) (by rw [List.length_append, List.length_singleton]; omega)
    · rw [if_neg hc, if_neg hc]
      exact impl_LeftBetween_l0 l s0 s1 hn d (i + 1) _ (by omega) (by omega)
theorem impl_LeftBetween_is (l : List S130) (s0 s1 : Int) (hn : l.length ≤ 1048576) : impl_LeftBetween.F l s0 s1 = some (leftBetween l s0 s1) := by
  rw [impl_LeftBetween.F_eq, impl_IsRoute_is l hn, Option.bind_some, leftBetween]
  by_cases h1 : isRoute l = true
  · have hl := route_len h1
    rw [if_pos h1, impl_Span_is, Option.bind_some, impl_LeftBetween.J0_eq]
    by_cases h2 : spanB s0 s1 = true
    · have e : ((l.length : Int) - 1) = ((l.length - 1 : Nat) : Int) := by omega
      rw [h2, if_neg (by decide), wrap_in _ (by omega), if_pos (by omega), if_pos (by omega), if_pos ⟨h1, rfl⟩]
      refine Eq.trans (impl_LeftBetween_l0 l s0 s1 (by omega) l.length 0 _ (by omega) (by simp)) ?_
      rw [List.drop_zero]
      congr 1
      refine united_is (leftS_asc s0 s1 l [] List.Pairwise.nil) (fun z => ?_)
      rw [leftI_mem, leftS_mem, List.mem_singleton, e, rdStop_at]
      constructor
      · rintro (h | h)
        · exact .inr (.inr ⟨by omega, h.symm⟩)
        · exact .inr (.inl h)
      · rintro (h | h | h)
        · cases h
        · exact .inr h
        · exact .inl h.2.symm
    · rw [Bool.eq_false_iff.2 h2, if_pos (by decide), if_neg (fun hh => by cases hh.2)]
  · rw [if_neg h1, if_neg (fun hh => h1 hh.1), impl_LeftBetween.J0_eq, if_pos rfl]

theorem law_FnExactLeftBetween (l0 : List S154) (hm0 : l0.length ≤ maxLen) (hw0 : ∀ y ∈ l0, ok154 y) (x1 : S37) (hw1 : ok37 x1) : laws_FnExactLeftBetween.F l0 x1.f0 x1.f1 = some true := by
  rw [laws_FnExactLeftBetween.F_eq, szStopS l0 1048576 (by omega) hm0]
  simp only [Option.bind_some]
  by_cases h : (1048576 : Int) < (l0.length : Int)
  · rw [if_pos h]; rfl
  · have hn : l0.length ≤ 1048576 := by omega
    have hn' : (l0.map cvStop).length ≤ 1048576 := by rw [List.length_map]; exact hn
    have hr := leftBetween_len (l0.map cvStop) x1.f0 x1.f1
    have hr2 : (leftBetween (l0.map cvStop) x1.f0 x1.f1).length ≤ 4194304 := by omega
    rw [if_neg h, if_neg (by omega)]
    simp only [toStopS l0 hn, laws_toSpan.f, spec_LeftBetween_is _ _ _ hn', impl_LeftBetween_is _ _ _ hn', eqIntS _ hr2, eqStopS _ hn', markStopS _ 1 (by omega) hn', Option.bind_some, if_true]
    rw [if_neg (by omega)]
    simp only [laws_FnExactLeftBetween.J0_eq, markIntS _ 1 (by omega) hr2, heldIntS 1 _ (by omega) hr2, Option.bind_some, toStopS l0 hn, laws_toSpan.f, impl_LeftBetween_is _ _ _ hn', eqIntS _ hr2, if_true, Bool.not_true, Bool.false_eq_true, if_false]
    rw [if_neg (by omega), if_neg (by omega)]

theorem FnExactLeftBetween (l0 : List S154) (hm0 : l0.length ≤ maxLen) (hw0 : ∀ y ∈ l0, ok154 y) (x1 : S37) (hw1 : ok37 x1) : ∃ k, laws_FnExactLeftBetween.f k l0 x1.f0 x1.f1 = some true :=
  (laws_FnExactLeftBetween.F_co l0 x1.f0 x1.f1).rounds (law_FnExactLeftBetween l0 hm0 hw0 x1 hw1)
end Go.Proofs.Ytkfalbaklodnjaa.PFnExactLeftBetween.Pure
