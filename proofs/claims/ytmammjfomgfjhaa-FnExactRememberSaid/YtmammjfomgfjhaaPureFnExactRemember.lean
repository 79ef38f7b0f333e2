/-
  The program's Remember answers as the reference's does, for all arguments. It has no conditions.
-/
import Derived.Test.YtmammjfomgfjhaaShFnExactRemember
import Derived.Test.YtmammjfomgfjhaaEqFnExactRemember
import Derived.Test.YtmammjfomgfjhaaBase
set_option linter.unusedVariables false
set_option linter.unusedSimpArgs false
namespace Go.Proofs.Ytmammjfomgfjhaa.PFnExactRemember.Pure
open Go.RowKit Go.Proofs.YtmammjfomgfjhaaW.PrintWords Go.Proofs.YtmammjfomgfjhaaW.PrintLast Go.Proofs.YtmammjfomgfjhaaW.PrintMore Go.Proofs.Ytmammjfomgfjhaa.PFnExactRemember Go.Proofs.Ytmammjfomgfjhaa.Lim Go.Proofs.Ytmammjfomgfjhaa.Base
set_option maxRecDepth 100000

theorem szIntS (l : List Int) (a : Int) (ha : 0 ≤ a ∧ a ≤ 1048576) (hl : l.length ≤ maxLen) : laws_szIntS.f l a = some (if a < (l.length : Int) then -1 else a - (l.length : Int)) := by
  simp only [maxLen] at hl
  unfold laws_szIntS.f
  rw [wrap_in _ (by omega)]
  by_cases h : a < (l.length : Int)
  · rw [if_pos (by omega), if_pos h]
  · rw [if_neg (by omega), if_neg h]

theorem toIntS_l0 (l : List Int) (hn : l.length ≤ 1048576) : ∀ (d i : Nat) (acc : List Int), i + d = l.length → acc.length = l.length → acc.take i = (l.take i).map id → laws_toIntS.L0 l acc (i : Int) = some l
  | 0, i, acc, h, ha, ht => by
    rw [laws_toIntS.L0_eq, if_neg (by omega)]
    rw [List.take_of_length_le (by omega), List.take_of_length_le (by omega)] at ht
    rw [ht, List.map_id]
  | d + 1, i, acc, h, ha, ht => by
    have hi : i < l.length := by omega
    rw [laws_toIntS.L0_eq, if_pos (by omega), if_pos (by omega), if_pos (by omega), wrap_succ i (by omega)]
    refine toIntS_l0 l hn d (i + 1) _ (by omega) (by rw [List.length_set]; exact ha) ?_
    rw [Int.toNat_natCast]
    exact fill_step l id acc i ha hi ht _ (by simp [rd, hi])
theorem toIntS (l : List Int) (hn : l.length ≤ 1048576) : laws_toIntS.F l = some l := by
  rw [laws_toIntS.F_eq, if_pos (by omega), if_pos (by omega)]
  exact toIntS_l0 l hn l.length 0 _ (by omega) (by simp) (by simp)

theorem eqIntS_l0 (l : List Int) (hn : l.length ≤ 4194304) : ∀ (d i : Nat), i + d = l.length → laws_eqIntS.L0 l l (i : Int) = some true
  | 0, i, h => by rw [laws_eqIntS.L0_eq, if_neg (by omega)]
  | d + 1, i, h => by
    rw [laws_eqIntS.L0_eq, if_pos (by omega), if_pos (by omega), if_pos (by omega), if_pos rfl, wrap_succ i (by omega)]
    exact eqIntS_l0 l hn d (i + 1) (by omega)
theorem eqIntS (l : List Int) (hn : l.length ≤ 4194304) : laws_eqIntS.F l l = some true := by
  rw [laws_eqIntS.F_eq, if_pos rfl]
  exact eqIntS_l0 l hn l.length 0 (by omega)

def lineInt (k : Int) (n : Nat) : List Int := (List.range n).map (fun j : Nat => k + (j : Int))
theorem lineInt_len (k : Int) (n : Nat) : (lineInt k n).length = n := by simp [lineInt]
theorem markIntS_l0 (k : Int) (n : Nat) (hk : 0 ≤ k ∧ k ≤ 67108864) (hn : n ≤ 4194304) : ∀ (d i : Nat) (acc : List Int), i + d = n → acc.length = n → acc.take i = ((List.range n).take i).map (fun j : Nat => k + (j : Int)) → laws_markIntS.L0 acc (k + (i : Int)) (i : Int) = some (k + (n : Int), lineInt k n)
  | 0, i, acc, h, ha, ht => by
    rw [laws_markIntS.L0_eq, if_neg (by omega)]
    rw [List.take_of_length_le (by omega), List.take_of_length_le (by simp; omega)] at ht
    rw [ht, show i = n by omega]; rfl
  | d + 1, i, acc, h, ha, ht => by
    rw [laws_markIntS.L0_eq, if_pos (by omega), if_pos (by omega), wrap_succ i (by omega), wrap_in _ (by omega), Int.toNat_natCast, show k + (i : Int) + 1 = k + ((i + 1 : Nat) : Int) by omega]
    refine markIntS_l0 k n hk hn d (i + 1) _ (by omega) (by rw [List.length_set]; exact ha) ?_
    exact fill_step (List.range n) (fun j : Nat => k + (j : Int)) acc i (by simp [ha]) (by simp; omega) ht _ (by simp)
theorem markIntS (l : List Int) (k : Int) (hk : 0 ≤ k ∧ k ≤ 67108864) (hn : l.length ≤ 4194304) : laws_markIntS.F l k = some (k + (l.length : Int), lineInt k l.length) := by
  rw [laws_markIntS.F_eq]
  have := markIntS_l0 k l.length hk hn l.length 0 l (by omega) rfl (by simp)
  simpa using this

theorem szDoubtA (c : List Int) (s : Int) (p : List Int) (h : Int) (a : Int) (ha : 0 ≤ a ∧ a ≤ 1048576) (hc : c.length ≤ maxLen) (hp : p.length ≤ maxLen) :
    laws_szDoubt.f c s p h a = some (-1) ∨ (laws_szDoubt.f c s p h a = some (a - (c.length : Int) - (p.length : Int)) ∧ (c.length : Int) + (p.length : Int) ≤ a) := by
  unfold laws_szDoubt.f
  rw [szIntS c a ha hc, Option.bind_some]
  by_cases h1 : a < (c.length : Int)
  · left
    rw [if_pos h1]; rfl
  · rw [if_neg h1, if_neg (by omega), szIntS p _ (by omega) hp, Option.bind_some]
    by_cases h2 : a - (c.length : Int) < (p.length : Int)
    · left
      rw [if_pos h2]; rfl
    · right
      rw [if_neg h2, if_neg (by omega)]
      exact ⟨rfl, by omega⟩
theorem toDoubt_is (c : List Int) (s : Int) (p : List Int) (h : Int) (hc : c.length ≤ 1048576) (hp : p.length ≤ 1048576) : laws_toDoubt.F c s p h = some (c, s, p, h) := by
  rw [laws_toDoubt.F_eq, toIntS _ hc, Option.bind_some, toIntS _ hp, Option.bind_some]
theorem eqDoubt_is (c : List Int) (s : Int) (p : List Int) (h : Int) (hc : c.length ≤ 4194304) (hp : p.length ≤ 4194304) : laws_eqDoubt.F c s p h c s p h = some true := by
  rw [laws_eqDoubt.F_eq, eqIntS _ hc, Option.bind_some, if_pos rfl, if_pos rfl, eqIntS _ hp, Option.bind_some, if_pos rfl, if_pos rfl]
theorem markDoubt_is (c : List Int) (s : Int) (p : List Int) (h : Int) (k : Int) (hk : 0 ≤ k ∧ k ≤ 16777216) (hc : c.length ≤ 4194304) (hp : p.length ≤ 4194304) : laws_markDoubt.F c s p h k = some (k + (c.length : Int) + (p.length : Int), lineInt k c.length, lineInt (k + (c.length : Int)) p.length) := by
  rw [laws_markDoubt.F_eq, markIntS c k (by omega) hc, Option.bind_some]
  dsimp only
  rw [markIntS p _ (by omega) hp, Option.bind_some]

theorem heldIntS_l0 (k : Int) (n : Nat) (hk : 0 ≤ k ∧ k ≤ 67108864) (hn : n ≤ 4194304) : ∀ (d i : Nat), i + d = n → laws_heldIntS.L0 (lineInt k n) (k + (i : Int)) (i : Int) = some (k + (n : Int))
  | 0, i, h => by rw [laws_heldIntS.L0_eq, lineInt_len, if_neg (by omega), show i = n by omega]
  | d + 1, i, h => by
    have hr : rd (lineInt k n) (i : Int) = k + (i : Int) := by simp [rd, lineInt, show i < n by omega]
    rw [laws_heldIntS.L0_eq, lineInt_len, if_pos (by omega), if_pos (by omega), hr, if_pos rfl, wrap_succ i (by omega), wrap_in _ (by omega), show k + (i : Int) + 1 = k + ((i + 1 : Nat) : Int) by omega]
    exact heldIntS_l0 k n hk hn d (i + 1) (by omega)
theorem heldIntS (k : Int) (n : Nat) (hk : 0 ≤ k ∧ k ≤ 67108864) (hn : n ≤ 4194304) : laws_heldIntS.F (lineInt k n) k = some (k + (n : Int)) := by
  rw [laws_heldIntS.F_eq]
  have := heldIntS_l0 k n hk hn n 0 (by omega)
  simpa using this

theorem markReport_is (r0 r1 : Int) (rc : List Int) (r3 r4 : Int) (rp : List Int) (r6 r7 : Int) (hc : rc.length ≤ 4194304) (hp : rp.length ≤ 4194304) : laws_markReport.F r0 r1 rc r3 r4 rp r6 r7 1 = some (1 + (rc.length : Int) + (rp.length : Int), lineInt 1 rc.length, lineInt (1 + (rc.length : Int)) rp.length) := by
  rw [laws_markReport.F_eq, markIntS rc 1 (by omega) (by omega), Option.bind_some]
  dsimp only
  rw [markIntS rp _ (by omega) (by omega), Option.bind_some]
theorem heldReport_is (r0 r1 r3 r4 r6 r7 : Int) (n m : Nat) (hc : n ≤ 4194304) (hp : m ≤ 4194304) : laws_heldReport.F r0 r1 (lineInt 1 n) r3 r4 (lineInt (1 + (n : Int)) m) r6 r7 1 = some (1 + (n : Int) + (m : Int)) := by
  rw [laws_heldReport.F_eq, heldIntS 1 n (by omega) (by omega), Option.bind_some, if_neg (by omega), heldIntS _ m (by omega) (by omega), Option.bind_some, if_neg (by omega)]

theorem eqReport_is (r0 r1 : Int) (rc : List Int) (r3 r4 : Int) (rp : List Int) (r6 r7 : Int) (hc : rc.length ≤ 4194304) (hp : rp.length ≤ 4194304) : laws_eqReport.F r0 r1 rc r3 r4 rp r6 r7 r0 r1 rc r3 r4 rp r6 r7 = some true := by
  rw [laws_eqReport.F_eq]
  simp [eqIntS _ hc, eqIntS _ hp, laws_eqSpan.f]

theorem toFind_is (f0 f1 f2 f3 f4 f5 f6 f7 : Int) : laws_toFind.f f0 f1 f2 f3 f4 f5 f6 f7 = some (f0, f1, f2, f3, f4, f5, f6, f7) := rfl

def Asc (l : List Int) : Prop := l.Pairwise (fun x y => x < y)
theorem asc_ext : ∀ (a b : List Int), Asc a → Asc b → (∀ x, x ∈ a ↔ x ∈ b) → a = b
  | [], [], _, _, _ => rfl
  | [], y :: b, _, _, h => by have := (h y).2 (List.mem_cons_self ..); cases this
  | x :: a, [], _, _, h => by have := (h x).1 (List.mem_cons_self ..); cases this
  | x :: a, y :: b, ha, hb, h => by
    have ha' := List.pairwise_cons.1 ha
    have hb' := List.pairwise_cons.1 hb
    have e : x = y := by
      rcases List.mem_cons.1 ((h x).1 (List.mem_cons_self ..)) with h1 | h1
      · exact h1
      · rcases List.mem_cons.1 ((h y).2 (List.mem_cons_self ..)) with h2 | h2
        · exact h2.symm
        · have := hb'.1 x h1
          have := ha'.1 y h2
          omega
    subst e
    congr 1
    refine asc_ext a b ha'.2 hb'.2 (fun z => ⟨fun hz => ?_, fun hz => ?_⟩)
    · rcases List.mem_cons.1 ((h z).1 (List.mem_cons_of_mem _ hz)) with h1 | h1
      · have := ha'.1 z hz; omega
      · exact h1
    · rcases List.mem_cons.1 ((h z).2 (List.mem_cons_of_mem _ hz)) with h1 | h1
      · have := hb'.1 z hz; omega
      · exact h1
def putA : List Int → Int → List Int
  | [], n => [n]
  | x :: r, n => if x < n then x :: putA r n else if x = n then x :: r else n :: x :: r
theorem putA_mem (n z : Int) : ∀ l : List Int, z ∈ putA l n ↔ z = n ∨ z ∈ l
  | [] => by simp [putA]
  | x :: r => by
    simp only [putA]
    by_cases h1 : x < n
    · rw [if_pos h1, List.mem_cons, putA_mem n z r, List.mem_cons]
      exact ⟨fun h => by rcases h with h | h | h <;> simp [h], fun h => by rcases h with h | h | h <;> simp [h]⟩
    · rw [if_neg h1]
      by_cases h2 : x = n
      · rw [if_pos h2, List.mem_cons]
        refine ⟨fun h => .inr h, fun h => ?_⟩
        rcases h with h | h
        · exact .inl (by omega)
        · exact h
      · rw [if_neg h2, List.mem_cons]
theorem putA_asc (n : Int) : ∀ l : List Int, Asc l → Asc (putA l n)
  | [], _ => List.pairwise_singleton _ _
  | x :: r, h => by
    have h' := List.pairwise_cons.1 h
    simp only [putA]
    by_cases h1 : x < n
    · rw [if_pos h1]
      refine List.pairwise_cons.2 ⟨fun z hz => ?_, putA_asc n r h'.2⟩
      rcases (putA_mem n z r).1 hz with e | e
      · omega
      · exact h'.1 z e
    · rw [if_neg h1]
      by_cases h2 : x = n
      · rw [if_pos h2]; exact h
      · rw [if_neg h2]
        refine List.pairwise_cons.2 ⟨fun z hz => ?_, h⟩
        rcases List.mem_cons.1 hz with e | e
        · omega
        · have := h'.1 z e; omega
theorem putA_len (n : Int) : ∀ l : List Int, (putA l n).length ≤ l.length + 1
  | [] => by simp [putA]
  | x :: r => by
    simp only [putA]
    by_cases h1 : x < n
    · rw [if_pos h1, List.length_cons, List.length_cons]
      have := putA_len n r
      omega
    · rw [if_neg h1]
      split <;> simp

theorem sortedA_mem (l : List Int) (z : Int) : z ∈ Srt.sorted l ↔ z ∈ l := (List.mergeSort_perm l _).mem_iff
theorem sortedA_pw (l : List Int) : (Srt.sorted l).Pairwise (fun x y => x ≤ y) := by
  have h := List.pairwise_mergeSort (le := fun x y : Int => decide (x ≤ y)) (fun a b c h1 h2 => by simp only [decide_eq_true_eq] at *; omega) (fun a b => by simp only [Bool.or_eq_true, decide_eq_true_eq]; omega) l
  exact h.imp (fun h => by simpa using h)
theorem get_le {l : List Int} (h : l.Pairwise (fun x y => x ≤ y)) {i j : Nat} (hij : i ≤ j) (hj : j < l.length) : l.toArray[i]! ≤ l.toArray[j]! := by
  rcases Nat.lt_or_eq_of_le hij with hlt | rfl
  · have := List.pairwise_iff_getElem.1 h i j (by omega) hj hlt
    simpa [show i < l.length by omega, hj] using this
  · exact Int.le_refl _
theorem compact_asc {l : List Int} (h : l.Pairwise (fun x y => x ≤ y)) : Asc (Go.Lib.compact l) := by
  unfold Asc Go.Lib.compact Go.Lib.compactUpTo
  rw [List.pairwise_map]
  refine List.Pairwise.imp_of_mem ?_ (List.Pairwise.filter _ List.pairwise_lt_range)
  intro i j hi hj hij
  rw [List.mem_filter, List.mem_range] at hi hj
  have hk := hj.2
  unfold Go.Lib.keeps at hk
  rw [decide_eq_true_iff] at hk
  have hne := hk.resolve_left (by omega)
  have h1 := get_le h (show i ≤ j - 1 by omega) (by omega)
  have h2 := get_le h (show j - 1 ≤ j by omega) hj.1
  omega
theorem compact_mem (l : List Int) (z : Int) : z ∈ Go.Lib.compact l ↔ z ∈ l := by
  unfold Go.Lib.compact Go.Lib.compactUpTo
  rw [List.mem_map]
  constructor
  · rintro ⟨j, hj, rfl⟩
    rw [List.mem_filter, List.mem_range] at hj
    simp [hj.1]
  · intro hz
    obtain ⟨i, hi, rfl⟩ := List.getElem_of_mem hz
    have key : ∀ (n i : Nat), i ≤ n → (hi : i < l.length) → ∃ j, j ∈ (List.range l.length).filter (Go.Lib.keeps l.toArray) ∧ l.toArray[j]! = l[i] := by
      intro n
      induction n with
      | zero =>
        intro i hin hi
        have e : i = 0 := by omega
        subst e
        exact ⟨0, by rw [List.mem_filter, List.mem_range]; exact ⟨hi, by simp [Go.Lib.keeps]⟩, by simp [hi]⟩
      | succ n ih =>
        intro i hin hi
        by_cases hk : Go.Lib.keeps l.toArray i = true
        · exact ⟨i, by rw [List.mem_filter, List.mem_range]; exact ⟨hi, hk⟩, by simp [hi]⟩
        · unfold Go.Lib.keeps at hk
          rw [decide_eq_true_iff, not_or] at hk
          have h2 : l.toArray[i]! = l.toArray[i - 1]! := Classical.byContradiction (fun hh => hk.2 hh)
          obtain ⟨j, hj, e⟩ := ih (i - 1) (by omega) (by omega)
          refine ⟨j, hj, e.trans ?_⟩
          simpa [hi, show i - 1 < l.length by omega] using h2.symm
    exact key i i (Nat.le_refl _) hi
theorem united_is {a b : List Int} (hb : Asc b) (h : ∀ z, z ∈ a ↔ z ∈ b) : Go.Lib.compact (Srt.sorted a) = b :=
  asc_ext _ _ (compact_asc (sortedA_pw a)) hb (fun z => by rw [compact_mem, sortedA_mem]; exact h z)

theorem rdInt_at (l : List Int) (i : Nat) : rd l (i : Int) = l.getD i 0 := by simp [rd]
theorem dropInt (l : List Int) (i : Nat) (h : i < l.length) : l.drop i = rd l (i : Int) :: l.drop (i + 1) := by
  rw [rdInt_at, getD_get l i _ h]
  exact List.drop_eq_getElem_cons h

def okAsc (a b : Int) (l : List Int) (i : Nat) : Prop := inR (rd l i) a b = true ∧ ((i : Int) > 0 → rd l ((i : Int) - 1) < rd l i)
noncomputable def isAsc (l : List Int) (a b : Int) : Bool := allF (okAsc a b l) l.length 0

def fltL (a b : List Int) : List Int := a.filter (fun n => decide (n ∈ b))
def bothL (a b : List Int) : List Int × Bool := if a.length = 0 then (b, true) else if b.length = 0 then (a, true) else (fltL a b, decide (((fltL a b).length : Int) > 0))
theorem fltL_len (a b : List Int) : (fltL a b).length ≤ a.length := List.length_filter_le _ _
theorem asc_less {l : List Int} {a b : Int} (h : isAsc l a b = true) (i : Nat) : ∀ j : Nat, i < j → j < l.length → rd l (i : Int) < rd l (j : Int)
  | 0, h1, _ => absurd h1 (Nat.not_lt_zero _)
  | j + 1, h1, h2 => by
    have h0 := h
    unfold isAsc at h0
    rw [allF_all] at h0
    have h3 := (h0 (j + 1) h2).2 (by omega)
    rw [show ((j + 1 : Nat) : Int) - 1 = (j : Int) by omega] at h3
    by_cases e : i = j
    · rw [e]; exact h3
    · have := asc_less h i j (by omega) (by omega)
      omega
theorem asc_of {l : List Int} {a b : Int} (h : isAsc l a b = true) : Asc l := by
  unfold Asc
  rw [List.pairwise_iff_getElem]
  intro i j hi hj hij
  have := asc_less h i j hij hj
  rw [rdInt_at, rdInt_at, getD_get l i _ hi, getD_get l j _ hj] at this
  exact this
theorem bothL_comm (a b : List Int) (ha : Asc a) (hb : Asc b) (h : ¬ a.length = 0) : bothL a b = bothL b a := by
  unfold bothL
  rw [if_neg h]
  by_cases h2 : b.length = 0
  · rw [if_pos h2, if_pos h2]
  · have e : fltL a b = fltL b a := asc_ext _ _ (List.Pairwise.filter _ ha) (List.Pairwise.filter _ hb) (fun x => by simp only [fltL, List.mem_filter, decide_eq_true_eq]; exact And.comm)
    rw [if_neg h2, if_neg h2, if_neg h, e]

def joinL (a b : List Int) : List Int := Go.Lib.compact (Srt.sorted (a ++ b))
theorem compactL_len (l : List Int) : (Go.Lib.compact l).length ≤ l.length := Srt.compact_len l
theorem joinL_len (a b : List Int) : (joinL a b).length ≤ a.length + b.length := by
  have h := compactL_len (Srt.sorted (a ++ b))
  rw [Srt.sorted_len, List.length_append] at h
  exact h
theorem foldA_mem (z : Int) : ∀ (b a : List Int), z ∈ b.foldl putA a ↔ z ∈ a ∨ z ∈ b
  | [], a => by simp
  | y :: b, a => by
    rw [List.foldl_cons, foldA_mem z b (putA a y), putA_mem, List.mem_cons]
    exact ⟨fun h => by rcases h with (h | h) | h <;> simp [h], fun h => by rcases h with h | h | h <;> simp [h]⟩
theorem foldA_asc : ∀ (b a : List Int), Asc a → Asc (b.foldl putA a)
  | [], a, h => h
  | y :: b, a, h => foldA_asc b (putA a y) (putA_asc y a h)
theorem foldA_is (a b : List Int) (ha : Asc a) : b.foldl putA a = joinL a b := (united_is (foldA_asc b a ha) (fun z => by rw [foldA_mem, List.mem_append])).symm
theorem impl_united_is (a b : List Int) (h : a.length + b.length ≤ 4000000) : impl_united.f a b = some (joinL a b) := by
  unfold impl_united.f
  rw [if_pos h]
  rfl

noncomputable def isDoubt (c : List Int) (s : Int) (p : List Int) (h : Int) : Bool := isAsc c 0 7 && inR s 0 50 && isAsc p 1 30 && decide ((p.length : Int) ≤ 9) && inR h 0 1000

noncomputable def isReport (r0 r1 : Int) (rc : List Int) (r3 r4 : Int) (rp : List Int) (r6 r7 : Int) : Bool := inR r0 1 999 && inR r1 1 8 && isAsc rc 0 7 && decide (1 ≤ r3) && decide (r3 ≤ r4) && decide (r4 ≤ 50) && isAsc rp 1 30 && decide ((rp.length : Int) ≤ 10) && (inR r6 0 100000 && inR r7 0 100000 && decide (r6 ≤ r7))
noncomputable def isFind (f0 f1 f2 f3 f4 f5 f6 f7 : Int) : Bool := (inR f0 1 999 && inR f1 1 8 && inR f2 0 7 && inR f3 1 50 && inR f4 0 10000000) && inR f5 1 30 && inR f6 0 100000 && inR f7 0 999

def maxI (a b : Int) : Int := if b > a then b else a
theorem spec_MaxI (a b : Int) : spec_Max.f a b = some (maxI a b) := by unfold spec_Max.f maxI; split <;> rfl
theorem mxI (a b : Int) : mx a b = maxI a b := by unfold mx maxI; first | rfl | (split <;> rfl)

def minI (a b : Int) : Int := if b < a then b else a
theorem spec_MinI (a b : Int) : spec_Min.f a b = some (minI a b) := by unfold spec_Min.f minI; split <;> rfl
theorem mnI (a b : Int) : mn a b = minI a b := by unfold mn minI; first | rfl | (split <;> rfl)

open Classical in
noncomputable def remR (f0 f1 f2 f3 f4 f5 f6 f7 : Int) (c : List Int) (s : Int) (p : List Int) (h id : Int) : Int × Int × List Int × Int × Int × List Int × Int × Int × Bool :=
  if isFind f0 f1 f2 f3 f4 f5 f6 f7 = true ∧ isDoubt c s p h = true ∧ isReport id f1 (joinL c [f2]) (maxI 1 (wrap64 (f3 - s))) (minI 50 (wrap64 (f3 + s))) (joinL p [f5]) (maxI 0 (wrap64 (f6 - h))) f6 = true then (id, f1, joinL c [f2], maxI 1 (wrap64 (f3 - s)), minI 50 (wrap64 (f3 + s)), joinL p [f5], maxI 0 (wrap64 (f6 - h)), f6, true) else (0, 0, [], 0, 0, [], 0, 0, false)
theorem remR_len (f0 f1 f2 f3 f4 f5 f6 f7 : Int) (c : List Int) (s : Int) (p : List Int) (h id : Int) : (remR f0 f1 f2 f3 f4 f5 f6 f7 c s p h id).2.2.1.length ≤ c.length + 1 ∧ (remR f0 f1 f2 f3 f4 f5 f6 f7 c s p h id).2.2.2.2.2.1.length ≤ p.length + 1 := by
  unfold remR
  split
  · exact ⟨joinL_len c [f2], joinL_len p [f5]⟩
  · exact ⟨Nat.zero_le _, Nat.zero_le _⟩

theorem asc_short {l : List Int} {a b : Int} (h : isAsc l a b = true) (hb : b ≤ 30) (ha : 0 ≤ a) : l.length ≤ 31 := by
  have key : ∀ j : Nat, j < l.length → (j : Int) ≤ rd l (j : Int) := by
    intro j
    induction j with
    | zero =>
      intro hj
      have h0 := h
      unfold isAsc at h0
      rw [allF_all] at h0
      have := inR_iff.1 (h0 0 hj).1
      show ((0 : Nat) : Int) ≤ rd l ((0 : Nat) : Int)
      omega
    | succ j ih =>
      intro hj
      have := ih (by omega)
      have := asc_less h j (j + 1) (by omega) hj
      omega
  by_cases h2 : l.length ≤ 31
  · exact h2
  · have h3 := key 31 (by omega)
    have h0 := h
    unfold isAsc at h0
    rw [allF_all] at h0
    have := inR_iff.1 (h0 31 (by omega)).1
    have e : rd l ((31 : Nat) : Int) = rd l 31 := rfl
    omega
theorem doubt_asc {c : List Int} {s : Int} {p : List Int} {h : Int} (hd : isDoubt c s p h = true) : Asc c ∧ Asc p ∧ c.length ≤ 31 ∧ p.length ≤ 31 := by
  unfold isDoubt at hd
  simp only [Bool.and_eq_true] at hd
  exact ⟨asc_of hd.1.1.1.1, asc_of hd.1.1.2, asc_short hd.1.1.1.1 (by omega) (by omega), asc_short hd.1.1.2 (by omega) (by omega)⟩

theorem spec_l9Put_l0 (l : List Int) (n : Int) (hl : l.length ≤ 2000000) : ∀ (d i : Nat), i + d = l.length → spec_l9Put.L0 l n (i : Int) = some (l.take i ++ putA (l.drop i) n)
  | 0, i, h => by
    have ht := List.length_take (i := i) (l := l)
    have hd := List.length_drop (i := i) (l := l)
    rw [spec_l9Put.L0_eq, if_neg (by omega), Option.bind_some, if_pos (by omega), if_pos (by omega), Int.toNat_natCast, List.nil_append, if_pos (by simp; omega), Option.bind_some, Option.bind_some, if_pos (by simp; omega), Option.bind_some, if_pos (by simp; omega), List.drop_of_length_le (by omega)]
    simp [putA]
  | d + 1, i, h => by
    rw [spec_l9Put.L0_eq, if_pos (by omega), if_pos (by omega), wrap_succ i (by omega), spec_l9Put_l0 l n hl d (i + 1) (by omega)]
    have e := dropInt l i (by omega)
    have e2 : l.take (i + 1) = l.take i ++ [rd l (i : Int)] := by
      rw [List.take_succ_eq_append_getElem (by omega)]
      congr 2
      simp [rd, show i < l.length by omega]
    by_cases h1 : rd l (i : Int) < n
    · rw [if_pos h1, e, putA, if_pos h1, e2]
      simp
    · rw [if_neg h1]
      by_cases h2 : rd l (i : Int) = n
      · rw [if_pos h2, Option.bind_some, if_pos (by simp; omega), e, putA, if_neg h1, if_pos h2, ← e, List.take_append_drop, List.nil_append]
      · rw [if_neg h2, Option.bind_some, if_pos (by omega), Int.toNat_natCast, List.nil_append, if_pos (by simp; omega), Option.bind_some, Option.bind_some, if_pos (by simp; omega), Option.bind_some, if_pos (by simp; omega), e, putA, if_neg h1, if_neg h2]
        simp
theorem spec_l9Put_is (l : List Int) (n : Int) (hl : l.length ≤ 2000000) : spec_l9Put.F l n = some (putA l n) := by
  have := spec_l9Put_l0 l n hl l.length 0 (by omega)
  rw [spec_l9Put.F_eq]
  simpa using this

theorem l1In (a b c : Int) : spec_l1In.f a b c = some (inR a b c) := by
  unfold spec_l1In.f inR
  by_cases h : b ≤ a <;> simp [h]

theorem spec_l7Ids_l0 (l : List Int) (a b : Int) (hn : l.length ≤ 4194304) : ∀ (d i : Nat), i + d = l.length → spec_l7Ids.L0 l a b (i : Int) = some (allF (okAsc a b l) l.length i)
  | 0, i, h => by rw [spec_l7Ids.L0_eq, if_neg (by omega), allF_end (by omega)]
  | d + 1, i, h => by
    have hi : i < l.length := by omega
    have ih := spec_l7Ids_l0 l a b hn d (i + 1) (by omega)
    rw [spec_l7Ids.L0_eq]
    simp only [wrap_succ i (by omega), wrap_pred i (by omega), ih, l1In, Option.bind_some]
    by_cases hp_ : okAsc a b l i
    · rw [allF_yes hp_]
      simp only [okAsc] at hp_
      obtain ⟨h1_, h2_⟩ := hp_
      repeat' split
      all_goals first
        | rfl
        | (exfalso; first | contradiction | omega)
    · rw [allF_no hi hp_]
      repeat' split
      all_goals first
        | rfl
        | (simp; done)
        | (exfalso; first | contradiction | omega)
        | (exfalso; apply hp_; simp only [okAsc]; (repeat' constructor) <;> first | assumption | (intro _; omega) | omega)
theorem spec_l7Ids_is (l : List Int) (a b : Int) (hn : l.length ≤ 4194304) : spec_l7Ids.F l a b = some (isAsc l a b) := by
  rw [spec_l7Ids.F_eq]
  exact spec_l7Ids_l0 l a b hn l.length 0 (by omega)

theorem spec_IsDoubt_is (c : List Int) (s : Int) (p : List Int) (h : Int) (hc : c.length ≤ 4194304) (hp : p.length ≤ 4194304) : spec_IsDoubt.F c s p h = some (isDoubt c s p h) := by
  rw [spec_IsDoubt.F_eq, spec_l7Ids_is c 0 7 hc]
  simp only [l1In, spec_l7Ids_is p 1 30 hp, Option.bind_some, isDoubt]
  cases isAsc c 0 7 <;> cases inR s 0 50 <;> cases isAsc p 1 30 <;> by_cases hl : (p.length : Int) ≤ 9 <;> simp [hl]

theorem spec_IsThing_is (a b c d e : Int) : spec_IsThing.f a b c d e = some (inR a 1 999 && inR b 1 8 && inR c 0 7 && inR d 1 50 && inR e 0 10000000) := by
  unfold spec_IsThing.f
  simp only [l1In, Option.bind_some]
  cases inR a 1 999 <;> cases inR b 1 8 <;> cases inR c 0 7 <;> cases inR d 1 50 <;> simp

theorem spec_IsFind_is (f0 f1 f2 f3 f4 f5 f6 f7 : Int) : spec_IsFind.f f0 f1 f2 f3 f4 f5 f6 f7 = some (isFind f0 f1 f2 f3 f4 f5 f6 f7) := by
  unfold spec_IsFind.f
  simp only [spec_IsThing_is, l1In, Option.bind_some, isFind]
  generalize (inR f0 1 999 && inR f1 1 8 && inR f2 0 7 && inR f3 1 50 && inR f4 0 10000000) = t
  cases t <;> cases inR f5 1 30 <;> cases inR f6 0 100000 <;> simp

theorem spec_IsSpan_is (a b : Int) : spec_IsSpan.f a b = some (inR a 0 100000 && inR b 0 100000 && decide (a ≤ b)) := by
  unfold spec_IsSpan.f
  simp only [l1In, Option.bind_some]
  cases inR a 0 100000 <;> cases inR b 0 100000 <;> simp

theorem spec_IsReport_is (r0 r1 : Int) (rc : List Int) (r3 r4 : Int) (rp : List Int) (r6 r7 : Int) (hc : rc.length ≤ 4194304) (hp : rp.length ≤ 4194304) : spec_IsReport.F r0 r1 rc r3 r4 rp r6 r7 = some (isReport r0 r1 rc r3 r4 rp r6 r7) := by
  rw [spec_IsReport.F_eq]
  simp only [l1In, spec_l7Ids_is rc 0 7 hc, spec_l7Ids_is rp 1 30 hp, spec_IsSpan_is, Option.bind_some, isReport]
  generalize (inR r6 0 100000 && inR r7 0 100000 && decide (r6 ≤ r7)) = s
  cases inR r0 1 999 <;> cases inR r1 1 8 <;> cases isAsc rc 0 7 <;> cases isAsc rp 1 30 <;> by_cases h1 : 1 ≤ r3 <;> by_cases h2 : r3 ≤ r4 <;> by_cases h3 : r4 ≤ 50 <;> by_cases h4 : (rp.length : Int) ≤ 10 <;> simp [h1, h2, h3, h4]

theorem spec_Remember_is (f0 f1 f2 f3 f4 f5 f6 f7 : Int) (c : List Int) (s : Int) (p : List Int) (h id : Int) (n1 : c.length ≤ 1048576) (n2 : p.length ≤ 1048576) : spec_Remember.F f0 f1 f2 f3 f4 f5 f6 f7 c s p h id = some (remR f0 f1 f2 f3 f4 f5 f6 f7 c s p h id) := by
  rw [spec_Remember.F_eq, spec_IsFind_is, Option.bind_some]
  unfold remR
  by_cases h1 : isFind f0 f1 f2 f3 f4 f5 f6 f7 = true
  · rw [if_pos h1, spec_IsDoubt_is c s p h (by omega) (by omega), Option.bind_some, spec_Remember.J0_eq]
    by_cases h2 : isDoubt c s p h = true
    · obtain ⟨a1, a2, b1, b2⟩ := doubt_asc h2
      have j1 := joinL_len c [f2]
      have j2 := joinL_len p [f5]
      have e1 : putA c f2 = joinL c [f2] := foldA_is c [f2] a1
      have e2 : putA p f5 = joinL p [f5] := foldA_is p [f5] a2
      simp only [List.length_singleton] at j1 j2
      rw [h2, if_neg (by decide), spec_l9Put_is c f2 (by omega), Option.bind_some, spec_MaxI, Option.bind_some, spec_MinI, Option.bind_some, spec_l9Put_is p f5 (by omega), Option.bind_some, spec_MaxI, Option.bind_some, e1, e2, spec_IsReport_is _ _ _ _ _ _ _ _ (by omega) (by omega), Option.bind_some]
      by_cases h3 : isReport id f1 (joinL c [f2]) (maxI 1 (wrap64 (f3 - s))) (minI 50 (wrap64 (f3 + s))) (joinL p [f5]) (maxI 0 (wrap64 (f6 - h))) f6 = true
      · rw [if_pos h3, if_pos ⟨h1, rfl, h3⟩]
      · rw [if_neg h3, if_neg (fun hh => h3 hh.2.2)]
    · rw [if_pos (by rw [Bool.eq_false_iff.2 h2]; rfl), if_neg (fun hh => h2 hh.2.1)]
  · rw [if_neg h1, spec_Remember.J0_eq, if_pos rfl, if_neg (fun hh => h1 hh.1)]

theorem inRange (a b c : Int) : impl_InRange.f a b c = some (inR a b c) := by
  unfold impl_InRange.f inR
  by_cases h : b ≤ a <;> simp [h]

theorem impl_isAscending_l0 (l : List Int) (a b : Int) (hn : l.length ≤ 4194304) : ∀ (d i : Nat), i + d = l.length → impl_isAscending.L0 l a b l (l.length : Int) (i : Int) = some (allF (okAsc a b l) l.length i)
  | 0, i, h => by rw [impl_isAscending.L0_eq, if_neg (by omega), allF_end (by omega)]
  | d + 1, i, h => by
    have hi : i < l.length := by omega
    have ih := impl_isAscending_l0 l a b hn d (i + 1) (by omega)
    rw [impl_isAscending.L0_eq]
    simp only [wrap_succ i (by omega), wrap_pred i (by omega), ih, inRange, Option.bind_some]
    by_cases hp_ : okAsc a b l i
    · rw [allF_yes hp_]
      simp only [okAsc] at hp_
      obtain ⟨h1_, h2_⟩ := hp_
      repeat' split
      all_goals first
        | rfl
        | (exfalso; first | contradiction | omega)
    · rw [allF_no hi hp_]
      repeat' split
      all_goals first
        | rfl
        | (simp; done)
        | (exfalso; first | contradiction | omega)
        | (exfalso; apply hp_; simp only [okAsc]; (repeat' constructor) <;> first | assumption | (intro _; omega) | omega)
theorem impl_isAscending_is (l : List Int) (a b : Int) (hn : l.length ≤ 4194304) : impl_isAscending.F l a b = some (isAsc l a b) := by
  rw [impl_isAscending.F_eq]
  exact impl_isAscending_l0 l a b hn l.length 0 (by omega)

theorem impl_IsDoubt_is (c : List Int) (s : Int) (p : List Int) (h : Int) (hc : c.length ≤ 4194304) (hp : p.length ≤ 4194304) : impl_IsDoubt.F c s p h = some (isDoubt c s p h) := by
  rw [impl_IsDoubt.F_eq, impl_isAscending_is c 0 7 hc]
  simp only [inRange, impl_isAscending_is p 1 30 hp, Option.bind_some, isDoubt]
  cases isAsc c 0 7 <;> cases inR s 0 50 <;> cases isAsc p 1 30 <;> by_cases hl : (p.length : Int) ≤ 9 <;> simp [hl]

theorem impl_IsThing_is (a b c d e : Int) : impl_IsThing.f a b c d e = some (inR a 1 999 && inR b 1 8 && inR c 0 7 && inR d 1 50 && inR e 0 10000000) := by
  unfold impl_IsThing.f
  simp only [inRange, Option.bind_some]
  cases inR a 1 999 <;> cases inR b 1 8 <;> cases inR c 0 7 <;> cases inR d 1 50 <;> simp

theorem impl_IsFind_is (f0 f1 f2 f3 f4 f5 f6 f7 : Int) : impl_IsFind.f f0 f1 f2 f3 f4 f5 f6 f7 = some (isFind f0 f1 f2 f3 f4 f5 f6 f7) := by
  unfold impl_IsFind.f
  simp only [impl_IsThing_is, inRange, Option.bind_some, isFind]
  generalize (inR f0 1 999 && inR f1 1 8 && inR f2 0 7 && inR f3 1 50 && inR f4 0 10000000) = t
  cases t <;> cases inR f5 1 30 <;> cases inR f6 0 100000 <;> simp

theorem impl_IsSpan_is (a b : Int) : impl_IsSpan.f a b = some (inR a 0 100000 && inR b 0 100000 && decide (a ≤ b)) := by
  unfold impl_IsSpan.f
  simp only [inRange, Option.bind_some]
  cases inR a 0 100000 <;> cases inR b 0 100000 <;> simp

theorem impl_IsReport_is (r0 r1 : Int) (rc : List Int) (r3 r4 : Int) (rp : List Int) (r6 r7 : Int) (hc : rc.length ≤ 4194304) (hp : rp.length ≤ 4194304) : impl_IsReport.F r0 r1 rc r3 r4 rp r6 r7 = some (isReport r0 r1 rc r3 r4 rp r6 r7) := by
  rw [impl_IsReport.F_eq]
  simp only [inRange, impl_isAscending_is rc 0 7 hc, impl_isAscending_is rp 1 30 hp, impl_IsSpan_is, Option.bind_some, isReport]
  generalize (inR r6 0 100000 && inR r7 0 100000 && decide (r6 ≤ r7)) = s
  cases inR r0 1 999 <;> cases inR r1 1 8 <;> cases isAsc rc 0 7 <;> cases isAsc rp 1 30 <;> by_cases h1 : 1 ≤ r3 <;> by_cases h2 : r3 ≤ r4 <;> by_cases h3 : r4 ≤ 50 <;> by_cases h4 : (rp.length : Int) ≤ 10 <;> simp [h1, h2, h3, h4]

theorem impl_Remember_is (f0 f1 f2 f3 f4 f5 f6 f7 : Int) (c : List Int) (s : Int) (p : List Int) (h id : Int) (n1 : c.length ≤ 1048576) (n2 : p.length ≤ 1048576) : impl_Remember.F f0 f1 f2 f3 f4 f5 f6 f7 c s p h id = some (remR f0 f1 f2 f3 f4 f5 f6 f7 c s p h id) := by
  rw [impl_Remember.F_eq, impl_IsFind_is, Option.bind_some]
  unfold remR
  by_cases h1 : isFind f0 f1 f2 f3 f4 f5 f6 f7 = true
  · rw [if_pos h1, impl_IsDoubt_is c s p h (by omega) (by omega), Option.bind_some, impl_Remember.J0_eq]
    by_cases h2 : isDoubt c s p h = true
    · have j1 := joinL_len c [f2]
      have j2 := joinL_len p [f5]
      simp only [List.length_singleton] at j1 j2
      rw [h2, if_neg (by decide), impl_united_is c [f2] (by simp only [List.length_singleton]; omega), Option.bind_some, impl_united_is p [f5] (by simp only [List.length_singleton]; omega), Option.bind_some, mxI, mnI, mxI, impl_IsReport_is _ _ _ _ _ _ _ _ (by omega) (by omega), Option.bind_some]
      by_cases h3 : isReport id f1 (joinL c [f2]) (maxI 1 (wrap64 (f3 - s))) (minI 50 (wrap64 (f3 + s))) (joinL p [f5]) (maxI 0 (wrap64 (f6 - h))) f6 = true
      · rw [if_pos h3, if_pos ⟨h1, rfl, h3⟩]
      · rw [if_neg h3, if_neg (fun hh => h3 hh.2.2)]
    · rw [if_pos (by rw [Bool.eq_false_iff.2 h2]; rfl), if_neg (fun hh => h2 hh.2.1)]
  · rw [if_neg h1, impl_Remember.J0_eq, if_pos rfl, if_neg (fun hh => h1 hh.1)]

theorem law_FnExactRemember (x0 : S73) (hw0 : ok73 x0) (x1 : S62) (hw1 : ok62 x1) (a2 : Int) (w2 : (Lit.int .i64 a2).wf = true) : laws_FnExactRemember.F x0.f0.f0 x0.f0.f1 x0.f0.f2 x0.f0.f3 x0.f0.f4 x0.f1 x0.f2 x0.f3 x1.f0 x1.f1 x1.f2 x1.f3 a2 = some true := by
  obtain ⟨⟨m0, _⟩, _, ⟨m2, _⟩, _⟩ := hw1
  rw [laws_FnExactRemember.F_eq]
  rcases szDoubtA x1.f0 x1.f1 x1.f2 x1.f3 1048576 (by omega) m0 m2 with h | ⟨h, hl⟩
  · rw [h]; rfl
  · rw [h, Option.bind_some, if_neg (by omega)]
    have n1 : x1.f0.length ≤ 1048576 := by omega
    have n2 : x1.f2.length ≤ 1048576 := by omega
    have hT0 := toFind_is x0.f0.f0 x0.f0.f1 x0.f0.f2 x0.f0.f3 x0.f0.f4 x0.f1 x0.f2 x0.f3
    have hT1 := toDoubt_is x1.f0 x1.f1 x1.f2 x1.f3 n1 n2
    have hS := spec_Remember_is x0.f0.f0 x0.f0.f1 x0.f0.f2 x0.f0.f3 x0.f0.f4 x0.f1 x0.f2 x0.f3 x1.f0 x1.f1 x1.f2 x1.f3 a2 n1 n2
    have hI := impl_Remember_is x0.f0.f0 x0.f0.f1 x0.f0.f2 x0.f0.f3 x0.f0.f4 x0.f1 x0.f2 x0.f3 x1.f0 x1.f1 x1.f2 x1.f3 a2 n1 n2
    have hL := remR_len x0.f0.f0 x0.f0.f1 x0.f0.f2 x0.f0.f3 x0.f0.f4 x0.f1 x0.f2 x0.f3 x1.f0 x1.f1 x1.f2 x1.f3 a2
    generalize remR x0.f0.f0 x0.f0.f1 x0.f0.f2 x0.f0.f3 x0.f0.f4 x0.f1 x0.f2 x0.f3 x1.f0 x1.f1 x1.f2 x1.f3 a2 = A at hS hI hL
    obtain ⟨R0, R1, C, R3, R4, P, R6, R7, ok⟩ := A
    have hC : C.length ≤ 4194304 := by have := hL.1; simp only [] at this; omega
    have hP : P.length ≤ 4194304 := by have := hL.2; simp only [] at this; omega
    have hE := eqReport_is R0 R1 C R3 R4 P R6 R7 hC hP
    have hH := heldReport_is R0 R1 R3 R4 R6 R7 C.length P.length hC hP
    have hJ2 : laws_FnExactRemember.J2 (1 + (C.length : Int) + (P.length : Int)) false R0 R1 (lineInt 1 C.length) R3 R4 (lineInt (1 + (C.length : Int)) P.length) R6 R7 = some true := by
      rw [laws_FnExactRemember.J2_eq, if_neg (by decide), hH, Option.bind_some, if_neg (by omega), if_pos rfl]
    have hJ1 : laws_FnExactRemember.J1 a2 ok false x0.f0.f0 x0.f0.f1 x0.f0.f2 x0.f0.f3 x0.f0.f4 x0.f1 x0.f2 x0.f3 x1.f0 x1.f1 x1.f2 x1.f3 R0 R1 C R3 R4 P R6 R7 R0 R1 C R3 R4 P R6 R7 = some true := by
      rw [laws_FnExactRemember.J1_eq, if_neg (by decide), markReport_is R0 R1 C R3 R4 P R6 R7 hC hP, Option.bind_some]
      dsimp only
      rw [hH, Option.bind_some, if_neg (by omega), if_pos rfl, hT0, Option.bind_some, hT1, Option.bind_some]
      dsimp only
      rw [hI, Option.bind_some]
      dsimp only
      rw [hE, Option.bind_some, if_pos rfl, bne_self_eq_false]
      exact hJ2
    rw [hT0, Option.bind_some, hT1, Option.bind_some]
    dsimp only
    rw [hS, Option.bind_some, Option.bind_some, Option.bind_some]
    dsimp only
    rw [hI, Option.bind_some]
    dsimp only
    rw [hE, Option.bind_some, if_pos rfl, bne_self_eq_false, laws_FnExactRemember.J0_eq, if_neg (by decide), hT1, Option.bind_some]
    dsimp only
    rw [eqDoubt_is _ _ _ _ (by omega) (by omega), Option.bind_some, if_pos rfl, markDoubt_is _ _ _ _ 1 (by omega) (by omega) (by omega), Option.bind_some]
    dsimp only
    rw [if_neg (by omega), hE, Option.bind_some, if_pos rfl, bne_self_eq_false]
    exact hJ1

theorem FnExactRemember (x0 : S73) (hw0 : ok73 x0) (x1 : S62) (hw1 : ok62 x1) (a2 : Int) (w2 : (Lit.int .i64 a2).wf = true) : ∃ k, laws_FnExactRemember.f k x0.f0.f0 x0.f0.f1 x0.f0.f2 x0.f0.f3 x0.f0.f4 x0.f1 x0.f2 x0.f3 x1.f0 x1.f1 x1.f2 x1.f3 a2 = some true :=
  (laws_FnExactRemember.F_co x0.f0.f0 x0.f0.f1 x0.f0.f2 x0.f0.f3 x0.f0.f4 x0.f1 x0.f2 x0.f3 x1.f0 x1.f1 x1.f2 x1.f3 a2).rounds (law_FnExactRemember x0 hw0 x1 hw1 a2 w2)
end Go.Proofs.Ytmammjfomgfjhaa.PFnExactRemember.Pure
