/-
  The program's AlongRoute answers as the reference's does, for all arguments. It has no conditions.
-/
import Derived.Test.YtkfalbaklodnjaaShFnExactAlongRoute
import Derived.Test.YtkfalbaklodnjaaEqFnExactAlongRoute
import Derived.Test.YtkfalbaklodnjaaBase
set_option linter.unusedVariables false
set_option linter.unusedSimpArgs false
namespace Go.Proofs.Ytkfalbaklodnjaa.PFnExactAlongRoute.Pure
open Go.RowKit Go.Proofs.YtkfalbaklodnjaaW.PrintWords Go.Proofs.YtkfalbaklodnjaaW.PrintLast Go.Proofs.YtkfalbaklodnjaaW.PrintMore Go.Proofs.Ytkfalbaklodnjaa.PFnExactAlongRoute Go.Proofs.Ytkfalbaklodnjaa.Lim Go.Proofs.Ytkfalbaklodnjaa.Base
set_option maxRecDepth 100000

theorem szIntS (l : List Int) (a : Int) (ha : 0 ≤ a ∧ a ≤ 1048576) (hl : l.length ≤ maxLen) : laws_szIntS.f l a = some (if a < (l.length : Int) then -1 else a - (l.length : Int)) := by
  simp only [maxLen] at hl
  unfold laws_szIntS.f
  rw [wrap_in _ (by omega)]
  by_cases h : a < (l.length : Int)
  · rw [if_pos (by omega), if_pos h]
  · rw [if_neg (by omega), if_neg h]

theorem szReport_is (r0 r1 : Int) (rc : List Int) (r3 r4 : Int) (rp : List Int) (r6 r7 : Int) (a : Int) (ha : 0 ≤ a ∧ a ≤ 1048576) (hc : rc.length ≤ maxLen) (hp : rp.length ≤ maxLen) :
    laws_szReport.f r0 r1 rc r3 r4 rp r6 r7 a = some (-1) ∨ (laws_szReport.f r0 r1 rc r3 r4 rp r6 r7 a = some (a - (rc.length : Int) - (rp.length : Int)) ∧ (rc.length : Int) + (rp.length : Int) ≤ a) := by
  unfold laws_szReport.f
  rw [szIntS rc a ha hc, Option.bind_some]
  by_cases h1 : a < (rc.length : Int)
  · left
    rw [if_pos h1]; rfl
  · rw [if_neg h1, if_neg (by omega), szIntS rp _ (by omega) hp, Option.bind_some]
    by_cases h2 : a - (rc.length : Int) < (rp.length : Int)
    · left
      rw [if_pos h2]; rfl
    · right
      rw [if_neg h2, if_neg (by omega)]
      exact ⟨rfl, by omega⟩

theorem toIntS_l0 (l : List Int) (hn : l.length ≤ 1048576) : ∀ (d i : Nat) (acc : List Int), i + d = l.length → acc.length = l.length → acc.take i = (l.take i).map id → laws_toIntS.L0 l acc (i : Int) = some l
  | 0, i, acc, h, ha, ht => by
    rw [laws_toIntS.L0_eq, if_neg (by omega)]
    rw [List.take_of_length_le (by omega), List.take_of_length_le (by omega)] at ht
    rw [ht, List.map_id]
  | d + 1, i, acc, h, ha, ht => by
    have hi : i < l.length := by omega
    rw [laws_toIntS.L0_eq, if_pos (by omega), if_pos (by omega), if_pos (by omega), wrap_succ i (by omega)]
    refine toIntS_l0 l hn d (i + 1) _ (by omega) (by rw [List.length_set]; exact ha) ?_
    rw [Int.toNat_natCast]
    exact fill_step l id acc i ha hi ht _ (by simp [rd, hi])
theorem toIntS (l : List Int) (hn : l.length ≤ 1048576) : laws_toIntS.F l = some l := by
  rw [laws_toIntS.F_eq, if_pos (by omega), if_pos (by omega)]
  exact toIntS_l0 l hn l.length 0 _ (by omega) (by simp) (by simp)

theorem toReport_is (r0 r1 : Int) (rc : List Int) (r3 r4 : Int) (rp : List Int) (r6 r7 : Int) (hc : rc.length ≤ 1048576) (hp : rp.length ≤ 1048576) : laws_toReport.F r0 r1 rc r3 r4 rp r6 r7 = some (r0, r1, rc, r3, r4, rp, r6, r7) := by
  rw [laws_toReport.F_eq, toIntS _ hc, toIntS _ hp]
  rfl

theorem eqIntS_l0 (l : List Int) (hn : l.length ≤ 4194304) : ∀ (d i : Nat), i + d = l.length → laws_eqIntS.L0 l l (i : Int) = some true
  | 0, i, h => by rw [laws_eqIntS.L0_eq, if_neg (by omega)]
  | d + 1, i, h => by
    rw [laws_eqIntS.L0_eq, if_pos (by omega), if_pos (by omega), if_pos (by omega), if_pos rfl, wrap_succ i (by omega)]
    exact eqIntS_l0 l hn d (i + 1) (by omega)
theorem eqIntS (l : List Int) (hn : l.length ≤ 4194304) : laws_eqIntS.F l l = some true := by
  rw [laws_eqIntS.F_eq, if_pos rfl]
  exact eqIntS_l0 l hn l.length 0 (by omega)

theorem eqReport_is (r0 r1 : Int) (rc : List Int) (r3 r4 : Int) (rp : List Int) (r6 r7 : Int) (hc : rc.length ≤ 4194304) (hp : rp.length ≤ 4194304) : laws_eqReport.F r0 r1 rc r3 r4 rp r6 r7 r0 r1 rc r3 r4 rp r6 r7 = some true := by
  rw [laws_eqReport.F_eq]
  simp [eqIntS _ hc, eqIntS _ hp, laws_eqSpan.f]

theorem szStopS (l : List S154) (a : Int) (ha : 0 ≤ a ∧ a ≤ 1048576) (hl : l.length ≤ maxLen) : laws_szStopS.f l a = some (if a < (l.length : Int) then -1 else a - (l.length : Int)) := by
  simp only [maxLen] at hl
  unfold laws_szStopS.f
  rw [wrap_in _ (by omega)]
  by_cases h : a < (l.length : Int)
  · rw [if_pos (by omega), if_pos h]
  · rw [if_neg (by omega), if_neg h]

def cvStop (y : S154) : S130 := ⟨y.f0, y.f1, y.f2⟩
theorem toStopS_l0 (l : List S154) (hn : l.length ≤ 1048576) : ∀ (d i : Nat) (acc : List S130), i + d = l.length → acc.length = l.length → acc.take i = (l.take i).map cvStop → laws_toStopS.L0 l acc (i : Int) = some (l.map cvStop)
  | 0, i, acc, h, ha, ht => by
    rw [laws_toStopS.L0_eq, if_neg (by omega)]
    rw [List.take_of_length_le (by omega), List.take_of_length_le (by omega)] at ht
    rw [ht]
  | d + 1, i, acc, h, ha, ht => by
    have hi : i < l.length := by omega
    rw [laws_toStopS.L0_eq, if_pos (by omega), if_pos (by omega)]
    simp only [laws_toStop.f, Option.bind_some, wrap_succ i (by omega)]
    rw [if_pos (by omega)]
    refine toStopS_l0 l hn d (i + 1) _ (by omega) (by rw [List.length_set]; exact ha) ?_
    rw [Int.toNat_natCast]
    exact fill_step l cvStop acc i ha hi ht _ (by simp [rd_T154, cvStop, hi])
theorem toStopS (l : List S154) (hn : l.length ≤ 1048576) : laws_toStopS.F l = some (l.map cvStop) := by
  rw [laws_toStopS.F_eq, if_pos (by omega), if_pos (by omega)]
  exact toStopS_l0 l hn l.length 0 _ (by omega) (by simp) (by simp)

theorem eqStopS_l0 (l : List S130) (hn : l.length ≤ 1048576) : ∀ (d i : Nat), i + d = l.length → laws_eqStopS.L0 l l (i : Int) = some true
  | 0, i, h => by rw [laws_eqStopS.L0_eq, if_neg (by omega)]
  | d + 1, i, h => by
    rw [laws_eqStopS.L0_eq, if_pos (by omega), if_pos (by omega), if_pos (by omega)]
    simp only [laws_eqStop.f, if_true, Option.bind_some, wrap_succ i (by omega)]
    exact eqStopS_l0 l hn d (i + 1) (by omega)
theorem eqStopS (l : List S130) (hn : l.length ≤ 1048576) : laws_eqStopS.F l l = some true := by
  rw [laws_eqStopS.F_eq, if_pos rfl]
  exact eqStopS_l0 l hn l.length 0 (by omega)

theorem rdStop_at (l : List S130) (i : Nat) : rd_T130 l (i : Int) = l.getD i z130 := by simp [rd_T130]
theorem dropStop (l : List S130) (i : Nat) (h : i < l.length) : l.drop i = rd_T130 l (i : Int) :: l.drop (i + 1) := by
  rw [rdStop_at, getD_get l i _ h]
  exact List.drop_eq_getElem_cons h

def lineStop (k : Int) (n : Nat) : List S130 := (List.range n).map (fun j : Nat => (⟨k + 3 * (j : Int), k + 3 * (j : Int) + 1, k + 3 * (j : Int) + 2⟩ : S130))
theorem lineStop_len (k : Int) (n : Nat) : (lineStop k n).length = n := by simp [lineStop]
theorem rdsetStop (l : List S130) (i : Nat) (v : S130) (h : i < l.length) : rd_T130 (l.set i v) (i : Int) = v := by simp [rd_T130, h]
theorem markStopS_l0 (k : Int) (n : Nat) (hk : 0 ≤ k ∧ k ≤ 67108864) (hn : n ≤ 1048576) : ∀ (d i : Nat) (acc : List S130), i + d = n → acc.length = n → acc.take i = ((List.range n).take i).map (fun j : Nat => (⟨k + 3 * (j : Int), k + 3 * (j : Int) + 1, k + 3 * (j : Int) + 2⟩ : S130)) → laws_markStopS.L0 acc (k + 3 * (i : Int)) (i : Int) = some (k + 3 * (n : Int), lineStop k n)
  | 0, i, acc, h, ha, ht => by
    rw [laws_markStopS.L0_eq, if_neg (by omega)]
    rw [List.take_of_length_le (by omega), List.take_of_length_le (by simp; omega)] at ht
    rw [ht, show i = n by omega]; rfl
  | d + 1, i, acc, h, ha, ht => by
    have hi : i < acc.length := by omega
    rw [laws_markStopS.L0_eq, if_pos (by omega), if_pos (by omega)]
    simp only [Option.bind_some, Int.toNat_natCast, rdsetStop, List.length_set, hi, List.set_set, wrap_succ i (by omega)]
    simp only [wrap_in (k + 3 * (i : Int) + 1) (by omega), wrap_in (k + 3 * (i : Int) + 1 + 1) (by omega), wrap_in (k + 3 * (i : Int) + 1 + 1 + 1) (by omega)]
    rw [show k + 3 * (i : Int) + 1 + 1 + 1 = k + 3 * ((i + 1 : Nat) : Int) by omega]
    refine markStopS_l0 k n hk hn d (i + 1) _ (by omega) (by rw [List.length_set]; exact ha) ?_
    exact fill_step (List.range n) (fun j : Nat => (⟨k + 3 * (j : Int), k + 3 * (j : Int) + 1, k + 3 * (j : Int) + 2⟩ : S130)) acc i (by simp [ha]) (by simp; omega) ht _ (by simp <;> omega)
theorem markStopS (l : List S130) (k : Int) (hk : 0 ≤ k ∧ k ≤ 67108864) (hn : l.length ≤ 1048576) : laws_markStopS.F l k = some (k + 3 * (l.length : Int), lineStop k l.length) := by
  rw [laws_markStopS.F_eq]
  have := markStopS_l0 k l.length hk hn l.length 0 l (by omega) rfl (by simp)
  simpa using this

def lineInt (k : Int) (n : Nat) : List Int := (List.range n).map (fun j : Nat => k + (j : Int))
theorem lineInt_len (k : Int) (n : Nat) : (lineInt k n).length = n := by simp [lineInt]
theorem markIntS_l0 (k : Int) (n : Nat) (hk : 0 ≤ k ∧ k ≤ 67108864) (hn : n ≤ 4194304) : ∀ (d i : Nat) (acc : List Int), i + d = n → acc.length = n → acc.take i = ((List.range n).take i).map (fun j : Nat => k + (j : Int)) → laws_markIntS.L0 acc (k + (i : Int)) (i : Int) = some (k + (n : Int), lineInt k n)
  | 0, i, acc, h, ha, ht => by
    rw [laws_markIntS.L0_eq, if_neg (by omega)]
    rw [List.take_of_length_le (by omega), List.take_of_length_le (by simp; omega)] at ht
    rw [ht, show i = n by omega]; rfl
  | d + 1, i, acc, h, ha, ht => by
    rw [laws_markIntS.L0_eq, if_pos (by omega), if_pos (by omega), wrap_succ i (by omega), wrap_in _ (by omega), Int.toNat_natCast, show k + (i : Int) + 1 = k + ((i + 1 : Nat) : Int) by omega]
    refine markIntS_l0 k n hk hn d (i + 1) _ (by omega) (by rw [List.length_set]; exact ha) ?_
    exact fill_step (List.range n) (fun j : Nat => k + (j : Int)) acc i (by simp [ha]) (by simp; omega) ht _ (by simp)
theorem markIntS (l : List Int) (k : Int) (hk : 0 ≤ k ∧ k ≤ 67108864) (hn : l.length ≤ 4194304) : laws_markIntS.F l k = some (k + (l.length : Int), lineInt k l.length) := by
  rw [laws_markIntS.F_eq]
  have := markIntS_l0 k l.length hk hn l.length 0 l (by omega) rfl (by simp)
  simpa using this

theorem heldIntS_l0 (k : Int) (n : Nat) (hk : 0 ≤ k ∧ k ≤ 67108864) (hn : n ≤ 4194304) : ∀ (d i : Nat), i + d = n → laws_heldIntS.L0 (lineInt k n) (k + (i : Int)) (i : Int) = some (k + (n : Int))
  | 0, i, h => by rw [laws_heldIntS.L0_eq, lineInt_len, if_neg (by omega), show i = n by omega]
  | d + 1, i, h => by
    have hr : rd (lineInt k n) (i : Int) = k + (i : Int) := by simp [rd, lineInt, show i < n by omega]
    rw [laws_heldIntS.L0_eq, lineInt_len, if_pos (by omega), if_pos (by omega), hr, if_pos rfl, wrap_succ i (by omega), wrap_in _ (by omega), show k + (i : Int) + 1 = k + ((i + 1 : Nat) : Int) by omega]
    exact heldIntS_l0 k n hk hn d (i + 1) (by omega)
theorem heldIntS (k : Int) (n : Nat) (hk : 0 ≤ k ∧ k ≤ 67108864) (hn : n ≤ 4194304) : laws_heldIntS.F (lineInt k n) k = some (k + (n : Int)) := by
  rw [laws_heldIntS.F_eq]
  have := heldIntS_l0 k n hk hn n 0 (by omega)
  simpa using this

def Asc (l : List Int) : Prop := l.Pairwise (fun x y => x < y)
theorem asc_ext : ∀ (a b : List Int), Asc a → Asc b → (∀ x, x ∈ a ↔ x ∈ b) → a = b
  | [], [], _, _, _ => rfl
  | [], y :: b, _, _, h => by have := (h y).2 (List.mem_cons_self ..); cases this
  | x :: a, [], _, _, h => by have := (h x).1 (List.mem_cons_self ..); cases this
  | x :: a, y :: b, ha, hb, h => by
    have ha' := List.pairwise_cons.1 ha
    have hb' := List.pairwise_cons.1 hb
    have e : x = y := by
      rcases List.mem_cons.1 ((h x).1 (List.mem_cons_self ..)) with h1 | h1
      · exact h1
      · rcases List.mem_cons.1 ((h y).2 (List.mem_cons_self ..)) with h2 | h2
        · exact h2.symm
        · have := hb'.1 x h1
          have := ha'.1 y h2
          omega
    subst e
    congr 1
    refine asc_ext a b ha'.2 hb'.2 (fun z => ⟨fun hz => ?_, fun hz => ?_⟩)
    · rcases List.mem_cons.1 ((h z).1 (List.mem_cons_of_mem _ hz)) with h1 | h1
      · have := ha'.1 z hz; omega
      · exact h1
    · rcases List.mem_cons.1 ((h z).2 (List.mem_cons_of_mem _ hz)) with h1 | h1
      · have := hb'.1 z hz; omega
      · exact h1
def putA : List Int → Int → List Int
  | [], n => [n]
  | x :: r, n => if x < n then x :: putA r n else if x = n then x :: r else n :: x :: r
theorem putA_mem (n z : Int) : ∀ l : List Int, z ∈ putA l n ↔ z = n ∨ z ∈ l
  | [] => by simp [putA]
  | x :: r => by
    simp only [putA]
    by_cases h1 : x < n
    · rw [if_pos h1, List.mem_cons, putA_mem n z r, List.mem_cons]
      exact ⟨fun h => by rcases h with h | h | h <;> simp [h], fun h => by rcases h with h | h | h <;> simp [h]⟩
    · rw [if_neg h1]
      by_cases h2 : x = n
      · rw [if_pos h2, List.mem_cons]
        refine ⟨fun h => .inr h, fun h => ?_⟩
        rcases h with h | h
        · exact .inl (by omega)
        · exact h
      · rw [if_neg h2, List.mem_cons]
theorem putA_asc (n : Int) : ∀ l : List Int, Asc l → Asc (putA l n)
  | [], _ => List.pairwise_singleton _ _
  | x :: r, h => by
    have h' := List.pairwise_cons.1 h
    simp only [putA]
    by_cases h1 : x < n
    · rw [if_pos h1]
      refine List.pairwise_cons.2 ⟨fun z hz => ?_, putA_asc n r h'.2⟩
      rcases (putA_mem n z r).1 hz with e | e
      · omega
      · exact h'.1 z e
    · rw [if_neg h1]
      by_cases h2 : x = n
      · rw [if_pos h2]; exact h
      · rw [if_neg h2]
        refine List.pairwise_cons.2 ⟨fun z hz => ?_, h⟩
        rcases List.mem_cons.1 hz with e | e
        · omega
        · have := h'.1 z e; omega
theorem putA_len (n : Int) : ∀ l : List Int, (putA l n).length ≤ l.length + 1
  | [] => by simp [putA]
  | x :: r => by
    simp only [putA]
    by_cases h1 : x < n
    · rw [if_pos h1, List.length_cons, List.length_cons]
      have := putA_len n r
      omega
    · rw [if_neg h1]
      split <;> simp

theorem rdInt_at (l : List Int) (i : Nat) : rd l (i : Int) = l.getD i 0 := by simp [rd]
theorem dropInt (l : List Int) (i : Nat) (h : i < l.length) : l.drop i = rd l (i : Int) :: l.drop (i + 1) := by
  rw [rdInt_at, getD_get l i _ h]
  exact List.drop_eq_getElem_cons h

def okAsc (a b : Int) (l : List Int) (i : Nat) : Prop := inR (rd l i) a b = true ∧ ((i : Int) > 0 → rd l ((i : Int) - 1) < rd l i)
noncomputable def isAsc (l : List Int) (a b : Int) : Bool := allF (okAsc a b l) l.length 0

def fltL (a b : List Int) : List Int := a.filter (fun n => decide (n ∈ b))
def bothL (a b : List Int) : List Int × Bool := if a.length = 0 then (b, true) else if b.length = 0 then (a, true) else (fltL a b, decide (((fltL a b).length : Int) > 0))
theorem fltL_len (a b : List Int) : (fltL a b).length ≤ a.length := List.length_filter_le _ _
theorem asc_less {l : List Int} {a b : Int} (h : isAsc l a b = true) (i : Nat) : ∀ j : Nat, i < j → j < l.length → rd l (i : Int) < rd l (j : Int)
  | 0, h1, _ => absurd h1 (Nat.not_lt_zero _)
  | j + 1, h1, h2 => by
    have h0 := h
    unfold isAsc at h0
    rw [allF_all] at h0
    have h3 := (h0 (j + 1) h2).2 (by omega)
    rw [show ((j + 1 : Nat) : Int) - 1 = (j : Int) by omega] at h3
    by_cases e : i = j
    · rw [e]; exact h3
    · have := asc_less h i j (by omega) (by omega)
      omega
theorem asc_of {l : List Int} {a b : Int} (h : isAsc l a b = true) : Asc l := by
  unfold Asc
  rw [List.pairwise_iff_getElem]
  intro i j hi hj hij
  have := asc_less h i j hij hj
  rw [rdInt_at, rdInt_at, getD_get l i _ hi, getD_get l j _ hj] at this
  exact this
theorem bothL_comm (a b : List Int) (ha : Asc a) (hb : Asc b) (h : ¬ a.length = 0) : bothL a b = bothL b a := by
  unfold bothL
  rw [if_neg h]
  by_cases h2 : b.length = 0
  · rw [if_pos h2, if_pos h2]
  · have e : fltL a b = fltL b a := asc_ext _ _ (List.Pairwise.filter _ ha) (List.Pairwise.filter _ hb) (fun x => by simp only [fltL, List.mem_filter, decide_eq_true_eq]; exact And.comm)
    rw [if_neg h2, if_neg h2, if_neg h, e]

def spanB (a b : Int) : Bool := inR a 0 100000 && inR b 0 100000 && decide (a ≤ b)
def maxI (a b : Int) : Int := if b > a then b else a
def minI (a b : Int) : Int := if b < a then b else a
theorem maxI_comm (a b : Int) : maxI a b = maxI b a := by unfold maxI; split <;> split <;> omega
theorem minI_comm (a b : Int) : minI a b = minI b a := by unfold minI; split <;> split <;> omega
def meetB (a0 a1 b0 b1 : Int) : Bool := spanB a0 a1 && spanB b0 b1 && spanB (maxI a0 b0) (minI a1 b1)
theorem meetB_comm (a0 a1 b0 b1 : Int) : meetB a0 a1 b0 b1 = meetB b0 b1 a0 a1 := by
  unfold meetB
  rw [maxI_comm a0, minI_comm a1, Bool.and_comm (spanB a0 a1)]

theorem sortedA_mem (l : List Int) (z : Int) : z ∈ Srt.sorted l ↔ z ∈ l := (List.mergeSort_perm l _).mem_iff
theorem sortedA_pw (l : List Int) : (Srt.sorted l).Pairwise (fun x y => x ≤ y) := by
  have h := List.pairwise_mergeSort (le := fun x y : Int => decide (x ≤ y)) (fun a b c h1 h2 => by simp only [decide_eq_true_eq] at *; omega) (fun a b => by simp only [Bool.or_eq_true, decide_eq_true_eq]; omega) l
  exact h.imp (fun h => by simpa using h)
theorem get_le {l : List Int} (h : l.Pairwise (fun x y => x ≤ y)) {i j : Nat} (hij : i ≤ j) (hj : j < l.length) : l.toArray[i]! ≤ l.toArray[j]! := by
  rcases Nat.lt_or_eq_of_le hij with hlt | rfl
  · have := List.pairwise_iff_getElem.1 h i j (by omega) hj hlt
    simpa [show i < l.length by omega, hj] using this
  · exact Int.le_refl _
theorem compact_asc {l : List Int} (h : l.Pairwise (fun x y => x ≤ y)) : Asc (Go.Lib.compact l) := by
  unfold Asc Go.Lib.compact Go.Lib.compactUpTo
  rw [List.pairwise_map]
  refine List.Pairwise.imp_of_mem ?_ (List.Pairwise.filter _ List.pairwise_lt_range)
  intro i j hi hj hij
  rw [List.mem_filter, List.mem_range] at hi hj
  have hk := hj.2
  unfold Go.Lib.keeps at hk
  rw [decide_eq_true_iff] at hk
  have hne := hk.resolve_left (by omega)
  have h1 := get_le h (show i ≤ j - 1 by omega) (by omega)
  have h2 := get_le h (show j - 1 ≤ j by omega) hj.1
  omega
theorem compact_mem (l : List Int) (z : Int) : z ∈ Go.Lib.compact l ↔ z ∈ l := by
  unfold Go.Lib.compact Go.Lib.compactUpTo
  rw [List.mem_map]
  constructor
  · rintro ⟨j, hj, rfl⟩
    rw [List.mem_filter, List.mem_range] at hj
    simp [hj.1]
  · intro hz
    obtain ⟨i, hi, rfl⟩ := List.getElem_of_mem hz
    have key : ∀ (n i : Nat), i ≤ n → (hi : i < l.length) → ∃ j, j ∈ (List.range l.length).filter (Go.Lib.keeps l.toArray) ∧ l.toArray[j]! = l[i] := by
      intro n
      induction n with
      | zero =>
        intro i hin hi
        have e : i = 0 := by omega
        subst e
        exact ⟨0, by rw [List.mem_filter, List.mem_range]; exact ⟨hi, by simp [Go.Lib.keeps]⟩, by simp [hi]⟩
      | succ n ih =>
        intro i hin hi
        by_cases hk : Go.Lib.keeps l.toArray i = true
        · exact ⟨i, by rw [List.mem_filter, List.mem_range]; exact ⟨hi, hk⟩, by simp [hi]⟩
        · unfold Go.Lib.keeps at hk
          rw [decide_eq_true_iff, not_or] at hk
          have h2 : l.toArray[i]! = l.toArray[i - 1]! := Classical.byContradiction (fun hh => hk.2 hh)
          obtain ⟨j, hj, e⟩ := ih (i - 1) (by omega) (by omega)
          refine ⟨j, hj, e.trans ?_⟩
          simpa [hi, show i - 1 < l.length by omega] using h2.symm
    exact key i i (Nat.le_refl _) hi
theorem united_is {a b : List Int} (hb : Asc b) (h : ∀ z, z ∈ a ↔ z ∈ b) : Go.Lib.compact (Srt.sorted a) = b :=
  asc_ext _ _ (compact_asc (sortedA_pw a)) hb (fun z => by rw [compact_mem, sortedA_mem]; exact h z)

def okStop (l : List S130) (i : Nat) : Prop := inR (rd_T130 l i).f0 1 30 = true ∧ ¬ (rd_T130 l i).f1 < 0 ∧ ¬ (rd_T130 l i).f1 > (rd_T130 l i).f2 ∧ ¬ (rd_T130 l i).f2 > 100000 ∧ ((i : Int) > 0 → ¬ (rd_T130 l i).f1 < (rd_T130 l ((i : Int) - 1)).f2)
noncomputable def isRoute (l : List S130) : Bool := allF (okStop l) l.length 0 && inR (l.length : Int) 1 10

def leftS (s0 s1 : Int) : List S130 → List Int → List Int
  | [], acc => acc
  | x :: r, acc => leftS s0 s1 r (if meetB s0 s1 x.f1 x.f2 = true ∨ r.length = 0 then putA acc x.f0 else acc)
def leftI (s0 s1 : Int) : List S130 → List Int → List Int
  | [], acc => acc
  | x :: r, acc => leftI s0 s1 r (if meetB s0 s1 x.f1 x.f2 = true then acc ++ [x.f0] else acc)
theorem leftS_asc (s0 s1 : Int) : ∀ (l : List S130) (acc : List Int), Asc acc → Asc (leftS s0 s1 l acc)
  | [], acc, h => h
  | x :: r, acc, h => by
    rw [leftS]
    refine leftS_asc s0 s1 r _ ?_
    split
    · exact putA_asc _ _ h
    · exact h
theorem leftS_len (s0 s1 : Int) : ∀ (l : List S130) (acc : List Int), (leftS s0 s1 l acc).length ≤ acc.length + l.length
  | [], acc => Nat.le_refl _
  | x :: r, acc => by
    rw [leftS, List.length_cons]
    have h1 := leftS_len s0 s1 r (if meetB s0 s1 x.f1 x.f2 = true ∨ r.length = 0 then putA acc x.f0 else acc)
    have h2 := putA_len x.f0 acc
    split at h1 <;> rename_i hc
    · rw [if_pos hc]; omega
    · rw [if_neg hc]; omega
theorem leftI_len (s0 s1 : Int) : ∀ (l : List S130) (acc : List Int), (leftI s0 s1 l acc).length ≤ acc.length + l.length
  | [], acc => Nat.le_refl _
  | x :: r, acc => by
    rw [leftI, List.length_cons]
    by_cases hc : meetB s0 s1 x.f1 x.f2 = true
    · rw [if_pos hc]
      have h1 := leftI_len s0 s1 r (acc ++ [x.f0])
      rw [List.length_append, List.length_singleton] at h1
      omega
    · rw [if_neg hc]
      have h1 := leftI_len s0 s1 r acc
      omega
theorem leftI_mem (s0 s1 z : Int) : ∀ (l : List S130) (acc : List Int), z ∈ leftI s0 s1 l acc ↔ z ∈ acc ∨ ∃ y ∈ l, meetB s0 s1 y.f1 y.f2 = true ∧ y.f0 = z
  | [], acc => by simp [leftI]
  | x :: r, acc => by
    rw [leftI]
    by_cases hc : meetB s0 s1 x.f1 x.f2 = true
    · rw [if_pos hc, leftI_mem s0 s1 z r]
      constructor
      · rintro (h | ⟨y, hy, h⟩)
        · rcases List.mem_append.1 h with h | h
          · exact .inl h
          · exact .inr ⟨x, List.mem_cons_self .., hc, (List.mem_singleton.1 h).symm⟩
        · exact .inr ⟨y, List.mem_cons_of_mem _ hy, h⟩
      · rintro (h | ⟨y, hy, h⟩)
        · exact .inl (List.mem_append_left _ h)
        · rcases List.mem_cons.1 hy with e | e
          · exact .inl (List.mem_append_right _ (by rw [← h.2, e]; exact List.mem_singleton.2 rfl))
          · exact .inr ⟨y, e, h⟩
    · rw [if_neg hc, leftI_mem s0 s1 z r]
      constructor
      · rintro (h | ⟨y, hy, h⟩)
        · exact .inl h
        · exact .inr ⟨y, List.mem_cons_of_mem _ hy, h⟩
      · rintro (h | ⟨y, hy, h⟩)
        · exact .inl h
        · rcases List.mem_cons.1 hy with e | e
          · rw [e] at h; exact absurd h.1 hc
          · exact .inr ⟨y, e, h⟩
theorem leftS_mem (s0 s1 z : Int) : ∀ (l : List S130) (acc : List Int), z ∈ leftS s0 s1 l acc ↔ z ∈ acc ∨ (∃ y ∈ l, meetB s0 s1 y.f1 y.f2 = true ∧ y.f0 = z) ∨ (0 < l.length ∧ (l.getD (l.length - 1) z130).f0 = z)
  | [], acc => by simp [leftS]
  | x :: r, acc => by
    have hlast : (0 < (x :: r).length ∧ ((x :: r).getD ((x :: r).length - 1) z130).f0 = z) ↔ (if r.length = 0 then x.f0 = z else (0 < r.length ∧ (r.getD (r.length - 1) z130).f0 = z)) := by
      cases r with
      | nil => simp
      | cons y q => simp
    rw [leftS, hlast, leftS_mem s0 s1 z r]
    have hp := putA_mem x.f0 z acc
    by_cases hr : r.length = 0
    · have hr0 : r = [] := List.eq_nil_of_length_eq_zero hr
      subst hr0
      rw [if_pos (.inr hr), if_pos hr, hp]
      constructor
      · rintro ((h | h) | h | h)
        · exact .inr (.inr h.symm)
        · exact .inl h
        · obtain ⟨y, hy, _⟩ := h; cases hy
        · exact absurd h.1 (by simp)
      · rintro (h | ⟨y, hy, h⟩ | h)
        · exact .inl (.inr h)
        · rcases List.mem_cons.1 hy with e | e
          · exact .inl (.inl (by rw [← h.2, e]))
          · cases e
        · exact .inl (.inl h.symm)
    · rw [if_neg hr]
      by_cases hc : meetB s0 s1 x.f1 x.f2 = true
      · rw [if_pos (.inl hc), hp]
        constructor
        · rintro ((h | h) | ⟨y, hy, h⟩ | h)
          · exact .inr (.inl ⟨x, List.mem_cons_self .., hc, h.symm⟩)
          · exact .inl h
          · exact .inr (.inl ⟨y, List.mem_cons_of_mem _ hy, h⟩)
          · exact .inr (.inr h)
        · rintro (h | ⟨y, hy, h⟩ | h)
          · exact .inl (.inr h)
          · rcases List.mem_cons.1 hy with e | e
            · exact .inl (.inl (by rw [← h.2, e]))
            · exact .inr (.inl ⟨y, e, h⟩)
          · exact .inr (.inr h)
      · rw [if_neg (fun hh => hh.elim hc hr)]
        constructor
        · rintro (h | ⟨y, hy, h⟩ | h)
          · exact .inl h
          · exact .inr (.inl ⟨y, List.mem_cons_of_mem _ hy, h⟩)
          · exact .inr (.inr h)
        · rintro (h | ⟨y, hy, h⟩ | h)
          · exact .inl h
          · rcases List.mem_cons.1 hy with e | e
            · rw [e] at h; exact absurd h.1 hc
            · exact .inr (.inl ⟨y, e, h⟩)
          · exact .inr (.inr h)
noncomputable def leftBetween (l : List S130) (s0 s1 : Int) : List Int := if isRoute l = true ∧ spanB s0 s1 = true then leftS s0 s1 l [] else []
theorem route_len {l : List S130} (h : isRoute l = true) : 1 ≤ l.length ∧ l.length ≤ 10 := by
  unfold isRoute at h
  rw [Bool.and_eq_true, inR_iff] at h
  omega
theorem leftBetween_len (l : List S130) (s0 s1 : Int) : (leftBetween l s0 s1).length ≤ 10 := by
  unfold leftBetween
  by_cases h : isRoute l = true ∧ spanB s0 s1 = true
  · rw [if_pos h]
    have h1 := leftS_len s0 s1 l []
    have h2 := (route_len h.1).2
    simp at h1
    omega
  · rw [if_neg h]
    simp

noncomputable def isReport (r0 r1 : Int) (rc : List Int) (r3 r4 : Int) (rp : List Int) (r6 r7 : Int) : Bool := inR r0 1 999 && inR r1 1 8 && isAsc rc 0 7 && decide (1 ≤ r3) && decide (r3 ≤ r4) && decide (r4 ≤ 50) && isAsc rp 1 30 && decide ((rp.length : Int) ≤ 10) && (inR r6 0 100000 && inR r7 0 100000 && decide (r6 ≤ r7))
noncomputable def isFind (f0 f1 f2 f3 f4 f5 f6 f7 : Int) : Bool := (inR f0 1 999 && inR f1 1 8 && inR f2 0 7 && inR f3 1 50 && inR f4 0 10000000) && inR f5 1 30 && inR f6 0 100000 && inR f7 0 999

noncomputable def alongP (rep : Bool) (rp p : List Int) : List Int × Bool := if rep = true ∧ ¬ p.length = 0 ∧ (bothL rp p).2 = true then ((bothL rp p).1, true) else (rp, false)
theorem alongP_len (rep : Bool) (rp p : List Int) (n : Nat) (h1 : rp.length ≤ n) (h2 : p.length ≤ n) : (alongP rep rp p).1.length ≤ n := by
  unfold alongP bothL
  have := fltL_len rp p
  repeat' split
  all_goals (simp only []; omega)
theorem leftBetween_asc (l : List S130) (s0 s1 : Int) : Asc (leftBetween l s0 s1) := by
  unfold leftBetween
  split
  · exact leftS_asc s0 s1 l [] List.Pairwise.nil
  · exact List.Pairwise.nil
theorem leftBetween_some (l : List S130) (s0 s1 : Int) (h : isRoute l = true) (hs : spanB s0 s1 = true) : ¬ (leftBetween l s0 s1).length = 0 := by
  intro h0
  have hl := route_len h
  have hm := (leftS_mem s0 s1 (l.getD (l.length - 1) z130).f0 l []).2 (.inr (.inr ⟨by omega, rfl⟩))
  rw [leftBetween, if_pos ⟨h, hs⟩] at h0
  rw [List.eq_nil_of_length_eq_zero h0] at hm
  cases hm
theorem leftBetween_none (l : List S130) (s0 s1 : Int) (h : ¬ isRoute l = true) : leftBetween l s0 s1 = [] := by
  rw [leftBetween, if_neg (fun hh => h hh.1)]
theorem report_span (r0 r1 : Int) (rc : List Int) (r3 r4 : Int) (rp : List Int) (r6 r7 : Int) (h : isReport r0 r1 rc r3 r4 rp r6 r7 = true) : spanB r6 r7 = true ∧ Asc rp := by
  unfold isReport at h
  simp only [Bool.and_eq_true] at h
  refine ⟨?_, asc_of h.1.1.2⟩
  have h2 := h.2
  unfold spanB
  simp only [Bool.and_eq_true]
  exact h2

theorem spec_l8Has_l0 (l : List Int) (n : Int) (hn : l.length ≤ 4194304) : ∀ (d i : Nat), i + d = l.length → spec_l8Has.L0 l n (i : Int) = some (decide (n ∈ l.drop i))
  | 0, i, h => by
    rw [spec_l8Has.L0_eq, if_neg (by omega), List.drop_of_length_le (by omega)]
    simp
  | d + 1, i, h => by
    rw [spec_l8Has.L0_eq, if_pos (by omega), if_pos (by omega), dropInt l i (by omega), wrap_succ i (by omega), spec_l8Has_l0 l n hn d (i + 1) (by omega)]
    by_cases c : rd l (i : Int) = n
    · rw [if_pos c]
      simp [c]
    · rw [if_neg c]
      have c' : ¬ n = rd l (i : Int) := fun e => c e.symm
      simp [c']
theorem spec_l8Has_is (l : List Int) (n : Int) (hn : l.length ≤ 4194304) : spec_l8Has.F l n = some (decide (n ∈ l)) := by
  rw [spec_l8Has.F_eq]
  exact spec_l8Has_l0 l n hn l.length 0 (by omega)

theorem spec_l9Both_l0 (a b : List Int) (ha : a.length ≤ 4194304) (hb : b.length ≤ 4194304) : ∀ (d i : Nat) (acc : List Int), i + d = a.length → acc.length ≤ i → spec_l9Both.L0 a b acc (i : Int) = some (acc ++ fltL (a.drop i) b, decide (((acc ++ fltL (a.drop i) b).length : Int) > 0))
  | 0, i, acc, h, hacc => by
    rw [spec_l9Both.L0_eq, if_neg (by omega), List.drop_of_length_le (by omega), fltL, List.filter_nil, List.append_nil]
  | d + 1, i, acc, h, hacc => by
    rw [spec_l9Both.L0_eq, if_pos (by omega), if_pos (by omega), spec_l8Has_is b _ hb, Option.bind_some, wrap_succ i (by omega), dropInt a i (by omega), fltL, List.filter_cons]
    by_cases c : rd a (i : Int) ∈ b
    · rw [decide_eq_true c, if_pos rfl, if_pos rfl, if_pos (by omega), spec_l9Both_l0 a b ha hb d (i + 1) _ (by omega) (by rw [List.length_append, List.length_singleton]; omega), List.append_assoc]
      rfl
    · rw [decide_eq_false c, if_neg (by decide), if_neg (by decide), spec_l9Both_l0 a b ha hb d (i + 1) _ (by omega) (by omega)]
      rfl
theorem spec_l9Both_is (a b : List Int) (ha : a.length ≤ 4194304) (hb : b.length ≤ 4194304) : spec_l9Both.F a b = some (bothL a b) := by
  rw [spec_l9Both.F_eq, bothL]
  by_cases h : a.length = 0
  · rw [if_pos (by omega), if_pos h, Option.bind_some, if_pos (by simp only [List.length_nil]; omega), List.nil_append]
  · rw [if_neg (by omega), if_neg h]
    by_cases h2 : b.length = 0
    · rw [if_pos (by omega), if_pos h2, Option.bind_some, if_pos (by simp only [List.length_nil]; omega), List.nil_append]
    · have := spec_l9Both_l0 a b ha hb a.length 0 [] (by omega) (by simp)
      rw [List.drop_zero, List.nil_append] at this
      rw [if_neg (by omega), if_neg h2]
      exact this

theorem l1In (a b c : Int) : spec_l1In.f a b c = some (inR a b c) := by
  unfold spec_l1In.f inR
  by_cases h : b ≤ a <;> simp [h]

theorem spec_l7Ids_l0 (l : List Int) (a b : Int) (hn : l.length ≤ 4194304) : ∀ (d i : Nat), i + d = l.length → spec_l7Ids.L0 l a b (i : Int) = some (allF (okAsc a b l) l.length i)
  | 0, i, h => by rw [spec_l7Ids.L0_eq, if_neg (by omega), allF_end (by omega)]
  | d + 1, i, h => by
    have hi : i < l.length := by omega
    have ih := spec_l7Ids_l0 l a b hn d (i + 1) (by omega)
    rw [spec_l7Ids.L0_eq]
    simp only [wrap_succ i (by omega), wrap_pred i (by omega), ih, l1In, Option.bind_some]
    by_cases hp_ : okAsc a b l i
    · rw [allF_yes hp_]
      simp only [okAsc] at hp_
      obtain ⟨h1_, h2_⟩ := hp_
      repeat' split
      all_goals first
        | rfl
        | (exfalso; first | contradiction | omega)
    · rw [allF_no hi hp_]
      repeat' split
      all_goals first
        | rfl
        | (simp; done)
        | (exfalso; first | contradiction | omega)
        | (exfalso; apply hp_; simp only [okAsc]; (repeat' constructor) <;> first | assumption | (intro _; omega) | omega)
theorem spec_l7Ids_is (l : List Int) (a b : Int) (hn : l.length ≤ 4194304) : spec_l7Ids.F l a b = some (isAsc l a b) := by
  rw [spec_l7Ids.F_eq]
  exact spec_l7Ids_l0 l a b hn l.length 0 (by omega)

theorem spec_IsSpan_is (a b : Int) : spec_IsSpan.f a b = some (inR a 0 100000 && inR b 0 100000 && decide (a ≤ b)) := by
  unfold spec_IsSpan.f
  simp only [l1In, Option.bind_some]
  cases inR a 0 100000 <;> cases inR b 0 100000 <;> simp

theorem spec_IsReport_is (r0 r1 : Int) (rc : List Int) (r3 r4 : Int) (rp : List Int) (r6 r7 : Int) (hc : rc.length ≤ 4194304) (hp : rp.length ≤ 4194304) : spec_IsReport.F r0 r1 rc r3 r4 rp r6 r7 = some (isReport r0 r1 rc r3 r4 rp r6 r7) := by
  rw [spec_IsReport.F_eq]
  simp only [l1In, spec_l7Ids_is rc 0 7 hc, spec_l7Ids_is rp 1 30 hp, spec_IsSpan_is, Option.bind_some, isReport]
  generalize (inR r6 0 100000 && inR r7 0 100000 && decide (r6 ≤ r7)) = s
  cases inR r0 1 999 <;> cases inR r1 1 8 <;> cases isAsc rc 0 7 <;> cases isAsc rp 1 30 <;> by_cases h1 : 1 ≤ r3 <;> by_cases h2 : r3 ≤ r4 <;> by_cases h3 : r4 ≤ 50 <;> by_cases h4 : (rp.length : Int) ≤ 10 <;> simp [h1, h2, h3, h4]

theorem spec_l9Put_l0 (l : List Int) (n : Int) (hl : l.length ≤ 2000000) : ∀ (d i : Nat), i + d = l.length → spec_l9Put.L0 l n (i : Int) = some (l.take i ++ putA (l.drop i) n)
  | 0, i, h => by
    have ht := List.length_take (i := i) (l := l)
    have hd := List.length_drop (i := i) (l := l)
    rw [spec_l9Put.L0_eq, if_neg (by omega), Option.bind_some, if_pos (by omega), if_pos (by omega), Int.toNat_natCast, List.nil_append, if_pos (by simp; omega), Option.bind_some, Option.bind_some, if_pos (by simp; omega), Option.bind_some, if_pos (by simp; omega), List.drop_of_length_le (by omega)]
    simp [putA]
  | d + 1, i, h => by
    rw [spec_l9Put.L0_eq, if_pos (by omega), if_pos (by omega), wrap_succ i (by omega), spec_l9Put_l0 l n hl d (i + 1) (by omega)]
    have e := dropInt l i (by omega)
    have e2 : l.take (i + 1) = l.take i ++ [rd l (i : Int)] := by
      rw [List.take_succ_eq_append_getElem (by omega)]
      congr 2
      simp [rd, show i < l.length by omega]
    by_cases h1 : rd l (i : Int) < n
    · rw [if_pos h1, e, putA, if_pos h1, e2]
      simp
    · rw [if_neg h1]
      by_cases h2 : rd l (i : Int) = n
      · rw [if_pos h2, Option.bind_some, if_pos (by simp; omega), e, putA, if_neg h1, if_pos h2, ← e, List.take_append_drop, List.nil_append]
      · rw [if_neg h2, Option.bind_some, if_pos (by omega), Int.toNat_natCast, List.nil_append, if_pos (by simp; omega), Option.bind_some, Option.bind_some, if_pos (by simp; omega), Option.bind_some, if_pos (by simp; omega), e, putA, if_neg h1, if_neg h2]
        simp
theorem spec_l9Put_is (l : List Int) (n : Int) (hl : l.length ≤ 2000000) : spec_l9Put.F l n = some (putA l n) := by
  have := spec_l9Put_l0 l n hl l.length 0 (by omega)
  rw [spec_l9Put.F_eq]
  simpa using this

theorem spec_IsRoute_l0 (l : List S130) (hn : l.length ≤ 1048576) : ∀ (d i : Nat), i + d = l.length → spec_IsRoute.L0 l (i : Int) = some (allF (okStop l) l.length i && inR (l.length : Int) 1 10)
  | 0, i, h => by rw [spec_IsRoute.L0_eq, if_neg (by omega), allF_end (by omega)]; first | done | rfl | simp [l1In, inR]
  | d + 1, i, h => by
    have hi : i < l.length := by omega
    have ih := spec_IsRoute_l0 l hn d (i + 1) (by omega)
    rw [spec_IsRoute.L0_eq]
    simp only [wrap_succ i (by omega), wrap_pred i (by omega), ih, l1In, Option.bind_some]
    by_cases hp_ : okStop l i
    · rw [allF_yes hp_]
      simp only [okStop] at hp_
      obtain ⟨h1_, h2_, h3_, h4_, h5_⟩ := hp_
      repeat' split
      all_goals first
        | rfl
        | (exfalso; first | contradiction | omega)
    · rw [allF_no hi hp_]
      repeat' split
      all_goals first
        | rfl
        | (simp; done)
        | (exfalso; first | contradiction | omega)
        | (exfalso; apply hp_; simp only [okStop]; (repeat' constructor) <;> first | assumption | (intro _; omega) | omega)

theorem spec_IsRoute_is (l : List S130) (hn : l.length ≤ 1048576) : spec_IsRoute.F l = some (isRoute l) := by
  rw [spec_IsRoute.F_eq, isRoute]
  exact spec_IsRoute_l0 l hn l.length 0 (by omega)

theorem spec_Meet_is (a0 a1 b0 b1 : Int) : ∃ u v, spec_Meet.f a0 a1 b0 b1 = some (u, v, meetB a0 a1 b0 b1) := by
  have hs : ∀ a b, spec_IsSpan.f a b = some (spanB a b) := fun a b => by
    unfold spec_IsSpan.f spanB
    simp only [l1In, Option.bind_some]
    cases inR a 0 100000 <;> cases inR b 0 100000 <;> simp
  have h1 : ∀ a b, spec_Max.f a b = some (maxI a b) := fun a b => by unfold spec_Max.f maxI; split <;> rfl
  have h2 : ∀ a b, spec_Min.f a b = some (minI a b) := fun a b => by unfold spec_Min.f minI; split <;> rfl
  unfold spec_Meet.f meetB
  rw [h1, Option.bind_some, h2, Option.bind_some, hs, Option.bind_some, hs, Option.bind_some, hs, Option.bind_some]
  cases spanB a0 a1 <;> cases spanB b0 b1 <;> cases spanB (maxI a0 b0) (minI a1 b1) <;> exact ⟨_, _, rfl⟩
theorem spec_Span_is (a b : Int) : spec_IsSpan.f a b = some (spanB a b) := by
  unfold spec_IsSpan.f spanB
  simp only [l1In, Option.bind_some]
  cases inR a 0 100000 <;> cases inR b 0 100000 <;> simp

theorem spec_LeftBetween_l0 (l : List S130) (s0 s1 : Int) (hr : isRoute l = true) (hs : spanB s0 s1 = true) (hn : l.length ≤ 1000) : ∀ (d i : Nat) (acc : List Int), i + d = l.length → acc.length ≤ i → spec_LeftBetween.L0 l acc (i : Int) s0 s1 = some (leftS s0 s1 (l.drop i) acc)
  | 0, i, acc, h, ha => by
    rw [spec_LeftBetween.L0_eq, if_neg (by omega), spec_LeftBetween.J1_eq, if_neg (by decide), List.drop_of_length_le (by omega)]
    rfl
  | d + 1, i, acc, h, ha => by
    obtain ⟨u, v, em⟩ := spec_Meet_is s0 s1 (rd_T130 l (i : Int)).f1 (rd_T130 l (i : Int)).f2
    have hp := putA_len (rd_T130 l (i : Int)).f0 acc
    have hdl : (l.drop (i + 1)).length = l.length - (i + 1) := List.length_drop
    rw [spec_LeftBetween.L0_eq, if_pos (by omega), spec_IsRoute_is l (by omega), Option.bind_some, if_pos hr, spec_Span_is, Option.bind_some, hs, spec_LeftBetween.J1_eq, if_pos rfl, if_pos (by omega), if_pos (by omega), em, Option.bind_some, dropStop l i (by omega), leftS]
    dsimp only
    rw [wrap_succ i (by omega), spec_l9Put_is _ _ (by omega), Option.bind_some]
    have i1 := spec_LeftBetween_l0 l s0 s1 hr hs hn d (i + 1) (putA acc (rd_T130 l (i : Int)).f0) (by omega) (by omega)
    have i2 := spec_LeftBetween_l0 l s0 s1 hr hs hn d (i + 1) acc (by omega) (by omega)
    by_cases hc : meetB s0 s1 (rd_T130 l (i : Int)).f1 (rd_T130 l (i : Int)).f2 = true
    · rw [if_pos hc, if_pos (.inl hc)]
      exact i1
    · rw [if_neg hc]
      by_cases hl : ((i + 1 : Nat) : Int) = (l.length : Int)
      · rw [if_pos hl, if_pos (.inr (by omega))]
        exact i1
      · rw [if_neg hl, if_neg (fun hh => hh.elim hc (fun h2 => hl (by omega)))]
        exact i2
theorem spec_LeftBetween_is (l : List S130) (s0 s1 : Int) (hn : l.length ≤ 1048576) : spec_LeftBetween.F l s0 s1 = some (leftBetween l s0 s1) := by
  rw [spec_LeftBetween.F_eq, leftBetween]
  by_cases h : isRoute l = true ∧ spanB s0 s1 = true
  · have hl := route_len h.1
    rw [if_pos h]
    exact spec_LeftBetween_l0 l s0 s1 h.1 h.2 (by omega) l.length 0 [] (by omega) (by simp)
  · rw [if_neg h, spec_LeftBetween.L0_eq]
    have e : spec_LeftBetween.J1 l [] 0 false s0 s1 = some [] := by rw [spec_LeftBetween.J1_eq, if_neg (by decide)]
    split
    · rw [spec_IsRoute_is l hn, Option.bind_some]
      by_cases h1 : isRoute l = true
      · have h2 : spanB s0 s1 = false := Bool.eq_false_iff.2 (fun hh => h ⟨h1, hh⟩)
        rw [if_pos h1, spec_Span_is, Option.bind_some, h2]
        exact e
      · rw [if_neg h1]
        exact e
    · exact e

theorem spec_l7Report_is (r0 r1 : Int) (rc : List Int) (r3 r4 : Int) (rp : List Int) (r6 r7 : Int) (hc : rc.length ≤ 4194304) (hp : rp.length ≤ 4194304) : spec_l7Report.f r0 r1 rc r3 r4 rp r6 r7 = some (r0, r1, rc, r3, r4, rp, r6, r7) := by
  unfold spec_l7Report.f
  rw [Option.bind_some, if_pos (by simp only [List.length_nil]; omega), Option.bind_some, if_pos (by simp only [List.length_nil]; omega), List.nil_append, List.nil_append]
theorem spec_AlongRoute_is (r0 r1 : Int) (rc : List Int) (r3 r4 : Int) (rp : List Int) (r6 r7 : Int) (l : List S130) (hc : rc.length ≤ 4194304) (hp : rp.length ≤ 4194304) (hn : l.length ≤ 1048576) : spec_AlongRoute.F r0 r1 rc r3 r4 rp r6 r7 l = some (r0, r1, rc, r3, r4, (alongP (isReport r0 r1 rc r3 r4 rp r6 r7) rp (leftBetween l r6 r7)).1, r6, r7, (alongP (isReport r0 r1 rc r3 r4 rp r6 r7) rp (leftBetween l r6 r7)).2) := by
  have hl := leftBetween_len l r6 r7
  rw [spec_AlongRoute.F_eq, spec_l7Report_is r0 r1 rc r3 r4 rp r6 r7 hc hp, Option.bind_some]
  dsimp only
  rw [spec_LeftBetween_is l r6 r7 hn, Option.bind_some, spec_IsReport_is r0 r1 rc r3 r4 rp r6 r7 hc hp, Option.bind_some]
  generalize isReport r0 r1 rc r3 r4 rp r6 r7 = rep
  generalize leftBetween l r6 r7 = p at *
  unfold alongP
  cases rep with
  | false => rw [if_neg (by decide), spec_AlongRoute.J0_eq, if_pos rfl, if_neg (by simp)]
  | true =>
    rw [if_pos rfl, spec_AlongRoute.J0_eq]
    by_cases h : p.length = 0
    · rw [if_pos (by rw [beq_iff_eq]; omega), if_neg (fun hh => hh.2.1 h)]
    · rw [if_neg (by rw [beq_iff_eq]; omega), spec_l9Both_is rp p hp (by omega), Option.bind_some]
      by_cases h2 : (bothL rp p).2 = true
      · rw [if_pos h2, if_pos ⟨rfl, h, h2⟩]
      · rw [if_neg h2, if_neg (fun hh => h2 hh.2.2)]

def allow (l : List Int) (n : Int) : Bool := decide (l.length = 0) || decide (n ∈ l)

theorem slices_Index_l0 (l : List Int) (n : Int) (hn : l.length ≤ 4194304) : ∀ (d i : Nat), i + d = l.length → ∃ r, slices_Index_int_int.L0 l n (l.length : Int) (i : Int) = some r ∧ (0 ≤ r ↔ n ∈ l.drop i)
  | 0, i, h => by
    refine ⟨-1, by rw [slices_Index_int_int.L0_eq, if_neg (by omega)], ?_⟩
    rw [List.drop_of_length_le (by omega)]
    simp
  | d + 1, i, h => by
    rw [slices_Index_int_int.L0_eq, if_pos (by omega), if_pos (by omega), if_pos (by omega), dropInt l i (by omega), wrap_succ i (by omega)]
    by_cases c : n = rd l (i : Int)
    · rw [if_pos c]
      exact ⟨_, rfl, ⟨fun _ => by rw [← c]; exact List.mem_cons_self, fun _ => by omega⟩⟩
    · rw [if_neg c]
      obtain ⟨r, hr, hi⟩ := slices_Index_l0 l n hn d (i + 1) (by omega)
      refine ⟨r, hr, hi.trans ⟨fun hm => List.mem_cons_of_mem _ hm, fun hm => ?_⟩⟩
      rcases List.mem_cons.1 hm with he | he
      · exact absurd he c
      · exact he
theorem slices_Contains_is (l : List Int) (n : Int) (hn : l.length ≤ 4194304) : slices_Contains_int_int.F l n = some (decide (n ∈ l)) := by
  obtain ⟨r, hr, hi⟩ := slices_Index_l0 l n hn l.length 0 (by omega)
  rw [slices_Contains_int_int.F_eq, slices_Index_int_int.F_eq]
  have hr' : slices_Index_int_int.L0 l n (l.length : Int) 0 = some r := hr
  rw [hr', Option.bind_some]
  congr 1
  rw [Bool.eq_iff_iff, decide_eq_true_iff, decide_eq_true_iff]
  exact hi

theorem cloneIntK (l : List Int) (hl : l.length ≤ 4194304) : slices_Clone_int_int.f l = some l := by
  unfold slices_Clone_int_int.f
  rw [Option.bind_some, if_pos (by simp only [List.length_nil]; omega), List.nil_append]
theorem impl_both_l0 (a b : List Int) (ha : a.length ≤ 4194304) (hb : b.length ≤ 4194304) : ∀ (d i : Nat) (acc : List Int), i + d = a.length → acc.length ≤ i → impl_both.L0 b acc a (a.length : Int) (i : Int) = some (acc ++ fltL (a.drop i) b, decide (((acc ++ fltL (a.drop i) b).length : Int) > 0))
  | 0, i, acc, h, hacc => by
    rw [impl_both.L0_eq, if_neg (by omega), List.drop_of_length_le (by omega), fltL, List.filter_nil, List.append_nil]
  | d + 1, i, acc, h, hacc => by
    rw [impl_both.L0_eq, if_pos (by omega), if_pos (by omega), if_pos (by omega), slices_Contains_is b _ hb, Option.bind_some, wrap_succ i (by omega), dropInt a i (by omega), fltL, List.filter_cons]
    by_cases c : rd a (i : Int) ∈ b
    · rw [decide_eq_true c, if_pos rfl, if_pos rfl, if_pos (by omega), impl_both_l0 a b ha hb d (i + 1) _ (by omega) (by rw [List.length_append, List.length_singleton]; omega), List.append_assoc]
      rfl
    · rw [decide_eq_false c, if_neg (by decide), if_neg (by decide), impl_both_l0 a b ha hb d (i + 1) _ (by omega) (by omega)]
      rfl
theorem impl_both_is (a b : List Int) (ha : a.length ≤ 4194304) (hb : b.length ≤ 4194304) : impl_both.F a b = some (bothL a b) := by
  rw [impl_both.F_eq, bothL]
  by_cases h : a.length = 0
  · rw [if_pos (by omega), if_pos h, cloneIntK b hb, Option.bind_some]
  · rw [if_neg (by omega), if_neg h]
    by_cases h2 : b.length = 0
    · rw [if_pos (by omega), if_pos h2, cloneIntK a ha, Option.bind_some]
    · have := impl_both_l0 a b ha hb a.length 0 [] (by omega) (by simp)
      rw [List.drop_zero, List.nil_append] at this
      rw [if_neg (by omega), if_neg h2]
      exact this

theorem inRange (a b c : Int) : impl_InRange.f a b c = some (inR a b c) := by
  unfold impl_InRange.f inR
  by_cases h : b ≤ a <;> simp [h]

theorem impl_isAscending_l0 (l : List Int) (a b : Int) (hn : l.length ≤ 4194304) : ∀ (d i : Nat), i + d = l.length → impl_isAscending.L0 l a b l (l.length : Int) (i : Int) = some (allF (okAsc a b l) l.length i)
  | 0, i, h => by rw [impl_isAscending.L0_eq, if_neg (by omega), allF_end (by omega)]
  | d + 1, i, h => by
    have hi : i < l.length := by omega
    have ih := impl_isAscending_l0 l a b hn d (i + 1) (by omega)
    rw [impl_isAscending.L0_eq]
    simp only [wrap_succ i (by omega), wrap_pred i (by omega), ih, inRange, Option.bind_some]
    by_cases hp_ : okAsc a b l i
    · rw [allF_yes hp_]
      simp only [okAsc] at hp_
      obtain ⟨h1_, h2_⟩ := hp_
      repeat' split
      all_goals first
        | rfl
        | (exfalso; first | contradiction | omega)
    · rw [allF_no hi hp_]
      repeat' split
      all_goals first
        | rfl
        | (simp; done)
        | (exfalso; first | contradiction | omega)
        | (exfalso; apply hp_; simp only [okAsc]; (repeat' constructor) <;> first | assumption | (intro _; omega) | omega)
theorem impl_isAscending_is (l : List Int) (a b : Int) (hn : l.length ≤ 4194304) : impl_isAscending.F l a b = some (isAsc l a b) := by
  rw [impl_isAscending.F_eq]
  exact impl_isAscending_l0 l a b hn l.length 0 (by omega)

theorem impl_IsSpan_is (a b : Int) : impl_IsSpan.f a b = some (inR a 0 100000 && inR b 0 100000 && decide (a ≤ b)) := by
  unfold impl_IsSpan.f
  simp only [inRange, Option.bind_some]
  cases inR a 0 100000 <;> cases inR b 0 100000 <;> simp

theorem impl_IsReport_is (r0 r1 : Int) (rc : List Int) (r3 r4 : Int) (rp : List Int) (r6 r7 : Int) (hc : rc.length ≤ 4194304) (hp : rp.length ≤ 4194304) : impl_IsReport.F r0 r1 rc r3 r4 rp r6 r7 = some (isReport r0 r1 rc r3 r4 rp r6 r7) := by
  rw [impl_IsReport.F_eq]
  simp only [inRange, impl_isAscending_is rc 0 7 hc, impl_isAscending_is rp 1 30 hp, impl_IsSpan_is, Option.bind_some, isReport]
  generalize (inR r6 0 100000 && inR r7 0 100000 && decide (r6 ≤ r7)) = s
  cases inR r0 1 999 <;> cases inR r1 1 8 <;> cases isAsc rc 0 7 <;> cases isAsc rp 1 30 <;> by_cases h1 : 1 ≤ r3 <;> by_cases h2 : r3 ≤ r4 <;> by_cases h3 : r4 ≤ 50 <;> by_cases h4 : (rp.length : Int) ≤ 10 <;> simp [h1, h2, h3, h4]

theorem impl_IsRoute_l0 (l : List S130) (hn : l.length ≤ 1048576) : ∀ (d i : Nat), i + d = l.length → impl_IsRoute.L0 l l (l.length : Int) (i : Int) = some (allF (okStop l) l.length i)
  | 0, i, h => by rw [impl_IsRoute.L0_eq, if_neg (by omega), allF_end (by omega)]; first | done | rfl | simp [inRange, inR]
  | d + 1, i, h => by
    have hi : i < l.length := by omega
    have ih := impl_IsRoute_l0 l hn d (i + 1) (by omega)
    rw [impl_IsRoute.L0_eq]
    simp only [wrap_succ i (by omega), wrap_pred i (by omega), ih, inRange, Option.bind_some]
    by_cases hp_ : okStop l i
    · rw [allF_yes hp_]
      simp only [okStop] at hp_
      obtain ⟨h1_, h2_, h3_, h4_, h5_⟩ := hp_
      repeat' split
      all_goals first
        | rfl
        | (exfalso; first | contradiction | omega)
    · rw [allF_no hi hp_]
      repeat' split
      all_goals first
        | rfl
        | (simp; done)
        | (exfalso; first | contradiction | omega)
        | (exfalso; apply hp_; simp only [okStop]; (repeat' constructor) <;> first | assumption | (intro _; omega) | omega)

theorem impl_IsRoute_is (l : List S130) (hn : l.length ≤ 1048576) : impl_IsRoute.F l = some (isRoute l) := by
  rw [impl_IsRoute.F_eq, isRoute, inRange, Option.bind_some]
  by_cases h : inR (l.length : Int) 1 10 = true
  · rw [if_pos h, h, Bool.and_true]
    exact impl_IsRoute_l0 l hn l.length 0 (by omega)
  · rw [if_neg h, Bool.eq_false_iff.2 h, Bool.and_false]

theorem impl_Meet_is (a0 a1 b0 b1 : Int) : ∃ u v, impl_Meet.f a0 a1 b0 b1 = some (u, v, meetB a0 a1 b0 b1) := by
  have hs : ∀ a b, impl_IsSpan.f a b = some (spanB a b) := fun a b => by
    unfold impl_IsSpan.f spanB
    simp only [inRange, Option.bind_some]
    cases inR a 0 100000 <;> cases inR b 0 100000 <;> simp
  have h1 : ∀ a b : Int, mx a b = maxI a b := fun a b => by unfold mx maxI; first | rfl | (split <;> rfl)
  have h2 : ∀ a b : Int, mn a b = minI a b := fun a b => by unfold mn minI; first | rfl | (split <;> rfl)
  unfold impl_Meet.f meetB
  rw [h1, h2, hs, Option.bind_some, hs, Option.bind_some, hs, Option.bind_some]
  cases spanB a0 a1 <;> cases spanB b0 b1 <;> cases spanB (maxI a0 b0) (minI a1 b1) <;> exact ⟨_, _, rfl⟩
theorem impl_Span_is (a b : Int) : impl_IsSpan.f a b = some (spanB a b) := by
  unfold impl_IsSpan.f spanB
  simp only [inRange, Option.bind_some]
  cases inR a 0 100000 <;> cases inR b 0 100000 <;> simp

theorem impl_LeftBetween_l0 (l : List S130) (s0 s1 : Int) (hn : l.length ≤ 1000) : ∀ (d i : Nat) (acc : List Int), i + d = l.length → acc.length ≤ i + 1 → impl_LeftBetween.L0 acc l (l.length : Int) (i : Int) s0 s1 = some (Go.Lib.compact (Srt.sorted (leftI s0 s1 (l.drop i) acc)))
  | 0, i, acc, h, ha => by
    rw [impl_LeftBetween.L0_eq, if_neg (by omega), slices_Sort_int_int.f, if_pos (by omega), Option.bind_some, slices_Compact_int_int.f, Option.bind_some, List.drop_of_length_le (by omega)]
    rfl
  | d + 1, i, acc, h, ha => by
    obtain ⟨u, v, em⟩ := impl_Meet_is (rd_T130 l (i : Int)).f1 (rd_T130 l (i : Int)).f2 s0 s1
    rw [meetB_comm] at em
    rw [impl_LeftBetween.L0_eq, if_pos (by omega), if_pos (by omega), if_pos (by omega), em, Option.bind_some, dropStop l i (by omega), leftI]
    dsimp only
    rw [wrap_succ i (by omega)]
    by_cases hc : meetB s0 s1 (rd_T130 l (i : Int)).f1 (rd_T130 l (i : Int)).f2 = true
    · rw [if_pos hc, if_pos hc, if_pos (by omega)]
      exact impl_LeftBetween_l0 l s0 s1 hn d (i + 1) _ (by omega) (by rw [List.length_append, List.length_singleton]; omega)
    · rw [if_neg hc, if_neg hc]
      exact impl_LeftBetween_l0 l s0 s1 hn d (i + 1) _ (by omega) (by omega)
theorem impl_LeftBetween_is (l : List S130) (s0 s1 : Int) (hn : l.length ≤ 1048576) : impl_LeftBetween.F l s0 s1 = some (leftBetween l s0 s1) := by
  rw [impl_LeftBetween.F_eq, impl_IsRoute_is l hn, Option.bind_some, leftBetween]
  by_cases h1 : isRoute l = true
  · have hl := route_len h1
    rw [if_pos h1, impl_Span_is, Option.bind_some, impl_LeftBetween.J0_eq]
    by_cases h2 : spanB s0 s1 = true
    · have e : ((l.length : Int) - 1) = ((l.length - 1 : Nat) : Int) := by omega
      rw [h2, if_neg (by decide), wrap_in _ (by omega), if_pos (by omega), if_pos (by omega), if_pos ⟨h1, rfl⟩]
      refine Eq.trans (impl_LeftBetween_l0 l s0 s1 (by omega) l.length 0 _ (by omega) (by simp)) ?_
      rw [List.drop_zero]
      congr 1
      refine united_is (leftS_asc s0 s1 l [] List.Pairwise.nil) (fun z => ?_)
      rw [leftI_mem, leftS_mem, List.mem_singleton, e, rdStop_at]
      constructor
      · rintro (h | h)
        · exact .inr (.inr ⟨by omega, h.symm⟩)
        · exact .inr (.inl h)
      · rintro (h | h | h)
        · cases h
        · exact .inr h
        · exact .inl h.2.symm
    · rw [Bool.eq_false_iff.2 h2, if_pos (by decide), if_neg (fun hh => by cases hh.2)]
  · rw [if_neg h1, if_neg (fun hh => h1 hh.1), impl_LeftBetween.J0_eq, if_pos rfl]

theorem impl_cloneReport_is (r0 r1 : Int) (rc : List Int) (r3 r4 : Int) (rp : List Int) (r6 r7 : Int) (hc : rc.length ≤ 4194304) (hp : rp.length ≤ 4194304) : impl_cloneReport.f r0 r1 rc r3 r4 rp r6 r7 = some (r0, r1, rc, r3, r4, rp, r6, r7) := by
  unfold impl_cloneReport.f
  rw [cloneIntK rc hc, Option.bind_some, cloneIntK rp hp, Option.bind_some]
theorem impl_AlongRoute_is (r0 r1 : Int) (rc : List Int) (r3 r4 : Int) (rp : List Int) (r6 r7 : Int) (l : List S130) (hc : rc.length ≤ 4194304) (hp : rp.length ≤ 4194304) (hn : l.length ≤ 1048576) : impl_AlongRoute.F r0 r1 rc r3 r4 rp r6 r7 l = some (r0, r1, rc, r3, r4, (alongP (isReport r0 r1 rc r3 r4 rp r6 r7) rp (leftBetween l r6 r7)).1, r6, r7, (alongP (isReport r0 r1 rc r3 r4 rp r6 r7) rp (leftBetween l r6 r7)).2) := by
  have hl := leftBetween_len l r6 r7
  have ha := leftBetween_asc l r6 r7
  rw [impl_AlongRoute.F_eq, impl_cloneReport_is r0 r1 rc r3 r4 rp r6 r7 hc hp, Option.bind_some]
  dsimp only
  rw [impl_IsReport_is r0 r1 rc r3 r4 rp r6 r7 hc hp, Option.bind_some]
  by_cases hr : isReport r0 r1 rc r3 r4 rp r6 r7 = true
  · obtain ⟨hs, hasc⟩ := report_span r0 r1 rc r3 r4 rp r6 r7 hr
    rw [if_pos hr, impl_IsRoute_is l hn, Option.bind_some, impl_AlongRoute.J0_eq]
    unfold alongP
    by_cases h : isRoute l = true
    · have hne := leftBetween_some l r6 r7 h hs
      rw [h, if_neg (by decide), impl_LeftBetween_is l r6 r7 hn, Option.bind_some, impl_both_is _ rp (by omega) hp, Option.bind_some, bothL_comm _ _ ha hasc hne]
      by_cases h2 : (bothL rp (leftBetween l r6 r7)).2 = true
      · rw [if_pos h2, if_pos ⟨hr, hne, h2⟩]
      · rw [if_neg h2, if_neg (fun hh => h2 hh.2.2)]
    · rw [if_pos (by rw [Bool.eq_false_iff.2 h]; rfl), if_neg (fun hh => hh.2.1 (by rw [leftBetween_none l r6 r7 h]; rfl))]
  · rw [if_neg hr, impl_AlongRoute.J0_eq, if_pos rfl]
    unfold alongP
    rw [if_neg (fun hh => hr hh.1)]

theorem markReport_is (r0 r1 : Int) (rc : List Int) (r3 r4 : Int) (rp : List Int) (r6 r7 : Int) (hc : rc.length ≤ 1048576) (hp : rp.length ≤ 1048576) : laws_markReport.F r0 r1 rc r3 r4 rp r6 r7 1 = some (1 + (rc.length : Int) + (rp.length : Int), lineInt 1 rc.length, lineInt (1 + (rc.length : Int)) rp.length) := by
  rw [laws_markReport.F_eq, markIntS rc 1 (by omega) (by omega), Option.bind_some]
  dsimp only
  rw [markIntS rp _ (by omega) (by omega), Option.bind_some]
theorem heldReport_is (r0 r1 : Int) (rc : List Int) (r3 r4 : Int) (rp : List Int) (r6 r7 : Int) (n m : Nat) (hc : n ≤ 1048576) (hp : m ≤ 1048576) : laws_heldReport.F r0 r1 (lineInt 1 n) r3 r4 (lineInt (1 + (n : Int)) m) r6 r7 1 = some (1 + (n : Int) + (m : Int)) := by
  rw [laws_heldReport.F_eq, heldIntS 1 n (by omega) (by omega), Option.bind_some, if_neg (by omega), heldIntS _ m (by omega) (by omega), Option.bind_some, if_neg (by omega)]
theorem law_FnExactAlongRoute (x0 : S106) (hw0 : ok106 x0) (l1 : List S154) (hm1 : l1.length ≤ maxLen) (hw1 : ∀ y ∈ l1, ok154 y) : laws_FnExactAlongRoute.F x0.f0 x0.f1 x0.f2 x0.f3 x0.f4 x0.f5 x0.f6.f0 x0.f6.f1 l1 = some true := by
  obtain ⟨_, _, ⟨m0, _⟩, _, _, ⟨m2, _⟩, _⟩ := hw0
  rw [laws_FnExactAlongRoute.F_eq]
  rcases szReport_is x0.f0 x0.f1 x0.f2 x0.f3 x0.f4 x0.f5 x0.f6.f0 x0.f6.f1 1048576 (by omega) m0 m2 with h | ⟨h, hl⟩
  · rw [h]; rfl
  · rw [h, Option.bind_some, if_neg (by omega), szStopS l1 _ (by omega) hm1, Option.bind_some]
    by_cases h3 : 1048576 - (x0.f2.length : Int) - (x0.f5.length : Int) < (l1.length : Int)
    · rw [if_pos h3]; rfl
    · have n0 : x0.f2.length ≤ 1048576 := by omega
      have n2 : x0.f5.length ≤ 1048576 := by omega
      have n0' : x0.f2.length ≤ 4194304 := by omega
      have n2' : x0.f5.length ≤ 4194304 := by omega
      have hn : l1.length ≤ 1048576 := by omega
      have hn' : (l1.map cvStop).length ≤ 1048576 := by rw [List.length_map]; exact hn
      have hr := leftBetween_len (l1.map cvStop) x0.f6.f0 x0.f6.f1
      have ha := alongP_len (isReport x0.f0 x0.f1 x0.f2 x0.f3 x0.f4 x0.f5 x0.f6.f0 x0.f6.f1) x0.f5 (leftBetween (l1.map cvStop) x0.f6.f0 x0.f6.f1) 1048576 n2 (by omega)
      have hS := spec_AlongRoute_is x0.f0 x0.f1 x0.f2 x0.f3 x0.f4 x0.f5 x0.f6.f0 x0.f6.f1 (l1.map cvStop) n0' n2' hn'
      have hI := impl_AlongRoute_is x0.f0 x0.f1 x0.f2 x0.f3 x0.f4 x0.f5 x0.f6.f0 x0.f6.f1 (l1.map cvStop) n0' n2' hn'
      generalize alongP (isReport x0.f0 x0.f1 x0.f2 x0.f3 x0.f4 x0.f5 x0.f6.f0 x0.f6.f1) x0.f5 (leftBetween (l1.map cvStop) x0.f6.f0 x0.f6.f1) = A at ha hS hI
      obtain ⟨P, ok⟩ := A
      have ha' : P.length ≤ 4194304 := by simp only [] at ha; omega
      have hE := eqReport_is x0.f0 x0.f1 x0.f2 x0.f3 x0.f4 P x0.f6.f0 x0.f6.f1 n0' ha'
      have hJ2 : laws_FnExactAlongRoute.J2 (1 + (x0.f2.length : Int) + (P.length : Int)) false x0.f0 x0.f1 (lineInt 1 x0.f2.length) x0.f3 x0.f4 (lineInt (1 + (x0.f2.length : Int)) P.length) x0.f6.f0 x0.f6.f1 = some true := by
        rw [laws_FnExactAlongRoute.J2_eq, if_neg (by decide), heldReport_is x0.f0 x0.f1 [] x0.f3 x0.f4 [] x0.f6.f0 x0.f6.f1 _ _ n0 ha, Option.bind_some, if_neg (by omega), if_pos rfl]
      have hJ1 : laws_FnExactAlongRoute.J1 l1 ok false x0.f0 x0.f1 x0.f2 x0.f3 x0.f4 x0.f5 x0.f6.f0 x0.f6.f1 x0.f0 x0.f1 x0.f2 x0.f3 x0.f4 P x0.f6.f0 x0.f6.f1 x0.f0 x0.f1 x0.f2 x0.f3 x0.f4 P x0.f6.f0 x0.f6.f1 = some true := by
        rw [laws_FnExactAlongRoute.J1_eq, if_neg (by decide), markReport_is x0.f0 x0.f1 x0.f2 x0.f3 x0.f4 P x0.f6.f0 x0.f6.f1 n0 ha, Option.bind_some]
        dsimp only
        rw [heldReport_is x0.f0 x0.f1 [] x0.f3 x0.f4 [] x0.f6.f0 x0.f6.f1 _ _ n0 ha, Option.bind_some, if_neg (by omega), if_pos rfl, toReport_is x0.f0 x0.f1 x0.f2 x0.f3 x0.f4 x0.f5 x0.f6.f0 x0.f6.f1 n0 n2, Option.bind_some, toStopS l1 hn, Option.bind_some]
        dsimp only
        rw [hI, Option.bind_some]
        dsimp only
        rw [hE, Option.bind_some, if_pos rfl, bne_self_eq_false]
        exact hJ2
      rw [if_neg h3, if_neg (by omega), toReport_is x0.f0 x0.f1 x0.f2 x0.f3 x0.f4 x0.f5 x0.f6.f0 x0.f6.f1 n0 n2, Option.bind_some, toStopS l1 hn, Option.bind_some]
      dsimp only
      rw [hS, Option.bind_some, Option.bind_some, Option.bind_some]
      dsimp only
      rw [hI, Option.bind_some]
      dsimp only
      rw [hE, Option.bind_some, if_pos rfl, bne_self_eq_false, laws_FnExactAlongRoute.J0_eq, if_neg (by decide), toReport_is x0.f0 x0.f1 x0.f2 x0.f3 x0.f4 x0.f5 x0.f6.f0 x0.f6.f1 n0 n2, Option.bind_some]
      dsimp only
      rw [eqReport_is x0.f0 x0.f1 x0.f2 x0.f3 x0.f4 x0.f5 x0.f6.f0 x0.f6.f1 n0' n2', Option.bind_some, if_pos rfl, toStopS l1 hn, Option.bind_some, eqStopS _ hn', Option.bind_some, if_pos rfl, markReport_is x0.f0 x0.f1 x0.f2 x0.f3 x0.f4 x0.f5 x0.f6.f0 x0.f6.f1 n0 n2, Option.bind_some]
      dsimp only
      rw [markStopS _ _ (by omega) hn', Option.bind_some, if_neg (by simp only []; omega), hE, Option.bind_some, if_pos rfl, bne_self_eq_false]
      exact hJ1

theorem FnExactAlongRoute (x0 : S106) (hw0 : ok106 x0) (l1 : List S154) (hm1 : l1.length ≤ maxLen) (hw1 : ∀ y ∈ l1, ok154 y) : ∃ k, laws_FnExactAlongRoute.f k x0.f0 x0.f1 x0.f2 x0.f3 x0.f4 x0.f5 x0.f6.f0 x0.f6.f1 l1 = some true :=
  (laws_FnExactAlongRoute.F_co x0.f0 x0.f1 x0.f2 x0.f3 x0.f4 x0.f5 x0.f6.f0 x0.f6.f1 l1).rounds (law_FnExactAlongRoute x0 hw0 l1 hm1 hw1)
end Go.Proofs.Ytkfalbaklodnjaa.PFnExactAlongRoute.Pure
