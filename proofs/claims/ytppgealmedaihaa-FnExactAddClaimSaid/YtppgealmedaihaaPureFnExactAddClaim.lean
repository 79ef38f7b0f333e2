/-
  The program's AddClaim answers as the reference's does, for all arguments. It has no conditions.
-/
import Derived.Test.YtppgealmedaihaaShFnExactAddClaim
import Derived.Test.YtppgealmedaihaaEqFnExactAddClaim
import Derived.Test.YtppgealmedaihaaBase
set_option linter.unusedVariables false
set_option linter.unusedSimpArgs false
namespace Go.Proofs.Ytppgealmedaihaa.PFnExactAddClaim.Pure
open Go.RowKit Go.Proofs.YtppgealmedaihaaW.PrintWords Go.Proofs.YtppgealmedaihaaW.PrintLast Go.Proofs.YtppgealmedaihaaW.PrintMore Go.Proofs.Ytppgealmedaihaa.PFnExactAddClaim Go.Proofs.Ytppgealmedaihaa.Lim Go.Proofs.Ytppgealmedaihaa.Base
set_option maxRecDepth 100000

theorem szClaimS (l : List S78) (a : Int) (ha : 0 ≤ a ∧ a ≤ 1048576) (hl : l.length ≤ maxLen) : laws_szClaimS.f l a = some (if a < (l.length : Int) then -1 else a - (l.length : Int)) := by
  simp only [maxLen] at hl
  unfold laws_szClaimS.f
  rw [wrap_in _ (by omega)]
  by_cases h : a < (l.length : Int)
  · rw [if_pos (by omega), if_pos h]
  · rw [if_neg (by omega), if_neg h]

def cvClaim (y : S78) : S84 := ⟨y.f0, y.f1, y.f2, y.f3, y.f4⟩
theorem toClaimS_l0 (l : List S78) (hn : l.length ≤ 1048576) : ∀ (d i : Nat) (acc : List S84), i + d = l.length → acc.length = l.length → acc.take i = (l.take i).map cvClaim → laws_toClaimS.L0 l acc (i : Int) = some (l.map cvClaim)
  | 0, i, acc, h, ha, ht => by
    rw [laws_toClaimS.L0_eq, if_neg (by omega)]
    rw [List.take_of_length_le (by omega), List.take_of_length_le (by omega)] at ht
    rw [ht]
  | d + 1, i, acc, h, ha, ht => by
    have hi : i < l.length := by omega
    rw [laws_toClaimS.L0_eq, if_pos (by omega), if_pos (by omega)]
    simp only [laws_toClaim.f, Option.bind_some, wrap_succ i (by omega)]
    rw [if_pos (by omega)]
    refine toClaimS_l0 l hn d (i + 1) _ (by omega) (by rw [List.length_set]; exact ha) ?_
    rw [Int.toNat_natCast]
    exact fill_step l cvClaim acc i ha hi ht _ (by simp [rd_T78, cvClaim, hi])
theorem toClaimS (l : List S78) (hn : l.length ≤ 1048576) : laws_toClaimS.F l = some (l.map cvClaim) := by
  rw [laws_toClaimS.F_eq, if_pos (by omega), if_pos (by omega)]
  exact toClaimS_l0 l hn l.length 0 _ (by omega) (by simp) (by simp)

theorem eqClaimS_l0 (l : List S84) (hn : l.length ≤ 1048576) : ∀ (d i : Nat), i + d = l.length → laws_eqClaimS.L0 l l (i : Int) = some true
  | 0, i, h => by rw [laws_eqClaimS.L0_eq, if_neg (by omega)]
  | d + 1, i, h => by
    rw [laws_eqClaimS.L0_eq, if_pos (by omega), if_pos (by omega), if_pos (by omega)]
    simp only [laws_eqClaim.f, if_true, Option.bind_some, wrap_succ i (by omega)]
    exact eqClaimS_l0 l hn d (i + 1) (by omega)
theorem eqClaimS (l : List S84) (hn : l.length ≤ 1048576) : laws_eqClaimS.F l l = some true := by
  rw [laws_eqClaimS.F_eq, if_pos rfl]
  exact eqClaimS_l0 l hn l.length 0 (by omega)

theorem rdClaim_at (l : List S84) (i : Nat) : rd_T84 l (i : Int) = l.getD i z84 := by simp [rd_T84]
theorem dropClaim (l : List S84) (i : Nat) (h : i < l.length) : l.drop i = rd_T84 l (i : Int) :: l.drop (i + 1) := by
  rw [rdClaim_at, getD_get l i _ h]
  exact List.drop_eq_getElem_cons h

def lineClaim (k : Int) (n : Nat) : List S84 := (List.range n).map (fun j : Nat => (⟨k + 5 * (j : Int), k + 5 * (j : Int) + 1, k + 5 * (j : Int) + 2, k + 5 * (j : Int) + 3, k + 5 * (j : Int) + 4⟩ : S84))
theorem lineClaim_len (k : Int) (n : Nat) : (lineClaim k n).length = n := by simp [lineClaim]
theorem rdsetClaim (l : List S84) (i : Nat) (v : S84) (h : i < l.length) : rd_T84 (l.set i v) (i : Int) = v := by simp [rd_T84, h]
theorem markClaimS_l0 (k : Int) (n : Nat) (hk : 0 ≤ k ∧ k ≤ 67108864) (hn : n ≤ 1048576) : ∀ (d i : Nat) (acc : List S84), i + d = n → acc.length = n → acc.take i = ((List.range n).take i).map (fun j : Nat => (⟨k + 5 * (j : Int), k + 5 * (j : Int) + 1, k + 5 * (j : Int) + 2, k + 5 * (j : Int) + 3, k + 5 * (j : Int) + 4⟩ : S84)) → laws_markClaimS.L0 acc (k + 5 * (i : Int)) (i : Int) = some (k + 5 * (n : Int), lineClaim k n)
  | 0, i, acc, h, ha, ht => by
    rw [laws_markClaimS.L0_eq, if_neg (by omega)]
    rw [List.take_of_length_le (by omega), List.take_of_length_le (by simp; omega)] at ht
    rw [ht, show i = n by omega]; rfl
  | d + 1, i, acc, h, ha, ht => by
    have hi : i < acc.length := by omega
    rw [laws_markClaimS.L0_eq, if_pos (by omega), if_pos (by omega)]
    simp only [Option.bind_some, Int.toNat_natCast, rdsetClaim, List.length_set, hi, List.set_set, wrap_succ i (by omega)]
    simp only [wrap_in (k + 5 * (i : Int) + 1) (by omega), wrap_in (k + 5 * (i : Int) + 1 + 1) (by omega), wrap_in (k + 5 * (i : Int) + 1 + 1 + 1) (by omega), wrap_in (k + 5 * (i : Int) + 1 + 1 + 1 + 1) (by omega), wrap_in (k + 5 * (i : Int) + 1 + 1 + 1 + 1 + 1) (by omega)]
    rw [show k + 5 * (i : Int) + 1 + 1 + 1 + 1 + 1 = k + 5 * ((i + 1 : Nat) : Int) by omega]
    refine markClaimS_l0 k n hk hn d (i + 1) _ (by omega) (by rw [List.length_set]; exact ha) ?_
    exact fill_step (List.range n) (fun j : Nat => (⟨k + 5 * (j : Int), k + 5 * (j : Int) + 1, k + 5 * (j : Int) + 2, k + 5 * (j : Int) + 3, k + 5 * (j : Int) + 4⟩ : S84)) acc i (by simp [ha]) (by simp; omega) ht _ (by simp <;> omega)
theorem markClaimS (l : List S84) (k : Int) (hk : 0 ≤ k ∧ k ≤ 67108864) (hn : l.length ≤ 1048576) : laws_markClaimS.F l k = some (k + 5 * (l.length : Int), lineClaim k l.length) := by
  rw [laws_markClaimS.F_eq]
  have := markClaimS_l0 k l.length hk hn l.length 0 l (by omega) rfl (by simp)
  simpa using this

theorem heldClaimS_l0 (k : Int) (n : Nat) (hk : 0 ≤ k ∧ k ≤ 67108864) (hn : n ≤ 1048576) : ∀ (d i : Nat), i + d = n → laws_heldClaimS.L0 (lineClaim k n) (k + 5 * (i : Int)) (i : Int) = some (k + 5 * (n : Int))
  | 0, i, h => by rw [laws_heldClaimS.L0_eq, lineClaim_len, if_neg (by omega), show i = n by omega]
  | d + 1, i, h => by
    have hr : rd_T84 (lineClaim k n) (i : Int) = (⟨k + 5 * (i : Int), k + 5 * (i : Int) + 1, k + 5 * (i : Int) + 2, k + 5 * (i : Int) + 3, k + 5 * (i : Int) + 4⟩ : S84) := by simp [rd_T84, lineClaim, show i < n by omega]
    rw [laws_heldClaimS.L0_eq, lineClaim_len, if_pos (by omega), if_pos (by omega), hr]
    simp only [wrap_succ i (by omega), wrap_in (k + 5 * (i : Int) + 1) (by omega), wrap_in (k + 5 * (i : Int) + 1 + 1) (by omega), wrap_in (k + 5 * (i : Int) + 1 + 1 + 1) (by omega), wrap_in (k + 5 * (i : Int) + 1 + 1 + 1 + 1) (by omega), wrap_in (k + 5 * (i : Int) + 1 + 1 + 1 + 1 + 1) (by omega)]
    repeat rw [if_pos (by first | trivial | omega)]
    rw [show k + 5 * (i : Int) + 1 + 1 + 1 + 1 + 1 = k + 5 * ((i + 1 : Nat) : Int) by omega]
    exact heldClaimS_l0 k n hk hn d (i + 1) (by omega)
theorem heldClaimS (k : Int) (n : Nat) (hk : 0 ≤ k ∧ k ≤ 67108864) (hn : n ≤ 1048576) : laws_heldClaimS.F (lineClaim k n) k = some (k + 5 * (n : Int)) := by
  rw [laws_heldClaimS.F_eq]
  have := heldClaimS_l0 k n hk hn n 0 (by omega)
  simpa using this

noncomputable def onceB (l : List S84) (i : Nat) : Bool := decide ((rd_T84 l i).f4 ≠ 3) || allF (fun q : Nat => ¬ ((rd_T84 l q).f4 = 3 ∧ (rd_T84 l q).f2 = (rd_T84 l i).f2)) i 0
def okClaim (l : List S84) (i : Nat) : Prop := inR (rd_T84 l i).f0 1 999 = true ∧ ((i : Int) > 0 → (rd_T84 l ((i : Int) - 1)).f0 < (rd_T84 l i).f0) ∧ inR (rd_T84 l i).f1 1 999 = true ∧ inR (rd_T84 l i).f2 1 999 = true ∧ inR (rd_T84 l i).f3 0 100000 = true ∧ inR (rd_T84 l i).f4 0 3 = true ∧ onceB l i = true
noncomputable def areClaims (l : List S84) : Bool := allF (okClaim l) l.length 0 && decide ((l.length : Int) ≤ 20)
theorem rdClaim_take (l : List S84) (i q : Nat) (h : q < i) : rd_T84 (l.take i) (q : Int) = rd_T84 l (q : Int) := by
  rw [rdClaim_at, rdClaim_at, List.getD_eq_getElem?_getD, List.getD_eq_getElem?_getD, List.getElem?_take, if_pos h]

theorem idxFClaim_spec (p : S84 → Bool) : ∀ (l : List S84) (i : Int), (idxF84 p l i = -1 ∧ ∀ x ∈ l, ¬ p x = true) ∨ ∃ j : Nat, j < l.length ∧ idxF84 p l i = i + (j : Int) ∧ p (l.getD j z84) = true ∧ ∀ m : Nat, m < j → ¬ p (l.getD m z84) = true
  | [], i => .inl ⟨rfl, by simp⟩
  | x :: r, i => by
    simp only [idxF84]
    by_cases h : p x = true
    · rw [if_pos h]
      exact .inr ⟨0, by simp, by simp, by simpa using h, fun m hm => absurd hm (by omega)⟩
    · rw [if_neg h]
      rcases idxFClaim_spec p r (i + 1) with ⟨h1, h2⟩ | ⟨j, h1, h2, h3, h4⟩
      · exact .inl ⟨h1, fun y hy => by
          rcases List.mem_cons.1 hy with e | e
          · rw [e]; exact h
          · exact h2 y e⟩
      · refine .inr ⟨j + 1, by simp; omega, by rw [h2]; omega, by simpa using h3, fun m hm => ?_⟩
        cases m with
        | zero => simpa using h
        | succ m => simpa using h4 m (by omega)
theorem idxFClaim_at (p : S84 → Bool) (l : List S84) : (idxF84 p l 0 = -1 ∧ ∀ x ∈ l, ¬ p x = true) ∨ ∃ j : Nat, j < l.length ∧ idxF84 p l 0 = (j : Int) ∧ p (rd_T84 l (j : Int)) = true ∧ ∀ m : Nat, m < j → ¬ p (rd_T84 l (m : Int)) = true := by
  rcases idxFClaim_spec p l 0 with h | ⟨j, h1, h2, h3, h4⟩
  · exact .inl h
  · refine .inr ⟨j, h1, by rw [h2]; omega, by rw [rdClaim_at]; exact h3, fun m hm => by rw [rdClaim_at]; exact h4 m hm⟩

def insC (l : List S84) (k : Nat) (x : S84) : List S84 := l.take k ++ [x] ++ l.drop k
theorem insC_len (l : List S84) (k : Nat) (x : S84) (hk : k ≤ l.length) : (insC l k x).length = l.length + 1 := by
  unfold insC
  rw [List.length_append, List.length_append, List.length_take, List.length_drop, List.length_singleton]
  omega
theorem insC_rd (l : List S84) (k : Nat) (x : S84) (hk : k ≤ l.length) (i : Nat) : rd_T84 (insC l k x) (i : Int) = if i < k then rd_T84 l (i : Int) else if i = k then x else rd_T84 l ((i - 1 : Nat) : Int) := by
  simp only [rdClaim_at, List.getD_eq_getElem?_getD, insC]
  have ht : (l.take k).length = k := by rw [List.length_take]; omega
  by_cases h1 : i < k
  · rw [if_pos h1, List.append_assoc, List.getElem?_append_left (by omega), List.getElem?_take, if_pos h1]
  · rw [if_neg h1, List.append_assoc, List.getElem?_append_right (by omega), ht]
    by_cases h2 : i = k
    · rw [if_pos h2, h2, Nat.sub_self]
      rfl
    · rw [if_neg h2, List.getElem?_append_right (by simp; omega), List.getElem?_drop]
      congr 2
      simp
      omega
theorem claims_less {l : List S84} (h : areClaims l = true) (i : Nat) : ∀ j : Nat, i < j → j < l.length → (rd_T84 l (i : Int)).f0 < (rd_T84 l (j : Int)).f0
  | 0, h1, _ => absurd h1 (Nat.not_lt_zero _)
  | j + 1, h1, h2 => by
    have h0 := h
    unfold areClaims at h0
    rw [Bool.and_eq_true, allF_all] at h0
    have h3 := (h0.1 (j + 1) h2).2.1 (by omega)
    rw [show ((j + 1 : Nat) : Int) - 1 = (j : Int) by omega] at h3
    by_cases e : i = j
    · rw [e]; exact h3
    · have := claims_less h i j (by omega) (by omega)
      omega
theorem insC_order {l : List S84} {k : Nat} {x : S84} (hk : k ≤ l.length) (h : areClaims (insC l k x) = true) : ∀ i : Nat, i < l.length → (i < k → (rd_T84 l (i : Int)).f0 < x.f0) ∧ (k ≤ i → x.f0 < (rd_T84 l (i : Int)).f0) := by
  intro i hi
  have hlen := insC_len l k x hk
  refine ⟨fun h1 => ?_, fun h1 => ?_⟩
  · have := claims_less h i k h1 (by omega)
    rw [insC_rd l k x hk, insC_rd l k x hk, if_pos h1, if_neg (by omega), if_pos rfl] at this
    exact this
  · have := claims_less h k (i + 1) (by omega) (by omega)
    rw [insC_rd l k x hk, insC_rd l k x hk, if_neg (by omega), if_pos rfl, if_neg (by omega), if_neg (by omega), Nat.add_sub_cancel] at this
    exact this
def leadC (q : Int) : List S84 → Nat
  | [] => 0
  | m :: r => if m.f0 < q then leadC q r + 1 else 0
theorem leadC_le (q : Int) : ∀ l : List S84, leadC q l ≤ l.length
  | [] => Nat.le_refl _
  | m :: r => by
    have := leadC_le q r
    simp only [leadC, List.length_cons]
    split <;> omega
theorem leadC_step (q : Int) (l : List S84) (i : Nat) (hi : i < l.length) : i + leadC q (l.drop i) = if (rd_T84 l (i : Int)).f0 < q then i + 1 + leadC q (l.drop (i + 1)) else i := by
  rw [dropClaim l i hi, leadC]
  split <;> omega
theorem leadC_at (q : Int) (l : List S84) : ∀ (d i : Nat), i + d = l.length → (∀ j : Nat, i ≤ j → j < i + leadC q (l.drop i) → (rd_T84 l (j : Int)).f0 < q) ∧ (i + leadC q (l.drop i) < l.length → ¬ (rd_T84 l ((i + leadC q (l.drop i) : Nat) : Int)).f0 < q)
  | 0, i, h => by
    rw [List.drop_of_length_le (by omega), leadC]
    exact ⟨fun j h1 h2 => by omega, fun h1 => by omega⟩
  | d + 1, i, h => by
    have ih := leadC_at q l d (i + 1) (by omega)
    rw [leadC_step q l i (by omega)]
    by_cases hc : (rd_T84 l (i : Int)).f0 < q
    · rw [if_pos hc]
      refine ⟨fun j h1 h2 => ?_, ih.2⟩
      by_cases e : j = i
      · rw [e]; exact hc
      · exact ih.1 j (by omega) h2
    · rw [if_neg hc]
      exact ⟨fun j h1 h2 => by omega, fun _ => hc⟩
def lastC (q : Int) : List S84 → Nat → Nat → Nat
  | [], _, k => k
  | m :: r, i, k => lastC q r (i + 1) (if m.f0 < q then i + 1 else k)
theorem lastC_at (q : Int) (l : List S84) : ∀ (d i k : Nat), i + d = l.length → k ≤ i → (∀ j : Nat, k ≤ j → j < i → ¬ (rd_T84 l (j : Int)).f0 < q) → (0 < k → (rd_T84 l ((k - 1 : Nat) : Int)).f0 < q) →
    lastC q (l.drop i) i k ≤ l.length ∧ (∀ j : Nat, lastC q (l.drop i) i k ≤ j → j < l.length → ¬ (rd_T84 l (j : Int)).f0 < q) ∧ (0 < lastC q (l.drop i) i k → (rd_T84 l ((lastC q (l.drop i) i k - 1 : Nat) : Int)).f0 < q)
  | 0, i, k, h, hk, h1, h2 => by
    rw [List.drop_of_length_le (by omega), lastC]
    exact ⟨by omega, fun j h3 h4 => h1 j h3 (by omega), h2⟩
  | d + 1, i, k, h, hk, h1, h2 => by
    rw [dropClaim l i (by omega), lastC]
    by_cases hc : (rd_T84 l (i : Int)).f0 < q
    · rw [if_pos hc]
      exact lastC_at q l d (i + 1) (i + 1) (by omega) (by omega) (fun j h3 h4 => by omega) (fun _ => by rw [Nat.add_sub_cancel]; exact hc)
    · rw [if_neg hc]
      refine lastC_at q l d (i + 1) k (by omega) (by omega) (fun j h3 h4 => ?_) h2
      by_cases e : j = i
      · rw [e]; exact hc
      · exact h1 j h3 (by omega)
theorem mem_rdC {l : List S84} {y : S84} (hx : y ∈ l) : ∃ q : Nat, q < l.length ∧ rd_T84 l (q : Int) = y := by
  obtain ⟨q, hq, e⟩ := List.getElem_of_mem hx
  exact ⟨q, hq, by rw [rdClaim_at, getD_get l q _ hq, e]⟩
noncomputable def hasC (l : List S84) (x : S84) : Bool := l.any (fun y => y.f1 == x.f1 && y.f2 == x.f2)
noncomputable def addClaim (l : List S84) (x : S84) : List S84 × Bool :=
  if ¬ x.f4 = 0 ∨ hasC l x = true ∨ ¬ areClaims (insC l (leadC x.f0 l) x) = true then (l, false) else (insC l (leadC x.f0 l) x, true)
theorem addClaim_len (l : List S84) (x : S84) (hn : l.length ≤ 1048576) : (addClaim l x).1.length ≤ 1048576 := by
  unfold addClaim
  by_cases h : ¬ x.f4 = 0 ∨ hasC l x = true ∨ ¬ areClaims (insC l (leadC x.f0 l) x) = true
  · rw [if_pos h]; exact hn
  · rw [if_neg h]
    have h2 : areClaims (insC l (leadC x.f0 l) x) = true := Classical.byContradiction (fun hh => h (.inr (.inr hh)))
    unfold areClaims at h2
    rw [Bool.and_eq_true, decide_eq_true_iff] at h2
    have := h2.2
    show (insC l (leadC x.f0 l) x).length ≤ 1048576
    omega
theorem lead_unique {l : List S84} {k : Nat} {x : S84} (hk : k ≤ l.length) (h : areClaims (insC l k x) = true) : leadC x.f0 l = k := by
  have ho := insC_order hk h
  have hl := leadC_at x.f0 l l.length 0 (by omega)
  rw [List.drop_zero, Nat.zero_add] at hl
  have hle := leadC_le x.f0 l
  rcases Nat.lt_trichotomy (leadC x.f0 l) k with hlt | he | hgt
  · exact absurd ((ho _ (by omega)).1 hlt) (hl.2 (by omega))
  · exact he
  · have h1 := hl.1 k (Nat.zero_le _) hgt
    have h2 := (ho k (by omega)).2 (Nat.le_refl _)
    omega
theorem last_unique {l : List S84} {k : Nat} {x : S84} (hk : k ≤ l.length) (h : areClaims (insC l k x) = true) : lastC x.f0 l 0 0 = k := by
  have ho := insC_order hk h
  have hl := lastC_at x.f0 l l.length 0 0 (by omega) (by omega) (fun j h1 h2 => by omega) (fun h1 => by omega)
  rw [List.drop_zero] at hl
  rcases Nat.lt_trichotomy (lastC x.f0 l 0 0) k with hlt | he | hgt
  · exact absurd ((ho _ (by omega)).1 hlt) (hl.2.1 _ (Nat.le_refl _) (by omega))
  · exact he
  · have h1 := hl.2.2 (by omega)
    have h2 := (ho (lastC x.f0 l 0 0 - 1) (by omega)).2 (by omega)
    omega
theorem add_spec (l : List S84) (x : S84) : (if ¬ x.f4 = 0 ∨ hasC l x = true ∨ ¬ areClaims (insC l (lastC x.f0 l 0 0) x) = true then (l, false) else (insC l (lastC x.f0 l 0 0) x, true)) = addClaim l x := by
  have hls := lastC_at x.f0 l l.length 0 0 (by omega) (by omega) (fun j h1 h2 => by omega) (fun h1 => by omega)
  rw [List.drop_zero] at hls
  unfold addClaim
  by_cases h1 : areClaims (insC l (lastC x.f0 l 0 0) x) = true
  · rw [lead_unique hls.1 h1]
  · by_cases h2 : areClaims (insC l (leadC x.f0 l) x) = true
    · rw [last_unique (leadC_le x.f0 l) h2]
    · rw [if_pos (.inr (.inr h1)), if_pos (.inr (.inr h2))]
theorem has_idx (l : List S84) (x : S84) : decide (idxF84 (fun y => y.f1 == x.f1 && y.f2 == x.f2) l 0 ≥ 0) = hasC l x := by
  unfold hasC
  rcases idxFClaim_at (fun y => y.f1 == x.f1 && y.f2 == x.f2) l with ⟨h1, h2⟩ | ⟨j, h1, h2, h3, _⟩
  · rw [h1, decide_eq_false (by omega)]
    exact (List.any_eq_false.2 (fun y hy => h2 y hy)).symm
  · rw [h2, decide_eq_true (by omega)]
    refine (List.any_eq_true.2 ⟨rd_T84 l (j : Int), ?_, h3⟩).symm
    rw [rdClaim_at, getD_get l j _ h1]
    exact List.getElem_mem _

theorem l1In (a b c : Int) : spec_l1In.f a b c = some (inR a b c) := by
  unfold spec_l1In.f inR
  by_cases h : b ≤ a <;> simp [h]

theorem spec_AreClaimsW_l1 (l : List S84) (hn : l.length ≤ 4194304) (i : Nat) (hi : i < l.length) (y0 y1 y3 : Int) : ∀ (d m : Nat), m + d = i → spec_AreClaims.L1 l (i : Int) (m : Int) y0 y1 (rd_T84 l (i : Int)).f2 y3 (rd_T84 l (i : Int)).f4 = if (decide ((rd_T84 l i).f4 ≠ 3) || allF (fun q : Nat => ¬ ((rd_T84 l q).f4 = 3 ∧ (rd_T84 l q).f2 = (rd_T84 l i).f2)) i m) = true then spec_AreClaims.L0 l ((i + 1 : Nat) : Int) else some false
  | 0, m, h => by
    rw [spec_AreClaims.L1_eq, if_neg (by omega), allF_end (by omega), Bool.or_true, if_pos rfl, wrap_succ i (by omega)]
  | d + 1, m, h => by
    have hm : m < i := by omega
    have hy := fun hc => allF_yes (p := fun q : Nat => ¬ ((rd_T84 l q).f4 = 3 ∧ (rd_T84 l q).f2 = (rd_T84 l i).f2)) (n := i) (i := m) hc
    rw [spec_AreClaims.L1_eq, if_pos (by omega), wrap_succ m (by omega), spec_AreClaimsW_l1 l hn i hi y0 y1 y3 d (m + 1) (by omega)]
    by_cases c0 : (rd_T84 l (i : Int)).f4 = 3
    · rw [if_pos c0, decide_eq_false (fun hh => hh c0), Bool.false_or, Bool.false_or, if_pos (by omega), if_pos (by omega)]
      by_cases c1 : (rd_T84 l (m : Int)).f4 = 3
      · by_cases c2 : (rd_T84 l (m : Int)).f2 = (rd_T84 l (i : Int)).f2
        · rw [if_pos c1, if_pos c2, allF_no hm (fun hh => hh ⟨c1, c2⟩), if_neg (by decide)]
        · rw [if_pos c1, if_neg c2, hy (fun hh => c2 hh.2)]
      · rw [if_neg c1, hy (fun hh => c1 hh.1)]
    · rw [if_neg c0, decide_eq_true c0, Bool.true_or, Bool.true_or]
theorem spec_AreClaimsW_l0 (l : List S84) (hn : l.length ≤ 4194304) : ∀ (d i : Nat), i + d = l.length → spec_AreClaims.L0 l (i : Int) = some (allF (okClaim l) l.length i && decide ((l.length : Int) ≤ 20))
  | 0, i, h => by rw [spec_AreClaims.L0_eq, if_neg (by omega), allF_end (by omega)]; rfl
  | d + 1, i, h => by
    have hi : i < l.length := by omega
    have ih := spec_AreClaimsW_l0 l hn d (i + 1) (by omega)
    have h1 : ∀ y0 y1 y3, spec_AreClaims.L1 l (i : Int) 0 y0 y1 (rd_T84 l (i : Int)).f2 y3 (rd_T84 l (i : Int)).f4 = if onceB l i = true then spec_AreClaims.L0 l ((i + 1 : Nat) : Int) else some false := fun y0 y1 y3 => spec_AreClaimsW_l1 l hn i hi y0 y1 y3 i 0 (by omega)
    rw [spec_AreClaims.L0_eq]
    have e1 : (i : Int) < (l.length : Int) := by omega
    have e2 : (0 : Int) ≤ (i : Int) := by omega
    have t1 : (if (true : Bool) = true then some false else spec_AreClaims.L0 l ((i + 1 : Nat) : Int)) = some false := rfl
    simp only [wrap_pred i (by omega), l1In, Option.bind_some, spec_AreClaims.J1_eq, h1, if_pos e1, if_pos e2, if_true]
    by_cases c0 : (i : Int) > 0
    · have e4 : (0 : Int) ≤ (i : Int) - 1 := by omega
      have e5 : (i : Int) - 1 < (l.length : Int) := by omega
      simp only [if_pos c0, if_pos e4, if_pos e5, decide_eq_true_eq]
      by_cases c1 : inR (rd_T84 l (i : Int)).f0 1 999 = true
      · rw [if_pos c1]
        by_cases c2 : inR (rd_T84 l (i : Int)).f1 1 999 = true
        · rw [if_pos c2]
          by_cases c3 : inR (rd_T84 l (i : Int)).f2 1 999 = true
          · rw [if_pos c3]
            by_cases c4 : inR (rd_T84 l (i : Int)).f3 0 100000 = true
            · rw [if_pos c4]
              by_cases c5 : inR (rd_T84 l (i : Int)).f4 0 3 = true
              · rw [if_pos c5]
                by_cases c6 : (rd_T84 l ((i : Int) - 1)).f0 ≥ (rd_T84 l (i : Int)).f0
                · rw [if_pos c6, allF_no hi (fun h => absurd (h.2.1 c0) (by omega))]
                  first | done | rfl | simp
                · rw [if_neg c6]
                  by_cases c7 : onceB l i = true
                  · rw [if_pos c7]
                    have hp_ : okClaim l i := ⟨c1, fun _ => by omega, c2, c3, c4, c5, c7⟩
                    rw [ih, allF_yes hp_]
                  · rw [if_neg c7, allF_no hi (fun h => c7 h.2.2.2.2.2.2)]
                    first | done | rfl | simp
              · rw [if_neg c5, allF_no hi (fun h => c5 h.2.2.2.2.2.1)]
                first | done | rfl | simp
            · rw [if_neg c4, allF_no hi (fun h => c4 h.2.2.2.2.1)]
              first | done | rfl | simp
          · rw [if_neg c3, allF_no hi (fun h => c3 h.2.2.2.1)]
            first | done | rfl | simp
        · rw [if_neg c2, allF_no hi (fun h => c2 h.2.2.1)]
          first | done | rfl | simp
      · rw [if_neg c1, allF_no hi (fun h => c1 h.1)]
        first | done | rfl | simp
    · simp only [if_neg c0, Bool.false_eq_true, if_false]
      by_cases c1 : inR (rd_T84 l (i : Int)).f0 1 999 = true
      · rw [if_pos c1]
        by_cases c2 : inR (rd_T84 l (i : Int)).f1 1 999 = true
        · rw [if_pos c2]
          by_cases c3 : inR (rd_T84 l (i : Int)).f2 1 999 = true
          · rw [if_pos c3]
            by_cases c4 : inR (rd_T84 l (i : Int)).f3 0 100000 = true
            · rw [if_pos c4]
              by_cases c5 : inR (rd_T84 l (i : Int)).f4 0 3 = true
              · rw [if_pos c5]
                by_cases c6 : onceB l i = true
                · rw [if_pos c6]
                  have hp_ : okClaim l i := ⟨c1, fun hh => absurd hh c0, c2, c3, c4, c5, c6⟩
                  rw [ih, allF_yes hp_]
                · rw [if_neg c6, allF_no hi (fun h => c6 h.2.2.2.2.2.2)]
                  first | done | rfl | simp
              · rw [if_neg c5, allF_no hi (fun h => c5 h.2.2.2.2.2.1)]
                first | done | rfl | simp
            · rw [if_neg c4, allF_no hi (fun h => c4 h.2.2.2.2.1)]
              first | done | rfl | simp
          · rw [if_neg c3, allF_no hi (fun h => c3 h.2.2.2.1)]
            first | done | rfl | simp
        · rw [if_neg c2, allF_no hi (fun h => c2 h.2.2.1)]
          first | done | rfl | simp
      · rw [if_neg c1, allF_no hi (fun h => c1 h.1)]
        first | done | rfl | simp
theorem spec_AreClaimsW_is (l : List S84) (hn : l.length ≤ 4194304) : spec_AreClaims.F l = some (areClaims l) := by
  rw [spec_AreClaims.F_eq, areClaims]
  exact spec_AreClaimsW_l0 l hn l.length 0 (by omega)

theorem spec_AddClaim_end (l : List S84) (k : Nat) (bad : Bool) (i : Int) (a b c d e : Int) (hi : ¬ i < (l.length : Int)) (hk : k ≤ l.length) (hl : l.length ≤ 2000000) : spec_AddClaim.L0 l (k : Int) bad i a b c d e = some (if bad = true ∨ ¬ areClaims (insC l k ⟨a, b, c, d, e⟩) = true then (l, false) else (insC l k ⟨a, b, c, d, e⟩, true)) := by
  have hlen := insC_len l k ⟨a, b, c, d, e⟩ hk
  rw [spec_AddClaim.L0_eq, if_neg hi, Option.bind_some, if_pos (by omega), if_pos (by omega), Int.toNat_natCast, Option.bind_some, if_pos (by simp; omega), Option.bind_some, Option.bind_some, List.nil_append, if_pos (by simp; omega), Option.bind_some, Option.bind_some, if_pos (by simp; omega), Option.bind_some]
  have e1 : l.take k ++ [(⟨a, b, c, d, e⟩ : S84)] ++ l.drop k = insC l k ⟨a, b, c, d, e⟩ := rfl
  rw [e1]
  cases bad with
  | true => rw [if_pos rfl, Option.bind_some, if_pos (by simp; omega), if_pos (.inl rfl)]; rfl
  | false =>
    rw [if_neg (by decide), spec_AreClaimsW_is _ (by omega), Option.bind_some]
    by_cases h : areClaims (insC l k ⟨a, b, c, d, e⟩) = true
    · rw [if_pos h, if_neg (fun hh => hh.elim (by decide) (fun h2 => h2 h))]
    · rw [if_neg h, Option.bind_some, if_pos (by simp; omega), if_pos (.inr h)]; rfl
theorem spec_AddClaim_l0 (l : List S84) (a b c d e : Int) (hl : l.length ≤ 2000000) : ∀ (n i k : Nat) (bad : Bool), i + n = l.length → k ≤ i → spec_AddClaim.L0 l (k : Int) bad (i : Int) a b c d e = spec_AddClaim.L0 l ((lastC a (l.drop i) i k : Nat) : Int) (bad || (l.drop i).any (fun y => y.f1 == b && y.f2 == c)) (l.length : Int) a b c d e
  | 0, i, k, bad, h, hk => by
    have e1 : (i : Int) = (l.length : Int) := by omega
    rw [List.drop_of_length_le (by omega), lastC, List.any_nil, Bool.or_false, e1]
  | n + 1, i, k, bad, h, hk => by
    have ih := spec_AddClaim_l0 l a b c d e hl n (i + 1)
    conv => lhs; rw [spec_AddClaim.L0_eq]
    rw [if_pos (by omega), if_pos (show (0 : Int) ≤ (i : Int) by omega), if_pos (show (0 : Int) ≤ (i : Int) by omega), wrap_succ i (by omega), dropClaim l i (by omega), lastC, List.any_cons]
    by_cases h1 : (rd_T84 l (i : Int)).f0 < a
    · simp only [if_pos h1]
      cases bad with
      | true =>
        rw [if_pos rfl, Bool.true_or, ih (i + 1) true (by omega) (by omega), Bool.true_or]
      | false =>
        rw [if_neg (by decide)]
        by_cases h2 : (rd_T84 l (i : Int)).f1 = b
        · rw [if_pos h2, ih (i + 1) _ (by omega) (by omega), beq_iff_eq.2 h2, Bool.true_and, Bool.false_or]
        · rw [if_neg h2, ih (i + 1) _ (by omega) (by omega), beq_eq_false_iff_ne.2 h2, Bool.false_and, Bool.false_or, Bool.false_or]
    · simp only [if_neg h1]
      cases bad with
      | true =>
        rw [if_pos rfl, Bool.true_or, ih k true (by omega) (by omega), Bool.true_or]
      | false =>
        rw [if_neg (by decide)]
        by_cases h2 : (rd_T84 l (i : Int)).f1 = b
        · rw [if_pos h2, ih k _ (by omega) (by omega), beq_iff_eq.2 h2, Bool.true_and, Bool.false_or]
        · rw [if_neg h2, ih k _ (by omega) (by omega), beq_eq_false_iff_ne.2 h2, Bool.false_and, Bool.false_or, Bool.false_or]
theorem spec_AddClaim_is (l : List S84) (a b c d e : Int) (hl : l.length ≤ 2000000) : spec_AddClaim.F l a b c d e = some (addClaim l ⟨a, b, c, d, e⟩) := by
  have hls := lastC_at a l l.length 0 0 (by omega) (by omega) (fun j h1 h2 => by omega) (fun h1 => by omega)
  rw [List.drop_zero] at hls
  have h0 := spec_AddClaim_l0 l a b c d e hl l.length 0 0 (e != 0) (by omega) (by omega)
  rw [List.drop_zero] at h0
  have h0' : spec_AddClaim.L0 l 0 (e != 0) 0 a b c d e = _ := h0
  rw [spec_AddClaim.F_eq, h0', spec_AddClaim_end l _ _ _ a b c d e (by omega) hls.1 hl, ← add_spec]
  have e1 : (l.any fun y => y.f1 == b && y.f2 == c) = hasC l ⟨a, b, c, d, e⟩ := rfl
  rw [e1]
  congr 1
  by_cases h1 : e = 0
  · have e2 : (e != 0) = false := bne_eq_false_iff_eq.2 h1
    rw [e2, Bool.false_or]
    by_cases h2 : hasC l ⟨a, b, c, d, e⟩ = true ∨ ¬ areClaims (insC l (lastC a l 0 0) ⟨a, b, c, d, e⟩) = true
    · rw [if_pos h2, if_pos (.inr h2)]
    · rw [if_neg h2, if_neg (fun hh => hh.elim (fun h3 => h3 h1) h2)]
  · have e2 : (e != 0) = true := bne_iff_ne.2 h1
    rw [e2, Bool.true_or, if_pos (.inl rfl), if_pos (.inl h1)]

theorem inRange (a b c : Int) : impl_InRange.f a b c = some (inR a b c) := by
  unfold impl_InRange.f inR
  by_cases h : b ≤ a <;> simp [h]

theorem impl_AreClaimsW_l1 (l : List S84) (hn : l.length ≤ 4194304) (i : Nat) (hi : i < l.length) (y0 y1 y3 : Int) : ∀ (d m : Nat), m + d = i → impl_AreClaims.L1 l l (l.length : Int) (i : Int) (l.take i) ((l.take i).length : Int) (m : Int) y0 y1 (rd_T84 l (i : Int)).f2 y3 (rd_T84 l (i : Int)).f4 = if (decide ((rd_T84 l i).f4 ≠ 3) || allF (fun q : Nat => ¬ ((rd_T84 l q).f4 = 3 ∧ (rd_T84 l q).f2 = (rd_T84 l i).f2)) i m) = true then impl_AreClaims.L0 l l (l.length : Int) ((i + 1 : Nat) : Int) else some false
  | 0, m, h => by
    have hl : (l.take i).length = i := by rw [List.length_take]; omega
    rw [impl_AreClaims.L1_eq, hl, if_neg (by omega), allF_end (by omega), Bool.or_true, if_pos rfl, wrap_succ i (by omega)]
  | d + 1, m, h => by
    have hl : (l.take i).length = i := by rw [List.length_take]; omega
    have hm : m < i := by omega
    have hy := fun hc => allF_yes (p := fun q : Nat => ¬ ((rd_T84 l q).f4 = 3 ∧ (rd_T84 l q).f2 = (rd_T84 l i).f2)) (n := i) (i := m) hc
    have ih := impl_AreClaimsW_l1 l hn i hi y0 y1 y3 d (m + 1) (by omega)
    rw [impl_AreClaims.L1_eq, wrap_succ m (by omega), ih, hl, if_pos (by omega), if_pos (by omega), if_pos (by omega), rdClaim_take l i m hm]
    by_cases c0 : (rd_T84 l (i : Int)).f4 = 3
    · rw [if_pos c0, decide_eq_false (fun hh => hh c0), Bool.false_or, Bool.false_or]
      by_cases c1 : (rd_T84 l (m : Int)).f4 = 3
      · by_cases c2 : (rd_T84 l (i : Int)).f2 = (rd_T84 l (m : Int)).f2
        · rw [if_pos c1, if_pos c2, allF_no hm (fun hh => hh ⟨c1, c2.symm⟩), if_neg (by decide)]
        · rw [if_pos c1, if_neg c2, hy (fun hh => c2 hh.2.symm)]
      · rw [if_neg c1, hy (fun hh => c1 hh.1)]
    · rw [if_neg c0, decide_eq_true c0, Bool.true_or, Bool.true_or]
theorem impl_AreClaimsW_l0 (l : List S84) (hn : l.length ≤ 4194304) : ∀ (d i : Nat), i + d = l.length → impl_AreClaims.L0 l l (l.length : Int) (i : Int) = some (allF (okClaim l) l.length i)
  | 0, i, h => by rw [impl_AreClaims.L0_eq, if_neg (by omega), allF_end (by omega)]
  | d + 1, i, h => by
    have hi : i < l.length := by omega
    have ih := impl_AreClaimsW_l0 l hn d (i + 1) (by omega)
    have h1 : ∀ y0 y1 y3, impl_AreClaims.L1 l l (l.length : Int) (i : Int) (l.take i) ((l.take i).length : Int) 0 y0 y1 (rd_T84 l (i : Int)).f2 y3 (rd_T84 l (i : Int)).f4 = if onceB l i = true then impl_AreClaims.L0 l l (l.length : Int) ((i + 1 : Nat) : Int) else some false := fun y0 y1 y3 => impl_AreClaimsW_l1 l hn i hi y0 y1 y3 i 0 (by omega)
    have e1 : (i : Int) < (l.length : Int) := by omega
    have e2 : (0 : Int) ≤ (i : Int) := by omega
    have e3 : (i : Int) ≤ (l.length : Int) := by omega
    rw [impl_AreClaims.L0_eq]
    simp only [wrap_pred i (by omega), inRange, Option.bind_some, impl_AreClaims.J1_eq, Int.toNat_natCast, if_pos e1, if_pos e2, if_pos e3, h1, if_true]
    by_cases c0 : (i : Int) > 0
    · have e4 : (0 : Int) ≤ (i : Int) - 1 := by omega
      have e5 : (i : Int) - 1 < (l.length : Int) := by omega
      simp only [if_pos c0, if_pos e4, if_pos e5]
      by_cases c1 : inR (rd_T84 l (i : Int)).f0 1 999 = true
      · rw [if_pos c1]
        by_cases c2 : (rd_T84 l (i : Int)).f0 ≤ (rd_T84 l ((i : Int) - 1)).f0
        · rw [if_pos c2, allF_no hi (fun h => absurd (h.2.1 c0) (by omega))]
          first | done | rfl | simp
        · rw [if_neg c2]
          by_cases c3 : inR (rd_T84 l (i : Int)).f1 1 999 = true
          · rw [if_pos c3]
            by_cases c4 : inR (rd_T84 l (i : Int)).f2 1 999 = true
            · rw [if_pos c4]
              by_cases c5 : inR (rd_T84 l (i : Int)).f3 0 100000 = true
              · rw [if_pos c5]
                by_cases c6 : (!inR (rd_T84 l (i : Int)).f4 0 3) = true
                · rw [if_pos c6, allF_no hi (fun h => by have := h.2.2.2.2.2.1; rw [this] at c6; exact absurd c6 (by decide))]
                  first | done | rfl | simp
                · rw [if_neg c6]
                  by_cases c7 : onceB l i = true
                  · rw [if_pos c7]
                    have hp_ : okClaim l i := ⟨c1, fun _ => by omega, c3, c4, c5, by simpa using c6, c7⟩
                    rw [ih, allF_yes hp_]
                  · rw [if_neg c7, allF_no hi (fun h => c7 h.2.2.2.2.2.2)]
                    first | done | rfl | simp
              · rw [if_neg c5, allF_no hi (fun h => c5 h.2.2.2.2.1)]
                first | done | rfl | simp
            · rw [if_neg c4, allF_no hi (fun h => c4 h.2.2.2.1)]
              first | done | rfl | simp
          · rw [if_neg c3, allF_no hi (fun h => c3 h.2.2.1)]
            first | done | rfl | simp
      · rw [if_neg c1, allF_no hi (fun h => c1 h.1)]
        first | done | rfl | simp
    · simp only [if_neg c0]
      by_cases c1 : inR (rd_T84 l (i : Int)).f0 1 999 = true
      · rw [if_pos c1]
        by_cases c2 : inR (rd_T84 l (i : Int)).f1 1 999 = true
        · rw [if_pos c2]
          by_cases c3 : inR (rd_T84 l (i : Int)).f2 1 999 = true
          · rw [if_pos c3]
            by_cases c4 : inR (rd_T84 l (i : Int)).f3 0 100000 = true
            · rw [if_pos c4]
              by_cases c5 : (!inR (rd_T84 l (i : Int)).f4 0 3) = true
              · rw [if_pos c5, allF_no hi (fun h => by have := h.2.2.2.2.2.1; rw [this] at c5; exact absurd c5 (by decide))]
                first | done | rfl | simp
              · rw [if_neg c5]
                by_cases c6 : onceB l i = true
                · rw [if_pos c6]
                  have hp_ : okClaim l i := ⟨c1, fun hh => absurd hh c0, c2, c3, c4, by simpa using c5, c6⟩
                  rw [ih, allF_yes hp_]
                · rw [if_neg c6, allF_no hi (fun h => c6 h.2.2.2.2.2.2)]
                  first | done | rfl | simp
            · rw [if_neg c4, allF_no hi (fun h => c4 h.2.2.2.2.1)]
              first | done | rfl | simp
          · rw [if_neg c3, allF_no hi (fun h => c3 h.2.2.2.1)]
            first | done | rfl | simp
        · rw [if_neg c2, allF_no hi (fun h => c2 h.2.2.1)]
          first | done | rfl | simp
      · rw [if_neg c1, allF_no hi (fun h => c1 h.1)]
        first | done | rfl | simp
theorem impl_AreClaimsW_is (l : List S84) (hn : l.length ≤ 4194304) : impl_AreClaims.F l = some (areClaims l) := by
  rw [impl_AreClaims.F_eq, areClaims]
  by_cases h : (l.length : Int) > 20
  · rw [if_pos h, decide_eq_false (by omega), Bool.and_false]
  · rw [if_neg h, decide_eq_true (by omega), Bool.and_true]
    exact impl_AreClaimsW_l0 l hn l.length 0 (by omega)

theorem cloneClaim_is (l : List S84) (hn : l.length ≤ 4194304) : impl_Claim_122.f l = some l := by
  unfold impl_Claim_122.f
  rw [Option.bind_some, if_pos (by simp only [List.length_nil]; omega)]
  rfl

theorem impl_FindClaim_is (l : List S84) (id : Int) (hn : l.length ≤ 1048576) : impl_FindClaim.f l id = some (idxF84 (fun x => x.f0 == id) l 0) := rfl

theorem impl_AddClaim_l0 (l x6 : List S84) (a b c d e : Int) (hl : l.length ≤ 2000000) : ∀ (n i : Nat), i + n = l.length → impl_AddClaim.L0 l x6 (i : Int) a b c d e = impl_AddClaim.J2 l x6 ((i + leadC a (l.drop i) : Nat) : Int) a b c d e
  | 0, i, h => by rw [impl_AddClaim.L0_eq, if_neg (by omega), List.drop_of_length_le (by omega)]; rfl
  | n + 1, i, h => by
    rw [impl_AddClaim.L0_eq, if_pos (by omega), if_pos (by omega), wrap_succ i (by omega), impl_AddClaim_l0 l x6 a b c d e hl n (i + 1) (by omega), leadC_step a l i (by omega)]
    split <;> rfl
theorem impl_AddClaim_is (l : List S84) (a b c d e : Int) (hl : l.length ≤ 1048576) : impl_AddClaim.F l a b c d e = some (addClaim l ⟨a, b, c, d, e⟩) := by
  have hk := leadC_le a l
  have hlen := insC_len l (leadC a l) ⟨a, b, c, d, e⟩ hk
  have h0 := impl_AddClaim_l0 l l a b c d e (by omega) l.length 0 (by omega)
  rw [List.drop_zero, Nat.zero_add] at h0
  have h0' : impl_AddClaim.L0 l l 0 a b c d e = _ := h0
  have hc : impl_Claim_123.f l a b c d e = some (hasC l ⟨a, b, c, d, e⟩) := by
    rw [← has_idx]; rfl
  have hj : impl_AddClaim.J0 l l true a b c d e = some (l, false) := by rw [impl_AddClaim.J0_eq, if_pos rfl]
  rw [impl_AddClaim.F_eq, cloneClaim_is l (by omega), Option.bind_some, addClaim]
  by_cases h1 : e = 0
  · rw [if_pos h1, impl_FindClaim_is l a hl, Option.bind_some, hc, Option.bind_some]
    by_cases h2 : idxF84 (fun x => x.f0 == a) l 0 ≥ 0
    · rw [if_pos h2, hj]
      have h3 : ¬ areClaims (insC l (leadC a l) ⟨a, b, c, d, e⟩) = true := by
        intro h4
        have ho := insC_order hk h4
        rcases idxFClaim_at (fun x => x.f0 == a) l with ⟨h5, _⟩ | ⟨j, h5, _, h6, _⟩
        · omega
        · have h7 : (rd_T84 l (j : Int)).f0 = a := by simpa using h6
          have h8 := ho j h5
          rcases Nat.lt_or_ge j (leadC a l) with h9 | h9
          · have := h8.1 h9
            have h10 : (rd_T84 l (j : Int)).f0 < a := this
            omega
          · have := h8.2 h9
            have h10 : a < (rd_T84 l (j : Int)).f0 := this
            omega
      rw [if_pos (.inr (.inr h3))]
    · rw [if_neg h2]
      by_cases h3 : hasC l ⟨a, b, c, d, e⟩ = true
      · rw [h3, hj, if_pos (.inr (.inl rfl))]
      · rw [Bool.eq_false_iff.2 h3, impl_AddClaim.J0_eq, if_neg (by decide), h0', impl_AddClaim.J2_eq, impl_Claim_125.f, if_pos ⟨by omega, by omega, by simp, by rw [List.length_singleton]; omega⟩, Option.bind_some, Int.toNat_natCast]
        have e1 : l.take (leadC a l) ++ [(⟨a, b, c, d, e⟩ : S84)] ++ l.drop (leadC a l) = insC l (leadC a l) ⟨a, b, c, d, e⟩ := rfl
        rw [e1, impl_AreClaimsW_is _ (by omega), Option.bind_some]
        by_cases h4 : areClaims (insC l (leadC a l) ⟨a, b, c, d, e⟩) = true
        · rw [if_pos h4, if_neg (fun hh => hh.elim (fun h5 => h5 h1) (fun h5 => h5.elim (fun h6 => by cases h6) (fun h6 => h6 h4)))]
        · rw [if_neg h4, cloneClaim_is l (by omega), Option.bind_some, if_pos (.inr (.inr h4))]
  · rw [if_neg h1, hj, if_pos (.inl h1)]

theorem law_FnExactAddClaim (l0 : List S78) (hm0 : l0.length ≤ maxLen) (hw0 : ∀ y ∈ l0, ok78 y) (x1 : S78) (hw1 : ok78 x1) : laws_FnExactAddClaim.F l0 x1.f0 x1.f1 x1.f2 x1.f3 x1.f4 = some true := by
  rw [laws_FnExactAddClaim.F_eq, szClaimS l0 1048576 (by omega) hm0]
  simp only [Option.bind_some]
  by_cases h : (1048576 : Int) < (l0.length : Int)
  · rw [if_pos h]; rfl
  · have hn : l0.length ≤ 1048576 := by omega
    have hn' : (l0.map cvClaim).length ≤ 1048576 := by rw [List.length_map]; exact hn
    rw [if_neg h, if_neg (by omega)]
    have h_spec := spec_AddClaim_is (l0.map cvClaim) x1.f0 x1.f1 x1.f2 x1.f3 x1.f4 (by omega)
    have h_impl := impl_AddClaim_is (l0.map cvClaim) x1.f0 x1.f1 x1.f2 x1.f3 x1.f4 hn'
    have hR := addClaim_len (l0.map cvClaim) ⟨x1.f0, x1.f1, x1.f2, x1.f3, x1.f4⟩ hn'
    obtain ⟨R, hR0⟩ : ∃ R, addClaim (l0.map cvClaim) ⟨x1.f0, x1.f1, x1.f2, x1.f3, x1.f4⟩ = R := ⟨_, rfl⟩
    rw [hR0] at h_spec h_impl hR
    generalize hRR : R = r at h_spec h_impl hR
    obtain ⟨R1, b⟩ := r
    have e1 : ¬ (1 + 5 * ((l0.map cvClaim).length : Int) < 0) := by omega
    have e2 : ¬ (1 + 5 * (R1.length : Int) < 0) := by omega
    simp only [toClaimS l0 hn, laws_toClaim.f, h_spec, h_impl, eqClaimS _ hR, Option.bind_some, if_true, bne_self_eq_false, laws_FnExactAddClaim.J0_eq, laws_FnExactAddClaim.J1_eq, laws_FnExactAddClaim.J2_eq, Bool.false_eq_true, if_false, eqClaimS _ hn', markClaimS _ 1 (by omega) hn', markClaimS _ 1 (by omega) hR, heldClaimS 1 _ (by omega) hR, if_neg e1, if_neg e2]

theorem FnExactAddClaim (l0 : List S78) (hm0 : l0.length ≤ maxLen) (hw0 : ∀ y ∈ l0, ok78 y) (x1 : S78) (hw1 : ok78 x1) : ∃ k, laws_FnExactAddClaim.f k l0 x1.f0 x1.f1 x1.f2 x1.f3 x1.f4 = some true :=
  (laws_FnExactAddClaim.F_co l0 x1.f0 x1.f1 x1.f2 x1.f3 x1.f4).rounds (law_FnExactAddClaim l0 hm0 hw0 x1 hw1)
end Go.Proofs.Ytppgealmedaihaa.PFnExactAddClaim.Pure
