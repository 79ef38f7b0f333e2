/-
  The law FnClaims answers true for every input. It has no conditions.
-/
import Derived.Test.YtppgealmedaihaaShFnClaims
import Derived.Test.YtppgealmedaihaaEqFnClaims
import Derived.Test.YtppgealmedaihaaBase
set_option linter.unusedVariables false
set_option linter.unusedSimpArgs false
namespace Go.Proofs.Ytppgealmedaihaa.PFnClaims.Pure
open Go.RowKit Go.Proofs.YtppgealmedaihaaW.PrintWords Go.Proofs.YtppgealmedaihaaW.PrintLast Go.Proofs.YtppgealmedaihaaW.PrintMore Go.Proofs.Ytppgealmedaihaa.PFnClaims Go.Proofs.Ytppgealmedaihaa.Lim Go.Proofs.Ytppgealmedaihaa.Base
set_option maxRecDepth 100000

theorem big_is (l : List Int) : laws_big.f l = some (decide ((l.length : Int) > 1048576)) := rfl

/-- A cursor's place in the bytes that it reads. -/
def CO (b : List Int) (i : Int) : Prop := 0 ≤ i ∧ i ≤ (b.length : Int) ∧ b.length ≤ 1048576
theorem and255 (x : Int) : 0 ≤ Go.bits .and .i64 x 255 ∧ Go.bits .and .i64 x 255 ≤ 255 := by
  have h : (BitVec.ofInt 64 255).toNat = 255 := by decide
  have h2 : (BitVec.ofInt 64 x &&& BitVec.ofInt 64 255).toNat ≤ 255 := by
    rw [BitVec.toNat_and, h]
    exact Nat.and_le_right
  show 0 ≤ IntKind.i64.wrap ((BitVec.ofInt 64 x &&& BitVec.ofInt 64 255).toNat : Int) ∧ IntKind.i64.wrap ((BitVec.ofInt 64 x &&& BitVec.ofInt 64 255).toNat : Int) ≤ 255
  rw [IntKind.wrap_i64]
  omega
theorem l1Byte_is (b : List Int) (i h : Int) (c : CO b i) : ∃ r i' h', spec_l1Byte.f b i h = some (r, i', h') ∧ 0 ≤ r ∧ r ≤ 255 ∧ CO b i' := by
  obtain ⟨c0, c1, c2⟩ := c
  unfold spec_l1Byte.f
  by_cases hi : i < (b.length : Int)
  · rw [if_pos hi, if_pos c0]
    refine ⟨_, _, _, rfl, (and255 _).1, (and255 _).2, ?_⟩
    rw [wrap_in _ (by omega)]
    exact ⟨by omega, by omega, c2⟩
  · rw [if_neg hi]
    exact ⟨_, _, _, rfl, (and255 _).1, (and255 _).2, c0, c1, c2⟩
theorem l1Below_is (b : List Int) (i h n : Int) (c : CO b i) (hn : n ≤ 10000000) : ∃ r i' h', spec_l1Below.f b i h n = some (r, i', h') ∧ 0 ≤ r ∧ (0 < n → r < n) ∧ (n ≤ 0 → r = 0) ∧ CO b i' := by
  unfold spec_l1Below.f
  by_cases h0 : n ≤ 0
  · rw [if_pos h0]
    exact ⟨0, i, h, rfl, by omega, fun _ => by omega, fun _ => rfl, c⟩
  · rw [if_neg h0]
    by_cases h1 : n ≤ 256
    · obtain ⟨r, i', h', e, r0, r1, c'⟩ := l1Byte_is b i h c
      rw [if_pos h1, e, Option.bind_some, if_neg (by omega), Int.tmod_eq_emod_of_nonneg r0]
      exact ⟨_, _, _, rfl, Int.emod_nonneg _ (by omega), fun _ => Int.emod_lt_of_pos _ (by omega), fun _ => by omega, c'⟩
    · obtain ⟨r, i', h', e, r0, r1, c'⟩ := l1Byte_is b i h c
      obtain ⟨s, i2, h2, e2, s0, s1, c2⟩ := l1Byte_is b i' h' c'
      obtain ⟨t, i3, h3, e3, t0, t1, c3⟩ := l1Byte_is b i2 h2 c2
      rw [if_neg h1, e, Option.bind_some]
      dsimp only
      rw [e2, Option.bind_some]
      dsimp only
      rw [e3, Option.bind_some, if_neg (by omega)]
      dsimp only
      rw [wrap_in (r * 65536) (by omega), wrap_in (s * 256) (by omega), wrap_in (r * 65536 + s * 256) (by omega), wrap_in (r * 65536 + s * 256 + t) (by omega), Int.tmod_eq_emod_of_nonneg (by omega)]
      exact ⟨_, _, _, rfl, Int.emod_nonneg _ (by omega), fun _ => Int.emod_lt_of_pos _ (by omega), fun _ => by omega, c3⟩
theorem below_pos (b : List Int) (i h n : Int) (c : CO b i) (h0 : 0 < n) (hn : n ≤ 10000000) : ∃ r i' h', spec_l1Below.f b i h n = some (r, i', h') ∧ 0 ≤ r ∧ r < n ∧ CO b i' := by
  obtain ⟨r, i', h', e, r0, r1, _, c'⟩ := l1Below_is b i h n c hn
  exact ⟨r, i', h', e, r0, r1 h0, c'⟩
theorem l1New_l0 (b : List Int) (hb : b.length ≤ 1048576) : ∀ (d i : Nat) (h : Int), i + d = b.length → ∃ h', spec_l1New.L0 b h (i : Int) = some (b, 0, h')
  | 0, i, h, hd => ⟨h, by rw [spec_l1New.L0_eq, if_neg (by omega)]⟩
  | d + 1, i, h, hd => by
    rw [spec_l1New.L0_eq, if_pos (by omega), if_pos (show (0 : Int) ≤ (i : Int) by omega), wrap_succ i (by omega)]
    by_cases h4 : (i : Int) < 4000
    · rw [if_pos h4]
      exact l1New_l0 b hb d (i + 1) _ (by omega)
    · rw [if_neg h4]
      exact ⟨h, rfl⟩
theorem l1New_is (b : List Int) (hb : b.length ≤ 1048576) : ∃ h', spec_l1New.F b = some (b, 0, h') ∧ CO b 0 := by
  obtain ⟨h', e⟩ := l1New_l0 b hb b.length 0 (wrap64 (193017 + (b.length : Int))) (by omega)
  exact ⟨h', by rw [spec_l1New.F_eq]; exact e, by unfold CO; omega⟩

theorem rdInt_at (l : List Int) (i : Nat) : rd l (i : Int) = l.getD i 0 := by simp [rd]
theorem dropInt (l : List Int) (i : Nat) (h : i < l.length) : l.drop i = rd l (i : Int) :: l.drop (i + 1) := by
  rw [rdInt_at, getD_get l i _ h]
  exact List.drop_eq_getElem_cons h

theorem l1Int_is (b : List Int) (i h : Int) (l : List Int) (c : CO b i) (h0 : 0 < l.length) (hn : l.length ≤ 1000) : ∃ r i' h', spec_l1Int.f b i h l = some (r, i', h') ∧ r ∈ l ∧ CO b i' := by
  obtain ⟨r, i', h', e, r0, r1, c'⟩ := below_pos b i h (l.length : Int) c (by omega) (by omega)
  unfold spec_l1Int.f
  rw [e, Option.bind_some]
  dsimp only
  rw [if_pos r0, if_pos r1]
  obtain ⟨j, rfl⟩ : ∃ j : Nat, r = j := ⟨r.toNat, by omega⟩
  refine ⟨_, _, _, rfl, ?_, c'⟩
  rw [show rd l (j : Int) = l[j]'(by omega) by simp [rd, show j < l.length by omega]]
  exact List.getElem_mem _

theorem l4Raw_is (b : List Int) (i h : Int) (c : CO b i) : ∃ r i' h', spec_l4Raw.f b i h = some (r, i', h') ∧ r ∈ ([-1, 0, 8, 50, 51, 1000, 9223372036854775807, -9223372036854775808] : List Int) ∧ CO b i' := by
  obtain ⟨r, i', h', e, hm, c'⟩ := l1Int_is b i h [-1, 0, 8, 50, 51, 1000, 9223372036854775807, -9223372036854775808] c (by decide) (by decide)
  unfold spec_l4Raw.f
  rw [e, Option.bind_some]
  exact ⟨r, i', h', rfl, hm, c'⟩

theorem l1Once_is (b : List Int) (i h n : Int) (c : CO b i) (h0 : 0 < n) (hn : n ≤ 10000000) : ∃ r i' h', spec_l1Once.f b i h n = some (r, i', h') ∧ CO b i' := by
  obtain ⟨r, i', h', e, r0, r1, c'⟩ := below_pos b i h n c h0 hn
  unfold spec_l1Once.f
  rw [e, Option.bind_some]
  exact ⟨_, i', h', rfl, c'⟩

theorem rdClaim_at (l : List S84) (i : Nat) : rd_T84 l (i : Int) = l.getD i z84 := by simp [rd_T84]
theorem dropClaim (l : List S84) (i : Nat) (h : i < l.length) : l.drop i = rd_T84 l (i : Int) :: l.drop (i + 1) := by
  rw [rdClaim_at, getD_get l i _ h]
  exact List.drop_eq_getElem_cons h

noncomputable def onceB (l : List S84) (i : Nat) : Bool := decide ((rd_T84 l i).f4 ≠ 3) || allF (fun q : Nat => ¬ ((rd_T84 l q).f4 = 3 ∧ (rd_T84 l q).f2 = (rd_T84 l i).f2)) i 0
def okClaim (l : List S84) (i : Nat) : Prop := inR (rd_T84 l i).f0 1 999 = true ∧ ((i : Int) > 0 → (rd_T84 l ((i : Int) - 1)).f0 < (rd_T84 l i).f0) ∧ inR (rd_T84 l i).f1 1 999 = true ∧ inR (rd_T84 l i).f2 1 999 = true ∧ inR (rd_T84 l i).f3 0 100000 = true ∧ inR (rd_T84 l i).f4 0 3 = true ∧ onceB l i = true
noncomputable def areClaims (l : List S84) : Bool := allF (okClaim l) l.length 0 && decide ((l.length : Int) ≤ 20)
theorem rdClaim_take (l : List S84) (i q : Nat) (h : q < i) : rd_T84 (l.take i) (q : Int) = rd_T84 l (q : Int) := by
  rw [rdClaim_at, rdClaim_at, List.getD_eq_getElem?_getD, List.getD_eq_getElem?_getD, List.getElem?_take, if_pos h]

theorem idxFClaim_spec (p : S84 → Bool) : ∀ (l : List S84) (i : Int), (idxF84 p l i = -1 ∧ ∀ x ∈ l, ¬ p x = true) ∨ ∃ j : Nat, j < l.length ∧ idxF84 p l i = i + (j : Int) ∧ p (l.getD j z84) = true ∧ ∀ m : Nat, m < j → ¬ p (l.getD m z84) = true
  | [], i => .inl ⟨rfl, by simp⟩
  | x :: r, i => by
    simp only [idxF84]
    by_cases h : p x = true
    · rw [if_pos h]
      exact .inr ⟨0, by simp, by simp, by simpa using h, fun m hm => absurd hm (by omega)⟩
    · rw [if_neg h]
      rcases idxFClaim_spec p r (i + 1) with ⟨h1, h2⟩ | ⟨j, h1, h2, h3, h4⟩
      · exact .inl ⟨h1, fun y hy => by
          rcases List.mem_cons.1 hy with e | e
          · rw [e]; exact h
          · exact h2 y e⟩
      · refine .inr ⟨j + 1, by simp; omega, by rw [h2]; omega, by simpa using h3, fun m hm => ?_⟩
        cases m with
        | zero => simpa using h
        | succ m => simpa using h4 m (by omega)
theorem idxFClaim_at (p : S84 → Bool) (l : List S84) : (idxF84 p l 0 = -1 ∧ ∀ x ∈ l, ¬ p x = true) ∨ ∃ j : Nat, j < l.length ∧ idxF84 p l 0 = (j : Int) ∧ p (rd_T84 l (j : Int)) = true ∧ ∀ m : Nat, m < j → ¬ p (rd_T84 l (m : Int)) = true := by
  rcases idxFClaim_spec p l 0 with h | ⟨j, h1, h2, h3, h4⟩
  · exact .inl h
  · refine .inr ⟨j, h1, by rw [h2]; omega, by rw [rdClaim_at]; exact h3, fun m hm => by rw [rdClaim_at]; exact h4 m hm⟩

def insC (l : List S84) (k : Nat) (x : S84) : List S84 := l.take k ++ [x] ++ l.drop k
theorem insC_len (l : List S84) (k : Nat) (x : S84) (hk : k ≤ l.length) : (insC l k x).length = l.length + 1 := by
  unfold insC
  rw [List.length_append, List.length_append, List.length_take, List.length_drop, List.length_singleton]
  omega
theorem insC_rd (l : List S84) (k : Nat) (x : S84) (hk : k ≤ l.length) (i : Nat) : rd_T84 (insC l k x) (i : Int) = if i < k then rd_T84 l (i : Int) else if i = k then x else rd_T84 l ((i - 1 : Nat) : Int) := by
  simp only [rdClaim_at, List.getD_eq_getElem?_getD, insC]
  have ht : (l.take k).length = k := by rw [List.length_take]; omega
  by_cases h1 : i < k
  · rw [if_pos h1, List.append_assoc, List.getElem?_append_left (by omega), List.getElem?_take, if_pos h1]
  · rw [if_neg h1, List.append_assoc, List.getElem?_append_right (by omega), ht]
    by_cases h2 : i = k
    · rw [if_pos h2, h2, Nat.sub_self]
      rfl
    · rw [if_neg h2, List.getElem?_append_right (by simp; omega), List.getElem?_drop]
      congr 2
      simp
      omega
theorem claims_less {l : List S84} (h : areClaims l = true) (i : Nat) : ∀ j : Nat, i < j → j < l.length → (rd_T84 l (i : Int)).f0 < (rd_T84 l (j : Int)).f0
  | 0, h1, _ => absurd h1 (Nat.not_lt_zero _)
  | j + 1, h1, h2 => by
    have h0 := h
    unfold areClaims at h0
    rw [Bool.and_eq_true, allF_all] at h0
    have h3 := (h0.1 (j + 1) h2).2.1 (by omega)
    rw [show ((j + 1 : Nat) : Int) - 1 = (j : Int) by omega] at h3
    by_cases e : i = j
    · rw [e]; exact h3
    · have := claims_less h i j (by omega) (by omega)
      omega
theorem insC_order {l : List S84} {k : Nat} {x : S84} (hk : k ≤ l.length) (h : areClaims (insC l k x) = true) : ∀ i : Nat, i < l.length → (i < k → (rd_T84 l (i : Int)).f0 < x.f0) ∧ (k ≤ i → x.f0 < (rd_T84 l (i : Int)).f0) := by
  intro i hi
  have hlen := insC_len l k x hk
  refine ⟨fun h1 => ?_, fun h1 => ?_⟩
  · have := claims_less h i k h1 (by omega)
    rw [insC_rd l k x hk, insC_rd l k x hk, if_pos h1, if_neg (by omega), if_pos rfl] at this
    exact this
  · have := claims_less h k (i + 1) (by omega) (by omega)
    rw [insC_rd l k x hk, insC_rd l k x hk, if_neg (by omega), if_pos rfl, if_neg (by omega), if_neg (by omega), Nat.add_sub_cancel] at this
    exact this
def leadC (q : Int) : List S84 → Nat
  | [] => 0
  | m :: r => if m.f0 < q then leadC q r + 1 else 0
theorem leadC_le (q : Int) : ∀ l : List S84, leadC q l ≤ l.length
  | [] => Nat.le_refl _
  | m :: r => by
    have := leadC_le q r
    simp only [leadC, List.length_cons]
    split <;> omega
theorem leadC_step (q : Int) (l : List S84) (i : Nat) (hi : i < l.length) : i + leadC q (l.drop i) = if (rd_T84 l (i : Int)).f0 < q then i + 1 + leadC q (l.drop (i + 1)) else i := by
  rw [dropClaim l i hi, leadC]
  split <;> omega
theorem leadC_at (q : Int) (l : List S84) : ∀ (d i : Nat), i + d = l.length → (∀ j : Nat, i ≤ j → j < i + leadC q (l.drop i) → (rd_T84 l (j : Int)).f0 < q) ∧ (i + leadC q (l.drop i) < l.length → ¬ (rd_T84 l ((i + leadC q (l.drop i) : Nat) : Int)).f0 < q)
  | 0, i, h => by
    rw [List.drop_of_length_le (by omega), leadC]
    exact ⟨fun j h1 h2 => by omega, fun h1 => by omega⟩
  | d + 1, i, h => by
    have ih := leadC_at q l d (i + 1) (by omega)
    rw [leadC_step q l i (by omega)]
    by_cases hc : (rd_T84 l (i : Int)).f0 < q
    · rw [if_pos hc]
      refine ⟨fun j h1 h2 => ?_, ih.2⟩
      by_cases e : j = i
      · rw [e]; exact hc
      · exact ih.1 j (by omega) h2
    · rw [if_neg hc]
      exact ⟨fun j h1 h2 => by omega, fun _ => hc⟩
def lastC (q : Int) : List S84 → Nat → Nat → Nat
  | [], _, k => k
  | m :: r, i, k => lastC q r (i + 1) (if m.f0 < q then i + 1 else k)
theorem lastC_at (q : Int) (l : List S84) : ∀ (d i k : Nat), i + d = l.length → k ≤ i → (∀ j : Nat, k ≤ j → j < i → ¬ (rd_T84 l (j : Int)).f0 < q) → (0 < k → (rd_T84 l ((k - 1 : Nat) : Int)).f0 < q) →
    lastC q (l.drop i) i k ≤ l.length ∧ (∀ j : Nat, lastC q (l.drop i) i k ≤ j → j < l.length → ¬ (rd_T84 l (j : Int)).f0 < q) ∧ (0 < lastC q (l.drop i) i k → (rd_T84 l ((lastC q (l.drop i) i k - 1 : Nat) : Int)).f0 < q)
  | 0, i, k, h, hk, h1, h2 => by
    rw [List.drop_of_length_le (by omega), lastC]
    exact ⟨by omega, fun j h3 h4 => h1 j h3 (by omega), h2⟩
  | d + 1, i, k, h, hk, h1, h2 => by
    rw [dropClaim l i (by omega), lastC]
    by_cases hc : (rd_T84 l (i : Int)).f0 < q
    · rw [if_pos hc]
      exact lastC_at q l d (i + 1) (i + 1) (by omega) (by omega) (fun j h3 h4 => by omega) (fun _ => by rw [Nat.add_sub_cancel]; exact hc)
    · rw [if_neg hc]
      refine lastC_at q l d (i + 1) k (by omega) (by omega) (fun j h3 h4 => ?_) h2
      by_cases e : j = i
      · rw [e]; exact hc
      · exact h1 j h3 (by omega)
theorem mem_rdC {l : List S84} {y : S84} (hx : y ∈ l) : ∃ q : Nat, q < l.length ∧ rd_T84 l (q : Int) = y := by
  obtain ⟨q, hq, e⟩ := List.getElem_of_mem hx
  exact ⟨q, hq, by rw [rdClaim_at, getD_get l q _ hq, e]⟩
noncomputable def hasC (l : List S84) (x : S84) : Bool := l.any (fun y => y.f1 == x.f1 && y.f2 == x.f2)
noncomputable def addClaim (l : List S84) (x : S84) : List S84 × Bool :=
  if ¬ x.f4 = 0 ∨ hasC l x = true ∨ ¬ areClaims (insC l (leadC x.f0 l) x) = true then (l, false) else (insC l (leadC x.f0 l) x, true)
theorem addClaim_len (l : List S84) (x : S84) (hn : l.length ≤ 1048576) : (addClaim l x).1.length ≤ 1048576 := by
  unfold addClaim
  by_cases h : ¬ x.f4 = 0 ∨ hasC l x = true ∨ ¬ areClaims (insC l (leadC x.f0 l) x) = true
  · rw [if_pos h]; exact hn
  · rw [if_neg h]
    have h2 : areClaims (insC l (leadC x.f0 l) x) = true := Classical.byContradiction (fun hh => h (.inr (.inr hh)))
    unfold areClaims at h2
    rw [Bool.and_eq_true, decide_eq_true_iff] at h2
    have := h2.2
    show (insC l (leadC x.f0 l) x).length ≤ 1048576
    omega
theorem lead_unique {l : List S84} {k : Nat} {x : S84} (hk : k ≤ l.length) (h : areClaims (insC l k x) = true) : leadC x.f0 l = k := by
  have ho := insC_order hk h
  have hl := leadC_at x.f0 l l.length 0 (by omega)
  rw [List.drop_zero, Nat.zero_add] at hl
  have hle := leadC_le x.f0 l
  rcases Nat.lt_trichotomy (leadC x.f0 l) k with hlt | he | hgt
  · exact absurd ((ho _ (by omega)).1 hlt) (hl.2 (by omega))
  · exact he
  · have h1 := hl.1 k (Nat.zero_le _) hgt
    have h2 := (ho k (by omega)).2 (Nat.le_refl _)
    omega
theorem last_unique {l : List S84} {k : Nat} {x : S84} (hk : k ≤ l.length) (h : areClaims (insC l k x) = true) : lastC x.f0 l 0 0 = k := by
  have ho := insC_order hk h
  have hl := lastC_at x.f0 l l.length 0 0 (by omega) (by omega) (fun j h1 h2 => by omega) (fun h1 => by omega)
  rw [List.drop_zero] at hl
  rcases Nat.lt_trichotomy (lastC x.f0 l 0 0) k with hlt | he | hgt
  · exact absurd ((ho _ (by omega)).1 hlt) (hl.2.1 _ (Nat.le_refl _) (by omega))
  · exact he
  · have h1 := hl.2.2 (by omega)
    have h2 := (ho (lastC x.f0 l 0 0 - 1) (by omega)).2 (by omega)
    omega
theorem add_spec (l : List S84) (x : S84) : (if ¬ x.f4 = 0 ∨ hasC l x = true ∨ ¬ areClaims (insC l (lastC x.f0 l 0 0) x) = true then (l, false) else (insC l (lastC x.f0 l 0 0) x, true)) = addClaim l x := by
  have hls := lastC_at x.f0 l l.length 0 0 (by omega) (by omega) (fun j h1 h2 => by omega) (fun h1 => by omega)
  rw [List.drop_zero] at hls
  unfold addClaim
  by_cases h1 : areClaims (insC l (lastC x.f0 l 0 0) x) = true
  · rw [lead_unique hls.1 h1]
  · by_cases h2 : areClaims (insC l (leadC x.f0 l) x) = true
    · rw [last_unique (leadC_le x.f0 l) h2]
    · rw [if_pos (.inr (.inr h1)), if_pos (.inr (.inr h2))]
theorem has_idx (l : List S84) (x : S84) : decide (idxF84 (fun y => y.f1 == x.f1 && y.f2 == x.f2) l 0 ≥ 0) = hasC l x := by
  unfold hasC
  rcases idxFClaim_at (fun y => y.f1 == x.f1 && y.f2 == x.f2) l with ⟨h1, h2⟩ | ⟨j, h1, h2, h3, _⟩
  · rw [h1, decide_eq_false (by omega)]
    exact (List.any_eq_false.2 (fun y hy => h2 y hy)).symm
  · rw [h2, decide_eq_true (by omega)]
    refine (List.any_eq_true.2 ⟨rd_T84 l (j : Int), ?_, h3⟩).symm
    rw [rdClaim_at, getD_get l j _ h1]
    exact List.getElem_mem _

theorem l1In (a b c : Int) : spec_l1In.f a b c = some (inR a b c) := by
  unfold spec_l1In.f inR
  by_cases h : b ≤ a <;> simp [h]

theorem spec_AreClaimsW_l1 (l : List S84) (hn : l.length ≤ 4194304) (i : Nat) (hi : i < l.length) (y0 y1 y3 : Int) : ∀ (d m : Nat), m + d = i → spec_AreClaims.L1 l (i : Int) (m : Int) y0 y1 (rd_T84 l (i : Int)).f2 y3 (rd_T84 l (i : Int)).f4 = if (decide ((rd_T84 l i).f4 ≠ 3) || allF (fun q : Nat => ¬ ((rd_T84 l q).f4 = 3 ∧ (rd_T84 l q).f2 = (rd_T84 l i).f2)) i m) = true then spec_AreClaims.L0 l ((i + 1 : Nat) : Int) else some false
  | 0, m, h => by
    rw [spec_AreClaims.L1_eq, if_neg (by omega), allF_end (by omega), Bool.or_true, if_pos rfl, wrap_succ i (by omega)]
  | d + 1, m, h => by
    have hm : m < i := by omega
    have hy := fun hc => allF_yes (p := fun q : Nat => ¬ ((rd_T84 l q).f4 = 3 ∧ (rd_T84 l q).f2 = (rd_T84 l i).f2)) (n := i) (i := m) hc
    rw [spec_AreClaims.L1_eq, if_pos (by omega), wrap_succ m (by omega), spec_AreClaimsW_l1 l hn i hi y0 y1 y3 d (m + 1) (by omega)]
    by_cases c0 : (rd_T84 l (i : Int)).f4 = 3
    · rw [if_pos c0, decide_eq_false (fun hh => hh c0), Bool.false_or, Bool.false_or, if_pos (by omega), if_pos (by omega)]
      by_cases c1 : (rd_T84 l (m : Int)).f4 = 3
      · by_cases c2 : (rd_T84 l (m : Int)).f2 = (rd_T84 l (i : Int)).f2
        · rw [if_pos c1, if_pos c2, allF_no hm (fun hh => hh ⟨c1, c2⟩), if_neg (by decide)]
        · rw [if_pos c1, if_neg c2, hy (fun hh => c2 hh.2)]
      · rw [if_neg c1, hy (fun hh => c1 hh.1)]
    · rw [if_neg c0, decide_eq_true c0, Bool.true_or, Bool.true_or]
theorem spec_AreClaimsW_l0 (l : List S84) (hn : l.length ≤ 4194304) : ∀ (d i : Nat), i + d = l.length → spec_AreClaims.L0 l (i : Int) = some (allF (okClaim l) l.length i && decide ((l.length : Int) ≤ 20))
  | 0, i, h => by rw [spec_AreClaims.L0_eq, if_neg (by omega), allF_end (by omega)]; rfl
  | d + 1, i, h => by
    have hi : i < l.length := by omega
    have ih := spec_AreClaimsW_l0 l hn d (i + 1) (by omega)
    have h1 : ∀ y0 y1 y3, spec_AreClaims.L1 l (i : Int) 0 y0 y1 (rd_T84 l (i : Int)).f2 y3 (rd_T84 l (i : Int)).f4 = if onceB l i = true then spec_AreClaims.L0 l ((i + 1 : Nat) : Int) else some false := fun y0 y1 y3 => spec_AreClaimsW_l1 l hn i hi y0 y1 y3 i 0 (by omega)
    rw [spec_AreClaims.L0_eq]
    have e1 : (i : Int) < (l.length : Int) := by omega
    have e2 : (0 : Int) ≤ (i : Int) := by omega
    have t1 : (if (true : Bool) = true then some false else spec_AreClaims.L0 l ((i + 1 : Nat) : Int)) = some false := rfl
    simp only [wrap_pred i (by omega), l1In, Option.bind_some, spec_AreClaims.J1_eq, h1, if_pos e1, if_pos e2, if_true]
    by_cases c0 : (i : Int) > 0
    · have e4 : (0 : Int) ≤ (i : Int) - 1 := by omega
      have e5 : (i : Int) - 1 < (l.length : Int) := by omega
      simp only [if_pos c0, if_pos e4, if_pos e5, decide_eq_true_eq]
      by_cases c1 : inR (rd_T84 l (i : Int)).f0 1 999 = true
      · rw [if_pos c1]
        by_cases c2 : inR (rd_T84 l (i : Int)).f1 1 999 = true
        · rw [if_pos c2]
          by_cases c3 : inR (rd_T84 l (i : Int)).f2 1 999 = true
          · rw [if_pos c3]
            by_cases c4 : inR (rd_T84 l (i : Int)).f3 0 100000 = true
            · rw [if_pos c4]
              by_cases c5 : inR (rd_T84 l (i : Int)).f4 0 3 = true
              · rw [if_pos c5]
                by_cases c6 : (rd_T84 l ((i : Int) - 1)).f0 ≥ (rd_T84 l (i : Int)).f0
                · rw [if_pos c6, allF_no hi (fun h => absurd (h.2.1 c0) (by omega))]
                  first | done | rfl | simp
                · rw [if_neg c6]
                  by_cases c7 : onceB l i = true
                  · rw [if_pos c7]
                    have hp_ : okClaim l i := ⟨c1, fun _ => by omega, c2, c3, c4, c5, c7⟩
                    rw [ih, allF_yes hp_]
                  · rw [if_neg c7, allF_no hi (fun h => c7 h.2.2.2.2.2.2)]
                    first | done | rfl | simp
              · rw [if_neg c5, allF_no hi (fun h => c5 h.2.2.2.2.2.1)]
                first | done | rfl | simp
            · rw [if_neg c4, allF_no hi (fun h => c4 h.2.2.2.2.1)]
              first | done | rfl | simp
          · rw [if_neg c3, allF_no hi (fun h => c3 h.2.2.2.1)]
            first | done | rfl | simp
        · rw [if_neg c2, allF_no hi (fun h => c2 h.2.2.1)]
          first | done | rfl | simp
      · rw [if_neg c1, allF_no hi (fun h => c1 h.1)]
        first | done | rfl | simp
    · simp only [if_neg c0, Bool.false_eq_true, if_false]
      by_cases c1 : inR (rd_T84 l (i : Int)).f0 1 999 = true
      · rw [if_pos c1]
        by_cases c2 : inR (rd_T84 l (i : Int)).f1 1 999 = true
        · rw [if_pos c2]
          by_cases c3 : inR (rd_T84 l (i : Int)).f2 1 999 = true
          · rw [if_pos c3]
            by_cases c4 : inR (rd_T84 l (i : Int)).f3 0 100000 = true
            · rw [if_pos c4]
              by_cases c5 : inR (rd_T84 l (i : Int)).f4 0 3 = true
              · rw [if_pos c5]
                by_cases c6 : onceB l i = true
                · rw [if_pos c6]
                  have hp_ : okClaim l i := ⟨c1, fun hh => absurd hh c0, c2, c3, c4, c5, c6⟩
                  rw [ih, allF_yes hp_]
                · rw [if_neg c6, allF_no hi (fun h => c6 h.2.2.2.2.2.2)]
                  first | done | rfl | simp
              · rw [if_neg c5, allF_no hi (fun h => c5 h.2.2.2.2.2.1)]
                first | done | rfl | simp
            · rw [if_neg c4, allF_no hi (fun h => c4 h.2.2.2.2.1)]
              first | done | rfl | simp
          · rw [if_neg c3, allF_no hi (fun h => c3 h.2.2.2.1)]
            first | done | rfl | simp
        · rw [if_neg c2, allF_no hi (fun h => c2 h.2.2.1)]
          first | done | rfl | simp
      · rw [if_neg c1, allF_no hi (fun h => c1 h.1)]
        first | done | rfl | simp
theorem spec_AreClaimsW_is (l : List S84) (hn : l.length ≤ 4194304) : spec_AreClaims.F l = some (areClaims l) := by
  rw [spec_AreClaims.F_eq, areClaims]
  exact spec_AreClaimsW_l0 l hn l.length 0 (by omega)

theorem spec_AddClaim_end (l : List S84) (k : Nat) (bad : Bool) (i : Int) (a b c d e : Int) (hi : ¬ i < (l.length : Int)) (hk : k ≤ l.length) (hl : l.length ≤ 2000000) : spec_AddClaim.L0 l (k : Int) bad i a b c d e = some (if bad = true ∨ ¬ areClaims (insC l k ⟨a, b, c, d, e⟩) = true then (l, false) else (insC l k ⟨a, b, c, d, e⟩, true)) := by
  have hlen := insC_len l k ⟨a, b, c, d, e⟩ hk
  rw [spec_AddClaim.L0_eq, if_neg hi, Option.bind_some, if_pos (by omega), if_pos (by omega), Int.toNat_natCast, Option.bind_some, if_pos (by simp; omega), Option.bind_some, Option.bind_some, List.nil_append, if_pos (by simp; omega), Option.bind_some, Option.bind_some, if_pos (by simp; omega), Option.bind_some]
  have e1 : l.take k ++ [(⟨a, b, c, d, e⟩ : S84)] ++ l.drop k = insC l k ⟨a, b, c, d, e⟩ := rfl
  rw [e1]
  cases bad with
  | true => rw [if_pos rfl, Option.bind_some, if_pos (by simp; omega), if_pos (.inl rfl)]; rfl
  | false =>
    rw [if_neg (by decide), spec_AreClaimsW_is _ (by omega), Option.bind_some]
    by_cases h : areClaims (insC l k ⟨a, b, c, d, e⟩) = true
    · rw [if_pos h, if_neg (fun hh => hh.elim (by decide) (fun h2 => h2 h))]
    · rw [if_neg h, Option.bind_some, if_pos (by simp; omega), if_pos (.inr h)]; rfl
theorem spec_AddClaim_l0 (l : List S84) (a b c d e : Int) (hl : l.length ≤ 2000000) : ∀ (n i k : Nat) (bad : Bool), i + n = l.length → k ≤ i → spec_AddClaim.L0 l (k : Int) bad (i : Int) a b c d e = spec_AddClaim.L0 l ((lastC a (l.drop i) i k : Nat) : Int) (bad || (l.drop i).any (fun y => y.f1 == b && y.f2 == c)) (l.length : Int) a b c d e
  | 0, i, k, bad, h, hk => by
    have e1 : (i : Int) = (l.length : Int) := by omega
    rw [List.drop_of_length_le (by omega), lastC, List.any_nil, Bool.or_false, e1]
  | n + 1, i, k, bad, h, hk => by
    have ih := spec_AddClaim_l0 l a b c d e hl n (i + 1)
    conv => lhs; rw [spec_AddClaim.L0_eq]
    rw [if_pos (by omega), if_pos (show (0 : Int) ≤ (i : Int) by omega), if_pos (show (0 : Int) ≤ (i : Int) by omega), wrap_succ i (by omega), dropClaim l i (by omega), lastC, List.any_cons]
    by_cases h1 : (rd_T84 l (i : Int)).f0 < a
    · simp only [if_pos h1]
      cases bad with
      | true =>
        rw [if_pos rfl, Bool.true_or, ih (i + 1) true (by omega) (by omega), Bool.true_or]
      | false =>
        rw [if_neg (by decide)]
        by_cases h2 : (rd_T84 l (i : Int)).f1 = b
        · rw [if_pos h2, ih (i + 1) _ (by omega) (by omega), beq_iff_eq.2 h2, Bool.true_and, Bool.false_or]
        · rw [if_neg h2, ih (i + 1) _ (by omega) (by omega), beq_eq_false_iff_ne.2 h2, Bool.false_and, Bool.false_or, Bool.false_or]
    · simp only [if_neg h1]
      cases bad with
      | true =>
        rw [if_pos rfl, Bool.true_or, ih k true (by omega) (by omega), Bool.true_or]
      | false =>
        rw [if_neg (by decide)]
        by_cases h2 : (rd_T84 l (i : Int)).f1 = b
        · rw [if_pos h2, ih k _ (by omega) (by omega), beq_iff_eq.2 h2, Bool.true_and, Bool.false_or]
        · rw [if_neg h2, ih k _ (by omega) (by omega), beq_eq_false_iff_ne.2 h2, Bool.false_and, Bool.false_or, Bool.false_or]
theorem spec_AddClaim_is (l : List S84) (a b c d e : Int) (hl : l.length ≤ 2000000) : spec_AddClaim.F l a b c d e = some (addClaim l ⟨a, b, c, d, e⟩) := by
  have hls := lastC_at a l l.length 0 0 (by omega) (by omega) (fun j h1 h2 => by omega) (fun h1 => by omega)
  rw [List.drop_zero] at hls
  have h0 := spec_AddClaim_l0 l a b c d e hl l.length 0 0 (e != 0) (by omega) (by omega)
  rw [List.drop_zero] at h0
  have h0' : spec_AddClaim.L0 l 0 (e != 0) 0 a b c d e = _ := h0
  rw [spec_AddClaim.F_eq, h0', spec_AddClaim_end l _ _ _ a b c d e (by omega) hls.1 hl, ← add_spec]
  have e1 : (l.any fun y => y.f1 == b && y.f2 == c) = hasC l ⟨a, b, c, d, e⟩ := rfl
  rw [e1]
  congr 1
  by_cases h1 : e = 0
  · have e2 : (e != 0) = false := bne_eq_false_iff_eq.2 h1
    rw [e2, Bool.false_or]
    by_cases h2 : hasC l ⟨a, b, c, d, e⟩ = true ∨ ¬ areClaims (insC l (lastC a l 0 0) ⟨a, b, c, d, e⟩) = true
    · rw [if_pos h2, if_pos (.inr h2)]
    · rw [if_neg h2, if_neg (fun hh => hh.elim (fun h3 => h3 h1) h2)]
  · have e2 : (e != 0) = true := bne_iff_ne.2 h1
    rw [e2, Bool.true_or, if_pos (.inl rfl), if_pos (.inl h1)]

def stOk (s t : Int) : Bool := decide ((s = 0 ∧ (t = 1 ∨ t = 2)) ∨ (s = 1 ∧ t = 3))
theorem stLaw {X : Type} (s t : Int) (A B : X) : (if s = 0 then (if t = 1 then A else (if t = 2 then A else (if s = 1 then (if t = 3 then A else B) else B))) else (if s = 1 then (if t = 3 then A else B) else B)) = if stOk s t = true then A else B := by
  unfold stOk
  simp only [decide_eq_true_eq]
  repeat' split
  all_goals first
    | rfl
    | (exfalso; omega)
theorem stLaw2 {X : Type} (s t : Int) (f : Bool → X) : (if s = 0 then (if t = 1 then f (!true) else (if t = 2 then f (!true) else (if s = 1 then f (!(t == 3)) else f (!false)))) else (if s = 1 then f (!(t == 3)) else f (!false))) = f (!stOk s t) := by
  have e : ∀ c : Bool, (c = true ↔ (s = 0 ∧ (t = 1 ∨ t = 2)) ∨ (s = 1 ∧ t = 3)) → f (!c) = f (!stOk s t) := by
    intro c hc
    have : c = stOk s t := by rw [Bool.eq_iff_iff, hc, stOk, decide_eq_true_iff]
    rw [this]
  repeat' split
  all_goals (apply e; simp only [beq_iff_eq, Bool.false_eq_true, true_iff, false_iff]; omega)
def withSt (l : List S84) (j : Nat) (t : Int) : List S84 := l.set j ⟨(rd_T84 l (j : Int)).f0, (rd_T84 l (j : Int)).f1, (rd_T84 l (j : Int)).f2, (rd_T84 l (j : Int)).f3, t⟩
theorem withSt_len (l : List S84) (j : Nat) (t : Int) : (withSt l j t).length = l.length := by simp [withSt]
noncomputable def setAt (l : List S84) (j : Int) (t : Int) : List S84 × Bool :=
  if stOk (rd_T84 l j).f4 t = true then (if areClaims (withSt l j.toNat t) = true then (withSt l j.toNat t, true) else (l, false)) else (l, false)
noncomputable def setState (l : List S84) (id t : Int) : List S84 × Bool :=
  if idxF84 (fun x => x.f0 == id) l 0 < 0 then (l, false) else if areClaims l = true then setAt l (idxF84 (fun x => x.f0 == id) l 0) t else (l, false)
theorem setState_len (l : List S84) (id t : Int) : (setState l id t).1.length = l.length := by
  unfold setState setAt
  repeat' split
  all_goals simp [withSt_len]

theorem spec_FindClaim_l0 (l : List S84) (id : Int) (hn : l.length ≤ 1048576) : ∀ (d i : Nat), i + d = l.length → spec_FindClaim.L0 l id (i : Int) = some (idxF84 (fun x => x.f0 == id) (l.drop i) (i : Int))
  | 0, i, h => by rw [spec_FindClaim.L0_eq, if_neg (by omega), List.drop_of_length_le (by omega)]; rfl
  | d + 1, i, h => by
    rw [spec_FindClaim.L0_eq, if_pos (by omega), if_pos (by omega), wrap_succ i (by omega), spec_FindClaim_l0 l id hn d (i + 1) (by omega), dropClaim l i (by omega)]
    simp only [idxF84]
    by_cases c : (rd_T84 l (i : Int)).f0 = id
    · rw [if_pos c, if_pos (by simpa using c)]
    · rw [if_neg c, if_neg (by simpa using c)]
      rfl
theorem spec_FindClaim_is (l : List S84) (id : Int) (hn : l.length ≤ 1048576) : spec_FindClaim.F l id = some (idxF84 (fun x => x.f0 == id) l 0) := by
  rw [spec_FindClaim.F_eq]
  exact spec_FindClaim_l0 l id hn l.length 0 (by omega)

theorem spec_AreClaims_l1 (l : List S84) (hn : l.length ≤ 1048576) (i : Nat) (hi : i < l.length) (y0 y1 y3 : Int) : ∀ (d m : Nat), m + d = i → spec_AreClaims.L1 l (i : Int) (m : Int) y0 y1 (rd_T84 l (i : Int)).f2 y3 (rd_T84 l (i : Int)).f4 = if (decide ((rd_T84 l i).f4 ≠ 3) || allF (fun q : Nat => ¬ ((rd_T84 l q).f4 = 3 ∧ (rd_T84 l q).f2 = (rd_T84 l i).f2)) i m) = true then spec_AreClaims.L0 l ((i + 1 : Nat) : Int) else some false
  | 0, m, h => by
    rw [spec_AreClaims.L1_eq, if_neg (by omega), allF_end (by omega), Bool.or_true, if_pos rfl, wrap_succ i (by omega)]
  | d + 1, m, h => by
    have hm : m < i := by omega
    have hy := fun hc => allF_yes (p := fun q : Nat => ¬ ((rd_T84 l q).f4 = 3 ∧ (rd_T84 l q).f2 = (rd_T84 l i).f2)) (n := i) (i := m) hc
    rw [spec_AreClaims.L1_eq, if_pos (by omega), wrap_succ m (by omega), spec_AreClaims_l1 l hn i hi y0 y1 y3 d (m + 1) (by omega)]
    by_cases c0 : (rd_T84 l (i : Int)).f4 = 3
    · rw [if_pos c0, decide_eq_false (fun hh => hh c0), Bool.false_or, Bool.false_or, if_pos (by omega), if_pos (by omega)]
      by_cases c1 : (rd_T84 l (m : Int)).f4 = 3
      · by_cases c2 : (rd_T84 l (m : Int)).f2 = (rd_T84 l (i : Int)).f2
        · rw [if_pos c1, if_pos c2, allF_no hm (fun hh => hh ⟨c1, c2⟩), if_neg (by decide)]
        · rw [if_pos c1, if_neg c2, hy (fun hh => c2 hh.2)]
      · rw [if_neg c1, hy (fun hh => c1 hh.1)]
    · rw [if_neg c0, decide_eq_true c0, Bool.true_or, Bool.true_or]
theorem spec_AreClaims_l0 (l : List S84) (hn : l.length ≤ 1048576) : ∀ (d i : Nat), i + d = l.length → spec_AreClaims.L0 l (i : Int) = some (allF (okClaim l) l.length i && decide ((l.length : Int) ≤ 20))
  | 0, i, h => by rw [spec_AreClaims.L0_eq, if_neg (by omega), allF_end (by omega)]; rfl
  | d + 1, i, h => by
    have hi : i < l.length := by omega
    have ih := spec_AreClaims_l0 l hn d (i + 1) (by omega)
    have h1 : ∀ y0 y1 y3, spec_AreClaims.L1 l (i : Int) 0 y0 y1 (rd_T84 l (i : Int)).f2 y3 (rd_T84 l (i : Int)).f4 = if onceB l i = true then spec_AreClaims.L0 l ((i + 1 : Nat) : Int) else some false := fun y0 y1 y3 => spec_AreClaims_l1 l hn i hi y0 y1 y3 i 0 (by omega)
    rw [spec_AreClaims.L0_eq]
    have e1 : (i : Int) < (l.length : Int) := by omega
    have e2 : (0 : Int) ≤ (i : Int) := by omega
    have t1 : (if (true : Bool) = true then some false else spec_AreClaims.L0 l ((i + 1 : Nat) : Int)) = some false := rfl
    simp only [wrap_pred i (by omega), l1In, Option.bind_some, spec_AreClaims.J1_eq, h1, if_pos e1, if_pos e2, if_true]
    by_cases c0 : (i : Int) > 0
    · have e4 : (0 : Int) ≤ (i : Int) - 1 := by omega
      have e5 : (i : Int) - 1 < (l.length : Int) := by omega
      simp only [if_pos c0, if_pos e4, if_pos e5, decide_eq_true_eq]
      by_cases c1 : inR (rd_T84 l (i : Int)).f0 1 999 = true
      · rw [if_pos c1]
        by_cases c2 : inR (rd_T84 l (i : Int)).f1 1 999 = true
        · rw [if_pos c2]
          by_cases c3 : inR (rd_T84 l (i : Int)).f2 1 999 = true
          · rw [if_pos c3]
            by_cases c4 : inR (rd_T84 l (i : Int)).f3 0 100000 = true
            · rw [if_pos c4]
              by_cases c5 : inR (rd_T84 l (i : Int)).f4 0 3 = true
              · rw [if_pos c5]
                by_cases c6 : (rd_T84 l ((i : Int) - 1)).f0 ≥ (rd_T84 l (i : Int)).f0
                · rw [if_pos c6, allF_no hi (fun h => absurd (h.2.1 c0) (by omega))]
                  first | done | rfl | simp
                · rw [if_neg c6]
                  by_cases c7 : onceB l i = true
                  · rw [if_pos c7]
                    have hp_ : okClaim l i := ⟨c1, fun _ => by omega, c2, c3, c4, c5, c7⟩
                    rw [ih, allF_yes hp_]
                  · rw [if_neg c7, allF_no hi (fun h => c7 h.2.2.2.2.2.2)]
                    first | done | rfl | simp
              · rw [if_neg c5, allF_no hi (fun h => c5 h.2.2.2.2.2.1)]
                first | done | rfl | simp
            · rw [if_neg c4, allF_no hi (fun h => c4 h.2.2.2.2.1)]
              first | done | rfl | simp
          · rw [if_neg c3, allF_no hi (fun h => c3 h.2.2.2.1)]
            first | done | rfl | simp
        · rw [if_neg c2, allF_no hi (fun h => c2 h.2.2.1)]
          first | done | rfl | simp
      · rw [if_neg c1, allF_no hi (fun h => c1 h.1)]
        first | done | rfl | simp
    · simp only [if_neg c0, Bool.false_eq_true, if_false]
      by_cases c1 : inR (rd_T84 l (i : Int)).f0 1 999 = true
      · rw [if_pos c1]
        by_cases c2 : inR (rd_T84 l (i : Int)).f1 1 999 = true
        · rw [if_pos c2]
          by_cases c3 : inR (rd_T84 l (i : Int)).f2 1 999 = true
          · rw [if_pos c3]
            by_cases c4 : inR (rd_T84 l (i : Int)).f3 0 100000 = true
            · rw [if_pos c4]
              by_cases c5 : inR (rd_T84 l (i : Int)).f4 0 3 = true
              · rw [if_pos c5]
                by_cases c6 : onceB l i = true
                · rw [if_pos c6]
                  have hp_ : okClaim l i := ⟨c1, fun hh => absurd hh c0, c2, c3, c4, c5, c6⟩
                  rw [ih, allF_yes hp_]
                · rw [if_neg c6, allF_no hi (fun h => c6 h.2.2.2.2.2.2)]
                  first | done | rfl | simp
              · rw [if_neg c5, allF_no hi (fun h => c5 h.2.2.2.2.2.1)]
                first | done | rfl | simp
            · rw [if_neg c4, allF_no hi (fun h => c4 h.2.2.2.2.1)]
              first | done | rfl | simp
          · rw [if_neg c3, allF_no hi (fun h => c3 h.2.2.2.1)]
            first | done | rfl | simp
        · rw [if_neg c2, allF_no hi (fun h => c2 h.2.2.1)]
          first | done | rfl | simp
      · rw [if_neg c1, allF_no hi (fun h => c1 h.1)]
        first | done | rfl | simp
theorem spec_AreClaims_is (l : List S84) (hn : l.length ≤ 1048576) : spec_AreClaims.F l = some (areClaims l) := by
  rw [spec_AreClaims.F_eq, areClaims]
  exact spec_AreClaims_l0 l hn l.length 0 (by omega)

theorem spec_SetState_j (l : List S84) (t : Int) (j : Nat) (hj : j < l.length) (hn : l.length ≤ 1048576) : spec_SetState.J0 l t l (j : Int) false = some (setAt l (j : Int) t) := by
  have e1 : (0 : Int) ≤ (j : Int) := by omega
  have e2 : (j : Int) < (l.length : Int) := by omega
  have el : ([] : List S84).length + l.length < 3518437208883 := by simp only [List.length_nil]; omega
  have ha : ∀ m : List S84, m.length = l.length → spec_AreClaims.F m = some (areClaims m) := fun m hm => spec_AreClaims_is m (by omega)
  have hw : l.set j ⟨(rd_T84 l (j : Int)).f0, (rd_T84 l (j : Int)).f1, (rd_T84 l (j : Int)).f2, (rd_T84 l (j : Int)).f3, t⟩ = withSt l j t := rfl
  rw [spec_SetState.J0_eq, if_neg (by decide), if_pos e1, if_pos e2]
  simp only [if_pos e2, Option.bind_some, Int.toNat_natCast, hw, if_pos el, List.nil_append, ha _ (withSt_len l j t)]
  rw [stLaw, setAt, Int.toNat_natCast]
  repeat' split
  all_goals rfl
theorem spec_SetState_is (l : List S84) (id t : Int) (hn : l.length ≤ 1048576) : spec_SetState.F l id t = some (setState l id t) := by
  rw [spec_SetState.F_eq, Option.bind_some, if_pos (by simp only [List.length_nil]; omega), List.nil_append, Option.bind_some, spec_FindClaim_is l id hn, Option.bind_some, spec_AreClaims_is l hn, Option.bind_some, setState]
  rcases idxFClaim_at (fun x => x.f0 == id) l with ⟨h, h1⟩ | ⟨j, hj, h, h1, h2⟩
  · rw [h, if_pos (by omega), if_pos (by omega), spec_SetState.J0_eq, if_pos rfl]
  · rw [h, if_neg (by omega), if_neg (by omega)]
    by_cases c : areClaims l = true
    · rw [c, if_pos rfl, Bool.not_true]
      exact spec_SetState_j l t j hj hn
    · rw [if_neg c, spec_SetState.J0_eq, if_pos (by simpa using c)]

theorem l13Draw_l0 (b : List Int) : ∀ (d : Nat) (l : List S84) (x i h : Int), CO b i → x + d = 9 → 1 ≤ x → l.length ≤ 1048576 → ∃ l' i' h', spec_l13Draw.L0 l x b i h = some (l', i', h') ∧ CO b i' ∧ l'.length ≤ 1048576
  | 0, l, x, i, h, c, hx, h1, hl => by
    obtain ⟨r, i1, h1', e1, _, hr, c1⟩ := below_pos b i h 8 c (by omega) (by omega)
    rw [spec_l13Draw.L0_eq, e1, Option.bind_some]
    dsimp only
    rw [if_neg (by omega)]
    exact ⟨l, i1, h1', rfl, c1, hl⟩
  | d + 1, l, x, i, h, c, hx, h1, hl => by
    obtain ⟨r, i1, h1', e1, _, hr, c1⟩ := below_pos b i h 8 c (by omega) (by omega)
    rw [spec_l13Draw.L0_eq, e1, Option.bind_some]
    dsimp only
    by_cases hc : x ≤ r
    · obtain ⟨r2, i2, h2, e2, _, _, c2⟩ := below_pos b i1 h1' 5 c1 (by omega) (by omega)
      obtain ⟨r3, i3, h3, e3, _, _, c3⟩ := below_pos b i2 h2 3 c2 (by omega) (by omega)
      obtain ⟨r4, i4, h4, e4, _, _, c4⟩ := below_pos b i3 h3 60 c3 (by omega) (by omega)
      obtain ⟨r5, i5, h5, e5, _, _, c5⟩ := below_pos b i4 h4 4 c4 (by omega) (by omega)
      rw [if_pos hc, e2, Option.bind_some]
      dsimp only
      rw [e3, Option.bind_some]
      dsimp only
      rw [e4, Option.bind_some]
      dsimp only
      have hl2 := addClaim_len l ⟨wrap64 (2 * x), wrap64 (1 + r2), wrap64 (2 * wrap64 (1 + r3)), r4, 0⟩ hl
      rw [spec_AddClaim_is l _ _ _ _ _ (by omega), Option.bind_some, e5, Option.bind_some]
      dsimp only
      rw [spec_SetState_is _ _ _ hl2, Option.bind_some, show wrap64 (x + 1) = x + 1 from wrap_in _ (by omega)]
      exact l13Draw_l0 b d _ (x + 1) i5 h5 c5 (by omega) (by omega) (by rw [setState_len]; exact hl2)
    · rw [if_neg hc]
      exact ⟨l, i1, h1', rfl, c1, hl⟩
theorem l13Draw_is (b : List Int) (i h : Int) (c : CO b i) : ∃ l' i' h', spec_l13Draw.F b i h = some (l', i', h') ∧ CO b i' ∧ l'.length ≤ 1048576 := by
  rw [spec_l13Draw.F_eq]
  exact l13Draw_l0 b 8 [] 1 i h c (by omega) (by omega) (by simp)
theorem l13Any_is (b : List Int) (i h : Int) (c : CO b i) : ∃ l' i' h', spec_l13Any.F b i h = some (l', i', h') ∧ CO b i' ∧ l'.length ≤ 1048576 := by
  obtain ⟨l, i1, h1, e1, c1, hl⟩ := l13Draw_is b i h c
  rw [spec_l13Any.F_eq, e1, Option.bind_some]
  dsimp only
  by_cases h0 : (l.length : Int) = 0
  · rw [if_pos h0]
    exact ⟨l, i1, h1, rfl, c1, hl⟩
  · obtain ⟨r, i2, h2, e2, r0, r1, c2⟩ := below_pos b i1 h1 (l.length : Int) c1 (by omega) (by omega)
    obtain ⟨s, i3, h3, e3, _, _, c3⟩ := below_pos b i2 h2 10 c2 (by omega) (by omega)
    rw [if_neg h0, e2, Option.bind_some]
    dsimp only
    rw [e3, Option.bind_some]
    dsimp only
    by_cases s0 : s = 0
    · obtain ⟨v, i4, h4, e4, _, c4⟩ := l1Int_is b i3 h3 [0, 2, 999, 1000] c3 (by decide) (by decide)
      rw [if_pos s0, e4, Option.bind_some]
      dsimp only
      rw [if_pos r0, if_pos r1]
      exact ⟨_, i4, h4, rfl, c4, by rw [List.length_set]; exact hl⟩
    · rw [if_neg s0]
      by_cases s1 : s = 1
      · obtain ⟨v, i4, h4, e4, _, c4⟩ := l4Raw_is b i3 h3 c3
        rw [if_pos s1, e4, Option.bind_some]
        dsimp only
        rw [if_pos r0, if_pos r1]
        exact ⟨_, i4, h4, rfl, c4, by rw [List.length_set]; exact hl⟩
      · rw [if_neg s1]
        by_cases s2 : s = 2
        · obtain ⟨v, i4, h4, e4, _, c4⟩ := l1Int_is b i3 h3 [-1, 100000, 100001] c3 (by decide) (by decide)
          rw [if_pos s2, e4, Option.bind_some]
          dsimp only
          rw [if_pos r0, if_pos r1]
          exact ⟨_, i4, h4, rfl, c4, by rw [List.length_set]; exact hl⟩
        · rw [if_neg s2]
          by_cases s3 : s = 3
          · obtain ⟨v, i4, h4, e4, _, c4⟩ := l1Int_is b i3 h3 [-1, 3, 4] c3 (by decide) (by decide)
            rw [if_pos s3, e4, Option.bind_some]
            dsimp only
            rw [if_pos r0, if_pos r1]
            exact ⟨_, i4, h4, rfl, c4, by rw [List.length_set]; exact hl⟩
          · rw [if_neg s3]
            exact ⟨l, i3, h3, rfl, c3, hl⟩
theorem drawAddClaim_is (b : List Int) (hb : b.length ≤ 1048576) : ∃ l x0 x1 x2 x3 x4, spec_DrawAddClaim.F b = some (l, x0, x1, x2, x3, x4) ∧ l.length ≤ 1048576 := by
  obtain ⟨h0, e0, c0⟩ := l1New_is b hb
  obtain ⟨l, i1, h1, e1, c1, hl⟩ := l13Any_is b 0 h0 c0
  obtain ⟨r2, i2, h2, e2, _, _, c2⟩ := below_pos b i1 h1 18 c1 (by omega) (by omega)
  obtain ⟨r3, i3, h3, e3, _, _, c3⟩ := below_pos b i2 h2 7 c2 (by omega) (by omega)
  obtain ⟨r4, i4, h4, e4, _, _, c4⟩ := below_pos b i3 h3 4 c3 (by omega) (by omega)
  obtain ⟨r5, i5, h5, e5, _, _, c5⟩ := below_pos b i4 h4 60 c4 (by omega) (by omega)
  obtain ⟨r6, i6, h6, e6, c6⟩ := l1Once_is b i5 h5 8 c5 (by omega) (by omega)
  rw [spec_DrawAddClaim.F_eq, e0, Option.bind_some]
  dsimp only
  rw [e1, Option.bind_some]
  dsimp only
  rw [e2, Option.bind_some]
  dsimp only
  rw [e3, Option.bind_some]
  dsimp only
  rw [e4, Option.bind_some]
  dsimp only
  rw [e5, Option.bind_some]
  dsimp only
  rw [e6, Option.bind_some]
  dsimp only
  by_cases h : r6 = true
  · obtain ⟨r7, i7, h7, e7, _⟩ := below_pos b i6 h6 4 c6 (by omega) (by omega)
    rw [if_pos h, e7, Option.bind_some]
    exact ⟨l, _, _, _, _, _, rfl, hl⟩
  · rw [if_neg h]
    exact ⟨l, _, _, _, _, _, rfl, hl⟩
theorem drawSetState_is (b : List Int) (hb : b.length ≤ 1048576) : ∃ l x t, spec_DrawSetState.F b = some (l, x, t) ∧ l.length ≤ 1048576 := by
  obtain ⟨h0, e0, c0⟩ := l1New_is b hb
  obtain ⟨l, i1, h1, e1, c1, hl⟩ := l13Any_is b 0 h0 c0
  obtain ⟨r2, i2, h2, e2, _⟩ := below_pos b i1 h1 18 c1 (by omega) (by omega)
  obtain ⟨r3, i3, h3, e3, _⟩ := below_pos b 0 h0 6 c0 (by omega) (by omega)
  rw [spec_DrawSetState.F_eq, spec_DrawFindClaim.F_eq, e0, Option.bind_some]
  dsimp only
  rw [e1, Option.bind_some]
  dsimp only
  rw [e2, Option.bind_some, Option.bind_some, Option.bind_some]
  dsimp only
  rw [e3, Option.bind_some]
  exact ⟨l, _, _, rfl, hl⟩
theorem drawFirstProved_is (b : List Int) (hb : b.length ≤ 1048576) : ∃ l t, spec_DrawFirstProved.F b = some (l, t) ∧ l.length ≤ 1048576 := by
  obtain ⟨h0, e0, c0⟩ := l1New_is b hb
  obtain ⟨l, i1, h1, e1, c1, hl⟩ := l13Any_is b 0 h0 c0
  obtain ⟨r2, i2, h2, e2, _⟩ := below_pos b i1 h1 5 c1 (by omega) (by omega)
  rw [spec_DrawFirstProved.F_eq, spec_DrawClaimsFor.F_eq, e0, Option.bind_some]
  dsimp only
  rw [e1, Option.bind_some]
  dsimp only
  rw [e2, Option.bind_some, Option.bind_some]
  exact ⟨l, _, rfl, hl⟩

theorem inRange (a b c : Int) : impl_InRange.f a b c = some (inR a b c) := by
  unfold impl_InRange.f inR
  by_cases h : b ≤ a <;> simp [h]

theorem impl_AreClaimsW_l1 (l : List S84) (hn : l.length ≤ 4194304) (i : Nat) (hi : i < l.length) (y0 y1 y3 : Int) : ∀ (d m : Nat), m + d = i → impl_AreClaims.L1 l l (l.length : Int) (i : Int) (l.take i) ((l.take i).length : Int) (m : Int) y0 y1 (rd_T84 l (i : Int)).f2 y3 (rd_T84 l (i : Int)).f4 = if (decide ((rd_T84 l i).f4 ≠ 3) || allF (fun q : Nat => ¬ ((rd_T84 l q).f4 = 3 ∧ (rd_T84 l q).f2 = (rd_T84 l i).f2)) i m) = true then impl_AreClaims.L0 l l (l.length : Int) ((i + 1 : Nat) : Int) else some false
  | 0, m, h => by
    have hl : (l.take i).length = i := by rw [List.length_take]; omega
    rw [impl_AreClaims.L1_eq, hl, if_neg (by omega), allF_end (by omega), Bool.or_true, if_pos rfl, wrap_succ i (by omega)]
  | d + 1, m, h => by
    have hl : (l.take i).length = i := by rw [List.length_take]; omega
    have hm : m < i := by omega
    have hy := fun hc => allF_yes (p := fun q : Nat => ¬ ((rd_T84 l q).f4 = 3 ∧ (rd_T84 l q).f2 = (rd_T84 l i).f2)) (n := i) (i := m) hc
    have ih := impl_AreClaimsW_l1 l hn i hi y0 y1 y3 d (m + 1) (by omega)
    rw [impl_AreClaims.L1_eq, wrap_succ m (by omega), ih, hl, if_pos (by omega), if_pos (by omega), if_pos (by omega), rdClaim_take l i m hm]
    by_cases c0 : (rd_T84 l (i : Int)).f4 = 3
    · rw [if_pos c0, decide_eq_false (fun hh => hh c0), Bool.false_or, Bool.false_or]
      by_cases c1 : (rd_T84 l (m : Int)).f4 = 3
      · by_cases c2 : (rd_T84 l (i : Int)).f2 = (rd_T84 l (m : Int)).f2
        · rw [if_pos c1, if_pos c2, allF_no hm (fun hh => hh ⟨c1, c2.symm⟩), if_neg (by decide)]
        · rw [if_pos c1, if_neg c2, hy (fun hh => c2 hh.2.symm)]
      · rw [if_neg c1, hy (fun hh => c1 hh.1)]
    · rw [if_neg c0, decide_eq_true c0, Bool.true_or, Bool.true_or]
theorem impl_AreClaimsW_l0 (l : List S84) (hn : l.length ≤ 4194304) : ∀ (d i : Nat), i + d = l.length → impl_AreClaims.L0 l l (l.length : Int) (i : Int) = some (allF (okClaim l) l.length i)
  | 0, i, h => by rw [impl_AreClaims.L0_eq, if_neg (by omega), allF_end (by omega)]
  | d + 1, i, h => by
    have hi : i < l.length := by omega
    have ih := impl_AreClaimsW_l0 l hn d (i + 1) (by omega)
    have h1 : ∀ y0 y1 y3, impl_AreClaims.L1 l l (l.length : Int) (i : Int) (l.take i) ((l.take i).length : Int) 0 y0 y1 (rd_T84 l (i : Int)).f2 y3 (rd_T84 l (i : Int)).f4 = if onceB l i = true then impl_AreClaims.L0 l l (l.length : Int) ((i + 1 : Nat) : Int) else some false := fun y0 y1 y3 => impl_AreClaimsW_l1 l hn i hi y0 y1 y3 i 0 (by omega)
    have e1 : (i : Int) < (l.length : Int) := by omega
    have e2 : (0 : Int) ≤ (i : Int) := by omega
    have e3 : (i : Int) ≤ (l.length : Int) := by omega
    rw [impl_AreClaims.L0_eq]
    simp only [wrap_pred i (by omega), inRange, Option.bind_some, impl_AreClaims.J1_eq, Int.toNat_natCast, if_pos e1, if_pos e2, if_pos e3, h1, if_true]
    by_cases c0 : (i : Int) > 0
    · have e4 : (0 : Int) ≤ (i : Int) - 1 := by omega
      have e5 : (i : Int) - 1 < (l.length : Int) := by omega
      simp only [if_pos c0, if_pos e4, if_pos e5]
      by_cases c1 : inR (rd_T84 l (i : Int)).f0 1 999 = true
      · rw [if_pos c1]
        by_cases c2 : (rd_T84 l (i : Int)).f0 ≤ (rd_T84 l ((i : Int) - 1)).f0
        · rw [if_pos c2, allF_no hi (fun h => absurd (h.2.1 c0) (by omega))]
          first | done | rfl | simp
        · rw [if_neg c2]
          by_cases c3 : inR (rd_T84 l (i : Int)).f1 1 999 = true
          · rw [if_pos c3]
            by_cases c4 : inR (rd_T84 l (i : Int)).f2 1 999 = true
            · rw [if_pos c4]
              by_cases c5 : inR (rd_T84 l (i : Int)).f3 0 100000 = true
              · rw [if_pos c5]
                by_cases c6 : (!inR (rd_T84 l (i : Int)).f4 0 3) = true
                · rw [if_pos c6, allF_no hi (fun h => by have := h.2.2.2.2.2.1; rw [this] at c6; exact absurd c6 (by decide))]
                  first | done | rfl | simp
                · rw [if_neg c6]
                  by_cases c7 : onceB l i = true
                  · rw [if_pos c7]
                    have hp_ : okClaim l i := ⟨c1, fun _ => by omega, c3, c4, c5, by simpa using c6, c7⟩
                    rw [ih, allF_yes hp_]
                  · rw [if_neg c7, allF_no hi (fun h => c7 h.2.2.2.2.2.2)]
                    first | done | rfl | simp
              · rw [if_neg c5, allF_no hi (fun h => c5 h.2.2.2.2.1)]
                first | done | rfl | simp
            · rw [if_neg c4, allF_no hi (fun h => c4 h.2.2.2.1)]
              first | done | rfl | simp
          · rw [if_neg c3, allF_no hi (fun h => c3 h.2.2.1)]
            first | done | rfl | simp
      · rw [if_neg c1, allF_no hi (fun h => c1 h.1)]
        first | done | rfl | simp
    · simp only [if_neg c0]
      by_cases c1 : inR (rd_T84 l (i : Int)).f0 1 999 = true
      · rw [if_pos c1]
        by_cases c2 : inR (rd_T84 l (i : Int)).f1 1 999 = true
        · rw [if_pos c2]
          by_cases c3 : inR (rd_T84 l (i : Int)).f2 1 999 = true
          · rw [if_pos c3]
            by_cases c4 : inR (rd_T84 l (i : Int)).f3 0 100000 = true
            · rw [if_pos c4]
              by_cases c5 : (!inR (rd_T84 l (i : Int)).f4 0 3) = true
              · rw [if_pos c5, allF_no hi (fun h => by have := h.2.2.2.2.2.1; rw [this] at c5; exact absurd c5 (by decide))]
                first | done | rfl | simp
              · rw [if_neg c5]
                by_cases c6 : onceB l i = true
                · rw [if_pos c6]
                  have hp_ : okClaim l i := ⟨c1, fun hh => absurd hh c0, c2, c3, c4, by simpa using c5, c6⟩
                  rw [ih, allF_yes hp_]
                · rw [if_neg c6, allF_no hi (fun h => c6 h.2.2.2.2.2.2)]
                  first | done | rfl | simp
            · rw [if_neg c4, allF_no hi (fun h => c4 h.2.2.2.2.1)]
              first | done | rfl | simp
          · rw [if_neg c3, allF_no hi (fun h => c3 h.2.2.2.1)]
            first | done | rfl | simp
        · rw [if_neg c2, allF_no hi (fun h => c2 h.2.2.1)]
          first | done | rfl | simp
      · rw [if_neg c1, allF_no hi (fun h => c1 h.1)]
        first | done | rfl | simp
theorem impl_AreClaimsW_is (l : List S84) (hn : l.length ≤ 4194304) : impl_AreClaims.F l = some (areClaims l) := by
  rw [impl_AreClaims.F_eq, areClaims]
  by_cases h : (l.length : Int) > 20
  · rw [if_pos h, decide_eq_false (by omega), Bool.and_false]
  · rw [if_neg h, decide_eq_true (by omega), Bool.and_true]
    exact impl_AreClaimsW_l0 l hn l.length 0 (by omega)

theorem cloneClaim_is (l : List S84) (hn : l.length ≤ 4194304) : impl_Claim_122.f l = some l := by
  unfold impl_Claim_122.f
  rw [Option.bind_some, if_pos (by simp only [List.length_nil]; omega)]
  rfl

theorem impl_FindClaim_is (l : List S84) (id : Int) (hn : l.length ≤ 1048576) : impl_FindClaim.f l id = some (idxF84 (fun x => x.f0 == id) l 0) := rfl

theorem impl_AddClaim_l0 (l x6 : List S84) (a b c d e : Int) (hl : l.length ≤ 2000000) : ∀ (n i : Nat), i + n = l.length → impl_AddClaim.L0 l x6 (i : Int) a b c d e = impl_AddClaim.J2 l x6 ((i + leadC a (l.drop i) : Nat) : Int) a b c d e
  | 0, i, h => by rw [impl_AddClaim.L0_eq, if_neg (by omega), List.drop_of_length_le (by omega)]; rfl
  | n + 1, i, h => by
    rw [impl_AddClaim.L0_eq, if_pos (by omega), if_pos (by omega), wrap_succ i (by omega), impl_AddClaim_l0 l x6 a b c d e hl n (i + 1) (by omega), leadC_step a l i (by omega)]
    split <;> rfl
theorem impl_AddClaim_is (l : List S84) (a b c d e : Int) (hl : l.length ≤ 1048576) : impl_AddClaim.F l a b c d e = some (addClaim l ⟨a, b, c, d, e⟩) := by
  have hk := leadC_le a l
  have hlen := insC_len l (leadC a l) ⟨a, b, c, d, e⟩ hk
  have h0 := impl_AddClaim_l0 l l a b c d e (by omega) l.length 0 (by omega)
  rw [List.drop_zero, Nat.zero_add] at h0
  have h0' : impl_AddClaim.L0 l l 0 a b c d e = _ := h0
  have hc : impl_Claim_123.f l a b c d e = some (hasC l ⟨a, b, c, d, e⟩) := by
    rw [← has_idx]; rfl
  have hj : impl_AddClaim.J0 l l true a b c d e = some (l, false) := by rw [impl_AddClaim.J0_eq, if_pos rfl]
  rw [impl_AddClaim.F_eq, cloneClaim_is l (by omega), Option.bind_some, addClaim]
  by_cases h1 : e = 0
  · rw [if_pos h1, impl_FindClaim_is l a hl, Option.bind_some, hc, Option.bind_some]
    by_cases h2 : idxF84 (fun x => x.f0 == a) l 0 ≥ 0
    · rw [if_pos h2, hj]
      have h3 : ¬ areClaims (insC l (leadC a l) ⟨a, b, c, d, e⟩) = true := by
        intro h4
        have ho := insC_order hk h4
        rcases idxFClaim_at (fun x => x.f0 == a) l with ⟨h5, _⟩ | ⟨j, h5, _, h6, _⟩
        · omega
        · have h7 : (rd_T84 l (j : Int)).f0 = a := by simpa using h6
          have h8 := ho j h5
          rcases Nat.lt_or_ge j (leadC a l) with h9 | h9
          · have := h8.1 h9
            have h10 : (rd_T84 l (j : Int)).f0 < a := this
            omega
          · have := h8.2 h9
            have h10 : a < (rd_T84 l (j : Int)).f0 := this
            omega
      rw [if_pos (.inr (.inr h3))]
    · rw [if_neg h2]
      by_cases h3 : hasC l ⟨a, b, c, d, e⟩ = true
      · rw [h3, hj, if_pos (.inr (.inl rfl))]
      · rw [Bool.eq_false_iff.2 h3, impl_AddClaim.J0_eq, if_neg (by decide), h0', impl_AddClaim.J2_eq, impl_Claim_125.f, if_pos ⟨by omega, by omega, by simp, by rw [List.length_singleton]; omega⟩, Option.bind_some, Int.toNat_natCast]
        have e1 : l.take (leadC a l) ++ [(⟨a, b, c, d, e⟩ : S84)] ++ l.drop (leadC a l) = insC l (leadC a l) ⟨a, b, c, d, e⟩ := rfl
        rw [e1, impl_AreClaimsW_is _ (by omega), Option.bind_some]
        by_cases h4 : areClaims (insC l (leadC a l) ⟨a, b, c, d, e⟩) = true
        · rw [if_pos h4, if_neg (fun hh => hh.elim (fun h5 => h5 h1) (fun h5 => h5.elim (fun h6 => by cases h6) (fun h6 => h6 h4)))]
        · rw [if_neg h4, cloneClaim_is l (by omega), Option.bind_some, if_pos (.inr (.inr h4))]
  · rw [if_neg h1, hj, if_pos (.inl h1)]

theorem impl_AreClaims_l1 (l : List S84) (hn : l.length ≤ 1048576) (i : Nat) (hi : i < l.length) (y0 y1 y3 : Int) : ∀ (d m : Nat), m + d = i → impl_AreClaims.L1 l l (l.length : Int) (i : Int) (l.take i) ((l.take i).length : Int) (m : Int) y0 y1 (rd_T84 l (i : Int)).f2 y3 (rd_T84 l (i : Int)).f4 = if (decide ((rd_T84 l i).f4 ≠ 3) || allF (fun q : Nat => ¬ ((rd_T84 l q).f4 = 3 ∧ (rd_T84 l q).f2 = (rd_T84 l i).f2)) i m) = true then impl_AreClaims.L0 l l (l.length : Int) ((i + 1 : Nat) : Int) else some false
  | 0, m, h => by
    have hl : (l.take i).length = i := by rw [List.length_take]; omega
    rw [impl_AreClaims.L1_eq, hl, if_neg (by omega), allF_end (by omega), Bool.or_true, if_pos rfl, wrap_succ i (by omega)]
  | d + 1, m, h => by
    have hl : (l.take i).length = i := by rw [List.length_take]; omega
    have hm : m < i := by omega
    have hy := fun hc => allF_yes (p := fun q : Nat => ¬ ((rd_T84 l q).f4 = 3 ∧ (rd_T84 l q).f2 = (rd_T84 l i).f2)) (n := i) (i := m) hc
    have ih := impl_AreClaims_l1 l hn i hi y0 y1 y3 d (m + 1) (by omega)
    rw [impl_AreClaims.L1_eq, wrap_succ m (by omega), ih, hl, if_pos (by omega), if_pos (by omega), if_pos (by omega), rdClaim_take l i m hm]
    by_cases c0 : (rd_T84 l (i : Int)).f4 = 3
    · rw [if_pos c0, decide_eq_false (fun hh => hh c0), Bool.false_or, Bool.false_or]
      by_cases c1 : (rd_T84 l (m : Int)).f4 = 3
      · by_cases c2 : (rd_T84 l (i : Int)).f2 = (rd_T84 l (m : Int)).f2
        · rw [if_pos c1, if_pos c2, allF_no hm (fun hh => hh ⟨c1, c2.symm⟩), if_neg (by decide)]
        · rw [if_pos c1, if_neg c2, hy (fun hh => c2 hh.2.symm)]
      · rw [if_neg c1, hy (fun hh => c1 hh.1)]
    · rw [if_neg c0, decide_eq_true c0, Bool.true_or, Bool.true_or]
theorem impl_AreClaims_l0 (l : List S84) (hn : l.length ≤ 1048576) : ∀ (d i : Nat), i + d = l.length → impl_AreClaims.L0 l l (l.length : Int) (i : Int) = some (allF (okClaim l) l.length i)
  | 0, i, h => by rw [impl_AreClaims.L0_eq, if_neg (by omega), allF_end (by omega)]
  | d + 1, i, h => by
    have hi : i < l.length := by omega
    have ih := impl_AreClaims_l0 l hn d (i + 1) (by omega)
    have h1 : ∀ y0 y1 y3, impl_AreClaims.L1 l l (l.length : Int) (i : Int) (l.take i) ((l.take i).length : Int) 0 y0 y1 (rd_T84 l (i : Int)).f2 y3 (rd_T84 l (i : Int)).f4 = if onceB l i = true then impl_AreClaims.L0 l l (l.length : Int) ((i + 1 : Nat) : Int) else some false := fun y0 y1 y3 => impl_AreClaims_l1 l hn i hi y0 y1 y3 i 0 (by omega)
    have e1 : (i : Int) < (l.length : Int) := by omega
    have e2 : (0 : Int) ≤ (i : Int) := by omega
    have e3 : (i : Int) ≤ (l.length : Int) := by omega
    rw [impl_AreClaims.L0_eq]
    simp only [wrap_pred i (by omega), inRange, Option.bind_some, impl_AreClaims.J1_eq, Int.toNat_natCast, if_pos e1, if_pos e2, if_pos e3, h1, if_true]
    by_cases c0 : (i : Int) > 0
    · have e4 : (0 : Int) ≤ (i : Int) - 1 := by omega
      have e5 : (i : Int) - 1 < (l.length : Int) := by omega
      simp only [if_pos c0, if_pos e4, if_pos e5]
      by_cases c1 : inR (rd_T84 l (i : Int)).f0 1 999 = true
      · rw [if_pos c1]
        by_cases c2 : (rd_T84 l (i : Int)).f0 ≤ (rd_T84 l ((i : Int) - 1)).f0
        · rw [if_pos c2, allF_no hi (fun h => absurd (h.2.1 c0) (by omega))]
          first | done | rfl | simp
        · rw [if_neg c2]
          by_cases c3 : inR (rd_T84 l (i : Int)).f1 1 999 = true
          · rw [if_pos c3]
            by_cases c4 : inR (rd_T84 l (i : Int)).f2 1 999 = true
            · rw [if_pos c4]
              by_cases c5 : inR (rd_T84 l (i : Int)).f3 0 100000 = true
              · rw [if_pos c5]
                by_cases c6 : (!inR (rd_T84 l (i : Int)).f4 0 3) = true
                · rw [if_pos c6, allF_no hi (fun h => by have := h.2.2.2.2.2.1; rw [this] at c6; exact absurd c6 (by decide))]
                  first | done | rfl | simp
                · rw [if_neg c6]
                  by_cases c7 : onceB l i = true
                  · rw [if_pos c7]
                    have hp_ : okClaim l i := ⟨c1, fun _ => by omega, c3, c4, c5, by simpa using c6, c7⟩
                    rw [ih, allF_yes hp_]
                  · rw [if_neg c7, allF_no hi (fun h => c7 h.2.2.2.2.2.2)]
                    first | done | rfl | simp
              · rw [if_neg c5, allF_no hi (fun h => c5 h.2.2.2.2.1)]
                first | done | rfl | simp
            · rw [if_neg c4, allF_no hi (fun h => c4 h.2.2.2.1)]
              first | done | rfl | simp
          · rw [if_neg c3, allF_no hi (fun h => c3 h.2.2.1)]
            first | done | rfl | simp
      · rw [if_neg c1, allF_no hi (fun h => c1 h.1)]
        first | done | rfl | simp
    · simp only [if_neg c0]
      by_cases c1 : inR (rd_T84 l (i : Int)).f0 1 999 = true
      · rw [if_pos c1]
        by_cases c2 : inR (rd_T84 l (i : Int)).f1 1 999 = true
        · rw [if_pos c2]
          by_cases c3 : inR (rd_T84 l (i : Int)).f2 1 999 = true
          · rw [if_pos c3]
            by_cases c4 : inR (rd_T84 l (i : Int)).f3 0 100000 = true
            · rw [if_pos c4]
              by_cases c5 : (!inR (rd_T84 l (i : Int)).f4 0 3) = true
              · rw [if_pos c5, allF_no hi (fun h => by have := h.2.2.2.2.2.1; rw [this] at c5; exact absurd c5 (by decide))]
                first | done | rfl | simp
              · rw [if_neg c5]
                by_cases c6 : onceB l i = true
                · rw [if_pos c6]
                  have hp_ : okClaim l i := ⟨c1, fun hh => absurd hh c0, c2, c3, c4, by simpa using c5, c6⟩
                  rw [ih, allF_yes hp_]
                · rw [if_neg c6, allF_no hi (fun h => c6 h.2.2.2.2.2.2)]
                  first | done | rfl | simp
            · rw [if_neg c4, allF_no hi (fun h => c4 h.2.2.2.2.1)]
              first | done | rfl | simp
          · rw [if_neg c3, allF_no hi (fun h => c3 h.2.2.2.1)]
            first | done | rfl | simp
        · rw [if_neg c2, allF_no hi (fun h => c2 h.2.2.1)]
          first | done | rfl | simp
      · rw [if_neg c1, allF_no hi (fun h => c1 h.1)]
        first | done | rfl | simp
theorem impl_AreClaims_is (l : List S84) (hn : l.length ≤ 1048576) : impl_AreClaims.F l = some (areClaims l) := by
  rw [impl_AreClaims.F_eq, areClaims]
  by_cases h : (l.length : Int) > 20
  · rw [if_pos h, decide_eq_false (by omega), Bool.and_false]
  · rw [if_neg h, decide_eq_true (by omega), Bool.and_true]
    exact impl_AreClaims_l0 l hn l.length 0 (by omega)

def claimsFor : List S84 → Int → List Int
  | [], _ => []
  | x :: r, t => if x.f2 = t then x.f0 :: claimsFor r t else claimsFor r t
theorem claimsFor_len : ∀ (l : List S84) (t : Int), (claimsFor l t).length ≤ l.length
  | [], t => Nat.le_refl _
  | x :: r, t => by
    have := claimsFor_len r t
    simp only [claimsFor]
    split <;> simp only [List.length_cons] <;> omega

theorem impl_ClaimsFor_l0 (l : List S84) (t : Int) (hn : l.length ≤ 1048576) : ∀ (d i : Nat) (acc : List Int), i + d = l.length → acc.length ≤ i → impl_ClaimsFor.L0 t acc l (l.length : Int) (i : Int) = some (acc ++ claimsFor (l.drop i) t)
  | 0, i, acc, h, ha => by
    rw [impl_ClaimsFor.L0_eq, if_neg (by omega), List.drop_of_length_le (by omega)]
    simp [claimsFor]
  | d + 1, i, acc, h, ha => by
    rw [impl_ClaimsFor.L0_eq, if_pos (by omega), if_pos (by omega), if_pos (by omega), wrap_succ i (by omega), dropClaim l i (by omega)]
    simp only [claimsFor]
    by_cases c : (rd_T84 l (i : Int)).f2 = t
    · rw [if_pos c, if_pos c, if_pos (by omega), impl_ClaimsFor_l0 l t hn d (i + 1) _ (by omega) (by simp; omega)]
      simp
    · rw [if_neg c, if_neg c, impl_ClaimsFor_l0 l t hn d (i + 1) _ (by omega) (by omega)]
theorem impl_ClaimsFor_is (l : List S84) (t : Int) (hn : l.length ≤ 1048576) : impl_ClaimsFor.F l t = some (claimsFor l t) := by
  rw [impl_ClaimsFor.F_eq]
  exact impl_ClaimsFor_l0 l t hn l.length 0 [] (by omega) (by simp)

theorem impl_SetState_j (l : List S84) (t : Int) (j : Nat) (hj : j < l.length) (hn : l.length ≤ 1048576) : impl_SetState.J0 l t l (j : Int) false = some (setAt l (j : Int) t) := by
  have e1 : (0 : Int) ≤ (j : Int) := by omega
  have e2 : (j : Int) < (l.length : Int) := by omega
  rw [impl_SetState.J0_eq, if_neg (by decide), if_pos e1, if_pos e2, stLaw2 _ _ (fun b => impl_SetState.J1 l t l (j : Int) b), setAt]
  by_cases c : stOk (rd_T84 l (j : Int)).f4 t = true
  · have hw : l.set j ⟨(rd_T84 l (j : Int)).f0, (rd_T84 l (j : Int)).f1, (rd_T84 l (j : Int)).f2, (rd_T84 l (j : Int)).f3, t⟩ = withSt l j t := rfl
    rw [if_pos c, c, Bool.not_true, impl_SetState.J1_eq, if_neg (by decide), if_pos e1, if_pos e2, Int.toNat_natCast, hw, Option.bind_some, impl_AreClaims_is _ (by rw [withSt_len]; exact hn), Option.bind_some, cloneClaim_is l (by omega), Option.bind_some]
    split <;> rfl
  · have c' : stOk (rd_T84 l (j : Int)).f4 t = false := by simpa using c
    rw [if_neg c, c', Bool.not_false, impl_SetState.J1_eq, if_pos rfl]
theorem impl_SetState_is (l : List S84) (id t : Int) (hn : l.length ≤ 1048576) : impl_SetState.F l id t = some (setState l id t) := by
  rw [impl_SetState.F_eq, cloneClaim_is l (by omega), Option.bind_some, impl_FindClaim_is l id hn, Option.bind_some, impl_AreClaims_is l hn, Option.bind_some, setState]
  rcases idxFClaim_at (fun x => x.f0 == id) l with ⟨h, h1⟩ | ⟨j, hj, h, h1, h2⟩
  · rw [h, if_pos (by omega), if_pos (by omega), impl_SetState.J0_eq, if_pos rfl]
  · rw [h, if_neg (by omega), if_neg (by omega)]
    by_cases c : areClaims l = true
    · rw [c, if_pos rfl, Bool.not_true]
      exact impl_SetState_j l t j hj hn
    · rw [if_neg c, impl_SetState.J0_eq, if_pos (by simpa using c)]

def better (x : S84) : Option S84 → Bool
  | none => true
  | some y => decide (x.f3 < y.f3)
def firstP (t : Int) : List S84 → Option S84 → Option S84
  | [], b => b
  | x :: r, b => firstP t r (if x.f2 = t ∧ x.f4 = 1 ∧ better x b = true then some x else b)
def firstId : Option S84 → Int
  | none => 0
  | some y => y.f0
def firstProved (l : List S84) (t : Int) : Int := firstId (firstP t l none)

theorem impl_FirstProved_l0 (l : List S84) (t : Int) (hn : l.length ≤ 1048576) : ∀ (d i : Nat) (b : Option S84) (y0 y1 y2 y3 y4 : Int), i + d = l.length → (b = none → y0 = 0) → (∀ y, b = some y → y0 = y.f0 ∧ y3 = y.f3) →
    impl_FirstProved.L0 t b.isSome l (l.length : Int) (i : Int) y0 y1 y2 y3 y4 = some (firstId (firstP t (l.drop i) b))
  | 0, i, b, y0, y1, y2, y3, y4, h, h1, h2 => by
    rw [impl_FirstProved.L0_eq, if_neg (by omega), List.drop_of_length_le (by omega)]
    simp only [firstP]
    cases b with
    | none => rw [h1 rfl]; rfl
    | some y => rw [(h2 y rfl).1]; rfl
  | d + 1, i, b, y0, y1, y2, y3, y4, h, h1, h2 => by
    have hi : i < l.length := by omega
    have ih := fun b y0 y1 y2 y3 y4 h1 h2 => impl_FirstProved_l0 l t hn d (i + 1) b y0 y1 y2 y3 y4 (by omega) h1 h2
    have ihn := ih (some (rd_T84 l (i : Int))) (rd_T84 l (i : Int)).f0 (rd_T84 l (i : Int)).f1 (rd_T84 l (i : Int)).f2 (rd_T84 l (i : Int)).f3 (rd_T84 l (i : Int)).f4 (fun hh => by cases hh) (fun y hy => by injection hy with hy; rw [hy]; exact ⟨rfl, rfl⟩)
    rw [Option.isSome_some] at ihn
    have iho := ih b y0 y1 y2 y3 y4 h1 h2
    rw [impl_FirstProved.L0_eq, if_pos (by omega), if_pos (by omega), if_pos (by omega), dropClaim l i hi]
    simp only [wrap_succ i (by omega), firstP]
    by_cases c1 : (rd_T84 l (i : Int)).f2 = t
    · by_cases c2 : (rd_T84 l (i : Int)).f4 = 1
      · cases b with
        | none =>
          rw [if_pos c1, if_pos c2, if_neg (by simp), ihn, if_pos ⟨c1, c2, rfl⟩]
        | some y =>
          have e3 := (h2 y rfl).2
          by_cases c4 : (rd_T84 l (i : Int)).f3 < y3
          · rw [if_pos c1, if_pos c2, if_pos (show (some y).isSome = true from rfl), if_pos c4, ihn, if_pos ⟨c1, c2, decide_eq_true (by rw [← e3]; exact c4)⟩]
          · rw [if_pos c1, if_pos c2, if_pos (show (some y).isSome = true from rfl), if_neg c4, iho, if_neg (fun hh => c4 (by rw [e3]; exact of_decide_eq_true hh.2.2))]
      · rw [if_pos c1, if_neg c2, iho, if_neg (fun hh => c2 hh.2.1)]
    · rw [if_neg c1, iho, if_neg (fun hh => c1 hh.1)]
theorem impl_FirstProved_is (l : List S84) (t : Int) (hn : l.length ≤ 1048576) : impl_FirstProved.F l t = some (firstProved l t) := by
  rw [impl_FirstProved.F_eq]
  exact impl_FirstProved_l0 l t hn l.length 0 none 0 0 0 0 0 (by omega) (fun _ => rfl) (fun y hy => by cases hy)

theorem claims_one {l : List S84} (h : areClaims l = true) (i j : Nat) (hi : i < l.length) (hj : j < l.length) (e : (rd_T84 l (i : Int)).f0 = (rd_T84 l (j : Int)).f0) : i = j := by
  rcases Nat.lt_trichotomy i j with c | c | c
  · have := claims_less h i j c hj
    omega
  · exact c
  · have := claims_less h j i c hi
    omega
theorem find_at {l : List S84} (h : areClaims l = true) (i : Nat) (hi : i < l.length) (q : Int) (e : (rd_T84 l (i : Int)).f0 = q) : idxF84 (fun x => x.f0 == q) l 0 = (i : Int) := by
  rcases idxFClaim_at (fun x => x.f0 == q) l with ⟨_, h1⟩ | ⟨j, hj, h1, h2, _⟩
  · have hm : rd_T84 l (i : Int) ∈ l := by
      rw [rdClaim_at, getD_get l i _ hi]
      exact List.getElem_mem hi
    exact absurd (by simpa using e) (h1 _ hm)
  · have h3 : (rd_T84 l (j : Int)).f0 = q := by simpa using h2
    rw [h1, claims_one h i j hi hj (by omega)]
theorem firstP_min (t : Int) : ∀ (l : List S84) (b : Option S84) (y : S84), firstP t l b = some y → (y ∈ l ∨ b = some y) ∧ (∀ x ∈ l, x.f2 = t → x.f4 = 1 → y.f3 ≤ x.f3) ∧ (∀ z, b = some z → y.f3 ≤ z.f3)
  | [], b, y, h => by
    rw [firstP] at h
    refine ⟨.inr h, (fun x hx => by cases hx), fun z hz => ?_⟩
    rw [h] at hz
    cases hz
    exact Int.le_refl _
  | x :: r, b, y, h => by
    rw [firstP] at h
    by_cases c : x.f2 = t ∧ x.f4 = 1 ∧ better x b = true
    · rw [if_pos c] at h
      obtain ⟨h1, h2, h3⟩ := firstP_min t r _ y h
      have h4 := h3 x rfl
      refine ⟨.inl ?_, fun z hz e1 e2 => ?_, fun z hz => ?_⟩
      · rcases h1 with h1 | h1
        · exact List.mem_cons_of_mem _ h1
        · cases h1
          exact List.mem_cons_self ..
      · rcases List.mem_cons.1 hz with e | e
        · rw [e]
          exact h4
        · exact h2 z e e1 e2
      · have h5 := c.2.2
        rw [hz, better, decide_eq_true_iff] at h5
        omega
    · rw [if_neg c] at h
      obtain ⟨h1, h2, h3⟩ := firstP_min t r _ y h
      refine ⟨?_, fun z hz e1 e2 => ?_, h3⟩
      · rcases h1 with h1 | h1
        · exact .inl (List.mem_cons_of_mem _ h1)
        · exact .inr h1
      · rcases List.mem_cons.1 hz with e | e
        · subst e
          cases hb : b with
          | none => exact absurd ⟨e1, e2, by rw [hb]; rfl⟩ c
          | some w =>
            have h5 := h3 w hb
            have h6 : ¬ z.f3 < w.f3 := fun h7 => c ⟨e1, e2, by rw [hb, better, decide_eq_true_iff]; exact h7⟩
            omega
        · exact h2 z e e1 e2
theorem first_min {l : List S84} {t : Int} (h : areClaims l = true) (h0 : ¬ firstProved l t = 0) : ∃ j : Nat, j < l.length ∧ idxF84 (fun x => x.f0 == firstProved l t) l 0 = (j : Int) ∧ ∀ i : Nat, i < l.length → (rd_T84 l (i : Int)).f2 = t → (rd_T84 l (i : Int)).f4 = 1 → (rd_T84 l (j : Int)).f3 ≤ (rd_T84 l (i : Int)).f3 := by
  cases hp : firstP t l none with
  | none => exact absurd (by rw [firstProved, hp]; rfl) h0
  | some y =>
    obtain ⟨h1, h2, _⟩ := firstP_min t l none y hp
    rcases h1 with h1 | h1
    · obtain ⟨j, hj, e⟩ := mem_rdC h1
      refine ⟨j, hj, ?_, fun i hi e1 e2 => ?_⟩
      · rw [show firstProved l t = y.f0 by rw [firstProved, hp]; rfl]
        exact find_at h j hj _ (by rw [e])
      · have hm : rd_T84 l (i : Int) ∈ l := by
          rw [rdClaim_at, getD_get l i _ hi]
          exact List.getElem_mem hi
        rw [e]
        exact h2 _ hm e1 e2
    · cases h1
theorem mem_claimsFor : ∀ (l : List S84) (t : Int) (x : S84), x ∈ l → x.f2 = t → x.f0 ∈ claimsFor l t
  | y :: r, t, x, h, e => by
    rw [claimsFor]
    rcases List.mem_cons.1 h with h1 | h1
    · rw [← h1, if_pos e]
      exact List.mem_cons_self ..
    · have := mem_claimsFor r t x h1 e
      split
      · exact List.mem_cons_of_mem _ this
      · exact this
theorem addClaim_yes {l : List S84} {x : S84} (h : (addClaim l x).2 = true) : addClaim l x = (insC l (leadC x.f0 l) x, true) ∧ areClaims (insC l (leadC x.f0 l) x) = true ∧ x.f4 = 0 := by
  unfold addClaim at h ⊢
  by_cases c : ¬ x.f4 = 0 ∨ hasC l x = true ∨ ¬ areClaims (insC l (leadC x.f0 l) x) = true
  · rw [if_pos c] at h
    cases h
  · rw [if_neg c]
    exact ⟨rfl, Classical.byContradiction (fun hh => c (.inr (.inr hh))), Classical.byContradiction (fun hh => c (.inl hh))⟩
theorem addClaim_no {l : List S84} {x : S84} (h : ¬ (addClaim l x).2 = true) : addClaim l x = (l, false) := by
  unfold addClaim at h ⊢
  by_cases c : ¬ x.f4 = 0 ∨ hasC l x = true ∨ ¬ areClaims (insC l (leadC x.f0 l) x) = true
  · rw [if_pos c]
  · rw [if_neg c] at h
    exact absurd rfl h
theorem mem_insC (l : List S84) (k : Nat) (x : S84) : x ∈ insC l k x := by
  unfold insC
  simp
theorem addClaim_again (l : List S84) (k : Nat) (x z : S84) (e1 : z.f1 = x.f1) (e2 : z.f2 = x.f2) : (addClaim (insC l k x) z).2 = false := by
  have h : hasC (insC l k x) z = true := by
    unfold hasC
    rw [List.any_eq_true]
    exact ⟨x, mem_insC l k x, by rw [e1, e2]; simp⟩
  unfold addClaim
  rw [if_pos (.inr (.inl h))]
theorem setState_yes {l : List S84} {q t : Int} (h : (setState l q t).2 = true) : ∃ j : Nat, j < l.length ∧ setState l q t = (withSt l j t, true) ∧ areClaims (withSt l j t) = true ∧ stOk (rd_T84 l (j : Int)).f4 t = true ∧ (rd_T84 l (j : Int)).f0 = q := by
  unfold setState at h ⊢
  rcases idxFClaim_at (fun x => x.f0 == q) l with ⟨h0, _⟩ | ⟨j, hj, h0, h1, _⟩
  · rw [h0, if_pos (by omega)] at h
    cases h
  · have h2 : (rd_T84 l (j : Int)).f0 = q := by simpa using h1
    rw [h0, if_neg (by omega)] at h ⊢
    by_cases c1 : areClaims l = true
    · rw [if_pos c1] at h ⊢
      unfold setAt at h ⊢
      by_cases c2 : stOk (rd_T84 l (j : Int)).f4 t = true
      · rw [if_pos c2, Int.toNat_natCast] at h ⊢
        by_cases c3 : areClaims (withSt l j t) = true
        · rw [if_pos c3]
          exact ⟨j, hj, rfl, c3, c2, h2⟩
        · rw [if_neg c3] at h
          cases h
      · rw [if_neg c2] at h
        cases h
    · rw [if_neg c1] at h
      cases h
theorem withSt_at (l : List S84) (j : Nat) (t : Int) (hj : j < l.length) : rd_T84 (withSt l j t) (j : Int) = ⟨(rd_T84 l (j : Int)).f0, (rd_T84 l (j : Int)).f1, (rd_T84 l (j : Int)).f2, (rd_T84 l (j : Int)).f3, t⟩ := by
  rw [rdClaim_at, getD_get _ j _ (by rw [withSt_len]; exact hj)]
  simp only [withSt, List.getElem_set_self]

theorem contains_l0 (l : List Int) (x : Int) (hl : l.length ≤ 1048576) : ∀ (d i : Nat), i + d = l.length → x ∈ l.drop i → laws_contains.L0 l x (i : Int) = some true
  | 0, i, h, hx => by
    rw [List.drop_of_length_le (by omega)] at hx
    cases hx
  | d + 1, i, h, hx => by
    rw [laws_contains.L0_eq, if_pos (by omega), if_pos (by omega), wrap_succ i (by omega)]
    by_cases e : rd l (i : Int) = x
    · rw [if_pos e]
    · rw [if_neg e]
      refine contains_l0 l x hl d (i + 1) (by omega) ?_
      rw [dropInt l i (by omega)] at hx
      rcases List.mem_cons.1 hx with h1 | h1
      · exact absurd h1.symm e
      · exact h1
theorem contains_yes (l : List Int) (x : Int) (hl : l.length ≤ 1048576) (h : x ∈ l) : laws_contains.F l x = some true := by
  rw [laws_contains.F_eq]
  exact contains_l0 l x hl l.length 0 (by omega) (by rw [List.drop_zero]; exact h)

theorem claims_l0 (x9 x12 l : List S84) (t : Int) (hx : x12.length = x9.length) (hl : l.length ≤ 1048576) : ∀ (d i : Nat), i + d = l.length → laws_FnClaims.L0 x9 x12 l t (firstProved l t) (i : Int) = some true := by
  have hend : ∀ i : Int, laws_FnClaims.J3 x9 x12 l t (firstProved l t) i false = some true := by
    intro i
    rw [laws_FnClaims.J3_eq, if_neg (by decide), hx, beq_self_eq_true]
  intro d
  induction d with
  | zero =>
    intro i h
    rw [laws_FnClaims.L0_eq, if_neg (by omega)]
    exact hend _
  | succ d ih =>
    intro i h
    rw [laws_FnClaims.L0_eq, if_pos (by omega)]
    by_cases h0 : firstProved l t = 0
    · rw [if_pos h0]
      exact hend _
    · rw [if_neg h0, spec_AreClaims_is l hl, Option.bind_some]
      by_cases ha : areClaims l = true
      · rw [ha, laws_FnClaims.J3_eq, if_pos rfl, if_pos (by omega), if_pos (by omega), wrap_succ i (by omega)]
        have ih' := ih (i + 1) (by omega)
        by_cases c1 : (rd_T84 l (i : Int)).f2 = t
        · rw [if_pos c1]
          by_cases c2 : (rd_T84 l (i : Int)).f4 = 1
          · obtain ⟨j, hj, e, hm⟩ := first_min ha h0
            have h5 := hm i (by omega) c1 c2
            rw [if_pos c2, impl_FindClaim_is l _ hl, Option.bind_some, e, if_pos (by omega), if_pos (by omega), if_neg (by omega)]
            exact ih'
          · rw [if_neg c2]
            exact ih'
        · rw [if_neg c1]
          exact ih'
      · rw [Bool.eq_false_iff.2 ha]
        exact hend _
theorem claims_J1 (b : List Int) (hb : b.length ≤ 1048576) (x9 x12 : List S84) (hx : x12.length = x9.length) : laws_FnClaims.J1 b x9 x12 = some true := by
  obtain ⟨l, t, e, hl⟩ := drawFirstProved_is b hb
  rw [laws_FnClaims.J1_eq, e, Option.bind_some]
  dsimp only
  rw [impl_FirstProved_is l t hl, Option.bind_some]
  exact claims_l0 x9 x12 l t hx hl l.length 0 (by omega)
theorem claims_J0 (b : List Int) (hb : b.length ≤ 1048576) : laws_FnClaims.J0 b = some true := by
  obtain ⟨l, q, t, e, hl⟩ := drawSetState_is b hb
  have hlen := setState_len l q t
  rw [laws_FnClaims.J0_eq, e, Option.bind_some]
  dsimp only
  rw [impl_SetState_is l q t hl, Option.bind_some]
  by_cases c : (setState l q t).2 = true
  · obtain ⟨j, hj, e1, h1, h2, h3⟩ := setState_yes c
    have hw := withSt_at l j t hj
    have hf : idxF84 (fun x => x.f0 == q) (withSt l j t) 0 = (j : Int) := find_at h1 j (by rw [withSt_len]; exact hj) q (by rw [hw]; exact h3)
    have hwl := withSt_len l j t
    unfold stOk at h2
    rw [decide_eq_true_iff] at h2
    rw [e1]
    dsimp only
    rw [if_pos rfl, impl_FindClaim_is _ _ (by omega), Option.bind_some, impl_AreClaims_is _ (by omega), Option.bind_some, if_pos h1, hf, if_pos (by omega), if_pos (by omega), hw]
    dsimp only
    rw [if_pos rfl, if_pos (by omega), if_neg (by omega), if_neg (by omega)]
    exact claims_J1 b hb l _ hwl
  · rw [if_neg c]
    exact claims_J1 b hb l _ hlen
theorem law_FnClaims (l0 : List Int) (hm0 : l0.length ≤ maxLen) (hw0 : ∀ y ∈ l0, (fun n : Int => (Lit.int .u8 n).wf = true) y) : laws_FnClaims.F l0 = some true := by
  rw [laws_FnClaims.F_eq, big_is, Option.bind_some]
  by_cases hb : (l0.length : Int) > 1048576
  · rw [decide_eq_true hb, if_pos rfl]
  · have hb' : l0.length ≤ 1048576 := by omega
    obtain ⟨l, x0, x1, x2, x3, x4, e, hl⟩ := drawAddClaim_is l0 hb'
    rw [decide_eq_false hb, if_neg (by decide), e, Option.bind_some]
    dsimp only
    rw [impl_AddClaim_is l x0 x1 x2 x3 x4 hl, Option.bind_some]
    by_cases c : (addClaim l ⟨x0, x1, x2, x3, x4⟩).2 = true
    · obtain ⟨e1_, h1_, h2⟩ := addClaim_yes c
      have e1 : addClaim l ⟨x0, x1, x2, x3, x4⟩ = (insC l (leadC x0 l) ⟨x0, x1, x2, x3, x4⟩, true) := e1_
      have h1 : areClaims (insC l (leadC x0 l) ⟨x0, x1, x2, x3, x4⟩) = true := h1_
      clear e1_ h1_
      have hk := leadC_le x0 l
      have hlen := insC_len l (leadC x0 l) ⟨x0, x1, x2, x3, x4⟩ hk
      have hlen2 := addClaim_len l ⟨x0, x1, x2, x3, x4⟩ hl
      have hag := addClaim_again l (leadC x0 l) ⟨x0, x1, x2, x3, x4⟩ ⟨998, x1, x2, x3, 0⟩ rfl rfl
      have hrd := insC_rd l (leadC x0 l) ⟨x0, x1, x2, x3, x4⟩ hk (leadC x0 l)
      rw [if_neg (by omega), if_pos rfl] at hrd
      rw [e1] at hlen2 ⊢
      dsimp only at hlen2 ⊢
      have hf := find_at h1 (leadC x0 l) (by omega) x0 (by rw [hrd])
      have hmem := mem_claimsFor (insC l (leadC x0 l) ⟨x0, x1, x2, x3, x4⟩) x2 ⟨x0, x1, x2, x3, x4⟩ (mem_insC ..) rfl
      have hcl := claimsFor_len (insC l (leadC x0 l) ⟨x0, x1, x2, x3, x4⟩) x2
      rw [if_pos rfl, impl_AddClaim_is _ _ _ _ _ _ hlen2, Option.bind_some, impl_AreClaims_is _ hlen2, Option.bind_some, if_pos h1, wrap_in ((l.length : Int) + 1) (by omega), if_pos (by omega), impl_FindClaim_is _ _ hlen2, Option.bind_some, hf, if_neg (by omega), hag, if_neg (by decide), impl_ClaimsFor_is _ _ hlen2, Option.bind_some, contains_yes _ _ (by omega) hmem, Option.bind_some, if_pos rfl]
      exact claims_J0 l0 hb'
    · rw [addClaim_no c]
      dsimp only
      rw [if_neg (by decide), if_pos rfl]
      exact claims_J0 l0 hb'

theorem FnClaims (l0 : List Int) (hm0 : l0.length ≤ maxLen) (hw0 : ∀ y ∈ l0, (fun n : Int => (Lit.int .u8 n).wf = true) y) : ∃ k, laws_FnClaims.f k l0 = some true :=
  (laws_FnClaims.F_co l0).rounds (law_FnClaims l0 hm0 hw0)
end Go.Proofs.Ytppgealmedaihaa.PFnClaims.Pure
