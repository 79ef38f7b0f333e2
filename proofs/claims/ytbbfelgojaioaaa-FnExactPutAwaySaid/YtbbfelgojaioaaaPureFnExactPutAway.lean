/-
  The program's PutAway answers as the reference's does, for all arguments. It has no conditions.
-/
import Derived.Test.YtbbfelgojaioaaaShFnExactPutAway
import Derived.Test.YtbbfelgojaioaaaEqFnExactPutAway
import Derived.Test.YtbbfelgojaioaaaBase
set_option linter.unusedVariables false
set_option linter.unusedSimpArgs false
namespace Go.Proofs.Ytbbfelgojaioaaa.PFnExactPutAway.Pure
open Go.RowKit Go.Proofs.YtbbfelgojaioaaaW.PrintWords Go.Proofs.YtbbfelgojaioaaaW.PrintLast Go.Proofs.YtbbfelgojaioaaaW.PrintMore Go.Proofs.Ytbbfelgojaioaaa.PFnExactPutAway Go.Proofs.Ytbbfelgojaioaaa.Lim Go.Proofs.Ytbbfelgojaioaaa.Base
set_option maxRecDepth 100000

theorem szSlotS (l : List S110) (a : Int) (ha : 0 ≤ a ∧ a ≤ 1048576) (hl : l.length ≤ maxLen) : laws_szSlotS.f l a = some (if a < (l.length : Int) then -1 else a - (l.length : Int)) := by
  simp only [maxLen] at hl
  unfold laws_szSlotS.f
  rw [wrap_in _ (by omega)]
  by_cases h : a < (l.length : Int)
  · rw [if_pos (by omega), if_pos h]
  · rw [if_neg (by omega), if_neg h]

def cvSlot (y : S110) : S95 := ⟨y.f0, y.f1, y.f2⟩
theorem toSlotS_l0 (l : List S110) (hn : l.length ≤ 1048576) : ∀ (d i : Nat) (acc : List S95), i + d = l.length → acc.length = l.length → acc.take i = (l.take i).map cvSlot → laws_toSlotS.L0 l acc (i : Int) = some (l.map cvSlot)
  | 0, i, acc, h, ha, ht => by
    rw [laws_toSlotS.L0_eq, if_neg (by omega)]
    rw [List.take_of_length_le (by omega), List.take_of_length_le (by omega)] at ht
    rw [ht]
  | d + 1, i, acc, h, ha, ht => by
    have hi : i < l.length := by omega
    rw [laws_toSlotS.L0_eq, if_pos (by omega), if_pos (by omega)]
    simp only [laws_toSlot.f, Option.bind_some, wrap_succ i (by omega)]
    rw [if_pos (by omega)]
    refine toSlotS_l0 l hn d (i + 1) _ (by omega) (by rw [List.length_set]; exact ha) ?_
    rw [Int.toNat_natCast]
    exact fill_step l cvSlot acc i ha hi ht _ (by simp [rd_T110, cvSlot, hi])
theorem toSlotS (l : List S110) (hn : l.length ≤ 1048576) : laws_toSlotS.F l = some (l.map cvSlot) := by
  rw [laws_toSlotS.F_eq, if_pos (by omega), if_pos (by omega)]
  exact toSlotS_l0 l hn l.length 0 _ (by omega) (by simp) (by simp)

theorem eqSlotS_l0 (l : List S95) (hn : l.length ≤ 1048576) : ∀ (d i : Nat), i + d = l.length → laws_eqSlotS.L0 l l (i : Int) = some true
  | 0, i, h => by rw [laws_eqSlotS.L0_eq, if_neg (by omega)]
  | d + 1, i, h => by
    rw [laws_eqSlotS.L0_eq, if_pos (by omega), if_pos (by omega), if_pos (by omega)]
    simp only [laws_eqSlot.f, if_true, Option.bind_some, wrap_succ i (by omega)]
    exact eqSlotS_l0 l hn d (i + 1) (by omega)
theorem eqSlotS (l : List S95) (hn : l.length ≤ 1048576) : laws_eqSlotS.F l l = some true := by
  rw [laws_eqSlotS.F_eq, if_pos rfl]
  exact eqSlotS_l0 l hn l.length 0 (by omega)

theorem rdSlot_at (l : List S95) (i : Nat) : rd_T95 l (i : Int) = l.getD i z95 := by simp [rd_T95]
theorem dropSlot (l : List S95) (i : Nat) (h : i < l.length) : l.drop i = rd_T95 l (i : Int) :: l.drop (i + 1) := by
  rw [rdSlot_at, getD_get l i _ h]
  exact List.drop_eq_getElem_cons h

def lineSlot (k : Int) (n : Nat) : List S95 := (List.range n).map (fun j : Nat => (⟨k + 3 * (j : Int), k + 3 * (j : Int) + 1, k + 3 * (j : Int) + 2⟩ : S95))
theorem lineSlot_len (k : Int) (n : Nat) : (lineSlot k n).length = n := by simp [lineSlot]
theorem rdsetSlot (l : List S95) (i : Nat) (v : S95) (h : i < l.length) : rd_T95 (l.set i v) (i : Int) = v := by simp [rd_T95, h]
theorem markSlotS_l0 (k : Int) (n : Nat) (hk : 0 ≤ k ∧ k ≤ 67108864) (hn : n ≤ 1048576) : ∀ (d i : Nat) (acc : List S95), i + d = n → acc.length = n → acc.take i = ((List.range n).take i).map (fun j : Nat => (⟨k + 3 * (j : Int), k + 3 * (j : Int) + 1, k + 3 * (j : Int) + 2⟩ : S95)) → laws_markSlotS.L0 acc (k + 3 * (i : Int)) (i : Int) = some (k + 3 * (n : Int), lineSlot k n)
  | 0, i, acc, h, ha, ht => by
    rw [laws_markSlotS.L0_eq, if_neg (by omega)]
    rw [List.take_of_length_le (by omega), List.take_of_length_le (by simp; omega)] at ht
    rw [ht, show i = n by omega]; rfl
  | d + 1, i, acc, h, ha, ht => by
    have hi : i < acc.length := by omega
    rw [laws_markSlotS.L0_eq, if_pos (by omega), if_pos (by omega)]
    simp only [Option.bind_some, Int.toNat_natCast, rdsetSlot, List.length_set, hi, List.set_set, wrap_succ i (by omega)]
    simp only [wrap_in (k + 3 * (i : Int) + 1) (by omega), wrap_in (k + 3 * (i : Int) + 1 + 1) (by omega), wrap_in (k + 3 * (i : Int) + 1 + 1 + 1) (by omega)]
    rw [show k + 3 * (i : Int) + 1 + 1 + 1 = k + 3 * ((i + 1 : Nat) : Int) by omega]
    refine markSlotS_l0 k n hk hn d (i + 1) _ (by omega) (by rw [List.length_set]; exact ha) ?_
    exact fill_step (List.range n) (fun j : Nat => (⟨k + 3 * (j : Int), k + 3 * (j : Int) + 1, k + 3 * (j : Int) + 2⟩ : S95)) acc i (by simp [ha]) (by simp; omega) ht _ (by simp <;> omega)
theorem markSlotS (l : List S95) (k : Int) (hk : 0 ≤ k ∧ k ≤ 67108864) (hn : l.length ≤ 1048576) : laws_markSlotS.F l k = some (k + 3 * (l.length : Int), lineSlot k l.length) := by
  rw [laws_markSlotS.F_eq]
  have := markSlotS_l0 k l.length hk hn l.length 0 l (by omega) rfl (by simp)
  simpa using this

theorem heldSlotS_l0 (k : Int) (n : Nat) (hk : 0 ≤ k ∧ k ≤ 67108864) (hn : n ≤ 1048576) : ∀ (d i : Nat), i + d = n → laws_heldSlotS.L0 (lineSlot k n) (k + 3 * (i : Int)) (i : Int) = some (k + 3 * (n : Int))
  | 0, i, h => by rw [laws_heldSlotS.L0_eq, lineSlot_len, if_neg (by omega), show i = n by omega]
  | d + 1, i, h => by
    have hr : rd_T95 (lineSlot k n) (i : Int) = (⟨k + 3 * (i : Int), k + 3 * (i : Int) + 1, k + 3 * (i : Int) + 2⟩ : S95) := by simp [rd_T95, lineSlot, show i < n by omega]
    rw [laws_heldSlotS.L0_eq, lineSlot_len, if_pos (by omega), if_pos (by omega), hr]
    simp only [wrap_succ i (by omega), wrap_in (k + 3 * (i : Int) + 1) (by omega), wrap_in (k + 3 * (i : Int) + 1 + 1) (by omega), wrap_in (k + 3 * (i : Int) + 1 + 1 + 1) (by omega)]
    repeat rw [if_pos (by first | trivial | omega)]
    rw [show k + 3 * (i : Int) + 1 + 1 + 1 = k + 3 * ((i + 1 : Nat) : Int) by omega]
    exact heldSlotS_l0 k n hk hn d (i + 1) (by omega)
theorem heldSlotS (k : Int) (n : Nat) (hk : 0 ≤ k ∧ k ≤ 67108864) (hn : n ≤ 1048576) : laws_heldSlotS.F (lineSlot k n) k = some (k + 3 * (n : Int)) := by
  rw [laws_heldSlotS.F_eq]
  have := heldSlotS_l0 k n hk hn n 0 (by omega)
  simpa using this

theorem idxFSlot_spec (p : S95 → Bool) : ∀ (l : List S95) (i : Int), (idxF95 p l i = -1 ∧ ∀ x ∈ l, ¬ p x = true) ∨ ∃ j : Nat, j < l.length ∧ idxF95 p l i = i + (j : Int) ∧ p (l.getD j z95) = true ∧ ∀ m : Nat, m < j → ¬ p (l.getD m z95) = true
  | [], i => .inl ⟨rfl, by simp⟩
  | x :: r, i => by
    simp only [idxF95]
    by_cases h : p x = true
    · rw [if_pos h]
      exact .inr ⟨0, by simp, by simp, by simpa using h, fun m hm => absurd hm (by omega)⟩
    · rw [if_neg h]
      rcases idxFSlot_spec p r (i + 1) with ⟨h1, h2⟩ | ⟨j, h1, h2, h3, h4⟩
      · exact .inl ⟨h1, fun y hy => by
          rcases List.mem_cons.1 hy with e | e
          · rw [e]; exact h
          · exact h2 y e⟩
      · refine .inr ⟨j + 1, by simp; omega, by rw [h2]; omega, by simpa using h3, fun m hm => ?_⟩
        cases m with
        | zero => simpa using h
        | succ m => simpa using h4 m (by omega)
theorem idxFSlot_at (p : S95 → Bool) (l : List S95) : (idxF95 p l 0 = -1 ∧ ∀ x ∈ l, ¬ p x = true) ∨ ∃ j : Nat, j < l.length ∧ idxF95 p l 0 = (j : Int) ∧ p (rd_T95 l (j : Int)) = true ∧ ∀ m : Nat, m < j → ¬ p (rd_T95 l (m : Int)) = true := by
  rcases idxFSlot_spec p l 0 with h | ⟨j, h1, h2, h3, h4⟩
  · exact .inl h
  · refine .inr ⟨j, h1, by rw [h2]; omega, by rw [rdSlot_at]; exact h3, fun m hm => by rw [rdSlot_at]; exact h4 m hm⟩

def slotOf : List S95 → Int → Int
  | [], _ => 0
  | x :: r, t => if t ≠ 0 ∧ x.f2 = t then x.f0 else slotOf r t
def slotAt (l : List S95) (t : Int) : Int := if t = 0 then -1 else idxF95 (fun x => x.f2 == t) l 0
theorem slotAt_cases (l : List S95) (t : Int) : (slotAt l t = -1 ∧ (t = 0 ∨ ∀ x ∈ l, x.f2 ≠ t)) ∨ (t ≠ 0 ∧ ∃ j : Nat, j < l.length ∧ slotAt l t = (j : Int) ∧ (rd_T95 l (j : Int)).f2 = t ∧ ∀ m : Nat, m < j → (rd_T95 l (m : Int)).f2 ≠ t) := by
  unfold slotAt
  by_cases h : t = 0
  · exact .inl ⟨by rw [if_pos h], .inl h⟩
  · rw [if_neg h]
    rcases idxFSlot_at (fun x => x.f2 == t) l with ⟨h1, h2⟩ | ⟨j, h1, h2, h3, h4⟩
    · exact .inl ⟨h1, .inr (fun x hx => by simpa using h2 x hx)⟩
    · exact .inr ⟨h, j, h1, h2, by simpa using h3, fun m hm => by simpa using h4 m hm⟩
theorem slotOf_none (t : Int) : ∀ (l : List S95), (t = 0 ∨ ∀ x ∈ l, x.f2 ≠ t) → slotOf l t = 0
  | [], h => rfl
  | x :: r, h => by
    simp only [slotOf]
    rw [if_neg (fun hh => h.elim (fun h0 => hh.1 h0) (fun h1 => h1 x (by simp) hh.2))]
    exact slotOf_none t r (h.imp id (fun h1 y hy => h1 y (by simp [hy])))
theorem slotOf_at (t : Int) (ht : t ≠ 0) : ∀ (l : List S95) (j : Nat), j < l.length → (l.getD j z95).f2 = t → (∀ m : Nat, m < j → (l.getD m z95).f2 ≠ t) → slotOf l t = (l.getD j z95).f0
  | [], j, h, _, _ => by simp at h
  | x :: r, 0, h, h1, h2 => by
    simp only [slotOf]
    rw [if_pos ⟨ht, by simpa using h1⟩]
    simp
  | x :: r, j + 1, h, h1, h2 => by
    simp only [slotOf]
    rw [if_neg (fun hh => h2 0 (by omega) (by simpa using hh.2))]
    have := slotOf_at t ht r j (by simpa using h) (by simpa using h1) (fun m hm => by simpa using h2 (m + 1) (by omega))
    rw [this]
    simp
theorem slotOf_slotAt (l : List S95) (t : Int) : (if slotAt l t < 0 then 0 else (rd_T95 l (slotAt l t)).f0) = slotOf l t := by
  rcases slotAt_cases l t with ⟨h, h1⟩ | ⟨h0, j, h1, h2, h3, h4⟩
  · rw [h, if_pos (by omega), slotOf_none t l h1]
  · rw [h2, if_neg (by omega), rdSlot_at, slotOf_at t h0 l j h1 (by rw [← rdSlot_at]; exact h3) (fun m hm => by rw [← rdSlot_at]; exact h4 m hm)]

noncomputable def freshB (l : List S95) (i : Nat) : Bool := decide ((rd_T95 l i).f2 = 0) || allF (fun q : Nat => (rd_T95 l q).f2 ≠ (rd_T95 l i).f2) i 0
def okSlot (l : List S95) (i : Nat) : Prop := inR (rd_T95 l i).f0 1 99 = true ∧ ((i : Int) > 0 → (rd_T95 l ((i : Int) - 1)).f0 < (rd_T95 l i).f0) ∧ inR (rd_T95 l i).f1 1 50 = true ∧ inR (rd_T95 l i).f2 0 999 = true ∧ freshB l i = true
noncomputable def areSlots (l : List S95) : Bool := allF (okSlot l) l.length 0 && decide ((l.length : Int) ≤ 30)
theorem rdSlot_take (l : List S95) (i q : Nat) (h : q < i) : rd_T95 (l.take i) (q : Int) = rd_T95 l (q : Int) := by
  rw [rdSlot_at, rdSlot_at, List.getD_eq_getElem?_getD, List.getD_eq_getElem?_getD, List.getElem?_take, if_pos h]
theorem fresh_iff (l : List S95) (i : Nat) (hi : i ≤ l.length) (hpre : ∀ j, j < i → okSlot l j) : (slotOf (l.take i) (rd_T95 l i).f2 = 0) = (freshB l i = true) := by
  have hl : (l.take i).length = i := by rw [List.length_take]; omega
  have e := slotOf_slotAt (l.take i) (rd_T95 l i).f2
  unfold freshB
  rw [Bool.or_eq_true, decide_eq_true_iff, allF_all]
  apply propext
  rcases slotAt_cases (l.take i) (rd_T95 l i).f2 with ⟨h, h1⟩ | ⟨h0, j, h1, h2, h3, h4⟩
  · rw [h, if_pos (by omega)] at e
    rw [← e]
    refine ⟨fun _ => h1.imp id (fun hx q hq => ?_), fun _ => rfl⟩
    rw [← rdSlot_take l i q hq, rdSlot_at, getD_get _ _ _ (by omega)]
    exact hx _ (List.getElem_mem _)
  · rw [hl] at h1
    rw [h2, if_neg (by omega), rdSlot_take l i j h1] at e
    rw [rdSlot_take l i j h1] at h3
    have hb := inR_iff.1 (hpre j h1).1
    exact ⟨fun hh => by omega, fun hh => hh.elim (fun hz => absurd hz h0) (fun ha => absurd h3 (ha j h1))⟩

theorem areSlots_ok {l : List S95} (h : areSlots l = true) : (∀ i : Nat, i < l.length → okSlot l i) ∧ l.length ≤ 30 := by
  unfold areSlots at h
  rw [Bool.and_eq_true, allF_all, decide_eq_true_iff] at h
  exact ⟨h.1, by omega⟩
theorem slots_lt {l : List S95} (h : areSlots l = true) : ∀ (d i j : Nat), i + d + 1 = j → j < l.length → (rd_T95 l (i : Int)).f0 < (rd_T95 l (j : Int)).f0
  | 0, i, j, e, hj => by
    have h1 := ((areSlots_ok h).1 j hj).2.1 (by omega)
    rw [show (j : Int) - 1 = (i : Int) by omega] at h1
    exact h1
  | d + 1, i, j, e, hj => by
    have h0 := slots_lt h d i (j - 1) (by omega) (by omega)
    have h1 := ((areSlots_ok h).1 j hj).2.1 (by omega)
    rw [show (j : Int) - 1 = ((j - 1 : Nat) : Int) by omega] at h1
    omega
theorem slots_inj {l : List S95} (h : areSlots l = true) (i j : Nat) (hi : i < l.length) (hj : j < l.length) : (rd_T95 l (i : Int)).f0 = (rd_T95 l (j : Int)).f0 ↔ i = j := by
  constructor
  · intro e
    rcases Nat.lt_trichotomy i j with hlt | he | hgt
    · have := slots_lt h (j - i - 1) i j (by omega) hj
      omega
    · exact he
    · have := slots_lt h (i - j - 1) j i (by omega) hi
      omega
  · rintro rfl; rfl
theorem slots_id {l : List S95} (h : areSlots l = true) (i : Nat) (hi : i < l.length) : 1 ≤ (rd_T95 l (i : Int)).f0 ∧ (rd_T95 l (i : Int)).f0 ≤ 99 := inR_iff.1 ((areSlots_ok h).1 i hi).1
def putIn (l : List S95) (j : Nat) (t : Int) : List S95 := l.set j ⟨(rd_T95 l (j : Int)).f0, (rd_T95 l (j : Int)).f1, t⟩
theorem putIn_len (l : List S95) (j : Nat) (t : Int) : (putIn l j t).length = l.length := by simp [putIn]
theorem putIn_rd (l : List S95) (j : Nat) (t : Int) (q : Nat) : rd_T95 (putIn l j t) (q : Int) = if q = j ∧ j < l.length then ⟨(rd_T95 l (j : Int)).f0, (rd_T95 l (j : Int)).f1, t⟩ else rd_T95 l (q : Int) := by
  simp only [rdSlot_at]
  rw [putIn, List.getD_eq_getElem?_getD, List.getElem?_set]
  by_cases h : j = q
  · subst h
    rw [if_pos rfl]
    by_cases h2 : j < l.length
    · rw [if_pos h2, if_pos ⟨rfl, h2⟩]; rfl
    · rw [if_neg h2, if_neg (fun hh => h2 hh.2), List.getD_eq_getElem?_getD, List.getElem?_eq_none (by omega)]
  · rw [if_neg h, if_neg (fun hh => h hh.1.symm), List.getD_eq_getElem?_getD]

def bestSlot (l : List S95) (size : Int) : Nat → Nat → Int → Int
  | 0, _, b => b
  | d + 1, i, b => bestSlot l size d (i + 1) (if (rd_T95 l (i : Int)).f2 = 0 ∧ (rd_T95 l (i : Int)).f1 ≥ size ∧ (b < 0 ∨ (rd_T95 l (i : Int)).f1 < (rd_T95 l b).f1) then (i : Int) else b)
theorem bestSlot_bd (l : List S95) (size : Int) : ∀ (d i : Nat) (b : Int), i + d = l.length → b < i → -1 ≤ b → -1 ≤ bestSlot l size d i b ∧ bestSlot l size d i b < l.length
  | 0, i, b, h, h1, h2 => by simp only [bestSlot]; omega
  | d + 1, i, b, h, h1, h2 => by
    simp only [bestSlot]
    split
    · exact bestSlot_bd l size d (i + 1) _ (by omega) (by omega) (by omega)
    · exact bestSlot_bd l size d (i + 1) _ (by omega) (by omega) (by omega)
def freeId (l : List S95) (b : Int) : Int := if b < 0 then 0 else (rd_T95 l b).f0
def smallestFree (l : List S95) (size : Int) : Int := freeId l (bestSlot l size l.length 0 (-1))

def isThing (a b c d e : Int) : Bool := inR a 1 999 && inR b 1 8 && inR c 0 7 && inR d 1 50 && inR e 0 10000000
noncomputable def putAway (l : List S95) (a b c d e : Int) : List S95 × Bool :=
  if areSlots l = true ∧ isThing a b c d e = true ∧ 0 ≤ bestSlot l d l.length 0 (-1) ∧ slotAt l a < 0 then (putIn l (bestSlot l d l.length 0 (-1)).toNat a, true) else (l, false)
theorem putAway_len (l : List S95) (a b c d e : Int) : (putAway l a b c d e).1.length = l.length := by
  unfold putAway
  split <;> simp [putIn_len]

theorem spec_SlotOf_l0 (l : List S95) (t : Int) (hn : l.length ≤ 1048576) : ∀ (d i : Nat), i + d = l.length → spec_SlotOf.L0 l t (i : Int) = some (slotOf (l.drop i) t)
  | 0, i, h => by rw [spec_SlotOf.L0_eq, if_neg (by omega), List.drop_of_length_le (by omega)]; rfl
  | d + 1, i, h => by
    rw [spec_SlotOf.L0_eq, if_pos (by omega), wrap_succ i (by omega), spec_SlotOf_l0 l t hn d (i + 1) (by omega), dropSlot l i (by omega)]
    simp only [slotOf]
    by_cases c0 : t = 0
    · rw [if_pos c0, if_neg (fun hh => hh.1 c0)]
    · rw [if_neg c0, if_pos (by omega)]
      by_cases c : (rd_T95 l (i : Int)).f2 = t
      · rw [if_pos c, if_pos ⟨c0, c⟩]
      · rw [if_neg c, if_neg (fun hh => c hh.2)]
theorem spec_SlotOf_is (l : List S95) (t : Int) (hn : l.length ≤ 1048576) : spec_SlotOf.F l t = some (slotOf l t) := by
  rw [spec_SlotOf.F_eq]
  exact spec_SlotOf_l0 l t hn l.length 0 (by omega)

theorem l1In (a b c : Int) : spec_l1In.f a b c = some (inR a b c) := by
  unfold spec_l1In.f inR
  by_cases h : b ≤ a <;> simp [h]

theorem spec_AreSlots_l1 (l : List S95) (hn : l.length ≤ 1048576) (i : Nat) (hi : i < l.length) : ∀ (d m : Nat), m + d = i → spec_AreSlots.L1 l (i : Int) (m : Int) = if (decide ((rd_T95 l i).f2 = 0) || allF (fun q : Nat => (rd_T95 l q).f2 ≠ (rd_T95 l i).f2) i m) = true then spec_AreSlots.L0 l ((i + 1 : Nat) : Int) else some false
  | 0, m, h => by
    rw [spec_AreSlots.L1_eq, if_neg (by omega), allF_end (by omega), Bool.or_true, if_pos rfl, wrap_succ i (by omega)]
  | d + 1, m, h => by
    have hm : m < i := by omega
    rw [spec_AreSlots.L1_eq, if_pos (by omega), if_pos (by omega), if_pos (by omega), wrap_succ m (by omega), spec_AreSlots_l1 l hn i hi d (m + 1) (by omega)]
    by_cases c0 : (rd_T95 l (i : Int)).f2 = 0
    · rw [if_pos c0, decide_eq_true c0, Bool.true_or, Bool.true_or]
    · rw [if_neg c0, decide_eq_false c0, Bool.false_or, Bool.false_or, if_pos (by omega), if_pos (by omega)]
      by_cases c : (rd_T95 l (m : Int)).f2 = (rd_T95 l (i : Int)).f2
      · rw [if_pos c, allF_no hm (fun hh => hh c), if_neg (by decide)]
      · rw [if_neg c, allF_yes (p := fun q : Nat => (rd_T95 l q).f2 ≠ (rd_T95 l i).f2) (n := i) (i := m) c]
theorem spec_AreSlots_l0 (l : List S95) (hn : l.length ≤ 1048576) : ∀ (d i : Nat), i + d = l.length → spec_AreSlots.L0 l (i : Int) = some (allF (okSlot l) l.length i && decide ((l.length : Int) ≤ 30))
  | 0, i, h => by rw [spec_AreSlots.L0_eq, if_neg (by omega), allF_end (by omega)]; rfl
  | d + 1, i, h => by
    have hi : i < l.length := by omega
    have ih := spec_AreSlots_l0 l hn d (i + 1) (by omega)
    have h1 := spec_AreSlots_l1 l hn i hi i 0 (by omega)
    have h1' : spec_AreSlots.L1 l (i : Int) 0 = if freshB l i = true then spec_AreSlots.L0 l ((i + 1 : Nat) : Int) else some false := h1
    rw [spec_AreSlots.L0_eq]
    simp only [wrap_pred i (by omega), l1In, Option.bind_some, spec_AreSlots.J1_eq, h1', ih, decide_eq_true_eq, Bool.false_eq_true, if_false, if_true]
    by_cases hp_ : okSlot l i
    · rw [allF_yes hp_]
      simp only [okSlot] at hp_
      obtain ⟨h1_, h2_, h3_, h4_, h5_⟩ := hp_
      repeat' split
      all_goals first
        | rfl
        | (exfalso; first | contradiction | omega)
    · rw [allF_no hi hp_]
      repeat' split
      all_goals first
        | rfl
        | (simp; done)
        | (exfalso; first | contradiction | omega)
        | (exfalso; apply hp_; simp only [okSlot]; (repeat' constructor) <;> first | assumption | (intro _; omega) | omega)
theorem spec_AreSlots_is (l : List S95) (hn : l.length ≤ 1048576) : spec_AreSlots.F l = some (areSlots l) := by
  rw [spec_AreSlots.F_eq, areSlots]
  exact spec_AreSlots_l0 l hn l.length 0 (by omega)

theorem spec_SmallestFree_l0 (l : List S95) (size : Int) (hn : l.length ≤ 1048576) : ∀ (d i : Nat) (b : Int), i + d = l.length → b < i → -1 ≤ b → spec_SmallestFree.L0 l size b (i : Int) = some (freeId l (bestSlot l size d i b))
  | 0, i, b, h, h1, h2 => by
    rw [spec_SmallestFree.L0_eq, if_neg (by omega)]
    show _ = some (freeId l b)
    unfold freeId
    by_cases c : b < 0
    · rw [if_pos c, if_pos c]
    · rw [if_neg c, if_neg c, if_pos (by omega), if_pos (by omega)]
  | d + 1, i, b, h, h1, h2 => by
    have hi : i < l.length := by omega
    rw [spec_SmallestFree.L0_eq, if_pos (by omega), if_pos (by omega)]
    simp only [wrap_succ i (by omega), bestSlot]
    by_cases c1 : (rd_T95 l (i : Int)).f2 = 0
    · by_cases c2 : (rd_T95 l (i : Int)).f1 ≥ size
      · by_cases c3 : b < 0
        · rw [if_pos c1, if_pos c2, if_pos c3, if_pos ⟨c1, c2, .inl c3⟩]
          exact spec_SmallestFree_l0 l size hn d (i + 1) _ (by omega) (by omega) (by omega)
        · by_cases c4 : (rd_T95 l (i : Int)).f1 < (rd_T95 l b).f1
          · rw [if_pos c1, if_pos c2, if_neg c3, if_pos (by omega), if_pos (by omega), if_pos c4, if_pos ⟨c1, c2, .inr c4⟩]
            exact spec_SmallestFree_l0 l size hn d (i + 1) _ (by omega) (by omega) (by omega)
          · rw [if_pos c1, if_pos c2, if_neg c3, if_pos (by omega), if_pos (by omega), if_neg c4, if_neg (fun h => h.2.2.elim c3 c4)]
            exact spec_SmallestFree_l0 l size hn d (i + 1) _ (by omega) (by omega) (by omega)
      · rw [if_pos c1, if_neg c2, if_neg (fun h => c2 h.2.1)]
        exact spec_SmallestFree_l0 l size hn d (i + 1) _ (by omega) (by omega) (by omega)
    · rw [if_neg c1, if_neg (fun h => c1 h.1)]
      exact spec_SmallestFree_l0 l size hn d (i + 1) _ (by omega) (by omega) (by omega)
theorem spec_SmallestFree_is (l : List S95) (size : Int) (hn : l.length ≤ 1048576) : spec_SmallestFree.F l size = some (smallestFree l size) := by
  rw [spec_SmallestFree.F_eq]
  exact spec_SmallestFree_l0 l size hn l.length 0 (-1) (by omega) (by omega) (by omega)

theorem spec_IsThing_is (a b c d e : Int) : spec_IsThing.f a b c d e = some (inR a 1 999 && inR b 1 8 && inR c 0 7 && inR d 1 50 && inR e 0 10000000) := by
  unfold spec_IsThing.f
  simp only [l1In, Option.bind_some]
  cases inR a 1 999 <;> cases inR b 1 8 <;> cases inR c 0 7 <;> cases inR d 1 50 <;> simp

theorem spec_PutAway_l0 (s : Int) (j : Nat) (a b c d e : Int) : ∀ (n i : Nat) (m : List S95), m.length ≤ 1048576 → i + n = m.length → j < m.length → (∀ q : Nat, q < m.length → ((rd_T95 m (q : Int)).f0 = s ↔ q = j)) → spec_PutAway.L0 m s (i : Int) a b c d e = some (if i ≤ j then putIn m j a else m, true)
  | 0, i, m, hn, h, hj, hq => by rw [spec_PutAway.L0_eq, if_neg (by omega), if_neg (by omega)]
  | n + 1, i, m, hn, h, hj, hq => by
    rw [spec_PutAway.L0_eq, if_pos (by omega), if_pos (by omega), wrap_succ i (by omega), Int.toNat_natCast]
    by_cases cc : (rd_T95 m (i : Int)).f0 = s
    · have e0 := (hq i (by omega)).1 cc
      subst e0
      rw [if_pos cc, if_pos (Nat.le_refl _)]
      have := spec_PutAway_l0 s i a b c d e n (i + 1) (putIn m i a) (by rw [putIn_len]; exact hn) (by rw [putIn_len]; omega) (by rw [putIn_len]; exact hj) (fun q hqq => by
        rw [putIn_len] at hqq
        rw [putIn_rd]
        by_cases e2 : q = i ∧ i < m.length
        · rw [if_pos e2]
          exact ⟨fun _ => e2.1, fun _ => cc⟩
        · rw [if_neg e2]
          exact hq q hqq)
      rw [if_neg (by omega)] at this
      exact this
    · have e0 : i ≠ j := fun e0 => cc ((hq i (by omega)).2 e0)
      rw [if_neg cc, spec_PutAway_l0 s j a b c d e n (i + 1) m hn (by omega) hj hq]
      by_cases e2 : i ≤ j
      · rw [if_pos e2, if_pos (by omega)]
      · rw [if_neg e2, if_neg (by omega)]
theorem spec_PutAway_is (l : List S95) (a b c d e : Int) (hn : l.length ≤ 1048576) : spec_PutAway.F l a b c d e = some (putAway l a b c d e) := by
  have hb := bestSlot_bd l d l.length 0 (-1) (by omega) (by omega) (by omega)
  have ht : spec_IsThing.f a b c d e = some (isThing a b c d e) := spec_IsThing_is ..
  have hf : smallestFree l d = if bestSlot l d l.length 0 (-1) < 0 then 0 else (rd_T95 l (bestSlot l d l.length 0 (-1))).f0 := rfl
  rw [spec_PutAway.F_eq, Option.bind_some, if_pos (by simp only [List.length_nil]; omega), List.nil_append, Option.bind_some, spec_SmallestFree_is l d hn, Option.bind_some, spec_AreSlots_is l hn, Option.bind_some, putAway, ht, Option.bind_some]
  by_cases h : areSlots l = true
  · rw [if_pos h]
    by_cases h1 : isThing a b c d e = true
    · rw [if_pos h1]
      by_cases h2 : bestSlot l d l.length 0 (-1) < 0
      · rw [if_pos h2] at hf
        rw [hf, if_pos rfl, spec_PutAway.J0_eq, if_pos rfl, if_neg (fun hh => by omega)]
      · obtain ⟨j, hj⟩ : ∃ j : Nat, bestSlot l d l.length 0 (-1) = (j : Int) := ⟨(bestSlot l d l.length 0 (-1)).toNat, by omega⟩
        rw [if_neg h2, hj] at hf
        have hjl : j < l.length := by omega
        have hid := slots_id h j hjl
        have es := slotOf_slotAt l a
        rw [hf, if_neg (by omega), spec_SlotOf_is l a hn, Option.bind_some, spec_PutAway.J0_eq]
        rcases slotAt_cases l a with ⟨h3, h4⟩ | ⟨h0, j', h3, h4, h5, h6⟩
        · have e0 : slotOf l a = 0 := by rw [← es, h3]; rfl
          rw [e0, if_neg (by decide), if_pos ⟨h, h1, by omega, by omega⟩, hj, Int.toNat_natCast]
          have := spec_PutAway_l0 (rd_T95 l (j : Int)).f0 j a b c d e l.length 0 l hn (by omega) hjl (fun q hq => slots_inj h q j hq hjl)
          rw [if_pos (Nat.zero_le _)] at this
          exact this
        · have hid' := slots_id h j' h3
          have e0 : slotOf l a = (rd_T95 l (j' : Int)).f0 := by rw [← es, h4, if_neg (by omega)]
          rw [e0, if_pos (by simp; omega), if_neg (fun hh => by omega)]
    · rw [if_neg h1, if_neg (fun hh => h1 hh.2.1), spec_PutAway.J0_eq, if_pos rfl]
  · rw [if_neg h, if_neg (fun hh => h hh.1), spec_PutAway.J0_eq, if_pos rfl]

theorem cloneSlot_is (l : List S95) (hn : l.length ≤ 4194304) : impl_Slot_78.f l = some l := by
  unfold impl_Slot_78.f
  rw [Option.bind_some, if_pos (by simp only [List.length_nil]; omega)]
  rfl

theorem impl_slotWith_is (l : List S95) (t : Int) : impl_slotWith.f l t = some (slotAt l t) := rfl

theorem impl_SlotOf_is (l : List S95) (t : Int) (hn : l.length ≤ 1048576) : impl_SlotOf.f l t = some (slotOf l t) := by
  unfold impl_SlotOf.f
  rw [impl_slotWith_is, Option.bind_some, ← slotOf_slotAt]
  rcases slotAt_cases l t with ⟨h, h1⟩ | ⟨h0, j, h1, h2, h3, h4⟩
  · rw [h, if_pos (by omega), if_pos (by omega)]
  · rw [h2, if_neg (by omega), if_pos (by omega), if_pos (by omega), if_neg (by omega)]

theorem inRange (a b c : Int) : impl_InRange.f a b c = some (inR a b c) := by
  unfold impl_InRange.f inR
  by_cases h : b ≤ a <;> simp [h]

theorem impl_AreSlots_l0 (l : List S95) (hn : l.length ≤ 1048576) : ∀ (d i : Nat), i + d = l.length → (∀ j, j < i → okSlot l j) → impl_AreSlots.L0 l l (l.length : Int) (i : Int) = some (allF (okSlot l) l.length i)
  | 0, i, h, hpre => by rw [impl_AreSlots.L0_eq, if_neg (by omega), allF_end (by omega)]
  | d + 1, i, h, hpre => by
    have hi : i < l.length := by omega
    have hf := fresh_iff l i (by omega) hpre
    have htl : (l.take i).length ≤ 1048576 := by rw [List.length_take]; omega
    rw [impl_AreSlots.L0_eq]
    simp only [wrap_succ i (by omega), wrap_pred i (by omega), inRange, Int.toNat_natCast, impl_SlotOf_is _ _ htl, Option.bind_some, hf]
    have ih : okSlot l i → impl_AreSlots.L0 l l (l.length : Int) ((i + 1 : Nat) : Int) = some (allF (okSlot l) l.length (i + 1)) := fun hp_ => impl_AreSlots_l0 l hn d (i + 1) (by omega) (fun j hj => by
        by_cases e : j = i
        · rw [e]; exact hp_
        · exact hpre j (by omega))
    have e1 : (i : Int) < (l.length : Int) := by omega
    have e2 : (0 : Int) ≤ (i : Int) := by omega
    have e3 : (i : Int) ≤ (l.length : Int) := by omega
    by_cases c0 : (i : Int) > 0
    · have e4 : (0 : Int) ≤ (i : Int) - 1 := by omega
      have e5 : (i : Int) - 1 < (l.length : Int) := by omega
      simp only [if_pos e1, if_pos e2, if_pos e3, if_pos c0, if_pos e4, if_pos e5]
      by_cases c1 : inR (rd_T95 l (i : Int)).f0 1 99 = true
      · rw [if_pos c1]
        by_cases c2 : (rd_T95 l (i : Int)).f0 ≤ (rd_T95 l ((i : Int) - 1)).f0
        · rw [if_pos c2, allF_no hi (fun h => absurd (h.2.1 c0) (by omega))]
          first | done | rfl | simp
        · rw [if_neg c2]
          by_cases c3 : inR (rd_T95 l (i : Int)).f1 1 50 = true
          · rw [if_pos c3]
            by_cases c4 : inR (rd_T95 l (i : Int)).f2 0 999 = true
            · rw [if_pos c4]
              by_cases c5 : freshB l i = true
              · rw [if_pos c5]
                have hp_ : okSlot l i := ⟨c1, fun _ => by omega, c3, c4, c5⟩
                rw [ih hp_, allF_yes hp_]
              · rw [if_neg c5, allF_no hi (fun h => c5 h.2.2.2.2)]
                first | done | rfl | simp
            · rw [if_neg c4, allF_no hi (fun h => c4 h.2.2.2.1)]
              first | done | rfl | simp
          · rw [if_neg c3, allF_no hi (fun h => c3 h.2.2.1)]
            first | done | rfl | simp
      · rw [if_neg c1, allF_no hi (fun h => c1 h.1)]
        first | done | rfl | simp
    · simp only [if_pos e1, if_pos e2, if_pos e3, if_neg c0]
      by_cases c1 : inR (rd_T95 l (i : Int)).f0 1 99 = true
      · rw [if_pos c1]
        by_cases c2 : inR (rd_T95 l (i : Int)).f1 1 50 = true
        · rw [if_pos c2]
          by_cases c3 : inR (rd_T95 l (i : Int)).f2 0 999 = true
          · rw [if_pos c3]
            by_cases c4 : freshB l i = true
            · rw [if_pos c4]
              have hp_ : okSlot l i := ⟨c1, fun hh => absurd hh c0, c2, c3, c4⟩
              rw [ih hp_, allF_yes hp_]
            · rw [if_neg c4, allF_no hi (fun h => c4 h.2.2.2.2)]
              first | done | rfl | simp
          · rw [if_neg c3, allF_no hi (fun h => c3 h.2.2.2.1)]
            first | done | rfl | simp
        · rw [if_neg c2, allF_no hi (fun h => c2 h.2.2.1)]
          first | done | rfl | simp
      · rw [if_neg c1, allF_no hi (fun h => c1 h.1)]
        first | done | rfl | simp
theorem impl_AreSlots_is (l : List S95) (hn : l.length ≤ 1048576) : impl_AreSlots.F l = some (areSlots l) := by
  rw [impl_AreSlots.F_eq, areSlots]
  by_cases h : (l.length : Int) > 30
  · rw [if_pos h, decide_eq_false (by omega), Bool.and_false]
  · rw [if_neg h, decide_eq_true (by omega), Bool.and_true]
    exact impl_AreSlots_l0 l hn l.length 0 (by omega) (fun j hj => absurd hj (by omega))

theorem impl_freeFor_l0 (l : List S95) (size : Int) (hn : l.length ≤ 1048576) : ∀ (d i : Nat) (b : Int), i + d = l.length → b < i → -1 ≤ b → impl_freeFor.L0 l size b l (l.length : Int) (i : Int) = some (bestSlot l size d i b)
  | 0, i, b, h, h1, h2 => by rw [impl_freeFor.L0_eq, if_neg (by omega)]; rfl
  | d + 1, i, b, h, h1, h2 => by
    have hi : i < l.length := by omega
    rw [impl_freeFor.L0_eq, if_pos (by omega), if_pos (by omega), if_pos (by omega)]
    simp only [wrap_succ i (by omega), bestSlot]
    by_cases c1 : (rd_T95 l (i : Int)).f2 = 0
    · by_cases c2 : (rd_T95 l (i : Int)).f1 ≥ size
      · by_cases c3 : b < 0
        · rw [if_pos c1, if_pos c2, if_pos c3, if_pos ⟨c1, c2, .inl c3⟩]
          exact impl_freeFor_l0 l size hn d (i + 1) _ (by omega) (by omega) (by omega)
        · by_cases c4 : (rd_T95 l (i : Int)).f1 < (rd_T95 l b).f1
          · rw [if_pos c1, if_pos c2, if_neg c3, if_pos (by omega), if_pos (by omega), if_pos c4, if_pos ⟨c1, c2, .inr c4⟩]
            exact impl_freeFor_l0 l size hn d (i + 1) _ (by omega) (by omega) (by omega)
          · rw [if_pos c1, if_pos c2, if_neg c3, if_pos (by omega), if_pos (by omega), if_neg c4, if_neg (fun h => h.2.2.elim c3 c4)]
            exact impl_freeFor_l0 l size hn d (i + 1) _ (by omega) (by omega) (by omega)
      · rw [if_pos c1, if_neg c2, if_neg (fun h => c2 h.2.1)]
        exact impl_freeFor_l0 l size hn d (i + 1) _ (by omega) (by omega) (by omega)
    · rw [if_neg c1, if_neg (fun h => c1 h.1)]
      exact impl_freeFor_l0 l size hn d (i + 1) _ (by omega) (by omega) (by omega)
theorem impl_freeFor_is (l : List S95) (size : Int) (hn : l.length ≤ 1048576) : impl_freeFor.F l size = some (bestSlot l size l.length 0 (-1)) := by
  rw [impl_freeFor.F_eq]
  exact impl_freeFor_l0 l size hn l.length 0 (-1) (by omega) (by omega) (by omega)

theorem impl_IsThing_is (a b c d e : Int) : impl_IsThing.f a b c d e = some (inR a 1 999 && inR b 1 8 && inR c 0 7 && inR d 1 50 && inR e 0 10000000) := by
  unfold impl_IsThing.f
  simp only [inRange, Option.bind_some]
  cases inR a 1 999 <;> cases inR b 1 8 <;> cases inR c 0 7 <;> cases inR d 1 50 <;> simp

theorem impl_PutAway_is (l : List S95) (a b c d e : Int) (hn : l.length ≤ 1048576) : impl_PutAway.F l a b c d e = some (putAway l a b c d e) := by
  have hb := bestSlot_bd l d l.length 0 (-1) (by omega) (by omega) (by omega)
  rw [impl_PutAway.F_eq, cloneSlot_is l (by omega), Option.bind_some, impl_freeFor_is l d hn, Option.bind_some, impl_AreSlots_is l hn, Option.bind_some, putAway]
  have ht : impl_IsThing.f a b c d e = some (isThing a b c d e) := impl_IsThing_is ..
  rw [ht]
  simp only [Option.bind_some, impl_slotWith_is]
  by_cases h : areSlots l = true
  · rw [if_pos h]
    by_cases h1 : isThing a b c d e = true
    · rw [if_pos h1]
      by_cases h2 : bestSlot l d l.length 0 (-1) < 0
      · rw [if_pos h2, if_neg (fun hh => by omega)]
      · rw [if_neg h2]
        by_cases h3 : slotAt l a ≥ 0
        · rw [if_pos h3, if_neg (fun hh => by omega)]
        · rw [if_neg h3, if_pos (by omega), if_pos (by omega), if_pos ⟨h, h1, by omega, by omega⟩]
          unfold putIn
          rw [Int.toNat_of_nonneg (by omega)]
    · rw [if_neg h1, if_neg (fun hh => h1 hh.2.1)]
  · rw [if_neg h, if_neg (fun hh => h hh.1)]

theorem law_FnExactPutAway (l0 : List S110) (hm0 : l0.length ≤ maxLen) (hw0 : ∀ y ∈ l0, ok110 y) (x1 : S71) (hw1 : ok71 x1) : laws_FnExactPutAway.F l0 x1.f0 x1.f1 x1.f2 x1.f3 x1.f4 = some true := by
  rw [laws_FnExactPutAway.F_eq, szSlotS l0 1048576 (by omega) hm0]
  simp only [Option.bind_some]
  by_cases h : (1048576 : Int) < (l0.length : Int)
  · rw [if_pos h]; rfl
  · have hn : l0.length ≤ 1048576 := by omega
    have hn' : (l0.map cvSlot).length ≤ 1048576 := by rw [List.length_map]; exact hn
    rw [if_neg h, if_neg (by omega)]
    have h_spec := spec_PutAway_is _ x1.f0 x1.f1 x1.f2 x1.f3 x1.f4 hn'
    have h_impl := impl_PutAway_is _ x1.f0 x1.f1 x1.f2 x1.f3 x1.f4 hn'
    have hR : (putAway (l0.map cvSlot) x1.f0 x1.f1 x1.f2 x1.f3 x1.f4).1.length ≤ 1048576 := by rw [putAway_len]; exact hn'
    obtain ⟨R, hR0⟩ : ∃ R, putAway (l0.map cvSlot) x1.f0 x1.f1 x1.f2 x1.f3 x1.f4 = R := ⟨_, rfl⟩
    rw [hR0] at h_spec h_impl hR
    generalize hRR : R = r at h_spec h_impl hR
    obtain ⟨R1, b⟩ := r
    have e1 : ¬ (1 + 3 * ((l0.map cvSlot).length : Int) < 0) := by omega
    have e2 : ¬ (1 + 3 * (R1.length : Int) < 0) := by omega
    simp only [toSlotS l0 hn, laws_toThing.f, h_spec, h_impl, eqSlotS _ hR, Option.bind_some, if_true, bne_self_eq_false, laws_FnExactPutAway.J0_eq, laws_FnExactPutAway.J1_eq, laws_FnExactPutAway.J2_eq, Bool.false_eq_true, if_false, eqSlotS _ hn', markSlotS _ 1 (by omega) hn', markSlotS _ 1 (by omega) hR, heldSlotS 1 _ (by omega) hR, if_neg e1, if_neg e2]

theorem FnExactPutAway (l0 : List S110) (hm0 : l0.length ≤ maxLen) (hw0 : ∀ y ∈ l0, ok110 y) (x1 : S71) (hw1 : ok71 x1) : ∃ k, laws_FnExactPutAway.f k l0 x1.f0 x1.f1 x1.f2 x1.f3 x1.f4 = some true :=
  (laws_FnExactPutAway.F_co l0 x1.f0 x1.f1 x1.f2 x1.f3 x1.f4).rounds (law_FnExactPutAway l0 hm0 hw0 x1 hw1)
end Go.Proofs.Ytbbfelgojaioaaa.PFnExactPutAway.Pure
