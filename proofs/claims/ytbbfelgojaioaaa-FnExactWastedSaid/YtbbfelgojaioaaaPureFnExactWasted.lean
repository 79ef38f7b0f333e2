/-
  The program's Wasted answers as the reference's does, for all arguments. It has no conditions.
-/
import Derived.Test.YtbbfelgojaioaaaShFnExactWasted
import Derived.Test.YtbbfelgojaioaaaEqFnExactWasted
import Derived.Test.YtbbfelgojaioaaaBase
set_option linter.unusedVariables false
set_option linter.unusedSimpArgs false
namespace Go.Proofs.Ytbbfelgojaioaaa.PFnExactWasted.Pure
open Go.RowKit Go.Proofs.YtbbfelgojaioaaaW.PrintWords Go.Proofs.YtbbfelgojaioaaaW.PrintLast Go.Proofs.YtbbfelgojaioaaaW.PrintMore Go.Proofs.Ytbbfelgojaioaaa.PFnExactWasted Go.Proofs.Ytbbfelgojaioaaa.Lim Go.Proofs.Ytbbfelgojaioaaa.Base
set_option maxRecDepth 100000

theorem szSlotS (l : List S110) (a : Int) (ha : 0 ≤ a ∧ a ≤ 1048576) (hl : l.length ≤ maxLen) : laws_szSlotS.f l a = some (if a < (l.length : Int) then -1 else a - (l.length : Int)) := by
  simp only [maxLen] at hl
  unfold laws_szSlotS.f
  rw [wrap_in _ (by omega)]
  by_cases h : a < (l.length : Int)
  · rw [if_pos (by omega), if_pos h]
  · rw [if_neg (by omega), if_neg h]

def cvSlot (y : S110) : S95 := ⟨y.f0, y.f1, y.f2⟩
theorem toSlotS_l0 (l : List S110) (hn : l.length ≤ 1048576) : ∀ (d i : Nat) (acc : List S95), i + d = l.length → acc.length = l.length → acc.take i = (l.take i).map cvSlot → laws_toSlotS.L0 l acc (i : Int) = some (l.map cvSlot)
  | 0, i, acc, h, ha, ht => by
    rw [laws_toSlotS.L0_eq, if_neg (by omega)]
    rw [List.take_of_length_le (by omega), List.take_of_length_le (by omega)] at ht
    rw [ht]
  | d + 1, i, acc, h, ha, ht => by
    have hi : i < l.length := by omega
    rw [laws_toSlotS.L0_eq, if_pos (by omega), if_pos (by omega)]
    simp only [laws_toSlot.f, Option.bind_some, wrap_succ i (by omega)]
    rw [if_pos (by omega)]
    refine toSlotS_l0 l hn d (i + 1) _ (by omega) (by rw [List.length_set]; exact ha) ?_
    rw [Int.toNat_natCast]
    exact fill_step l cvSlot acc i ha hi ht _ (by simp [rd_T110, cvSlot, hi])
theorem toSlotS (l : List S110) (hn : l.length ≤ 1048576) : laws_toSlotS.F l = some (l.map cvSlot) := by
  rw [laws_toSlotS.F_eq, if_pos (by omega), if_pos (by omega)]
  exact toSlotS_l0 l hn l.length 0 _ (by omega) (by simp) (by simp)

theorem eqSlotS_l0 (l : List S95) (hn : l.length ≤ 1048576) : ∀ (d i : Nat), i + d = l.length → laws_eqSlotS.L0 l l (i : Int) = some true
  | 0, i, h => by rw [laws_eqSlotS.L0_eq, if_neg (by omega)]
  | d + 1, i, h => by
    rw [laws_eqSlotS.L0_eq, if_pos (by omega), if_pos (by omega), if_pos (by omega)]
    simp only [laws_eqSlot.f, if_true, Option.bind_some, wrap_succ i (by omega)]
    exact eqSlotS_l0 l hn d (i + 1) (by omega)
theorem eqSlotS (l : List S95) (hn : l.length ≤ 1048576) : laws_eqSlotS.F l l = some true := by
  rw [laws_eqSlotS.F_eq, if_pos rfl]
  exact eqSlotS_l0 l hn l.length 0 (by omega)

theorem szThingS (l : List S71) (a : Int) (ha : 0 ≤ a ∧ a ≤ 1048576) (hl : l.length ≤ maxLen) : laws_szThingS.f l a = some (if a < (l.length : Int) then -1 else a - (l.length : Int)) := by
  simp only [maxLen] at hl
  unfold laws_szThingS.f
  rw [wrap_in _ (by omega)]
  by_cases h : a < (l.length : Int)
  · rw [if_pos (by omega), if_pos h]
  · rw [if_neg (by omega), if_neg h]

def cvThing (y : S71) : S73 := ⟨y.f0, y.f1, y.f2, y.f3, y.f4⟩
theorem toThingS_l0 (l : List S71) (hn : l.length ≤ 1048576) : ∀ (d i : Nat) (acc : List S73), i + d = l.length → acc.length = l.length → acc.take i = (l.take i).map cvThing → laws_toThingS.L0 l acc (i : Int) = some (l.map cvThing)
  | 0, i, acc, h, ha, ht => by
    rw [laws_toThingS.L0_eq, if_neg (by omega)]
    rw [List.take_of_length_le (by omega), List.take_of_length_le (by omega)] at ht
    rw [ht]
  | d + 1, i, acc, h, ha, ht => by
    have hi : i < l.length := by omega
    rw [laws_toThingS.L0_eq, if_pos (by omega), if_pos (by omega)]
    simp only [laws_toThing.f, Option.bind_some, wrap_succ i (by omega)]
    rw [if_pos (by omega)]
    refine toThingS_l0 l hn d (i + 1) _ (by omega) (by rw [List.length_set]; exact ha) ?_
    rw [Int.toNat_natCast]
    exact fill_step l cvThing acc i ha hi ht _ (by simp [rd_T71, cvThing, hi])
theorem toThingS (l : List S71) (hn : l.length ≤ 1048576) : laws_toThingS.F l = some (l.map cvThing) := by
  rw [laws_toThingS.F_eq, if_pos (by omega), if_pos (by omega)]
  exact toThingS_l0 l hn l.length 0 _ (by omega) (by simp) (by simp)

theorem eqThingS_l0 (l : List S73) (hn : l.length ≤ 1048576) : ∀ (d i : Nat), i + d = l.length → laws_eqThingS.L0 l l (i : Int) = some true
  | 0, i, h => by rw [laws_eqThingS.L0_eq, if_neg (by omega)]
  | d + 1, i, h => by
    rw [laws_eqThingS.L0_eq, if_pos (by omega), if_pos (by omega), if_pos (by omega)]
    simp only [laws_eqThing.f, if_true, Option.bind_some, wrap_succ i (by omega)]
    exact eqThingS_l0 l hn d (i + 1) (by omega)
theorem eqThingS (l : List S73) (hn : l.length ≤ 1048576) : laws_eqThingS.F l l = some true := by
  rw [laws_eqThingS.F_eq, if_pos rfl]
  exact eqThingS_l0 l hn l.length 0 (by omega)

theorem rdSlot_at (l : List S95) (i : Nat) : rd_T95 l (i : Int) = l.getD i z95 := by simp [rd_T95]
theorem dropSlot (l : List S95) (i : Nat) (h : i < l.length) : l.drop i = rd_T95 l (i : Int) :: l.drop (i + 1) := by
  rw [rdSlot_at, getD_get l i _ h]
  exact List.drop_eq_getElem_cons h

theorem idxFSlot_spec (p : S95 → Bool) : ∀ (l : List S95) (i : Int), (idxF95 p l i = -1 ∧ ∀ x ∈ l, ¬ p x = true) ∨ ∃ j : Nat, j < l.length ∧ idxF95 p l i = i + (j : Int) ∧ p (l.getD j z95) = true ∧ ∀ m : Nat, m < j → ¬ p (l.getD m z95) = true
  | [], i => .inl ⟨rfl, by simp⟩
  | x :: r, i => by
    simp only [idxF95]
    by_cases h : p x = true
    · rw [if_pos h]
      exact .inr ⟨0, by simp, by simp, by simpa using h, fun m hm => absurd hm (by omega)⟩
    · rw [if_neg h]
      rcases idxFSlot_spec p r (i + 1) with ⟨h1, h2⟩ | ⟨j, h1, h2, h3, h4⟩
      · exact .inl ⟨h1, fun y hy => by
          rcases List.mem_cons.1 hy with e | e
          · rw [e]; exact h
          · exact h2 y e⟩
      · refine .inr ⟨j + 1, by simp; omega, by rw [h2]; omega, by simpa using h3, fun m hm => ?_⟩
        cases m with
        | zero => simpa using h
        | succ m => simpa using h4 m (by omega)
theorem idxFSlot_at (p : S95 → Bool) (l : List S95) : (idxF95 p l 0 = -1 ∧ ∀ x ∈ l, ¬ p x = true) ∨ ∃ j : Nat, j < l.length ∧ idxF95 p l 0 = (j : Int) ∧ p (rd_T95 l (j : Int)) = true ∧ ∀ m : Nat, m < j → ¬ p (rd_T95 l (m : Int)) = true := by
  rcases idxFSlot_spec p l 0 with h | ⟨j, h1, h2, h3, h4⟩
  · exact .inl h
  · refine .inr ⟨j, h1, by rw [h2]; omega, by rw [rdSlot_at]; exact h3, fun m hm => by rw [rdSlot_at]; exact h4 m hm⟩

def slotOf : List S95 → Int → Int
  | [], _ => 0
  | x :: r, t => if t ≠ 0 ∧ x.f2 = t then x.f0 else slotOf r t
def slotAt (l : List S95) (t : Int) : Int := if t = 0 then -1 else idxF95 (fun x => x.f2 == t) l 0
theorem slotAt_cases (l : List S95) (t : Int) : (slotAt l t = -1 ∧ (t = 0 ∨ ∀ x ∈ l, x.f2 ≠ t)) ∨ (t ≠ 0 ∧ ∃ j : Nat, j < l.length ∧ slotAt l t = (j : Int) ∧ (rd_T95 l (j : Int)).f2 = t ∧ ∀ m : Nat, m < j → (rd_T95 l (m : Int)).f2 ≠ t) := by
  unfold slotAt
  by_cases h : t = 0
  · exact .inl ⟨by rw [if_pos h], .inl h⟩
  · rw [if_neg h]
    rcases idxFSlot_at (fun x => x.f2 == t) l with ⟨h1, h2⟩ | ⟨j, h1, h2, h3, h4⟩
    · exact .inl ⟨h1, .inr (fun x hx => by simpa using h2 x hx)⟩
    · exact .inr ⟨h, j, h1, h2, by simpa using h3, fun m hm => by simpa using h4 m hm⟩
theorem slotOf_none (t : Int) : ∀ (l : List S95), (t = 0 ∨ ∀ x ∈ l, x.f2 ≠ t) → slotOf l t = 0
  | [], h => rfl
  | x :: r, h => by
    simp only [slotOf]
    rw [if_neg (fun hh => h.elim (fun h0 => hh.1 h0) (fun h1 => h1 x (by simp) hh.2))]
    exact slotOf_none t r (h.imp id (fun h1 y hy => h1 y (by simp [hy])))
theorem slotOf_at (t : Int) (ht : t ≠ 0) : ∀ (l : List S95) (j : Nat), j < l.length → (l.getD j z95).f2 = t → (∀ m : Nat, m < j → (l.getD m z95).f2 ≠ t) → slotOf l t = (l.getD j z95).f0
  | [], j, h, _, _ => by simp at h
  | x :: r, 0, h, h1, h2 => by
    simp only [slotOf]
    rw [if_pos ⟨ht, by simpa using h1⟩]
    simp
  | x :: r, j + 1, h, h1, h2 => by
    simp only [slotOf]
    rw [if_neg (fun hh => h2 0 (by omega) (by simpa using hh.2))]
    have := slotOf_at t ht r j (by simpa using h) (by simpa using h1) (fun m hm => by simpa using h2 (m + 1) (by omega))
    rw [this]
    simp
theorem slotOf_slotAt (l : List S95) (t : Int) : (if slotAt l t < 0 then 0 else (rd_T95 l (slotAt l t)).f0) = slotOf l t := by
  rcases slotAt_cases l t with ⟨h, h1⟩ | ⟨h0, j, h1, h2, h3, h4⟩
  · rw [h, if_pos (by omega), slotOf_none t l h1]
  · rw [h2, if_neg (by omega), rdSlot_at, slotOf_at t h0 l j h1 (by rw [← rdSlot_at]; exact h3) (fun m hm => by rw [← rdSlot_at]; exact h4 m hm)]

noncomputable def freshB (l : List S95) (i : Nat) : Bool := decide ((rd_T95 l i).f2 = 0) || allF (fun q : Nat => (rd_T95 l q).f2 ≠ (rd_T95 l i).f2) i 0
def okSlot (l : List S95) (i : Nat) : Prop := inR (rd_T95 l i).f0 1 99 = true ∧ ((i : Int) > 0 → (rd_T95 l ((i : Int) - 1)).f0 < (rd_T95 l i).f0) ∧ inR (rd_T95 l i).f1 1 50 = true ∧ inR (rd_T95 l i).f2 0 999 = true ∧ freshB l i = true
noncomputable def areSlots (l : List S95) : Bool := allF (okSlot l) l.length 0 && decide ((l.length : Int) ≤ 30)
theorem rdSlot_take (l : List S95) (i q : Nat) (h : q < i) : rd_T95 (l.take i) (q : Int) = rd_T95 l (q : Int) := by
  rw [rdSlot_at, rdSlot_at, List.getD_eq_getElem?_getD, List.getD_eq_getElem?_getD, List.getElem?_take, if_pos h]
theorem fresh_iff (l : List S95) (i : Nat) (hi : i ≤ l.length) (hpre : ∀ j, j < i → okSlot l j) : (slotOf (l.take i) (rd_T95 l i).f2 = 0) = (freshB l i = true) := by
  have hl : (l.take i).length = i := by rw [List.length_take]; omega
  have e := slotOf_slotAt (l.take i) (rd_T95 l i).f2
  unfold freshB
  rw [Bool.or_eq_true, decide_eq_true_iff, allF_all]
  apply propext
  rcases slotAt_cases (l.take i) (rd_T95 l i).f2 with ⟨h, h1⟩ | ⟨h0, j, h1, h2, h3, h4⟩
  · rw [h, if_pos (by omega)] at e
    rw [← e]
    refine ⟨fun _ => h1.imp id (fun hx q hq => ?_), fun _ => rfl⟩
    rw [← rdSlot_take l i q hq, rdSlot_at, getD_get _ _ _ (by omega)]
    exact hx _ (List.getElem_mem _)
  · rw [hl] at h1
    rw [h2, if_neg (by omega), rdSlot_take l i j h1] at e
    rw [rdSlot_take l i j h1] at h3
    have hb := inR_iff.1 (hpre j h1).1
    exact ⟨fun hh => by omega, fun hh => hh.elim (fun hz => absurd hz h0) (fun ha => absurd h3 (ha j h1))⟩

theorem areSlots_ok {l : List S95} (h : areSlots l = true) : (∀ i : Nat, i < l.length → okSlot l i) ∧ l.length ≤ 30 := by
  unfold areSlots at h
  rw [Bool.and_eq_true, allF_all, decide_eq_true_iff] at h
  exact ⟨h.1, by omega⟩
theorem slots_lt {l : List S95} (h : areSlots l = true) : ∀ (d i j : Nat), i + d + 1 = j → j < l.length → (rd_T95 l (i : Int)).f0 < (rd_T95 l (j : Int)).f0
  | 0, i, j, e, hj => by
    have h1 := ((areSlots_ok h).1 j hj).2.1 (by omega)
    rw [show (j : Int) - 1 = (i : Int) by omega] at h1
    exact h1
  | d + 1, i, j, e, hj => by
    have h0 := slots_lt h d i (j - 1) (by omega) (by omega)
    have h1 := ((areSlots_ok h).1 j hj).2.1 (by omega)
    rw [show (j : Int) - 1 = ((j - 1 : Nat) : Int) by omega] at h1
    omega
theorem slots_inj {l : List S95} (h : areSlots l = true) (i j : Nat) (hi : i < l.length) (hj : j < l.length) : (rd_T95 l (i : Int)).f0 = (rd_T95 l (j : Int)).f0 ↔ i = j := by
  constructor
  · intro e
    rcases Nat.lt_trichotomy i j with hlt | he | hgt
    · have := slots_lt h (j - i - 1) i j (by omega) hj
      omega
    · exact he
    · have := slots_lt h (i - j - 1) j i (by omega) hi
      omega
  · rintro rfl; rfl
theorem slots_id {l : List S95} (h : areSlots l = true) (i : Nat) (hi : i < l.length) : 1 ≤ (rd_T95 l (i : Int)).f0 ∧ (rd_T95 l (i : Int)).f0 ≤ 99 := inR_iff.1 ((areSlots_ok h).1 i hi).1
def putIn (l : List S95) (j : Nat) (t : Int) : List S95 := l.set j ⟨(rd_T95 l (j : Int)).f0, (rd_T95 l (j : Int)).f1, t⟩
theorem putIn_len (l : List S95) (j : Nat) (t : Int) : (putIn l j t).length = l.length := by simp [putIn]
theorem putIn_rd (l : List S95) (j : Nat) (t : Int) (q : Nat) : rd_T95 (putIn l j t) (q : Int) = if q = j ∧ j < l.length then ⟨(rd_T95 l (j : Int)).f0, (rd_T95 l (j : Int)).f1, t⟩ else rd_T95 l (q : Int) := by
  simp only [rdSlot_at]
  rw [putIn, List.getD_eq_getElem?_getD, List.getElem?_set]
  by_cases h : j = q
  · subst h
    rw [if_pos rfl]
    by_cases h2 : j < l.length
    · rw [if_pos h2, if_pos ⟨rfl, h2⟩]; rfl
    · rw [if_neg h2, if_neg (fun hh => h2 hh.2), List.getD_eq_getElem?_getD, List.getElem?_eq_none (by omega)]
  · rw [if_neg h, if_neg (fun hh => h hh.1.symm), List.getD_eq_getElem?_getD]

theorem rdThing_at (l : List S73) (i : Nat) : rd_T73 l (i : Int) = l.getD i z73 := by simp [rd_T73]
theorem dropThing (l : List S73) (i : Nat) (h : i < l.length) : l.drop i = rd_T73 l (i : Int) :: l.drop (i + 1) := by
  rw [rdThing_at, getD_get l i _ h]
  exact List.drop_eq_getElem_cons h

def isThingW (x : S73) : Bool := inR x.f0 1 999 && inR x.f1 1 8 && inR x.f2 0 7 && inR x.f3 1 50 && inR x.f4 0 10000000
def okThing (l : List S73) (i : Nat) : Prop := isThingW (rd_T73 l i) = true ∧ ((i : Int) > 0 → (rd_T73 l ((i : Int) - 1)).f0 < (rd_T73 l i).f0)
noncomputable def areThings (l : List S73) : Bool := allF (okThing l) l.length 0 && decide ((l.length : Int) ≤ 20)

theorem impl_slotWith_is (l : List S95) (t : Int) : impl_slotWith.f l t = some (slotAt l t) := rfl

def term (s : S95) (x : S73) : Int := if s.f2 = x.f0 then s.f1 - x.f3 else 0
def rowSum (s : S95) : List S73 → Int
  | [] => 0
  | x :: r => term s x + rowSum s r
def gridSum (lx : List S73) : List S95 → Int
  | [] => 0
  | s :: r => rowSum s lx + gridSum lx r
def colSum (x : S73) : List S95 → Int
  | [] => 0
  | s :: r => term s x + colSum x r
def colsSum (ls : List S95) : List S73 → Int
  | [] => 0
  | x :: r => colSum x ls + colsSum ls r
noncomputable def fitOf (ls : List S95) (x : S73) : Int := if slotAt ls x.f0 ≥ 0 then (rd_T95 ls (slotAt ls x.f0)).f1 - x.f3 else 0
noncomputable def fitSum (ls : List S95) : List S73 → Int
  | [] => 0
  | x :: r => fitOf ls x + fitSum ls r
theorem colsSum_nil : ∀ lx : List S73, colsSum [] lx = 0
  | [] => rfl
  | x :: r => by simp only [colsSum, colSum, colsSum_nil r]; omega
theorem colsSum_cons (s : S95) (r : List S95) : ∀ lx : List S73, colsSum (s :: r) lx = rowSum s lx + colsSum r lx
  | [] => rfl
  | x :: q => by simp only [colsSum, colSum, rowSum, colsSum_cons s r q]; omega
theorem grid_cols (lx : List S73) : ∀ ls : List S95, gridSum lx ls = colsSum ls lx
  | [] => by rw [colsSum_nil]; rfl
  | s :: r => by rw [colsSum_cons, gridSum, grid_cols lx r]
theorem colSum_none (x : S73) : ∀ ls : List S95, (∀ s ∈ ls, s.f2 ≠ x.f0) → colSum x ls = 0
  | [], _ => rfl
  | s :: r, h => by
    rw [colSum, term, if_neg (h s (List.mem_cons_self ..)), colSum_none x r (fun y hy => h y (List.mem_cons_of_mem _ hy))]; rfl
theorem colSum_one (x : S73) : ∀ (ls : List S95) (j : Nat), j < ls.length → (ls.getD j z95).f2 = x.f0 → (∀ m : Nat, m < ls.length → m ≠ j → (ls.getD m z95).f2 ≠ x.f0) → colSum x ls = (ls.getD j z95).f1 - x.f3
  | [], j, hj, _, _ => absurd hj (Nat.not_lt_zero _)
  | s :: r, 0, hj, h, hm => by
    have h0 : s.f2 = x.f0 := h
    have hn : colSum x r = 0 := colSum_none x r (fun y hy => by
      obtain ⟨q, hq, e⟩ := List.getElem_of_mem hy
      have := hm (q + 1) (by simp only [List.length_cons]; omega) (by omega)
      rw [List.getD_cons_succ, getD_get r q _ hq, e] at this
      exact this)
    rw [colSum, term, if_pos h0, hn, List.getD_cons_zero]; omega
  | s :: r, j + 1, hj, h, hm => by
    rw [List.getD_cons_succ] at h
    have h0 : s.f2 ≠ x.f0 := hm 0 (by simp only [List.length_cons]; omega) (by omega)
    have ih := colSum_one x r j (by simp only [List.length_cons] at hj; omega) h (fun m hml hmj => by
      have := hm (m + 1) (by simp only [List.length_cons]; omega) (by omega)
      rw [List.getD_cons_succ] at this
      exact this)
    rw [colSum, term, if_neg h0, ih, List.getD_cons_succ]; omega
theorem slots_once {l : List S95} (h : areSlots l = true) {j m : Nat} (hjm : j < m) (hm : m < l.length) (h0 : (rd_T95 l (m : Int)).f2 ≠ 0) : (rd_T95 l (j : Int)).f2 ≠ (rd_T95 l (m : Int)).f2 := by
  have := ((areSlots_ok h).1 m hm).2.2.2.2
  unfold freshB at this
  rw [decide_eq_false h0, Bool.false_or, allF_all] at this
  exact this j hjm
theorem col_fit {ls : List S95} (h : areSlots ls = true) (x : S73) (hx : x.f0 ≠ 0) : colSum x ls = fitOf ls x := by
  unfold fitOf
  rcases slotAt_cases ls x.f0 with ⟨h1, h2⟩ | ⟨h0, j, hj, h2, h3, h4⟩
  · rw [h1, if_neg (by omega)]
    rcases h2 with h2 | h2
    · exact absurd h2 hx
    · exact colSum_none x ls h2
  · rw [h2, if_pos (by omega), rdSlot_at]
    refine colSum_one x ls j hj (by rw [← rdSlot_at]; exact h3) (fun m hm hmj => ?_)
    rw [← rdSlot_at]
    rcases Nat.lt_trichotomy m j with hlt | he | hgt
    · exact h4 m hlt
    · exact absurd he hmj
    · intro e
      have := slots_once h hgt hm (by rw [e]; exact h0)
      rw [h3, e] at this
      exact this rfl
theorem areThings_ok {l : List S73} (h : areThings l = true) : (∀ x ∈ l, 1 ≤ x.f0 ∧ 1 ≤ x.f3 ∧ x.f3 ≤ 50) ∧ l.length ≤ 20 := by
  unfold areThings at h
  rw [Bool.and_eq_true, allF_all, decide_eq_true_iff] at h
  refine ⟨fun x hx => ?_, by omega⟩
  obtain ⟨q, hq, e⟩ := List.getElem_of_mem hx
  have h1 := (h.1 q hq).1
  rw [rdThing_at, getD_get l q _ hq, e] at h1
  unfold isThingW at h1
  simp only [Bool.and_eq_true, inR_iff] at h1
  omega
theorem fits (ls : List S95) (h : areSlots ls = true) : ∀ lx : List S73, (∀ x ∈ lx, 1 ≤ x.f0 ∧ 1 ≤ x.f3 ∧ x.f3 ≤ 50) → colsSum ls lx = fitSum ls lx
  | [], _ => rfl
  | x :: r, hx => by
    rw [colsSum, fitSum, col_fit h x (by have := hx x (List.mem_cons_self ..); omega), fits ls h r (fun y hy => hx y (List.mem_cons_of_mem _ hy))]
theorem slot_size {l : List S95} (h : areSlots l = true) (i : Nat) (hi : i < l.length) : 1 ≤ (rd_T95 l (i : Int)).f1 ∧ (rd_T95 l (i : Int)).f1 ≤ 50 := inR_iff.1 ((areSlots_ok h).1 i hi).2.2.1
theorem rowSum_bd (s : S95) (hs : 1 ≤ s.f1 ∧ s.f1 ≤ 50) : ∀ lx : List S73, (∀ x ∈ lx, 1 ≤ x.f0 ∧ 1 ≤ x.f3 ∧ x.f3 ≤ 50) → -(50 * (lx.length : Int)) ≤ rowSum s lx ∧ rowSum s lx ≤ 50 * (lx.length : Int)
  | [], _ => by simp [rowSum]
  | x :: r, hx => by
    have ih := rowSum_bd s hs r (fun y hy => hx y (List.mem_cons_of_mem _ hy))
    have h1 := hx x (List.mem_cons_self ..)
    have ht : -50 ≤ term s x ∧ term s x ≤ 50 := by unfold term; split <;> omega
    simp only [rowSum, List.length_cons]
    omega
noncomputable def wasted (ls : List S95) (lx : List S73) : Int := if areSlots ls = true ∧ areThings lx = true then gridSum lx ls else 0

theorem l1In (a b c : Int) : spec_l1In.f a b c = some (inR a b c) := by
  unfold spec_l1In.f inR
  by_cases h : b ≤ a <;> simp [h]

theorem spec_AreSlots_l1 (l : List S95) (hn : l.length ≤ 1048576) (i : Nat) (hi : i < l.length) : ∀ (d m : Nat), m + d = i → spec_AreSlots.L1 l (i : Int) (m : Int) = if (decide ((rd_T95 l i).f2 = 0) || allF (fun q : Nat => (rd_T95 l q).f2 ≠ (rd_T95 l i).f2) i m) = true then spec_AreSlots.L0 l ((i + 1 : Nat) : Int) else some false
  | 0, m, h => by
    rw [spec_AreSlots.L1_eq, if_neg (by omega), allF_end (by omega), Bool.or_true, if_pos rfl, wrap_succ i (by omega)]
  | d + 1, m, h => by
    have hm : m < i := by omega
    rw [spec_AreSlots.L1_eq, if_pos (by omega), if_pos (by omega), if_pos (by omega), wrap_succ m (by omega), spec_AreSlots_l1 l hn i hi d (m + 1) (by omega)]
    by_cases c0 : (rd_T95 l (i : Int)).f2 = 0
    · rw [if_pos c0, decide_eq_true c0, Bool.true_or, Bool.true_or]
    · rw [if_neg c0, decide_eq_false c0, Bool.false_or, Bool.false_or, if_pos (by omega), if_pos (by omega)]
      by_cases c : (rd_T95 l (m : Int)).f2 = (rd_T95 l (i : Int)).f2
      · rw [if_pos c, allF_no hm (fun hh => hh c), if_neg (by decide)]
      · rw [if_neg c, allF_yes (p := fun q : Nat => (rd_T95 l q).f2 ≠ (rd_T95 l i).f2) (n := i) (i := m) c]
theorem spec_AreSlots_l0 (l : List S95) (hn : l.length ≤ 1048576) : ∀ (d i : Nat), i + d = l.length → spec_AreSlots.L0 l (i : Int) = some (allF (okSlot l) l.length i && decide ((l.length : Int) ≤ 30))
  | 0, i, h => by rw [spec_AreSlots.L0_eq, if_neg (by omega), allF_end (by omega)]; rfl
  | d + 1, i, h => by
    have hi : i < l.length := by omega
    have ih := spec_AreSlots_l0 l hn d (i + 1) (by omega)
    have h1 := spec_AreSlots_l1 l hn i hi i 0 (by omega)
    have h1' : spec_AreSlots.L1 l (i : Int) 0 = if freshB l i = true then spec_AreSlots.L0 l ((i + 1 : Nat) : Int) else some false := h1
    rw [spec_AreSlots.L0_eq]
    simp only [wrap_pred i (by omega), l1In, Option.bind_some, spec_AreSlots.J1_eq, h1', ih, decide_eq_true_eq, Bool.false_eq_true, if_false, if_true]
    by_cases hp_ : okSlot l i
    · rw [allF_yes hp_]
      simp only [okSlot] at hp_
      obtain ⟨h1_, h2_, h3_, h4_, h5_⟩ := hp_
      repeat' split
      all_goals first
        | rfl
        | (exfalso; first | contradiction | omega)
    · rw [allF_no hi hp_]
      repeat' split
      all_goals first
        | rfl
        | (simp; done)
        | (exfalso; first | contradiction | omega)
        | (exfalso; apply hp_; simp only [okSlot]; (repeat' constructor) <;> first | assumption | (intro _; omega) | omega)
theorem spec_AreSlots_is (l : List S95) (hn : l.length ≤ 1048576) : spec_AreSlots.F l = some (areSlots l) := by
  rw [spec_AreSlots.F_eq, areSlots]
  exact spec_AreSlots_l0 l hn l.length 0 (by omega)

theorem spec_IsThing_is (a b c d e : Int) : spec_IsThing.f a b c d e = some (inR a 1 999 && inR b 1 8 && inR c 0 7 && inR d 1 50 && inR e 0 10000000) := by
  unfold spec_IsThing.f
  simp only [l1In, Option.bind_some]
  cases inR a 1 999 <;> cases inR b 1 8 <;> cases inR c 0 7 <;> cases inR d 1 50 <;> simp

theorem spec_AreThings_l0 (l : List S73) (hn : l.length ≤ 1048576) : ∀ (d i : Nat), i + d = l.length → spec_AreThings.L0 l (i : Int) = some (allF (okThing l) l.length i && decide ((l.length : Int) ≤ 20))
  | 0, i, h => by rw [spec_AreThings.L0_eq, if_neg (by omega), allF_end (by omega)]; rfl
  | d + 1, i, h => by
    have hi : i < l.length := by omega
    have ih := spec_AreThings_l0 l hn d (i + 1) (by omega)
    have ht : spec_IsThing.f (rd_T73 l (i : Int)).f0 (rd_T73 l (i : Int)).f1 (rd_T73 l (i : Int)).f2 (rd_T73 l (i : Int)).f3 (rd_T73 l (i : Int)).f4 = some (isThingW (rd_T73 l (i : Int))) := spec_IsThing_is ..
    rw [spec_AreThings.L0_eq, if_pos (by omega), if_pos (by omega), ht, Option.bind_some, wrap_pred i (by omega), wrap_succ i (by omega), ih]
    by_cases c1 : isThingW (rd_T73 l (i : Int)) = true
    · rw [if_pos c1]
      by_cases c0 : (i : Int) > 0
      · rw [if_pos c0, if_pos (by omega), if_pos (by omega)]
        by_cases c2 : (rd_T73 l ((i : Int) - 1)).f0 ≥ (rd_T73 l (i : Int)).f0
        · rw [if_pos c2, allF_no hi (fun h => absurd (h.2 c0) (by omega))]; rfl
        · have hp : okThing l i := ⟨c1, fun _ => by omega⟩
          rw [if_neg c2, allF_yes hp]
      · have hp : okThing l i := ⟨c1, fun hh => absurd hh c0⟩
        rw [if_neg c0, allF_yes hp]
    · rw [if_neg c1, allF_no hi (fun h => c1 h.1)]; rfl
theorem spec_AreThings_is (l : List S73) (hn : l.length ≤ 1048576) : spec_AreThings.F l = some (areThings l) := by
  rw [spec_AreThings.F_eq, areThings]
  exact spec_AreThings_l0 l hn l.length 0 (by omega)

theorem spec_Wasted_l1 (ls : List S95) (lx : List S73) (hx : ∀ x ∈ lx, 1 ≤ x.f0 ∧ 1 ≤ x.f3 ∧ x.f3 ≤ 50) (hl : lx.length ≤ 20) (hls : ls.length ≤ 30) (i : Nat) (hi : i < ls.length) (hs : 1 ≤ (rd_T95 ls (i : Int)).f1 ∧ (rd_T95 ls (i : Int)).f1 ≤ 50)  (d : Nat) : ∀ (m : Nat) (acc : Int), m + d = lx.length → -(1000000 - 50 * (d : Int)) ≤ acc ∧ acc ≤ 1000000 - 50 * (d : Int) → spec_Wasted.L1 ls lx acc (i : Int) (m : Int) = spec_Wasted.L0 ls lx (acc + rowSum (rd_T95 ls (i : Int)) (lx.drop m)) ((i + 1 : Nat) : Int) := by
  induction d with
  | zero =>
    intro m acc h hb
    rw [spec_Wasted.L1_eq, if_neg (by omega), List.drop_of_length_le (by omega), rowSum, Int.add_zero, wrap_succ i (by omega)]
  | succ d ihd =>
    intro m acc h hb
    have hm : m < lx.length := by omega
    have h1 := hx (rd_T73 lx (m : Int)) (by rw [rdThing_at, getD_get lx m _ hm]; exact List.getElem_mem hm)
    have ih := fun acc' hb' => ihd (m + 1) acc' (by omega) hb'
    rw [spec_Wasted.L1_eq, if_pos (by omega), if_pos (by omega), if_pos (by omega), if_pos (by omega), wrap_succ m (by omega), dropThing lx m hm, rowSum, term]
    by_cases c : (rd_T95 ls (i : Int)).f2 = (rd_T73 lx (m : Int)).f0
    · rw [if_pos c, if_pos c, wrap_in (acc + _) (by omega), wrap_in _ (by omega), ih _ (by omega)]
      congr 1; omega
    · rw [if_neg c, if_neg c, ih _ (by omega)]
      congr 1; omega
theorem spec_Wasted_l0 (ls : List S95) (lx : List S73) (ha : areSlots ls = true) (hb : areThings lx = true)  (d : Nat) : ∀ (i : Nat) (acc : Int), i + d = ls.length → -(100000 - 1000 * (d : Int)) ≤ acc ∧ acc ≤ 100000 - 1000 * (d : Int) → spec_Wasted.L0 ls lx acc (i : Int) = some (acc + gridSum lx (ls.drop i)) := by
  induction d with
  | zero =>
    intro i acc h _
    rw [spec_Wasted.L0_eq, if_neg (by omega), spec_Wasted.J1_eq, if_neg (by decide), List.drop_of_length_le (by omega), gridSum, Int.add_zero]
  | succ d ihd =>
    intro i acc h hacc
    have hi : i < ls.length := by omega
    have hl := (areSlots_ok ha).2
    obtain ⟨hx, hxl⟩ := areThings_ok hb
    have hs := slot_size ha i hi
    have hr := rowSum_bd (rd_T95 ls (i : Int)) hs lx hx
    have h1 := spec_Wasted_l1 ls lx hx hxl hl i hi hs lx.length 0 acc (by omega) (by omega)
    rw [List.drop_zero] at h1
    have h1' : spec_Wasted.L1 ls lx acc (i : Int) 0 = _ := h1
    rw [spec_Wasted.L0_eq, if_pos (by omega), spec_AreSlots_is ls (by omega), Option.bind_some, if_pos ha, spec_AreThings_is lx (by omega), Option.bind_some, spec_Wasted.J1_eq, if_pos hb, h1', ihd (i + 1) _ (by omega) (by omega), dropSlot ls i hi, gridSum]
    congr 1; omega
theorem spec_Wasted_is (ls : List S95) (lx : List S73) (hn : ls.length ≤ 1048576) (hnx : lx.length ≤ 1048576) : spec_Wasted.F ls lx = some (wasted ls lx) := by
  rw [spec_Wasted.F_eq, wasted]
  by_cases ha : areSlots ls = true
  · by_cases hb : areThings lx = true
    · have hl := (areSlots_ok ha).2
      have := spec_Wasted_l0 ls lx ha hb ls.length 0 0 (by omega) (by omega)
      rw [List.drop_zero, Int.zero_add] at this
      rw [if_pos ⟨ha, hb⟩]
      exact this
    · rw [if_neg (fun hh => hb hh.2), spec_Wasted.L0_eq, spec_AreSlots_is ls hn, Option.bind_some, if_pos ha, spec_AreThings_is lx hnx, Option.bind_some]
      split
      · rw [spec_Wasted.J1_eq, if_neg hb]
      · rw [spec_Wasted.J1_eq, if_neg (by decide)]
  · rw [if_neg (fun hh => ha hh.1), spec_Wasted.L0_eq, spec_AreSlots_is ls hn, Option.bind_some, if_neg ha]
    split <;> rw [spec_Wasted.J1_eq, if_neg (by decide)]

theorem impl_SlotOf_is (l : List S95) (t : Int) (hn : l.length ≤ 1048576) : impl_SlotOf.f l t = some (slotOf l t) := by
  unfold impl_SlotOf.f
  rw [impl_slotWith_is, Option.bind_some, ← slotOf_slotAt]
  rcases slotAt_cases l t with ⟨h, h1⟩ | ⟨h0, j, h1, h2, h3, h4⟩
  · rw [h, if_pos (by omega), if_pos (by omega)]
  · rw [h2, if_neg (by omega), if_pos (by omega), if_pos (by omega), if_neg (by omega)]

theorem inRange (a b c : Int) : impl_InRange.f a b c = some (inR a b c) := by
  unfold impl_InRange.f inR
  by_cases h : b ≤ a <;> simp [h]

theorem impl_AreSlots_l0 (l : List S95) (hn : l.length ≤ 1048576) : ∀ (d i : Nat), i + d = l.length → (∀ j, j < i → okSlot l j) → impl_AreSlots.L0 l l (l.length : Int) (i : Int) = some (allF (okSlot l) l.length i)
  | 0, i, h, hpre => by rw [impl_AreSlots.L0_eq, if_neg (by omega), allF_end (by omega)]
  | d + 1, i, h, hpre => by
    have hi : i < l.length := by omega
    have hf := fresh_iff l i (by omega) hpre
    have htl : (l.take i).length ≤ 1048576 := by rw [List.length_take]; omega
    rw [impl_AreSlots.L0_eq]
    simp only [wrap_succ i (by omega), wrap_pred i (by omega), inRange, Int.toNat_natCast, impl_SlotOf_is _ _ htl, Option.bind_some, hf]
    have ih : okSlot l i → impl_AreSlots.L0 l l (l.length : Int) ((i + 1 : Nat) : Int) = some (allF (okSlot l) l.length (i + 1)) := fun hp_ => impl_AreSlots_l0 l hn d (i + 1) (by omega) (fun j hj => by
        by_cases e : j = i
        · rw [e]; exact hp_
        · exact hpre j (by omega))
    have e1 : (i : Int) < (l.length : Int) := by omega
    have e2 : (0 : Int) ≤ (i : Int) := by omega
    have e3 : (i : Int) ≤ (l.length : Int) := by omega
    by_cases c0 : (i : Int) > 0
    · have e4 : (0 : Int) ≤ (i : Int) - 1 := by omega
      have e5 : (i : Int) - 1 < (l.length : Int) := by omega
      simp only [if_pos e1, if_pos e2, if_pos e3, if_pos c0, if_pos e4, if_pos e5]
      by_cases c1 : inR (rd_T95 l (i : Int)).f0 1 99 = true
      · rw [if_pos c1]
        by_cases c2 : (rd_T95 l (i : Int)).f0 ≤ (rd_T95 l ((i : Int) - 1)).f0
        · rw [if_pos c2, allF_no hi (fun h => absurd (h.2.1 c0) (by omega))]
          first | done | rfl | simp
        · rw [if_neg c2]
          by_cases c3 : inR (rd_T95 l (i : Int)).f1 1 50 = true
          · rw [if_pos c3]
            by_cases c4 : inR (rd_T95 l (i : Int)).f2 0 999 = true
            · rw [if_pos c4]
              by_cases c5 : freshB l i = true
              · rw [if_pos c5]
                have hp_ : okSlot l i := ⟨c1, fun _ => by omega, c3, c4, c5⟩
                rw [ih hp_, allF_yes hp_]
              · rw [if_neg c5, allF_no hi (fun h => c5 h.2.2.2.2)]
                first | done | rfl | simp
            · rw [if_neg c4, allF_no hi (fun h => c4 h.2.2.2.1)]
              first | done | rfl | simp
          · rw [if_neg c3, allF_no hi (fun h => c3 h.2.2.1)]
            first | done | rfl | simp
      · rw [if_neg c1, allF_no hi (fun h => c1 h.1)]
        first | done | rfl | simp
    · simp only [if_pos e1, if_pos e2, if_pos e3, if_neg c0]
      by_cases c1 : inR (rd_T95 l (i : Int)).f0 1 99 = true
      · rw [if_pos c1]
        by_cases c2 : inR (rd_T95 l (i : Int)).f1 1 50 = true
        · rw [if_pos c2]
          by_cases c3 : inR (rd_T95 l (i : Int)).f2 0 999 = true
          · rw [if_pos c3]
            by_cases c4 : freshB l i = true
            · rw [if_pos c4]
              have hp_ : okSlot l i := ⟨c1, fun hh => absurd hh c0, c2, c3, c4⟩
              rw [ih hp_, allF_yes hp_]
            · rw [if_neg c4, allF_no hi (fun h => c4 h.2.2.2.2)]
              first | done | rfl | simp
          · rw [if_neg c3, allF_no hi (fun h => c3 h.2.2.2.1)]
            first | done | rfl | simp
        · rw [if_neg c2, allF_no hi (fun h => c2 h.2.2.1)]
          first | done | rfl | simp
      · rw [if_neg c1, allF_no hi (fun h => c1 h.1)]
        first | done | rfl | simp
theorem impl_AreSlots_is (l : List S95) (hn : l.length ≤ 1048576) : impl_AreSlots.F l = some (areSlots l) := by
  rw [impl_AreSlots.F_eq, areSlots]
  by_cases h : (l.length : Int) > 30
  · rw [if_pos h, decide_eq_false (by omega), Bool.and_false]
  · rw [if_neg h, decide_eq_true (by omega), Bool.and_true]
    exact impl_AreSlots_l0 l hn l.length 0 (by omega) (fun j hj => absurd hj (by omega))

theorem impl_IsThing_is (a b c d e : Int) : impl_IsThing.f a b c d e = some (inR a 1 999 && inR b 1 8 && inR c 0 7 && inR d 1 50 && inR e 0 10000000) := by
  unfold impl_IsThing.f
  simp only [inRange, Option.bind_some]
  cases inR a 1 999 <;> cases inR b 1 8 <;> cases inR c 0 7 <;> cases inR d 1 50 <;> simp

theorem impl_AreThings_l0 (l : List S73) (hn : l.length ≤ 1048576) : ∀ (d i : Nat), i + d = l.length → impl_AreThings.L0 l l (l.length : Int) (i : Int) = some (allF (okThing l) l.length i)
  | 0, i, h => by rw [impl_AreThings.L0_eq, if_neg (by omega), allF_end (by omega)]
  | d + 1, i, h => by
    have hi : i < l.length := by omega
    have ih := impl_AreThings_l0 l hn d (i + 1) (by omega)
    have ht : impl_IsThing.f (rd_T73 l (i : Int)).f0 (rd_T73 l (i : Int)).f1 (rd_T73 l (i : Int)).f2 (rd_T73 l (i : Int)).f3 (rd_T73 l (i : Int)).f4 = some (isThingW (rd_T73 l (i : Int))) := impl_IsThing_is ..
    rw [impl_AreThings.L0_eq, if_pos (by omega), if_pos (by omega), if_pos (by omega), ht, Option.bind_some, wrap_pred i (by omega), wrap_succ i (by omega), ih]
    by_cases c1 : isThingW (rd_T73 l (i : Int)) = true
    · rw [if_pos c1]
      by_cases c0 : (i : Int) > 0
      · rw [if_pos c0, if_pos (by omega), if_pos (by omega)]
        by_cases c2 : (rd_T73 l (i : Int)).f0 ≤ (rd_T73 l ((i : Int) - 1)).f0
        · rw [if_pos c2, allF_no hi (fun h => absurd (h.2 c0) (by omega))]
        · have hp : okThing l i := ⟨c1, fun _ => by omega⟩
          rw [if_neg c2, allF_yes hp]
      · have hp : okThing l i := ⟨c1, fun hh => absurd hh c0⟩
        rw [if_neg c0, allF_yes hp]
    · rw [if_neg c1, allF_no hi (fun h => c1 h.1)]
theorem impl_AreThings_is (l : List S73) (hn : l.length ≤ 1048576) : impl_AreThings.F l = some (areThings l) := by
  rw [impl_AreThings.F_eq, areThings]
  by_cases h : (l.length : Int) > 20
  · rw [if_pos h, decide_eq_false (by omega), Bool.and_false]
  · rw [if_neg h, decide_eq_true (by omega), Bool.and_true]
    exact impl_AreThings_l0 l hn l.length 0 (by omega)

theorem impl_Wasted_l0 (ls : List S95) (lx : List S73) (ha : areSlots ls = true) (hx : ∀ x ∈ lx, 1 ≤ x.f0 ∧ 1 ≤ x.f3 ∧ x.f3 ≤ 50) (hl : lx.length ≤ 20)  (d : Nat) : ∀ (m : Nat) (acc : Int), m + d = lx.length → -(100000 - 50 * (d : Int)) ≤ acc ∧ acc ≤ 100000 - 50 * (d : Int) → impl_Wasted.L0 ls acc lx (lx.length : Int) (m : Int) = some (acc + fitSum ls (lx.drop m)) := by
  induction d with
  | zero =>
    intro m acc h _
    rw [impl_Wasted.L0_eq, if_neg (by omega), List.drop_of_length_le (by omega), fitSum, Int.add_zero]
  | succ d ihd =>
    intro m acc h hb
    have hm : m < lx.length := by omega
    have h1 := hx (rd_T73 lx (m : Int)) (by rw [rdThing_at, getD_get lx m _ hm]; exact List.getElem_mem hm)
    have ih := fun acc' hb' => ihd (m + 1) acc' (by omega) hb'
    rw [impl_Wasted.L0_eq, if_pos (by omega), if_pos (by omega), if_pos (by omega), impl_slotWith_is, Option.bind_some, wrap_succ m (by omega), dropThing lx m hm, fitSum, fitOf]
    rcases slotAt_cases ls (rd_T73 lx (m : Int)).f0 with ⟨h1, h2⟩ | ⟨h0, j, hj, h2, h3, h4⟩
    · rw [h1, if_neg (by omega), if_neg (by omega), ih _ (by omega)]
      congr 1; omega
    · have hs := slot_size ha j hj
      rw [h2, if_pos (by omega), if_pos (by omega), if_pos (by omega), if_pos (by omega), wrap_in ((rd_T95 ls (j : Int)).f1 - (rd_T73 lx (m : Int)).f3) (by omega), wrap_in (acc + _) (by omega), ih _ (by omega)]
      congr 1; omega
theorem impl_Wasted_is (ls : List S95) (lx : List S73) (hn : ls.length ≤ 1048576) (hnx : lx.length ≤ 1048576) : impl_Wasted.F ls lx = some (wasted ls lx) := by
  rw [impl_Wasted.F_eq, wasted, impl_AreSlots_is ls hn, Option.bind_some]
  by_cases ha : areSlots ls = true
  · rw [if_pos ha, impl_AreThings_is lx hnx, Option.bind_some, impl_Wasted.J0_eq]
    by_cases hb : areThings lx = true
    · obtain ⟨hx, hxl⟩ := areThings_ok hb
      have := impl_Wasted_l0 ls lx ha hx hxl lx.length 0 0 (by omega) (by omega)
      rw [List.drop_zero, Int.zero_add, ← fits ls ha lx hx, ← grid_cols] at this
      rw [if_neg (by rw [hb]; decide), if_pos ⟨ha, hb⟩]
      exact this
    · rw [if_pos (by simpa using hb), if_neg (fun hh => hb hh.2)]
  · rw [if_neg ha, impl_Wasted.J0_eq, if_pos rfl, if_neg (fun hh => ha hh.1)]

theorem law_FnExactWasted (l0 : List S110) (hm0 : l0.length ≤ maxLen) (hw0 : ∀ y ∈ l0, ok110 y) (l1 : List S71) (hm1 : l1.length ≤ maxLen) (hw1 : ∀ y ∈ l1, ok71 y) : laws_FnExactWasted.F l0 l1 = some true := by
  rw [laws_FnExactWasted.F_eq, szSlotS l0 1048576 (by omega) hm0]
  simp only [Option.bind_some]
  by_cases h : (1048576 : Int) < (l0.length : Int)
  · rw [if_pos h]; rfl
  · have hn : l0.length ≤ 1048576 := by omega
    have hn' : (l0.map cvSlot).length ≤ 1048576 := by rw [List.length_map]; exact hn
    rw [if_neg h, if_neg (by omega), szThingS l1 (1048576 - (l0.length : Int)) (by omega) hm1]
    simp only [Option.bind_some]
    by_cases h2 : (1048576 : Int) - (l0.length : Int) < (l1.length : Int)
    · rw [if_pos h2]; rfl
    · have hx : l1.length ≤ 1048576 := by omega
      have hx' : (l1.map cvThing).length ≤ 1048576 := by rw [List.length_map]; exact hx
      rw [if_neg h2, if_neg (by omega)]
      simp only [toSlotS l0 hn, toThingS l1 hx, spec_Wasted_is _ _ hn' hx', impl_Wasted_is _ _ hn' hx', eqSlotS _ hn', eqThingS _ hx', Option.bind_some, if_true]

theorem FnExactWasted (l0 : List S110) (hm0 : l0.length ≤ maxLen) (hw0 : ∀ y ∈ l0, ok110 y) (l1 : List S71) (hm1 : l1.length ≤ maxLen) (hw1 : ∀ y ∈ l1, ok71 y) : ∃ k, laws_FnExactWasted.f k l0 l1 = some true :=
  (laws_FnExactWasted.F_co l0 l1).rounds (law_FnExactWasted l0 hm0 hw0 l1 hm1 hw1)
end Go.Proofs.Ytbbfelgojaioaaa.PFnExactWasted.Pure
