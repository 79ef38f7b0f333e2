/-
  The law FnShelves answers true for every input. It has no conditions.
-/
import Derived.Test.YtkfalbaklodnjaaShFnShelves
import Derived.Test.YtkfalbaklodnjaaEqFnShelves
import Derived.Test.YtkfalbaklodnjaaBase
set_option linter.unusedVariables false
set_option linter.unusedSimpArgs false
namespace Go.Proofs.Ytkfalbaklodnjaa.PFnShelves.Pure
open Go.RowKit Go.Proofs.YtkfalbaklodnjaaW.PrintWords Go.Proofs.YtkfalbaklodnjaaW.PrintLast Go.Proofs.YtkfalbaklodnjaaW.PrintMore Go.Proofs.Ytkfalbaklodnjaa.PFnShelves Go.Proofs.Ytkfalbaklodnjaa.Lim Go.Proofs.Ytkfalbaklodnjaa.Base
set_option maxRecDepth 100000

theorem big_is (l : List Int) : laws_big.f l = some (decide ((l.length : Int) > 1048576)) := rfl

/-- A cursor's place in the bytes that it reads. -/
def CO (b : List Int) (i : Int) : Prop := 0 ≤ i ∧ i ≤ (b.length : Int) ∧ b.length ≤ 1048576
theorem and255 (x : Int) : 0 ≤ Go.bits .and .i64 x 255 ∧ Go.bits .and .i64 x 255 ≤ 255 := by
  have h : (BitVec.ofInt 64 255).toNat = 255 := by decide
  have h2 : (BitVec.ofInt 64 x &&& BitVec.ofInt 64 255).toNat ≤ 255 := by
    rw [BitVec.toNat_and, h]
    exact Nat.and_le_right
  show 0 ≤ IntKind.i64.wrap ((BitVec.ofInt 64 x &&& BitVec.ofInt 64 255).toNat : Int) ∧ IntKind.i64.wrap ((BitVec.ofInt 64 x &&& BitVec.ofInt 64 255).toNat : Int) ≤ 255
  rw [IntKind.wrap_i64]
  omega
theorem l1Byte_is (b : List Int) (i h : Int) (c : CO b i) : ∃ r i' h', spec_l1Byte.f b i h = some (r, i', h') ∧ 0 ≤ r ∧ r ≤ 255 ∧ CO b i' := by
  obtain ⟨c0, c1, c2⟩ := c
  unfold spec_l1Byte.f
  by_cases hi : i < (b.length : Int)
  · rw [if_pos hi, if_pos c0]
    refine ⟨_, _, _, rfl, (and255 _).1, (and255 _).2, ?_⟩
    rw [wrap_in _ (by omega)]
    exact ⟨by omega, by omega, c2⟩
  · rw [if_neg hi]
    exact ⟨_, _, _, rfl, (and255 _).1, (and255 _).2, c0, c1, c2⟩
theorem l1Below_is (b : List Int) (i h n : Int) (c : CO b i) (hn : n ≤ 10000000) : ∃ r i' h', spec_l1Below.f b i h n = some (r, i', h') ∧ 0 ≤ r ∧ (0 < n → r < n) ∧ (n ≤ 0 → r = 0) ∧ CO b i' := by
  unfold spec_l1Below.f
  by_cases h0 : n ≤ 0
  · rw [if_pos h0]
    exact ⟨0, i, h, rfl, by omega, fun _ => by omega, fun _ => rfl, c⟩
  · rw [if_neg h0]
    by_cases h1 : n ≤ 256
    · obtain ⟨r, i', h', e, r0, r1, c'⟩ := l1Byte_is b i h c
      rw [if_pos h1, e, Option.bind_some, if_neg (by omega), Int.tmod_eq_emod_of_nonneg r0]
      exact ⟨_, _, _, rfl, Int.emod_nonneg _ (by omega), fun _ => Int.emod_lt_of_pos _ (by omega), fun _ => by omega, c'⟩
    · obtain ⟨r, i', h', e, r0, r1, c'⟩ := l1Byte_is b i h c
      obtain ⟨s, i2, h2, e2, s0, s1, c2⟩ := l1Byte_is b i' h' c'
      obtain ⟨t, i3, h3, e3, t0, t1, c3⟩ := l1Byte_is b i2 h2 c2
      rw [if_neg h1, e, Option.bind_some]
      dsimp only
      rw [e2, Option.bind_some]
      dsimp only
      rw [e3, Option.bind_some, if_neg (by omega)]
      dsimp only
      rw [wrap_in (r * 65536) (by omega), wrap_in (s * 256) (by omega), wrap_in (r * 65536 + s * 256) (by omega), wrap_in (r * 65536 + s * 256 + t) (by omega), Int.tmod_eq_emod_of_nonneg (by omega)]
      exact ⟨_, _, _, rfl, Int.emod_nonneg _ (by omega), fun _ => Int.emod_lt_of_pos _ (by omega), fun _ => by omega, c3⟩
theorem below_pos (b : List Int) (i h n : Int) (c : CO b i) (h0 : 0 < n) (hn : n ≤ 10000000) : ∃ r i' h', spec_l1Below.f b i h n = some (r, i', h') ∧ 0 ≤ r ∧ r < n ∧ CO b i' := by
  obtain ⟨r, i', h', e, r0, r1, _, c'⟩ := l1Below_is b i h n c hn
  exact ⟨r, i', h', e, r0, r1 h0, c'⟩
theorem l1New_l0 (b : List Int) (hb : b.length ≤ 1048576) : ∀ (d i : Nat) (h : Int), i + d = b.length → ∃ h', spec_l1New.L0 b h (i : Int) = some (b, 0, h')
  | 0, i, h, hd => ⟨h, by rw [spec_l1New.L0_eq, if_neg (by omega)]⟩
  | d + 1, i, h, hd => by
    rw [spec_l1New.L0_eq, if_pos (by omega), if_pos (show (0 : Int) ≤ (i : Int) by omega), wrap_succ i (by omega)]
    by_cases h4 : (i : Int) < 4000
    · rw [if_pos h4]
      exact l1New_l0 b hb d (i + 1) _ (by omega)
    · rw [if_neg h4]
      exact ⟨h, rfl⟩
theorem l1New_is (b : List Int) (hb : b.length ≤ 1048576) : ∃ h', spec_l1New.F b = some (b, 0, h') ∧ CO b 0 := by
  obtain ⟨h', e⟩ := l1New_l0 b hb b.length 0 (wrap64 (193017 + (b.length : Int))) (by omega)
  exact ⟨h', by rw [spec_l1New.F_eq]; exact e, by unfold CO; omega⟩

theorem rdInt_at (l : List Int) (i : Nat) : rd l (i : Int) = l.getD i 0 := by simp [rd]
theorem dropInt (l : List Int) (i : Nat) (h : i < l.length) : l.drop i = rd l (i : Int) :: l.drop (i + 1) := by
  rw [rdInt_at, getD_get l i _ h]
  exact List.drop_eq_getElem_cons h

theorem l1Int_is (b : List Int) (i h : Int) (l : List Int) (c : CO b i) (h0 : 0 < l.length) (hn : l.length ≤ 1000) : ∃ r i' h', spec_l1Int.f b i h l = some (r, i', h') ∧ r ∈ l ∧ CO b i' := by
  obtain ⟨r, i', h', e, r0, r1, c'⟩ := below_pos b i h (l.length : Int) c (by omega) (by omega)
  unfold spec_l1Int.f
  rw [e, Option.bind_some]
  dsimp only
  rw [if_pos r0, if_pos r1]
  obtain ⟨j, rfl⟩ : ∃ j : Nat, r = j := ⟨r.toNat, by omega⟩
  refine ⟨_, _, _, rfl, ?_, c'⟩
  rw [show rd l (j : Int) = l[j]'(by omega) by simp [rd, show j < l.length by omega]]
  exact List.getElem_mem _

theorem l4Raw_is (b : List Int) (i h : Int) (c : CO b i) : ∃ r i' h', spec_l4Raw.f b i h = some (r, i', h') ∧ r ∈ ([-1, 0, 8, 50, 51, 1000, 9223372036854775807, -9223372036854775808] : List Int) ∧ CO b i' := by
  obtain ⟨r, i', h', e, hm, c'⟩ := l1Int_is b i h [-1, 0, 8, 50, 51, 1000, 9223372036854775807, -9223372036854775808] c (by decide) (by decide)
  unfold spec_l4Raw.f
  rw [e, Option.bind_some]
  exact ⟨r, i', h', rfl, hm, c'⟩

theorem l4Draw_is (b : List Int) (i h id : Int) (c : CO b i) : ∃ x1 x2 x3 x4 i' h', spec_l4Draw.f b i h id = some (id, x1, x2, x3, x4, i', h') ∧ CO b i' := by
  obtain ⟨r1, i1, h1, e1, _, _, c1⟩ := below_pos b i h 8 c (by omega) (by omega)
  obtain ⟨r2, i2, h2, e2, _, _, c2⟩ := below_pos b i1 h1 8 c1 (by omega) (by omega)
  obtain ⟨r3, i3, h3, e3, _, _, c3⟩ := below_pos b i2 h2 20 c2 (by omega) (by omega)
  obtain ⟨r4, i4, h4, e4, _, _, c4⟩ := below_pos b i3 h3 500 c3 (by omega) (by omega)
  unfold spec_l4Draw.f
  rw [e1, Option.bind_some]
  dsimp only
  rw [e2, Option.bind_some]
  dsimp only
  rw [e3, Option.bind_some]
  dsimp only
  rw [e4, Option.bind_some]
  exact ⟨_, _, _, _, i4, h4, rfl, c4⟩
theorem l4Any_is (b : List Int) (i h : Int) (c : CO b i) : ∃ x0 x1 x2 x3 x4 i' h', spec_l4Any.f b i h = some (x0, x1, x2, x3, x4, i', h') ∧ CO b i' := by
  obtain ⟨r, i1, h1, e1, _, _, c1⟩ := below_pos b i h 40 c (by omega) (by omega)
  obtain ⟨x1, x2, x3, x4, i2, h2, e2, c2⟩ := l4Draw_is b i1 h1 (wrap64 (1 + r)) c1
  obtain ⟨s, i3, h3, e3, _, _, c3⟩ := below_pos b i2 h2 14 c2 (by omega) (by omega)
  unfold spec_l4Any.f
  rw [e1, Option.bind_some]
  dsimp only
  rw [e2, Option.bind_some]
  dsimp only
  rw [e3, Option.bind_some]
  dsimp only
  by_cases s0 : s = 0
  · obtain ⟨v, i4, h4, e4, _, c4⟩ := l1Int_is b i3 h3 [0, 999, 1000] c3 (by decide) (by decide)
    rw [if_pos s0, e4, Option.bind_some]
    exact ⟨_, _, _, _, _, i4, h4, rfl, c4⟩
  rw [if_neg s0]
  by_cases s1 : s = 1
  · obtain ⟨v, i4, h4, e4, _, c4⟩ := l1Int_is b i3 h3 [0, 8, 9] c3 (by decide) (by decide)
    rw [if_pos s1, e4, Option.bind_some]
    exact ⟨_, _, _, _, _, i4, h4, rfl, c4⟩
  rw [if_neg s1]
  by_cases s2 : s = 2
  · obtain ⟨v, i4, h4, e4, _, c4⟩ := l1Int_is b i3 h3 [-1, 7, 8] c3 (by decide) (by decide)
    rw [if_pos s2, e4, Option.bind_some]
    exact ⟨_, _, _, _, _, i4, h4, rfl, c4⟩
  rw [if_neg s2]
  by_cases s3 : s = 3
  · obtain ⟨v, i4, h4, e4, _, c4⟩ := l4Raw_is b i3 h3 c3
    rw [if_pos s3, e4, Option.bind_some]
    exact ⟨_, _, _, _, _, i4, h4, rfl, c4⟩
  rw [if_neg s3]
  by_cases s4 : s = 4
  · obtain ⟨v, i4, h4, e4, _, c4⟩ := l1Int_is b i3 h3 [-1, 10000000, 10000001] c3 (by decide) (by decide)
    rw [if_pos s4, e4, Option.bind_some]
    exact ⟨_, _, _, _, _, i4, h4, rfl, c4⟩
  · rw [if_neg s4]
    exact ⟨_, _, _, _, _, i3, h3, rfl, c3⟩

theorem rdSlot_at (l : List S78) (i : Nat) : rd_T78 l (i : Int) = l.getD i z78 := by simp [rd_T78]
theorem dropSlot (l : List S78) (i : Nat) (h : i < l.length) : l.drop i = rd_T78 l (i : Int) :: l.drop (i + 1) := by
  rw [rdSlot_at, getD_get l i _ h]
  exact List.drop_eq_getElem_cons h

theorem idxFSlot_spec (p : S78 → Bool) : ∀ (l : List S78) (i : Int), (idxF78 p l i = -1 ∧ ∀ x ∈ l, ¬ p x = true) ∨ ∃ j : Nat, j < l.length ∧ idxF78 p l i = i + (j : Int) ∧ p (l.getD j z78) = true ∧ ∀ m : Nat, m < j → ¬ p (l.getD m z78) = true
  | [], i => .inl ⟨rfl, by simp⟩
  | x :: r, i => by
    simp only [idxF78]
    by_cases h : p x = true
    · rw [if_pos h]
      exact .inr ⟨0, by simp, by simp, by simpa using h, fun m hm => absurd hm (by omega)⟩
    · rw [if_neg h]
      rcases idxFSlot_spec p r (i + 1) with ⟨h1, h2⟩ | ⟨j, h1, h2, h3, h4⟩
      · exact .inl ⟨h1, fun y hy => by
          rcases List.mem_cons.1 hy with e | e
          · rw [e]; exact h
          · exact h2 y e⟩
      · refine .inr ⟨j + 1, by simp; omega, by rw [h2]; omega, by simpa using h3, fun m hm => ?_⟩
        cases m with
        | zero => simpa using h
        | succ m => simpa using h4 m (by omega)
theorem idxFSlot_at (p : S78 → Bool) (l : List S78) : (idxF78 p l 0 = -1 ∧ ∀ x ∈ l, ¬ p x = true) ∨ ∃ j : Nat, j < l.length ∧ idxF78 p l 0 = (j : Int) ∧ p (rd_T78 l (j : Int)) = true ∧ ∀ m : Nat, m < j → ¬ p (rd_T78 l (m : Int)) = true := by
  rcases idxFSlot_spec p l 0 with h | ⟨j, h1, h2, h3, h4⟩
  · exact .inl h
  · refine .inr ⟨j, h1, by rw [h2]; omega, by rw [rdSlot_at]; exact h3, fun m hm => by rw [rdSlot_at]; exact h4 m hm⟩

def slotOf : List S78 → Int → Int
  | [], _ => 0
  | x :: r, t => if t ≠ 0 ∧ x.f2 = t then x.f0 else slotOf r t
def slotAt (l : List S78) (t : Int) : Int := if t = 0 then -1 else idxF78 (fun x => x.f2 == t) l 0
theorem slotAt_cases (l : List S78) (t : Int) : (slotAt l t = -1 ∧ (t = 0 ∨ ∀ x ∈ l, x.f2 ≠ t)) ∨ (t ≠ 0 ∧ ∃ j : Nat, j < l.length ∧ slotAt l t = (j : Int) ∧ (rd_T78 l (j : Int)).f2 = t ∧ ∀ m : Nat, m < j → (rd_T78 l (m : Int)).f2 ≠ t) := by
  unfold slotAt
  by_cases h : t = 0
  · exact .inl ⟨by rw [if_pos h], .inl h⟩
  · rw [if_neg h]
    rcases idxFSlot_at (fun x => x.f2 == t) l with ⟨h1, h2⟩ | ⟨j, h1, h2, h3, h4⟩
    · exact .inl ⟨h1, .inr (fun x hx => by simpa using h2 x hx)⟩
    · exact .inr ⟨h, j, h1, h2, by simpa using h3, fun m hm => by simpa using h4 m hm⟩
theorem slotOf_none (t : Int) : ∀ (l : List S78), (t = 0 ∨ ∀ x ∈ l, x.f2 ≠ t) → slotOf l t = 0
  | [], h => rfl
  | x :: r, h => by
    simp only [slotOf]
    rw [if_neg (fun hh => h.elim (fun h0 => hh.1 h0) (fun h1 => h1 x (by simp) hh.2))]
    exact slotOf_none t r (h.imp id (fun h1 y hy => h1 y (by simp [hy])))
theorem slotOf_at (t : Int) (ht : t ≠ 0) : ∀ (l : List S78) (j : Nat), j < l.length → (l.getD j z78).f2 = t → (∀ m : Nat, m < j → (l.getD m z78).f2 ≠ t) → slotOf l t = (l.getD j z78).f0
  | [], j, h, _, _ => by simp at h
  | x :: r, 0, h, h1, h2 => by
    simp only [slotOf]
    rw [if_pos ⟨ht, by simpa using h1⟩]
    simp
  | x :: r, j + 1, h, h1, h2 => by
    simp only [slotOf]
    rw [if_neg (fun hh => h2 0 (by omega) (by simpa using hh.2))]
    have := slotOf_at t ht r j (by simpa using h) (by simpa using h1) (fun m hm => by simpa using h2 (m + 1) (by omega))
    rw [this]
    simp
theorem slotOf_slotAt (l : List S78) (t : Int) : (if slotAt l t < 0 then 0 else (rd_T78 l (slotAt l t)).f0) = slotOf l t := by
  rcases slotAt_cases l t with ⟨h, h1⟩ | ⟨h0, j, h1, h2, h3, h4⟩
  · rw [h, if_pos (by omega), slotOf_none t l h1]
  · rw [h2, if_neg (by omega), rdSlot_at, slotOf_at t h0 l j h1 (by rw [← rdSlot_at]; exact h3) (fun m hm => by rw [← rdSlot_at]; exact h4 m hm)]

noncomputable def freshB (l : List S78) (i : Nat) : Bool := decide ((rd_T78 l i).f2 = 0) || allF (fun q : Nat => (rd_T78 l q).f2 ≠ (rd_T78 l i).f2) i 0
def okSlot (l : List S78) (i : Nat) : Prop := inR (rd_T78 l i).f0 1 99 = true ∧ ((i : Int) > 0 → (rd_T78 l ((i : Int) - 1)).f0 < (rd_T78 l i).f0) ∧ inR (rd_T78 l i).f1 1 50 = true ∧ inR (rd_T78 l i).f2 0 999 = true ∧ freshB l i = true
noncomputable def areSlots (l : List S78) : Bool := allF (okSlot l) l.length 0 && decide ((l.length : Int) ≤ 30)
theorem rdSlot_take (l : List S78) (i q : Nat) (h : q < i) : rd_T78 (l.take i) (q : Int) = rd_T78 l (q : Int) := by
  rw [rdSlot_at, rdSlot_at, List.getD_eq_getElem?_getD, List.getD_eq_getElem?_getD, List.getElem?_take, if_pos h]
theorem fresh_iff (l : List S78) (i : Nat) (hi : i ≤ l.length) (hpre : ∀ j, j < i → okSlot l j) : (slotOf (l.take i) (rd_T78 l i).f2 = 0) = (freshB l i = true) := by
  have hl : (l.take i).length = i := by rw [List.length_take]; omega
  have e := slotOf_slotAt (l.take i) (rd_T78 l i).f2
  unfold freshB
  rw [Bool.or_eq_true, decide_eq_true_iff, allF_all]
  apply propext
  rcases slotAt_cases (l.take i) (rd_T78 l i).f2 with ⟨h, h1⟩ | ⟨h0, j, h1, h2, h3, h4⟩
  · rw [h, if_pos (by omega)] at e
    rw [← e]
    refine ⟨fun _ => h1.imp id (fun hx q hq => ?_), fun _ => rfl⟩
    rw [← rdSlot_take l i q hq, rdSlot_at, getD_get _ _ _ (by omega)]
    exact hx _ (List.getElem_mem _)
  · rw [hl] at h1
    rw [h2, if_neg (by omega), rdSlot_take l i j h1] at e
    rw [rdSlot_take l i j h1] at h3
    have hb := inR_iff.1 (hpre j h1).1
    exact ⟨fun hh => by omega, fun hh => hh.elim (fun hz => absurd hz h0) (fun ha => absurd h3 (ha j h1))⟩

theorem areSlots_ok {l : List S78} (h : areSlots l = true) : (∀ i : Nat, i < l.length → okSlot l i) ∧ l.length ≤ 30 := by
  unfold areSlots at h
  rw [Bool.and_eq_true, allF_all, decide_eq_true_iff] at h
  exact ⟨h.1, by omega⟩
theorem slots_lt {l : List S78} (h : areSlots l = true) : ∀ (d i j : Nat), i + d + 1 = j → j < l.length → (rd_T78 l (i : Int)).f0 < (rd_T78 l (j : Int)).f0
  | 0, i, j, e, hj => by
    have h1 := ((areSlots_ok h).1 j hj).2.1 (by omega)
    rw [show (j : Int) - 1 = (i : Int) by omega] at h1
    exact h1
  | d + 1, i, j, e, hj => by
    have h0 := slots_lt h d i (j - 1) (by omega) (by omega)
    have h1 := ((areSlots_ok h).1 j hj).2.1 (by omega)
    rw [show (j : Int) - 1 = ((j - 1 : Nat) : Int) by omega] at h1
    omega
theorem slots_inj {l : List S78} (h : areSlots l = true) (i j : Nat) (hi : i < l.length) (hj : j < l.length) : (rd_T78 l (i : Int)).f0 = (rd_T78 l (j : Int)).f0 ↔ i = j := by
  constructor
  · intro e
    rcases Nat.lt_trichotomy i j with hlt | he | hgt
    · have := slots_lt h (j - i - 1) i j (by omega) hj
      omega
    · exact he
    · have := slots_lt h (i - j - 1) j i (by omega) hi
      omega
  · rintro rfl; rfl
theorem slots_id {l : List S78} (h : areSlots l = true) (i : Nat) (hi : i < l.length) : 1 ≤ (rd_T78 l (i : Int)).f0 ∧ (rd_T78 l (i : Int)).f0 ≤ 99 := inR_iff.1 ((areSlots_ok h).1 i hi).1
def putIn (l : List S78) (j : Nat) (t : Int) : List S78 := l.set j ⟨(rd_T78 l (j : Int)).f0, (rd_T78 l (j : Int)).f1, t⟩
theorem putIn_len (l : List S78) (j : Nat) (t : Int) : (putIn l j t).length = l.length := by simp [putIn]
theorem putIn_rd (l : List S78) (j : Nat) (t : Int) (q : Nat) : rd_T78 (putIn l j t) (q : Int) = if q = j ∧ j < l.length then ⟨(rd_T78 l (j : Int)).f0, (rd_T78 l (j : Int)).f1, t⟩ else rd_T78 l (q : Int) := by
  simp only [rdSlot_at]
  rw [putIn, List.getD_eq_getElem?_getD, List.getElem?_set]
  by_cases h : j = q
  · subst h
    rw [if_pos rfl]
    by_cases h2 : j < l.length
    · rw [if_pos h2, if_pos ⟨rfl, h2⟩]; rfl
    · rw [if_neg h2, if_neg (fun hh => h2 hh.2), List.getD_eq_getElem?_getD, List.getElem?_eq_none (by omega)]
  · rw [if_neg h, if_neg (fun hh => h hh.1.symm), List.getD_eq_getElem?_getD]

def bestSlot (l : List S78) (size : Int) : Nat → Nat → Int → Int
  | 0, _, b => b
  | d + 1, i, b => bestSlot l size d (i + 1) (if (rd_T78 l (i : Int)).f2 = 0 ∧ (rd_T78 l (i : Int)).f1 ≥ size ∧ (b < 0 ∨ (rd_T78 l (i : Int)).f1 < (rd_T78 l b).f1) then (i : Int) else b)
theorem bestSlot_bd (l : List S78) (size : Int) : ∀ (d i : Nat) (b : Int), i + d = l.length → b < i → -1 ≤ b → -1 ≤ bestSlot l size d i b ∧ bestSlot l size d i b < l.length
  | 0, i, b, h, h1, h2 => by simp only [bestSlot]; omega
  | d + 1, i, b, h, h1, h2 => by
    simp only [bestSlot]
    split
    · exact bestSlot_bd l size d (i + 1) _ (by omega) (by omega) (by omega)
    · exact bestSlot_bd l size d (i + 1) _ (by omega) (by omega) (by omega)
def freeId (l : List S78) (b : Int) : Int := if b < 0 then 0 else (rd_T78 l b).f0
def smallestFree (l : List S78) (size : Int) : Int := freeId l (bestSlot l size l.length 0 (-1))

def isThing (a b c d e : Int) : Bool := inR a 1 999 && inR b 1 8 && inR c 0 7 && inR d 1 50 && inR e 0 10000000
noncomputable def putAway (l : List S78) (a b c d e : Int) : List S78 × Bool :=
  if areSlots l = true ∧ isThing a b c d e = true ∧ 0 ≤ bestSlot l d l.length 0 (-1) ∧ slotAt l a < 0 then (putIn l (bestSlot l d l.length 0 (-1)).toNat a, true) else (l, false)
theorem putAway_len (l : List S78) (a b c d e : Int) : (putAway l a b c d e).1.length = l.length := by
  unfold putAway
  split <;> simp [putIn_len]

theorem spec_SlotOf_l0 (l : List S78) (t : Int) (hn : l.length ≤ 1048576) : ∀ (d i : Nat), i + d = l.length → spec_SlotOf.L0 l t (i : Int) = some (slotOf (l.drop i) t)
  | 0, i, h => by rw [spec_SlotOf.L0_eq, if_neg (by omega), List.drop_of_length_le (by omega)]; rfl
  | d + 1, i, h => by
    rw [spec_SlotOf.L0_eq, if_pos (by omega), wrap_succ i (by omega), spec_SlotOf_l0 l t hn d (i + 1) (by omega), dropSlot l i (by omega)]
    simp only [slotOf]
    by_cases c0 : t = 0
    · rw [if_pos c0, if_neg (fun hh => hh.1 c0)]
    · rw [if_neg c0, if_pos (by omega)]
      by_cases c : (rd_T78 l (i : Int)).f2 = t
      · rw [if_pos c, if_pos ⟨c0, c⟩]
      · rw [if_neg c, if_neg (fun hh => c hh.2)]
theorem spec_SlotOf_is (l : List S78) (t : Int) (hn : l.length ≤ 1048576) : spec_SlotOf.F l t = some (slotOf l t) := by
  rw [spec_SlotOf.F_eq]
  exact spec_SlotOf_l0 l t hn l.length 0 (by omega)

theorem l1In (a b c : Int) : spec_l1In.f a b c = some (inR a b c) := by
  unfold spec_l1In.f inR
  by_cases h : b ≤ a <;> simp [h]

theorem spec_AreSlots_l1 (l : List S78) (hn : l.length ≤ 1048576) (i : Nat) (hi : i < l.length) : ∀ (d m : Nat), m + d = i → spec_AreSlots.L1 l (i : Int) (m : Int) = if (decide ((rd_T78 l i).f2 = 0) || allF (fun q : Nat => (rd_T78 l q).f2 ≠ (rd_T78 l i).f2) i m) = true then spec_AreSlots.L0 l ((i + 1 : Nat) : Int) else some false
  | 0, m, h => by
    rw [spec_AreSlots.L1_eq, if_neg (by omega), allF_end (by omega), Bool.or_true, if_pos rfl, wrap_succ i (by omega)]
  | d + 1, m, h => by
    have hm : m < i := by omega
    rw [spec_AreSlots.L1_eq, if_pos (by omega), if_pos (by omega), if_pos (by omega), wrap_succ m (by omega), spec_AreSlots_l1 l hn i hi d (m + 1) (by omega)]
    by_cases c0 : (rd_T78 l (i : Int)).f2 = 0
    · rw [if_pos c0, decide_eq_true c0, Bool.true_or, Bool.true_or]
    · rw [if_neg c0, decide_eq_false c0, Bool.false_or, Bool.false_or, if_pos (by omega), if_pos (by omega)]
      by_cases c : (rd_T78 l (m : Int)).f2 = (rd_T78 l (i : Int)).f2
      · rw [if_pos c, allF_no hm (fun hh => hh c), if_neg (by decide)]
      · rw [if_neg c, allF_yes (p := fun q : Nat => (rd_T78 l q).f2 ≠ (rd_T78 l i).f2) (n := i) (i := m) c]
theorem spec_AreSlots_l0 (l : List S78) (hn : l.length ≤ 1048576) : ∀ (d i : Nat), i + d = l.length → spec_AreSlots.L0 l (i : Int) = some (allF (okSlot l) l.length i && decide ((l.length : Int) ≤ 30))
  | 0, i, h => by rw [spec_AreSlots.L0_eq, if_neg (by omega), allF_end (by omega)]; rfl
  | d + 1, i, h => by
    have hi : i < l.length := by omega
    have ih := spec_AreSlots_l0 l hn d (i + 1) (by omega)
    have h1 := spec_AreSlots_l1 l hn i hi i 0 (by omega)
    have h1' : spec_AreSlots.L1 l (i : Int) 0 = if freshB l i = true then spec_AreSlots.L0 l ((i + 1 : Nat) : Int) else some false := h1
    rw [spec_AreSlots.L0_eq]
    simp only [wrap_pred i (by omega), l1In, Option.bind_some, spec_AreSlots.J1_eq, h1', ih, decide_eq_true_eq, Bool.false_eq_true, if_false, if_true]
    by_cases hp_ : okSlot l i
    · rw [allF_yes hp_]
      simp only [okSlot] at hp_
      obtain ⟨h1_, h2_, h3_, h4_, h5_⟩ := hp_
      repeat' split
      all_goals first
        | rfl
        | (exfalso; first | contradiction | omega)
    · rw [allF_no hi hp_]
      repeat' split
      all_goals first
        | rfl
        | (simp; done)
        | (exfalso; first | contradiction | omega)
        | (exfalso; apply hp_; simp only [okSlot]; (repeat' constructor) <;> first | assumption | (intro _; omega) | omega)
theorem spec_AreSlots_is (l : List S78) (hn : l.length ≤ 1048576) : spec_AreSlots.F l = some (areSlots l) := by
  rw [spec_AreSlots.F_eq, areSlots]
  exact spec_AreSlots_l0 l hn l.length 0 (by omega)

theorem spec_SmallestFree_l0 (l : List S78) (size : Int) (hn : l.length ≤ 1048576) : ∀ (d i : Nat) (b : Int), i + d = l.length → b < i → -1 ≤ b → spec_SmallestFree.L0 l size b (i : Int) = some (freeId l (bestSlot l size d i b))
  | 0, i, b, h, h1, h2 => by
    rw [spec_SmallestFree.L0_eq, if_neg (by omega)]
    show _ = some (freeId l b)
    unfold freeId
    by_cases c : b < 0
    · rw [if_pos c, if_pos c]
    · rw [if_neg c, if_neg c, if_pos (by omega), if_pos (by omega)]
  | d + 1, i, b, h, h1, h2 => by
    have hi : i < l.length := by omega
    rw [spec_SmallestFree.L0_eq, if_pos (by omega), if_pos (by omega)]
    simp only [wrap_succ i (by omega), bestSlot]
    by_cases c1 : (rd_T78 l (i : Int)).f2 = 0
    · by_cases c2 : (rd_T78 l (i : Int)).f1 ≥ size
      · by_cases c3 : b < 0
        · rw [if_pos c1, if_pos c2, if_pos c3, if_pos ⟨c1, c2, .inl c3⟩]
          exact spec_SmallestFree_l0 l size hn d (i + 1) _ (by omega) (by omega) (by omega)
        · by_cases c4 : (rd_T78 l (i : Int)).f1 < (rd_T78 l b).f1
          · rw [if_pos c1, if_pos c2, if_neg c3, if_pos (by omega), if_pos (by omega), if_pos c4, if_pos ⟨c1, c2, .inr c4⟩]
            exact spec_SmallestFree_l0 l size hn d (i + 1) _ (by omega) (by omega) (by omega)
          · rw [if_pos c1, if_pos c2, if_neg c3, if_pos (by omega), if_pos (by omega), if_neg c4, if_neg (fun h => h.2.2.elim c3 c4)]
            exact spec_SmallestFree_l0 l size hn d (i + 1) _ (by omega) (by omega) (by omega)
      · rw [if_pos c1, if_neg c2, if_neg (fun h => c2 h.2.1)]
        exact spec_SmallestFree_l0 l size hn d (i + 1) _ (by omega) (by omega) (by omega)
    · rw [if_neg c1, if_neg (fun h => c1 h.1)]
      exact spec_SmallestFree_l0 l size hn d (i + 1) _ (by omega) (by omega) (by omega)
theorem spec_SmallestFree_is (l : List S78) (size : Int) (hn : l.length ≤ 1048576) : spec_SmallestFree.F l size = some (smallestFree l size) := by
  rw [spec_SmallestFree.F_eq]
  exact spec_SmallestFree_l0 l size hn l.length 0 (-1) (by omega) (by omega) (by omega)

theorem spec_IsThing_is (a b c d e : Int) : spec_IsThing.f a b c d e = some (inR a 1 999 && inR b 1 8 && inR c 0 7 && inR d 1 50 && inR e 0 10000000) := by
  unfold spec_IsThing.f
  simp only [l1In, Option.bind_some]
  cases inR a 1 999 <;> cases inR b 1 8 <;> cases inR c 0 7 <;> cases inR d 1 50 <;> simp

theorem spec_PutAway_l0 (s : Int) (j : Nat) (a b c d e : Int) : ∀ (n i : Nat) (m : List S78), m.length ≤ 1048576 → i + n = m.length → j < m.length → (∀ q : Nat, q < m.length → ((rd_T78 m (q : Int)).f0 = s ↔ q = j)) → spec_PutAway.L0 m s (i : Int) a b c d e = some (if i ≤ j then putIn m j a else m, true)
  | 0, i, m, hn, h, hj, hq => by rw [spec_PutAway.L0_eq, if_neg (by omega), if_neg (by omega)]
  | n + 1, i, m, hn, h, hj, hq => by
    rw [spec_PutAway.L0_eq, if_pos (by omega), if_pos (by omega), wrap_succ i (by omega), Int.toNat_natCast]
    by_cases cc : (rd_T78 m (i : Int)).f0 = s
    · have e0 := (hq i (by omega)).1 cc
      subst e0
      rw [if_pos cc, if_pos (Nat.le_refl _)]
      have := spec_PutAway_l0 s i a b c d e n (i + 1) (putIn m i a) (by rw [putIn_len]; exact hn) (by rw [putIn_len]; omega) (by rw [putIn_len]; exact hj) (fun q hqq => by
        rw [putIn_len] at hqq
        rw [putIn_rd]
        by_cases e2 : q = i ∧ i < m.length
        · rw [if_pos e2]
          exact ⟨fun _ => e2.1, fun _ => cc⟩
        · rw [if_neg e2]
          exact hq q hqq)
      rw [if_neg (by omega)] at this
      exact this
    · have e0 : i ≠ j := fun e0 => cc ((hq i (by omega)).2 e0)
      rw [if_neg cc, spec_PutAway_l0 s j a b c d e n (i + 1) m hn (by omega) hj hq]
      by_cases e2 : i ≤ j
      · rw [if_pos e2, if_pos (by omega)]
      · rw [if_neg e2, if_neg (by omega)]
theorem spec_PutAway_is (l : List S78) (a b c d e : Int) (hn : l.length ≤ 1048576) : spec_PutAway.F l a b c d e = some (putAway l a b c d e) := by
  have hb := bestSlot_bd l d l.length 0 (-1) (by omega) (by omega) (by omega)
  have ht : spec_IsThing.f a b c d e = some (isThing a b c d e) := spec_IsThing_is ..
  have hf : smallestFree l d = if bestSlot l d l.length 0 (-1) < 0 then 0 else (rd_T78 l (bestSlot l d l.length 0 (-1))).f0 := rfl
  rw [spec_PutAway.F_eq, Option.bind_some, if_pos (by simp only [List.length_nil]; omega), List.nil_append, Option.bind_some, spec_SmallestFree_is l d hn, Option.bind_some, spec_AreSlots_is l hn, Option.bind_some, putAway, ht, Option.bind_some]
  by_cases h : areSlots l = true
  · rw [if_pos h]
    by_cases h1 : isThing a b c d e = true
    · rw [if_pos h1]
      by_cases h2 : bestSlot l d l.length 0 (-1) < 0
      · rw [if_pos h2] at hf
        rw [hf, if_pos rfl, spec_PutAway.J0_eq, if_pos rfl, if_neg (fun hh => by omega)]
      · obtain ⟨j, hj⟩ : ∃ j : Nat, bestSlot l d l.length 0 (-1) = (j : Int) := ⟨(bestSlot l d l.length 0 (-1)).toNat, by omega⟩
        rw [if_neg h2, hj] at hf
        have hjl : j < l.length := by omega
        have hid := slots_id h j hjl
        have es := slotOf_slotAt l a
        rw [hf, if_neg (by omega), spec_SlotOf_is l a hn, Option.bind_some, spec_PutAway.J0_eq]
        rcases slotAt_cases l a with ⟨h3, h4⟩ | ⟨h0, j', h3, h4, h5, h6⟩
        · have e0 : slotOf l a = 0 := by rw [← es, h3]; rfl
          rw [e0, if_neg (by decide), if_pos ⟨h, h1, by omega, by omega⟩, hj, Int.toNat_natCast]
          have := spec_PutAway_l0 (rd_T78 l (j : Int)).f0 j a b c d e l.length 0 l hn (by omega) hjl (fun q hq => slots_inj h q j hq hjl)
          rw [if_pos (Nat.zero_le _)] at this
          exact this
        · have hid' := slots_id h j' h3
          have e0 : slotOf l a = (rd_T78 l (j' : Int)).f0 := by rw [← es, h4, if_neg (by omega)]
          rw [e0, if_pos (by simp; omega), if_neg (fun hh => by omega)]
    · rw [if_neg h1, if_neg (fun hh => h1 hh.2.1), spec_PutAway.J0_eq, if_pos rfl]
  · rw [if_neg h, if_neg (fun hh => h hh.1), spec_PutAway.J0_eq, if_pos rfl]

theorem l14Draw_l1 (b : List Int) : ∀ (n : Nat) (l : List S78) (i h : Int), CO b i → l.length ≤ 1000 → n ≤ 1000 → ∃ l' i' h', spec_l14Draw.L1 l (n : Int) b i h = some (l', i', h') ∧ CO b i' ∧ l'.length = l.length
  | 0, l, i, h, c, hl, hn => ⟨l, i, h, by rw [spec_l14Draw.L1_eq, if_neg (by omega)], c, rfl⟩
  | n + 1, l, i, h, c, hl, hn => by
    obtain ⟨r, i1, h1, e1, _, _, c1⟩ := below_pos b i h 20 c (by omega) (by omega)
    obtain ⟨x1, x2, x3, x4, i2, h2, e2, c2⟩ := l4Draw_is b i1 h1 (wrap64 (1 + r)) c1
    rw [spec_l14Draw.L1_eq, if_pos (by omega), e1, Option.bind_some]
    dsimp only
    rw [e2, Option.bind_some]
    dsimp only
    rw [spec_PutAway_is l _ _ _ _ _ (by omega), Option.bind_some, show wrap64 (((n + 1 : Nat) : Int) - 1) = (n : Int) by rw [wrap_in _ (by omega)]; omega]
    have hp := putAway_len l (wrap64 (1 + r)) x1 x2 x3 x4
    obtain ⟨l', i', h', e, c', hl'⟩ := l14Draw_l1 b n (putAway l (wrap64 (1 + r)) x1 x2 x3 x4).1 i2 h2 c2 (by omega) (by omega)
    exact ⟨l', i', h', e, c', by omega⟩
theorem l14Draw_l0 (b : List Int) : ∀ (d x : Nat) (l : List S78) (i h : Int), x + d = 10 → 1 ≤ x → l.length + 1 = x → CO b i → ∃ l' i' h', spec_l14Draw.L0 l (x : Int) b i h = some (l', i', h') ∧ CO b i' ∧ 2 ≤ l'.length ∧ l'.length ≤ 9
  | d, x, l, i, h, hd, hx, hl, c => by
    obtain ⟨r, i1, h1, e1, r0, r1, c1⟩ := below_pos b i h 7 c (by omega) (by omega)
    rw [spec_l14Draw.L0_eq, e1, Option.bind_some]
    dsimp only
    rw [wrap_in (2 + r) (by omega)]
    by_cases hc : (x : Int) ≤ 2 + r
    · obtain ⟨s, i2, h2, e2, _, _, c2⟩ := below_pos b i1 h1 6 c1 (by omega) (by omega)
      rw [if_pos hc, e2, Option.bind_some]
      dsimp only
      rw [if_pos (by omega), wrap_succ x (by omega)]
      cases d with
      | zero => omega
      | succ d => exact l14Draw_l0 b d (x + 1) _ i2 h2 (by omega) (by omega) (by rw [List.length_append, List.length_singleton]; omega) c2
    · obtain ⟨s, i2, h2, e2, s0, s1, c2⟩ := below_pos b i1 h1 5 c1 (by omega) (by omega)
      rw [if_neg hc, e2, Option.bind_some]
      dsimp only
      obtain ⟨n, rfl⟩ : ∃ n : Nat, s = n := ⟨s.toNat, by omega⟩
      obtain ⟨l', i', h', e, c', hl'⟩ := l14Draw_l1 b n l i2 h2 c2 (by omega) (by omega)
      exact ⟨l', i', h', e, c', by omega, by omega⟩
theorem l14Any_is (b : List Int) (i h : Int) (c : CO b i) : ∃ l i' h', spec_l14Any.F b i h = some (l, i', h') ∧ CO b i' ∧ 2 ≤ l.length ∧ l.length ≤ 9 := by
  obtain ⟨l, i1, h1, e1, c1, l2, l9⟩ := l14Draw_l0 b 9 1 [] i h (by omega) (by omega) rfl c
  obtain ⟨r, i2, h2, e2, r0, r1, c2⟩ := below_pos b i1 h1 (l.length : Int) c1 (by omega) (by omega)
  obtain ⟨s, i3, h3, e3, _, _, c3⟩ := below_pos b i2 h2 10 c2 (by omega) (by omega)
  have e1' : spec_l14Draw.L0 [] 1 b i h = some (l, i1, h1) := e1
  rw [spec_l14Any.F_eq, spec_l14Draw.F_eq, e1', Option.bind_some]
  dsimp only
  rw [e2, Option.bind_some]
  dsimp only
  rw [e3, Option.bind_some]
  dsimp only
  by_cases s0 : s = 0
  · obtain ⟨v, i4, h4, e4, _, c4⟩ := l1Int_is b i3 h3 [0, 1, 99, 100] c3 (by decide) (by decide)
    rw [if_pos s0, e4, Option.bind_some]
    dsimp only
    rw [if_pos r0, if_pos r1]
    exact ⟨_, i4, h4, rfl, c4, by rw [List.length_set]; exact l2, by rw [List.length_set]; exact l9⟩
  rw [if_neg s0]
  by_cases s1 : s = 1
  · obtain ⟨v, i4, h4, e4, _, c4⟩ := l4Raw_is b i3 h3 c3
    rw [if_pos s1, e4, Option.bind_some]
    dsimp only
    rw [if_pos r0, if_pos r1]
    exact ⟨_, i4, h4, rfl, c4, by rw [List.length_set]; exact l2, by rw [List.length_set]; exact l9⟩
  rw [if_neg s1]
  by_cases s2 : s = 2
  · obtain ⟨v, i4, h4, e4, _, c4⟩ := l1Int_is b i3 h3 [-1, 999, 1000] c3 (by decide) (by decide)
    rw [if_pos s2, e4, Option.bind_some]
    dsimp only
    rw [if_pos r0, if_pos r1]
    exact ⟨_, i4, h4, rfl, c4, by rw [List.length_set]; exact l2, by rw [List.length_set]; exact l9⟩
  rw [if_neg s2]
  by_cases s3 : s = 3
  · rw [if_pos s3, if_pos (by omega), if_pos r0, if_pos r1]
    exact ⟨_, i3, h3, rfl, c3, by rw [List.length_set]; exact l2, by rw [List.length_set]; exact l9⟩
  · rw [if_neg s3]
    exact ⟨l, i3, h3, rfl, c3, l2, l9⟩
theorem drawPutAway_is (b : List Int) (hb : b.length ≤ 1048576) : ∃ l x0 x1 x2 x3 x4, spec_DrawPutAway.F b = some (l, x0, x1, x2, x3, x4) ∧ l.length ≤ 9 := by
  obtain ⟨h0, e0, c0⟩ := l1New_is b hb
  obtain ⟨l, i1, h1, e1, c1, _, hl⟩ := l14Any_is b 0 h0 c0
  obtain ⟨x0, x1, x2, x3, x4, i2, h2, e2, _⟩ := l4Any_is b i1 h1 c1
  rw [spec_DrawPutAway.F_eq, e0, Option.bind_some]
  dsimp only
  rw [e1, Option.bind_some]
  dsimp only
  rw [e2, Option.bind_some]
  exact ⟨l, _, _, _, _, _, rfl, hl⟩
theorem drawTakeOut_is (b : List Int) (hb : b.length ≤ 1048576) : ∃ l t, spec_DrawTakeOut.F b = some (l, t) ∧ l.length ≤ 9 := by
  obtain ⟨h0, e0, c0⟩ := l1New_is b hb
  obtain ⟨l, i1, h1, e1, c1, l2, hl⟩ := l14Any_is b 0 h0 c0
  obtain ⟨r, i2, h2, e2, r0, r1, c2⟩ := below_pos b i1 h1 (l.length : Int) c1 (by omega) (by omega)
  obtain ⟨v, i3, h3, e3, _⟩ := l1Int_is b i2 h2 [0, (rd_T78 l r).f2, (rd_T78 l r).f2, 7] c2 (by simp) (by simp)
  rw [spec_DrawTakeOut.F_eq, spec_DrawSlotOf.F_eq, e0, Option.bind_some]
  dsimp only
  rw [e1, Option.bind_some]
  dsimp only
  rw [e2, Option.bind_some]
  dsimp only
  rw [if_pos r0, if_pos r1, e3, Option.bind_some]
  exact ⟨l, v, rfl, hl⟩

theorem cloneSlot_is (l : List S78) (hn : l.length ≤ 4194304) : impl_Slot_124.f l = some l := by
  unfold impl_Slot_124.f
  rw [Option.bind_some, if_pos (by simp only [List.length_nil]; omega)]
  rfl

theorem impl_slotWith_is (l : List S78) (t : Int) : impl_slotWith.f l t = some (slotAt l t) := rfl

theorem impl_SlotOf_is (l : List S78) (t : Int) (hn : l.length ≤ 1048576) : impl_SlotOf.f l t = some (slotOf l t) := by
  unfold impl_SlotOf.f
  rw [impl_slotWith_is, Option.bind_some, ← slotOf_slotAt]
  rcases slotAt_cases l t with ⟨h, h1⟩ | ⟨h0, j, h1, h2, h3, h4⟩
  · rw [h, if_pos (by omega), if_pos (by omega)]
  · rw [h2, if_neg (by omega), if_pos (by omega), if_pos (by omega), if_neg (by omega)]

theorem inRange (a b c : Int) : impl_InRange.f a b c = some (inR a b c) := by
  unfold impl_InRange.f inR
  by_cases h : b ≤ a <;> simp [h]

theorem impl_AreSlots_l0 (l : List S78) (hn : l.length ≤ 1048576) : ∀ (d i : Nat), i + d = l.length → (∀ j, j < i → okSlot l j) → impl_AreSlots.L0 l l (l.length : Int) (i : Int) = some (allF (okSlot l) l.length i)
  | 0, i, h, hpre => by rw [impl_AreSlots.L0_eq, if_neg (by omega), allF_end (by omega)]
  | d + 1, i, h, hpre => by
    have hi : i < l.length := by omega
    have hf := fresh_iff l i (by omega) hpre
    have htl : (l.take i).length ≤ 1048576 := by rw [List.length_take]; omega
    rw [impl_AreSlots.L0_eq]
    simp only [wrap_succ i (by omega), wrap_pred i (by omega), inRange, Int.toNat_natCast, impl_SlotOf_is _ _ htl, Option.bind_some, hf]
    have ih : okSlot l i → impl_AreSlots.L0 l l (l.length : Int) ((i + 1 : Nat) : Int) = some (allF (okSlot l) l.length (i + 1)) := fun hp_ => impl_AreSlots_l0 l hn d (i + 1) (by omega) (fun j hj => by
        by_cases e : j = i
        · rw [e]; exact hp_
        · exact hpre j (by omega))
    have e1 : (i : Int) < (l.length : Int) := by omega
    have e2 : (0 : Int) ≤ (i : Int) := by omega
    have e3 : (i : Int) ≤ (l.length : Int) := by omega
    by_cases c0 : (i : Int) > 0
    · have e4 : (0 : Int) ≤ (i : Int) - 1 := by omega
      have e5 : (i : Int) - 1 < (l.length : Int) := by omega
      simp only [if_pos e1, if_pos e2, if_pos e3, if_pos c0, if_pos e4, if_pos e5]
      by_cases c1 : inR (rd_T78 l (i : Int)).f0 1 99 = true
      · rw [if_pos c1]
        by_cases c2 : (rd_T78 l (i : Int)).f0 ≤ (rd_T78 l ((i : Int) - 1)).f0
        · rw [if_pos c2, allF_no hi (fun h => absurd (h.2.1 c0) (by omega))]
          first | done | rfl | simp
        · rw [if_neg c2]
          by_cases c3 : inR (rd_T78 l (i : Int)).f1 1 50 = true
          · rw [if_pos c3]
            by_cases c4 : inR (rd_T78 l (i : Int)).f2 0 999 = true
            · rw [if_pos c4]
              by_cases c5 : freshB l i = true
              · rw [if_pos c5]
                have hp_ : okSlot l i := ⟨c1, fun _ => by omega, c3, c4, c5⟩
                rw [ih hp_, allF_yes hp_]
              · rw [if_neg c5, allF_no hi (fun h => c5 h.2.2.2.2)]
                first | done | rfl | simp
            · rw [if_neg c4, allF_no hi (fun h => c4 h.2.2.2.1)]
              first | done | rfl | simp
          · rw [if_neg c3, allF_no hi (fun h => c3 h.2.2.1)]
            first | done | rfl | simp
      · rw [if_neg c1, allF_no hi (fun h => c1 h.1)]
        first | done | rfl | simp
    · simp only [if_pos e1, if_pos e2, if_pos e3, if_neg c0]
      by_cases c1 : inR (rd_T78 l (i : Int)).f0 1 99 = true
      · rw [if_pos c1]
        by_cases c2 : inR (rd_T78 l (i : Int)).f1 1 50 = true
        · rw [if_pos c2]
          by_cases c3 : inR (rd_T78 l (i : Int)).f2 0 999 = true
          · rw [if_pos c3]
            by_cases c4 : freshB l i = true
            · rw [if_pos c4]
              have hp_ : okSlot l i := ⟨c1, fun hh => absurd hh c0, c2, c3, c4⟩
              rw [ih hp_, allF_yes hp_]
            · rw [if_neg c4, allF_no hi (fun h => c4 h.2.2.2.2)]
              first | done | rfl | simp
          · rw [if_neg c3, allF_no hi (fun h => c3 h.2.2.2.1)]
            first | done | rfl | simp
        · rw [if_neg c2, allF_no hi (fun h => c2 h.2.2.1)]
          first | done | rfl | simp
      · rw [if_neg c1, allF_no hi (fun h => c1 h.1)]
        first | done | rfl | simp
theorem impl_AreSlots_is (l : List S78) (hn : l.length ≤ 1048576) : impl_AreSlots.F l = some (areSlots l) := by
  rw [impl_AreSlots.F_eq, areSlots]
  by_cases h : (l.length : Int) > 30
  · rw [if_pos h, decide_eq_false (by omega), Bool.and_false]
  · rw [if_neg h, decide_eq_true (by omega), Bool.and_true]
    exact impl_AreSlots_l0 l hn l.length 0 (by omega) (fun j hj => absurd hj (by omega))

theorem impl_freeFor_l0 (l : List S78) (size : Int) (hn : l.length ≤ 1048576) : ∀ (d i : Nat) (b : Int), i + d = l.length → b < i → -1 ≤ b → impl_freeFor.L0 l size b l (l.length : Int) (i : Int) = some (bestSlot l size d i b)
  | 0, i, b, h, h1, h2 => by rw [impl_freeFor.L0_eq, if_neg (by omega)]; rfl
  | d + 1, i, b, h, h1, h2 => by
    have hi : i < l.length := by omega
    rw [impl_freeFor.L0_eq, if_pos (by omega), if_pos (by omega), if_pos (by omega)]
    simp only [wrap_succ i (by omega), bestSlot]
    by_cases c1 : (rd_T78 l (i : Int)).f2 = 0
    · by_cases c2 : (rd_T78 l (i : Int)).f1 ≥ size
      · by_cases c3 : b < 0
        · rw [if_pos c1, if_pos c2, if_pos c3, if_pos ⟨c1, c2, .inl c3⟩]
          exact impl_freeFor_l0 l size hn d (i + 1) _ (by omega) (by omega) (by omega)
        · by_cases c4 : (rd_T78 l (i : Int)).f1 < (rd_T78 l b).f1
          · rw [if_pos c1, if_pos c2, if_neg c3, if_pos (by omega), if_pos (by omega), if_pos c4, if_pos ⟨c1, c2, .inr c4⟩]
            exact impl_freeFor_l0 l size hn d (i + 1) _ (by omega) (by omega) (by omega)
          · rw [if_pos c1, if_pos c2, if_neg c3, if_pos (by omega), if_pos (by omega), if_neg c4, if_neg (fun h => h.2.2.elim c3 c4)]
            exact impl_freeFor_l0 l size hn d (i + 1) _ (by omega) (by omega) (by omega)
      · rw [if_pos c1, if_neg c2, if_neg (fun h => c2 h.2.1)]
        exact impl_freeFor_l0 l size hn d (i + 1) _ (by omega) (by omega) (by omega)
    · rw [if_neg c1, if_neg (fun h => c1 h.1)]
      exact impl_freeFor_l0 l size hn d (i + 1) _ (by omega) (by omega) (by omega)
theorem impl_freeFor_is (l : List S78) (size : Int) (hn : l.length ≤ 1048576) : impl_freeFor.F l size = some (bestSlot l size l.length 0 (-1)) := by
  rw [impl_freeFor.F_eq]
  exact impl_freeFor_l0 l size hn l.length 0 (-1) (by omega) (by omega) (by omega)

theorem impl_IsThing_is (a b c d e : Int) : impl_IsThing.f a b c d e = some (inR a 1 999 && inR b 1 8 && inR c 0 7 && inR d 1 50 && inR e 0 10000000) := by
  unfold impl_IsThing.f
  simp only [inRange, Option.bind_some]
  cases inR a 1 999 <;> cases inR b 1 8 <;> cases inR c 0 7 <;> cases inR d 1 50 <;> simp

theorem impl_PutAway_is (l : List S78) (a b c d e : Int) (hn : l.length ≤ 1048576) : impl_PutAway.F l a b c d e = some (putAway l a b c d e) := by
  have hb := bestSlot_bd l d l.length 0 (-1) (by omega) (by omega) (by omega)
  rw [impl_PutAway.F_eq, cloneSlot_is l (by omega), Option.bind_some, impl_freeFor_is l d hn, Option.bind_some, impl_AreSlots_is l hn, Option.bind_some, putAway]
  have ht : impl_IsThing.f a b c d e = some (isThing a b c d e) := impl_IsThing_is ..
  rw [ht]
  simp only [Option.bind_some, impl_slotWith_is]
  by_cases h : areSlots l = true
  · rw [if_pos h]
    by_cases h1 : isThing a b c d e = true
    · rw [if_pos h1]
      by_cases h2 : bestSlot l d l.length 0 (-1) < 0
      · rw [if_pos h2, if_neg (fun hh => by omega)]
      · rw [if_neg h2]
        by_cases h3 : slotAt l a ≥ 0
        · rw [if_pos h3, if_neg (fun hh => by omega)]
        · rw [if_neg h3, if_pos (by omega), if_pos (by omega), if_pos ⟨h, h1, by omega, by omega⟩]
          unfold putIn
          rw [Int.toNat_of_nonneg (by omega)]
    · rw [if_neg h1, if_neg (fun hh => h1 hh.2.1)]
  · rw [if_neg h, if_neg (fun hh => h hh.1)]

noncomputable def takeOut (l : List S78) (t : Int) : List S78 × Bool := if areSlots l = true ∧ 0 ≤ slotAt l t then (putIn l (slotAt l t).toNat 0, true) else (l, false)
theorem takeOut_len (l : List S78) (t : Int) : (takeOut l t).1.length = l.length := by
  unfold takeOut
  split <;> simp [putIn_len]

theorem impl_TakeOut_is (l : List S78) (t : Int) (hn : l.length ≤ 1048576) : impl_TakeOut.F l t = some (takeOut l t) := by
  rw [impl_TakeOut.F_eq, cloneSlot_is l (by omega), Option.bind_some, impl_slotWith_is, Option.bind_some, impl_AreSlots_is l hn, Option.bind_some, takeOut]
  by_cases h : areSlots l = true
  · rcases slotAt_cases l t with ⟨h1, h2⟩ | ⟨h0, j, h1, h2, h3, h4⟩
    · rw [if_pos h, h1, if_pos (by omega), if_neg (fun hh => by omega)]
    · rw [if_pos h, h2, if_neg (by omega), if_pos (by omega), if_pos (by omega), if_pos ⟨h, by omega⟩, Int.toNat_natCast]
      rfl
  · rw [if_neg h, if_neg (fun hh => h hh.1)]

theorem impl_SmallestFree_is (l : List S78) (size : Int) (hn : l.length ≤ 1048576) : impl_SmallestFree.F l size = some (smallestFree l size) := by
  have hb := bestSlot_bd l size l.length 0 (-1) (by omega) (by omega) (by omega)
  rw [impl_SmallestFree.F_eq, impl_freeFor_is l size hn, Option.bind_some]
  unfold smallestFree freeId
  by_cases c : bestSlot l size l.length 0 (-1) < 0
  · rw [if_pos c, if_pos c]
  · rw [if_neg c, if_neg c, if_pos (by omega), if_pos (by omega)]

def freeSlots : List S78 → Int
  | [] => 0
  | x :: r => (if x.f2 = 0 then 1 else 0) + freeSlots r
theorem freeSlots_bd : ∀ (l : List S78), 0 ≤ freeSlots l ∧ freeSlots l ≤ l.length
  | [] => by simp [freeSlots]
  | x :: r => by
    have := freeSlots_bd r
    simp only [freeSlots, List.length_cons]
    split <;> omega
def largestFree : List S78 → Int → Int
  | [], a => a
  | x :: r, a => largestFree r (if x.f2 = 0 then (if x.f1 > a then x.f1 else a) else a)

theorem impl_FreeSlots_l0 (l : List S78) (hn : l.length ≤ 1048576) : ∀ (d i : Nat) (acc : Int), i + d = l.length → 0 ≤ acc → acc ≤ i → impl_FreeSlots.L0 acc l (l.length : Int) (i : Int) = some (acc + freeSlots (l.drop i))
  | 0, i, acc, h, h0, h1 => by rw [impl_FreeSlots.L0_eq, if_neg (by omega), List.drop_of_length_le (by omega)]; simp [freeSlots]
  | d + 1, i, acc, h, h0, h1 => by
    have hi : i < l.length := by omega
    rw [impl_FreeSlots.L0_eq, if_pos (by omega), if_pos (by omega), if_pos (by omega), dropSlot l i hi]
    simp only [wrap_succ i (by omega), freeSlots]
    by_cases hc : (rd_T78 l (i : Int)).f2 = 0
    · rw [if_pos hc, if_pos hc, wrap_in _ (by omega), impl_FreeSlots_l0 l hn d (i + 1) _ (by omega) (by omega) (by omega), Int.add_assoc]
    · rw [if_neg hc, if_neg hc, impl_FreeSlots_l0 l hn d (i + 1) _ (by omega) (by omega) (by omega), Int.zero_add]
theorem impl_FreeSlots_is (l : List S78) (hn : l.length ≤ 1048576) : impl_FreeSlots.F l = some (freeSlots l) := by
  rw [impl_FreeSlots.F_eq]
  have := impl_FreeSlots_l0 l hn l.length 0 0 (by omega) (by omega) (by omega)
  simpa using this

theorem slots_once2 {l : List S78} (h : areSlots l = true) {j m : Nat} (hj : j < l.length) (hm : m < l.length) (hne : j ≠ m) (h0 : (rd_T78 l (m : Int)).f2 ≠ 0) : (rd_T78 l (j : Int)).f2 ≠ (rd_T78 l (m : Int)).f2 := by
  have key : ∀ a c : Nat, a < c → c < l.length → (rd_T78 l (c : Int)).f2 ≠ 0 → (rd_T78 l (a : Int)).f2 ≠ (rd_T78 l (c : Int)).f2 := by
    intro a c hac hc hc0
    have := ((areSlots_ok h).1 c hc).2.2.2.2
    unfold freshB at this
    rw [decide_eq_false hc0, Bool.false_or, allF_all] at this
    exact this a hac
  rcases Nat.lt_or_gt_of_ne hne with hlt | hgt
  · exact key j m hlt hm h0
  · intro e
    exact key m j hgt hj (by rw [e]; exact h0) e.symm
theorem best_free (l : List S78) (size : Int) : ∀ (d i : Nat) (b : Int), (b < 0 ∨ ((rd_T78 l b).f2 = 0 ∧ (rd_T78 l b).f1 ≥ size)) → bestSlot l size d i b < 0 ∨ ((rd_T78 l (bestSlot l size d i b)).f2 = 0 ∧ (rd_T78 l (bestSlot l size d i b)).f1 ≥ size)
  | 0, i, b, h => h
  | d + 1, i, b, h => by
    simp only [bestSlot]
    refine best_free l size d (i + 1) _ ?_
    split
    · rename_i hc
      exact .inr ⟨hc.1, hc.2.1⟩
    · exact h
theorem put_ok {l : List S78} (h : areSlots l = true) (j : Nat) (hj : j < l.length) (t : Int) (ht : 0 ≤ t ∧ t ≤ 999) (hf : t = 0 ∨ ∀ q : Nat, q < l.length → q ≠ j → (rd_T78 l (q : Int)).f2 ≠ t) : areSlots (putIn l j t) = true := by
  have h1 := areSlots_ok h
  have r0 : ∀ q : Nat, (rd_T78 (putIn l j t) (q : Int)).f0 = (rd_T78 l (q : Int)).f0 := fun q => by
    rw [putIn_rd]; split
    · rename_i e; rw [e.1]
    · rfl
  have r1 : ∀ q : Nat, (rd_T78 (putIn l j t) (q : Int)).f1 = (rd_T78 l (q : Int)).f1 := fun q => by
    rw [putIn_rd]; split
    · rename_i e; rw [e.1]
    · rfl
  have r2 : ∀ q : Nat, (rd_T78 (putIn l j t) (q : Int)).f2 = if q = j then t else (rd_T78 l (q : Int)).f2 := fun q => by
    rw [putIn_rd]
    by_cases e : q = j
    · rw [if_pos ⟨e, hj⟩, if_pos e]
    · rw [if_neg (fun hh => e hh.1), if_neg e]
  unfold areSlots
  rw [Bool.and_eq_true, allF_all, decide_eq_true_iff, putIn_len]
  refine ⟨fun i hi => ?_, by have := h1.2; omega⟩
  obtain ⟨k0, k1, k2, k3, k4⟩ := h1.1 i hi
  refine ⟨by rw [r0]; exact k0, fun hp => ?_, by rw [r1]; exact k2, ?_, ?_⟩
  · have e : (i : Int) - 1 = ((i - 1 : Nat) : Int) := by omega
    have := k1 hp
    rw [e] at this ⊢
    rw [r0, r0]
    exact this
  · rw [r2]
    split
    · exact inR_iff.2 ht
    · exact k3
  · unfold freshB
    rw [Bool.or_eq_true, decide_eq_true_iff, allF_all]
    by_cases hz : (rd_T78 (putIn l j t) (i : Int)).f2 = 0
    · exact .inl hz
    · refine .inr (fun q hq => ?_)
      rw [r2] at hz
      rw [r2, r2]
      by_cases ei : i = j
      · rw [if_pos ei] at hz
        rw [if_pos ei, if_neg (by omega)]
        rcases hf with hf | hf
        · exact absurd hf hz
        · exact hf q (by omega) (by omega)
      · rw [if_neg ei] at hz
        rw [if_neg ei]
        by_cases eq : q = j
        · rw [if_pos eq]
          rcases hf with hf | hf
          · rw [hf]; exact fun hh => hz hh.symm
          · exact fun hh => hf i hi ei hh.symm
        · rw [if_neg eq]
          exact slots_once2 h (by omega) hi (by omega) hz
def one0 (x : S78) : Int := if x.f2 = 0 then 1 else 0
theorem free_set : ∀ (l : List S78) (j : Nat) (v : S78), j < l.length → freeSlots (l.set j v) = freeSlots l - one0 (l.getD j z78) + one0 v
  | [], j, v, h => absurd h (Nat.not_lt_zero _)
  | x :: r, 0, v, h => by
    simp only [List.set_cons_zero, freeSlots, List.getD_cons_zero, one0]
    omega
  | x :: r, j + 1, v, h => by
    have ih := free_set r j v (by simpa using h)
    simp only [List.set_cons_succ, freeSlots, List.getD_cons_succ, ih]
    omega
theorem free_put (l : List S78) (j : Nat) (t : Int) (hj : j < l.length) : freeSlots (putIn l j t) = freeSlots l - (if (rd_T78 l (j : Int)).f2 = 0 then 1 else 0) + (if t = 0 then 1 else 0) := by
  rw [putIn, free_set l j _ hj, rdSlot_at]
  rfl
theorem put_back (l : List S78) (j : Nat) (t : Int) (hj : j < l.length) (h0 : (rd_T78 l (j : Int)).f2 = 0) : putIn (putIn l j t) j 0 = l := by
  have e := putIn_rd l j t j
  rw [if_pos ⟨rfl, hj⟩] at e
  have e1 : putIn (putIn l j t) j 0 = (putIn l j t).set j ⟨(rd_T78 l (j : Int)).f0, (rd_T78 l (j : Int)).f1, 0⟩ := by
    conv => lhs; unfold putIn
    rw [show ((rd_T78 (l.set j ⟨(rd_T78 l (j : Int)).f0, (rd_T78 l (j : Int)).f1, t⟩) (j : Int))) = ⟨(rd_T78 l (j : Int)).f0, (rd_T78 l (j : Int)).f1, t⟩ from e]
    rfl
  rw [e1, putIn, List.set_set]
  have e2 : (⟨(rd_T78 l (j : Int)).f0, (rd_T78 l (j : Int)).f1, 0⟩ : S78) = l[j] := by
    have e3 : rd_T78 l (j : Int) = l[j] := by rw [rdSlot_at, getD_get l j _ hj]
    rw [← e3, ← h0]
  rw [e2, List.set_getElem_self]
theorem mem_rd {l : List S78} {x : S78} (hx : x ∈ l) : ∃ q : Nat, q < l.length ∧ rd_T78 l (q : Int) = x := by
  obtain ⟨q, hq, e⟩ := List.getElem_of_mem hx
  exact ⟨q, hq, by rw [rdSlot_at, getD_get l q _ hq, e]⟩
theorem rd_mem {l : List S78} (q : Nat) (hq : q < l.length) : rd_T78 l (q : Int) ∈ l := by
  rw [rdSlot_at, getD_get l q _ hq]
  exact List.getElem_mem _
theorem at_put {l : List S78} (j : Nat) (hj : j < l.length) (t : Int) (h0 : t ≠ 0) (hf : ∀ q : Nat, q < l.length → (rd_T78 l (q : Int)).f2 ≠ t) : slotAt (putIn l j t) t = (j : Int) := by
  rcases slotAt_cases (putIn l j t) t with ⟨_, h1⟩ | ⟨_, q, h1, h2, h3, _⟩
  · exfalso
    rcases h1 with h1 | h1
    · exact h0 h1
    · have := h1 _ (rd_mem (l := putIn l j t) j (by rw [putIn_len]; exact hj))
      rw [putIn_rd, if_pos ⟨rfl, hj⟩] at this
      exact this rfl
  · rw [putIn_len] at h1
    rw [putIn_rd] at h3
    by_cases e : q = j
    · rw [h2, e]
    · rw [if_neg (fun hh => e hh.1)] at h3
      exact absurd h3 (hf q h1)
theorem slotOf_put {l : List S78} (j : Nat) (hj : j < l.length) (t : Int) (h0 : t ≠ 0) (hf : ∀ q : Nat, q < l.length → (rd_T78 l (q : Int)).f2 ≠ t) : slotOf (putIn l j t) t = (rd_T78 l (j : Int)).f0 := by
  rw [← slotOf_slotAt, at_put j hj t h0 hf, if_neg (by omega), putIn_rd, if_pos ⟨rfl, hj⟩]

theorem shelves_J2 (x0 : List Int) (hb : x0.length ≤ 1048576) : laws_FnShelves.J2 x0 = some true := by
  obtain ⟨l, t, e, hl⟩ := drawTakeOut_is x0 hb
  rw [laws_FnShelves.J2_eq, e, Option.bind_some]
  dsimp only
  rw [impl_TakeOut_is l t (by omega), Option.bind_some, takeOut]
  by_cases h : areSlots l = true ∧ 0 ≤ slotAt l t
  · rw [if_pos h]
    dsimp only
    rcases slotAt_cases l t with ⟨h1, _⟩ | ⟨h0, j, hj, h1, h2, h3⟩
    · have := h.2; omega
    · have hne : ∀ q : Nat, q < l.length → q ≠ j → (rd_T78 l (q : Int)).f2 ≠ t := fun q hq hqj => by
        have := slots_once2 h.1 hq hj hqj (by rw [h2]; exact h0)
        rw [h2] at this
        exact this
      rw [if_pos rfl, h1, Int.toNat_natCast, impl_SlotOf_is _ _ (by rw [putIn_len]; omega), Option.bind_some, slotOf_none t _ (.inr (fun x hx => by
        obtain ⟨q, hq, e⟩ := mem_rd hx
        rw [putIn_len] at hq
        rw [← e, putIn_rd]
        by_cases eq : q = j
        · rw [if_pos ⟨eq, hj⟩]; exact fun hh => h0 hh.symm
        · rw [if_neg (fun hh => eq hh.1)]; exact hne q hq eq)), if_pos rfl, impl_AreSlots_is _ (by rw [putIn_len]; omega), Option.bind_some, put_ok h.1 j hj 0 (by omega) (.inl rfl)]
  · rw [if_neg h]
    dsimp only
    rw [if_neg (by decide)]
theorem shelves_l0 (x0 : List Int) (hb : x0.length ≤ 1048576) (l : List S78) (hs : areSlots l = true) (j : Nat) (hj : j < l.length) (t a b c d e : Int) (hd : d ≤ (rd_T78 l (j : Int)).f1) (hn : l.length ≤ 1000) : ∀ (n i : Nat), i + n = l.length → laws_FnShelves.L0 x0 l (putIn l j t) (rd_T78 l (j : Int)).f0 l (i : Int) a b c d e = some true
  | 0, i, h => by
    rw [laws_FnShelves.L0_eq, if_neg (by omega)]
    exact shelves_J2 x0 hb
  | n + 1, i, h => by
    have ih := shelves_l0 x0 hb l hs j hj t a b c d e hd hn n (i + 1) (by omega)
    rw [laws_FnShelves.L0_eq, if_pos (by omega), if_pos (by omega), if_pos (by omega)]
    simp only [beq_self_eq_true, Bool.not_true, Bool.or_false, Bool.false_eq_true, if_false]
    rw [if_pos (by rw [putIn_len]; omega), wrap_succ i (by omega), ih]
    have e5 := putIn_rd l j t i
    by_cases ei : i = j
    · rw [if_pos ⟨ei, hj⟩] at e5
      rw [e5, if_pos rfl, if_neg (by dsimp only; omega)]
    · rw [if_neg (fun hh => ei hh.1)] at e5
      rw [e5, if_neg (fun hh => ei ((slots_inj hs i j (by omega) hj).1 hh))]
theorem law_FnShelves (l0 : List Int) (hm0 : l0.length ≤ maxLen) (hw0 : ∀ y ∈ l0, (fun n : Int => (Lit.int .u8 n).wf = true) y) : laws_FnShelves.F l0 = some true := by
  rw [laws_FnShelves.F_eq, big_is, Option.bind_some]
  by_cases hb : (l0.length : Int) > 1048576
  · rw [decide_eq_true hb, if_pos rfl]
  · have hb' : l0.length ≤ 1048576 := by omega
    obtain ⟨l, a, b, c, d, e, e0, hl⟩ := drawPutAway_is l0 hb'
    rw [decide_eq_false hb, if_neg (by decide), e0, Option.bind_some]
    dsimp only
    rw [impl_PutAway_is l _ _ _ _ _ (by omega), Option.bind_some]
    by_cases h : areSlots l = true ∧ isThing a b c d e = true ∧ 0 ≤ bestSlot l d l.length 0 (-1) ∧ slotAt l a < 0
    · obtain ⟨hs, ht, h1, h2⟩ := h
      have hbd := bestSlot_bd l d l.length 0 (-1) (by omega) (by omega) (by omega)
      have hfree := best_free l d l.length 0 (-1) (.inl (by omega))
      have hsf : smallestFree l d = if bestSlot l d l.length 0 (-1) < 0 then 0 else (rd_T78 l (bestSlot l d l.length 0 (-1))).f0 := rfl
      obtain ⟨j, hjj⟩ : ∃ j : Nat, bestSlot l d l.length 0 (-1) = (j : Int) := ⟨(bestSlot l d l.length 0 (-1)).toNat, by omega⟩
      have hp : putAway l a b c d e = (putIn l j a, true) := by rw [putAway, if_pos ⟨hs, ht, h1, h2⟩, hjj, Int.toNat_natCast]
      rw [hjj] at hbd hfree hsf
      rw [hp]
      have hj : j < l.length := by omega
      have hfr := hfree.resolve_left (by omega)
      rw [if_neg (by omega)] at hsf
      have ha : 1 ≤ a ∧ a ≤ 999 := by
        unfold isThing at ht
        simp only [Bool.and_eq_true, inR_iff] at ht
        omega
      have hnone : ∀ q : Nat, q < l.length → (rd_T78 l (q : Int)).f2 ≠ a := by
        rcases slotAt_cases l a with ⟨_, h3⟩ | ⟨_, q, _, h3, _⟩
        · intro q hq
          exact h3.resolve_left (by omega) _ (rd_mem q hq)
        · omega
      have hid := slots_id hs j hj
      have hy : areSlots (putIn l j a) = true := put_ok hs j hj a (by omega) (.inr (fun q hq _ => hnone q hq))
      have hyl : (putIn l j a).length ≤ 1048576 := by rw [putIn_len]; omega
      have hfb := freeSlots_bd l
      have hz : takeOut (putIn l j a) a = (l, true) := by
        rw [takeOut, at_put j hj a (by omega) hnone, if_pos ⟨hy, by omega⟩, Int.toNat_natCast, put_back l j a hj hfr.1]
      have hfy : freeSlots (putIn l j a) = freeSlots l - 1 := by
        rw [free_put l j a hj, if_pos hfr.1, if_neg (by omega)]
        omega
      dsimp only
      rw [if_pos rfl, impl_SlotOf_is _ _ hyl, Option.bind_some, slotOf_put j hj a (by omega) hnone, impl_TakeOut_is _ _ hyl, hz, Option.bind_some, impl_AreSlots_is _ hyl, Option.bind_some, if_pos hy, if_neg (by omega), impl_SmallestFree_is l _ (by omega), Option.bind_some, hsf, if_pos rfl, impl_FreeSlots_is _ hyl, Option.bind_some, impl_FreeSlots_is l (by omega), Option.bind_some, hfy, wrap_in _ (by omega), if_pos rfl]
      dsimp only
      rw [if_pos rfl, Option.bind_some, Option.bind_some, bne_self_eq_false, laws_FnShelves.J0_eq, if_neg (by decide)]
      exact shelves_l0 l0 hb' l hs j hj a a b c d e hfr.2 (by omega) l.length 0 (by omega)
    · have hp : putAway l a b c d e = (l, false) := by rw [putAway, if_neg h]
      rw [hp]
      dsimp only
      rw [if_neg (by decide), if_pos rfl]
      exact shelves_J2 l0 hb'

theorem FnShelves (l0 : List Int) (hm0 : l0.length ≤ maxLen) (hw0 : ∀ y ∈ l0, (fun n : Int => (Lit.int .u8 n).wf = true) y) : ∃ k, laws_FnShelves.f k l0 = some true :=
  (laws_FnShelves.F_co l0).rounds (law_FnShelves l0 hm0 hw0)
end Go.Proofs.Ytkfalbaklodnjaa.PFnShelves.Pure
