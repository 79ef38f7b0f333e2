/-
  The law FnPacked answers true for every input. It has no conditions.
-/
import Derived.Test.YtbacepkkamfeoaaShFnPacked
import Derived.Test.YtbacepkkamfeoaaEqFnPacked
import Derived.Test.YtbacepkkamfeoaaBase
set_option linter.unusedVariables false
set_option linter.unusedSimpArgs false
namespace Go.Proofs.Ytbacepkkamfeoaa.PFnPacked.Pure
open Go.RowKit Go.Proofs.YtbacepkkamfeoaaW.PrintWords Go.Proofs.YtbacepkkamfeoaaW.PrintLast Go.Proofs.YtbacepkkamfeoaaW.PrintMore Go.Proofs.Ytbacepkkamfeoaa.PFnPacked Go.Proofs.Ytbacepkkamfeoaa.Lim Go.Proofs.Ytbacepkkamfeoaa.Base
set_option maxRecDepth 100000

theorem big_is (l : List Int) : laws_big.f l = some (decide ((l.length : Int) > 1048576)) := rfl

/-- A cursor's place in the bytes that it reads. -/
def CO (b : List Int) (i : Int) : Prop := 0 ≤ i ∧ i ≤ (b.length : Int) ∧ b.length ≤ 1048576
theorem and255 (x : Int) : 0 ≤ Go.bits .and .i64 x 255 ∧ Go.bits .and .i64 x 255 ≤ 255 := by
  have h : (BitVec.ofInt 64 255).toNat = 255 := by decide
  have h2 : (BitVec.ofInt 64 x &&& BitVec.ofInt 64 255).toNat ≤ 255 := by
    rw [BitVec.toNat_and, h]
    exact Nat.and_le_right
  show 0 ≤ IntKind.i64.wrap ((BitVec.ofInt 64 x &&& BitVec.ofInt 64 255).toNat : Int) ∧ IntKind.i64.wrap ((BitVec.ofInt 64 x &&& BitVec.ofInt 64 255).toNat : Int) ≤ 255
  rw [IntKind.wrap_i64]
  omega
theorem l1Byte_is (b : List Int) (i h : Int) (c : CO b i) : ∃ r i' h', spec_l1Byte.f b i h = some (r, i', h') ∧ 0 ≤ r ∧ r ≤ 255 ∧ CO b i' := by
  obtain ⟨c0, c1, c2⟩ := c
  unfold spec_l1Byte.f
  by_cases hi : i < (b.length : Int)
  · rw [if_pos hi, if_pos c0]
    refine ⟨_, _, _, rfl, (and255 _).1, (and255 _).2, ?_⟩
    rw [wrap_in _ (by omega)]
    exact ⟨by omega, by omega, c2⟩
  · rw [if_neg hi]
    exact ⟨_, _, _, rfl, (and255 _).1, (and255 _).2, c0, c1, c2⟩
theorem l1Below_is (b : List Int) (i h n : Int) (c : CO b i) (hn : n ≤ 10000000) : ∃ r i' h', spec_l1Below.f b i h n = some (r, i', h') ∧ 0 ≤ r ∧ (0 < n → r < n) ∧ (n ≤ 0 → r = 0) ∧ CO b i' := by
  unfold spec_l1Below.f
  by_cases h0 : n ≤ 0
  · rw [if_pos h0]
    exact ⟨0, i, h, rfl, by omega, fun _ => by omega, fun _ => rfl, c⟩
  · rw [if_neg h0]
    by_cases h1 : n ≤ 256
    · obtain ⟨r, i', h', e, r0, r1, c'⟩ := l1Byte_is b i h c
      rw [if_pos h1, e, Option.bind_some, if_neg (by omega), Int.tmod_eq_emod_of_nonneg r0]
      exact ⟨_, _, _, rfl, Int.emod_nonneg _ (by omega), fun _ => Int.emod_lt_of_pos _ (by omega), fun _ => by omega, c'⟩
    · obtain ⟨r, i', h', e, r0, r1, c'⟩ := l1Byte_is b i h c
      obtain ⟨s, i2, h2, e2, s0, s1, c2⟩ := l1Byte_is b i' h' c'
      obtain ⟨t, i3, h3, e3, t0, t1, c3⟩ := l1Byte_is b i2 h2 c2
      rw [if_neg h1, e, Option.bind_some]
      dsimp only
      rw [e2, Option.bind_some]
      dsimp only
      rw [e3, Option.bind_some, if_neg (by omega)]
      dsimp only
      rw [wrap_in (r * 65536) (by omega), wrap_in (s * 256) (by omega), wrap_in (r * 65536 + s * 256) (by omega), wrap_in (r * 65536 + s * 256 + t) (by omega), Int.tmod_eq_emod_of_nonneg (by omega)]
      exact ⟨_, _, _, rfl, Int.emod_nonneg _ (by omega), fun _ => Int.emod_lt_of_pos _ (by omega), fun _ => by omega, c3⟩
theorem below_pos (b : List Int) (i h n : Int) (c : CO b i) (h0 : 0 < n) (hn : n ≤ 10000000) : ∃ r i' h', spec_l1Below.f b i h n = some (r, i', h') ∧ 0 ≤ r ∧ r < n ∧ CO b i' := by
  obtain ⟨r, i', h', e, r0, r1, _, c'⟩ := l1Below_is b i h n c hn
  exact ⟨r, i', h', e, r0, r1 h0, c'⟩
theorem l1New_l0 (b : List Int) (hb : b.length ≤ 1048576) : ∀ (d i : Nat) (h : Int), i + d = b.length → ∃ h', spec_l1New.L0 b h (i : Int) = some (b, 0, h')
  | 0, i, h, hd => ⟨h, by rw [spec_l1New.L0_eq, if_neg (by omega)]⟩
  | d + 1, i, h, hd => by
    rw [spec_l1New.L0_eq, if_pos (by omega), if_pos (show (0 : Int) ≤ (i : Int) by omega), wrap_succ i (by omega)]
    by_cases h4 : (i : Int) < 4000
    · rw [if_pos h4]
      exact l1New_l0 b hb d (i + 1) _ (by omega)
    · rw [if_neg h4]
      exact ⟨h, rfl⟩
theorem l1New_is (b : List Int) (hb : b.length ≤ 1048576) : ∃ h', spec_l1New.F b = some (b, 0, h') ∧ CO b 0 := by
  obtain ⟨h', e⟩ := l1New_l0 b hb b.length 0 (wrap64 (193017 + (b.length : Int))) (by omega)
  exact ⟨h', by rw [spec_l1New.F_eq]; exact e, by unfold CO; omega⟩

theorem rdInt_at (l : List Int) (i : Nat) : rd l (i : Int) = l.getD i 0 := by simp [rd]
theorem dropInt (l : List Int) (i : Nat) (h : i < l.length) : l.drop i = rd l (i : Int) :: l.drop (i + 1) := by
  rw [rdInt_at, getD_get l i _ h]
  exact List.drop_eq_getElem_cons h

theorem l1Int_is (b : List Int) (i h : Int) (l : List Int) (c : CO b i) (h0 : 0 < l.length) (hn : l.length ≤ 1000) : ∃ r i' h', spec_l1Int.f b i h l = some (r, i', h') ∧ r ∈ l ∧ CO b i' := by
  obtain ⟨r, i', h', e, r0, r1, c'⟩ := below_pos b i h (l.length : Int) c (by omega) (by omega)
  unfold spec_l1Int.f
  rw [e, Option.bind_some]
  dsimp only
  rw [if_pos r0, if_pos r1]
  obtain ⟨j, rfl⟩ : ∃ j : Nat, r = j := ⟨r.toNat, by omega⟩
  refine ⟨_, _, _, rfl, ?_, c'⟩
  rw [show rd l (j : Int) = l[j]'(by omega) by simp [rd, show j < l.length by omega]]
  exact List.getElem_mem _

theorem l4Raw_is (b : List Int) (i h : Int) (c : CO b i) : ∃ r i' h', spec_l4Raw.f b i h = some (r, i', h') ∧ r ∈ ([-1, 0, 8, 50, 51, 1000, 9223372036854775807, -9223372036854775808] : List Int) ∧ CO b i' := by
  obtain ⟨r, i', h', e, hm, c'⟩ := l1Int_is b i h [-1, 0, 8, 50, 51, 1000, 9223372036854775807, -9223372036854775808] c (by decide) (by decide)
  unfold spec_l4Raw.f
  rw [e, Option.bind_some]
  exact ⟨r, i', h', rfl, hm, c'⟩

theorem l4Draw_is (b : List Int) (i h id : Int) (c : CO b i) : ∃ x1 x2 x3 x4 i' h', spec_l4Draw.f b i h id = some (id, x1, x2, x3, x4, i', h') ∧ CO b i' := by
  obtain ⟨r1, i1, h1, e1, _, _, c1⟩ := below_pos b i h 8 c (by omega) (by omega)
  obtain ⟨r2, i2, h2, e2, _, _, c2⟩ := below_pos b i1 h1 8 c1 (by omega) (by omega)
  obtain ⟨r3, i3, h3, e3, _, _, c3⟩ := below_pos b i2 h2 20 c2 (by omega) (by omega)
  obtain ⟨r4, i4, h4, e4, _, _, c4⟩ := below_pos b i3 h3 500 c3 (by omega) (by omega)
  unfold spec_l4Draw.f
  rw [e1, Option.bind_some]
  dsimp only
  rw [e2, Option.bind_some]
  dsimp only
  rw [e3, Option.bind_some]
  dsimp only
  rw [e4, Option.bind_some]
  exact ⟨_, _, _, _, i4, h4, rfl, c4⟩
theorem l4Any_is (b : List Int) (i h : Int) (c : CO b i) : ∃ x0 x1 x2 x3 x4 i' h', spec_l4Any.f b i h = some (x0, x1, x2, x3, x4, i', h') ∧ CO b i' := by
  obtain ⟨r, i1, h1, e1, _, _, c1⟩ := below_pos b i h 40 c (by omega) (by omega)
  obtain ⟨x1, x2, x3, x4, i2, h2, e2, c2⟩ := l4Draw_is b i1 h1 (wrap64 (1 + r)) c1
  obtain ⟨s, i3, h3, e3, _, _, c3⟩ := below_pos b i2 h2 14 c2 (by omega) (by omega)
  unfold spec_l4Any.f
  rw [e1, Option.bind_some]
  dsimp only
  rw [e2, Option.bind_some]
  dsimp only
  rw [e3, Option.bind_some]
  dsimp only
  by_cases s0 : s = 0
  · obtain ⟨v, i4, h4, e4, _, c4⟩ := l1Int_is b i3 h3 [0, 999, 1000] c3 (by decide) (by decide)
    rw [if_pos s0, e4, Option.bind_some]
    exact ⟨_, _, _, _, _, i4, h4, rfl, c4⟩
  rw [if_neg s0]
  by_cases s1 : s = 1
  · obtain ⟨v, i4, h4, e4, _, c4⟩ := l1Int_is b i3 h3 [0, 8, 9] c3 (by decide) (by decide)
    rw [if_pos s1, e4, Option.bind_some]
    exact ⟨_, _, _, _, _, i4, h4, rfl, c4⟩
  rw [if_neg s1]
  by_cases s2 : s = 2
  · obtain ⟨v, i4, h4, e4, _, c4⟩ := l1Int_is b i3 h3 [-1, 7, 8] c3 (by decide) (by decide)
    rw [if_pos s2, e4, Option.bind_some]
    exact ⟨_, _, _, _, _, i4, h4, rfl, c4⟩
  rw [if_neg s2]
  by_cases s3 : s = 3
  · obtain ⟨v, i4, h4, e4, _, c4⟩ := l4Raw_is b i3 h3 c3
    rw [if_pos s3, e4, Option.bind_some]
    exact ⟨_, _, _, _, _, i4, h4, rfl, c4⟩
  rw [if_neg s3]
  by_cases s4 : s = 4
  · obtain ⟨v, i4, h4, e4, _, c4⟩ := l1Int_is b i3 h3 [-1, 10000000, 10000001] c3 (by decide) (by decide)
    rw [if_pos s4, e4, Option.bind_some]
    exact ⟨_, _, _, _, _, i4, h4, rfl, c4⟩
  · rw [if_neg s4]
    exact ⟨_, _, _, _, _, i3, h3, rfl, c3⟩

theorem rdSlot_at (l : List S51) (i : Nat) : rd_T51 l (i : Int) = l.getD i z51 := by simp [rd_T51]
theorem dropSlot (l : List S51) (i : Nat) (h : i < l.length) : l.drop i = rd_T51 l (i : Int) :: l.drop (i + 1) := by
  rw [rdSlot_at, getD_get l i _ h]
  exact List.drop_eq_getElem_cons h

theorem idxFSlot_spec (p : S51 → Bool) : ∀ (l : List S51) (i : Int), (idxF51 p l i = -1 ∧ ∀ x ∈ l, ¬ p x = true) ∨ ∃ j : Nat, j < l.length ∧ idxF51 p l i = i + (j : Int) ∧ p (l.getD j z51) = true ∧ ∀ m : Nat, m < j → ¬ p (l.getD m z51) = true
  | [], i => .inl ⟨rfl, by simp⟩
  | x :: r, i => by
    simp only [idxF51]
    by_cases h : p x = true
    · rw [if_pos h]
      exact .inr ⟨0, by simp, by simp, by simpa using h, fun m hm => absurd hm (by omega)⟩
    · rw [if_neg h]
      rcases idxFSlot_spec p r (i + 1) with ⟨h1, h2⟩ | ⟨j, h1, h2, h3, h4⟩
      · exact .inl ⟨h1, fun y hy => by
          rcases List.mem_cons.1 hy with e | e
          · rw [e]; exact h
          · exact h2 y e⟩
      · refine .inr ⟨j + 1, by simp; omega, by rw [h2]; omega, by simpa using h3, fun m hm => ?_⟩
        cases m with
        | zero => simpa using h
        | succ m => simpa using h4 m (by omega)
theorem idxFSlot_at (p : S51 → Bool) (l : List S51) : (idxF51 p l 0 = -1 ∧ ∀ x ∈ l, ¬ p x = true) ∨ ∃ j : Nat, j < l.length ∧ idxF51 p l 0 = (j : Int) ∧ p (rd_T51 l (j : Int)) = true ∧ ∀ m : Nat, m < j → ¬ p (rd_T51 l (m : Int)) = true := by
  rcases idxFSlot_spec p l 0 with h | ⟨j, h1, h2, h3, h4⟩
  · exact .inl h
  · refine .inr ⟨j, h1, by rw [h2]; omega, by rw [rdSlot_at]; exact h3, fun m hm => by rw [rdSlot_at]; exact h4 m hm⟩

def slotOf : List S51 → Int → Int
  | [], _ => 0
  | x :: r, t => if t ≠ 0 ∧ x.f2 = t then x.f0 else slotOf r t
def slotAt (l : List S51) (t : Int) : Int := if t = 0 then -1 else idxF51 (fun x => x.f2 == t) l 0
theorem slotAt_cases (l : List S51) (t : Int) : (slotAt l t = -1 ∧ (t = 0 ∨ ∀ x ∈ l, x.f2 ≠ t)) ∨ (t ≠ 0 ∧ ∃ j : Nat, j < l.length ∧ slotAt l t = (j : Int) ∧ (rd_T51 l (j : Int)).f2 = t ∧ ∀ m : Nat, m < j → (rd_T51 l (m : Int)).f2 ≠ t) := by
  unfold slotAt
  by_cases h : t = 0
  · exact .inl ⟨by rw [if_pos h], .inl h⟩
  · rw [if_neg h]
    rcases idxFSlot_at (fun x => x.f2 == t) l with ⟨h1, h2⟩ | ⟨j, h1, h2, h3, h4⟩
    · exact .inl ⟨h1, .inr (fun x hx => by simpa using h2 x hx)⟩
    · exact .inr ⟨h, j, h1, h2, by simpa using h3, fun m hm => by simpa using h4 m hm⟩
theorem slotOf_none (t : Int) : ∀ (l : List S51), (t = 0 ∨ ∀ x ∈ l, x.f2 ≠ t) → slotOf l t = 0
  | [], h => rfl
  | x :: r, h => by
    simp only [slotOf]
    rw [if_neg (fun hh => h.elim (fun h0 => hh.1 h0) (fun h1 => h1 x (by simp) hh.2))]
    exact slotOf_none t r (h.imp id (fun h1 y hy => h1 y (by simp [hy])))
theorem slotOf_at (t : Int) (ht : t ≠ 0) : ∀ (l : List S51) (j : Nat), j < l.length → (l.getD j z51).f2 = t → (∀ m : Nat, m < j → (l.getD m z51).f2 ≠ t) → slotOf l t = (l.getD j z51).f0
  | [], j, h, _, _ => by simp at h
  | x :: r, 0, h, h1, h2 => by
    simp only [slotOf]
    rw [if_pos ⟨ht, by simpa using h1⟩]
    simp
  | x :: r, j + 1, h, h1, h2 => by
    simp only [slotOf]
    rw [if_neg (fun hh => h2 0 (by omega) (by simpa using hh.2))]
    have := slotOf_at t ht r j (by simpa using h) (by simpa using h1) (fun m hm => by simpa using h2 (m + 1) (by omega))
    rw [this]
    simp
theorem slotOf_slotAt (l : List S51) (t : Int) : (if slotAt l t < 0 then 0 else (rd_T51 l (slotAt l t)).f0) = slotOf l t := by
  rcases slotAt_cases l t with ⟨h, h1⟩ | ⟨h0, j, h1, h2, h3, h4⟩
  · rw [h, if_pos (by omega), slotOf_none t l h1]
  · rw [h2, if_neg (by omega), rdSlot_at, slotOf_at t h0 l j h1 (by rw [← rdSlot_at]; exact h3) (fun m hm => by rw [← rdSlot_at]; exact h4 m hm)]

noncomputable def freshB (l : List S51) (i : Nat) : Bool := decide ((rd_T51 l i).f2 = 0) || allF (fun q : Nat => (rd_T51 l q).f2 ≠ (rd_T51 l i).f2) i 0
def okSlot (l : List S51) (i : Nat) : Prop := inR (rd_T51 l i).f0 1 99 = true ∧ ((i : Int) > 0 → (rd_T51 l ((i : Int) - 1)).f0 < (rd_T51 l i).f0) ∧ inR (rd_T51 l i).f1 1 50 = true ∧ inR (rd_T51 l i).f2 0 999 = true ∧ freshB l i = true
noncomputable def areSlots (l : List S51) : Bool := allF (okSlot l) l.length 0 && decide ((l.length : Int) ≤ 30)
theorem rdSlot_take (l : List S51) (i q : Nat) (h : q < i) : rd_T51 (l.take i) (q : Int) = rd_T51 l (q : Int) := by
  rw [rdSlot_at, rdSlot_at, List.getD_eq_getElem?_getD, List.getD_eq_getElem?_getD, List.getElem?_take, if_pos h]
theorem fresh_iff (l : List S51) (i : Nat) (hi : i ≤ l.length) (hpre : ∀ j, j < i → okSlot l j) : (slotOf (l.take i) (rd_T51 l i).f2 = 0) = (freshB l i = true) := by
  have hl : (l.take i).length = i := by rw [List.length_take]; omega
  have e := slotOf_slotAt (l.take i) (rd_T51 l i).f2
  unfold freshB
  rw [Bool.or_eq_true, decide_eq_true_iff, allF_all]
  apply propext
  rcases slotAt_cases (l.take i) (rd_T51 l i).f2 with ⟨h, h1⟩ | ⟨h0, j, h1, h2, h3, h4⟩
  · rw [h, if_pos (by omega)] at e
    rw [← e]
    refine ⟨fun _ => h1.imp id (fun hx q hq => ?_), fun _ => rfl⟩
    rw [← rdSlot_take l i q hq, rdSlot_at, getD_get _ _ _ (by omega)]
    exact hx _ (List.getElem_mem _)
  · rw [hl] at h1
    rw [h2, if_neg (by omega), rdSlot_take l i j h1] at e
    rw [rdSlot_take l i j h1] at h3
    have hb := inR_iff.1 (hpre j h1).1
    exact ⟨fun hh => by omega, fun hh => hh.elim (fun hz => absurd hz h0) (fun ha => absurd h3 (ha j h1))⟩

theorem areSlots_ok {l : List S51} (h : areSlots l = true) : (∀ i : Nat, i < l.length → okSlot l i) ∧ l.length ≤ 30 := by
  unfold areSlots at h
  rw [Bool.and_eq_true, allF_all, decide_eq_true_iff] at h
  exact ⟨h.1, by omega⟩
theorem slots_lt {l : List S51} (h : areSlots l = true) : ∀ (d i j : Nat), i + d + 1 = j → j < l.length → (rd_T51 l (i : Int)).f0 < (rd_T51 l (j : Int)).f0
  | 0, i, j, e, hj => by
    have h1 := ((areSlots_ok h).1 j hj).2.1 (by omega)
    rw [show (j : Int) - 1 = (i : Int) by omega] at h1
    exact h1
  | d + 1, i, j, e, hj => by
    have h0 := slots_lt h d i (j - 1) (by omega) (by omega)
    have h1 := ((areSlots_ok h).1 j hj).2.1 (by omega)
    rw [show (j : Int) - 1 = ((j - 1 : Nat) : Int) by omega] at h1
    omega
theorem slots_inj {l : List S51} (h : areSlots l = true) (i j : Nat) (hi : i < l.length) (hj : j < l.length) : (rd_T51 l (i : Int)).f0 = (rd_T51 l (j : Int)).f0 ↔ i = j := by
  constructor
  · intro e
    rcases Nat.lt_trichotomy i j with hlt | he | hgt
    · have := slots_lt h (j - i - 1) i j (by omega) hj
      omega
    · exact he
    · have := slots_lt h (i - j - 1) j i (by omega) hi
      omega
  · rintro rfl; rfl
theorem slots_id {l : List S51} (h : areSlots l = true) (i : Nat) (hi : i < l.length) : 1 ≤ (rd_T51 l (i : Int)).f0 ∧ (rd_T51 l (i : Int)).f0 ≤ 99 := inR_iff.1 ((areSlots_ok h).1 i hi).1
def putIn (l : List S51) (j : Nat) (t : Int) : List S51 := l.set j ⟨(rd_T51 l (j : Int)).f0, (rd_T51 l (j : Int)).f1, t⟩
theorem putIn_len (l : List S51) (j : Nat) (t : Int) : (putIn l j t).length = l.length := by simp [putIn]
theorem putIn_rd (l : List S51) (j : Nat) (t : Int) (q : Nat) : rd_T51 (putIn l j t) (q : Int) = if q = j ∧ j < l.length then ⟨(rd_T51 l (j : Int)).f0, (rd_T51 l (j : Int)).f1, t⟩ else rd_T51 l (q : Int) := by
  simp only [rdSlot_at]
  rw [putIn, List.getD_eq_getElem?_getD, List.getElem?_set]
  by_cases h : j = q
  · subst h
    rw [if_pos rfl]
    by_cases h2 : j < l.length
    · rw [if_pos h2, if_pos ⟨rfl, h2⟩]; rfl
    · rw [if_neg h2, if_neg (fun hh => h2 hh.2), List.getD_eq_getElem?_getD, List.getElem?_eq_none (by omega)]
  · rw [if_neg h, if_neg (fun hh => h hh.1.symm), List.getD_eq_getElem?_getD]

def bestSlot (l : List S51) (size : Int) : Nat → Nat → Int → Int
  | 0, _, b => b
  | d + 1, i, b => bestSlot l size d (i + 1) (if (rd_T51 l (i : Int)).f2 = 0 ∧ (rd_T51 l (i : Int)).f1 ≥ size ∧ (b < 0 ∨ (rd_T51 l (i : Int)).f1 < (rd_T51 l b).f1) then (i : Int) else b)
theorem bestSlot_bd (l : List S51) (size : Int) : ∀ (d i : Nat) (b : Int), i + d = l.length → b < i → -1 ≤ b → -1 ≤ bestSlot l size d i b ∧ bestSlot l size d i b < l.length
  | 0, i, b, h, h1, h2 => by simp only [bestSlot]; omega
  | d + 1, i, b, h, h1, h2 => by
    simp only [bestSlot]
    split
    · exact bestSlot_bd l size d (i + 1) _ (by omega) (by omega) (by omega)
    · exact bestSlot_bd l size d (i + 1) _ (by omega) (by omega) (by omega)
def freeId (l : List S51) (b : Int) : Int := if b < 0 then 0 else (rd_T51 l b).f0
def smallestFree (l : List S51) (size : Int) : Int := freeId l (bestSlot l size l.length 0 (-1))

def isThing (a b c d e : Int) : Bool := inR a 1 999 && inR b 1 8 && inR c 0 7 && inR d 1 50 && inR e 0 10000000
noncomputable def putAway (l : List S51) (a b c d e : Int) : List S51 × Bool :=
  if areSlots l = true ∧ isThing a b c d e = true ∧ 0 ≤ bestSlot l d l.length 0 (-1) ∧ slotAt l a < 0 then (putIn l (bestSlot l d l.length 0 (-1)).toNat a, true) else (l, false)
theorem putAway_len (l : List S51) (a b c d e : Int) : (putAway l a b c d e).1.length = l.length := by
  unfold putAway
  split <;> simp [putIn_len]

theorem spec_SlotOf_l0 (l : List S51) (t : Int) (hn : l.length ≤ 1048576) : ∀ (d i : Nat), i + d = l.length → spec_SlotOf.L0 l t (i : Int) = some (slotOf (l.drop i) t)
  | 0, i, h => by rw [spec_SlotOf.L0_eq, if_neg (by omega), List.drop_of_length_le (by omega)]; rfl
  | d + 1, i, h => by
    rw [spec_SlotOf.L0_eq, if_pos (by omega), wrap_succ i (by omega), spec_SlotOf_l0 l t hn d (i + 1) (by omega), dropSlot l i (by omega)]
    simp only [slotOf]
    by_cases c0 : t = 0
    · rw [if_pos c0, if_neg (fun hh => hh.1 c0)]
    · rw [if_neg c0, if_pos (by omega)]
      by_cases c : (rd_T51 l (i : Int)).f2 = t
      · rw [if_pos c, if_pos ⟨c0, c⟩]
      · rw [if_neg c, if_neg (fun hh => c hh.2)]
theorem spec_SlotOf_is (l : List S51) (t : Int) (hn : l.length ≤ 1048576) : spec_SlotOf.F l t = some (slotOf l t) := by
  rw [spec_SlotOf.F_eq]
  exact spec_SlotOf_l0 l t hn l.length 0 (by omega)

theorem l1In (a b c : Int) : spec_l1In.f a b c = some (inR a b c) := by
  unfold spec_l1In.f inR
  by_cases h : b ≤ a <;> simp [h]

theorem spec_AreSlots_l1 (l : List S51) (hn : l.length ≤ 1048576) (i : Nat) (hi : i < l.length) : ∀ (d m : Nat), m + d = i → spec_AreSlots.L1 l (i : Int) (m : Int) = if (decide ((rd_T51 l i).f2 = 0) || allF (fun q : Nat => (rd_T51 l q).f2 ≠ (rd_T51 l i).f2) i m) = true then spec_AreSlots.L0 l ((i + 1 : Nat) : Int) else some false
  | 0, m, h => by
    rw [spec_AreSlots.L1_eq, if_neg (by omega), allF_end (by omega), Bool.or_true, if_pos rfl, wrap_succ i (by omega)]
  | d + 1, m, h => by
    have hm : m < i := by omega
    rw [spec_AreSlots.L1_eq, if_pos (by omega), if_pos (by omega), if_pos (by omega), wrap_succ m (by omega), spec_AreSlots_l1 l hn i hi d (m + 1) (by omega)]
    by_cases c0 : (rd_T51 l (i : Int)).f2 = 0
    · rw [if_pos c0, decide_eq_true c0, Bool.true_or, Bool.true_or]
    · rw [if_neg c0, decide_eq_false c0, Bool.false_or, Bool.false_or, if_pos (by omega), if_pos (by omega)]
      by_cases c : (rd_T51 l (m : Int)).f2 = (rd_T51 l (i : Int)).f2
      · rw [if_pos c, allF_no hm (fun hh => hh c), if_neg (by decide)]
      · rw [if_neg c, allF_yes (p := fun q : Nat => (rd_T51 l q).f2 ≠ (rd_T51 l i).f2) (n := i) (i := m) c]
theorem spec_AreSlots_l0 (l : List S51) (hn : l.length ≤ 1048576) : ∀ (d i : Nat), i + d = l.length → spec_AreSlots.L0 l (i : Int) = some (allF (okSlot l) l.length i && decide ((l.length : Int) ≤ 30))
  | 0, i, h => by rw [spec_AreSlots.L0_eq, if_neg (by omega), allF_end (by omega)]; rfl
  | d + 1, i, h => by
    have hi : i < l.length := by omega
    have ih := spec_AreSlots_l0 l hn d (i + 1) (by omega)
    have h1 := spec_AreSlots_l1 l hn i hi i 0 (by omega)
    have h1' : spec_AreSlots.L1 l (i : Int) 0 = if freshB l i = true then spec_AreSlots.L0 l ((i + 1 : Nat) : Int) else some false := h1
    rw [spec_AreSlots.L0_eq]
    simp only [wrap_pred i (by omega), l1In, Option.bind_some, spec_AreSlots.J1_eq, h1', ih, decide_eq_true_eq, Bool.false_eq_true, if_false, if_true]
    by_cases hp_ : okSlot l i
    · rw [allF_yes hp_]
      simp only [okSlot] at hp_
      obtain ⟨h1_, h2_, h3_, h4_, h5_⟩ := hp_
      repeat' split
      all_goals first
        | rfl
        | (exfalso; first | contradiction | omega)
    · rw [allF_no hi hp_]
      repeat' split
      all_goals first
        | rfl
        | (simp; done)
        | (exfalso; first | contradiction | omega)
        | (exfalso; apply hp_; simp only [okSlot]; (repeat' constructor) <;> first | assumption | (intro _; omega) | omega)
theorem spec_AreSlots_is (l : List S51) (hn : l.length ≤ 1048576) : spec_AreSlots.F l = some (areSlots l) := by
  rw [spec_AreSlots.F_eq, areSlots]
  exact spec_AreSlots_l0 l hn l.length 0 (by omega)

theorem spec_SmallestFree_l0 (l : List S51) (size : Int) (hn : l.length ≤ 1048576) : ∀ (d i : Nat) (b : Int), i + d = l.length → b < i → -1 ≤ b → spec_SmallestFree.L0 l size b (i : Int) = some (freeId l (bestSlot l size d i b))
  | 0, i, b, h, h1, h2 => by
    rw [spec_SmallestFree.L0_eq, if_neg (by omega)]
    show _ = some (freeId l b)
    unfold freeId
    by_cases c : b < 0
    · rw [if_pos c, if_pos c]
    · rw [if_neg c, if_neg c, if_pos (by omega), if_pos (by omega)]
  | d + 1, i, b, h, h1, h2 => by
    have hi : i < l.length := by omega
    rw [spec_SmallestFree.L0_eq, if_pos (by omega), if_pos (by omega)]
    simp only [wrap_succ i (by omega), bestSlot]
    by_cases c1 : (rd_T51 l (i : Int)).f2 = 0
    · by_cases c2 : (rd_T51 l (i : Int)).f1 ≥ size
      · by_cases c3 : b < 0
        · rw [if_pos c1, if_pos c2, if_pos c3, if_pos ⟨c1, c2, .inl c3⟩]
          exact spec_SmallestFree_l0 l size hn d (i + 1) _ (by omega) (by omega) (by omega)
        · by_cases c4 : (rd_T51 l (i : Int)).f1 < (rd_T51 l b).f1
          · rw [if_pos c1, if_pos c2, if_neg c3, if_pos (by omega), if_pos (by omega), if_pos c4, if_pos ⟨c1, c2, .inr c4⟩]
            exact spec_SmallestFree_l0 l size hn d (i + 1) _ (by omega) (by omega) (by omega)
          · rw [if_pos c1, if_pos c2, if_neg c3, if_pos (by omega), if_pos (by omega), if_neg c4, if_neg (fun h => h.2.2.elim c3 c4)]
            exact spec_SmallestFree_l0 l size hn d (i + 1) _ (by omega) (by omega) (by omega)
      · rw [if_pos c1, if_neg c2, if_neg (fun h => c2 h.2.1)]
        exact spec_SmallestFree_l0 l size hn d (i + 1) _ (by omega) (by omega) (by omega)
    · rw [if_neg c1, if_neg (fun h => c1 h.1)]
      exact spec_SmallestFree_l0 l size hn d (i + 1) _ (by omega) (by omega) (by omega)
theorem spec_SmallestFree_is (l : List S51) (size : Int) (hn : l.length ≤ 1048576) : spec_SmallestFree.F l size = some (smallestFree l size) := by
  rw [spec_SmallestFree.F_eq]
  exact spec_SmallestFree_l0 l size hn l.length 0 (-1) (by omega) (by omega) (by omega)

theorem spec_IsThing_is (a b c d e : Int) : spec_IsThing.f a b c d e = some (inR a 1 999 && inR b 1 8 && inR c 0 7 && inR d 1 50 && inR e 0 10000000) := by
  unfold spec_IsThing.f
  simp only [l1In, Option.bind_some]
  cases inR a 1 999 <;> cases inR b 1 8 <;> cases inR c 0 7 <;> cases inR d 1 50 <;> simp

theorem spec_PutAway_l0 (s : Int) (j : Nat) (a b c d e : Int) : ∀ (n i : Nat) (m : List S51), m.length ≤ 1048576 → i + n = m.length → j < m.length → (∀ q : Nat, q < m.length → ((rd_T51 m (q : Int)).f0 = s ↔ q = j)) → spec_PutAway.L0 m s (i : Int) a b c d e = some (if i ≤ j then putIn m j a else m, true)
  | 0, i, m, hn, h, hj, hq => by rw [spec_PutAway.L0_eq, if_neg (by omega), if_neg (by omega)]
  | n + 1, i, m, hn, h, hj, hq => by
    rw [spec_PutAway.L0_eq, if_pos (by omega), if_pos (by omega), wrap_succ i (by omega), Int.toNat_natCast]
    by_cases cc : (rd_T51 m (i : Int)).f0 = s
    · have e0 := (hq i (by omega)).1 cc
      subst e0
      rw [if_pos cc, if_pos (Nat.le_refl _)]
      have := spec_PutAway_l0 s i a b c d e n (i + 1) (putIn m i a) (by rw [putIn_len]; exact hn) (by rw [putIn_len]; omega) (by rw [putIn_len]; exact hj) (fun q hqq => by
        rw [putIn_len] at hqq
        rw [putIn_rd]
        by_cases e2 : q = i ∧ i < m.length
        · rw [if_pos e2]
          exact ⟨fun _ => e2.1, fun _ => cc⟩
        · rw [if_neg e2]
          exact hq q hqq)
      rw [if_neg (by omega)] at this
      exact this
    · have e0 : i ≠ j := fun e0 => cc ((hq i (by omega)).2 e0)
      rw [if_neg cc, spec_PutAway_l0 s j a b c d e n (i + 1) m hn (by omega) hj hq]
      by_cases e2 : i ≤ j
      · rw [if_pos e2, if_pos (by omega)]
      · rw [if_neg e2, if_neg (by omega)]
theorem spec_PutAway_is (l : List S51) (a b c d e : Int) (hn : l.length ≤ 1048576) : spec_PutAway.F l a b c d e = some (putAway l a b c d e) := by
  have hb := bestSlot_bd l d l.length 0 (-1) (by omega) (by omega) (by omega)
  have ht : spec_IsThing.f a b c d e = some (isThing a b c d e) := spec_IsThing_is ..
  have hf : smallestFree l d = if bestSlot l d l.length 0 (-1) < 0 then 0 else (rd_T51 l (bestSlot l d l.length 0 (-1))).f0 := rfl
  rw [spec_PutAway.F_eq, Option.bind_some, if_pos (by simp only [List.length_nil]; omega), List.nil_append, Option.bind_some, spec_SmallestFree_is l d hn, Option.bind_some, spec_AreSlots_is l hn, Option.bind_some, putAway, ht, Option.bind_some]
  by_cases h : areSlots l = true
  · rw [if_pos h]
    by_cases h1 : isThing a b c d e = true
    · rw [if_pos h1]
      by_cases h2 : bestSlot l d l.length 0 (-1) < 0
      · rw [if_pos h2] at hf
        rw [hf, if_pos rfl, spec_PutAway.J0_eq, if_pos rfl, if_neg (fun hh => by omega)]
      · obtain ⟨j, hj⟩ : ∃ j : Nat, bestSlot l d l.length 0 (-1) = (j : Int) := ⟨(bestSlot l d l.length 0 (-1)).toNat, by omega⟩
        rw [if_neg h2, hj] at hf
        have hjl : j < l.length := by omega
        have hid := slots_id h j hjl
        have es := slotOf_slotAt l a
        rw [hf, if_neg (by omega), spec_SlotOf_is l a hn, Option.bind_some, spec_PutAway.J0_eq]
        rcases slotAt_cases l a with ⟨h3, h4⟩ | ⟨h0, j', h3, h4, h5, h6⟩
        · have e0 : slotOf l a = 0 := by rw [← es, h3]; rfl
          rw [e0, if_neg (by decide), if_pos ⟨h, h1, by omega, by omega⟩, hj, Int.toNat_natCast]
          have := spec_PutAway_l0 (rd_T51 l (j : Int)).f0 j a b c d e l.length 0 l hn (by omega) hjl (fun q hq => slots_inj h q j hq hjl)
          rw [if_pos (Nat.zero_le _)] at this
          exact this
        · have hid' := slots_id h j' h3
          have e0 : slotOf l a = (rd_T51 l (j' : Int)).f0 := by rw [← es, h4, if_neg (by omega)]
          rw [e0, if_pos (by simp; omega), if_neg (fun hh => by omega)]
    · rw [if_neg h1, if_neg (fun hh => h1 hh.2.1), spec_PutAway.J0_eq, if_pos rfl]
  · rw [if_neg h, if_neg (fun hh => h hh.1), spec_PutAway.J0_eq, if_pos rfl]

theorem l14Draw_l1 (b : List Int) : ∀ (n : Nat) (l : List S51) (i h : Int), CO b i → l.length ≤ 1000 → n ≤ 1000 → ∃ l' i' h', spec_l14Draw.L1 l (n : Int) b i h = some (l', i', h') ∧ CO b i' ∧ l'.length = l.length
  | 0, l, i, h, c, hl, hn => ⟨l, i, h, by rw [spec_l14Draw.L1_eq, if_neg (by omega)], c, rfl⟩
  | n + 1, l, i, h, c, hl, hn => by
    obtain ⟨r, i1, h1, e1, _, _, c1⟩ := below_pos b i h 20 c (by omega) (by omega)
    obtain ⟨x1, x2, x3, x4, i2, h2, e2, c2⟩ := l4Draw_is b i1 h1 (wrap64 (1 + r)) c1
    rw [spec_l14Draw.L1_eq, if_pos (by omega), e1, Option.bind_some]
    dsimp only
    rw [e2, Option.bind_some]
    dsimp only
    rw [spec_PutAway_is l _ _ _ _ _ (by omega), Option.bind_some, show wrap64 (((n + 1 : Nat) : Int) - 1) = (n : Int) by rw [wrap_in _ (by omega)]; omega]
    have hp := putAway_len l (wrap64 (1 + r)) x1 x2 x3 x4
    obtain ⟨l', i', h', e, c', hl'⟩ := l14Draw_l1 b n (putAway l (wrap64 (1 + r)) x1 x2 x3 x4).1 i2 h2 c2 (by omega) (by omega)
    exact ⟨l', i', h', e, c', by omega⟩
theorem l14Draw_l0 (b : List Int) : ∀ (d x : Nat) (l : List S51) (i h : Int), x + d = 10 → 1 ≤ x → l.length + 1 = x → CO b i → ∃ l' i' h', spec_l14Draw.L0 l (x : Int) b i h = some (l', i', h') ∧ CO b i' ∧ 2 ≤ l'.length ∧ l'.length ≤ 9
  | d, x, l, i, h, hd, hx, hl, c => by
    obtain ⟨r, i1, h1, e1, r0, r1, c1⟩ := below_pos b i h 7 c (by omega) (by omega)
    rw [spec_l14Draw.L0_eq, e1, Option.bind_some]
    dsimp only
    rw [wrap_in (2 + r) (by omega)]
    by_cases hc : (x : Int) ≤ 2 + r
    · obtain ⟨s, i2, h2, e2, _, _, c2⟩ := below_pos b i1 h1 6 c1 (by omega) (by omega)
      rw [if_pos hc, e2, Option.bind_some]
      dsimp only
      rw [if_pos (by omega), wrap_succ x (by omega)]
      cases d with
      | zero => omega
      | succ d => exact l14Draw_l0 b d (x + 1) _ i2 h2 (by omega) (by omega) (by rw [List.length_append, List.length_singleton]; omega) c2
    · obtain ⟨s, i2, h2, e2, s0, s1, c2⟩ := below_pos b i1 h1 5 c1 (by omega) (by omega)
      rw [if_neg hc, e2, Option.bind_some]
      dsimp only
      obtain ⟨n, rfl⟩ : ∃ n : Nat, s = n := ⟨s.toNat, by omega⟩
      obtain ⟨l', i', h', e, c', hl'⟩ := l14Draw_l1 b n l i2 h2 c2 (by omega) (by omega)
      exact ⟨l', i', h', e, c', by omega, by omega⟩
theorem l14Any_is (b : List Int) (i h : Int) (c : CO b i) : ∃ l i' h', spec_l14Any.F b i h = some (l, i', h') ∧ CO b i' ∧ 2 ≤ l.length ∧ l.length ≤ 9 := by
  obtain ⟨l, i1, h1, e1, c1, l2, l9⟩ := l14Draw_l0 b 9 1 [] i h (by omega) (by omega) rfl c
  obtain ⟨r, i2, h2, e2, r0, r1, c2⟩ := below_pos b i1 h1 (l.length : Int) c1 (by omega) (by omega)
  obtain ⟨s, i3, h3, e3, _, _, c3⟩ := below_pos b i2 h2 10 c2 (by omega) (by omega)
  have e1' : spec_l14Draw.L0 [] 1 b i h = some (l, i1, h1) := e1
  rw [spec_l14Any.F_eq, spec_l14Draw.F_eq, e1', Option.bind_some]
  dsimp only
  rw [e2, Option.bind_some]
  dsimp only
  rw [e3, Option.bind_some]
  dsimp only
  by_cases s0 : s = 0
  · obtain ⟨v, i4, h4, e4, _, c4⟩ := l1Int_is b i3 h3 [0, 1, 99, 100] c3 (by decide) (by decide)
    rw [if_pos s0, e4, Option.bind_some]
    dsimp only
    rw [if_pos r0, if_pos r1]
    exact ⟨_, i4, h4, rfl, c4, by rw [List.length_set]; exact l2, by rw [List.length_set]; exact l9⟩
  rw [if_neg s0]
  by_cases s1 : s = 1
  · obtain ⟨v, i4, h4, e4, _, c4⟩ := l4Raw_is b i3 h3 c3
    rw [if_pos s1, e4, Option.bind_some]
    dsimp only
    rw [if_pos r0, if_pos r1]
    exact ⟨_, i4, h4, rfl, c4, by rw [List.length_set]; exact l2, by rw [List.length_set]; exact l9⟩
  rw [if_neg s1]
  by_cases s2 : s = 2
  · obtain ⟨v, i4, h4, e4, _, c4⟩ := l1Int_is b i3 h3 [-1, 999, 1000] c3 (by decide) (by decide)
    rw [if_pos s2, e4, Option.bind_some]
    dsimp only
    rw [if_pos r0, if_pos r1]
    exact ⟨_, i4, h4, rfl, c4, by rw [List.length_set]; exact l2, by rw [List.length_set]; exact l9⟩
  rw [if_neg s2]
  by_cases s3 : s = 3
  · rw [if_pos s3, if_pos (by omega), if_pos r0, if_pos r1]
    exact ⟨_, i3, h3, rfl, c3, by rw [List.length_set]; exact l2, by rw [List.length_set]; exact l9⟩
  · rw [if_neg s3]
    exact ⟨l, i3, h3, rfl, c3, l2, l9⟩

theorem l1Once_is (b : List Int) (i h n : Int) (c : CO b i) (h0 : 0 < n) (hn : n ≤ 10000000) : ∃ r i' h', spec_l1Once.f b i h n = some (r, i', h') ∧ CO b i' := by
  obtain ⟨r, i', h', e, r0, r1, c'⟩ := below_pos b i h n c h0 hn
  unfold spec_l1Once.f
  rw [e, Option.bind_some]
  exact ⟨_, i', h', rfl, c'⟩

theorem l4List_j1 (b : List Int) (l : List S47) (v : Bool) (i h : Int) (c : CO b i) (h0 : v = true → 0 < l.length) (hl : l.length ≤ 7) : ∃ l' i' h', spec_l4List.J1 l v b i h = some (l', i', h') ∧ l'.length ≤ 7 := by
  rw [spec_l4List.J1_eq]
  by_cases hv : v = true
  · obtain ⟨r, i1, h1, e1, r0, r1, c1⟩ := below_pos b i h (l.length : Int) c (by have := h0 hv; omega) (by omega)
    obtain ⟨x0, x1, x2, x3, x4, i2, h2, e2, _⟩ := l4Any_is b i1 h1 c1
    rw [if_pos hv, e1, Option.bind_some]
    dsimp only
    rw [e2, Option.bind_some]
    dsimp only
    rw [if_pos r0, if_pos r1]
    exact ⟨_, _, _, rfl, by rw [List.length_set]; exact hl⟩
  · rw [if_neg hv]
    exact ⟨l, i, h, rfl, hl⟩
theorem l4List_l0 (b : List Int) : ∀ (d x : Nat) (l : List S47) (i h : Int), x + d = 7 → 1 ≤ x → l.length + 1 = x → CO b i → ∃ l' i' h', spec_l4List.L0 l (x : Int) b i h = some (l', i', h') ∧ l'.length ≤ 7
  | d, x, l, i, h, hd, hx, hl, c => by
    obtain ⟨r, i1, h1, e1, r0, r1, c1⟩ := below_pos b i h 7 c (by omega) (by omega)
    rw [spec_l4List.L0_eq, e1, Option.bind_some]
    dsimp only
    by_cases hc : (x : Int) ≤ r
    · obtain ⟨x1, x2, x3, x4, i2, h2, e2, c2⟩ := l4Draw_is b i1 h1 (wrap64 (2 * (x : Int))) c1
      rw [if_pos hc, e2, Option.bind_some]
      dsimp only
      rw [if_pos (by omega), wrap_succ x (by omega)]
      cases d with
      | zero => omega
      | succ d => exact l4List_l0 b d (x + 1) _ i2 h2 (by omega) (by omega) (by rw [List.length_append, List.length_singleton]; omega) c2
    · rw [if_neg hc]
      by_cases h0 : (l.length : Int) > 0
      · obtain ⟨s, i2, h2, e2, c2⟩ := l1Once_is b i1 h1 8 c1 (by omega) (by omega)
        rw [if_pos h0, e2, Option.bind_some]
        dsimp only
        exact l4List_j1 b l s i2 h2 c2 (fun _ => by omega) (by omega)
      · rw [if_neg h0]
        exact l4List_j1 b l false i1 h1 c1 (fun hh => by cases hh) (by omega)
theorem drawPutAll_is (b : List Int) (hb : b.length ≤ 1048576) : ∃ l t, spec_DrawPutAll.F b = some (l, t) ∧ l.length ≤ 9 ∧ t.length ≤ 7 := by
  obtain ⟨h0, e0, c0⟩ := l1New_is b hb
  obtain ⟨l, i1, h1, e1, c1, _, hl⟩ := l14Any_is b 0 h0 c0
  obtain ⟨t, i2, h2, e2, ht⟩ := l4List_l0 b 6 1 [] i1 h1 (by omega) (by omega) rfl c1
  have e2' : spec_l4List.L0 [] 1 b i1 h1 = some (t, i2, h2) := e2
  rw [spec_DrawPutAll.F_eq, e0, Option.bind_some]
  dsimp only
  rw [e1, Option.bind_some]
  dsimp only
  rw [spec_l4List.F_eq, e2', Option.bind_some]
  exact ⟨l, t, rfl, hl, ht⟩

theorem lt_sz (x y : S47) : Go.Proofs.ltOf szCmp x y = decide (y.f3 < x.f3) := by
  unfold Go.Proofs.ltOf szCmp
  by_cases h : y.f3 < x.f3
  · rw [if_pos h, decide_eq_true h]; rfl
  · rw [if_neg h, decide_eq_false h]
    by_cases h2 : y.f3 > x.f3
    · rw [if_pos h2]; rfl
    · rw [if_neg h2]; rfl
theorem posD_pre (l m : List S47) (x : Int) : ∀ k, k ≤ l.length → posD (l ++ m) x k = posD l x k
  | 0, _ => rfl
  | k + 1, h => by
    have hr : rd_T47 (l ++ m) (k : Int) = rd_T47 l (k : Int) := by
      simp only [rd_T47, Int.toNat_natCast, List.getD_eq_getElem?_getD]
      rw [List.getElem?_append_left (by omega)]
    rw [posD, posD, hr, posD_pre l m x k (by omega)]
theorem inner_is : ∀ (j : Nat) (ys : List S47) (x : S47) (zs : List S47), ys.length = j → Go.Sort.insInner (Go.Proofs.ltOf szCmp) 0 j (ys ++ x :: zs).toArray = (ys.take (posD ys x.f3 j) ++ x :: (ys.drop (posD ys x.f3 j) ++ zs)).toArray
  | 0, ys, x, zs, h => by
    have e := List.eq_nil_of_length_eq_zero h
    subst e
    rfl
  | j + 1, ys, x, zs, h => by
    obtain ⟨ys', y, rfl⟩ : ∃ ys' y, ys = ys' ++ [y] := by
      rcases List.eq_nil_or_concat ys with e | ⟨a, b, e⟩
      · rw [e] at h; cases h
      · exact ⟨a, b, by rw [e]; simp⟩
    have h' : ys'.length = j := by simpa using h
    subst h'
    have g1 : ((ys' ++ [y]) ++ x :: zs).toArray[ys'.length + 1]! = x := by simp
    have g0 : ((ys' ++ [y]) ++ x :: zs).toArray[ys'.length]! = y := by simp
    have hr : rd_T47 (ys' ++ [y]) (ys'.length : Int) = y := by simp [rd_T47]
    have ep : posD (ys' ++ [y]) x.f3 (ys'.length + 1) = if y.f3 < x.f3 then posD ys' x.f3 ys'.length else ys'.length + 1 := by
      rw [posD, hr, posD_pre _ _ _ ys'.length (Nat.le_refl _)]
    unfold Go.Sort.insInner
    rw [g1, g0]
    by_cases c : y.f3 < x.f3
    · have hs : Go.Sort.swp ((ys' ++ [y]) ++ x :: zs).toArray (ys'.length + 1) ys'.length = (ys' ++ x :: (y :: zs)).toArray := by
        unfold Go.Sort.swp
        rw [g0, g1, List.setIfInBounds_toArray, List.setIfInBounds_toArray]
        congr 1
        simp [List.set_append]
      have hle := posD_le ys' x.f3 ys'.length
      rw [if_pos (by simp [lt_sz, c]), ep, if_pos c, hs, inner_is ys'.length ys' x (y :: zs) rfl, List.take_append_of_le_length hle, List.drop_append_of_le_length hle]
      simp
    · rw [if_neg (by simp [lt_sz, c]), ep, if_neg c, List.take_of_length_le (by simp), List.drop_of_length_le (by simp)]
      simp
theorem outer_is (l : List S47) : ∀ (n i : Nat), i + n = l.length → Go.Sort.insOuter (Go.Proofs.ltOf szCmp) 0 l.length i ((l.take i).foldl insD [] ++ l.drop i).toArray = (l.foldl insD []).toArray
  | 0, i, h => by
    rw [Go.Sort.insOuter, if_neg (by omega), List.take_of_length_le (by omega), List.drop_of_length_le (by omega), List.append_nil]
  | n + 1, i, h => by
    have hi : i < l.length := by omega
    have hlen : ((l.take i).foldl insD []).length = i := by rw [foldD_len, List.length_take]; simp; omega
    rw [Go.Sort.insOuter, if_pos hi, List.drop_eq_getElem_cons hi, inner_is i _ _ _ hlen, ← outer_is l n (i + 1) (by omega), List.take_succ_eq_append_getElem hi, List.foldl_append, List.foldl_cons, List.foldl_nil]
    congr 2
    rw [insD, hlen]
    simp
theorem stabL_is (l : List S47) : stabL l = l.foldl insD [] := by
  unfold stabL Go.Sort.insertionSort
  cases l with
  | nil => rw [Go.Sort.insOuter, if_neg (by simp)]; rfl
  | cons x r =>
    have h := outer_is (x :: r) r.length 1 (by simp; omega)
    have e : (((x :: r).take 1).foldl insD [] ++ (x :: r).drop 1).toArray = (x :: r).toArray := by
      simp [insD, posD]
    rw [e] at h
    rw [Nat.zero_add, h]
theorem insD_perm (l : List S47) (x : S47) : (insD l x).Perm (x :: l) := by
  unfold insD
  have h := List.take_append_drop (posD l x.f3 l.length) l
  have h2 : (List.take (posD l x.f3 l.length) l ++ [x] ++ List.drop (posD l x.f3 l.length) l).Perm (x :: (List.take (posD l x.f3 l.length) l ++ List.drop (posD l x.f3 l.length) l)) := by
    rw [List.append_assoc]
    exact List.perm_middle
  rwa [h] at h2
theorem foldD_perm : ∀ (l acc : List S47), (l.foldl insD acc).Perm (l ++ acc)
  | [], acc => List.Perm.refl _
  | x :: r, acc => by
    rw [List.foldl_cons]
    refine (foldD_perm r (insD acc x)).trans ?_
    refine ((insD_perm acc x).append_left r).trans ?_
    exact List.perm_middle

theorem rdThing_at (l : List S47) (i : Nat) : rd_T47 l (i : Int) = l.getD i z47 := by simp [rd_T47]
theorem dropThing (l : List S47) (i : Nat) (h : i < l.length) : l.drop i = rd_T47 l (i : Int) :: l.drop (i + 1) := by
  rw [rdThing_at, getD_get l i _ h]
  exact List.drop_eq_getElem_cons h

def isThingW (x : S47) : Bool := inR x.f0 1 999 && inR x.f1 1 8 && inR x.f2 0 7 && inR x.f3 1 50 && inR x.f4 0 10000000
def okThing (l : List S47) (i : Nat) : Prop := isThingW (rd_T47 l i) = true ∧ ((i : Int) > 0 → (rd_T47 l ((i : Int) - 1)).f0 < (rd_T47 l i).f0)
noncomputable def areThings (l : List S47) : Bool := allF (okThing l) l.length 0 && decide ((l.length : Int) ≤ 20)

def Asc (l : List Int) : Prop := l.Pairwise (fun x y => x < y)
theorem asc_ext : ∀ (a b : List Int), Asc a → Asc b → (∀ x, x ∈ a ↔ x ∈ b) → a = b
  | [], [], _, _, _ => rfl
  | [], y :: b, _, _, h => by have := (h y).2 (List.mem_cons_self ..); cases this
  | x :: a, [], _, _, h => by have := (h x).1 (List.mem_cons_self ..); cases this
  | x :: a, y :: b, ha, hb, h => by
    have ha' := List.pairwise_cons.1 ha
    have hb' := List.pairwise_cons.1 hb
    have e : x = y := by
      rcases List.mem_cons.1 ((h x).1 (List.mem_cons_self ..)) with h1 | h1
      · exact h1
      · rcases List.mem_cons.1 ((h y).2 (List.mem_cons_self ..)) with h2 | h2
        · exact h2.symm
        · have := hb'.1 x h1
          have := ha'.1 y h2
          omega
    subst e
    congr 1
    refine asc_ext a b ha'.2 hb'.2 (fun z => ⟨fun hz => ?_, fun hz => ?_⟩)
    · rcases List.mem_cons.1 ((h z).1 (List.mem_cons_of_mem _ hz)) with h1 | h1
      · have := ha'.1 z hz; omega
      · exact h1
    · rcases List.mem_cons.1 ((h z).2 (List.mem_cons_of_mem _ hz)) with h1 | h1
      · have := hb'.1 z hz; omega
      · exact h1
def putA : List Int → Int → List Int
  | [], n => [n]
  | x :: r, n => if x < n then x :: putA r n else if x = n then x :: r else n :: x :: r
theorem putA_mem (n z : Int) : ∀ l : List Int, z ∈ putA l n ↔ z = n ∨ z ∈ l
  | [] => by simp [putA]
  | x :: r => by
    simp only [putA]
    by_cases h1 : x < n
    · rw [if_pos h1, List.mem_cons, putA_mem n z r, List.mem_cons]
      exact ⟨fun h => by rcases h with h | h | h <;> simp [h], fun h => by rcases h with h | h | h <;> simp [h]⟩
    · rw [if_neg h1]
      by_cases h2 : x = n
      · rw [if_pos h2, List.mem_cons]
        refine ⟨fun h => .inr h, fun h => ?_⟩
        rcases h with h | h
        · exact .inl (by omega)
        · exact h
      · rw [if_neg h2, List.mem_cons]
theorem putA_asc (n : Int) : ∀ l : List Int, Asc l → Asc (putA l n)
  | [], _ => List.pairwise_singleton _ _
  | x :: r, h => by
    have h' := List.pairwise_cons.1 h
    simp only [putA]
    by_cases h1 : x < n
    · rw [if_pos h1]
      refine List.pairwise_cons.2 ⟨fun z hz => ?_, putA_asc n r h'.2⟩
      rcases (putA_mem n z r).1 hz with e | e
      · omega
      · exact h'.1 z e
    · rw [if_neg h1]
      by_cases h2 : x = n
      · rw [if_pos h2]; exact h
      · rw [if_neg h2]
        refine List.pairwise_cons.2 ⟨fun z hz => ?_, h⟩
        rcases List.mem_cons.1 hz with e | e
        · omega
        · have := h'.1 z e; omega
theorem putA_len (n : Int) : ∀ l : List Int, (putA l n).length ≤ l.length + 1
  | [] => by simp [putA]
  | x :: r => by
    simp only [putA]
    by_cases h1 : x < n
    · rw [if_pos h1, List.length_cons, List.length_cons]
      have := putA_len n r
      omega
    · rw [if_neg h1]
      split <;> simp

theorem sortedA_mem (l : List Int) (z : Int) : z ∈ Srt.sorted l ↔ z ∈ l := (List.mergeSort_perm l _).mem_iff
theorem sortedA_pw (l : List Int) : (Srt.sorted l).Pairwise (fun x y => x ≤ y) := by
  have h := List.pairwise_mergeSort (le := fun x y : Int => decide (x ≤ y)) (fun a b c h1 h2 => by simp only [decide_eq_true_eq] at *; omega) (fun a b => by simp only [Bool.or_eq_true, decide_eq_true_eq]; omega) l
  exact h.imp (fun h => by simpa using h)
theorem get_le {l : List Int} (h : l.Pairwise (fun x y => x ≤ y)) {i j : Nat} (hij : i ≤ j) (hj : j < l.length) : l.toArray[i]! ≤ l.toArray[j]! := by
  rcases Nat.lt_or_eq_of_le hij with hlt | rfl
  · have := List.pairwise_iff_getElem.1 h i j (by omega) hj hlt
    simpa [show i < l.length by omega, hj] using this
  · exact Int.le_refl _
theorem compact_asc {l : List Int} (h : l.Pairwise (fun x y => x ≤ y)) : Asc (Go.Lib.compact l) := by
  unfold Asc Go.Lib.compact Go.Lib.compactUpTo
  rw [List.pairwise_map]
  refine List.Pairwise.imp_of_mem ?_ (List.Pairwise.filter _ List.pairwise_lt_range)
  intro i j hi hj hij
  rw [List.mem_filter, List.mem_range] at hi hj
  have hk := hj.2
  unfold Go.Lib.keeps at hk
  rw [decide_eq_true_iff] at hk
  have hne := hk.resolve_left (by omega)
  have h1 := get_le h (show i ≤ j - 1 by omega) (by omega)
  have h2 := get_le h (show j - 1 ≤ j by omega) hj.1
  omega
theorem compact_mem (l : List Int) (z : Int) : z ∈ Go.Lib.compact l ↔ z ∈ l := by
  unfold Go.Lib.compact Go.Lib.compactUpTo
  rw [List.mem_map]
  constructor
  · rintro ⟨j, hj, rfl⟩
    rw [List.mem_filter, List.mem_range] at hj
    simp [hj.1]
  · intro hz
    obtain ⟨i, hi, rfl⟩ := List.getElem_of_mem hz
    have key : ∀ (n i : Nat), i ≤ n → (hi : i < l.length) → ∃ j, j ∈ (List.range l.length).filter (Go.Lib.keeps l.toArray) ∧ l.toArray[j]! = l[i] := by
      intro n
      induction n with
      | zero =>
        intro i hin hi
        have e : i = 0 := by omega
        subst e
        exact ⟨0, by rw [List.mem_filter, List.mem_range]; exact ⟨hi, by simp [Go.Lib.keeps]⟩, by simp [hi]⟩
      | succ n ih =>
        intro i hin hi
        by_cases hk : Go.Lib.keeps l.toArray i = true
        · exact ⟨i, by rw [List.mem_filter, List.mem_range]; exact ⟨hi, hk⟩, by simp [hi]⟩
        · unfold Go.Lib.keeps at hk
          rw [decide_eq_true_iff, not_or] at hk
          have h2 : l.toArray[i]! = l.toArray[i - 1]! := Classical.byContradiction (fun hh => hk.2 hh)
          obtain ⟨j, hj, e⟩ := ih (i - 1) (by omega) (by omega)
          refine ⟨j, hj, e.trans ?_⟩
          simpa [hi, show i - 1 < l.length by omega] using h2.symm
    exact key i i (Nat.le_refl _) hi
theorem united_is {a b : List Int} (hb : Asc b) (h : ∀ z, z ∈ a ↔ z ∈ b) : Go.Lib.compact (Srt.sorted a) = b :=
  asc_ext _ _ (compact_asc (sortedA_pw a)) hb (fun z => by rw [compact_mem, sortedA_mem]; exact h z)

noncomputable def putF : List S47 → List S51 → List S51 × List Int
  | [], out => (out, [])
  | x :: r, out => ((putF r (putAway out x.f0 x.f1 x.f2 x.f3 x.f4).1).1, if (putAway out x.f0 x.f1 x.f2 x.f3 x.f4).2 = true then (putF r (putAway out x.f0 x.f1 x.f2 x.f3 x.f4).1).2 else x.f0 :: (putF r (putAway out x.f0 x.f1 x.f2 x.f3 x.f4).1).2)
theorem putF_len : ∀ (l : List S47) (out : List S51), (putF l out).1.length = out.length ∧ (putF l out).2.length ≤ l.length
  | [], out => ⟨rfl, Nat.le_refl _⟩
  | x :: r, out => by
    have h := putF_len r (putAway out x.f0 x.f1 x.f2 x.f3 x.f4).1
    rw [putAway_len] at h
    rw [putF]
    refine ⟨h.1, ?_⟩
    dsimp only
    split
    · rw [List.length_cons]; omega
    · rw [List.length_cons, List.length_cons]; omega
theorem putF_sub : ∀ (l : List S47) (out : List S51), (putF l out).2.Sublist (l.map (fun x => x.f0))
  | [], out => List.Sublist.refl _
  | x :: r, out => by
    have h := putF_sub r (putAway out x.f0 x.f1 x.f2 x.f3 x.f4).1
    rw [putF, List.map_cons]
    dsimp only
    split
    · exact h.cons _
    · exact h.cons_cons _
theorem foldP_mem (z : Int) : ∀ (b a : List Int), z ∈ b.foldl putA a ↔ z ∈ a ∨ z ∈ b
  | [], a => by simp
  | y :: b, a => by
    rw [List.foldl_cons, foldP_mem z b (putA a y), putA_mem, List.mem_cons]
    exact ⟨fun h => by rcases h with (h | h) | h <;> simp [h], fun h => by rcases h with h | h | h <;> simp [h]⟩
theorem foldP_asc : ∀ (b a : List Int), Asc a → Asc (b.foldl putA a)
  | [], a, h => h
  | y :: b, a, h => foldP_asc b (putA a y) (putA_asc y a h)
theorem foldP_len : ∀ (b a : List Int), (b.foldl putA a).length ≤ a.length + b.length
  | [], a => Nat.le_refl _
  | y :: b, a => by
    have h := foldP_len b (putA a y)
    have h2 := putA_len y a
    rw [List.foldl_cons, List.length_cons]
    omega
theorem sorted_fold (l : List Int) (h : l.Nodup) : Srt.sorted l = l.foldl putA [] := by
  refine asc_ext _ _ ?_ (foldP_asc l [] List.Pairwise.nil) (fun z => by rw [sortedA_mem, foldP_mem]; simp)
  have h1 := sortedA_pw l
  have h2 : (Srt.sorted l).Nodup := (List.mergeSort_perm l _).nodup_iff.2 h
  exact (h1.and h2).imp (fun h => by have := h.1; have := h.2; omega)
theorem things_lt {l : List S47} (h : areThings l = true) : ∀ (d i j : Nat), i + d + 1 = j → j < l.length → (rd_T47 l (i : Int)).f0 < (rd_T47 l (j : Int)).f0 := by
  unfold areThings at h
  rw [Bool.and_eq_true, allF_all] at h
  intro d
  induction d with
  | zero =>
    intro i j e hj
    have h1 := (h.1 j hj).2 (by omega)
    rw [show (j : Int) - 1 = (i : Int) by omega] at h1
    exact h1
  | succ d ih =>
    intro i j e hj
    have h0 := ih i (j - 1) (by omega) (by omega)
    have h1 := (h.1 j hj).2 (by omega)
    rw [show (j : Int) - 1 = ((j - 1 : Nat) : Int) by omega] at h1
    omega
theorem things_nodup {l : List S47} (h : areThings l = true) : (l.map (fun x => x.f0)).Nodup := by
  rw [List.nodup_iff_pairwise_ne, List.pairwise_map, List.pairwise_iff_getElem]
  intro i j hi hj hij
  have := things_lt h (j - i - 1) i j (by omega) hj
  rw [rdThing_at, rdThing_at, getD_get l i _ hi, getD_get l j _ hj] at this
  omega
theorem things_len {l : List S47} (h : areThings l = true) : l.length ≤ 20 := by
  unfold areThings at h
  rw [Bool.and_eq_true, decide_eq_true_iff] at h
  omega

theorem spec_AreThings_l0 (l : List S47) (hn : l.length ≤ 1048576) : ∀ (d i : Nat), i + d = l.length → spec_AreThings.L0 l (i : Int) = some (allF (okThing l) l.length i && decide ((l.length : Int) ≤ 20))
  | 0, i, h => by rw [spec_AreThings.L0_eq, if_neg (by omega), allF_end (by omega)]; rfl
  | d + 1, i, h => by
    have hi : i < l.length := by omega
    have ih := spec_AreThings_l0 l hn d (i + 1) (by omega)
    have ht : spec_IsThing.f (rd_T47 l (i : Int)).f0 (rd_T47 l (i : Int)).f1 (rd_T47 l (i : Int)).f2 (rd_T47 l (i : Int)).f3 (rd_T47 l (i : Int)).f4 = some (isThingW (rd_T47 l (i : Int))) := spec_IsThing_is ..
    rw [spec_AreThings.L0_eq, if_pos (by omega), if_pos (by omega), ht, Option.bind_some, wrap_pred i (by omega), wrap_succ i (by omega), ih]
    by_cases c1 : isThingW (rd_T47 l (i : Int)) = true
    · rw [if_pos c1]
      by_cases c0 : (i : Int) > 0
      · rw [if_pos c0, if_pos (by omega), if_pos (by omega)]
        by_cases c2 : (rd_T47 l ((i : Int) - 1)).f0 ≥ (rd_T47 l (i : Int)).f0
        · rw [if_pos c2, allF_no hi (fun h => absurd (h.2 c0) (by omega))]; rfl
        · have hp : okThing l i := ⟨c1, fun _ => by omega⟩
          rw [if_neg c2, allF_yes hp]
      · have hp : okThing l i := ⟨c1, fun hh => absurd hh c0⟩
        rw [if_neg c0, allF_yes hp]
    · rw [if_neg c1, allF_no hi (fun h => c1 h.1)]; rfl
theorem spec_AreThings_is (l : List S47) (hn : l.length ≤ 1048576) : spec_AreThings.F l = some (areThings l) := by
  rw [spec_AreThings.F_eq, areThings]
  exact spec_AreThings_l0 l hn l.length 0 (by omega)

theorem failed_nodup {l : List S47} (h : areThings l = true) (out : List S51) : (putF (stabL l) out).2.Nodup := by
  refine (putF_sub (stabL l) out).nodup ?_
  have hp : (stabL l).Perm l := by
    have := foldD_perm l []
    rw [List.append_nil] at this
    rw [stabL_is]
    exact this
  exact ((hp.map (fun x => x.f0)).nodup_iff).2 (things_nodup h)
theorem stabL_len (l : List S47) : (stabL l).length = l.length := by
  rw [stabL_is, foldD_len]
  simp
open Classical in
noncomputable def allPut (l : List S51) (t : List S47) : List S51 × List Int := if areSlots l = true ∧ areThings t = true then ((putF (stabL t) l).1, (putF (stabL t) l).2.foldl putA []) else (l, [])
theorem allPut_len (l : List S51) (t : List S47) : (allPut l t).1.length = l.length ∧ (allPut l t).2.length ≤ t.length := by
  unfold allPut
  split
  · have h := putF_len (stabL t) l
    have h2 := foldP_len (putF (stabL t) l).2 []
    rw [stabL_len] at h
    simp only [List.length_nil, Nat.zero_add] at h2
    exact ⟨h.1, Nat.le_trans h2 h.2⟩
  · exact ⟨rfl, Nat.zero_le _⟩

theorem cloneSlot_is (l : List S51) (hn : l.length ≤ 4194304) : impl_Slot_68.f l = some l := by
  unfold impl_Slot_68.f
  rw [Option.bind_some, if_pos (by simp only [List.length_nil]; omega)]
  rfl

theorem impl_slotWith_is (l : List S51) (t : Int) : impl_slotWith.f l t = some (slotAt l t) := rfl

theorem impl_SlotOf_is (l : List S51) (t : Int) (hn : l.length ≤ 1048576) : impl_SlotOf.f l t = some (slotOf l t) := by
  unfold impl_SlotOf.f
  rw [impl_slotWith_is, Option.bind_some, ← slotOf_slotAt]
  rcases slotAt_cases l t with ⟨h, h1⟩ | ⟨h0, j, h1, h2, h3, h4⟩
  · rw [h, if_pos (by omega), if_pos (by omega)]
  · rw [h2, if_neg (by omega), if_pos (by omega), if_pos (by omega), if_neg (by omega)]

theorem inRange (a b c : Int) : impl_InRange.f a b c = some (inR a b c) := by
  unfold impl_InRange.f inR
  by_cases h : b ≤ a <;> simp [h]

theorem impl_AreSlots_l0 (l : List S51) (hn : l.length ≤ 1048576) : ∀ (d i : Nat), i + d = l.length → (∀ j, j < i → okSlot l j) → impl_AreSlots.L0 l l (l.length : Int) (i : Int) = some (allF (okSlot l) l.length i)
  | 0, i, h, hpre => by rw [impl_AreSlots.L0_eq, if_neg (by omega), allF_end (by omega)]
  | d + 1, i, h, hpre => by
    have hi : i < l.length := by omega
    have hf := fresh_iff l i (by omega) hpre
    have htl : (l.take i).length ≤ 1048576 := by rw [List.length_take]; omega
    rw [impl_AreSlots.L0_eq]
    simp only [wrap_succ i (by omega), wrap_pred i (by omega), inRange, Int.toNat_natCast, impl_SlotOf_is _ _ htl, Option.bind_some, hf]
    have ih : okSlot l i → impl_AreSlots.L0 l l (l.length : Int) ((i + 1 : Nat) : Int) = some (allF (okSlot l) l.length (i + 1)) := fun hp_ => impl_AreSlots_l0 l hn d (i + 1) (by omega) (fun j hj => by
        by_cases e : j = i
        · rw [e]; exact hp_
        · exact hpre j (by omega))
    have e1 : (i : Int) < (l.length : Int) := by omega
    have e2 : (0 : Int) ≤ (i : Int) := by omega
    have e3 : (i : Int) ≤ (l.length : Int) := by omega
    by_cases c0 : (i : Int) > 0
    · have e4 : (0 : Int) ≤ (i : Int) - 1 := by omega
      have e5 : (i : Int) - 1 < (l.length : Int) := by omega
      simp only [if_pos e1, if_pos e2, if_pos e3, if_pos c0, if_pos e4, if_pos e5]
      by_cases c1 : inR (rd_T51 l (i : Int)).f0 1 99 = true
      · rw [if_pos c1]
        by_cases c2 : (rd_T51 l (i : Int)).f0 ≤ (rd_T51 l ((i : Int) - 1)).f0
        · rw [if_pos c2, allF_no hi (fun h => absurd (h.2.1 c0) (by omega))]
          first | done | rfl | simp
        · rw [if_neg c2]
          by_cases c3 : inR (rd_T51 l (i : Int)).f1 1 50 = true
          · rw [if_pos c3]
            by_cases c4 : inR (rd_T51 l (i : Int)).f2 0 999 = true
            · rw [if_pos c4]
              by_cases c5 : freshB l i = true
              · rw [if_pos c5]
                have hp_ : okSlot l i := ⟨c1, fun _ => by omega, c3, c4, c5⟩
                rw [ih hp_, allF_yes hp_]
              · rw [if_neg c5, allF_no hi (fun h => c5 h.2.2.2.2)]
                first | done | rfl | simp
            · rw [if_neg c4, allF_no hi (fun h => c4 h.2.2.2.1)]
              first | done | rfl | simp
          · rw [if_neg c3, allF_no hi (fun h => c3 h.2.2.1)]
            first | done | rfl | simp
      · rw [if_neg c1, allF_no hi (fun h => c1 h.1)]
        first | done | rfl | simp
    · simp only [if_pos e1, if_pos e2, if_pos e3, if_neg c0]
      by_cases c1 : inR (rd_T51 l (i : Int)).f0 1 99 = true
      · rw [if_pos c1]
        by_cases c2 : inR (rd_T51 l (i : Int)).f1 1 50 = true
        · rw [if_pos c2]
          by_cases c3 : inR (rd_T51 l (i : Int)).f2 0 999 = true
          · rw [if_pos c3]
            by_cases c4 : freshB l i = true
            · rw [if_pos c4]
              have hp_ : okSlot l i := ⟨c1, fun hh => absurd hh c0, c2, c3, c4⟩
              rw [ih hp_, allF_yes hp_]
            · rw [if_neg c4, allF_no hi (fun h => c4 h.2.2.2.2)]
              first | done | rfl | simp
          · rw [if_neg c3, allF_no hi (fun h => c3 h.2.2.2.1)]
            first | done | rfl | simp
        · rw [if_neg c2, allF_no hi (fun h => c2 h.2.2.1)]
          first | done | rfl | simp
      · rw [if_neg c1, allF_no hi (fun h => c1 h.1)]
        first | done | rfl | simp
theorem impl_AreSlots_is (l : List S51) (hn : l.length ≤ 1048576) : impl_AreSlots.F l = some (areSlots l) := by
  rw [impl_AreSlots.F_eq, areSlots]
  by_cases h : (l.length : Int) > 30
  · rw [if_pos h, decide_eq_false (by omega), Bool.and_false]
  · rw [if_neg h, decide_eq_true (by omega), Bool.and_true]
    exact impl_AreSlots_l0 l hn l.length 0 (by omega) (fun j hj => absurd hj (by omega))

theorem impl_freeFor_l0 (l : List S51) (size : Int) (hn : l.length ≤ 1048576) : ∀ (d i : Nat) (b : Int), i + d = l.length → b < i → -1 ≤ b → impl_freeFor.L0 l size b l (l.length : Int) (i : Int) = some (bestSlot l size d i b)
  | 0, i, b, h, h1, h2 => by rw [impl_freeFor.L0_eq, if_neg (by omega)]; rfl
  | d + 1, i, b, h, h1, h2 => by
    have hi : i < l.length := by omega
    rw [impl_freeFor.L0_eq, if_pos (by omega), if_pos (by omega), if_pos (by omega)]
    simp only [wrap_succ i (by omega), bestSlot]
    by_cases c1 : (rd_T51 l (i : Int)).f2 = 0
    · by_cases c2 : (rd_T51 l (i : Int)).f1 ≥ size
      · by_cases c3 : b < 0
        · rw [if_pos c1, if_pos c2, if_pos c3, if_pos ⟨c1, c2, .inl c3⟩]
          exact impl_freeFor_l0 l size hn d (i + 1) _ (by omega) (by omega) (by omega)
        · by_cases c4 : (rd_T51 l (i : Int)).f1 < (rd_T51 l b).f1
          · rw [if_pos c1, if_pos c2, if_neg c3, if_pos (by omega), if_pos (by omega), if_pos c4, if_pos ⟨c1, c2, .inr c4⟩]
            exact impl_freeFor_l0 l size hn d (i + 1) _ (by omega) (by omega) (by omega)
          · rw [if_pos c1, if_pos c2, if_neg c3, if_pos (by omega), if_pos (by omega), if_neg c4, if_neg (fun h => h.2.2.elim c3 c4)]
            exact impl_freeFor_l0 l size hn d (i + 1) _ (by omega) (by omega) (by omega)
      · rw [if_pos c1, if_neg c2, if_neg (fun h => c2 h.2.1)]
        exact impl_freeFor_l0 l size hn d (i + 1) _ (by omega) (by omega) (by omega)
    · rw [if_neg c1, if_neg (fun h => c1 h.1)]
      exact impl_freeFor_l0 l size hn d (i + 1) _ (by omega) (by omega) (by omega)
theorem impl_freeFor_is (l : List S51) (size : Int) (hn : l.length ≤ 1048576) : impl_freeFor.F l size = some (bestSlot l size l.length 0 (-1)) := by
  rw [impl_freeFor.F_eq]
  exact impl_freeFor_l0 l size hn l.length 0 (-1) (by omega) (by omega) (by omega)

theorem impl_IsThing_is (a b c d e : Int) : impl_IsThing.f a b c d e = some (inR a 1 999 && inR b 1 8 && inR c 0 7 && inR d 1 50 && inR e 0 10000000) := by
  unfold impl_IsThing.f
  simp only [inRange, Option.bind_some]
  cases inR a 1 999 <;> cases inR b 1 8 <;> cases inR c 0 7 <;> cases inR d 1 50 <;> simp

theorem impl_PutAway_is (l : List S51) (a b c d e : Int) (hn : l.length ≤ 1048576) : impl_PutAway.F l a b c d e = some (putAway l a b c d e) := by
  have hb := bestSlot_bd l d l.length 0 (-1) (by omega) (by omega) (by omega)
  rw [impl_PutAway.F_eq, cloneSlot_is l (by omega), Option.bind_some, impl_freeFor_is l d hn, Option.bind_some, impl_AreSlots_is l hn, Option.bind_some, putAway]
  have ht : impl_IsThing.f a b c d e = some (isThing a b c d e) := impl_IsThing_is ..
  rw [ht]
  simp only [Option.bind_some, impl_slotWith_is]
  by_cases h : areSlots l = true
  · rw [if_pos h]
    by_cases h1 : isThing a b c d e = true
    · rw [if_pos h1]
      by_cases h2 : bestSlot l d l.length 0 (-1) < 0
      · rw [if_pos h2, if_neg (fun hh => by omega)]
      · rw [if_neg h2]
        by_cases h3 : slotAt l a ≥ 0
        · rw [if_pos h3, if_neg (fun hh => by omega)]
        · rw [if_neg h3, if_pos (by omega), if_pos (by omega), if_pos ⟨h, h1, by omega, by omega⟩]
          unfold putIn
          rw [Int.toNat_of_nonneg (by omega)]
    · rw [if_neg h1, if_neg (fun hh => h1 hh.2.1)]
  · rw [if_neg h, if_neg (fun hh => h hh.1)]

theorem impl_AreThings_l0 (l : List S47) (hn : l.length ≤ 1048576) : ∀ (d i : Nat), i + d = l.length → impl_AreThings.L0 l l (l.length : Int) (i : Int) = some (allF (okThing l) l.length i)
  | 0, i, h => by rw [impl_AreThings.L0_eq, if_neg (by omega), allF_end (by omega)]
  | d + 1, i, h => by
    have hi : i < l.length := by omega
    have ih := impl_AreThings_l0 l hn d (i + 1) (by omega)
    have ht : impl_IsThing.f (rd_T47 l (i : Int)).f0 (rd_T47 l (i : Int)).f1 (rd_T47 l (i : Int)).f2 (rd_T47 l (i : Int)).f3 (rd_T47 l (i : Int)).f4 = some (isThingW (rd_T47 l (i : Int))) := impl_IsThing_is ..
    rw [impl_AreThings.L0_eq, if_pos (by omega), if_pos (by omega), if_pos (by omega), ht, Option.bind_some, wrap_pred i (by omega), wrap_succ i (by omega), ih]
    by_cases c1 : isThingW (rd_T47 l (i : Int)) = true
    · rw [if_pos c1]
      by_cases c0 : (i : Int) > 0
      · rw [if_pos c0, if_pos (by omega), if_pos (by omega)]
        by_cases c2 : (rd_T47 l (i : Int)).f0 ≤ (rd_T47 l ((i : Int) - 1)).f0
        · rw [if_pos c2, allF_no hi (fun h => absurd (h.2 c0) (by omega))]
        · have hp : okThing l i := ⟨c1, fun _ => by omega⟩
          rw [if_neg c2, allF_yes hp]
      · have hp : okThing l i := ⟨c1, fun hh => absurd hh c0⟩
        rw [if_neg c0, allF_yes hp]
    · rw [if_neg c1, allF_no hi (fun h => c1 h.1)]
theorem impl_AreThings_is (l : List S47) (hn : l.length ≤ 1048576) : impl_AreThings.F l = some (areThings l) := by
  rw [impl_AreThings.F_eq, areThings]
  by_cases h : (l.length : Int) > 20
  · rw [if_pos h, decide_eq_false (by omega), Bool.and_false]
  · rw [if_neg h, decide_eq_true (by omega), Bool.and_true]
    exact impl_AreThings_l0 l hn l.length 0 (by omega)

theorem cloneThing_is (l : List S47) (hn : l.length ≤ 4194304) : impl_Thing_69.f l = some l := by
  unfold impl_Thing_69.f
  rw [Option.bind_some, if_pos (by simp only [List.length_nil]; omega)]
  rfl

theorem impl_PutAll_l0 (x : List S47) (hx : x.length ≤ 1000) : ∀ (d i : Nat) (out : List S51) (fl : List Int), i + d = x.length → out.length ≤ 1048576 → fl.length ≤ i →
    impl_PutAll.L0 out fl x (x.length : Int) (i : Int) = some ((putF (x.drop i) out).1, Srt.sorted (fl ++ (putF (x.drop i) out).2))
  | 0, i, out, fl, h, ho, hf => by
    rw [impl_PutAll.L0_eq, if_neg (by omega), slices_Sort_int_int.f, if_pos (by omega), Option.bind_some, List.drop_of_length_le (by omega), putF, List.append_nil]
  | d + 1, i, out, fl, h, ho, hf => by
    rw [impl_PutAll.L0_eq, if_pos (by omega), if_pos (by omega), if_pos (by omega), impl_PutAway_is out _ _ _ _ _ ho, Option.bind_some, dropThing x i (by omega), putF, wrap_succ i (by omega)]
    generalize hA : putAway out (rd_T47 x (i : Int)).f0 (rd_T47 x (i : Int)).f1 (rd_T47 x (i : Int)).f2 (rd_T47 x (i : Int)).f3 (rd_T47 x (i : Int)).f4 = A
    have hAl : A.1.length ≤ 1048576 := by rw [← hA, putAway_len]; exact ho
    by_cases c : A.2 = true
    · rw [if_pos c, impl_PutAll_l0 x hx d (i + 1) A.1 fl (by omega) hAl (by omega), if_pos c]
    · rw [if_neg c, if_pos (by omega), impl_PutAll_l0 x hx d (i + 1) A.1 _ (by omega) hAl (by rw [List.length_append, List.length_singleton]; omega), if_neg c, List.append_assoc]
      rfl
theorem impl_PutAll_is (l : List S51) (t : List S47) (hln : l.length ≤ 1048576) (htn : t.length ≤ 1048576) : impl_PutAll.F l t = some (allPut l t) := by
  rw [impl_PutAll.F_eq, cloneSlot_is l (by omega), Option.bind_some, Option.bind_some, impl_AreSlots_is l hln, Option.bind_some]
  unfold allPut
  by_cases hl : areSlots l = true
  · rw [if_pos hl, impl_AreThings_is t htn, Option.bind_some, impl_PutAll.J0_eq]
    by_cases ht : areThings t = true
    · have h20 := things_len ht
      have hsl := stabL_len t
      have hs : impl_Thing_70.f t 777777 = some (stabL t) := by
        unfold impl_Thing_70.f
        rw [if_pos h20]
      have h := impl_PutAll_l0 (stabL t) (by omega) (stabL t).length 0 l [] (by omega) hln (Nat.zero_le _)
      rw [ht, if_neg (by decide), cloneThing_is t (by omega), Option.bind_some, hs, Option.bind_some, if_pos ⟨hl, rfl⟩]
      rw [hsl] at h
      refine Eq.trans h ?_
      rw [List.nil_append, List.drop_zero, sorted_fold _ (failed_nodup ht l)]
    · rw [if_pos (by rw [Bool.eq_false_iff.2 ht]; rfl), if_neg (fun hh => ht hh.2)]
  · rw [if_neg hl, impl_PutAll.J0_eq, if_pos rfl, if_neg (fun hh => hl hh.1)]

theorem spec_l9Put_l0 (l : List Int) (n : Int) (hl : l.length ≤ 2000000) : ∀ (d i : Nat), i + d = l.length → spec_l9Put.L0 l n (i : Int) = some (l.take i ++ putA (l.drop i) n)
  | 0, i, h => by
    have ht := List.length_take (i := i) (l := l)
    have hd := List.length_drop (i := i) (l := l)
    rw [spec_l9Put.L0_eq, if_neg (by omega), Option.bind_some, if_pos (by omega), if_pos (by omega), Int.toNat_natCast, List.nil_append, if_pos (by simp; omega), Option.bind_some, Option.bind_some, if_pos (by simp; omega), Option.bind_some, if_pos (by simp; omega), List.drop_of_length_le (by omega)]
    simp [putA]
  | d + 1, i, h => by
    rw [spec_l9Put.L0_eq, if_pos (by omega), if_pos (by omega), wrap_succ i (by omega), spec_l9Put_l0 l n hl d (i + 1) (by omega)]
    have e := dropInt l i (by omega)
    have e2 : l.take (i + 1) = l.take i ++ [rd l (i : Int)] := by
      rw [List.take_succ_eq_append_getElem (by omega)]
      congr 2
      simp [rd, show i < l.length by omega]
    by_cases h1 : rd l (i : Int) < n
    · rw [if_pos h1, e, putA, if_pos h1, e2]
      simp
    · rw [if_neg h1]
      by_cases h2 : rd l (i : Int) = n
      · rw [if_pos h2, Option.bind_some, if_pos (by simp; omega), e, putA, if_neg h1, if_pos h2, ← e, List.take_append_drop, List.nil_append]
      · rw [if_neg h2, Option.bind_some, if_pos (by omega), Int.toNat_natCast, List.nil_append, if_pos (by simp; omega), Option.bind_some, Option.bind_some, if_pos (by simp; omega), Option.bind_some, if_pos (by simp; omega), e, putA, if_neg h1, if_neg h2]
        simp
theorem spec_l9Put_is (l : List Int) (n : Int) (hl : l.length ≤ 2000000) : spec_l9Put.F l n = some (putA l n) := by
  have := spec_l9Put_l0 l n hl l.length 0 (by omega)
  rw [spec_l9Put.F_eq]
  simpa using this

theorem spec_PutAll_l0 (l : List S51) (t : List S47) (hl : areSlots l = true) (ht : areThings t = true) (hln : l.length ≤ 1048576) (htn : t.length ≤ 1048576) (x : List S47) (hx : x.length ≤ 1000) : ∀ (d i : Nat) (out : List S51) (left : List Int), i + d = x.length → out.length ≤ 1048576 → left.length ≤ i →
    spec_PutAll.L0 l t out left x (i : Int) = some ((putF (x.drop i) out).1, (putF (x.drop i) out).2.foldl putA left)
  | 0, i, out, left, h, ho, hle => by
    rw [spec_PutAll.L0_eq, if_neg (by omega), spec_PutAll.J1_eq, if_neg (by decide), List.drop_of_length_le (by omega)]
    rfl
  | d + 1, i, out, left, h, ho, hle => by
    have hp := putA_len (rd_T47 x (i : Int)).f0 left
    rw [spec_PutAll.L0_eq, if_pos (by omega), spec_AreSlots_is l hln, Option.bind_some, if_pos hl, spec_AreThings_is t htn, Option.bind_some, ht, spec_PutAll.J1_eq, if_pos rfl, if_pos (by omega), if_pos (by omega), spec_PutAway_is out _ _ _ _ _ ho, Option.bind_some, dropThing x i (by omega), putF, wrap_succ i (by omega)]
    generalize hA : putAway out (rd_T47 x (i : Int)).f0 (rd_T47 x (i : Int)).f1 (rd_T47 x (i : Int)).f2 (rd_T47 x (i : Int)).f3 (rd_T47 x (i : Int)).f4 = A
    have hAl : A.1.length ≤ 1048576 := by rw [← hA, putAway_len]; exact ho
    by_cases c : A.2 = true
    · rw [if_pos c, spec_PutAll_l0 l t hl ht hln htn x hx d (i + 1) A.1 left (by omega) hAl (by omega), if_pos c]
    · rw [if_neg c, spec_l9Put_is _ _ (by omega), Option.bind_some, spec_PutAll_l0 l t hl ht hln htn x hx d (i + 1) A.1 _ (by omega) hAl (by omega), if_neg c, List.foldl_cons]
theorem spec_PutAll_is (l : List S51) (t : List S47) (hln : l.length ≤ 1048576) (htn : t.length ≤ 1048576) : spec_PutAll.F l t = some (allPut l t) := by
  have hs : spec_l15Sorted.f t = some (stabL t) := by
    unfold spec_l15Sorted.f
    rw [if_pos (by omega), stabL_is]
  rw [spec_PutAll.F_eq, Option.bind_some, if_pos (by simp only [List.length_nil]; omega), List.nil_append, hs, Option.bind_some]
  unfold allPut
  by_cases hl : areSlots l = true
  · by_cases ht : areThings t = true
    · rw [if_pos ⟨hl, ht⟩]
      have h20 := things_len ht
      have hsl := stabL_len t
      exact spec_PutAll_l0 l t hl ht hln htn (stabL t) (by omega) (stabL t).length 0 l [] (by omega) hln (Nat.zero_le _)
    · rw [if_neg (fun hh => ht hh.2), spec_PutAll.L0_eq]
      have e : spec_PutAll.J1 l t l [] (stabL t) 0 false = some (l, []) := by rw [spec_PutAll.J1_eq, if_neg (by decide)]
      split
      · rw [spec_AreSlots_is l hln, Option.bind_some, if_pos hl, spec_AreThings_is t htn, Option.bind_some, Bool.eq_false_iff.2 ht]
        exact e
      · exact e
  · rw [if_neg (fun hh => hl hh.1), spec_PutAll.L0_eq]
    have e : spec_PutAll.J1 l t l [] (stabL t) 0 false = some (l, []) := by rw [spec_PutAll.J1_eq, if_neg (by decide)]
    split
    · rw [spec_AreSlots_is l hln, Option.bind_some, if_neg hl]
      exact e
    · exact e

noncomputable def takeOut (l : List S51) (t : Int) : List S51 × Bool := if areSlots l = true ∧ 0 ≤ slotAt l t then (putIn l (slotAt l t).toNat 0, true) else (l, false)
theorem takeOut_len (l : List S51) (t : Int) : (takeOut l t).1.length = l.length := by
  unfold takeOut
  split <;> simp [putIn_len]

def freeSlots : List S51 → Int
  | [] => 0
  | x :: r => (if x.f2 = 0 then 1 else 0) + freeSlots r
theorem freeSlots_bd : ∀ (l : List S51), 0 ≤ freeSlots l ∧ freeSlots l ≤ l.length
  | [] => by simp [freeSlots]
  | x :: r => by
    have := freeSlots_bd r
    simp only [freeSlots, List.length_cons]
    split <;> omega
def largestFree : List S51 → Int → Int
  | [], a => a
  | x :: r, a => largestFree r (if x.f2 = 0 then (if x.f1 > a then x.f1 else a) else a)

theorem slots_once2 {l : List S51} (h : areSlots l = true) {j m : Nat} (hj : j < l.length) (hm : m < l.length) (hne : j ≠ m) (h0 : (rd_T51 l (m : Int)).f2 ≠ 0) : (rd_T51 l (j : Int)).f2 ≠ (rd_T51 l (m : Int)).f2 := by
  have key : ∀ a c : Nat, a < c → c < l.length → (rd_T51 l (c : Int)).f2 ≠ 0 → (rd_T51 l (a : Int)).f2 ≠ (rd_T51 l (c : Int)).f2 := by
    intro a c hac hc hc0
    have := ((areSlots_ok h).1 c hc).2.2.2.2
    unfold freshB at this
    rw [decide_eq_false hc0, Bool.false_or, allF_all] at this
    exact this a hac
  rcases Nat.lt_or_gt_of_ne hne with hlt | hgt
  · exact key j m hlt hm h0
  · intro e
    exact key m j hgt hj (by rw [e]; exact h0) e.symm
theorem best_free (l : List S51) (size : Int) : ∀ (d i : Nat) (b : Int), (b < 0 ∨ ((rd_T51 l b).f2 = 0 ∧ (rd_T51 l b).f1 ≥ size)) → bestSlot l size d i b < 0 ∨ ((rd_T51 l (bestSlot l size d i b)).f2 = 0 ∧ (rd_T51 l (bestSlot l size d i b)).f1 ≥ size)
  | 0, i, b, h => h
  | d + 1, i, b, h => by
    simp only [bestSlot]
    refine best_free l size d (i + 1) _ ?_
    split
    · rename_i hc
      exact .inr ⟨hc.1, hc.2.1⟩
    · exact h
theorem put_ok {l : List S51} (h : areSlots l = true) (j : Nat) (hj : j < l.length) (t : Int) (ht : 0 ≤ t ∧ t ≤ 999) (hf : t = 0 ∨ ∀ q : Nat, q < l.length → q ≠ j → (rd_T51 l (q : Int)).f2 ≠ t) : areSlots (putIn l j t) = true := by
  have h1 := areSlots_ok h
  have r0 : ∀ q : Nat, (rd_T51 (putIn l j t) (q : Int)).f0 = (rd_T51 l (q : Int)).f0 := fun q => by
    rw [putIn_rd]; split
    · rename_i e; rw [e.1]
    · rfl
  have r1 : ∀ q : Nat, (rd_T51 (putIn l j t) (q : Int)).f1 = (rd_T51 l (q : Int)).f1 := fun q => by
    rw [putIn_rd]; split
    · rename_i e; rw [e.1]
    · rfl
  have r2 : ∀ q : Nat, (rd_T51 (putIn l j t) (q : Int)).f2 = if q = j then t else (rd_T51 l (q : Int)).f2 := fun q => by
    rw [putIn_rd]
    by_cases e : q = j
    · rw [if_pos ⟨e, hj⟩, if_pos e]
    · rw [if_neg (fun hh => e hh.1), if_neg e]
  unfold areSlots
  rw [Bool.and_eq_true, allF_all, decide_eq_true_iff, putIn_len]
  refine ⟨fun i hi => ?_, by have := h1.2; omega⟩
  obtain ⟨k0, k1, k2, k3, k4⟩ := h1.1 i hi
  refine ⟨by rw [r0]; exact k0, fun hp => ?_, by rw [r1]; exact k2, ?_, ?_⟩
  · have e : (i : Int) - 1 = ((i - 1 : Nat) : Int) := by omega
    have := k1 hp
    rw [e] at this ⊢
    rw [r0, r0]
    exact this
  · rw [r2]
    split
    · exact inR_iff.2 ht
    · exact k3
  · unfold freshB
    rw [Bool.or_eq_true, decide_eq_true_iff, allF_all]
    by_cases hz : (rd_T51 (putIn l j t) (i : Int)).f2 = 0
    · exact .inl hz
    · refine .inr (fun q hq => ?_)
      rw [r2] at hz
      rw [r2, r2]
      by_cases ei : i = j
      · rw [if_pos ei] at hz
        rw [if_pos ei, if_neg (by omega)]
        rcases hf with hf | hf
        · exact absurd hf hz
        · exact hf q (by omega) (by omega)
      · rw [if_neg ei] at hz
        rw [if_neg ei]
        by_cases eq : q = j
        · rw [if_pos eq]
          rcases hf with hf | hf
          · rw [hf]; exact fun hh => hz hh.symm
          · exact fun hh => hf i hi ei hh.symm
        · rw [if_neg eq]
          exact slots_once2 h (by omega) hi (by omega) hz
def one0 (x : S51) : Int := if x.f2 = 0 then 1 else 0
theorem free_set : ∀ (l : List S51) (j : Nat) (v : S51), j < l.length → freeSlots (l.set j v) = freeSlots l - one0 (l.getD j z51) + one0 v
  | [], j, v, h => absurd h (Nat.not_lt_zero _)
  | x :: r, 0, v, h => by
    simp only [List.set_cons_zero, freeSlots, List.getD_cons_zero, one0]
    omega
  | x :: r, j + 1, v, h => by
    have ih := free_set r j v (by simpa using h)
    simp only [List.set_cons_succ, freeSlots, List.getD_cons_succ, ih]
    omega
theorem free_put (l : List S51) (j : Nat) (t : Int) (hj : j < l.length) : freeSlots (putIn l j t) = freeSlots l - (if (rd_T51 l (j : Int)).f2 = 0 then 1 else 0) + (if t = 0 then 1 else 0) := by
  rw [putIn, free_set l j _ hj, rdSlot_at]
  rfl
theorem put_back (l : List S51) (j : Nat) (t : Int) (hj : j < l.length) (h0 : (rd_T51 l (j : Int)).f2 = 0) : putIn (putIn l j t) j 0 = l := by
  have e := putIn_rd l j t j
  rw [if_pos ⟨rfl, hj⟩] at e
  have e1 : putIn (putIn l j t) j 0 = (putIn l j t).set j ⟨(rd_T51 l (j : Int)).f0, (rd_T51 l (j : Int)).f1, 0⟩ := by
    conv => lhs; unfold putIn
    rw [show ((rd_T51 (l.set j ⟨(rd_T51 l (j : Int)).f0, (rd_T51 l (j : Int)).f1, t⟩) (j : Int))) = ⟨(rd_T51 l (j : Int)).f0, (rd_T51 l (j : Int)).f1, t⟩ from e]
    rfl
  rw [e1, putIn, List.set_set]
  have e2 : (⟨(rd_T51 l (j : Int)).f0, (rd_T51 l (j : Int)).f1, 0⟩ : S51) = l[j] := by
    have e3 : rd_T51 l (j : Int) = l[j] := by rw [rdSlot_at, getD_get l j _ hj]
    rw [← e3, ← h0]
  rw [e2, List.set_getElem_self]
theorem mem_rd {l : List S51} {x : S51} (hx : x ∈ l) : ∃ q : Nat, q < l.length ∧ rd_T51 l (q : Int) = x := by
  obtain ⟨q, hq, e⟩ := List.getElem_of_mem hx
  exact ⟨q, hq, by rw [rdSlot_at, getD_get l q _ hq, e]⟩
theorem rd_mem {l : List S51} (q : Nat) (hq : q < l.length) : rd_T51 l (q : Int) ∈ l := by
  rw [rdSlot_at, getD_get l q _ hq]
  exact List.getElem_mem _
theorem at_put {l : List S51} (j : Nat) (hj : j < l.length) (t : Int) (h0 : t ≠ 0) (hf : ∀ q : Nat, q < l.length → (rd_T51 l (q : Int)).f2 ≠ t) : slotAt (putIn l j t) t = (j : Int) := by
  rcases slotAt_cases (putIn l j t) t with ⟨_, h1⟩ | ⟨_, q, h1, h2, h3, _⟩
  · exfalso
    rcases h1 with h1 | h1
    · exact h0 h1
    · have := h1 _ (rd_mem (l := putIn l j t) j (by rw [putIn_len]; exact hj))
      rw [putIn_rd, if_pos ⟨rfl, hj⟩] at this
      exact this rfl
  · rw [putIn_len] at h1
    rw [putIn_rd] at h3
    by_cases e : q = j
    · rw [h2, e]
    · rw [if_neg (fun hh => e hh.1)] at h3
      exact absurd h3 (hf q h1)
theorem slotOf_put {l : List S51} (j : Nat) (hj : j < l.length) (t : Int) (h0 : t ≠ 0) (hf : ∀ q : Nat, q < l.length → (rd_T51 l (q : Int)).f2 ≠ t) : slotOf (putIn l j t) t = (rd_T51 l (j : Int)).f0 := by
  rw [← slotOf_slotAt, at_put j hj t h0 hf, if_neg (by omega), putIn_rd, if_pos ⟨rfl, hj⟩]

theorem at_keep (l : List S51) (x a b c d e : Int) (h : 0 ≤ slotAt l x) : 0 ≤ slotAt (putAway l a b c d e).1 x := by
  unfold putAway
  by_cases hc : areSlots l = true ∧ isThing a b c d e = true ∧ 0 ≤ bestSlot l d l.length 0 (-1) ∧ slotAt l a < 0
  · rw [if_pos hc]
    dsimp only
    have hbd := bestSlot_bd l d l.length 0 (-1) (by omega) (by omega) (by omega)
    have hfree := best_free l d l.length 0 (-1) (.inl (by omega))
    obtain ⟨j, hjj⟩ : ∃ j : Nat, bestSlot l d l.length 0 (-1) = (j : Int) := ⟨(bestSlot l d l.length 0 (-1)).toNat, by omega⟩
    rw [hjj] at hbd hfree ⊢
    rw [Int.toNat_natCast]
    have hfr := hfree.resolve_left (by omega)
    rcases slotAt_cases l x with ⟨h1, _⟩ | ⟨h0, q, hq, h1, h2, _⟩
    · omega
    · have hne : q ≠ j := by
        intro e1
        rw [e1, hfr.1] at h2
        exact h0 h2.symm
      rcases slotAt_cases (putIn l j a) x with ⟨_, h4⟩ | ⟨_, q2, _, h4, _, _⟩
      · exfalso
        rcases h4 with h4 | h4
        · exact h0 h4
        · have := h4 _ (rd_mem (l := putIn l j a) q (by rw [putIn_len]; exact hq))
          rw [putIn_rd, if_neg (fun hh => hne hh.1)] at this
          exact this h2
      · omega
  · rw [if_neg hc]
    exact h
theorem putF_held : ∀ (ys : List S47) (out : List S51) (x : S47), x ∈ ys → 0 ≤ slotAt out x.f0 → (putF ys out).2 ≠ []
  | [], _, _, hx, _ => absurd hx List.not_mem_nil
  | y :: r, out, x, hx, h => by
    rw [putF]
    dsimp only
    by_cases c : (putAway out y.f0 y.f1 y.f2 y.f3 y.f4).2 = true
    · rw [if_pos c]
      rcases List.mem_cons.1 hx with e | hx
      · exfalso
        subst e
        unfold putAway at c
        rw [if_neg (fun hh => by have := hh.2.2.2; omega)] at c
        cases c
      · exact putF_held r _ x hx (at_keep _ _ _ _ _ _ _ h)
    · rw [if_neg c]
      exact List.cons_ne_nil _ _
theorem stabL_mem (l : List S47) (x : S47) : x ∈ stabL l ↔ x ∈ l := by
  have := foldD_perm l []
  rw [List.append_nil] at this
  rw [stabL_is]
  exact this.mem_iff
open Classical in
noncomputable def canHold (l : List S51) (t : List S47) : Bool := if areSlots l = true ∧ areThings t = true then ((allPut l t).2.length : Int) == 0 else false
theorem canHold_no (l : List S51) (t : List S47) (x : S47) (hx : x ∈ t) (h : slotOf l x.f0 ≠ 0) : canHold l t = false := by
  unfold canHold
  by_cases hc : areSlots l = true ∧ areThings t = true
  · rw [if_pos hc]
    have e := slotOf_slotAt l x.f0
    have h0 : 0 ≤ slotAt l x.f0 := by
      by_cases c : slotAt l x.f0 < 0
      · rw [if_pos c] at e; exact absurd e.symm h
      · omega
    have h1 := putF_held (stabL t) l x ((stabL_mem t x).2 hx) h0
    have h2 : (putF (stabL t) l).2.foldl putA [] ≠ [] := by
      obtain ⟨z, r, e2⟩ := List.exists_cons_of_ne_nil h1
      have : z ∈ (putF (stabL t) l).2.foldl putA [] := (foldP_mem z _ _).2 (.inr (by rw [e2]; simp))
      exact List.ne_nil_of_mem this
    have h3 := List.length_pos_iff.2 h2
    unfold allPut
    rw [if_pos hc]
    dsimp only
    simp only [beq_eq_false_iff_ne]
    omega
  · rw [if_neg hc]
theorem rdT_mem {l : List S47} (q : Nat) (hq : q < l.length) : rd_T47 l (q : Int) ∈ l := by
  rw [rdThing_at, getD_get l q _ hq]
  exact List.getElem_mem _

theorem impl_CanHold_is (l : List S51) (t : List S47) (hl : l.length ≤ 1048576) (ht : t.length ≤ 1048576) : impl_CanHold.F l t = some (canHold l t) := by
  rw [impl_CanHold.F_eq, impl_AreSlots_is l hl, Option.bind_some]
  unfold canHold
  by_cases h1 : areSlots l = true
  · rw [if_pos h1, impl_AreThings_is t ht, Option.bind_some]
    by_cases h2 : areThings t = true
    · rw [if_pos h2, impl_PutAll_is l t hl ht, Option.bind_some, if_pos ⟨h1, h2⟩]
    · rw [if_neg h2, if_neg (fun hh => h2 hh.2)]
  · rw [if_neg h1, if_neg (fun hh => h1 hh.1)]

theorem away_slots {l : List S51} (hs : areSlots l = true) (a b c d e : Int) : areSlots (putAway l a b c d e).1 = true ∧ ((putAway l a b c d e).2 = true → freeSlots (putAway l a b c d e).1 = freeSlots l - 1 ∧ 0 ≤ slotAt (putAway l a b c d e).1 a) ∧ ((putAway l a b c d e).2 ≠ true → (putAway l a b c d e).1 = l) := by
  unfold putAway
  by_cases hc : areSlots l = true ∧ isThing a b c d e = true ∧ 0 ≤ bestSlot l d l.length 0 (-1) ∧ slotAt l a < 0
  · rw [if_pos hc]
    dsimp only
    obtain ⟨_, ht, h1, h2⟩ := hc
    have hbd := bestSlot_bd l d l.length 0 (-1) (by omega) (by omega) (by omega)
    have hfree := best_free l d l.length 0 (-1) (.inl (by omega))
    obtain ⟨j, hjj⟩ : ∃ j : Nat, bestSlot l d l.length 0 (-1) = (j : Int) := ⟨(bestSlot l d l.length 0 (-1)).toNat, by omega⟩
    rw [hjj] at hbd hfree ⊢
    rw [Int.toNat_natCast]
    have hj : j < l.length := by omega
    have hfr := hfree.resolve_left (by omega)
    have ha : 1 ≤ a ∧ a ≤ 999 := by
      unfold isThing at ht
      simp only [Bool.and_eq_true, inR_iff] at ht
      omega
    have hnone : ∀ q : Nat, q < l.length → (rd_T51 l (q : Int)).f2 ≠ a := by
      rcases slotAt_cases l a with ⟨_, h3⟩ | ⟨_, q, _, h3, _⟩
      · intro q hq
        exact h3.resolve_left (by omega) _ (rd_mem q hq)
      · omega
    refine ⟨put_ok hs j hj a (by omega) (.inr (fun q hq _ => hnone q hq)), fun _ => ⟨?_, ?_⟩, fun hh => absurd rfl hh⟩
    · rw [free_put l j a hj, if_pos hfr.1, if_neg (by omega)]
      omega
    · rw [at_put j hj a (by omega) hnone]
      omega
  · rw [if_neg hc]
    exact ⟨hs, fun hh => absurd hh Bool.false_ne_true, fun _ => rfl⟩
theorem putF_facts : ∀ (ys : List S47) (out : List S51), areSlots out = true → areSlots (putF ys out).1 = true ∧ freeSlots (putF ys out).1 + (ys.length : Int) = freeSlots out + ((putF ys out).2.length : Int) ∧ (∀ v, 0 ≤ slotAt out v → 0 ≤ slotAt (putF ys out).1 v) ∧ (∀ x ∈ ys, x.f0 ∉ (putF ys out).2 → 0 ≤ slotAt (putF ys out).1 x.f0)
  | [], out, hs => ⟨hs, rfl, fun v h => h, fun x hx => absurd hx List.not_mem_nil⟩
  | y :: r, out, hs => by
    obtain ⟨a1, a2, a3⟩ := away_slots hs y.f0 y.f1 y.f2 y.f3 y.f4
    have hk := fun v => at_keep out v y.f0 y.f1 y.f2 y.f3 y.f4
    obtain ⟨b1, b2, b3, b4⟩ := putF_facts r (putAway out y.f0 y.f1 y.f2 y.f3 y.f4).1 a1
    rw [putF]
    dsimp only
    by_cases c : (putAway out y.f0 y.f1 y.f2 y.f3 y.f4).2 = true
    · rw [if_pos c]
      refine ⟨b1, ?_, fun v h => b3 v (hk v h), fun x hx hn => ?_⟩
      · have h1 := (a2 c).1
        rw [List.length_cons]
        omega
      · rcases List.mem_cons.1 hx with e | hx
        · rw [e]
          exact b3 _ (a2 c).2
        · exact b4 x hx hn
    · rw [if_neg c]
      have ef : freeSlots (putAway out y.f0 y.f1 y.f2 y.f3 y.f4).1 = freeSlots out := by rw [a3 c]
      refine ⟨b1, ?_, fun v h => b3 v (hk v h), fun x hx hn => ?_⟩
      · rw [List.length_cons, List.length_cons]
        omega
      · rcases List.mem_cons.1 hx with e | hx
        · exact absurd (by rw [e]; exact List.mem_cons_self) hn
        · exact b4 x hx (fun hh => hn (List.mem_cons_of_mem _ hh))
theorem allPut_asc (l : List S51) (t : List S47) : Asc (allPut l t).2 := by
  unfold allPut
  split
  · exact foldP_asc _ [] List.Pairwise.nil
  · exact List.Pairwise.nil
theorem allPut_facts {l : List S51} {t : List S47} (hl : areSlots l = true) (ht : areThings t = true) : areSlots (allPut l t).1 = true ∧ freeSlots (allPut l t).1 + (t.length : Int) = freeSlots l + ((allPut l t).2.length : Int) ∧ (∀ v, 0 ≤ slotAt l v → 0 ≤ slotAt (allPut l t).1 v) ∧ (∀ x ∈ t, x.f0 ∉ (allPut l t).2 → 0 ≤ slotAt (allPut l t).1 x.f0) := by
  have e : allPut l t = ((putF (stabL t) l).1, (putF (stabL t) l).2.foldl putA []) := by
    unfold allPut
    rw [if_pos ⟨hl, ht⟩]
  obtain ⟨b1, b2, b3, b4⟩ := putF_facts (stabL t) l hl
  have hlen : ((putF (stabL t) l).2.foldl putA []).length = (putF (stabL t) l).2.length := by
    rw [← sorted_fold _ (failed_nodup ht l)]
    exact (List.mergeSort_perm _ _).length_eq
  rw [stabL_len] at b2
  rw [e]
  refine ⟨b1, ?_, b3, fun x hx hn => ?_⟩
  · dsimp only
    rw [hlen]
    exact b2
  · refine b4 x ((stabL_mem t x).2 hx) (fun hh => hn ?_)
    dsimp only
    exact (foldP_mem _ _ _).2 (.inr hh)
theorem slotOf_pos {l : List S51} (hs : areSlots l = true) (v : Int) (h : 0 ≤ slotAt l v) : slotOf l v ≠ 0 := by
  rw [← slotOf_slotAt, if_neg (by omega)]
  rcases slotAt_cases l v with ⟨h1, _⟩ | ⟨_, q, hq, h1, _⟩
  · omega
  · rw [h1]
    have := slots_id hs q hq
    omega
theorem things_iff (l : List S47) : areThings l = true ↔ (∀ x ∈ l, isThingW x = true) ∧ l.Pairwise (fun x y => x.f0 < y.f0) ∧ l.length ≤ 20 := by
  constructor
  · intro h
    have hl := things_len h
    refine ⟨fun x hx => ?_, ?_, hl⟩
    · have h2 := h
      unfold areThings at h2
      rw [Bool.and_eq_true, allF_all] at h2
      obtain ⟨q, hq, e⟩ := List.getElem_of_mem hx
      have := (h2.1 q hq).1
      rw [rdThing_at, getD_get l q _ hq, e] at this
      exact this
    · rw [List.pairwise_iff_getElem]
      intro i j hi hj hij
      have := things_lt h (j - i - 1) i j (by omega) hj
      rw [rdThing_at, rdThing_at, getD_get l i _ hi, getD_get l j _ hj] at this
      exact this
  · rintro ⟨h1, h2, h3⟩
    unfold areThings
    rw [Bool.and_eq_true, allF_all, decide_eq_true_iff]
    refine ⟨fun i hi => ⟨h1 _ (rdT_mem i hi), fun hp => ?_⟩, by omega⟩
    have := List.pairwise_iff_getElem.1 h2 (i - 1) i (by omega) hi (by omega)
    rw [show (i : Int) - 1 = ((i - 1 : Nat) : Int) by omega, rdThing_at, rdThing_at, getD_get l i _ hi, getD_get l (i - 1) _ (by omega)]
    exact this

def tightF (a : List S51) : List S47 → List S51 → List S47 → List S51 × List S47
  | [], out, tk => (out, tk)
  | x :: r, out, tk => if 0 ≤ slotAt a x.f0 then tightF a r (putIn out (slotAt a x.f0).toNat 0) (tk ++ [x]) else tightF a r out tk
noncomputable def tightEnd (a : List S51) (p : List S51 × List S47) : List S51 := if ((allPut p.1 p.2).2.length : Int) > 0 then a else (allPut p.1 p.2).1
open Classical in
noncomputable def tighten (a : List S51) (b : List S47) : List S51 := if areSlots a = true ∧ areThings b = true then tightEnd a (tightF a b a []) else a
structure TInv (a out : List S51) (tk : List S47) : Prop where
  slots : areSlots out = true
  len : out.length = a.length
  free : freeSlots out = freeSlots a + (tk.length : Int)
  at_ : ∀ q : Nat, q < a.length → (rd_T51 out (q : Int)).f2 = (rd_T51 a (q : Int)).f2 ∨ (rd_T51 a (q : Int)).f2 ∈ tk.map (fun x => x.f0)
theorem tight_inv (a : List S51) : ∀ (b : List S47) (out : List S51) (tk : List S47), ((tk ++ b).map (fun x => x.f0)).Nodup → TInv a out tk → TInv a (tightF a b out tk).1 (tightF a b out tk).2
  | [], out, tk, _, h => h
  | x :: r, out, tk, hn, h => by
    rw [tightF]
    by_cases c : 0 ≤ slotAt a x.f0
    · rw [if_pos c]
      have hx : x.f0 ∉ tk.map (fun x => x.f0) := by
        rw [List.map_append, List.map_cons] at hn
        intro hm
        exact (List.nodup_append.1 hn).2.2 _ hm _ List.mem_cons_self rfl
      refine tight_inv a r _ _ (by rw [List.append_assoc]; exact hn) ?_
      rcases slotAt_cases a x.f0 with ⟨h1, _⟩ | ⟨h0, j, hj, h1, h2, _⟩
      · omega
      · rw [h1, Int.toNat_natCast]
        have hjo : j < out.length := by rw [h.len]; exact hj
        have hjf : (rd_T51 out (j : Int)).f2 = x.f0 := by
          rcases h.at_ j hj with h3 | h3
          · rw [h3, h2]
          · rw [h2] at h3
            exact absurd h3 hx
        refine ⟨put_ok h.slots j hjo 0 (by omega) (.inl rfl), by rw [putIn_len]; exact h.len, ?_, fun q hq => ?_⟩
        · rw [free_put out j 0 hjo, if_neg (by rw [hjf]; exact h0), if_pos rfl, h.free, List.length_append, List.length_singleton]
          omega
        · rw [List.map_append, List.mem_append]
          by_cases e : q = j
          · exact .inr (.inr (by rw [e, h2]; simp))
          · rw [putIn_rd, if_neg (fun hh => e hh.1)]
            exact (h.at_ q hq).imp id .inl
    · rw [if_neg c]
      refine tight_inv a r out tk ?_ h
      refine List.Nodup.sublist ?_ hn
      exact (List.Sublist.append_left (List.sublist_cons_self x r) tk).map _
theorem tight_taken (a : List S51) : ∀ (b : List S47) (out : List S51) (tk : List S47), (tightF a b out tk).2 = tk ++ b.filter (fun x => decide (0 ≤ slotAt a x.f0))
  | [], out, tk => by rw [tightF, List.filter_nil, List.append_nil]
  | x :: r, out, tk => by
    rw [tightF]
    by_cases c : 0 ≤ slotAt a x.f0
    · rw [if_pos c, tight_taken a r, List.filter_cons, if_pos (decide_eq_true c), List.append_assoc]
      rfl
    · rw [if_neg c, tight_taken a r, List.filter_cons, if_neg (by rw [decide_eq_true_iff]; exact c)]
theorem tight_lens (a : List S51) : ∀ (b : List S47) (out : List S51) (tk : List S47), (tightF a b out tk).1.length = out.length ∧ (tightF a b out tk).2.length ≤ tk.length + b.length
  | [], out, tk => ⟨rfl, Nat.le_refl _⟩
  | x :: r, out, tk => by
    rw [tightF]
    split
    · have h := tight_lens a r (putIn out (slotAt a x.f0).toNat 0) (tk ++ [x])
      rw [putIn_len, List.length_append, List.length_singleton] at h
      rw [List.length_cons]
      exact ⟨h.1, by omega⟩
    · have h := tight_lens a r out tk
      rw [List.length_cons]
      exact ⟨h.1, by omega⟩
theorem tighten_len (a : List S51) (b : List S47) : (tighten a b).length = a.length := by
  unfold tighten tightEnd
  split
  · split
    · rfl
    · rw [(allPut_len _ _).1, (tight_lens a b a []).1]
  · rfl
theorem tighten_facts (a : List S51) (b : List S47) : freeSlots (tighten a b) = freeSlots a ∧ (areSlots a = true → areSlots (tighten a b) = true ∧ ∀ q : Nat, q < a.length → (rd_T51 a (q : Int)).f2 ≠ 0 → slotOf (tighten a b) (rd_T51 a (q : Int)).f2 ≠ 0) := by
  have same : ∀ q : Nat, areSlots a = true → q < a.length → (rd_T51 a (q : Int)).f2 ≠ 0 → 0 ≤ slotAt a (rd_T51 a (q : Int)).f2 := fun q hs hq h0 => by
    rcases slotAt_cases a (rd_T51 a (q : Int)).f2 with ⟨_, h1⟩ | ⟨_, j, _, h1, _⟩
    · exact absurd rfl (h1.resolve_left h0 _ (rd_mem q hq))
    · omega
  have self : freeSlots a = freeSlots a ∧ (areSlots a = true → areSlots a = true ∧ ∀ q : Nat, q < a.length → (rd_T51 a (q : Int)).f2 ≠ 0 → slotOf a (rd_T51 a (q : Int)).f2 ≠ 0) :=
    ⟨rfl, fun hs => ⟨hs, fun q hq h0 => slotOf_pos hs _ (same q hs hq h0)⟩⟩
  by_cases hc : areSlots a = true ∧ areThings b = true
  · obtain ⟨hs, ht⟩ := hc
    have et : tighten a b = tightEnd a (tightF a b a []) := by
      unfold tighten
      rw [if_pos ⟨hs, ht⟩]
    have hi := tight_inv a b a [] (by rw [List.nil_append]; exact things_nodup ht) ⟨hs, rfl, by simp, fun q _ => .inl rfl⟩
    have hk := tight_taken a b a []
    have hth : areThings (tightF a b a []).2 = true := by
      rw [hk, List.nil_append, things_iff]
      obtain ⟨h1, h2, h3⟩ := (things_iff b).1 ht
      exact ⟨fun x hx => h1 x (List.mem_filter.1 hx).1, h2.filter _, Nat.le_trans (List.length_filter_le _ _) h3⟩
    rw [et]
    generalize tightF a b a [] = p at hi hth
    obtain ⟨f1, f2, f3, f4⟩ := allPut_facts hi.slots hth
    unfold tightEnd
    by_cases hf : ((allPut p.1 p.2).2.length : Int) > 0
    · rw [if_pos hf]
      exact self
    · rw [if_neg hf]
      have hnil : (allPut p.1 p.2).2 = [] := List.eq_nil_of_length_eq_zero (by omega)
      have hfr := hi.free
      refine ⟨by omega, fun _ => ⟨f1, fun q hq h0 => slotOf_pos f1 _ ?_⟩⟩
      rcases hi.at_ q hq with h1 | h1
      · refine f3 _ ?_
        rcases slotAt_cases p.1 (rd_T51 a (q : Int)).f2 with ⟨_, h2⟩ | ⟨_, j, _, h2, _⟩
        · have := h2.resolve_left h0 _ (rd_mem (l := p.1) q (by rw [hi.len]; exact hq))
          exact absurd h1 this
        · omega
      · obtain ⟨y, hy, ey⟩ := List.mem_map.1 h1
        rw [← ey]
        exact f4 y hy (by rw [hnil]; exact List.not_mem_nil)
  · have et : tighten a b = a := by
      unfold tighten
      rw [if_neg hc]
    rw [et]
    exact self

theorem impl_Tighten_l0 (a : List S51) (b : List S47) (ha : a.length ≤ 1000) (hb : b.length ≤ 1000) : ∀ (d i : Nat) (out : List S51) (tk : List S47), i + d = b.length → out.length = a.length → tk.length ≤ i → impl_Tighten.L0 a out tk b (b.length : Int) (i : Int) = some (tightEnd a (tightF a (b.drop i) out tk))
  | 0, i, out, tk, h, ho, hk => by
    rw [impl_Tighten.L0_eq, if_neg (by omega), impl_PutAll_is out tk (by omega) (by omega), Option.bind_some, List.drop_of_length_le (by omega), tightF]
    unfold tightEnd
    by_cases c : ((allPut out tk).2.length : Int) > 0
    · rw [if_pos c, if_pos c, cloneSlot_is a (by omega), Option.bind_some]
    · rw [if_neg c, if_neg c]
  | d + 1, i, out, tk, h, ho, hk => by
    have e : impl_slotWith.f a (rd_T47 b (i : Int)).f0 = some (slotAt a (rd_T47 b (i : Int)).f0) := impl_slotWith_is ..
    rw [impl_Tighten.L0_eq, if_pos (by omega), if_pos (by omega), if_pos (by omega), e, Option.bind_some, dropThing b i (by omega), tightF, wrap_succ i (by omega)]
    by_cases c : 0 ≤ slotAt a (rd_T47 b (i : Int)).f0
    · have hlt : slotAt a (rd_T47 b (i : Int)).f0 < (out.length : Int) := by
        rcases slotAt_cases a (rd_T47 b (i : Int)).f0 with ⟨h1, _⟩ | ⟨_, j, hj, h1, _⟩ <;> omega
      have ih := impl_Tighten_l0 a b ha hb d (i + 1) (putIn out (slotAt a (rd_T47 b (i : Int)).f0).toNat 0) (tk ++ [rd_T47 b (i : Int)]) (by omega) (by rw [putIn_len]; exact ho) (by rw [List.length_append, List.length_singleton]; omega)
      rw [if_pos c, if_pos c, if_pos c, if_pos hlt, if_pos (by omega), ← ih]
      unfold putIn
      rw [Int.toNat_of_nonneg c]
    · rw [if_neg c, if_neg c, impl_Tighten_l0 a b ha hb d (i + 1) out tk (by omega) ho (by omega)]
theorem impl_Tighten_is (a : List S51) (b : List S47) (ha : a.length ≤ 1000) (hb : b.length ≤ 1000) : impl_Tighten.F a b = some (tighten a b) := by
  rw [impl_Tighten.F_eq, impl_AreSlots_is a (by omega), Option.bind_some]
  unfold tighten
  by_cases h1 : areSlots a = true
  · rw [if_pos h1, impl_AreThings_is b (by omega), Option.bind_some, impl_Tighten.J0_eq]
    by_cases h2 : areThings b = true
    · rw [h2, if_neg (by decide), cloneSlot_is a (by omega), Option.bind_some, if_pos ⟨h1, rfl⟩]
      exact impl_Tighten_l0 a b ha hb b.length 0 a [] (by omega) rfl (Nat.zero_le _)
    · rw [if_pos (by rw [Bool.eq_false_iff.2 h2]; rfl), if_neg (fun hh => h2 hh.2), cloneSlot_is a (by omega), Option.bind_some]
  · rw [if_neg h1, impl_Tighten.J0_eq, if_pos rfl, if_neg (fun hh => h1 hh.1), cloneSlot_is a (by omega), Option.bind_some]

theorem impl_FreeSlots_l0 (l : List S51) (hn : l.length ≤ 1048576) : ∀ (d i : Nat) (acc : Int), i + d = l.length → 0 ≤ acc → acc ≤ i → impl_FreeSlots.L0 acc l (l.length : Int) (i : Int) = some (acc + freeSlots (l.drop i))
  | 0, i, acc, h, h0, h1 => by rw [impl_FreeSlots.L0_eq, if_neg (by omega), List.drop_of_length_le (by omega)]; simp [freeSlots]
  | d + 1, i, acc, h, h0, h1 => by
    have hi : i < l.length := by omega
    rw [impl_FreeSlots.L0_eq, if_pos (by omega), if_pos (by omega), if_pos (by omega), dropSlot l i hi]
    simp only [wrap_succ i (by omega), freeSlots]
    by_cases hc : (rd_T51 l (i : Int)).f2 = 0
    · rw [if_pos hc, if_pos hc, wrap_in _ (by omega), impl_FreeSlots_l0 l hn d (i + 1) _ (by omega) (by omega) (by omega), Int.add_assoc]
    · rw [if_neg hc, if_neg hc, impl_FreeSlots_l0 l hn d (i + 1) _ (by omega) (by omega) (by omega), Int.zero_add]
theorem impl_FreeSlots_is (l : List S51) (hn : l.length ≤ 1048576) : impl_FreeSlots.F l = some (freeSlots l) := by
  rw [impl_FreeSlots.F_eq]
  have := impl_FreeSlots_l0 l hn l.length 0 0 (by omega) (by omega) (by omega)
  simpa using this

theorem impl_LargestFree_l0 (l : List S51) (hn : l.length ≤ 1048576) : ∀ (d i : Nat) (acc : Int), i + d = l.length → impl_LargestFree.L0 acc l (l.length : Int) (i : Int) = some (largestFree (l.drop i) acc)
  | 0, i, acc, h => by rw [impl_LargestFree.L0_eq, if_neg (by omega), List.drop_of_length_le (by omega)]; rfl
  | d + 1, i, acc, h => by
    have hi : i < l.length := by omega
    rw [impl_LargestFree.L0_eq, if_pos (by omega), if_pos (by omega), if_pos (by omega), dropSlot l i hi]
    simp only [wrap_succ i (by omega), largestFree]
    by_cases hc : (rd_T51 l (i : Int)).f2 = 0
    · rw [if_pos hc, if_pos hc]
      rw [show mx acc (rd_T51 l (i : Int)).f1 = if (rd_T51 l (i : Int)).f1 > acc then (rd_T51 l (i : Int)).f1 else acc by unfold mx; rfl]
      by_cases hm : (rd_T51 l (i : Int)).f1 > acc
      · simp only [if_pos hm, Option.bind_some]
        exact impl_LargestFree_l0 l hn d (i + 1) _ (by omega)
      · simp only [if_neg hm, Option.bind_some]
        exact impl_LargestFree_l0 l hn d (i + 1) _ (by omega)
    · rw [if_neg hc, if_neg hc, impl_LargestFree_l0 l hn d (i + 1) _ (by omega)]
theorem impl_LargestFree_is (l : List S51) (hn : l.length ≤ 1048576) : impl_LargestFree.F l = some (largestFree l 0) := by
  rw [impl_LargestFree.F_eq]
  exact impl_LargestFree_l0 l hn l.length 0 0 (by omega)

theorem contains_l0 (l : List Int) (x : Int) (hl : l.length ≤ 1048576) : ∀ (d i : Nat), i + d = l.length → x ∈ l.drop i → laws_contains.L0 l x (i : Int) = some true
  | 0, i, h, hx => by
    rw [List.drop_of_length_le (by omega)] at hx
    cases hx
  | d + 1, i, h, hx => by
    rw [laws_contains.L0_eq, if_pos (by omega), if_pos (by omega), wrap_succ i (by omega)]
    by_cases e : rd l (i : Int) = x
    · rw [if_pos e]
    · rw [if_neg e]
      refine contains_l0 l x hl d (i + 1) (by omega) ?_
      rw [dropInt l i (by omega)] at hx
      rcases List.mem_cons.1 hx with h1 | h1
      · exact absurd h1.symm e
      · exact h1
theorem contains_yes (l : List Int) (x : Int) (hl : l.length ≤ 1048576) (h : x ∈ l) : laws_contains.F l x = some true := by
  rw [laws_contains.F_eq]
  exact contains_l0 l x hl l.length 0 (by omega) (by rw [List.drop_zero]; exact h)

theorem contains_n0 (l : List Int) (x : Int) (hl : l.length ≤ 1048576) (hx : x ∉ l) : ∀ (d i : Nat), i + d = l.length → laws_contains.L0 l x (i : Int) = some false
  | 0, i, h => by rw [laws_contains.L0_eq, if_neg (by omega)]
  | d + 1, i, h => by
    rw [laws_contains.L0_eq, if_pos (by omega), if_pos (by omega), wrap_succ i (by omega), contains_n0 l x hl hx d (i + 1) (by omega)]
    have e : rd l (i : Int) ≠ x := fun e => by
      have h1 := dropInt l i (by omega)
      have h2 : rd l (i : Int) ∈ l.drop i := by rw [h1]; exact List.mem_cons_self
      rw [e] at h2
      exact hx (List.mem_of_mem_drop h2)
    rw [if_neg e]
theorem contains_no (l : List Int) (x : Int) (hl : l.length ≤ 1048576) (h : x ∉ l) : laws_contains.F l x = some false := by
  rw [laws_contains.F_eq]
  exact contains_n0 l x hl h l.length 0 (by omega)

theorem ascends_l0 (l : List Int) (hl : l.length ≤ 4194304) (h : Asc l) : ∀ (d i : Nat), i + d = l.length → 1 ≤ i → laws_ascends.L0 l (i : Int) = some true
  | 0, i, hd, h1 => by rw [laws_ascends.L0_eq, if_neg (by omega)]
  | d + 1, i, hd, h1 => by
    have hp := List.pairwise_iff_getElem.1 h (i - 1) i (by omega) (by omega) (by omega)
    have e : ¬ rd l ((i - 1 : Nat) : Int) ≥ rd l (i : Int) := by
      rw [rdInt_at, rdInt_at, getD_get l i _ (by omega), getD_get l (i - 1) _ (by omega)]
      omega
    rw [laws_ascends.L0_eq, if_pos (by omega), show wrap64 ((i : Int) - 1) = ((i - 1 : Nat) : Int) by rw [wrap_in _ (by omega)]; omega, if_pos (by omega), if_pos (by omega), if_pos (by omega), if_neg e, wrap_succ i (by omega)]
    exact ascends_l0 l hl h d (i + 1) (by omega) (by omega)
theorem ascends_is (l : List Int) (hl : l.length ≤ 4194304) (h : Asc l) : laws_ascends.F l = some true := by
  rw [laws_ascends.F_eq]
  by_cases h0 : l.length = 0
  · rw [laws_ascends.L0_eq, if_neg (by omega)]
  · exact ascends_l0 l hl h (l.length - 1) 1 (by omega) (by omega)

theorem largest_pos : ∀ (l : List S51) (a : Int), 0 ≤ a → 0 ≤ largestFree l a
  | [], a, h => h
  | x :: r, a, h => by
    rw [largestFree]
    refine largest_pos r _ ?_
    split
    · split <;> omega
    · exact h
theorem packed_l1 (l a y : List S51) (hl : l.length ≤ 1000) (ha : a.length ≤ 1000) (hy : y.length = a.length) (hf : freeSlots y = freeSlots a) (hs : areSlots a = true → ∀ q : Nat, q < a.length → (rd_T51 a (q : Int)).f2 ≠ 0 → slotOf y (rd_T51 a (q : Int)).f2 ≠ 0) : ∀ (d i : Nat), i + d = a.length → laws_FnPacked.L1 l a y (i : Int) = some true := by
  have fin : ∀ i : Int, laws_FnPacked.J6 l a y i false = some true := fun i => by
    rw [laws_FnPacked.J6_eq, if_neg (by decide), impl_FreeSlots_is y (by omega), Option.bind_some, impl_FreeSlots_is a (by omega), Option.bind_some, if_pos hf, impl_LargestFree_is l (by omega), Option.bind_some, decide_eq_true (largest_pos l 0 (by omega))]
  intro d
  induction d with
  | zero =>
    intro i h
    rw [laws_FnPacked.L1_eq, if_neg (by omega)]
    exact fin _
  | succ d ih =>
    intro i h
    rw [laws_FnPacked.L1_eq, if_pos (by omega), impl_AreSlots_is a (by omega), Option.bind_some]
    by_cases h1 : areSlots a = true
    · rw [h1, laws_FnPacked.J6_eq, if_pos rfl, if_pos (by omega), if_pos (by omega), wrap_succ i (by omega), ih (i + 1) (by omega)]
      by_cases c : (rd_T51 a (i : Int)).f2 = 0
      · rw [if_pos c]
      · rw [if_neg c, impl_SlotOf_is y _ (by omega), Option.bind_some, if_neg (hs h1 i (by omega) c)]
    · rw [Bool.eq_false_iff.2 h1]
      exact fin _
theorem packed_j4 (x0 : List Int) (l : List S51) (t : List S47) (e : spec_DrawPutAll.F x0 = some (l, t)) (hl : l.length ≤ 9) (ht : t.length ≤ 7) : laws_FnPacked.J4 x0 l = some true := by
  have hA := allPut_len l t
  have hS := spec_PutAll_is l t (by omega) (by omega)
  rw [laws_FnPacked.J4_eq, spec_DrawTighten.F_eq, spec_DrawWasted.F_eq, e, Option.bind_some]
  dsimp only
  rw [hS, Option.bind_some, Option.bind_some, Option.bind_some]
  dsimp only
  rw [impl_Tighten_is _ t (by omega) (by omega), Option.bind_some]
  have hf := tighten_facts (allPut l t).1 t
  exact packed_l1 l (allPut l t).1 _ (by omega) (by omega) (tighten_len _ _) hf.1 (fun hs => (hf.2 hs).2) (allPut l t).1.length 0 (by omega)
theorem packed_l0 (x0 : List Int) (l : List S51) (t : List S47) (e : spec_DrawPutAll.F x0 = some (l, t)) (hl : l.length ≤ 9) (ht : t.length ≤ 7) (h1 : areSlots l = true) (h2 : areThings t = true) : ∀ (d i : Nat), i + d = t.length → laws_FnPacked.L0 x0 l t (allPut l t).1 (allPut l t).2 (i : Int) = some true
  | 0, i, h => by
    rw [laws_FnPacked.L0_eq, if_neg (by omega)]
    exact packed_j4 x0 l t e hl ht
  | d + 1, i, h => by
    obtain ⟨f1, f2, f3, f4⟩ := allPut_facts h1 h2
    have hA := allPut_len l t
    have hC := impl_CanHold_is l t (by omega) (by omega)
    have hm := rdT_mem (l := t) i (by omega)
    rw [laws_FnPacked.L0_eq, if_pos (by omega), if_pos (by omega), wrap_succ i (by omega), packed_l0 x0 l t e hl ht h1 h2 d (i + 1) (by omega), hC]
    by_cases c : (rd_T47 t (i : Int)).f0 ∈ (allPut l t).2
    · have hn : canHold l t = false := by
        unfold canHold
        rw [if_pos ⟨h1, h2⟩]
        have := List.length_pos_iff.2 (List.ne_nil_of_mem c)
        simp only [beq_eq_false_iff_ne]
        omega
      rw [contains_yes _ _ (by omega) c, Option.bind_some, if_pos rfl, Option.bind_some, hn, if_neg (by decide)]
    · rw [contains_no _ _ (by omega) c, Option.bind_some, if_neg (by decide), impl_SlotOf_is _ _ (by omega), Option.bind_some, if_neg (slotOf_pos f1 _ (f4 _ hm c)), Option.bind_some]
      by_cases c2 : canHold l t = true
      · rw [if_pos c2, Option.bind_some, if_neg (by decide)]
      · rw [if_neg c2]
theorem law_FnPacked (l0 : List Int) (hm0 : l0.length ≤ maxLen) (hw0 : ∀ y ∈ l0, (fun n : Int => (Lit.int .u8 n).wf = true) y) : laws_FnPacked.F l0 = some true := by
  rw [laws_FnPacked.F_eq, big_is, Option.bind_some]
  by_cases hb : (l0.length : Int) > 1048576
  · rw [decide_eq_true hb, if_pos rfl]
  · have hb' : l0.length ≤ 1048576 := by omega
    obtain ⟨l, t, e, hl, ht⟩ := drawPutAll_is l0 hb'
    have hA := allPut_len l t
    rw [decide_eq_false hb, if_neg (by decide), e, Option.bind_some]
    dsimp only
    rw [impl_PutAll_is l t (by omega) (by omega), Option.bind_some, ascends_is _ (by omega) (allPut_asc l t), Option.bind_some, if_pos rfl, hA.1, bne_self_eq_false, laws_FnPacked.J0_eq, if_neg (by decide), impl_AreSlots_is l (by omega), Option.bind_some]
    have hJ4 := packed_j4 l0 l t e hl ht
    by_cases h1 : areSlots l = true
    · rw [if_pos h1, impl_AreThings_is t (by omega), Option.bind_some, laws_FnPacked.J1_eq]
      by_cases h2 : areThings t = true
      · obtain ⟨f1, f2, f3, f4⟩ := allPut_facts h1 h2
        have hb1 := freeSlots_bd l
        have hb2 := freeSlots_bd (allPut l t).1
        rw [if_pos h2, impl_AreSlots_is _ (by omega), Option.bind_some, if_pos f1, impl_FreeSlots_is l (by omega), Option.bind_some, impl_FreeSlots_is _ (by omega), Option.bind_some, show freeSlots l - freeSlots (allPut l t).1 = (t.length : Int) - ((allPut l t).2.length : Int) by omega, bne_self_eq_false, laws_FnPacked.J2_eq, if_neg (by decide)]
        exact packed_l0 l0 l t e hl ht h1 h2 t.length 0 (by omega)
      · rw [if_neg h2]
        exact hJ4
    · rw [if_neg h1, laws_FnPacked.J1_eq, if_neg (by decide)]
      exact hJ4

theorem FnPacked (l0 : List Int) (hm0 : l0.length ≤ maxLen) (hw0 : ∀ y ∈ l0, (fun n : Int => (Lit.int .u8 n).wf = true) y) : ∃ k, laws_FnPacked.f k l0 = some true :=
  (laws_FnPacked.F_co l0).rounds (law_FnPacked l0 hm0 hw0)
end Go.Proofs.Ytbacepkkamfeoaa.PFnPacked.Pure
