/-
  The law FnMarks answers true for every input. It has no conditions.
-/
import Derived.Test.YtppgealmedaihaaShFnMarks
import Derived.Test.YtppgealmedaihaaEqFnMarks
import Derived.Test.YtppgealmedaihaaBase
set_option linter.unusedVariables false
set_option linter.unusedSimpArgs false
namespace Go.Proofs.Ytppgealmedaihaa.PFnMarks.Pure
open Go.RowKit Go.Proofs.YtppgealmedaihaaW.PrintWords Go.Proofs.YtppgealmedaihaaW.PrintLast Go.Proofs.YtppgealmedaihaaW.PrintMore Go.Proofs.Ytppgealmedaihaa.PFnMarks Go.Proofs.Ytppgealmedaihaa.Lim Go.Proofs.Ytppgealmedaihaa.Base
set_option maxRecDepth 100000

theorem big_is (l : List Int) : laws_big.f l = some (decide ((l.length : Int) > 1048576)) := rfl

/-- A cursor's place in the bytes that it reads. -/
def CO (b : List Int) (i : Int) : Prop := 0 ≤ i ∧ i ≤ (b.length : Int) ∧ b.length ≤ 1048576
theorem and255 (x : Int) : 0 ≤ Go.bits .and .i64 x 255 ∧ Go.bits .and .i64 x 255 ≤ 255 := by
  have h : (BitVec.ofInt 64 255).toNat = 255 := by decide
  have h2 : (BitVec.ofInt 64 x &&& BitVec.ofInt 64 255).toNat ≤ 255 := by
    rw [BitVec.toNat_and, h]
    exact Nat.and_le_right
  show 0 ≤ IntKind.i64.wrap ((BitVec.ofInt 64 x &&& BitVec.ofInt 64 255).toNat : Int) ∧ IntKind.i64.wrap ((BitVec.ofInt 64 x &&& BitVec.ofInt 64 255).toNat : Int) ≤ 255
  rw [IntKind.wrap_i64]
  omega
theorem l1Byte_is (b : List Int) (i h : Int) (c : CO b i) : ∃ r i' h', spec_l1Byte.f b i h = some (r, i', h') ∧ 0 ≤ r ∧ r ≤ 255 ∧ CO b i' := by
  obtain ⟨c0, c1, c2⟩ := c
  unfold spec_l1Byte.f
  by_cases hi : i < (b.length : Int)
  · rw [if_pos hi, if_pos c0]
    refine ⟨_, _, _, rfl, (and255 _).1, (and255 _).2, ?_⟩
    rw [wrap_in _ (by omega)]
    exact ⟨by omega, by omega, c2⟩
  · rw [if_neg hi]
    exact ⟨_, _, _, rfl, (and255 _).1, (and255 _).2, c0, c1, c2⟩
theorem l1Below_is (b : List Int) (i h n : Int) (c : CO b i) (hn : n ≤ 10000000) : ∃ r i' h', spec_l1Below.f b i h n = some (r, i', h') ∧ 0 ≤ r ∧ (0 < n → r < n) ∧ (n ≤ 0 → r = 0) ∧ CO b i' := by
  unfold spec_l1Below.f
  by_cases h0 : n ≤ 0
  · rw [if_pos h0]
    exact ⟨0, i, h, rfl, by omega, fun _ => by omega, fun _ => rfl, c⟩
  · rw [if_neg h0]
    by_cases h1 : n ≤ 256
    · obtain ⟨r, i', h', e, r0, r1, c'⟩ := l1Byte_is b i h c
      rw [if_pos h1, e, Option.bind_some, if_neg (by omega), Int.tmod_eq_emod_of_nonneg r0]
      exact ⟨_, _, _, rfl, Int.emod_nonneg _ (by omega), fun _ => Int.emod_lt_of_pos _ (by omega), fun _ => by omega, c'⟩
    · obtain ⟨r, i', h', e, r0, r1, c'⟩ := l1Byte_is b i h c
      obtain ⟨s, i2, h2, e2, s0, s1, c2⟩ := l1Byte_is b i' h' c'
      obtain ⟨t, i3, h3, e3, t0, t1, c3⟩ := l1Byte_is b i2 h2 c2
      rw [if_neg h1, e, Option.bind_some]
      dsimp only
      rw [e2, Option.bind_some]
      dsimp only
      rw [e3, Option.bind_some, if_neg (by omega)]
      dsimp only
      rw [wrap_in (r * 65536) (by omega), wrap_in (s * 256) (by omega), wrap_in (r * 65536 + s * 256) (by omega), wrap_in (r * 65536 + s * 256 + t) (by omega), Int.tmod_eq_emod_of_nonneg (by omega)]
      exact ⟨_, _, _, rfl, Int.emod_nonneg _ (by omega), fun _ => Int.emod_lt_of_pos _ (by omega), fun _ => by omega, c3⟩
theorem below_pos (b : List Int) (i h n : Int) (c : CO b i) (h0 : 0 < n) (hn : n ≤ 10000000) : ∃ r i' h', spec_l1Below.f b i h n = some (r, i', h') ∧ 0 ≤ r ∧ r < n ∧ CO b i' := by
  obtain ⟨r, i', h', e, r0, r1, _, c'⟩ := l1Below_is b i h n c hn
  exact ⟨r, i', h', e, r0, r1 h0, c'⟩
theorem l1New_l0 (b : List Int) (hb : b.length ≤ 1048576) : ∀ (d i : Nat) (h : Int), i + d = b.length → ∃ h', spec_l1New.L0 b h (i : Int) = some (b, 0, h')
  | 0, i, h, hd => ⟨h, by rw [spec_l1New.L0_eq, if_neg (by omega)]⟩
  | d + 1, i, h, hd => by
    rw [spec_l1New.L0_eq, if_pos (by omega), if_pos (show (0 : Int) ≤ (i : Int) by omega), wrap_succ i (by omega)]
    by_cases h4 : (i : Int) < 4000
    · rw [if_pos h4]
      exact l1New_l0 b hb d (i + 1) _ (by omega)
    · rw [if_neg h4]
      exact ⟨h, rfl⟩
theorem l1New_is (b : List Int) (hb : b.length ≤ 1048576) : ∃ h', spec_l1New.F b = some (b, 0, h') ∧ CO b 0 := by
  obtain ⟨h', e⟩ := l1New_l0 b hb b.length 0 (wrap64 (193017 + (b.length : Int))) (by omega)
  exact ⟨h', by rw [spec_l1New.F_eq]; exact e, by unfold CO; omega⟩

theorem rdInt_at (l : List Int) (i : Nat) : rd l (i : Int) = l.getD i 0 := by simp [rd]
theorem dropInt (l : List Int) (i : Nat) (h : i < l.length) : l.drop i = rd l (i : Int) :: l.drop (i + 1) := by
  rw [rdInt_at, getD_get l i _ h]
  exact List.drop_eq_getElem_cons h

theorem l1Int_is (b : List Int) (i h : Int) (l : List Int) (c : CO b i) (h0 : 0 < l.length) (hn : l.length ≤ 1000) : ∃ r i' h', spec_l1Int.f b i h l = some (r, i', h') ∧ r ∈ l ∧ CO b i' := by
  obtain ⟨r, i', h', e, r0, r1, c'⟩ := below_pos b i h (l.length : Int) c (by omega) (by omega)
  unfold spec_l1Int.f
  rw [e, Option.bind_some]
  dsimp only
  rw [if_pos r0, if_pos r1]
  obtain ⟨j, rfl⟩ : ∃ j : Nat, r = j := ⟨r.toNat, by omega⟩
  refine ⟨_, _, _, rfl, ?_, c'⟩
  rw [show rd l (j : Int) = l[j]'(by omega) by simp [rd, show j < l.length by omega]]
  exact List.getElem_mem _

def okMark (l : List S62) (i : Nat) : Prop := inR (rd_T62 l i).f0 1 20 = true ∧ inR (rd_T62 l i).f1 0 99 = true ∧ ((i : Int) > 0 → (rd_T62 l ((i : Int) - 1)).f0 < (rd_T62 l i).f0)
noncomputable def areMarks (l : List S62) : Bool := allF (okMark l) l.length 0 && decide ((l.length : Int) ≤ 8)

theorem rdMark_at (l : List S62) (i : Nat) : rd_T62 l (i : Int) = l.getD i z62 := by simp [rd_T62]
theorem dropMark (l : List S62) (i : Nat) (h : i < l.length) : l.drop i = rd_T62 l (i : Int) :: l.drop (i + 1) := by
  rw [rdMark_at, getD_get l i _ h]
  exact List.drop_eq_getElem_cons h

def leadM (q : Int) : List S62 → Nat
  | [] => 0
  | m :: r => if m.f0 < q then leadM q r + 1 else 0
theorem leadM_le (q : Int) : ∀ l : List S62, leadM q l ≤ l.length
  | [] => Nat.le_refl _
  | m :: r => by
    have := leadM_le q r
    simp only [leadM, List.length_cons]
    split <;> omega
def rowM (l : List S62) (k : Nat) (same : Bool) (q a : Int) : List S62 := l.take k ++ [(⟨q, a⟩ : S62)] ++ (if same = true then (l.drop k).drop 1 else l.drop k)
noncomputable def sameM (l : List S62) (k : Nat) (q : Int) : Bool := decide (k < l.length ∧ (rd_T62 l (k : Int)).f0 = q)
noncomputable def putRowM (l : List S62) (q a : Int) : List S62 := rowM l (leadM q l) (sameM l (leadM q l) q) q a
noncomputable def putMark (l : List S62) (q a : Int) : List S62 × Bool := if areMarks (putRowM l q a) = true then (putRowM l q a, true) else (l, false)
theorem rowM_len (l : List S62) (k : Nat) (same : Bool) (q a : Int) (hk : k ≤ l.length) : (rowM l k same q a).length ≤ l.length + 1 := by
  unfold rowM
  rw [List.length_append, List.length_append, List.length_take, List.length_singleton]
  split
  · rw [List.length_drop, List.length_drop]; omega
  · rw [List.length_drop]; omega
theorem putRowM_len (l : List S62) (q a : Int) : (putRowM l q a).length ≤ l.length + 1 := rowM_len _ _ _ _ _ (leadM_le q l)
theorem putMark_len (l : List S62) (q a : Int) : (putMark l q a).1.length ≤ l.length + 1 := by
  unfold putMark
  split
  · exact putRowM_len l q a
  · exact Nat.le_succ _
theorem leadM_step (q : Int) (l : List S62) (i : Nat) (hi : i < l.length) : i + leadM q (l.drop i) = if (rd_T62 l (i : Int)).f0 < q then i + 1 + leadM q (l.drop (i + 1)) else i := by
  rw [dropMark l i hi, leadM]
  split <;> omega
theorem rdMark_drop (l : List S62) (k : Nat) : rd_T62 (l.drop k) 0 = rd_T62 l (k : Int) := by
  have h := rdMark_at (l.drop k) 0
  have e : ((0 : Nat) : Int) = 0 := rfl
  rw [e] at h
  rw [h, rdMark_at, List.getD_eq_getElem?_getD, List.getD_eq_getElem?_getD, List.getElem?_drop, Nat.add_zero]

theorem l1In (a b c : Int) : spec_l1In.f a b c = some (inR a b c) := by
  unfold spec_l1In.f inR
  by_cases h : b ≤ a <;> simp [h]

theorem spec_AreMarks_l0 (l : List S62) (hn : l.length ≤ 1048576) : ∀ (d i : Nat), i + d = l.length → spec_AreMarks.L0 l (i : Int) = some (allF (okMark l) l.length i && decide ((l.length : Int) ≤ 8))
  | 0, i, h => by rw [spec_AreMarks.L0_eq, if_neg (by omega), allF_end (by omega)]; first | done | rfl | simp [l1In, inR]
  | d + 1, i, h => by
    have hi : i < l.length := by omega
    have ih := spec_AreMarks_l0 l hn d (i + 1) (by omega)
    rw [spec_AreMarks.L0_eq]
    simp only [wrap_succ i (by omega), wrap_pred i (by omega), ih, l1In, Option.bind_some]
    by_cases hp_ : okMark l i
    · rw [allF_yes hp_]
      simp only [okMark] at hp_
      obtain ⟨h1_, h2_, h3_⟩ := hp_
      repeat' split
      all_goals first
        | rfl
        | (exfalso; first | contradiction | omega)
    · rw [allF_no hi hp_]
      repeat' split
      all_goals first
        | rfl
        | (simp; done)
        | (exfalso; first | contradiction | omega)
        | (exfalso; apply hp_; simp only [okMark]; (repeat' constructor) <;> first | assumption | (intro _; omega) | omega)

theorem spec_AreMarks_is (l : List S62) (hn : l.length ≤ 1048576) : spec_AreMarks.F l = some (areMarks l) := by
  rw [spec_AreMarks.F_eq, areMarks]
  exact spec_AreMarks_l0 l hn l.length 0 (by omega)

theorem spec_PutMark_J2' (l : List S62) (k : Nat) (same : Bool) (q a : Int) (hk : k ≤ l.length) (hl : l.length ≤ 1000000) (hs : same = true → k < l.length) : spec_PutMark.J2 l (k : Int) (l.drop k) same q a = some (if areMarks (rowM l k same q a) = true then (rowM l k same q a, true) else (l, false)) := by
  have hlen := rowM_len l k same q a hk
  rw [spec_PutMark.J2_eq]
  cases same with
  | true =>
    by_cases h1 : 1 ≤ ((l.drop k).length : Int)
    · simp only [if_true, Option.bind_some, List.nil_append, Int.toNat_natCast]
      rw [if_pos h1, if_pos (by omega), if_pos (by omega), if_pos (by simp; omega), if_pos (by simp; omega), if_pos (by simp; omega)]
      have e : l.take k ++ [(⟨q, a⟩ : S62)] ++ (l.drop k).drop 1 = rowM l k true q a := rfl
      rw [e, spec_AreMarks_is _ (by omega), Option.bind_some]
      split
      · rfl
      · rw [if_pos (by simp; omega)]
    · exact absurd (hs rfl) (fun h => h1 (by rw [List.length_drop]; omega))
  | false =>
    simp only [Bool.false_eq_true, if_false, Option.bind_some, List.nil_append, Int.toNat_natCast]
    rw [if_pos (by omega), if_pos (by omega), if_pos (by simp; omega), if_pos (by simp; omega), if_pos (by simp; omega)]
    have e : l.take k ++ [(⟨q, a⟩ : S62)] ++ l.drop k = rowM l k false q a := rfl
    rw [e, spec_AreMarks_is _ (by omega), Option.bind_some]
    split
    · rfl
    · rw [if_pos (by simp; omega)]
theorem spec_PutMark_l0 (l : List S62) (q a : Int) (hl : l.length ≤ 1000000) : ∀ (d i : Nat), i + d = l.length → spec_PutMark.L0 l (i : Int) q a = spec_PutMark.J1 l ((i + leadM q (l.drop i) : Nat) : Int) q a
  | 0, i, h => by rw [spec_PutMark.L0_eq, if_neg (by omega), List.drop_of_length_le (by omega)]; rfl
  | d + 1, i, h => by
    rw [spec_PutMark.L0_eq, if_pos (by omega), if_pos (by omega), wrap_succ i (by omega), spec_PutMark_l0 l q a hl d (i + 1) (by omega), leadM_step q l i (by omega)]
    split <;> rfl
theorem spec_PutMark_is (l : List S62) (q a : Int) (hl : l.length ≤ 1000000) : spec_PutMark.F l q a = some (putMark l q a) := by
  have h0 := spec_PutMark_l0 l q a hl l.length 0 (by omega)
  rw [List.drop_zero, Nat.zero_add] at h0
  have hk := leadM_le q l
  rw [spec_PutMark.F_eq]
  refine Eq.trans h0 ?_
  rw [spec_PutMark.J1_eq, if_pos (by omega), if_pos (by omega), Option.bind_some, Int.toNat_natCast, rdMark_drop, putMark, putRowM]
  by_cases h1 : leadM q l < l.length
  · rw [if_pos (by rw [List.length_drop]; omega), if_pos (by rw [List.length_drop]; omega), spec_PutMark_J2' l _ _ q a hk hl (fun _ => h1)]
    have e : ((rd_T62 l (leadM q l : Int)).f0 == q) = sameM l (leadM q l) q := by
      unfold sameM
      rw [Bool.eq_iff_iff, beq_iff_eq, decide_eq_true_iff]
      exact ⟨fun h => ⟨h1, h⟩, fun h => h.2⟩
    rw [e]
  · have e : sameM l (leadM q l) q = false := decide_eq_false (fun h => h1 h.1)
    rw [if_neg (by rw [List.length_drop]; omega), spec_PutMark_J2' l _ _ q a hk hl (fun h => by cases h), e]

theorem l11Draw_l0 (b : List Int) : ∀ (n : Nat) (l : List S62) (i h : Int), CO b i → l.length + n ≤ 1000 → ∃ l' i' h', spec_l11Draw.L0 l (n : Int) b i h = some (l', i', h') ∧ CO b i' ∧ l'.length ≤ l.length + n
  | 0, l, i, h, c, hn => ⟨l, i, h, by rw [spec_l11Draw.L0_eq, if_neg (by omega)], c, Nat.le_refl _⟩
  | n + 1, l, i, h, c, hn => by
    obtain ⟨r, i1, h1, e1, _, _, c1⟩ := below_pos b i h 8 c (by omega) (by omega)
    obtain ⟨s, i2, h2, e2, _, _, c2⟩ := below_pos b i1 h1 9 c1 (by omega) (by omega)
    rw [spec_l11Draw.L0_eq, if_pos (by omega), e1, Option.bind_some]
    dsimp only
    rw [e2, Option.bind_some]
    dsimp only
    rw [spec_PutMark_is l _ _ (by omega), Option.bind_some, show wrap64 (((n + 1 : Nat) : Int) - 1) = (n : Int) by rw [wrap_in _ (by omega)]; omega]
    have hl := putMark_len l (wrap64 (1 + r)) s
    obtain ⟨l', i', h', e, c', hl'⟩ := l11Draw_l0 b n (putMark l (wrap64 (1 + r)) s).1 i2 h2 c2 (by omega)
    exact ⟨l', i', h', e, c', by omega⟩
theorem l11Draw_is (b : List Int) (i h : Int) (c : CO b i) : ∃ l' i' h', spec_l11Draw.F b i h = some (l', i', h') ∧ CO b i' ∧ l'.length ≤ 6 := by
  obtain ⟨r, i1, h1, e1, r0, r1, c1⟩ := below_pos b i h 6 c (by omega) (by omega)
  rw [spec_l11Draw.F_eq, e1, Option.bind_some]
  obtain ⟨n, rfl⟩ : ∃ n : Nat, r = n := ⟨r.toNat, by omega⟩
  obtain ⟨l', i', h', e, c', hl'⟩ := l11Draw_l0 b n [] i1 h1 c1 (by simp; omega)
  exact ⟨l', i', h', e, c', by simp at hl'; omega⟩
theorem l11Any_is (b : List Int) (i h : Int) (c : CO b i) : ∃ l' i' h', spec_l11Any.F b i h = some (l', i', h') ∧ CO b i' ∧ l'.length ≤ 6 := by
  obtain ⟨l, i1, h1, e1, c1, hl⟩ := l11Draw_is b i h c
  rw [spec_l11Any.F_eq, e1, Option.bind_some]
  dsimp only
  by_cases h0 : (l.length : Int) = 0
  · rw [if_pos h0]
    exact ⟨l, i1, h1, rfl, c1, hl⟩
  · obtain ⟨r, i2, h2, e2, r0, r1, c2⟩ := below_pos b i1 h1 (l.length : Int) c1 (by omega) (by omega)
    obtain ⟨s, i3, h3, e3, _, _, c3⟩ := below_pos b i2 h2 9 c2 (by omega) (by omega)
    rw [if_neg h0, e2, Option.bind_some]
    dsimp only
    rw [e3, Option.bind_some]
    dsimp only
    by_cases s0 : s = 0
    · obtain ⟨v, i4, h4, e4, _, c4⟩ := l1Int_is b i3 h3 [0, 20, 21] c3 (by decide) (by decide)
      rw [if_pos s0, e4, Option.bind_some]
      dsimp only
      rw [if_pos r0, if_pos r1]
      exact ⟨_, i4, h4, rfl, c4, by rw [List.length_set]; exact hl⟩
    · rw [if_neg s0]
      by_cases s1 : s = 1
      · obtain ⟨v, i4, h4, e4, _, c4⟩ := l1Int_is b i3 h3 [-1, 99, 100] c3 (by decide) (by decide)
        rw [if_pos s1, e4, Option.bind_some]
        dsimp only
        rw [if_pos r0, if_pos r1]
        exact ⟨_, i4, h4, rfl, c4, by rw [List.length_set]; exact hl⟩
      · rw [if_neg s1]
        exact ⟨l, i3, h3, rfl, c3, hl⟩

def hashStep (d x : Int) : Int := Int.tmod (wrap64 (wrap64 (wrap64 (d * 1000003) + x % 2147483647) + 13)) 2147483647
def hashL : List Int → Int → Int
  | [], d => d
  | x :: r, d => hashL r (hashStep d x)
theorem hashStep_bd (d x : Int) (h : 0 ≤ d ∧ d < 2147483647) : 0 ≤ hashStep d x ∧ hashStep d x < 2147483647 := by
  have hx := Int.emod_nonneg x (show (2147483647 : Int) ≠ 0 by decide)
  have hy := Int.emod_lt_of_pos x (show (0 : Int) < 2147483647 by decide)
  unfold hashStep
  generalize x % 2147483647 = y at *
  rw [wrap_in (d * 1000003) (by omega), wrap_in (d * 1000003 + y) (by omega), wrap_in (d * 1000003 + y + 13) (by omega), Int.tmod_eq_emod_of_nonneg (by omega)]
  exact ⟨Int.emod_nonneg _ (by decide), Int.emod_lt_of_pos _ (by decide)⟩
theorem hashL_bd : ∀ (l : List Int) (d : Int), 0 ≤ d ∧ d < 2147483647 → 0 ≤ hashL l d ∧ hashL l d < 2147483647
  | [], d, h => h
  | x :: r, d, h => hashL_bd r _ (hashStep_bd d x h)
theorem tmod_of (x : Int) : Int.tmod x 2147483647 = if x % 2147483647 = 0 then 0 else if 0 ≤ x then x % 2147483647 else x % 2147483647 - 2147483647 := by
  by_cases h : 0 ≤ x
  · rw [Int.tmod_eq_emod_of_nonneg h]
    split
    · assumption
    · first | rfl | rw [if_pos h]
  · rw [Int.tmod_eq_emod]
    simp only [h, false_or, if_false]
    split
    · rename_i h1
      rw [if_pos (Int.emod_eq_zero_of_dvd h1), Int.emod_eq_zero_of_dvd h1]
      rfl
    · rename_i h1
      rw [if_neg (fun h2 => h1 (Int.dvd_of_emod_eq_zero h2))]
      rfl

def flatMarks : List S62 → List Int
  | [] => []
  | m :: r => m.f0 :: m.f1 :: flatMarks r
theorem flatMarks_len : ∀ (l : List S62), (flatMarks l).length = 2 * l.length
  | [] => rfl
  | m :: r => by simp only [flatMarks, List.length_cons, flatMarks_len r]; omega
def sealMarks (l : List S62) (salt : Int) : Int := hashL (salt :: flatMarks l) 11

theorem inRange (a b c : Int) : impl_InRange.f a b c = some (inR a b c) := by
  unfold impl_InRange.f inR
  by_cases h : b ≤ a <;> simp [h]

theorem impl_fold_is (a x : Int) : impl_fold.f a x = some (hashStep a x) := by
  have hx := Int.emod_nonneg x (show (2147483647 : Int) ≠ 0 by decide)
  have hy := Int.emod_lt_of_pos x (show (0 : Int) < 2147483647 by decide)
  have e : impl_Mod.f x 2147483647 = some (x % 2147483647) := by
    unfold impl_Mod.f
    rw [inRange, Option.bind_some, if_pos (by decide), if_neg (by decide), tmod_of x]
    by_cases h : x % 2147483647 = 0
    · rw [if_pos h, if_neg (by decide), h]
    · rw [if_neg h]
      by_cases h0 : 0 ≤ x
      · rw [if_pos h0, if_neg (by omega)]
      · rw [if_neg h0, if_pos (by omega), wrap_in _ (by omega)]
        congr 1
        omega
  unfold impl_fold.f
  rw [e, Option.bind_some]
  rfl
theorem impl_Hash_l0 (l : List Int) (hn : l.length ≤ 4194304) : ∀ (d i : Nat) (a : Int), i + d = l.length → impl_Hash.L0 a l (l.length : Int) (i : Int) = some (hashL (l.drop i) a)
  | 0, i, a, h => by rw [impl_Hash.L0_eq, if_neg (by omega), List.drop_of_length_le (by omega)]; rfl
  | d + 1, i, a, h => by
    rw [impl_Hash.L0_eq, if_pos (by omega), if_pos (by omega), if_pos (by omega), impl_fold_is, Option.bind_some, wrap_succ i (by omega), impl_Hash_l0 l hn d (i + 1) _ (by omega), dropInt l i (by omega)]
    rfl
theorem impl_Hash_is (l : List Int) (hn : l.length ≤ 4194304) : impl_Hash.F l = some (hashL l 11) := by
  rw [impl_Hash.F_eq]
  exact impl_Hash_l0 l hn l.length 0 11 (by omega)

theorem impl_SealMarks_l0 (l : List S62) (hn : l.length ≤ 1048576) : ∀ (d i : Nat) (acc : List Int), i + d = l.length → acc.length = 1 + 2 * i → impl_SealMarks.L0 acc l (l.length : Int) (i : Int) = some (hashL (acc ++ flatMarks (l.drop i)) 11)
  | 0, i, acc, h, ha => by
    rw [impl_SealMarks.L0_eq, if_neg (by omega), impl_Hash_is acc (by omega), List.drop_of_length_le (by omega)]
    simp [flatMarks]
  | d + 1, i, acc, h, ha => by
    rw [impl_SealMarks.L0_eq, if_pos (by omega), if_pos (by omega), if_pos (by omega), Option.bind_some, if_pos (by simp only [List.length_cons, List.length_nil]; omega), wrap_succ i (by omega), impl_SealMarks_l0 l hn d (i + 1) _ (by omega) (by simp; omega), dropMark l i (by omega)]
    simp [flatMarks]
theorem impl_SealMarks_is (l : List S62) (salt : Int) (hn : l.length ≤ 1048576) : impl_SealMarks.F l salt = some (sealMarks l salt) := by
  rw [impl_SealMarks.F_eq]
  exact impl_SealMarks_l0 l hn l.length 0 [salt] (by omega) rfl

theorem impl_AreMarks_l0 (l : List S62) (hn : l.length ≤ 1048576) : ∀ (d i : Nat), i + d = l.length → impl_AreMarks.L0 l l (l.length : Int) (i : Int) = some (allF (okMark l) l.length i)
  | 0, i, h => by rw [impl_AreMarks.L0_eq, if_neg (by omega), allF_end (by omega)]; first | done | rfl | simp [inRange, inR]
  | d + 1, i, h => by
    have hi : i < l.length := by omega
    have ih := impl_AreMarks_l0 l hn d (i + 1) (by omega)
    rw [impl_AreMarks.L0_eq]
    simp only [wrap_succ i (by omega), wrap_pred i (by omega), ih, inRange, Option.bind_some]
    by_cases hp_ : okMark l i
    · rw [allF_yes hp_]
      simp only [okMark] at hp_
      obtain ⟨h1_, h2_, h3_⟩ := hp_
      repeat' split
      all_goals first
        | rfl
        | (exfalso; first | contradiction | omega)
    · rw [allF_no hi hp_]
      repeat' split
      all_goals first
        | rfl
        | (simp; done)
        | (exfalso; first | contradiction | omega)
        | (exfalso; apply hp_; simp only [okMark]; (repeat' constructor) <;> first | assumption | (intro _; omega) | omega)

theorem impl_AreMarks_is (l : List S62) (hn : l.length ≤ 1048576) : impl_AreMarks.F l = some (areMarks l) := by
  rw [impl_AreMarks.F_eq, areMarks]
  by_cases h : (l.length : Int) > 8
  · rw [if_pos h, decide_eq_false (by omega), Bool.and_false]
  · rw [if_neg h, decide_eq_true (by omega), Bool.and_true]
    exact impl_AreMarks_l0 l hn l.length 0 (by omega)

theorem impl_OpensSeal_is (l : List S62) (salt seal_ : Int) (hn : l.length ≤ 1048576) : impl_OpensSeal.F l salt seal_ = some (areMarks l && sealMarks l salt == seal_) := by
  rw [impl_OpensSeal.F_eq, impl_AreMarks_is l hn, Option.bind_some, impl_SealMarks_is l salt hn]
  by_cases h : areMarks l = true
  · rw [if_pos h, h, Bool.true_and]; rfl
  · rw [if_neg h, Bool.eq_false_iff.2 h, Bool.false_and]

noncomputable def questionFor (l : List S62) (c n : Int) : Int :=
  if l.length ≠ 0 ∧ areMarks l = true ∧ inR n 0 1000 = true then (rd_T62 l ((hashL [c] 11 % (l.length : Int) + n) % (l.length : Int))).f0 else 0
theorem question_idx (c n m : Int) (hm : 0 < m ∧ m ≤ 1048576) (hn : 0 ≤ n ∧ n ≤ 1000) : Int.tmod (wrap64 (Int.tmod (hashL [c] 11) m + n)) m = (hashL [c] 11 % m + n) % m ∧ 0 ≤ (hashL [c] 11 % m + n) % m ∧ (hashL [c] 11 % m + n) % m < m := by
  have hb := hashL_bd [c] 11 (by omega)
  have h1 := Int.emod_nonneg (hashL [c] 11) (show m ≠ 0 by omega)
  have h2 := Int.emod_lt_of_pos (hashL [c] 11) hm.1
  rw [Int.tmod_eq_emod_of_nonneg hb.1, wrap_in _ (by omega), Int.tmod_eq_emod_of_nonneg (by omega)]
  exact ⟨rfl, Int.emod_nonneg _ (by omega), Int.emod_lt_of_pos _ hm.1⟩

theorem impl_QuestionFor_is (l : List S62) (c n : Int) (hn : l.length ≤ 1048576) : impl_QuestionFor.F l c n = some (questionFor l c n) := by
  rw [impl_QuestionFor.F_eq, questionFor]
  by_cases h0 : l.length = 0
  · rw [if_pos (by omega), if_neg (fun h => h.1 h0)]
  · rw [if_neg (by omega), impl_AreMarks_is l hn, Option.bind_some]
    by_cases h1 : areMarks l = true
    · rw [if_pos h1, inRange, Option.bind_some]
      by_cases h2 : inR n 0 1000 = true
      · obtain ⟨e, e1, e2⟩ := question_idx c n (l.length : Int) (by omega) (inR_iff.1 h2)
        rw [if_pos h2, impl_Hash_is [c] (by simp), Option.bind_some, e, if_pos e1, if_pos e2, if_pos ⟨h0, h1, h2⟩]
      · rw [if_neg h2, if_neg (fun h => h2 h.2.2)]
    · rw [if_neg h1, if_neg (fun h => h1 h.2.1)]

def answerOf : List S62 → Int → Int
  | [], _ => -1
  | m :: r, q => if m.f0 = q then m.f1 else answerOf r q

theorem impl_AnswerOf_l0 (l : List S62) (q : Int) (hn : l.length ≤ 1048576) : ∀ (d i : Nat), i + d = l.length → impl_AnswerOf.L0 q l (l.length : Int) (i : Int) = some (answerOf (l.drop i) q)
  | 0, i, h => by rw [impl_AnswerOf.L0_eq, if_neg (by omega), List.drop_of_length_le (by omega)]; rfl
  | d + 1, i, h => by
    have hi : i < l.length := by omega
    have ih := impl_AnswerOf_l0 l q hn d (i + 1) (by omega)
    rw [impl_AnswerOf.L0_eq, dropMark l i hi]
    simp only [wrap_succ i (by omega), wrap_pred i (by omega), ih, Option.bind_some, answerOf]
    repeat' split
    all_goals first
      | rfl
      | (exfalso; first | contradiction | omega)
      | (simp_all; done)

theorem impl_AnswerOf_is (l : List S62) (q : Int) (hn : l.length ≤ 1048576) : impl_AnswerOf.F l q = some (answerOf l q) := by
  rw [impl_AnswerOf.F_eq]
  exact impl_AnswerOf_l0 l q hn l.length 0 (by omega)

theorem cloneMark_is (l : List S62) (hn : l.length ≤ 4194304) : impl_Mark_116.f l = some l := by
  unfold impl_Mark_116.f
  rw [Option.bind_some, if_pos (by simp only [List.length_nil]; omega)]
  rfl

theorem impl_PutMark_J3 (l x6 : List S62) (hl : l.length ≤ 1000000) (hx : x6.length ≤ 1048576) : impl_PutMark.J3 l x6 = some (if areMarks x6 = true then (x6, true) else (l, false)) := by
  rw [impl_PutMark.J3_eq, impl_AreMarks_is x6 hx, Option.bind_some]
  split
  · rfl
  · rw [cloneMark_is l (by omega)]; rfl
theorem impl_PutMark_J2 (l : List S62) (k : Nat) (same : Bool) (q a : Int) (hk : k ≤ l.length) (hl : l.length ≤ 900000) (hs : same = true → k < l.length) : impl_PutMark.J2 l l (k : Int) same q a = some (if areMarks (rowM l k same q a) = true then (rowM l k same q a, true) else (l, false)) := by
  have hlen := rowM_len l k same q a hk
  rw [impl_PutMark.J2_eq]
  cases same with
  | true =>
    have hlt := hs rfl
    rw [if_pos rfl, if_pos (by omega), if_pos (by omega), Int.toNat_natCast]
    have e : l.set k (⟨q, a⟩ : S62) = rowM l k true q a := by
      unfold rowM
      rw [if_pos rfl, List.drop_drop, List.set_eq_take_append_cons_drop, if_pos hlt]
      simp
    rw [e]
    exact impl_PutMark_J3 l _ (by omega) (by omega)
  | false =>
    rw [if_neg (by decide), impl_Mark_117.f, if_pos ⟨by omega, by omega, by simp, by rw [List.length_singleton]; omega⟩, Option.bind_some, Int.toNat_natCast]
    have e : l.take k ++ [(⟨q, a⟩ : S62)] ++ l.drop k = rowM l k false q a := rfl
    rw [e]
    exact impl_PutMark_J3 l _ (by omega) (by omega)
theorem impl_PutMark_l0 (l : List S62) (q a : Int) (hl : l.length ≤ 900000) : ∀ (d i : Nat), i + d = l.length → impl_PutMark.L0 l l (i : Int) q a = impl_PutMark.J1 l l ((i + leadM q (l.drop i) : Nat) : Int) q a
  | 0, i, h => by rw [impl_PutMark.L0_eq, if_neg (by omega), List.drop_of_length_le (by omega)]; rfl
  | d + 1, i, h => by
    rw [impl_PutMark.L0_eq, if_pos (by omega), if_pos (by omega), wrap_succ i (by omega), impl_PutMark_l0 l q a hl d (i + 1) (by omega), leadM_step q l i (by omega)]
    split <;> rfl
theorem impl_PutMark_is (l : List S62) (q a : Int) (hl : l.length ≤ 900000) : impl_PutMark.F l q a = some (putMark l q a) := by
  have h0 := impl_PutMark_l0 l q a hl l.length 0 (by omega)
  rw [List.drop_zero, Nat.zero_add] at h0
  have hk := leadM_le q l
  rw [impl_PutMark.F_eq, cloneMark_is l (by omega), Option.bind_some]
  refine Eq.trans h0 ?_
  rw [impl_PutMark.J1_eq, putMark, putRowM]
  by_cases h1 : leadM q l < l.length
  · have e : ((rd_T62 l (leadM q l : Int)).f0 == q) = sameM l (leadM q l) q := by
      unfold sameM
      rw [Bool.eq_iff_iff, beq_iff_eq, decide_eq_true_iff]
      exact ⟨fun h => ⟨h1, h⟩, fun h => h.2⟩
    rw [if_pos (by omega), if_pos (by omega), e, impl_PutMark_J2 l _ _ q a hk hl (fun _ => h1)]
  · have e : sameM l (leadM q l) q = false := decide_eq_false (fun h => h1 h.1)
    rw [if_neg (by omega), e, impl_PutMark_J2 l _ _ q a hk hl (fun h => by cases h)]

noncomputable def isTrial (a0 a1 a2 a3 : Int) : Bool := inR a0 1 999 && inR a2 0 100 && inR a3 0 100 && a1 == wrap64 (a2 + a3)
noncomputable def trialState (l : List S62) (a0 a1 a2 a3 : Int) : Int :=
  if isTrial a0 a1 a2 a3 = true ∧ areMarks l = true ∧ ¬ a3 > 1 then (if (l.length : Int) > 0 ∧ a2 ≥ (if (l.length : Int) < 3 then (l.length : Int) else 3) then 1 else 0) else 2

noncomputable def nextQuestion (l : List S62) (a0 a1 a2 a3 : Int) : Int := if trialState l a0 a1 a2 a3 = 0 then questionFor l a0 a1 else 0

noncomputable def giveAnswer (l : List S62) (a0 a1 a2 a3 a : Int) : Int × Int × Int × Int × Bool :=
  if nextQuestion l a0 a1 a2 a3 = 0 then (a0, a1, a2, a3, false)
  else if answerOf l (nextQuestion l a0 a1 a2 a3) = a then (a0, wrap64 (a1 + 1), wrap64 (a2 + 1), a3, true) else (a0, wrap64 (a1 + 1), a2, wrap64 (a3 + 1), true)

noncomputable def answerAll (l : List S62) : List Int → Int → Int → Int → Int → Int × Int × Int × Int
  | [], a0, a1, a2, a3 => (a0, a1, a2, a3)
  | a :: r, a0, a1, a2, a3 => answerAll l r (giveAnswer l a0 a1 a2 a3 a).1 (giveAnswer l a0 a1 a2 a3 a).2.1 (giveAnswer l a0 a1 a2 a3 a).2.2.1 (giveAnswer l a0 a1 a2 a3 a).2.2.2.1

theorem marks_ok {l : List S62} (h : areMarks l = true) (i : Nat) (hi : i < l.length) : 1 ≤ (rd_T62 l (i : Int)).f0 ∧ (rd_T62 l (i : Int)).f0 ≤ 20 ∧ 0 ≤ (rd_T62 l (i : Int)).f1 ∧ (rd_T62 l (i : Int)).f1 ≤ 99 := by
  unfold areMarks at h
  rw [Bool.and_eq_true, allF_all] at h
  have h1 := h.1 i hi
  have h2 := inR_iff.1 h1.1
  have h3 := inR_iff.1 h1.2.1
  omega
theorem question_pos {l : List S62} (h : areMarks l = true) (hl : 0 < l.length) (hn : l.length ≤ 1048576) (c n : Int) (h0 : 0 ≤ n ∧ n ≤ 1000) : 1 ≤ questionFor l c n ∧ ∃ j : Nat, j < l.length ∧ questionFor l c n = (rd_T62 l (j : Int)).f0 := by
  obtain ⟨_, e1, e2⟩ := question_idx c n (l.length : Int) (by omega) h0
  rw [questionFor, if_pos ⟨by omega, h, inR_iff.2 h0⟩]
  obtain ⟨j, hj⟩ : ∃ j : Nat, (hashL [c] 11 % (l.length : Int) + n) % (l.length : Int) = j := ⟨((hashL [c] 11 % (l.length : Int) + n) % (l.length : Int)).toNat, by omega⟩
  rw [hj] at e2 ⊢
  exact ⟨(marks_ok h j (by omega)).1, j, by omega, rfl⟩
def needM (l : List S62) : Int := if (l.length : Int) < 3 then (l.length : Int) else 3
theorem nq_open {l : List S62} {a0 a1 a2 a3 : Int} (h : nextQuestion l a0 a1 a2 a3 ≠ 0) : (1 ≤ a0 ∧ a0 ≤ 999) ∧ a1 = a2 + a3 ∧ 0 ≤ a2 ∧ a2 ≤ 2 ∧ 0 ≤ a3 ∧ a3 ≤ 1 := by
  unfold nextQuestion at h
  by_cases hs : trialState l a0 a1 a2 a3 = 0
  · rw [if_pos hs] at h
    unfold questionFor at h
    by_cases hq : l.length ≠ 0 ∧ areMarks l = true ∧ inR a1 0 1000 = true
    · unfold trialState at hs
      by_cases hc : isTrial a0 a1 a2 a3 = true ∧ areMarks l = true ∧ ¬ a3 > 1
      · rw [if_pos hc] at hs
        by_cases hd : (l.length : Int) > 0 ∧ a2 ≥ (if (l.length : Int) < 3 then (l.length : Int) else 3)
        · rw [if_pos hd] at hs
          omega
        · have hl := hq.1
          have h2 : ¬ a2 ≥ (if (l.length : Int) < 3 then (l.length : Int) else 3) := fun hh => hd ⟨by omega, hh⟩
          have ht := hc.1
          unfold isTrial at ht
          simp only [Bool.and_eq_true, inR_iff, beq_iff_eq] at ht
          obtain ⟨⟨⟨t0, t1⟩, t2⟩, t3⟩ := ht
          rw [wrap_in _ (by omega)] at t3
          have h3 : a2 ≤ 2 := by split at h2 <;> omega
          exact ⟨t0, t3, t1.1, h3, t2.1, by omega⟩
      · rw [if_neg hc] at hs
        omega
    · rw [if_neg hq] at h
      exact absurd rfl h
  · rw [if_neg hs] at h
    exact absurd rfl h
theorem answerOf_rng : ∀ (l : List S62) (q : Int), (∀ m ∈ l, 0 ≤ m.f1) → answerOf l q = -1 ∨ 0 ≤ answerOf l q
  | [], q, _ => .inl rfl
  | m :: r, q, h => by
    simp only [answerOf]
    by_cases c : m.f0 = q
    · rw [if_pos c]
      exact .inr (h m (List.mem_cons_self ..))
    · rw [if_neg c]
      exact answerOf_rng r q (fun y hy => h y (List.mem_cons_of_mem _ hy))
theorem marks_mem {l : List S62} (h : areMarks l = true) : ∀ m ∈ l, 0 ≤ m.f1 := by
  intro m hm
  obtain ⟨j, hj, rfl⟩ := List.getElem_of_mem hm
  have := (marks_ok h j hj).2.2.1
  rw [rdMark_at, getD_get l j _ hj] at this
  exact this
theorem state_open {l : List S62} (h : areMarks l = true) (hl : 0 < l.length) (a1 a2 a3 : Int) (h1 : a1 = a2 + a3) (h2 : 0 ≤ a2) (h3 : a2 < needM l) (h4 : 0 ≤ a3 ∧ a3 ≤ 1) : trialState l 7 a1 a2 a3 = 0 := by
  unfold needM at h3
  have h5 : a2 ≤ 2 := by split at h3 <;> omega
  have ht : isTrial 7 a1 a2 a3 = true := by
    unfold isTrial
    simp only [Bool.and_eq_true, inR_iff, beq_iff_eq]
    rw [wrap_in _ (by omega)]
    omega
  unfold trialState
  rw [if_pos ⟨ht, h, by omega⟩, if_neg (fun hh => by have := hh.2; omega)]
theorem give_right {l : List S62} (h : areMarks l = true) (hl : 0 < l.length) (hn : l.length ≤ 1048576) (i : Int) (h0 : 0 ≤ i) (h1 : i < needM l) : giveAnswer l 7 i i 0 (answerOf l (nextQuestion l 7 i i 0)) = (7, i + 1, i + 1, 0, true) := by
  have hs := state_open h hl i i 0 (by omega) h0 h1 (by omega)
  have hi : i ≤ 2 := by unfold needM at h1; split at h1 <;> omega
  have hq := question_pos h hl hn 7 i (by omega)
  have e : nextQuestion l 7 i i 0 = questionFor l 7 i := by rw [nextQuestion, if_pos hs]
  rw [giveAnswer, if_neg (by rw [e]; omega), if_pos rfl, wrap_in _ (by omega)]
theorem give_wrong {l : List S62} (h : areMarks l = true) (hl : 0 < l.length) (hn : l.length ≤ 1048576) (i : Int) (h0 : 0 ≤ i ∧ i ≤ 1) : giveAnswer l 7 i 0 i (-5) = (7, i + 1, 0, i + 1, true) := by
  have h1 : (0 : Int) < needM l := by unfold needM; split <;> omega
  have hs := state_open h hl i 0 i (by omega) (by omega) h1 h0
  have hq := question_pos h hl hn 7 i (by omega)
  have e : nextQuestion l 7 i 0 i = questionFor l 7 i := by rw [nextQuestion, if_pos hs]
  have ha : answerOf l (nextQuestion l 7 i 0 i) ≠ -5 := by
    rcases answerOf_rng l (nextQuestion l 7 i 0 i) (marks_mem h) with h | h <;> omega
  rw [giveAnswer, if_neg (by rw [e]; omega), if_neg ha, wrap_in _ (by omega)]
theorem bad_state (l : List S62) : trialState l 7 2 0 2 = 2 := by
  unfold trialState
  rw [if_neg (fun hh => hh.2.2 (by omega))]
theorem bad_is {l : List S62} (h : areMarks l = true) (hl : 0 < l.length) (hn : l.length ≤ 1048576) : answerAll l [-5, -5, -5] 7 0 0 0 = (7, 2, 0, 2) := by
  have e3 : giveAnswer l 7 2 0 2 (-5) = (7, 2, 0, 2, false) := by
    rw [giveAnswer, if_pos (by rw [nextQuestion, bad_state, if_neg (by omega)])]
  have e1 : giveAnswer l 7 0 0 0 (-5) = (7, 1, 0, 1, true) := give_wrong h hl hn 0 (by omega)
  have e2 : giveAnswer l 7 1 0 1 (-5) = (7, 2, 0, 2, true) := give_wrong h hl hn 1 (by omega)
  simp only [answerAll, e1, e2, e3]
theorem give_step (l : List S62) (a0 a1 a2 a3 a : Int) : (nextQuestion l a0 a1 a2 a3 = 0 ∧ giveAnswer l a0 a1 a2 a3 a = (a0, a1, a2, a3, false)) ∨
    (nextQuestion l a0 a1 a2 a3 ≠ 0 ∧ ((1 ≤ a0 ∧ a0 ≤ 999) ∧ a1 = a2 + a3 ∧ 0 ≤ a2 ∧ a2 ≤ 2 ∧ 0 ≤ a3 ∧ a3 ≤ 1) ∧ (giveAnswer l a0 a1 a2 a3 a = (a0, a1 + 1, a2 + 1, a3, true) ∨ giveAnswer l a0 a1 a2 a3 a = (a0, a1 + 1, a2, a3 + 1, true))) := by
  unfold giveAnswer
  by_cases h : nextQuestion l a0 a1 a2 a3 = 0
  · exact .inl ⟨h, by rw [if_pos h]⟩
  · have hf := nq_open h
    rw [if_neg h, wrap_in (a1 + 1) (by omega), wrap_in (a2 + 1) (by omega), wrap_in (a3 + 1) (by omega)]
    refine .inr ⟨h, hf, ?_⟩
    split
    · exact .inl rfl
    · exact .inr rfl
theorem answerAll_grows (l : List S62) : ∀ (q : List Int) (a0 a1 a2 a3 : Int), a2 ≤ (answerAll l q a0 a1 a2 a3).2.2.1 ∧ a3 ≤ (answerAll l q a0 a1 a2 a3).2.2.2 ∧ ((answerAll l q a0 a1 a2 a3).2.1 = a1 ∨ (0 ≤ a1 ∧ a1 ≤ 3 ∧ a1 ≤ (answerAll l q a0 a1 a2 a3).2.1 ∧ (answerAll l q a0 a1 a2 a3).2.1 ≤ a1 + (q.length : Int)))
  | [], a0, a1, a2, a3 => ⟨Int.le_refl _, Int.le_refl _, .inl rfl⟩
  | a :: r, a0, a1, a2, a3 => by
    rw [List.length_cons]
    rcases give_step l a0 a1 a2 a3 a with ⟨_, e⟩ | ⟨_, hf, e | e⟩
    · simp only [answerAll, e]
      have ih := answerAll_grows l r a0 a1 a2 a3
      omega
    · simp only [answerAll, e]
      have ih := answerAll_grows l r a0 (a1 + 1) (a2 + 1) a3
      omega
    · simp only [answerAll, e]
      have ih := answerAll_grows l r a0 (a1 + 1) a2 (a3 + 1)
      omega

theorem marks_less {l : List S62} (h : areMarks l = true) (i : Nat) : ∀ j : Nat, i < j → j < l.length → (rd_T62 l (i : Int)).f0 < (rd_T62 l (j : Int)).f0
  | 0, h1, _ => absurd h1 (Nat.not_lt_zero _)
  | j + 1, h1, h2 => by
    unfold areMarks at h
    rw [Bool.and_eq_true, allF_all] at h
    have h3 := (h.1 (j + 1) h2).2.2 (by omega)
    rw [show ((j + 1 : Nat) : Int) - 1 = (j : Int) by omega] at h3
    by_cases e : i = j
    · rw [e]; exact h3
    · have := marks_less (by unfold areMarks; rw [Bool.and_eq_true, allF_all]; exact h) i j (by omega) (by omega)
      omega
theorem marks_one {l : List S62} (h : areMarks l = true) (i j : Nat) (hi : i < l.length) (hj : j < l.length) : (rd_T62 l (j : Int)).f0 = (rd_T62 l (i : Int)).f0 ↔ j = i := by
  refine ⟨fun e => ?_, fun e => by rw [e]⟩
  rcases Nat.lt_trichotomy i j with hlt | he | hgt
  · have := marks_less h i j hlt hj; omega
  · exact he.symm
  · have := marks_less h j i hgt hi; omega
theorem answerOf_mem : ∀ (l : List S62) (q : Int), (∃ m ∈ l, m.f0 = q) → ∃ m ∈ l, answerOf l q = m.f1
  | [], q, h => by obtain ⟨m, hm, _⟩ := h; cases hm
  | m :: r, q, h => by
    by_cases c : m.f0 = q
    · exact ⟨m, List.mem_cons_self .., by simp only [answerOf]; rw [if_pos c]⟩
    · obtain ⟨y, hy, e⟩ := h
      have hyr : y ∈ r := by
        rcases List.mem_cons.1 hy with h1 | h1
        · exact absurd (h1 ▸ e) c
        · exact h1
      obtain ⟨z, hz, ez⟩ := answerOf_mem r q ⟨y, hyr, e⟩
      exact ⟨z, List.mem_cons_of_mem _ hz, by simp only [answerOf]; rw [if_neg c]; exact ez⟩
theorem answer_asked {l : List S62} (h : areMarks l = true) (hl : 0 < l.length) (hn : l.length ≤ 1048576) (c n : Int) (h0 : 0 ≤ n ∧ n ≤ 1000) : 0 ≤ answerOf l (questionFor l c n) := by
  obtain ⟨_, j, hj, e⟩ := question_pos h hl hn c n h0
  obtain ⟨m, hm, em⟩ := answerOf_mem l (questionFor l c n) ⟨rd_T62 l (j : Int), by rw [rdMark_at, getD_get l j _ hj]; exact List.getElem_mem _, e.symm⟩
  rw [em]
  exact marks_mem h m hm
theorem answerOf_skip : ∀ (p r : List S62) (q : Int), (∀ m ∈ p, m.f0 ≠ q) → answerOf (p ++ r) q = answerOf r q
  | [], r, q, _ => rfl
  | m :: p, r, q, h => by
    rw [List.cons_append, answerOf, if_neg (h m (List.mem_cons_self ..))]
    exact answerOf_skip p r q (fun y hy => h y (List.mem_cons_of_mem _ hy))
theorem lead_lt (q : Int) : ∀ (l : List S62), ∀ m ∈ l.take (leadM q l), m.f0 < q
  | [], m, hm => by simp at hm
  | y :: r, m, hm => by
    simp only [leadM] at hm
    by_cases c : y.f0 < q
    · rw [if_pos c, List.take_succ_cons] at hm
      rcases List.mem_cons.1 hm with h | h
      · rw [h]; exact c
      · exact lead_lt q r m h
    · rw [if_neg c] at hm
      simp at hm
theorem answer_put (l : List S62) (q a : Int) : answerOf (putRowM l q a) q = a := by
  unfold putRowM rowM
  rw [List.append_assoc, answerOf_skip _ _ _ (fun m hm => by have := lead_lt q l m hm; omega), List.cons_append, answerOf, if_pos rfl]

theorem drawSealMarks_is (b : List Int) (hb : b.length ≤ 1048576) : ∃ l s, spec_DrawSealMarks.F b = some (l, s) ∧ l.length ≤ 6 := by
  obtain ⟨h0, e0, c0⟩ := l1New_is b hb
  obtain ⟨l, i1, h1, e1, c1, hl⟩ := l11Any_is b 0 h0 c0
  obtain ⟨s, i2, h2, e2, _⟩ := below_pos b i1 h1 99 c1 (by omega) (by omega)
  rw [spec_DrawSealMarks.F_eq, e0, Option.bind_some]
  dsimp only
  rw [e1, Option.bind_some]
  dsimp only
  rw [e2, Option.bind_some]
  exact ⟨l, s, rfl, hl⟩
theorem drawQuestionFor_is (b : List Int) (hb : b.length ≤ 1048576) : ∃ l s n, spec_DrawQuestionFor.F b = some (l, s, n) ∧ l.length ≤ 6 := by
  obtain ⟨l, s, e, hl⟩ := drawSealMarks_is b hb
  obtain ⟨h0, e0, c0⟩ := l1New_is b hb
  obtain ⟨n, i1, h1, e1, _⟩ := l1Int_is b 0 h0 [0, 1, 2, 7, 1000, 1001, -1] c0 (by decide) (by decide)
  rw [spec_DrawQuestionFor.F_eq, e, Option.bind_some, e0, Option.bind_some]
  dsimp only
  rw [e1, Option.bind_some]
  exact ⟨l, s, n, rfl, hl⟩
theorem drawPutMark_is (b : List Int) (hb : b.length ≤ 1048576) : ∃ l q a, spec_DrawPutMark.F b = some (l, q, a) ∧ l.length ≤ 6 := by
  obtain ⟨h0, e0, c0⟩ := l1New_is b hb
  obtain ⟨l, i1, h1, e1, c1, hl⟩ := l11Any_is b 0 h0 c0
  obtain ⟨s, i2, h2, e2, _, _, c2⟩ := below_pos b i1 h1 12 c1 (by omega) (by omega)
  obtain ⟨n, i3, h3, e3, _⟩ := l1Int_is b i2 h2 [0, 5, 99, 100] c2 (by decide) (by decide)
  rw [spec_DrawPutMark.F_eq, e0, Option.bind_some]
  dsimp only
  rw [e1, Option.bind_some]
  dsimp only
  rw [e2, Option.bind_some]
  dsimp only
  rw [e3, Option.bind_some]
  exact ⟨l, s, n, rfl, hl⟩
theorem marks_J4 (x0 : List Int) (hb : x0.length ≤ 1048576) : laws_FnMarks.J4 x0 false = some true := by
  obtain ⟨l, q, a, e, hl⟩ := drawPutMark_is x0 hb
  rw [laws_FnMarks.J4_eq, if_neg (by decide), e, Option.bind_some]
  dsimp only
  rw [impl_PutMark_is l q a (by omega), Option.bind_some, putMark]
  by_cases h : areMarks (putRowM l q a) = true
  · have hlen := putRowM_len l q a
    rw [if_pos h]
    dsimp only
    rw [if_pos rfl, impl_AreMarks_is _ (by omega), Option.bind_some, if_pos h, impl_AnswerOf_is _ _ (by omega), Option.bind_some, answer_put, if_pos rfl]
  · rw [if_neg h]
    dsimp only
    rw [if_neg (by decide), beq_self_eq_true]
theorem rot (m h i k : Int) (hm : 0 < m) (h0 : 0 ≤ h ∧ h < m) (hi : 0 ≤ i ∧ i < m) (hk : 0 ≤ k ∧ k < m) : (h + k) % m = i ↔ k = (if i ≥ h then i - h else i - h + m) := by
  by_cases c : h + k < m
  · rw [Int.emod_eq_of_lt (by omega) c]
    split <;> omega
  · have e : (h + k) % m = h + k - m := by
      rw [← Int.sub_emod_right, Int.emod_eq_of_lt (by omega) (by omega)]
    rw [e]
    split <;> omega
theorem marks_l1 (x0 : List Int) (l : List S62) (c : Int) (h : areMarks l = true) (hn : l.length ≤ 1000) (i : Nat) (hi : i < l.length) (s : Nat) (hs : s ≤ 1000000) (ks : Int) (hks : ks = (if (i : Int) ≥ hashL [c] 11 % (l.length : Int) then (i : Int) - hashL [c] 11 % (l.length : Int) else (i : Int) - hashL [c] 11 % (l.length : Int) + (l.length : Int))) :
    ∀ (d k : Nat), k + d = l.length → ∀ t : Nat, (t : Int) = (s : Int) + (if (k : Int) > ks then 1 else 0) → laws_FnMarks.L1 x0 l c (t : Int) (i : Int) (k : Int) = laws_FnMarks.L0 x0 l c ((s + 1 : Nat) : Int) ((i + 1 : Nat) : Int)
  | 0, k, hk, t, ht => by
    have h1 := Int.emod_nonneg (hashL [c] 11) (show (l.length : Int) ≠ 0 by omega)
    have h2 := Int.emod_lt_of_pos (hashL [c] 11) (show (0 : Int) < (l.length : Int) by omega)
    have h3 : (k : Int) > ks := by rw [hks]; split <;> omega
    rw [if_pos h3] at ht
    have : t = s + 1 := by omega
    rw [laws_FnMarks.L1_eq, if_neg (by omega), wrap_succ i (by omega), this]
  | d + 1, k, hk, t, ht => by
    have h1 := Int.emod_nonneg (hashL [c] 11) (show (l.length : Int) ≠ 0 by omega)
    have h2 := Int.emod_lt_of_pos (hashL [c] 11) (show (0 : Int) < (l.length : Int) by omega)
    have hr := rot (l.length : Int) (hashL [c] 11 % (l.length : Int)) (i : Int) (k : Int) (by omega) ⟨h1, h2⟩ (by omega) (by omega)
    rw [← hks] at hr
    have q1 := Int.emod_nonneg (hashL [c] 11 % (l.length : Int) + (k : Int)) (show (l.length : Int) ≠ 0 by omega)
    have q2 := Int.emod_lt_of_pos (hashL [c] 11 % (l.length : Int) + (k : Int)) (show (0 : Int) < (l.length : Int) by omega)
    have e : questionFor l c (k : Int) = (rd_T62 l ((hashL [c] 11 % (l.length : Int) + (k : Int)) % (l.length : Int))).f0 := by
      rw [questionFor, if_pos ⟨by omega, h, inR_iff.2 (by omega)⟩]
    generalize hj : (hashL [c] 11 % (l.length : Int) + (k : Int)) % (l.length : Int) = jj at hr q1 q2 e
    obtain ⟨j, rfl⟩ : ∃ j : Nat, jj = j := ⟨jj.toNat, by omega⟩
    have hm := marks_one h i j hi (by omega)
    rw [laws_FnMarks.L1_eq, if_pos (by omega), impl_QuestionFor_is l c _ (by omega), Option.bind_some, e, if_pos (by omega), if_pos (by omega), wrap_succ k (by omega)]
    by_cases hji : j = i
    · have hk2 : (k : Int) = ks := hr.1 (by omega)
      rw [if_pos (hm.2 hji), wrap_succ t (by split at ht <;> omega)]
      refine marks_l1 x0 l c h hn i hi s hs ks hks d (k + 1) (by omega) (t + 1) ?_
      rw [if_neg (by omega)] at ht
      rw [if_pos (by omega)]
      omega
    · have hk2 : ¬ (k : Int) = ks := fun hh => hji (by have := hr.2 hh; omega)
      rw [if_neg (fun hh => hji (hm.1 hh))]
      refine marks_l1 x0 l c h hn i hi s hs ks hks d (k + 1) (by omega) t ?_
      by_cases hk3 : (k : Int) > ks
      · rw [if_pos hk3] at ht
        rw [if_pos (by omega)]
        exact ht
      · rw [if_neg hk3] at ht
        rw [if_neg (by omega)]
        exact ht
theorem marks_l0 (x0 : List Int) (hb : x0.length ≤ 1048576) (l : List S62) (c : Int) (h : areMarks l = true) (hn : l.length ≤ 1000) : ∀ (d i : Nat), i + d = l.length → laws_FnMarks.L0 x0 l c (i : Int) (i : Int) = some true
  | 0, i, hd => by
    have e : ((i : Int) != (l.length : Int)) = false := bne_eq_false_iff_eq.2 (by omega)
    rw [laws_FnMarks.L0_eq, if_neg (by omega), laws_FnMarks.J2_eq, if_neg (by decide), impl_AreMarks_is l (by omega), Option.bind_some, if_pos h, e]
    exact marks_J4 x0 hb
  | d + 1, i, hd => by
    have h1 := Int.emod_nonneg (hashL [c] 11) (show (l.length : Int) ≠ 0 by omega)
    have h2 := Int.emod_lt_of_pos (hashL [c] 11) (show (0 : Int) < (l.length : Int) by omega)
    have h3 := marks_l1 x0 l c h hn i (by omega) i (by omega) _ rfl l.length 0 (by omega) i (by rw [if_neg (by split <;> omega)]; omega)
    have h3' : laws_FnMarks.L1 x0 l c (i : Int) (i : Int) 0 = laws_FnMarks.L0 x0 l c ((i + 1 : Nat) : Int) ((i + 1 : Nat) : Int) := h3
    rw [laws_FnMarks.L0_eq, if_pos (by omega), impl_AreMarks_is l (by omega), Option.bind_some, laws_FnMarks.J2_eq, if_pos h, h3']
    exact marks_l0 x0 hb l c h hn d (i + 1) (by omega)
theorem marks_J0 (x0 : List Int) (hb : x0.length ≤ 1048576) (l : List S62) (c : Int) (hn : l.length ≤ 1000) : laws_FnMarks.J0 x0 l c false = some true := by
  rw [laws_FnMarks.J0_eq, if_neg (by decide)]
  by_cases h : areMarks l = true
  · exact marks_l0 x0 hb l c h hn l.length 0 (by omega)
  · have hf : areMarks l = false := Bool.eq_false_iff.2 h
    have e : laws_FnMarks.J2 x0 l c 0 0 false = some true := by
      rw [laws_FnMarks.J2_eq, if_neg (by decide), impl_AreMarks_is l (by omega), Option.bind_some, if_neg h]
      exact marks_J4 x0 hb
    rw [laws_FnMarks.L0_eq]
    split
    · rw [impl_AreMarks_is l (by omega), Option.bind_some, hf]
      exact e
    · exact e
theorem law_FnMarks (l0 : List Int) (hm0 : l0.length ≤ maxLen) (hw0 : ∀ y ∈ l0, (fun n : Int => (Lit.int .u8 n).wf = true) y) : laws_FnMarks.F l0 = some true := by
  rw [laws_FnMarks.F_eq, big_is, Option.bind_some]
  by_cases hb : (l0.length : Int) > 1048576
  · rw [decide_eq_true hb, if_pos rfl]
  · have hb' : l0.length ≤ 1048576 := by omega
    obtain ⟨l, s, e, hl⟩ := drawSealMarks_is l0 hb'
    obtain ⟨x, c, n, e2, hx⟩ := drawQuestionFor_is l0 hb'
    rw [decide_eq_false hb, if_neg (by decide), e, Option.bind_some]
    dsimp only
    rw [impl_SealMarks_is l s (by omega), Option.bind_some, impl_OpensSeal_is l s _ (by omega), Option.bind_some, impl_AreMarks_is l (by omega), Option.bind_some, beq_self_eq_true, Bool.and_true, if_neg (by simp), e2, Option.bind_some]
    dsimp only
    have hq := impl_QuestionFor_is x c n (by omega)
    have h0 := marks_J0 l0 hb' x c (by omega)
    have z : ∀ q : Int, q = 0 → (if ((q != 0) != false) = true then (laws_FnMarks.J0 l0 x c true) else (if q = 0 then (laws_FnMarks.J0 l0 x c false) else ((impl_AnswerOf.F x q).bind fun t355 => (laws_FnMarks.J0 l0 x c (decide (t355 < 0)))))) = some true := by
      intro q hq
      rw [hq, if_neg (by decide), if_pos rfl]
      exact h0
    rw [hq, Option.bind_some]
    by_cases h1 : (x.length : Int) > 0
    · rw [if_pos h1, impl_AreMarks_is x (by omega), Option.bind_some]
      by_cases h2 : areMarks x = true
      · rw [if_pos h2]
        by_cases h3 : n ≥ 0
        · rw [if_pos h3]
          by_cases h4 : n ≤ 1000
          · obtain ⟨p, _⟩ := question_pos h2 (by omega) (by omega) c n ⟨h3, h4⟩
            have ha := answer_asked h2 (by omega) (by omega) c n ⟨h3, h4⟩
            have e3 : (questionFor x c n != 0) = true := bne_iff_ne.2 (by omega)
            rw [decide_eq_true h4, e3, if_neg (by decide), if_neg (by omega), impl_AnswerOf_is x _ (by omega), Option.bind_some, decide_eq_false (by omega)]
            exact h0
          · have e3 : questionFor x c n = 0 := by rw [questionFor, if_neg (fun hh => h4 (inR_iff.1 hh.2.2).2)]
            rw [decide_eq_false h4]
            exact z _ e3
        · rw [if_neg h3]
          exact z _ (by rw [questionFor, if_neg (fun hh => h3 (inR_iff.1 hh.2.2).1)])
      · rw [if_neg h2]
        exact z _ (by rw [questionFor, if_neg (fun hh => h2 hh.2.1)])
    · rw [if_neg h1]
      exact z _ (by rw [questionFor, if_neg (fun hh => hh.1 (by omega))])

theorem FnMarks (l0 : List Int) (hm0 : l0.length ≤ maxLen) (hw0 : ∀ y ∈ l0, (fun n : Int => (Lit.int .u8 n).wf = true) y) : ∃ k, laws_FnMarks.f k l0 = some true :=
  (laws_FnMarks.F_co l0).rounds (law_FnMarks l0 hm0 hw0)
end Go.Proofs.Ytppgealmedaihaa.PFnMarks.Pure
