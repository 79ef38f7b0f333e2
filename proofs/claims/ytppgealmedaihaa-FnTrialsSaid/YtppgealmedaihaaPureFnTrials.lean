/-
  The law FnTrials answers true for every input. It has no conditions.
-/
import Derived.Test.YtppgealmedaihaaShFnTrials
import Derived.Test.YtppgealmedaihaaEqFnTrials
import Derived.Test.YtppgealmedaihaaBase
set_option linter.unusedVariables false
set_option linter.unusedSimpArgs false
namespace Go.Proofs.Ytppgealmedaihaa.PFnTrials.Pure
open Go.RowKit Go.Proofs.YtppgealmedaihaaW.PrintWords Go.Proofs.YtppgealmedaihaaW.PrintLast Go.Proofs.YtppgealmedaihaaW.PrintMore Go.Proofs.Ytppgealmedaihaa.PFnTrials Go.Proofs.Ytppgealmedaihaa.Lim Go.Proofs.Ytppgealmedaihaa.Base
set_option maxRecDepth 100000

theorem big_is (l : List Int) : laws_big.f l = some (decide ((l.length : Int) > 1048576)) := rfl

/-- A cursor's place in the bytes that it reads. -/
def CO (b : List Int) (i : Int) : Prop := 0 ≤ i ∧ i ≤ (b.length : Int) ∧ b.length ≤ 1048576
theorem and255 (x : Int) : 0 ≤ Go.bits .and .i64 x 255 ∧ Go.bits .and .i64 x 255 ≤ 255 := by
  have h : (BitVec.ofInt 64 255).toNat = 255 := by decide
  have h2 : (BitVec.ofInt 64 x &&& BitVec.ofInt 64 255).toNat ≤ 255 := by
    rw [BitVec.toNat_and, h]
    exact Nat.and_le_right
  show 0 ≤ IntKind.i64.wrap ((BitVec.ofInt 64 x &&& BitVec.ofInt 64 255).toNat : Int) ∧ IntKind.i64.wrap ((BitVec.ofInt 64 x &&& BitVec.ofInt 64 255).toNat : Int) ≤ 255
  rw [IntKind.wrap_i64]
  omega
theorem l1Byte_is (b : List Int) (i h : Int) (c : CO b i) : ∃ r i' h', spec_l1Byte.f b i h = some (r, i', h') ∧ 0 ≤ r ∧ r ≤ 255 ∧ CO b i' := by
  obtain ⟨c0, c1, c2⟩ := c
  unfold spec_l1Byte.f
  by_cases hi : i < (b.length : Int)
  · rw [if_pos hi, if_pos c0]
    refine ⟨_, _, _, rfl, (and255 _).1, (and255 _).2, ?_⟩
    rw [wrap_in _ (by omega)]
    exact ⟨by omega, by omega, c2⟩
  · rw [if_neg hi]
    exact ⟨_, _, _, rfl, (and255 _).1, (and255 _).2, c0, c1, c2⟩
theorem l1Below_is (b : List Int) (i h n : Int) (c : CO b i) (hn : n ≤ 10000000) : ∃ r i' h', spec_l1Below.f b i h n = some (r, i', h') ∧ 0 ≤ r ∧ (0 < n → r < n) ∧ (n ≤ 0 → r = 0) ∧ CO b i' := by
  unfold spec_l1Below.f
  by_cases h0 : n ≤ 0
  · rw [if_pos h0]
    exact ⟨0, i, h, rfl, by omega, fun _ => by omega, fun _ => rfl, c⟩
  · rw [if_neg h0]
    by_cases h1 : n ≤ 256
    · obtain ⟨r, i', h', e, r0, r1, c'⟩ := l1Byte_is b i h c
      rw [if_pos h1, e, Option.bind_some, if_neg (by omega), Int.tmod_eq_emod_of_nonneg r0]
      exact ⟨_, _, _, rfl, Int.emod_nonneg _ (by omega), fun _ => Int.emod_lt_of_pos _ (by omega), fun _ => by omega, c'⟩
    · obtain ⟨r, i', h', e, r0, r1, c'⟩ := l1Byte_is b i h c
      obtain ⟨s, i2, h2, e2, s0, s1, c2⟩ := l1Byte_is b i' h' c'
      obtain ⟨t, i3, h3, e3, t0, t1, c3⟩ := l1Byte_is b i2 h2 c2
      rw [if_neg h1, e, Option.bind_some]
      dsimp only
      rw [e2, Option.bind_some]
      dsimp only
      rw [e3, Option.bind_some, if_neg (by omega)]
      dsimp only
      rw [wrap_in (r * 65536) (by omega), wrap_in (s * 256) (by omega), wrap_in (r * 65536 + s * 256) (by omega), wrap_in (r * 65536 + s * 256 + t) (by omega), Int.tmod_eq_emod_of_nonneg (by omega)]
      exact ⟨_, _, _, rfl, Int.emod_nonneg _ (by omega), fun _ => Int.emod_lt_of_pos _ (by omega), fun _ => by omega, c3⟩
theorem below_pos (b : List Int) (i h n : Int) (c : CO b i) (h0 : 0 < n) (hn : n ≤ 10000000) : ∃ r i' h', spec_l1Below.f b i h n = some (r, i', h') ∧ 0 ≤ r ∧ r < n ∧ CO b i' := by
  obtain ⟨r, i', h', e, r0, r1, _, c'⟩ := l1Below_is b i h n c hn
  exact ⟨r, i', h', e, r0, r1 h0, c'⟩
theorem l1New_l0 (b : List Int) (hb : b.length ≤ 1048576) : ∀ (d i : Nat) (h : Int), i + d = b.length → ∃ h', spec_l1New.L0 b h (i : Int) = some (b, 0, h')
  | 0, i, h, hd => ⟨h, by rw [spec_l1New.L0_eq, if_neg (by omega)]⟩
  | d + 1, i, h, hd => by
    rw [spec_l1New.L0_eq, if_pos (by omega), if_pos (show (0 : Int) ≤ (i : Int) by omega), wrap_succ i (by omega)]
    by_cases h4 : (i : Int) < 4000
    · rw [if_pos h4]
      exact l1New_l0 b hb d (i + 1) _ (by omega)
    · rw [if_neg h4]
      exact ⟨h, rfl⟩
theorem l1New_is (b : List Int) (hb : b.length ≤ 1048576) : ∃ h', spec_l1New.F b = some (b, 0, h') ∧ CO b 0 := by
  obtain ⟨h', e⟩ := l1New_l0 b hb b.length 0 (wrap64 (193017 + (b.length : Int))) (by omega)
  exact ⟨h', by rw [spec_l1New.F_eq]; exact e, by unfold CO; omega⟩

theorem rdInt_at (l : List Int) (i : Nat) : rd l (i : Int) = l.getD i 0 := by simp [rd]
theorem dropInt (l : List Int) (i : Nat) (h : i < l.length) : l.drop i = rd l (i : Int) :: l.drop (i + 1) := by
  rw [rdInt_at, getD_get l i _ h]
  exact List.drop_eq_getElem_cons h

theorem l1Int_is (b : List Int) (i h : Int) (l : List Int) (c : CO b i) (h0 : 0 < l.length) (hn : l.length ≤ 1000) : ∃ r i' h', spec_l1Int.f b i h l = some (r, i', h') ∧ r ∈ l ∧ CO b i' := by
  obtain ⟨r, i', h', e, r0, r1, c'⟩ := below_pos b i h (l.length : Int) c (by omega) (by omega)
  unfold spec_l1Int.f
  rw [e, Option.bind_some]
  dsimp only
  rw [if_pos r0, if_pos r1]
  obtain ⟨j, rfl⟩ : ∃ j : Nat, r = j := ⟨r.toNat, by omega⟩
  refine ⟨_, _, _, rfl, ?_, c'⟩
  rw [show rd l (j : Int) = l[j]'(by omega) by simp [rd, show j < l.length by omega]]
  exact List.getElem_mem _

def okMark (l : List S62) (i : Nat) : Prop := inR (rd_T62 l i).f0 1 20 = true ∧ inR (rd_T62 l i).f1 0 99 = true ∧ ((i : Int) > 0 → (rd_T62 l ((i : Int) - 1)).f0 < (rd_T62 l i).f0)
noncomputable def areMarks (l : List S62) : Bool := allF (okMark l) l.length 0 && decide ((l.length : Int) ≤ 8)

theorem rdMark_at (l : List S62) (i : Nat) : rd_T62 l (i : Int) = l.getD i z62 := by simp [rd_T62]
theorem dropMark (l : List S62) (i : Nat) (h : i < l.length) : l.drop i = rd_T62 l (i : Int) :: l.drop (i + 1) := by
  rw [rdMark_at, getD_get l i _ h]
  exact List.drop_eq_getElem_cons h

def leadM (q : Int) : List S62 → Nat
  | [] => 0
  | m :: r => if m.f0 < q then leadM q r + 1 else 0
theorem leadM_le (q : Int) : ∀ l : List S62, leadM q l ≤ l.length
  | [] => Nat.le_refl _
  | m :: r => by
    have := leadM_le q r
    simp only [leadM, List.length_cons]
    split <;> omega
def rowM (l : List S62) (k : Nat) (same : Bool) (q a : Int) : List S62 := l.take k ++ [(⟨q, a⟩ : S62)] ++ (if same = true then (l.drop k).drop 1 else l.drop k)
noncomputable def sameM (l : List S62) (k : Nat) (q : Int) : Bool := decide (k < l.length ∧ (rd_T62 l (k : Int)).f0 = q)
noncomputable def putRowM (l : List S62) (q a : Int) : List S62 := rowM l (leadM q l) (sameM l (leadM q l) q) q a
noncomputable def putMark (l : List S62) (q a : Int) : List S62 × Bool := if areMarks (putRowM l q a) = true then (putRowM l q a, true) else (l, false)
theorem rowM_len (l : List S62) (k : Nat) (same : Bool) (q a : Int) (hk : k ≤ l.length) : (rowM l k same q a).length ≤ l.length + 1 := by
  unfold rowM
  rw [List.length_append, List.length_append, List.length_take, List.length_singleton]
  split
  · rw [List.length_drop, List.length_drop]; omega
  · rw [List.length_drop]; omega
theorem putRowM_len (l : List S62) (q a : Int) : (putRowM l q a).length ≤ l.length + 1 := rowM_len _ _ _ _ _ (leadM_le q l)
theorem putMark_len (l : List S62) (q a : Int) : (putMark l q a).1.length ≤ l.length + 1 := by
  unfold putMark
  split
  · exact putRowM_len l q a
  · exact Nat.le_succ _
theorem leadM_step (q : Int) (l : List S62) (i : Nat) (hi : i < l.length) : i + leadM q (l.drop i) = if (rd_T62 l (i : Int)).f0 < q then i + 1 + leadM q (l.drop (i + 1)) else i := by
  rw [dropMark l i hi, leadM]
  split <;> omega
theorem rdMark_drop (l : List S62) (k : Nat) : rd_T62 (l.drop k) 0 = rd_T62 l (k : Int) := by
  have h := rdMark_at (l.drop k) 0
  have e : ((0 : Nat) : Int) = 0 := rfl
  rw [e] at h
  rw [h, rdMark_at, List.getD_eq_getElem?_getD, List.getD_eq_getElem?_getD, List.getElem?_drop, Nat.add_zero]

theorem l1In (a b c : Int) : spec_l1In.f a b c = some (inR a b c) := by
  unfold spec_l1In.f inR
  by_cases h : b ≤ a <;> simp [h]

theorem spec_AreMarks_l0 (l : List S62) (hn : l.length ≤ 1048576) : ∀ (d i : Nat), i + d = l.length → spec_AreMarks.L0 l (i : Int) = some (allF (okMark l) l.length i && decide ((l.length : Int) ≤ 8))
  | 0, i, h => by rw [spec_AreMarks.L0_eq, if_neg (by omega), allF_end (by omega)]; first | done | rfl | simp [l1In, inR]
  | d + 1, i, h => by
    have hi : i < l.length := by omega
    have ih := spec_AreMarks_l0 l hn d (i + 1) (by omega)
    rw [spec_AreMarks.L0_eq]
    simp only [wrap_succ i (by omega), wrap_pred i (by omega), ih, l1In, Option.bind_some]
    by_cases hp_ : okMark l i
    · rw [allF_yes hp_]
      simp only [okMark] at hp_
      obtain ⟨h1_, h2_, h3_⟩ := hp_
      repeat' split
      all_goals first
        | rfl
        | (exfalso; first | contradiction | omega)
    · rw [allF_no hi hp_]
      repeat' split
      all_goals first
        | rfl
        | (simp; done)
        | (exfalso; first | contradiction | omega)
        | (exfalso; apply hp_; simp only [okMark]; (repeat' constructor) <;> first | assumption | (intro _; omega) | omega)

theorem spec_AreMarks_is (l : List S62) (hn : l.length ≤ 1048576) : spec_AreMarks.F l = some (areMarks l) := by
  rw [spec_AreMarks.F_eq, areMarks]
  exact spec_AreMarks_l0 l hn l.length 0 (by omega)

theorem spec_PutMark_J2' (l : List S62) (k : Nat) (same : Bool) (q a : Int) (hk : k ≤ l.length) (hl : l.length ≤ 1000000) (hs : same = true → k < l.length) : spec_PutMark.J2 l (k : Int) (l.drop k) same q a = some (if areMarks (rowM l k same q a) = true then (rowM l k same q a, true) else (l, false)) := by
  have hlen := rowM_len l k same q a hk
  rw [spec_PutMark.J2_eq]
  cases same with
  | true =>
    by_cases h1 : 1 ≤ ((l.drop k).length : Int)
    · simp only [if_true, Option.bind_some, List.nil_append, Int.toNat_natCast]
      rw [if_pos h1, if_pos (by omega), if_pos (by omega), if_pos (by simp; omega), if_pos (by simp; omega), if_pos (by simp; omega)]
      have e : l.take k ++ [(⟨q, a⟩ : S62)] ++ (l.drop k).drop 1 = rowM l k true q a := rfl
      rw [e, spec_AreMarks_is _ (by omega), Option.bind_some]
      split
      · rfl
      · rw [if_pos (by simp; omega)]
    · exact absurd (hs rfl) (fun h => h1 (by rw [List.length_drop]; omega))
  | false =>
    simp only [Bool.false_eq_true, if_false, Option.bind_some, List.nil_append, Int.toNat_natCast]
    rw [if_pos (by omega), if_pos (by omega), if_pos (by simp; omega), if_pos (by simp; omega), if_pos (by simp; omega)]
    have e : l.take k ++ [(⟨q, a⟩ : S62)] ++ l.drop k = rowM l k false q a := rfl
    rw [e, spec_AreMarks_is _ (by omega), Option.bind_some]
    split
    · rfl
    · rw [if_pos (by simp; omega)]
theorem spec_PutMark_l0 (l : List S62) (q a : Int) (hl : l.length ≤ 1000000) : ∀ (d i : Nat), i + d = l.length → spec_PutMark.L0 l (i : Int) q a = spec_PutMark.J1 l ((i + leadM q (l.drop i) : Nat) : Int) q a
  | 0, i, h => by rw [spec_PutMark.L0_eq, if_neg (by omega), List.drop_of_length_le (by omega)]; rfl
  | d + 1, i, h => by
    rw [spec_PutMark.L0_eq, if_pos (by omega), if_pos (by omega), wrap_succ i (by omega), spec_PutMark_l0 l q a hl d (i + 1) (by omega), leadM_step q l i (by omega)]
    split <;> rfl
theorem spec_PutMark_is (l : List S62) (q a : Int) (hl : l.length ≤ 1000000) : spec_PutMark.F l q a = some (putMark l q a) := by
  have h0 := spec_PutMark_l0 l q a hl l.length 0 (by omega)
  rw [List.drop_zero, Nat.zero_add] at h0
  have hk := leadM_le q l
  rw [spec_PutMark.F_eq]
  refine Eq.trans h0 ?_
  rw [spec_PutMark.J1_eq, if_pos (by omega), if_pos (by omega), Option.bind_some, Int.toNat_natCast, rdMark_drop, putMark, putRowM]
  by_cases h1 : leadM q l < l.length
  · rw [if_pos (by rw [List.length_drop]; omega), if_pos (by rw [List.length_drop]; omega), spec_PutMark_J2' l _ _ q a hk hl (fun _ => h1)]
    have e : ((rd_T62 l (leadM q l : Int)).f0 == q) = sameM l (leadM q l) q := by
      unfold sameM
      rw [Bool.eq_iff_iff, beq_iff_eq, decide_eq_true_iff]
      exact ⟨fun h => ⟨h1, h⟩, fun h => h.2⟩
    rw [e]
  · have e : sameM l (leadM q l) q = false := decide_eq_false (fun h => h1 h.1)
    rw [if_neg (by rw [List.length_drop]; omega), spec_PutMark_J2' l _ _ q a hk hl (fun h => by cases h), e]

theorem l11Draw_l0 (b : List Int) : ∀ (n : Nat) (l : List S62) (i h : Int), CO b i → l.length + n ≤ 1000 → ∃ l' i' h', spec_l11Draw.L0 l (n : Int) b i h = some (l', i', h') ∧ CO b i' ∧ l'.length ≤ l.length + n
  | 0, l, i, h, c, hn => ⟨l, i, h, by rw [spec_l11Draw.L0_eq, if_neg (by omega)], c, Nat.le_refl _⟩
  | n + 1, l, i, h, c, hn => by
    obtain ⟨r, i1, h1, e1, _, _, c1⟩ := below_pos b i h 8 c (by omega) (by omega)
    obtain ⟨s, i2, h2, e2, _, _, c2⟩ := below_pos b i1 h1 9 c1 (by omega) (by omega)
    rw [spec_l11Draw.L0_eq, if_pos (by omega), e1, Option.bind_some]
    dsimp only
    rw [e2, Option.bind_some]
    dsimp only
    rw [spec_PutMark_is l _ _ (by omega), Option.bind_some, show wrap64 (((n + 1 : Nat) : Int) - 1) = (n : Int) by rw [wrap_in _ (by omega)]; omega]
    have hl := putMark_len l (wrap64 (1 + r)) s
    obtain ⟨l', i', h', e, c', hl'⟩ := l11Draw_l0 b n (putMark l (wrap64 (1 + r)) s).1 i2 h2 c2 (by omega)
    exact ⟨l', i', h', e, c', by omega⟩
theorem l11Draw_is (b : List Int) (i h : Int) (c : CO b i) : ∃ l' i' h', spec_l11Draw.F b i h = some (l', i', h') ∧ CO b i' ∧ l'.length ≤ 6 := by
  obtain ⟨r, i1, h1, e1, r0, r1, c1⟩ := below_pos b i h 6 c (by omega) (by omega)
  rw [spec_l11Draw.F_eq, e1, Option.bind_some]
  obtain ⟨n, rfl⟩ : ∃ n : Nat, r = n := ⟨r.toNat, by omega⟩
  obtain ⟨l', i', h', e, c', hl'⟩ := l11Draw_l0 b n [] i1 h1 c1 (by simp; omega)
  exact ⟨l', i', h', e, c', by simp at hl'; omega⟩
theorem l11Any_is (b : List Int) (i h : Int) (c : CO b i) : ∃ l' i' h', spec_l11Any.F b i h = some (l', i', h') ∧ CO b i' ∧ l'.length ≤ 6 := by
  obtain ⟨l, i1, h1, e1, c1, hl⟩ := l11Draw_is b i h c
  rw [spec_l11Any.F_eq, e1, Option.bind_some]
  dsimp only
  by_cases h0 : (l.length : Int) = 0
  · rw [if_pos h0]
    exact ⟨l, i1, h1, rfl, c1, hl⟩
  · obtain ⟨r, i2, h2, e2, r0, r1, c2⟩ := below_pos b i1 h1 (l.length : Int) c1 (by omega) (by omega)
    obtain ⟨s, i3, h3, e3, _, _, c3⟩ := below_pos b i2 h2 9 c2 (by omega) (by omega)
    rw [if_neg h0, e2, Option.bind_some]
    dsimp only
    rw [e3, Option.bind_some]
    dsimp only
    by_cases s0 : s = 0
    · obtain ⟨v, i4, h4, e4, _, c4⟩ := l1Int_is b i3 h3 [0, 20, 21] c3 (by decide) (by decide)
      rw [if_pos s0, e4, Option.bind_some]
      dsimp only
      rw [if_pos r0, if_pos r1]
      exact ⟨_, i4, h4, rfl, c4, by rw [List.length_set]; exact hl⟩
    · rw [if_neg s0]
      by_cases s1 : s = 1
      · obtain ⟨v, i4, h4, e4, _, c4⟩ := l1Int_is b i3 h3 [-1, 99, 100] c3 (by decide) (by decide)
        rw [if_pos s1, e4, Option.bind_some]
        dsimp only
        rw [if_pos r0, if_pos r1]
        exact ⟨_, i4, h4, rfl, c4, by rw [List.length_set]; exact hl⟩
      · rw [if_neg s1]
        exact ⟨l, i3, h3, rfl, c3, hl⟩

theorem l1Once_is (b : List Int) (i h n : Int) (c : CO b i) (h0 : 0 < n) (hn : n ≤ 10000000) : ∃ r i' h', spec_l1Once.f b i h n = some (r, i', h') ∧ CO b i' := by
  obtain ⟨r, i', h', e, r0, r1, c'⟩ := below_pos b i h n c h0 hn
  unfold spec_l1Once.f
  rw [e, Option.bind_some]
  exact ⟨_, i', h', rfl, c'⟩

theorem l4Raw_is (b : List Int) (i h : Int) (c : CO b i) : ∃ r i' h', spec_l4Raw.f b i h = some (r, i', h') ∧ r ∈ ([-1, 0, 8, 50, 51, 1000, 9223372036854775807, -9223372036854775808] : List Int) ∧ CO b i' := by
  obtain ⟨r, i', h', e, hm, c'⟩ := l1Int_is b i h [-1, 0, 8, 50, 51, 1000, 9223372036854775807, -9223372036854775808] c (by decide) (by decide)
  unfold spec_l4Raw.f
  rw [e, Option.bind_some]
  exact ⟨r, i', h', rfl, hm, c'⟩

noncomputable def isTrial (a0 a1 a2 a3 : Int) : Bool := inR a0 1 999 && inR a2 0 100 && inR a3 0 100 && a1 == wrap64 (a2 + a3)
noncomputable def trialState (l : List S62) (a0 a1 a2 a3 : Int) : Int :=
  if isTrial a0 a1 a2 a3 = true ∧ areMarks l = true ∧ ¬ a3 > 1 then (if (l.length : Int) > 0 ∧ a2 ≥ (if (l.length : Int) < 3 then (l.length : Int) else 3) then 1 else 0) else 2

def hashStep (d x : Int) : Int := Int.tmod (wrap64 (wrap64 (wrap64 (d * 1000003) + x % 2147483647) + 13)) 2147483647
def hashL : List Int → Int → Int
  | [], d => d
  | x :: r, d => hashL r (hashStep d x)
theorem hashStep_bd (d x : Int) (h : 0 ≤ d ∧ d < 2147483647) : 0 ≤ hashStep d x ∧ hashStep d x < 2147483647 := by
  have hx := Int.emod_nonneg x (show (2147483647 : Int) ≠ 0 by decide)
  have hy := Int.emod_lt_of_pos x (show (0 : Int) < 2147483647 by decide)
  unfold hashStep
  generalize x % 2147483647 = y at *
  rw [wrap_in (d * 1000003) (by omega), wrap_in (d * 1000003 + y) (by omega), wrap_in (d * 1000003 + y + 13) (by omega), Int.tmod_eq_emod_of_nonneg (by omega)]
  exact ⟨Int.emod_nonneg _ (by decide), Int.emod_lt_of_pos _ (by decide)⟩
theorem hashL_bd : ∀ (l : List Int) (d : Int), 0 ≤ d ∧ d < 2147483647 → 0 ≤ hashL l d ∧ hashL l d < 2147483647
  | [], d, h => h
  | x :: r, d, h => hashL_bd r _ (hashStep_bd d x h)
theorem tmod_of (x : Int) : Int.tmod x 2147483647 = if x % 2147483647 = 0 then 0 else if 0 ≤ x then x % 2147483647 else x % 2147483647 - 2147483647 := by
  by_cases h : 0 ≤ x
  · rw [Int.tmod_eq_emod_of_nonneg h]
    split
    · assumption
    · first | rfl | rw [if_pos h]
  · rw [Int.tmod_eq_emod]
    simp only [h, false_or, if_false]
    split
    · rename_i h1
      rw [if_pos (Int.emod_eq_zero_of_dvd h1), Int.emod_eq_zero_of_dvd h1]
      rfl
    · rename_i h1
      rw [if_neg (fun h2 => h1 (Int.dvd_of_emod_eq_zero h2))]
      rfl

noncomputable def questionFor (l : List S62) (c n : Int) : Int :=
  if l.length ≠ 0 ∧ areMarks l = true ∧ inR n 0 1000 = true then (rd_T62 l ((hashL [c] 11 % (l.length : Int) + n) % (l.length : Int))).f0 else 0
theorem question_idx (c n m : Int) (hm : 0 < m ∧ m ≤ 1048576) (hn : 0 ≤ n ∧ n ≤ 1000) : Int.tmod (wrap64 (Int.tmod (hashL [c] 11) m + n)) m = (hashL [c] 11 % m + n) % m ∧ 0 ≤ (hashL [c] 11 % m + n) % m ∧ (hashL [c] 11 % m + n) % m < m := by
  have hb := hashL_bd [c] 11 (by omega)
  have h1 := Int.emod_nonneg (hashL [c] 11) (show m ≠ 0 by omega)
  have h2 := Int.emod_lt_of_pos (hashL [c] 11) hm.1
  rw [Int.tmod_eq_emod_of_nonneg hb.1, wrap_in _ (by omega), Int.tmod_eq_emod_of_nonneg (by omega)]
  exact ⟨rfl, Int.emod_nonneg _ (by omega), Int.emod_lt_of_pos _ hm.1⟩

noncomputable def nextQuestion (l : List S62) (a0 a1 a2 a3 : Int) : Int := if trialState l a0 a1 a2 a3 = 0 then questionFor l a0 a1 else 0

def answerOf : List S62 → Int → Int
  | [], _ => -1
  | m :: r, q => if m.f0 = q then m.f1 else answerOf r q

noncomputable def giveAnswer (l : List S62) (a0 a1 a2 a3 a : Int) : Int × Int × Int × Int × Bool :=
  if nextQuestion l a0 a1 a2 a3 = 0 then (a0, a1, a2, a3, false)
  else if answerOf l (nextQuestion l a0 a1 a2 a3) = a then (a0, wrap64 (a1 + 1), wrap64 (a2 + 1), a3, true) else (a0, wrap64 (a1 + 1), a2, wrap64 (a3 + 1), true)

theorem spec_NeedFor_is (l : List S62) (hn : l.length ≤ 1048576) : spec_NeedFor.f l = some (if (l.length : Int) < 3 then (l.length : Int) else 3) := by
  unfold spec_NeedFor.f spec_Min.f
  split <;> rfl

theorem spec_IsTrial_is (a0 a1 a2 a3 : Int) : spec_IsTrial.f a0 a1 a2 a3 = some (isTrial a0 a1 a2 a3) := by
  unfold spec_IsTrial.f isTrial
  simp only [l1In, Option.bind_some]
  cases inR a0 1 999 <;> cases inR a2 0 100 <;> cases inR a3 0 100 <;> simp
theorem spec_TrialState_is (l : List S62) (a0 a1 a2 a3 : Int) (hn : l.length ≤ 1048576) : spec_TrialState.F l a0 a1 a2 a3 = some (trialState l a0 a1 a2 a3) := by
  rw [spec_TrialState.F_eq, spec_IsTrial_is, Option.bind_some, spec_AreMarks_is l hn, Option.bind_some]
  simp only [spec_TrialState.J0_eq, spec_NeedFor_is l hn, Option.bind_some, trialState]
  by_cases h1 : isTrial a0 a1 a2 a3 = true
  · by_cases h2 : areMarks l = true
    · by_cases h3 : a3 > 1
      · simp [h1, h2, h3]
      · by_cases h4 : (l.length : Int) > 0
        · by_cases h5 : a2 ≥ (if (l.length : Int) < 3 then (l.length : Int) else 3)
          · simp only [h1, h2, h3, h4, h5, if_true, decide_false, true_and, not_false_eq_true, and_self, Bool.false_eq_true, if_false]
          · simp only [h1, h2, h3, h4, h5, if_true, decide_false, true_and, not_false_eq_true, and_self, and_false, Bool.false_eq_true, if_false]
        · simp only [h1, h2, h3, h4, if_true, decide_false, true_and, false_and, not_false_eq_true, and_self, Bool.false_eq_true, if_false]
    · simp [h1, h2]
  · simp [h1]

theorem spec_Mod_big (x : Int) : spec_Mod.f x 2147483647 = some (x % 2147483647) := by
  have hx := Int.emod_nonneg x (show (2147483647 : Int) ≠ 0 by decide)
  have hy := Int.emod_lt_of_pos x (show (0 : Int) < 2147483647 by decide)
  unfold spec_Mod.f
  rw [l1In, Option.bind_some, if_pos (by decide), if_neg (by decide), tmod_of x]
  have e : ∀ y : Int, 0 ≤ y → y < 4294967294 → Int.tmod (wrap64 y) 2147483647 = y % 2147483647 := fun y h1 h2 => by
    rw [wrap_in y (by omega), Int.tmod_eq_emod_of_nonneg h1]
  split
  · rename_i h
    rw [e _ (by omega) (by omega), h]; rfl
  · split
    · rw [e _ (by omega) (by omega)]
      congr 1
      omega
    · rw [e _ (by omega) (by omega)]
      congr 1
      omega
theorem spec_Hash_l0 (l : List Int) (hn : l.length ≤ 4194304) : ∀ (d i : Nat) (a : Int), i + d = l.length → spec_Hash.L0 l a (i : Int) = some (hashL (l.drop i) a)
  | 0, i, a, h => by rw [spec_Hash.L0_eq, if_neg (by omega), List.drop_of_length_le (by omega)]; rfl
  | d + 1, i, a, h => by
    rw [spec_Hash.L0_eq, if_pos (by omega), if_pos (by omega), spec_Mod_big, Option.bind_some, wrap_succ i (by omega), spec_Hash_l0 l hn d (i + 1) _ (by omega), dropInt l i (by omega)]
    rfl
theorem spec_Hash_is (l : List Int) (hn : l.length ≤ 4194304) : spec_Hash.F l = some (hashL l 11) := by
  rw [spec_Hash.F_eq]
  exact spec_Hash_l0 l hn l.length 0 11 (by omega)

theorem spec_Mod_small (x m : Int) (hx : 0 ≤ x ∧ x < 2147483647) (hm : 0 < m ∧ m ≤ 1048576) : spec_Mod.f x m = some (x % m) := by
  have h1 := Int.emod_nonneg x (show m ≠ 0 by omega)
  have h2 := Int.emod_lt_of_pos x hm.1
  unfold spec_Mod.f
  rw [l1In, Option.bind_some, if_pos (inR_iff.2 (by omega)), if_neg (by omega), Int.tmod_eq_emod_of_nonneg hx.1, wrap_in _ (by omega), Int.tmod_eq_emod_of_nonneg (by omega), Int.add_emod_right, Int.emod_emod]
theorem spec_QuestionFor_is (l : List S62) (c n : Int) (hn : l.length ≤ 1048576) : spec_QuestionFor.F l c n = some (questionFor l c n) := by
  rw [spec_QuestionFor.F_eq, questionFor]
  by_cases h0 : l.length = 0
  · rw [if_pos (by omega), if_neg (fun h => h.1 h0), spec_QuestionFor.J0_eq, if_pos rfl]
  · rw [if_neg (by omega), spec_AreMarks_is l hn, Option.bind_some]
    by_cases h1 : areMarks l = true
    · rw [if_pos h1, l1In, Option.bind_some, spec_QuestionFor.J0_eq]
      by_cases h2 : inR n 0 1000 = true
      · have hb := hashL_bd [c] 11 (by omega)
        obtain ⟨e, e1, e2⟩ := question_idx c n (l.length : Int) (by omega) (inR_iff.1 h2)
        rw [Int.tmod_eq_emod_of_nonneg hb.1] at e
        rw [h2, if_neg (by decide), spec_Hash_is [c] (by simp), Option.bind_some, spec_Mod_small _ _ hb (by omega), Option.bind_some, if_neg (by omega), e, if_pos e1, if_pos e2, if_pos ⟨h0, h1, rfl⟩]
      · rw [Bool.eq_false_iff.2 h2, if_pos (by decide), if_neg (fun h => absurd h.2.2 (by decide))]
    · rw [if_neg h1, if_neg (fun h => h1 h.2.1), spec_QuestionFor.J0_eq, if_pos rfl]

theorem spec_NextQuestion_is (l : List S62) (a0 a1 a2 a3 : Int) (hn : l.length ≤ 1048576) : spec_NextQuestion.F l a0 a1 a2 a3 = some (nextQuestion l a0 a1 a2 a3) := by
  rw [spec_NextQuestion.F_eq, spec_TrialState_is l a0 a1 a2 a3 hn, Option.bind_some, spec_QuestionFor_is l a0 a1 hn, nextQuestion]
  by_cases h : trialState l a0 a1 a2 a3 = 0
  · rw [if_pos h, if_pos h]; rfl
  · rw [if_neg h, if_neg h]

theorem spec_AnswerOf_l0 (l : List S62) (q : Int) (hn : l.length ≤ 1048576) : ∀ (d i : Nat), i + d = l.length → spec_AnswerOf.L0 l q (i : Int) = some (answerOf (l.drop i) q)
  | 0, i, h => by rw [spec_AnswerOf.L0_eq, if_neg (by omega), List.drop_of_length_le (by omega)]; rfl
  | d + 1, i, h => by
    have hi : i < l.length := by omega
    have ih := spec_AnswerOf_l0 l q hn d (i + 1) (by omega)
    rw [spec_AnswerOf.L0_eq, dropMark l i hi]
    simp only [wrap_succ i (by omega), wrap_pred i (by omega), ih, Option.bind_some, answerOf]
    repeat' split
    all_goals first
      | rfl
      | (exfalso; first | contradiction | omega)
      | (simp_all; done)

theorem spec_AnswerOf_is (l : List S62) (q : Int) (hn : l.length ≤ 1048576) : spec_AnswerOf.F l q = some (answerOf l q) := by
  rw [spec_AnswerOf.F_eq]
  exact spec_AnswerOf_l0 l q hn l.length 0 (by omega)

theorem spec_GiveAnswer_is (l : List S62) (a0 a1 a2 a3 a : Int) (hn : l.length ≤ 1048576) : spec_GiveAnswer.F l a0 a1 a2 a3 a = some (giveAnswer l a0 a1 a2 a3 a) := by
  rw [spec_GiveAnswer.F_eq, spec_NextQuestion_is l a0 a1 a2 a3 hn, Option.bind_some, spec_AnswerOf_is l _ hn, Option.bind_some, giveAnswer]
  split
  · rfl
  · split <;> rfl

theorem l12Draw_l0 (b : List Int) (l : List S62) (hl : l.length ≤ 1048576) : ∀ (n : Nat) (i h a0 a1 a2 a3 : Int), CO b i → n ≤ 1000 → ∃ a0' a1' a2' a3' i' h', spec_l12Draw.L0 l (n : Int) b i h a0 a1 a2 a3 = some (a0', a1', a2', a3', i', h') ∧ CO b i'
  | 0, i, h, a0, a1, a2, a3, c, hn => ⟨a0, a1, a2, a3, i, h, by rw [spec_l12Draw.L0_eq, if_neg (by omega)], c⟩
  | n + 1, i, h, a0, a1, a2, a3, c, hn => by
    obtain ⟨r, i1, h1, e1, c1⟩ := l1Once_is b i h 4 c (by omega) (by omega)
    rw [spec_l12Draw.L0_eq, if_pos (by omega), spec_NextQuestion_is l _ _ _ _ hl, Option.bind_some, spec_AnswerOf_is l _ hl, Option.bind_some, e1, Option.bind_some]
    dsimp only
    rw [show wrap64 (((n + 1 : Nat) : Int) - 1) = (n : Int) by rw [wrap_in _ (by omega)]; omega]
    cases r with
    | true =>
      obtain ⟨s, i2, h2, e2, _, _, c2⟩ := below_pos b i1 h1 9 c1 (by omega) (by omega)
      rw [if_pos rfl, e2, Option.bind_some]
      dsimp only
      rw [spec_GiveAnswer_is l _ _ _ _ _ hl, Option.bind_some]
      exact l12Draw_l0 b l hl n i2 h2 _ _ _ _ c2 (by omega)
    | false =>
      rw [if_neg (by decide), spec_GiveAnswer_is l _ _ _ _ _ hl, Option.bind_some]
      exact l12Draw_l0 b l hl n i1 h1 _ _ _ _ c1 (by omega)
theorem l12Draw_is (b : List Int) (l : List S62) (hl : l.length ≤ 1048576) (i h : Int) (c : CO b i) : ∃ a0' a1' a2' a3' i' h', spec_l12Draw.F b i h l = some (a0', a1', a2', a3', i', h') ∧ CO b i' := by
  obtain ⟨r, i1, h1, e1, r0, r1, c1⟩ := below_pos b i h 20 c (by omega) (by omega)
  obtain ⟨s, i2, h2, e2, s0, s1, c2⟩ := below_pos b i1 h1 4 c1 (by omega) (by omega)
  rw [spec_l12Draw.F_eq, e1, Option.bind_some]
  dsimp only
  rw [e2, Option.bind_some]
  obtain ⟨n, rfl⟩ : ∃ n : Nat, s = n := ⟨s.toNat, by omega⟩
  exact l12Draw_l0 b l hl n i2 h2 _ _ _ _ c2 (by omega)
theorem l12Any_is (b : List Int) (i h : Int) (c : CO b i) : ∃ l a0 a1 a2 a3 i' h', spec_l12Any.F b i h = some (l, a0, a1, a2, a3, i', h') ∧ CO b i' ∧ l.length ≤ 6 := by
  obtain ⟨l, i1, h1, e1, c1, hl⟩ := l11Any_is b i h c
  obtain ⟨a0, a1, a2, a3, i2, h2, e2, c2⟩ := l12Draw_is b l (by omega) i1 h1 c1
  obtain ⟨s, i3, h3, e3, _, _, c3⟩ := below_pos b i2 h2 10 c2 (by omega) (by omega)
  rw [spec_l12Any.F_eq, e1, Option.bind_some]
  dsimp only
  rw [e2, Option.bind_some]
  dsimp only
  rw [e3, Option.bind_some]
  dsimp only
  by_cases s0 : s = 0
  · obtain ⟨v, i4, h4, e4, _, c4⟩ := l1Int_is b i3 h3 [0, 999, 1000] c3 (by decide) (by decide)
    rw [if_pos s0, e4, Option.bind_some]
    exact ⟨l, _, _, _, _, i4, h4, rfl, c4, hl⟩
  · rw [if_neg s0]
    by_cases s1 : s = 1
    · obtain ⟨v, i4, h4, e4, _, c4⟩ := l4Raw_is b i3 h3 c3
      rw [if_pos s1, e4, Option.bind_some]
      exact ⟨l, _, _, _, _, i4, h4, rfl, c4, hl⟩
    · rw [if_neg s1]
      by_cases s2 : s = 2
      · obtain ⟨v, i4, h4, e4, _, _, c4⟩ := below_pos b i3 h3 4 c3 (by omega) (by omega)
        rw [if_pos s2, e4, Option.bind_some]
        exact ⟨l, _, _, _, _, i4, h4, rfl, c4, hl⟩
      · rw [if_neg s2]
        exact ⟨l, _, _, _, _, i3, h3, rfl, c3, hl⟩
theorem drawTrialState_is (b : List Int) (hb : b.length ≤ 1048576) : ∃ l a0 a1 a2 a3, spec_DrawTrialState.F b = some (l, a0, a1, a2, a3) ∧ l.length ≤ 6 := by
  obtain ⟨h0, e0, c0⟩ := l1New_is b hb
  obtain ⟨l, a0, a1, a2, a3, i', h', e, _, hl⟩ := l12Any_is b 0 h0 c0
  rw [spec_DrawTrialState.F_eq, e0, Option.bind_some]
  dsimp only
  rw [e, Option.bind_some]
  exact ⟨l, a0, a1, a2, a3, rfl, hl⟩
theorem drawGiveAnswer_is (b : List Int) (hb : b.length ≤ 1048576) : ∃ l a0 a1 a2 a3 a, spec_DrawGiveAnswer.F b = some (l, a0, a1, a2, a3, a) ∧ l.length ≤ 6 := by
  obtain ⟨l, a0, a1, a2, a3, e, hl⟩ := drawTrialState_is b hb
  obtain ⟨h0, e0, c0⟩ := l1New_is b hb
  obtain ⟨r, i1, h1, e1, c1⟩ := l1Once_is b 0 h0 3 c0 (by omega) (by omega)
  rw [spec_DrawGiveAnswer.F_eq, e, Option.bind_some, e0, Option.bind_some]
  dsimp only
  rw [spec_NextQuestion_is l _ _ _ _ (by omega), Option.bind_some, spec_AnswerOf_is l _ (by omega), Option.bind_some, e1, Option.bind_some]
  dsimp only
  cases r with
  | true =>
    obtain ⟨s, i2, h2, e2, _⟩ := below_pos b i1 h1 9 c1 (by omega) (by omega)
    rw [if_pos rfl, e2, Option.bind_some]
    exact ⟨l, _, _, _, _, _, rfl, hl⟩
  | false =>
    rw [if_neg (by decide)]
    exact ⟨l, _, _, _, _, _, rfl, hl⟩
theorem drawAnswerAll_l0 (b : List Int) (l : List S62) (a0 a1 a2 a3 : Int) : ∀ (n : Nat) (q : List Int) (i h : Int), CO b i → q.length + n ≤ 1000 → ∃ q', spec_DrawAnswerAll.L0 l q (n : Int) a0 a1 a2 a3 b i h = some (l, a0, a1, a2, a3, q') ∧ q'.length ≤ q.length + n
  | 0, q, i, h, c, hn => ⟨q, by rw [spec_DrawAnswerAll.L0_eq, if_neg (by omega)], Nat.le_refl _⟩
  | n + 1, q, i, h, c, hn => by
    obtain ⟨r, i1, h1, e1, _, _, c1⟩ := below_pos b i h 9 c (by omega) (by omega)
    rw [spec_DrawAnswerAll.L0_eq, if_pos (by omega), e1, Option.bind_some]
    dsimp only
    rw [if_pos (by omega), show wrap64 (((n + 1 : Nat) : Int) - 1) = (n : Int) by rw [wrap_in _ (by omega)]; omega]
    obtain ⟨q', e, hq⟩ := drawAnswerAll_l0 b l a0 a1 a2 a3 n (q ++ [r]) i1 h1 c1 (by rw [List.length_append, List.length_singleton]; omega)
    rw [List.length_append, List.length_singleton] at hq
    exact ⟨q', e, by omega⟩
theorem drawAnswerAll_is (b : List Int) (hb : b.length ≤ 1048576) : ∃ l a0 a1 a2 a3 q, spec_DrawAnswerAll.F b = some (l, a0, a1, a2, a3, q) ∧ l.length ≤ 6 ∧ q.length ≤ 6 := by
  obtain ⟨l, a0, a1, a2, a3, e, hl⟩ := drawTrialState_is b hb
  obtain ⟨h0, e0, c0⟩ := l1New_is b hb
  obtain ⟨r, i1, h1, e1, r0, r1, c1⟩ := below_pos b 0 h0 6 c0 (by omega) (by omega)
  rw [spec_DrawAnswerAll.F_eq, e, Option.bind_some, e0, Option.bind_some]
  dsimp only
  rw [e1, Option.bind_some]
  dsimp only
  obtain ⟨n, rfl⟩ : ∃ n : Nat, r = n := ⟨r.toNat, by omega⟩
  obtain ⟨q', e2, hq⟩ := drawAnswerAll_l0 b l a0 a1 a2 a3 n [] i1 h1 c1 (by simp; omega)
  exact ⟨l, a0, a1, a2, a3, q', e2, hl, by simp at hq; omega⟩

noncomputable def answerAll (l : List S62) : List Int → Int → Int → Int → Int → Int × Int × Int × Int
  | [], a0, a1, a2, a3 => (a0, a1, a2, a3)
  | a :: r, a0, a1, a2, a3 => answerAll l r (giveAnswer l a0 a1 a2 a3 a).1 (giveAnswer l a0 a1 a2 a3 a).2.1 (giveAnswer l a0 a1 a2 a3 a).2.2.1 (giveAnswer l a0 a1 a2 a3 a).2.2.2.1

theorem inRange (a b c : Int) : impl_InRange.f a b c = some (inR a b c) := by
  unfold impl_InRange.f inR
  by_cases h : b ≤ a <;> simp [h]

theorem impl_AreMarks_l0 (l : List S62) (hn : l.length ≤ 1048576) : ∀ (d i : Nat), i + d = l.length → impl_AreMarks.L0 l l (l.length : Int) (i : Int) = some (allF (okMark l) l.length i)
  | 0, i, h => by rw [impl_AreMarks.L0_eq, if_neg (by omega), allF_end (by omega)]; first | done | rfl | simp [inRange, inR]
  | d + 1, i, h => by
    have hi : i < l.length := by omega
    have ih := impl_AreMarks_l0 l hn d (i + 1) (by omega)
    rw [impl_AreMarks.L0_eq]
    simp only [wrap_succ i (by omega), wrap_pred i (by omega), ih, inRange, Option.bind_some]
    by_cases hp_ : okMark l i
    · rw [allF_yes hp_]
      simp only [okMark] at hp_
      obtain ⟨h1_, h2_, h3_⟩ := hp_
      repeat' split
      all_goals first
        | rfl
        | (exfalso; first | contradiction | omega)
    · rw [allF_no hi hp_]
      repeat' split
      all_goals first
        | rfl
        | (simp; done)
        | (exfalso; first | contradiction | omega)
        | (exfalso; apply hp_; simp only [okMark]; (repeat' constructor) <;> first | assumption | (intro _; omega) | omega)

theorem impl_AreMarks_is (l : List S62) (hn : l.length ≤ 1048576) : impl_AreMarks.F l = some (areMarks l) := by
  rw [impl_AreMarks.F_eq, areMarks]
  by_cases h : (l.length : Int) > 8
  · rw [if_pos h, decide_eq_false (by omega), Bool.and_false]
  · rw [if_neg h, decide_eq_true (by omega), Bool.and_true]
    exact impl_AreMarks_l0 l hn l.length 0 (by omega)

theorem impl_NeedFor_is (l : List S62) (hn : l.length ≤ 1048576) : impl_NeedFor.f l = some (if (l.length : Int) < 3 then (l.length : Int) else 3) := by
  unfold impl_NeedFor.f mn
  rfl

theorem impl_IsTrial_is (a0 a1 a2 a3 : Int) : impl_IsTrial.f a0 a1 a2 a3 = some (isTrial a0 a1 a2 a3) := by
  unfold impl_IsTrial.f isTrial
  simp only [inRange, Option.bind_some]
  cases inR a0 1 999 <;> cases inR a2 0 100 <;> cases inR a3 0 100 <;> simp
theorem impl_TrialState_is (l : List S62) (a0 a1 a2 a3 : Int) (hn : l.length ≤ 1048576) : impl_TrialState.F l a0 a1 a2 a3 = some (trialState l a0 a1 a2 a3) := by
  rw [impl_TrialState.F_eq, impl_IsTrial_is, Option.bind_some, impl_AreMarks_is l hn, Option.bind_some]
  simp only [impl_TrialState.J0_eq, impl_NeedFor_is l hn, Option.bind_some, trialState]
  by_cases h1 : isTrial a0 a1 a2 a3 = true
  · by_cases h2 : areMarks l = true
    · by_cases h3 : a3 > 1
      · simp [h1, h2, h3]
      · by_cases h4 : (l.length : Int) > 0
        · by_cases h5 : a2 ≥ (if (l.length : Int) < 3 then (l.length : Int) else 3)
          · simp only [h1, h2, h3, h4, h5, if_true, decide_false, true_and, not_false_eq_true, and_self, Bool.false_eq_true, if_false]
          · simp only [h1, h2, h3, h4, h5, if_true, decide_false, true_and, not_false_eq_true, and_self, and_false, Bool.false_eq_true, if_false]
        · simp only [h1, h2, h3, h4, if_true, decide_false, true_and, false_and, not_false_eq_true, and_self, Bool.false_eq_true, if_false]
    · simp [h1, h2]
  · simp [h1]

theorem impl_fold_is (a x : Int) : impl_fold.f a x = some (hashStep a x) := by
  have hx := Int.emod_nonneg x (show (2147483647 : Int) ≠ 0 by decide)
  have hy := Int.emod_lt_of_pos x (show (0 : Int) < 2147483647 by decide)
  have e : impl_Mod.f x 2147483647 = some (x % 2147483647) := by
    unfold impl_Mod.f
    rw [inRange, Option.bind_some, if_pos (by decide), if_neg (by decide), tmod_of x]
    by_cases h : x % 2147483647 = 0
    · rw [if_pos h, if_neg (by decide), h]
    · rw [if_neg h]
      by_cases h0 : 0 ≤ x
      · rw [if_pos h0, if_neg (by omega)]
      · rw [if_neg h0, if_pos (by omega), wrap_in _ (by omega)]
        congr 1
        omega
  unfold impl_fold.f
  rw [e, Option.bind_some]
  rfl
theorem impl_Hash_l0 (l : List Int) (hn : l.length ≤ 4194304) : ∀ (d i : Nat) (a : Int), i + d = l.length → impl_Hash.L0 a l (l.length : Int) (i : Int) = some (hashL (l.drop i) a)
  | 0, i, a, h => by rw [impl_Hash.L0_eq, if_neg (by omega), List.drop_of_length_le (by omega)]; rfl
  | d + 1, i, a, h => by
    rw [impl_Hash.L0_eq, if_pos (by omega), if_pos (by omega), if_pos (by omega), impl_fold_is, Option.bind_some, wrap_succ i (by omega), impl_Hash_l0 l hn d (i + 1) _ (by omega), dropInt l i (by omega)]
    rfl
theorem impl_Hash_is (l : List Int) (hn : l.length ≤ 4194304) : impl_Hash.F l = some (hashL l 11) := by
  rw [impl_Hash.F_eq]
  exact impl_Hash_l0 l hn l.length 0 11 (by omega)

theorem impl_QuestionFor_is (l : List S62) (c n : Int) (hn : l.length ≤ 1048576) : impl_QuestionFor.F l c n = some (questionFor l c n) := by
  rw [impl_QuestionFor.F_eq, questionFor]
  by_cases h0 : l.length = 0
  · rw [if_pos (by omega), if_neg (fun h => h.1 h0)]
  · rw [if_neg (by omega), impl_AreMarks_is l hn, Option.bind_some]
    by_cases h1 : areMarks l = true
    · rw [if_pos h1, inRange, Option.bind_some]
      by_cases h2 : inR n 0 1000 = true
      · obtain ⟨e, e1, e2⟩ := question_idx c n (l.length : Int) (by omega) (inR_iff.1 h2)
        rw [if_pos h2, impl_Hash_is [c] (by simp), Option.bind_some, e, if_pos e1, if_pos e2, if_pos ⟨h0, h1, h2⟩]
      · rw [if_neg h2, if_neg (fun h => h2 h.2.2)]
    · rw [if_neg h1, if_neg (fun h => h1 h.2.1)]

theorem impl_NextQuestion_is (l : List S62) (a0 a1 a2 a3 : Int) (hn : l.length ≤ 1048576) : impl_NextQuestion.F l a0 a1 a2 a3 = some (nextQuestion l a0 a1 a2 a3) := by
  rw [impl_NextQuestion.F_eq, impl_TrialState_is l a0 a1 a2 a3 hn, Option.bind_some, impl_QuestionFor_is l a0 a1 hn, nextQuestion]
  by_cases h : trialState l a0 a1 a2 a3 = 0
  · rw [if_pos h, if_pos h]; rfl
  · rw [if_neg h, if_neg h]

theorem impl_AnswerOf_l0 (l : List S62) (q : Int) (hn : l.length ≤ 1048576) : ∀ (d i : Nat), i + d = l.length → impl_AnswerOf.L0 q l (l.length : Int) (i : Int) = some (answerOf (l.drop i) q)
  | 0, i, h => by rw [impl_AnswerOf.L0_eq, if_neg (by omega), List.drop_of_length_le (by omega)]; rfl
  | d + 1, i, h => by
    have hi : i < l.length := by omega
    have ih := impl_AnswerOf_l0 l q hn d (i + 1) (by omega)
    rw [impl_AnswerOf.L0_eq, dropMark l i hi]
    simp only [wrap_succ i (by omega), wrap_pred i (by omega), ih, Option.bind_some, answerOf]
    repeat' split
    all_goals first
      | rfl
      | (exfalso; first | contradiction | omega)
      | (simp_all; done)

theorem impl_AnswerOf_is (l : List S62) (q : Int) (hn : l.length ≤ 1048576) : impl_AnswerOf.F l q = some (answerOf l q) := by
  rw [impl_AnswerOf.F_eq]
  exact impl_AnswerOf_l0 l q hn l.length 0 (by omega)

theorem impl_GiveAnswer_is (l : List S62) (a0 a1 a2 a3 a : Int) (hn : l.length ≤ 1048576) : impl_GiveAnswer.F l a0 a1 a2 a3 a = some (giveAnswer l a0 a1 a2 a3 a) := by
  rw [impl_GiveAnswer.F_eq, impl_NextQuestion_is l a0 a1 a2 a3 hn, Option.bind_some, impl_AnswerOf_is l _ hn, Option.bind_some, giveAnswer]
  split
  · rfl
  · split <;> rfl

theorem impl_AnswerAll_l0 (l : List S62) (q : List Int) (hn : l.length ≤ 1048576) (hq : q.length ≤ 1048576) : ∀ (d i : Nat) (a0 a1 a2 a3 : Int), i + d = q.length → impl_AnswerAll.L0 l q (q.length : Int) (i : Int) a0 a1 a2 a3 = some (answerAll l (q.drop i) a0 a1 a2 a3)
  | 0, i, a0, a1, a2, a3, h => by rw [impl_AnswerAll.L0_eq, if_neg (by omega), List.drop_of_length_le (by omega), answerAll]
  | d + 1, i, a0, a1, a2, a3, h => by
    rw [impl_AnswerAll.L0_eq, if_pos (by omega), if_pos (by omega), if_pos (by omega), impl_GiveAnswer_is l _ _ _ _ _ hn, Option.bind_some, wrap_succ i (by omega), impl_AnswerAll_l0 l q hn hq d (i + 1) _ _ _ _ (by omega), dropInt q i (by omega), answerAll]
theorem impl_AnswerAll_is (l : List S62) (a0 a1 a2 a3 : Int) (q : List Int) (hn : l.length ≤ 1048576) (hq : q.length ≤ 1048576) : impl_AnswerAll.F l a0 a1 a2 a3 q = some (answerAll l q a0 a1 a2 a3) := by
  rw [impl_AnswerAll.F_eq]
  have := impl_AnswerAll_l0 l q hn hq q.length 0 a0 a1 a2 a3 (by omega)
  rw [List.drop_zero] at this
  exact this

theorem marks_ok {l : List S62} (h : areMarks l = true) (i : Nat) (hi : i < l.length) : 1 ≤ (rd_T62 l (i : Int)).f0 ∧ (rd_T62 l (i : Int)).f0 ≤ 20 ∧ 0 ≤ (rd_T62 l (i : Int)).f1 ∧ (rd_T62 l (i : Int)).f1 ≤ 99 := by
  unfold areMarks at h
  rw [Bool.and_eq_true, allF_all] at h
  have h1 := h.1 i hi
  have h2 := inR_iff.1 h1.1
  have h3 := inR_iff.1 h1.2.1
  omega
theorem question_pos {l : List S62} (h : areMarks l = true) (hl : 0 < l.length) (hn : l.length ≤ 1048576) (c n : Int) (h0 : 0 ≤ n ∧ n ≤ 1000) : 1 ≤ questionFor l c n ∧ ∃ j : Nat, j < l.length ∧ questionFor l c n = (rd_T62 l (j : Int)).f0 := by
  obtain ⟨_, e1, e2⟩ := question_idx c n (l.length : Int) (by omega) h0
  rw [questionFor, if_pos ⟨by omega, h, inR_iff.2 h0⟩]
  obtain ⟨j, hj⟩ : ∃ j : Nat, (hashL [c] 11 % (l.length : Int) + n) % (l.length : Int) = j := ⟨((hashL [c] 11 % (l.length : Int) + n) % (l.length : Int)).toNat, by omega⟩
  rw [hj] at e2 ⊢
  exact ⟨(marks_ok h j (by omega)).1, j, by omega, rfl⟩
def needM (l : List S62) : Int := if (l.length : Int) < 3 then (l.length : Int) else 3
theorem nq_open {l : List S62} {a0 a1 a2 a3 : Int} (h : nextQuestion l a0 a1 a2 a3 ≠ 0) : (1 ≤ a0 ∧ a0 ≤ 999) ∧ a1 = a2 + a3 ∧ 0 ≤ a2 ∧ a2 ≤ 2 ∧ 0 ≤ a3 ∧ a3 ≤ 1 := by
  unfold nextQuestion at h
  by_cases hs : trialState l a0 a1 a2 a3 = 0
  · rw [if_pos hs] at h
    unfold questionFor at h
    by_cases hq : l.length ≠ 0 ∧ areMarks l = true ∧ inR a1 0 1000 = true
    · unfold trialState at hs
      by_cases hc : isTrial a0 a1 a2 a3 = true ∧ areMarks l = true ∧ ¬ a3 > 1
      · rw [if_pos hc] at hs
        by_cases hd : (l.length : Int) > 0 ∧ a2 ≥ (if (l.length : Int) < 3 then (l.length : Int) else 3)
        · rw [if_pos hd] at hs
          omega
        · have hl := hq.1
          have h2 : ¬ a2 ≥ (if (l.length : Int) < 3 then (l.length : Int) else 3) := fun hh => hd ⟨by omega, hh⟩
          have ht := hc.1
          unfold isTrial at ht
          simp only [Bool.and_eq_true, inR_iff, beq_iff_eq] at ht
          obtain ⟨⟨⟨t0, t1⟩, t2⟩, t3⟩ := ht
          rw [wrap_in _ (by omega)] at t3
          have h3 : a2 ≤ 2 := by split at h2 <;> omega
          exact ⟨t0, t3, t1.1, h3, t2.1, by omega⟩
      · rw [if_neg hc] at hs
        omega
    · rw [if_neg hq] at h
      exact absurd rfl h
  · rw [if_neg hs] at h
    exact absurd rfl h
theorem answerOf_rng : ∀ (l : List S62) (q : Int), (∀ m ∈ l, 0 ≤ m.f1) → answerOf l q = -1 ∨ 0 ≤ answerOf l q
  | [], q, _ => .inl rfl
  | m :: r, q, h => by
    simp only [answerOf]
    by_cases c : m.f0 = q
    · rw [if_pos c]
      exact .inr (h m (List.mem_cons_self ..))
    · rw [if_neg c]
      exact answerOf_rng r q (fun y hy => h y (List.mem_cons_of_mem _ hy))
theorem marks_mem {l : List S62} (h : areMarks l = true) : ∀ m ∈ l, 0 ≤ m.f1 := by
  intro m hm
  obtain ⟨j, hj, rfl⟩ := List.getElem_of_mem hm
  have := (marks_ok h j hj).2.2.1
  rw [rdMark_at, getD_get l j _ hj] at this
  exact this
theorem state_open {l : List S62} (h : areMarks l = true) (hl : 0 < l.length) (a1 a2 a3 : Int) (h1 : a1 = a2 + a3) (h2 : 0 ≤ a2) (h3 : a2 < needM l) (h4 : 0 ≤ a3 ∧ a3 ≤ 1) : trialState l 7 a1 a2 a3 = 0 := by
  unfold needM at h3
  have h5 : a2 ≤ 2 := by split at h3 <;> omega
  have ht : isTrial 7 a1 a2 a3 = true := by
    unfold isTrial
    simp only [Bool.and_eq_true, inR_iff, beq_iff_eq]
    rw [wrap_in _ (by omega)]
    omega
  unfold trialState
  rw [if_pos ⟨ht, h, by omega⟩, if_neg (fun hh => by have := hh.2; omega)]
theorem give_right {l : List S62} (h : areMarks l = true) (hl : 0 < l.length) (hn : l.length ≤ 1048576) (i : Int) (h0 : 0 ≤ i) (h1 : i < needM l) : giveAnswer l 7 i i 0 (answerOf l (nextQuestion l 7 i i 0)) = (7, i + 1, i + 1, 0, true) := by
  have hs := state_open h hl i i 0 (by omega) h0 h1 (by omega)
  have hi : i ≤ 2 := by unfold needM at h1; split at h1 <;> omega
  have hq := question_pos h hl hn 7 i (by omega)
  have e : nextQuestion l 7 i i 0 = questionFor l 7 i := by rw [nextQuestion, if_pos hs]
  rw [giveAnswer, if_neg (by rw [e]; omega), if_pos rfl, wrap_in _ (by omega)]
theorem give_wrong {l : List S62} (h : areMarks l = true) (hl : 0 < l.length) (hn : l.length ≤ 1048576) (i : Int) (h0 : 0 ≤ i ∧ i ≤ 1) : giveAnswer l 7 i 0 i (-5) = (7, i + 1, 0, i + 1, true) := by
  have h1 : (0 : Int) < needM l := by unfold needM; split <;> omega
  have hs := state_open h hl i 0 i (by omega) (by omega) h1 h0
  have hq := question_pos h hl hn 7 i (by omega)
  have e : nextQuestion l 7 i 0 i = questionFor l 7 i := by rw [nextQuestion, if_pos hs]
  have ha : answerOf l (nextQuestion l 7 i 0 i) ≠ -5 := by
    rcases answerOf_rng l (nextQuestion l 7 i 0 i) (marks_mem h) with h | h <;> omega
  rw [giveAnswer, if_neg (by rw [e]; omega), if_neg ha, wrap_in _ (by omega)]
theorem bad_state (l : List S62) : trialState l 7 2 0 2 = 2 := by
  unfold trialState
  rw [if_neg (fun hh => hh.2.2 (by omega))]
theorem bad_is {l : List S62} (h : areMarks l = true) (hl : 0 < l.length) (hn : l.length ≤ 1048576) : answerAll l [-5, -5, -5] 7 0 0 0 = (7, 2, 0, 2) := by
  have e3 : giveAnswer l 7 2 0 2 (-5) = (7, 2, 0, 2, false) := by
    rw [giveAnswer, if_pos (by rw [nextQuestion, bad_state, if_neg (by omega)])]
  have e1 : giveAnswer l 7 0 0 0 (-5) = (7, 1, 0, 1, true) := give_wrong h hl hn 0 (by omega)
  have e2 : giveAnswer l 7 1 0 1 (-5) = (7, 2, 0, 2, true) := give_wrong h hl hn 1 (by omega)
  simp only [answerAll, e1, e2, e3]
theorem give_step (l : List S62) (a0 a1 a2 a3 a : Int) : (nextQuestion l a0 a1 a2 a3 = 0 ∧ giveAnswer l a0 a1 a2 a3 a = (a0, a1, a2, a3, false)) ∨
    (nextQuestion l a0 a1 a2 a3 ≠ 0 ∧ ((1 ≤ a0 ∧ a0 ≤ 999) ∧ a1 = a2 + a3 ∧ 0 ≤ a2 ∧ a2 ≤ 2 ∧ 0 ≤ a3 ∧ a3 ≤ 1) ∧ (giveAnswer l a0 a1 a2 a3 a = (a0, a1 + 1, a2 + 1, a3, true) ∨ giveAnswer l a0 a1 a2 a3 a = (a0, a1 + 1, a2, a3 + 1, true))) := by
  unfold giveAnswer
  by_cases h : nextQuestion l a0 a1 a2 a3 = 0
  · exact .inl ⟨h, by rw [if_pos h]⟩
  · have hf := nq_open h
    rw [if_neg h, wrap_in (a1 + 1) (by omega), wrap_in (a2 + 1) (by omega), wrap_in (a3 + 1) (by omega)]
    refine .inr ⟨h, hf, ?_⟩
    split
    · exact .inl rfl
    · exact .inr rfl
theorem answerAll_grows (l : List S62) : ∀ (q : List Int) (a0 a1 a2 a3 : Int), a2 ≤ (answerAll l q a0 a1 a2 a3).2.2.1 ∧ a3 ≤ (answerAll l q a0 a1 a2 a3).2.2.2 ∧ ((answerAll l q a0 a1 a2 a3).2.1 = a1 ∨ (0 ≤ a1 ∧ a1 ≤ 3 ∧ a1 ≤ (answerAll l q a0 a1 a2 a3).2.1 ∧ (answerAll l q a0 a1 a2 a3).2.1 ≤ a1 + (q.length : Int)))
  | [], a0, a1, a2, a3 => ⟨Int.le_refl _, Int.le_refl _, .inl rfl⟩
  | a :: r, a0, a1, a2, a3 => by
    rw [List.length_cons]
    rcases give_step l a0 a1 a2 a3 a with ⟨_, e⟩ | ⟨_, hf, e | e⟩
    · simp only [answerAll, e]
      have ih := answerAll_grows l r a0 a1 a2 a3
      omega
    · simp only [answerAll, e]
      have ih := answerAll_grows l r a0 (a1 + 1) (a2 + 1) a3
      omega
    · simp only [answerAll, e]
      have ih := answerAll_grows l r a0 (a1 + 1) a2 (a3 + 1)
      omega

theorem trials_end (x0 : List Int) (hb : x0.length ≤ 1048576) : ((spec_DrawAnswerAll.F x0).bind fun bt480 => ((impl_AnswerAll.F bt480.1 bt480.2.1 bt480.2.2.1 bt480.2.2.2.1 bt480.2.2.2.2.1 bt480.2.2.2.2.2).bind fun bt491 => (if bt491.2.2.1 ≥ bt480.2.2.2.1 then (if bt491.2.2.2 ≥ bt480.2.2.2.2.1 then (some (decide ((wrap64 (bt491.2.1 - bt480.2.2.1)) ≤ (bt480.2.2.2.2.2.length : Int)))) else (some false)) else (some false)))) = some true := by
  obtain ⟨l, a0, a1, a2, a3, q, e, hl, hq⟩ := drawAnswerAll_is x0 hb
  rw [e, Option.bind_some]
  dsimp only
  rw [impl_AnswerAll_is l _ _ _ _ _ (by omega) (by omega), Option.bind_some]
  have hg := answerAll_grows l q a0 a1 a2 a3
  generalize answerAll l q a0 a1 a2 a3 = u at hg
  rw [if_pos hg.1, if_pos hg.2.1, wrap_in _ (by omega), decide_eq_true (by omega)]
theorem trials_J4 (x0 : List Int) (hb : x0.length ≤ 1048576) : laws_FnTrials.J4 x0 false = some true := by
  rw [laws_FnTrials.J4_eq, if_neg (by decide)]
  exact trials_end x0 hb
theorem trials_l0 (x0 : List Int) (hb : x0.length ≤ 1048576) (l : List S62) (h : areMarks l = true) (hl : 0 < l.length) (hn : l.length ≤ 1048576) : ∀ (d : Nat) (i : Nat), (i : Int) + (d : Int) = needM l → laws_FnTrials.L0 x0 l (i : Int) 7 (i : Int) (i : Int) 0 = some true
  | 0, i, hd => by
    have hi : (i : Int) ≤ 3 := by unfold needM at hd; split at hd <;> omega
    rw [laws_FnTrials.L0_eq, impl_NeedFor_is l hn, Option.bind_some, if_neg (by unfold needM at hd; omega), impl_AnswerAll_is l _ _ _ _ _ hn (by simp), bad_is h hl hn, Option.bind_some, impl_TrialState_is l _ _ _ _ hn, Option.bind_some]
    have ht : isTrial 7 (i : Int) (i : Int) 0 = true := by
      unfold isTrial
      simp only [Bool.and_eq_true, inR_iff, beq_iff_eq]
      rw [wrap_in _ (by omega)]
      omega
    have hs : trialState l 7 (i : Int) (i : Int) 0 = 1 := by
      unfold trialState
      rw [if_pos ⟨ht, h, by omega⟩, if_pos ⟨by omega, by unfold needM at hd; omega⟩]
    rw [hs, if_pos rfl]
    dsimp only
    rw [impl_TrialState_is l _ _ _ _ hn, Option.bind_some, bad_state, if_pos rfl]
    exact trials_J4 x0 hb
  | d + 1, i, hd => by
    have hi : (i : Int) ≤ 3 := by unfold needM at hd; split at hd <;> omega
    rw [laws_FnTrials.L0_eq, impl_NeedFor_is l hn, Option.bind_some, if_pos (by unfold needM at hd; omega), impl_NextQuestion_is l _ _ _ _ hn, Option.bind_some, impl_AnswerOf_is l _ hn, Option.bind_some, impl_GiveAnswer_is l _ _ _ _ _ hn, give_right h hl hn (i : Int) (by omega) (by omega), Option.bind_some]
    dsimp only
    rw [wrap_succ i (by omega)]
    exact trials_l0 x0 hb l h hl hn d (i + 1) (by omega)
theorem trials_J1 (x0 : List Int) (hb : x0.length ≤ 1048576) (l : List S62) (hn : l.length ≤ 1048576) : laws_FnTrials.J1 x0 l false = some true := by
  have hend : laws_FnTrials.J2 x0 l false = some true := by
    rw [laws_FnTrials.J2_eq, if_neg (by decide)]
    exact trials_end x0 hb
  rw [laws_FnTrials.J1_eq, if_neg (by decide), impl_AreMarks_is l hn, Option.bind_some]
  by_cases h : areMarks l = true
  · rw [if_pos h]
    by_cases hl : (l.length : Int) > 0
    · rw [decide_eq_true hl, laws_FnTrials.J2_eq, if_pos rfl]
      have := trials_l0 x0 hb l h (by omega) hn (needM l).toNat 0 (by have : 0 ≤ needM l := by { unfold needM; split <;> omega }; omega)
      exact this
    · rw [decide_eq_false hl]
      exact hend
  · rw [if_neg h]
    exact hend
theorem trials_J0 (x0 : List Int) (hb : x0.length ≤ 1048576) (l : List S62) (hn : l.length ≤ 1048576) (a0 a1 a2 a3 : Int) : laws_FnTrials.J0 x0 l false a0 a1 a2 a3 = some true := by
  rw [laws_FnTrials.J0_eq, if_neg (by decide), impl_TrialState_is l _ _ _ _ hn, Option.bind_some]
  by_cases h : trialState l a0 a1 a2 a3 = 0
  · rw [if_pos h]
    exact trials_J1 x0 hb l hn
  · rw [if_neg h, impl_NextQuestion_is l _ _ _ _ hn, Option.bind_some, nextQuestion, if_neg h]
    exact trials_J1 x0 hb l hn
theorem law_FnTrials (l0 : List Int) (hm0 : l0.length ≤ maxLen) (hw0 : ∀ y ∈ l0, (fun n : Int => (Lit.int .u8 n).wf = true) y) : laws_FnTrials.F l0 = some true := by
  rw [laws_FnTrials.F_eq, big_is, Option.bind_some]
  by_cases hb : (l0.length : Int) > 1048576
  · rw [decide_eq_true hb, if_pos rfl]
  · have hb' : l0.length ≤ 1048576 := by omega
    obtain ⟨l, a0, a1, a2, a3, a, e, hl⟩ := drawGiveAnswer_is l0 hb'
    have hn : l.length ≤ 1048576 := by omega
    rw [decide_eq_false hb, if_neg (by decide), e, Option.bind_some]
    dsimp only
    rw [impl_GiveAnswer_is l _ _ _ _ _ hn, Option.bind_some, impl_NextQuestion_is l _ _ _ _ hn, Option.bind_some]
    rcases give_step l a0 a1 a2 a3 a with ⟨h, e⟩ | ⟨h, hf, e⟩
    · rw [e, h]
      dsimp only
      rw [if_neg (by decide), if_neg (by decide)]
      simp only [beq_self_eq_true, Bool.not_true, Bool.or_false]
      exact trials_J0 l0 hb' l hn a0 a1 a2 a3
    · have hne : (nextQuestion l a0 a1 a2 a3 != 0) = true := bne_iff_ne.2 h
      have ht : ∀ b2 b3 : Int, 0 ≤ b2 ∧ b2 ≤ 3 → 0 ≤ b3 ∧ b3 ≤ 2 → a1 + 1 = b2 + b3 → impl_IsTrial.f a0 (a1 + 1) b2 b3 = some true := by
        intro b2 b3 h2 h3 h4
        rw [impl_IsTrial_is]
        congr 1
        unfold isTrial
        simp only [Bool.and_eq_true, inR_iff, beq_iff_eq]
        rw [wrap_in _ (by omega)]
        omega
      rcases e with e | e
      · rw [e, hne]
        dsimp only
        rw [if_neg (by decide), if_pos rfl, ht _ _ (by omega) (by omega) (by omega), Option.bind_some, if_pos rfl, wrap_in (a1 + 1) (by omega), if_pos rfl]
        exact trials_J0 l0 hb' l hn a0 a1 a2 a3
      · rw [e, hne]
        dsimp only
        rw [if_neg (by decide), if_pos rfl, ht _ _ (by omega) (by omega) (by omega), Option.bind_some, if_pos rfl, wrap_in (a1 + 1) (by omega), if_pos rfl]
        exact trials_J0 l0 hb' l hn a0 a1 a2 a3

theorem FnTrials (l0 : List Int) (hm0 : l0.length ≤ maxLen) (hw0 : ∀ y ∈ l0, (fun n : Int => (Lit.int .u8 n).wf = true) y) : ∃ k, laws_FnTrials.f k l0 = some true :=
  (laws_FnTrials.F_co l0).rounds (law_FnTrials l0 hm0 hw0)
end Go.Proofs.Ytppgealmedaihaa.PFnTrials.Pure
