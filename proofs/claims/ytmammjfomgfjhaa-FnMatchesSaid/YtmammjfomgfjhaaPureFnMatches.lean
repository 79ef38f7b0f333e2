/-
  The law FnMatches answers true for every input. It has no conditions.
-/
import Derived.Test.YtmammjfomgfjhaaShFnMatches
import Derived.Test.YtmammjfomgfjhaaEqFnMatches
import Derived.Test.YtmammjfomgfjhaaBase
set_option linter.unusedVariables false
set_option linter.unusedSimpArgs false
namespace Go.Proofs.Ytmammjfomgfjhaa.PFnMatches.Pure
open Go.RowKit Go.Proofs.YtmammjfomgfjhaaW.PrintWords Go.Proofs.YtmammjfomgfjhaaW.PrintLast Go.Proofs.YtmammjfomgfjhaaW.PrintMore Go.Proofs.Ytmammjfomgfjhaa.PFnMatches Go.Proofs.Ytmammjfomgfjhaa.Lim Go.Proofs.Ytmammjfomgfjhaa.Base
set_option maxRecDepth 100000

theorem big_is (l : List Int) : laws_big.f l = some (decide ((l.length : Int) > 1048576)) := rfl

/-- A cursor's place in the bytes that it reads. -/
def CO (b : List Int) (i : Int) : Prop := 0 ≤ i ∧ i ≤ (b.length : Int) ∧ b.length ≤ 1048576
theorem and255 (x : Int) : 0 ≤ Go.bits .and .i64 x 255 ∧ Go.bits .and .i64 x 255 ≤ 255 := by
  have h : (BitVec.ofInt 64 255).toNat = 255 := by decide
  have h2 : (BitVec.ofInt 64 x &&& BitVec.ofInt 64 255).toNat ≤ 255 := by
    rw [BitVec.toNat_and, h]
    exact Nat.and_le_right
  show 0 ≤ IntKind.i64.wrap ((BitVec.ofInt 64 x &&& BitVec.ofInt 64 255).toNat : Int) ∧ IntKind.i64.wrap ((BitVec.ofInt 64 x &&& BitVec.ofInt 64 255).toNat : Int) ≤ 255
  rw [IntKind.wrap_i64]
  omega
theorem l1Byte_is (b : List Int) (i h : Int) (c : CO b i) : ∃ r i' h', spec_l1Byte.f b i h = some (r, i', h') ∧ 0 ≤ r ∧ r ≤ 255 ∧ CO b i' := by
  obtain ⟨c0, c1, c2⟩ := c
  unfold spec_l1Byte.f
  by_cases hi : i < (b.length : Int)
  · rw [if_pos hi, if_pos c0]
    refine ⟨_, _, _, rfl, (and255 _).1, (and255 _).2, ?_⟩
    rw [wrap_in _ (by omega)]
    exact ⟨by omega, by omega, c2⟩
  · rw [if_neg hi]
    exact ⟨_, _, _, rfl, (and255 _).1, (and255 _).2, c0, c1, c2⟩
theorem l1Below_is (b : List Int) (i h n : Int) (c : CO b i) (hn : n ≤ 10000000) : ∃ r i' h', spec_l1Below.f b i h n = some (r, i', h') ∧ 0 ≤ r ∧ (0 < n → r < n) ∧ (n ≤ 0 → r = 0) ∧ CO b i' := by
  unfold spec_l1Below.f
  by_cases h0 : n ≤ 0
  · rw [if_pos h0]
    exact ⟨0, i, h, rfl, by omega, fun _ => by omega, fun _ => rfl, c⟩
  · rw [if_neg h0]
    by_cases h1 : n ≤ 256
    · obtain ⟨r, i', h', e, r0, r1, c'⟩ := l1Byte_is b i h c
      rw [if_pos h1, e, Option.bind_some, if_neg (by omega), Int.tmod_eq_emod_of_nonneg r0]
      exact ⟨_, _, _, rfl, Int.emod_nonneg _ (by omega), fun _ => Int.emod_lt_of_pos _ (by omega), fun _ => by omega, c'⟩
    · obtain ⟨r, i', h', e, r0, r1, c'⟩ := l1Byte_is b i h c
      obtain ⟨s, i2, h2, e2, s0, s1, c2⟩ := l1Byte_is b i' h' c'
      obtain ⟨t, i3, h3, e3, t0, t1, c3⟩ := l1Byte_is b i2 h2 c2
      rw [if_neg h1, e, Option.bind_some]
      dsimp only
      rw [e2, Option.bind_some]
      dsimp only
      rw [e3, Option.bind_some, if_neg (by omega)]
      dsimp only
      rw [wrap_in (r * 65536) (by omega), wrap_in (s * 256) (by omega), wrap_in (r * 65536 + s * 256) (by omega), wrap_in (r * 65536 + s * 256 + t) (by omega), Int.tmod_eq_emod_of_nonneg (by omega)]
      exact ⟨_, _, _, rfl, Int.emod_nonneg _ (by omega), fun _ => Int.emod_lt_of_pos _ (by omega), fun _ => by omega, c3⟩
theorem below_pos (b : List Int) (i h n : Int) (c : CO b i) (h0 : 0 < n) (hn : n ≤ 10000000) : ∃ r i' h', spec_l1Below.f b i h n = some (r, i', h') ∧ 0 ≤ r ∧ r < n ∧ CO b i' := by
  obtain ⟨r, i', h', e, r0, r1, _, c'⟩ := l1Below_is b i h n c hn
  exact ⟨r, i', h', e, r0, r1 h0, c'⟩
theorem l1New_l0 (b : List Int) (hb : b.length ≤ 1048576) : ∀ (d i : Nat) (h : Int), i + d = b.length → ∃ h', spec_l1New.L0 b h (i : Int) = some (b, 0, h')
  | 0, i, h, hd => ⟨h, by rw [spec_l1New.L0_eq, if_neg (by omega)]⟩
  | d + 1, i, h, hd => by
    rw [spec_l1New.L0_eq, if_pos (by omega), if_pos (show (0 : Int) ≤ (i : Int) by omega), wrap_succ i (by omega)]
    by_cases h4 : (i : Int) < 4000
    · rw [if_pos h4]
      exact l1New_l0 b hb d (i + 1) _ (by omega)
    · rw [if_neg h4]
      exact ⟨h, rfl⟩
theorem l1New_is (b : List Int) (hb : b.length ≤ 1048576) : ∃ h', spec_l1New.F b = some (b, 0, h') ∧ CO b 0 := by
  obtain ⟨h', e⟩ := l1New_l0 b hb b.length 0 (wrap64 (193017 + (b.length : Int))) (by omega)
  exact ⟨h', by rw [spec_l1New.F_eq]; exact e, by unfold CO; omega⟩

theorem rdInt_at (l : List Int) (i : Nat) : rd l (i : Int) = l.getD i 0 := by simp [rd]
theorem dropInt (l : List Int) (i : Nat) (h : i < l.length) : l.drop i = rd l (i : Int) :: l.drop (i + 1) := by
  rw [rdInt_at, getD_get l i _ h]
  exact List.drop_eq_getElem_cons h

theorem l1Int_is (b : List Int) (i h : Int) (l : List Int) (c : CO b i) (h0 : 0 < l.length) (hn : l.length ≤ 1000) : ∃ r i' h', spec_l1Int.f b i h l = some (r, i', h') ∧ r ∈ l ∧ CO b i' := by
  obtain ⟨r, i', h', e, r0, r1, c'⟩ := below_pos b i h (l.length : Int) c (by omega) (by omega)
  unfold spec_l1Int.f
  rw [e, Option.bind_some]
  dsimp only
  rw [if_pos r0, if_pos r1]
  obtain ⟨j, rfl⟩ : ∃ j : Nat, r = j := ⟨r.toNat, by omega⟩
  refine ⟨_, _, _, rfl, ?_, c'⟩
  rw [show rd l (j : Int) = l[j]'(by omega) by simp [rd, show j < l.length by omega]]
  exact List.getElem_mem _

theorem l4Raw_is (b : List Int) (i h : Int) (c : CO b i) : ∃ r i' h', spec_l4Raw.f b i h = some (r, i', h') ∧ r ∈ ([-1, 0, 8, 50, 51, 1000, 9223372036854775807, -9223372036854775808] : List Int) ∧ CO b i' := by
  obtain ⟨r, i', h', e, hm, c'⟩ := l1Int_is b i h [-1, 0, 8, 50, 51, 1000, 9223372036854775807, -9223372036854775808] c (by decide) (by decide)
  unfold spec_l4Raw.f
  rw [e, Option.bind_some]
  exact ⟨r, i', h', rfl, hm, c'⟩

theorem l4Draw_is (b : List Int) (i h id : Int) (c : CO b i) : ∃ x1 x2 x3 x4 i' h', spec_l4Draw.f b i h id = some (id, x1, x2, x3, x4, i', h') ∧ CO b i' := by
  obtain ⟨r1, i1, h1, e1, _, _, c1⟩ := below_pos b i h 8 c (by omega) (by omega)
  obtain ⟨r2, i2, h2, e2, _, _, c2⟩ := below_pos b i1 h1 8 c1 (by omega) (by omega)
  obtain ⟨r3, i3, h3, e3, _, _, c3⟩ := below_pos b i2 h2 20 c2 (by omega) (by omega)
  obtain ⟨r4, i4, h4, e4, _, _, c4⟩ := below_pos b i3 h3 500 c3 (by omega) (by omega)
  unfold spec_l4Draw.f
  rw [e1, Option.bind_some]
  dsimp only
  rw [e2, Option.bind_some]
  dsimp only
  rw [e3, Option.bind_some]
  dsimp only
  rw [e4, Option.bind_some]
  exact ⟨_, _, _, _, i4, h4, rfl, c4⟩
theorem l4Any_is (b : List Int) (i h : Int) (c : CO b i) : ∃ x0 x1 x2 x3 x4 i' h', spec_l4Any.f b i h = some (x0, x1, x2, x3, x4, i', h') ∧ CO b i' := by
  obtain ⟨r, i1, h1, e1, _, _, c1⟩ := below_pos b i h 40 c (by omega) (by omega)
  obtain ⟨x1, x2, x3, x4, i2, h2, e2, c2⟩ := l4Draw_is b i1 h1 (wrap64 (1 + r)) c1
  obtain ⟨s, i3, h3, e3, _, _, c3⟩ := below_pos b i2 h2 14 c2 (by omega) (by omega)
  unfold spec_l4Any.f
  rw [e1, Option.bind_some]
  dsimp only
  rw [e2, Option.bind_some]
  dsimp only
  rw [e3, Option.bind_some]
  dsimp only
  by_cases s0 : s = 0
  · obtain ⟨v, i4, h4, e4, _, c4⟩ := l1Int_is b i3 h3 [0, 999, 1000] c3 (by decide) (by decide)
    rw [if_pos s0, e4, Option.bind_some]
    exact ⟨_, _, _, _, _, i4, h4, rfl, c4⟩
  rw [if_neg s0]
  by_cases s1 : s = 1
  · obtain ⟨v, i4, h4, e4, _, c4⟩ := l1Int_is b i3 h3 [0, 8, 9] c3 (by decide) (by decide)
    rw [if_pos s1, e4, Option.bind_some]
    exact ⟨_, _, _, _, _, i4, h4, rfl, c4⟩
  rw [if_neg s1]
  by_cases s2 : s = 2
  · obtain ⟨v, i4, h4, e4, _, c4⟩ := l1Int_is b i3 h3 [-1, 7, 8] c3 (by decide) (by decide)
    rw [if_pos s2, e4, Option.bind_some]
    exact ⟨_, _, _, _, _, i4, h4, rfl, c4⟩
  rw [if_neg s2]
  by_cases s3 : s = 3
  · obtain ⟨v, i4, h4, e4, _, c4⟩ := l4Raw_is b i3 h3 c3
    rw [if_pos s3, e4, Option.bind_some]
    exact ⟨_, _, _, _, _, i4, h4, rfl, c4⟩
  rw [if_neg s3]
  by_cases s4 : s = 4
  · obtain ⟨v, i4, h4, e4, _, c4⟩ := l1Int_is b i3 h3 [-1, 10000000, 10000001] c3 (by decide) (by decide)
    rw [if_pos s4, e4, Option.bind_some]
    exact ⟨_, _, _, _, _, i4, h4, rfl, c4⟩
  · rw [if_neg s4]
    exact ⟨_, _, _, _, _, i3, h3, rfl, c3⟩

theorem l1Once_is (b : List Int) (i h n : Int) (c : CO b i) (h0 : 0 < n) (hn : n ≤ 10000000) : ∃ r i' h', spec_l1Once.f b i h n = some (r, i', h') ∧ CO b i' := by
  obtain ⟨r, i', h', e, r0, r1, c'⟩ := below_pos b i h n c h0 hn
  unfold spec_l1Once.f
  rw [e, Option.bind_some]
  exact ⟨_, i', h', rfl, c'⟩

theorem rdFind_at (l : List S42) (i : Nat) : rd_T42 l (i : Int) = l.getD i z42 := by simp [rd_T42]
theorem dropFind (l : List S42) (i : Nat) (h : i < l.length) : l.drop i = rd_T42 l (i : Int) :: l.drop (i + 1) := by
  rw [rdFind_at, getD_get l i _ h]
  exact List.drop_eq_getElem_cons h

theorem l6Draw_is (b : List Int) (i h id : Int) (c : CO b i) : ∃ x1 x2 x3 x4 x5 x6 x7 i' h', spec_l6Draw.f b i h id = some (id, x1, x2, x3, x4, x5, x6, x7, i', h') ∧ CO b i' := by
  obtain ⟨x1, x2, x3, x4, i1, h1, e1, c1⟩ := l4Draw_is b i h id c
  obtain ⟨r2, i2, h2, e2, _, _, c2⟩ := below_pos b i1 h1 6 c1 (by omega) (by omega)
  obtain ⟨r3, i3, h3, e3, _, _, c3⟩ := below_pos b i2 h2 80 c2 (by omega) (by omega)
  obtain ⟨r4, i4, h4, e4, _, _, c4⟩ := below_pos b i3 h3 5 c3 (by omega) (by omega)
  unfold spec_l6Draw.f
  rw [e1, Option.bind_some]
  dsimp only
  rw [e2, Option.bind_some]
  dsimp only
  rw [e3, Option.bind_some]
  dsimp only
  rw [e4, Option.bind_some]
  exact ⟨_, _, _, _, _, _, _, i4, h4, rfl, c4⟩
theorem l6List_l0 (b : List Int) : ∀ (d : Nat) (l : List S42) (x i h : Int), CO b i → 1 ≤ x → x + d = 8 → l.length + d ≤ 1000 → ∃ l' i' h', spec_l6List.L0 l x b i h = some (l', i', h') ∧ CO b i' ∧ l'.length ≤ 1000
  | 0, l, x, i, h, c, h0, hx, hl => by
    obtain ⟨r, i1, h1, e1, r0, r1, c1⟩ := below_pos b i h 8 c (by omega) (by omega)
    rw [spec_l6List.L0_eq, e1, Option.bind_some]
    dsimp only
    rw [if_neg (by omega)]
    exact ⟨l, i1, h1, rfl, c1, by omega⟩
  | d + 1, l, x, i, h, c, h0, hx, hl => by
    obtain ⟨r, i1, h1, e1, r0, r1, c1⟩ := below_pos b i h 8 c (by omega) (by omega)
    rw [spec_l6List.L0_eq, e1, Option.bind_some]
    dsimp only
    by_cases c2 : x ≤ r
    · obtain ⟨x1, x2, x3, x4, x5, x6, x7, i2, h2, e2, c3⟩ := l6Draw_is b i1 h1 (wrap64 (2 * x)) c1
      rw [if_pos c2, e2, Option.bind_some]
      dsimp only
      rw [if_pos (by omega), show wrap64 (x + 1) = x + 1 from wrap_in _ (by omega)]
      exact l6List_l0 b d _ (x + 1) i2 h2 c3 (by omega) (by omega) (by rw [List.length_append, List.length_singleton]; omega)
    · rw [if_neg c2]
      exact ⟨l, i1, h1, rfl, c1, by omega⟩
theorem l6List_is (b : List Int) (i h : Int) (c : CO b i) : ∃ l' i' h', spec_l6List.F b i h = some (l', i', h') ∧ CO b i' ∧ l'.length ≤ 1000 := by
  rw [spec_l6List.F_eq]
  exact l6List_l0 b 7 [] 1 i h c (by omega) (by omega) (by simp)
theorem l6Any_is (b : List Int) (i h : Int) (c : CO b i) : ∃ l' i' h', spec_l6Any.F b i h = some (l', i', h') ∧ CO b i' ∧ l'.length ≤ 1000 := by
  obtain ⟨l, i1, h1, e1, c1, hl⟩ := l6List_is b i h c
  rw [spec_l6Any.F_eq, e1, Option.bind_some]
  dsimp only
  by_cases l0 : (l.length : Int) = 0
  · rw [if_pos l0]
    exact ⟨l, i1, h1, rfl, c1, hl⟩
  obtain ⟨r, i2, h2, e2, r0, r1, c2⟩ := below_pos b i1 h1 (l.length : Int) c1 (by omega) (by omega)
  obtain ⟨s, i3, h3, e3, _, _, c3⟩ := below_pos b i2 h2 12 c2 (by omega) (by omega)
  rw [if_neg l0, e2, Option.bind_some]
  dsimp only
  rw [e3, Option.bind_some]
  dsimp only
  by_cases s0 : s = 0
  · obtain ⟨y0, y1, y2, y3, y4, i4, h4, e4, c4⟩ := l4Any_is b i3 h3 c3
    rw [if_pos s0, e4, Option.bind_some]
    dsimp only
    rw [if_pos r0, if_pos r1]
    exact ⟨_, i4, h4, rfl, c4, by rw [List.length_set]; exact hl⟩
  rw [if_neg s0]
  by_cases s1 : s = 1
  · obtain ⟨v, i4, h4, e4, _, c4⟩ := l1Int_is b i3 h3 [0, 30, 31] c3 (by decide) (by decide)
    rw [if_pos s1, e4, Option.bind_some]
    dsimp only
    rw [if_pos r0, if_pos r1]
    exact ⟨_, i4, h4, rfl, c4, by rw [List.length_set]; exact hl⟩
  rw [if_neg s1]
  by_cases s2 : s = 2
  · obtain ⟨v, i4, h4, e4, _, c4⟩ := l4Raw_is b i3 h3 c3
    rw [if_pos s2, e4, Option.bind_some]
    dsimp only
    rw [if_pos r0, if_pos r1]
    exact ⟨_, i4, h4, rfl, c4, by rw [List.length_set]; exact hl⟩
  rw [if_neg s2]
  by_cases s3 : s = 3
  · obtain ⟨v, i4, h4, e4, _, c4⟩ := l1Int_is b i3 h3 [-1, 999, 1000] c3 (by decide) (by decide)
    rw [if_pos s3, e4, Option.bind_some]
    dsimp only
    rw [if_pos r0, if_pos r1]
    exact ⟨_, i4, h4, rfl, c4, by rw [List.length_set]; exact hl⟩
  · rw [if_neg s3]
    exact ⟨l, i3, h3, rfl, c3, hl⟩
theorem l6One_is (b : List Int) (i h : Int) (c : CO b i) : ∃ x0 x1 x2 x3 x4 x5 x6 x7 i' h', spec_l6One.F b i h = some (x0, x1, x2, x3, x4, x5, x6, x7, i', h') ∧ CO b i' := by
  obtain ⟨l, i1, h1, e1, c1, hl⟩ := l6Any_is b i h c
  rw [spec_l6One.F_eq, e1, Option.bind_some]
  dsimp only
  by_cases l0 : (l.length : Int) = 0
  · rw [if_pos l0]
    exact ⟨_, _, _, _, _, _, _, _, i1, h1, rfl, c1⟩
  · rw [if_neg l0, if_pos (by omega)]
    exact ⟨_, _, _, _, _, _, _, _, i1, h1, rfl, c1⟩

theorem l5Draw_is (b : List Int) (i h : Int) (c : CO b i) : ∃ x0 x1 i' h', spec_l5Draw.f b i h = some (x0, x1, i', h') ∧ CO b i' := by
  obtain ⟨r1, i1, h1, e1, _, _, c1⟩ := below_pos b i h 60 c (by omega) (by omega)
  obtain ⟨r2, i2, h2, e2, _, _, c2⟩ := below_pos b i1 h1 30 c1 (by omega) (by omega)
  unfold spec_l5Draw.f
  rw [e1, Option.bind_some]
  dsimp only
  rw [e2, Option.bind_some]
  exact ⟨_, _, i2, h2, rfl, c2⟩
theorem l5Any_is (b : List Int) (i h : Int) (c : CO b i) : ∃ x0 x1 i' h', spec_l5Any.f b i h = some (x0, x1, i', h') ∧ CO b i' := by
  obtain ⟨x0, x1, i1, h1, e1, c1⟩ := l5Draw_is b i h c
  obtain ⟨r2, i2, h2, e2, _, _, c2⟩ := below_pos b i1 h1 10 c1 (by omega) (by omega)
  unfold spec_l5Any.f
  rw [e1, Option.bind_some]
  dsimp only
  rw [e2, Option.bind_some]
  dsimp only
  by_cases s0 : r2 = 0
  · obtain ⟨v, i3, h3, e3, _, c3⟩ := l4Raw_is b i2 h2 c2
    rw [if_pos s0, e3, Option.bind_some]
    exact ⟨_, _, i3, h3, rfl, c3⟩
  · rw [if_neg s0]
    by_cases s1 : r2 = 1
    · obtain ⟨v, i3, h3, e3, _, c3⟩ := l1Int_is b i2 h2 [-1, 0, 100000, 100001] c2 (by decide) (by decide)
      rw [if_pos s1, e3, Option.bind_some]
      exact ⟨_, _, i3, h3, rfl, c3⟩
    · rw [if_neg s1]
      exact ⟨_, _, i2, h2, rfl, c2⟩

theorem l7Some_l0 (b : List Int) (hi q : Int) (hq : 0 < q ∧ q ≤ 1000) (hh : hi ≤ 1000) : ∀ (d : Nat) (l : List Int) (x i h : Int), CO b i → 0 ≤ x → x + d = hi + 1 → l.length + d ≤ 1000 → ∃ l' i' h', spec_l7Some.L0 hi q l x b i h = some (l', i', h') ∧ CO b i' ∧ l'.length ≤ 1000
  | 0, l, x, i, h, c, h0, hx, hl => ⟨l, i, h, by rw [spec_l7Some.L0_eq, if_neg (by omega)], c, by omega⟩
  | d + 1, l, x, i, h, c, h0, hx, hl => by
    obtain ⟨r, i1, h1, e1, c1⟩ := l1Once_is b i h q c (by omega) (by omega)
    rw [spec_l7Some.L0_eq, if_pos (by omega), e1, Option.bind_some]
    dsimp only
    rw [show wrap64 (x + 1) = x + 1 from wrap_in _ (by omega)]
    by_cases c2 : r = true
    · rw [if_pos c2, if_pos (by omega)]
      exact l7Some_l0 b hi q hq hh d _ (x + 1) i1 h1 c1 (by omega) (by omega) (by rw [List.length_append, List.length_singleton]; omega)
    · rw [if_neg c2]
      exact l7Some_l0 b hi q hq hh d l (x + 1) i1 h1 c1 (by omega) (by omega) (by omega)
theorem l7Some_is (b : List Int) (i h lo hi q : Int) (c : CO b i) (hq : 0 < q ∧ q ≤ 1000) (hlo : 0 ≤ lo) (hlh : lo ≤ hi) (hh : hi ≤ 900) : ∃ l' i' h', spec_l7Some.F b i h lo hi q = some (l', i', h') ∧ CO b i' ∧ l'.length ≤ 1000 := by
  rw [spec_l7Some.F_eq]
  exact l7Some_l0 b hi q hq (by omega) (hi + 1 - lo).toNat [] lo i h c hlo (by omega) (by simp only [List.length_nil]; omega)
theorem l7Draw_is (b : List Int) (i h n : Int) (c : CO b i) : ∃ r1 rc r3 r4 rp r6 r7 i' h', spec_l7Draw.F b i h n = some (n, r1, rc, r3, r4, rp, r6, r7, i', h') ∧ CO b i' ∧ rc.length ≤ 1000 ∧ rp.length ≤ 1000 := by
  obtain ⟨x1, i1, h1, e1, _, _, c1⟩ := below_pos b i h 12 c (by omega) (by omega)
  obtain ⟨x2, i2, h2, e2, _, _, c2⟩ := below_pos b i1 h1 8 c1 (by omega) (by omega)
  obtain ⟨rc, i3, h3, e3, c3, hc⟩ := l7Some_is b i2 h2 0 7 3 c2 (by omega) (by omega) (by omega) (by omega)
  obtain ⟨x4, i4, h4, e4, _, _, c4⟩ := below_pos b i3 h3 15 c3 (by omega) (by omega)
  obtain ⟨rp, i5, h5, e5, c5, hp⟩ := l7Some_is b i4 h4 1 6 2 c4 (by omega) (by omega) (by omega) (by omega)
  obtain ⟨s0, s1, i6, h6, e6, c6⟩ := l5Draw_is b i5 h5 c5
  rw [spec_l7Draw.F_eq, e1, Option.bind_some]
  dsimp only
  rw [e2, Option.bind_some]
  dsimp only
  rw [e3, Option.bind_some]
  dsimp only
  rw [e4, Option.bind_some]
  dsimp only
  rw [e5, Option.bind_some]
  dsimp only
  rw [e6, Option.bind_some]
  exact ⟨_, rc, _, _, rp, _, _, i6, h6, rfl, c6, hc, hp⟩
theorem l7Any_is (b : List Int) (i h : Int) (c : CO b i) : ∃ r0 r1 rc r3 r4 rp r6 r7 i' h', spec_l7Any.F b i h = some (r0, r1, rc, r3, r4, rp, r6, r7, i', h') ∧ CO b i' ∧ rc.length ≤ 1000 ∧ rp.length ≤ 1000 := by
  obtain ⟨n, i1, h1, e1, _, _, c1⟩ := below_pos b i h 9 c (by omega) (by omega)
  obtain ⟨r1, rc, r3, r4, rp, r6, r7, i2, h2, e2, c2, hc, hp⟩ := l7Draw_is b i1 h1 (wrap64 (1 + n)) c1
  obtain ⟨s, i3, h3, e3, _, _, c3⟩ := below_pos b i2 h2 14 c2 (by omega) (by omega)
  rw [spec_l7Any.F_eq, e1, Option.bind_some]
  dsimp only
  rw [e2, Option.bind_some]
  dsimp only
  rw [e3, Option.bind_some]
  dsimp only
  by_cases s0 : s = 0
  · obtain ⟨v, i4, h4, e4, _, c4⟩ := l1Int_is b i3 h3 [0, 999, 1000] c3 (by decide) (by decide)
    rw [if_pos s0, e4, Option.bind_some]
    exact ⟨_, _, _, _, _, _, _, _, i4, h4, rfl, c4, hc, hp⟩
  rw [if_neg s0]
  by_cases s1 : s = 1
  · obtain ⟨v, i4, h4, e4, _, c4⟩ := l1Int_is b i3 h3 [0, 8, 9] c3 (by decide) (by decide)
    rw [if_pos s1, e4, Option.bind_some]
    exact ⟨_, _, _, _, _, _, _, _, i4, h4, rfl, c4, hc, hp⟩
  rw [if_neg s1]
  by_cases s2 : s = 2
  · obtain ⟨v, i4, h4, e4, _, c4⟩ := l1Int_is b i3 h3 [-1, 3, 8] c3 (by decide) (by decide)
    rw [if_pos s2, e4, Option.bind_some]
    exact ⟨_, _, _, _, _, _, _, _, i4, h4, rfl, c4, by simp, hp⟩
  rw [if_neg s2]
  by_cases s3 : s = 3
  · obtain ⟨v, i4, h4, e4, _, c4⟩ := l4Raw_is b i3 h3 c3
    rw [if_pos s3, e4, Option.bind_some]
    exact ⟨_, _, _, _, _, _, _, _, i4, h4, rfl, c4, hc, hp⟩
  rw [if_neg s3]
  by_cases s4 : s = 4
  · obtain ⟨v, i4, h4, e4, _, c4⟩ := l4Raw_is b i3 h3 c3
    rw [if_pos s4, e4, Option.bind_some]
    exact ⟨_, _, _, _, _, _, _, _, i4, h4, rfl, c4, hc, hp⟩
  rw [if_neg s4]
  by_cases s5 : s = 5
  · obtain ⟨v, i4, h4, e4, _, c4⟩ := l1Int_is b i3 h3 [0, 30, 31] c3 (by decide) (by decide)
    rw [if_pos s5, e4, Option.bind_some]
    exact ⟨_, _, _, _, _, _, _, _, i4, h4, rfl, c4, hc, by simp⟩
  rw [if_neg s5]
  by_cases s6 : s = 6
  · obtain ⟨v0, v1, i4, h4, e4, c4⟩ := l5Any_is b i3 h3 c3
    rw [if_pos s6, e4, Option.bind_some]
    exact ⟨_, _, _, _, _, _, _, _, i4, h4, rfl, c4, hc, hp⟩
  rw [if_neg s6]
  by_cases s7 : s = 7
  · rw [if_pos s7]
    exact ⟨_, _, _, _, _, _, _, _, i3, h3, rfl, c3, by simp, by simp⟩
  · rw [if_neg s7]
    exact ⟨_, _, _, _, _, _, _, _, i3, h3, rfl, c3, hc, hp⟩

theorem max_some (a b : Int) : ∃ v, spec_Max.f a b = some v := by
  unfold spec_Max.f
  split
  · exact ⟨_, rfl⟩
  · exact ⟨_, rfl⟩
theorem min_some (a b : Int) : ∃ v, spec_Min.f a b = some v := by
  unfold spec_Min.f
  split
  · exact ⟨_, rfl⟩
  · exact ⟨_, rfl⟩
theorem l8For_j2 (b : List Int) (i h g0 g1 g2 g3 g4 g5 g6 g7 r0 r1 : Int) (rc : List Int) (r3 r4 : Int) (rp : List Int) (r6 r7 : Int) (c : CO b i) (hc : rc.length ≤ 1000) (hp : rp.length ≤ 1000) : ∃ x0 x1 xc x3 x4 xp x6 x7 i' h', spec_l8For.J2 b i h g0 g1 g2 g3 g4 g5 g6 g7 r0 r1 rc r3 r4 rp r6 r7 = some (x0, x1, xc, x3, x4, xp, x6, x7, i', h') ∧ CO b i' ∧ xc.length ≤ 1000 ∧ xp.length ≤ 1000 := by
  obtain ⟨r, i1, h1, e1, c1⟩ := l1Once_is b i h 6 c (by omega) (by omega)
  rw [spec_l8For.J2_eq, e1, Option.bind_some]
  dsimp only
  split
  · exact ⟨_, _, _, _, _, _, _, _, i1, h1, rfl, c1, hc, hp⟩
  · obtain ⟨s, i2, h2, e2, _, _, c2⟩ := below_pos b i1 h1 40 c1 (by omega) (by omega)
    rw [e2, Option.bind_some]
    dsimp only
    obtain ⟨u, eu⟩ := max_some 0 (wrap64 (g6 - s))
    obtain ⟨v, ev⟩ := max_some 0 g6
    rw [eu, Option.bind_some, ev, Option.bind_some]
    exact ⟨_, _, _, _, _, _, _, _, i2, h2, rfl, c2, hc, hp⟩
theorem l8For_j1 (b : List Int) (i h g0 g1 g2 g3 g4 g5 g6 g7 r0 r1 : Int) (rc : List Int) (r3 r4 : Int) (rp : List Int) (r6 r7 : Int) (c : CO b i) (hc : rc.length ≤ 1000) (hp : rp.length ≤ 1000) : ∃ x0 x1 xc x3 x4 xp x6 x7 i' h', spec_l8For.J1 b i h g0 g1 g2 g3 g4 g5 g6 g7 r0 r1 rc r3 r4 rp r6 r7 = some (x0, x1, xc, x3, x4, xp, x6, x7, i', h') ∧ CO b i' ∧ xc.length ≤ 1000 ∧ xp.length ≤ 1000 := by
  obtain ⟨r, i1, h1, e1, c1⟩ := l1Once_is b i h 6 c (by omega) (by omega)
  rw [spec_l8For.J1_eq, e1, Option.bind_some]
  dsimp only
  split
  · exact l8For_j2 b i1 h1 g0 g1 g2 g3 g4 g5 g6 g7 r0 r1 rc r3 r4 rp r6 r7 c1 hc hp
  · exact l8For_j2 b i1 h1 g0 g1 g2 g3 g4 g5 g6 g7 r0 r1 rc r3 r4 _ r6 r7 c1 hc (by simp)
theorem l8For_j0 (b : List Int) (i h g0 g1 g2 g3 g4 g5 g6 g7 r0 r1 : Int) (rc : List Int) (r3 r4 : Int) (rp : List Int) (r6 r7 : Int) (c : CO b i) (hc : rc.length ≤ 1000) (hp : rp.length ≤ 1000) : ∃ x0 x1 xc x3 x4 xp x6 x7 i' h', spec_l8For.J0 b i h g0 g1 g2 g3 g4 g5 g6 g7 r0 r1 rc r3 r4 rp r6 r7 = some (x0, x1, xc, x3, x4, xp, x6, x7, i', h') ∧ CO b i' ∧ xc.length ≤ 1000 ∧ xp.length ≤ 1000 := by
  obtain ⟨r, i1, h1, e1, c1⟩ := l1Once_is b i h 6 c (by omega) (by omega)
  rw [spec_l8For.J0_eq, e1, Option.bind_some]
  dsimp only
  split
  · exact l8For_j1 b i1 h1 g0 g1 g2 g3 g4 g5 g6 g7 r0 r1 rc r3 r4 rp r6 r7 c1 hc hp
  · obtain ⟨s, i2, h2, e2, _, _, c2⟩ := below_pos b i1 h1 4 c1 (by omega) (by omega)
    rw [e2, Option.bind_some]
    dsimp only
    obtain ⟨u, eu⟩ := max_some 1 (wrap64 (g3 - s))
    rw [eu, Option.bind_some]
    obtain ⟨t, i3, h3, e3, _, _, c3⟩ := below_pos b i2 h2 4 c2 (by omega) (by omega)
    rw [e3, Option.bind_some]
    dsimp only
    obtain ⟨v, ev⟩ := min_some 50 (wrap64 (g3 + t))
    rw [ev, Option.bind_some]
    exact l8For_j1 b i3 h3 g0 g1 g2 g3 g4 g5 g6 g7 r0 r1 rc _ _ rp r6 r7 c3 hc hp
theorem l8For_is (b : List Int) (i h g0 g1 g2 g3 g4 g5 g6 g7 n : Int) (c : CO b i) : ∃ x0 x1 xc x3 x4 xp x6 x7 i' h', spec_l8For.F b i h g0 g1 g2 g3 g4 g5 g6 g7 n = some (x0, x1, xc, x3, x4, xp, x6, x7, i', h') ∧ CO b i' ∧ xc.length ≤ 1000 ∧ xp.length ≤ 1000 := by
  obtain ⟨r1, rc, r3, r4, rp, r6, r7, i1, h1, e1, c1, hc, hp⟩ := l7Draw_is b i h n c
  obtain ⟨r, i2, h2, e2, c2⟩ := l1Once_is b i1 h1 6 c1 (by omega) (by omega)
  rw [spec_l8For.F_eq, e1, Option.bind_some]
  dsimp only
  rw [e2, Option.bind_some]
  dsimp only
  split
  · exact l8For_j0 b i2 h2 _ _ _ _ _ _ _ _ _ _ _ _ _ _ _ _ c2 hc hp
  · exact l8For_j0 b i2 h2 _ _ _ _ _ _ _ _ _ _ _ _ _ _ _ _ c2 (by simp) hp
theorem l8Pair_is (b : List Int) (i h : Int) (c : CO b i) : ∃ x0 x1 xc x3 x4 xp x6 x7 f0 f1 f2 f3 f4 f5 f6 f7 i' h', spec_l8Pair.F b i h = some (x0, x1, xc, x3, x4, xp, x6, x7, f0, f1, f2, f3, f4, f5, f6, f7, i', h') ∧ xc.length ≤ 1000 ∧ xp.length ≤ 1000 := by
  obtain ⟨f0, f1, f2, f3, f4, f5, f6, f7, i1, h1, e1, c1⟩ := l6One_is b i h c
  obtain ⟨r, i2, h2, e2, c2⟩ := l1Once_is b i1 h1 4 c1 (by omega) (by omega)
  rw [spec_l8Pair.F_eq, e1, Option.bind_some]
  dsimp only
  rw [e2, Option.bind_some]
  dsimp only
  split
  · obtain ⟨x0, x1, xc, x3, x4, xp, x6, x7, i3, h3, e3, c3, hc, hp⟩ := l7Any_is b i2 h2 c2
    rw [e3, Option.bind_some]
    exact ⟨_, _, _, _, _, _, _, _, _, _, _, _, _, _, _, _, _, _, rfl, hc, hp⟩
  · obtain ⟨s, i3, h3, e3, _, _, c3⟩ := below_pos b i2 h2 9 c2 (by omega) (by omega)
    rw [e3, Option.bind_some]
    dsimp only
    obtain ⟨x0, x1, xc, x3, x4, xp, x6, x7, i4, h4, e4, c4, hc, hp⟩ := l8For_is b i3 h3 f0 f1 f2 f3 f4 f5 f6 f7 (wrap64 (1 + s)) c3
    rw [e4, Option.bind_some]
    exact ⟨_, _, _, _, _, _, _, _, _, _, _, _, _, _, _, _, _, _, rfl, hc, hp⟩
theorem drawCanBe_is (b : List Int) (hb : b.length ≤ 1048576) : ∃ x0 x1 xc x3 x4 xp x6 x7 f0 f1 f2 f3 f4 f5 f6 f7, spec_DrawCanBe.F b = some (x0, x1, xc, x3, x4, xp, x6, x7, f0, f1, f2, f3, f4, f5, f6, f7) ∧ xc.length ≤ 1000 ∧ xp.length ≤ 1000 := by
  obtain ⟨h0, e0, c0⟩ := l1New_is b hb
  obtain ⟨x0, x1, xc, x3, x4, xp, x6, x7, f0, f1, f2, f3, f4, f5, f6, f7, i1, h1, e1, hc, hp⟩ := l8Pair_is b 0 h0 c0
  rw [spec_DrawCanBe.F_eq, e0, Option.bind_some]
  dsimp only
  rw [e1, Option.bind_some]
  exact ⟨_, _, _, _, _, _, _, _, _, _, _, _, _, _, _, _, rfl, hc, hp⟩
theorem drawCandidates_is (b : List Int) (hb : b.length ≤ 1048576) : ∃ x0 x1 xc x3 x4 xp x6 x7 l, spec_DrawCandidates.F b = some (x0, x1, xc, x3, x4, xp, x6, x7, l) ∧ xc.length ≤ 1000 ∧ xp.length ≤ 1000 ∧ l.length ≤ 1000 := by
  obtain ⟨h0, e0, c0⟩ := l1New_is b hb
  obtain ⟨l, i1, h1, e1, c1, hl⟩ := l6Any_is b 0 h0 c0
  rw [spec_DrawCandidates.F_eq, e0, Option.bind_some]
  dsimp only
  rw [e1, Option.bind_some]
  dsimp only
  by_cases l0 : (l.length : Int) = 0
  · obtain ⟨x0, x1, xc, x3, x4, xp, x6, x7, i3, h3, e3, c3, hc, hp⟩ := l7Any_is b i1 h1 c1
    rw [if_pos l0, e3, Option.bind_some]
    exact ⟨_, _, _, _, _, _, _, _, l, rfl, hc, hp, hl⟩
  · obtain ⟨r, i2, h2, e2, r0, r1, c2⟩ := below_pos b i1 h1 (l.length : Int) c1 (by omega) (by omega)
    rw [if_neg l0, e2, Option.bind_some]
    dsimp only
    rw [if_pos r0, if_pos r1]
    obtain ⟨x0, x1, xc, x3, x4, xp, x6, x7, i4, h4, e4, c4, hc, hp⟩ := l8For_is b i2 h2 (rd_T42 l r).f0.f0 (rd_T42 l r).f0.f1 (rd_T42 l r).f0.f2 (rd_T42 l r).f0.f3 (rd_T42 l r).f0.f4 (rd_T42 l r).f1 (rd_T42 l r).f2 (rd_T42 l r).f3 5 c2
    rw [e4, Option.bind_some]
    exact ⟨_, _, _, _, _, _, _, _, l, rfl, hc, hp, hl⟩

theorem rdReport_at (l : List S30) (i : Nat) : rd_T30 l (i : Int) = l.getD i z30 := by simp [rd_T30]
theorem dropReport (l : List S30) (i : Nat) (h : i < l.length) : l.drop i = rd_T30 l (i : Int) :: l.drop (i + 1) := by
  rw [rdReport_at, getD_get l i _ h]
  exact List.drop_eq_getElem_cons h
theorem memReport (l : List S30) (i : Nat) (h : i < l.length) : rd_T30 l (i : Int) ∈ l := by
  rw [rdReport_at, getD_get l i _ h]
  exact List.getElem_mem h

/-- The rows of drawn reports are short. -/
def OKR (l : List S30) : Prop := ∀ y ∈ l, y.f2.length ≤ 1000 ∧ y.f5.length ≤ 1000
theorem OKR_set {l : List S30} (h : OKR l) (j : Nat) (y : S30) (h2 : y.f2.length ≤ 1000) (h5 : y.f5.length ≤ 1000) : OKR (l.set j y) := fun z hz => by
  rcases List.mem_or_eq_of_mem_set hz with e | e
  · exact h z e
  · rw [e]; exact ⟨h2, h5⟩
theorem OKR_app {l : List S30} (h : OKR l) (y : S30) (h2 : y.f2.length ≤ 1000) (h5 : y.f5.length ≤ 1000) : OKR (l ++ [y]) := fun z hz => by
  rcases List.mem_append.1 hz with e | e
  · exact h z e
  · rw [List.mem_singleton.1 e]; exact ⟨h2, h5⟩
theorem l7List_j1 (b : List Int) (l : List S30) (t : Bool) (i h : Int) (c : CO b i) (hl : l.length ≤ 1000) (ho : OKR l) (ht : t = true → 0 < l.length) : ∃ l' i' h', spec_l7List.J1 l t b i h = some (l', i', h') ∧ CO b i' ∧ l'.length ≤ 1000 ∧ OKR l' := by
  rw [spec_l7List.J1_eq]
  by_cases h1 : t = true
  · have := ht h1
    obtain ⟨r, i2, h2, e2, r0, r1, c2⟩ := below_pos b i h (l.length : Int) c (by omega) (by omega)
    obtain ⟨x0, x1, xc, x3, x4, xp, x6, x7, i3, h3, e3, c3, hc, hp⟩ := l7Any_is b i2 h2 c2
    rw [if_pos h1, e2, Option.bind_some]
    dsimp only
    rw [e3, Option.bind_some]
    dsimp only
    rw [if_pos r0, if_pos r1]
    exact ⟨_, i3, h3, rfl, c3, by rw [List.length_set]; exact hl, OKR_set ho _ _ hc hp⟩
  · rw [if_neg h1]
    exact ⟨l, i, h, rfl, c, hl, ho⟩
theorem l7List_l0 (b : List Int) : ∀ (d : Nat) (l : List S30) (x i h : Int), CO b i → 1 ≤ x → x + d = 6 → l.length + d ≤ 1000 → OKR l → ∃ l' i' h', spec_l7List.L0 l x b i h = some (l', i', h') ∧ CO b i' ∧ l'.length ≤ 1000 ∧ OKR l'
  | d, l, x, i, h, c, h0, hx, hl, ho => by
    obtain ⟨r, i1, h1, e1, r0, r1, c1⟩ := below_pos b i h 6 c (by omega) (by omega)
    rw [spec_l7List.L0_eq, e1, Option.bind_some]
    dsimp only
    by_cases c2 : x ≤ r
    · obtain ⟨x1, xc, x3, x4, xp, x6, x7, i2, h2, e2, c3, hc, hp⟩ := l7Draw_is b i1 h1 (wrap64 (3 * x)) c1
      rw [if_pos c2, e2, Option.bind_some]
      dsimp only
      rw [if_pos (by omega), show wrap64 (x + 1) = x + 1 from wrap_in _ (by omega)]
      match d, hx, hl with
      | 0, hx, hl => exact absurd hx (by omega)
      | d + 1, hx, hl => exact l7List_l0 b d _ (x + 1) i2 h2 c3 (by omega) (by omega) (by rw [List.length_append, List.length_singleton]; omega) (OKR_app ho _ hc hp)
    · rw [if_neg c2]
      by_cases c3 : (l.length : Int) > 0
      · obtain ⟨t, i2, h2, e2, c4⟩ := l1Once_is b i1 h1 8 c1 (by omega) (by omega)
        rw [if_pos c3, e2, Option.bind_some]
        exact l7List_j1 b l t i2 h2 c4 (by omega) ho (fun _ => by omega)
      · rw [if_neg c3]
        exact l7List_j1 b l false i1 h1 c1 (by omega) ho (fun h => by cases h)
theorem l7List_is (b : List Int) (i h : Int) (c : CO b i) : ∃ l' i' h', spec_l7List.F b i h = some (l', i', h') ∧ CO b i' ∧ l'.length ≤ 1000 ∧ OKR l' := by
  rw [spec_l7List.F_eq]
  exact l7List_l0 b 5 [] 1 i h c (by omega) (by omega) (by simp) (fun y hy => by cases hy)
theorem drawSeekers_l0 (b : List Int) (f0 f1 f2 f3 f4 f5 f6 f7 : Int) : ∀ (d : Nat) (l : List S30) (j : Nat) (i h : Int), CO b i → j + d = l.length → l.length ≤ 1000 → OKR l → ∃ l', spec_DrawSeekers.L0 l (j : Int) b i h f0 f1 f2 f3 f4 f5 f6 f7 = some (f0, f1, f2, f3, f4, f5, f6, f7, l') ∧ l'.length ≤ 1000 ∧ OKR l'
  | 0, l, j, i, h, c, hj, hl, ho => ⟨l, by rw [spec_DrawSeekers.L0_eq, if_neg (by omega)], hl, ho⟩
  | d + 1, l, j, i, h, c, hj, hl, ho => by
    obtain ⟨t, i1, h1, e1, c1⟩ := l1Once_is b i h 2 c (by omega) (by omega)
    rw [spec_DrawSeekers.L0_eq, if_pos (by omega), e1, Option.bind_some]
    dsimp only
    rw [wrap_succ j (by omega)]
    split
    · obtain ⟨x0, x1, xc, x3, x4, xp, x6, x7, i4, h4, e4, c4, hc, hp⟩ := l8For_is b i1 h1 f0 f1 f2 f3 f4 f5 f6 f7 ((rd_T30 l (j : Int)).f0) c1
      rw [if_pos (by omega), e4, Option.bind_some]
      dsimp only
      exact drawSeekers_l0 b f0 f1 f2 f3 f4 f5 f6 f7 d _ (j + 1) i4 h4 c4 (by rw [List.length_set]; omega) (by rw [List.length_set]; exact hl) (OKR_set ho _ _ hc hp)
    · exact drawSeekers_l0 b f0 f1 f2 f3 f4 f5 f6 f7 d l (j + 1) i1 h1 c1 (by omega) hl ho
theorem drawSeekers_is (b : List Int) (hb : b.length ≤ 1048576) : ∃ f0 f1 f2 f3 f4 f5 f6 f7 l, spec_DrawSeekers.F b = some (f0, f1, f2, f3, f4, f5, f6, f7, l) ∧ l.length ≤ 1000 ∧ OKR l := by
  obtain ⟨h0, e0, c0⟩ := l1New_is b hb
  obtain ⟨f0, f1, f2, f3, f4, f5, f6, f7, i1, h1, e1, c1⟩ := l6One_is b 0 h0 c0
  obtain ⟨l, i2, h2, e2, c2, hl, ho⟩ := l7List_is b i1 h1 c1
  obtain ⟨l', e3, hl', ho'⟩ := drawSeekers_l0 b f0 f1 f2 f3 f4 f5 f6 f7 l.length l 0 i2 h2 c2 (by omega) hl ho
  rw [spec_DrawSeekers.F_eq, e0, Option.bind_some]
  dsimp only
  rw [e1, Option.bind_some]
  dsimp only
  rw [e2, Option.bind_some]
  exact ⟨f0, f1, f2, f3, f4, f5, f6, f7, l', e3, hl', ho'⟩

def okAsc (a b : Int) (l : List Int) (i : Nat) : Prop := inR (rd l i) a b = true ∧ ((i : Int) > 0 → rd l ((i : Int) - 1) < rd l i)
noncomputable def isAsc (l : List Int) (a b : Int) : Bool := allF (okAsc a b l) l.length 0

noncomputable def isReport (r0 r1 : Int) (rc : List Int) (r3 r4 : Int) (rp : List Int) (r6 r7 : Int) : Bool := inR r0 1 999 && inR r1 1 8 && isAsc rc 0 7 && decide (1 ≤ r3) && decide (r3 ≤ r4) && decide (r4 ≤ 50) && isAsc rp 1 30 && decide ((rp.length : Int) ≤ 10) && (inR r6 0 100000 && inR r7 0 100000 && decide (r6 ≤ r7))
noncomputable def isFind (f0 f1 f2 f3 f4 f5 f6 f7 : Int) : Bool := (inR f0 1 999 && inR f1 1 8 && inR f2 0 7 && inR f3 1 50 && inR f4 0 10000000) && inR f5 1 30 && inR f6 0 100000 && inR f7 0 999

def allow (l : List Int) (n : Int) : Bool := decide (l.length = 0) || decide (n ∈ l)

noncomputable def whyNot (r0 r1 : Int) (rc : List Int) (r3 r4 : Int) (rp : List Int) (r6 r7 f0 f1 f2 f3 f4 f5 f6 f7 : Int) : ByteArray :=
  if ¬ (isReport r0 r1 rc r3 r4 rp r6 r7 = true ∧ isFind f0 f1 f2 f3 f4 f5 f6 f7 = true) then ⟨#[105, 110, 118, 97, 108, 105, 100]⟩
  else if ¬ r1 = f1 then ⟨#[107, 105, 110, 100]⟩
  else if ¬ allow rc f2 = true then ⟨#[99, 111, 108, 111, 117, 114]⟩
  else if ¬ inR f3 r3 r4 = true then ⟨#[115, 105, 122, 101]⟩
  else if ¬ allow rp f5 = true then ⟨#[112, 108, 97, 99, 101]⟩
  else if f6 < r6 then ⟨#[116, 105, 109, 101]⟩ else ⟨#[]⟩
noncomputable def canBe (r0 r1 : Int) (rc : List Int) (r3 r4 : Int) (rp : List Int) (r6 r7 f0 f1 f2 f3 f4 f5 f6 f7 : Int) : Bool := isReport r0 r1 rc r3 r4 rp r6 r7 && isFind f0 f1 f2 f3 f4 f5 f6 f7 && decide (r1 = f1) && allow rc f2 && inR f3 r3 r4 && allow rp f5 && decide (r6 ≤ f6)
theorem canBe_why (r0 r1 : Int) (rc : List Int) (r3 r4 : Int) (rp : List Int) (r6 r7 f0 f1 f2 f3 f4 f5 f6 f7 : Int) : ((whyNot r0 r1 rc r3 r4 rp r6 r7 f0 f1 f2 f3 f4 f5 f6 f7).toList == ([] : List UInt8)) = canBe r0 r1 rc r3 r4 rp r6 r7 f0 f1 f2 f3 f4 f5 f6 f7 := by
  unfold whyNot canBe
  by_cases h1 : isReport r0 r1 rc r3 r4 rp r6 r7 = true
  · by_cases h2 : isFind f0 f1 f2 f3 f4 f5 f6 f7 = true
    · rw [h1, h2]
      simp only [and_self, not_true_eq_false, if_false, Bool.true_and]
      by_cases h3 : r1 = f1
      · simp only [h3, not_true_eq_false, if_false, decide_true, Bool.true_and]
        cases allow rc f2
        · first | (simp; done) | (simp; decide +kernel)
        · cases inR f3 r3 r4
          · first | (simp; done) | (simp; decide +kernel)
          · cases allow rp f5
            · first | (simp; done) | (simp; decide +kernel)
            · by_cases h4 : f6 < r6
              · simp only [h4, not_true_eq_false, if_false, if_true, Bool.true_and, decide_eq_false (show ¬ r6 ≤ f6 by omega)]
                decide +kernel
              · simp only [h4, not_true_eq_false, if_false, Bool.true_and, decide_eq_true (show r6 ≤ f6 by omega)]
                decide +kernel
      · simp only [h3, not_false_eq_true, if_true, decide_false, Bool.false_and]
        decide +kernel
    · rw [Bool.eq_false_iff.2 h2]
      simp only [Bool.false_eq_true, and_false, not_false_eq_true, if_true, Bool.and_false, Bool.false_and]
      decide +kernel
  · rw [Bool.eq_false_iff.2 h1]
    simp only [Bool.false_eq_true, false_and, not_false_eq_true, if_true, Bool.false_and]
    decide +kernel

def b2i (b : Bool) : Int := if b = true then 1 else 0
theorem b2i_bd (b : Bool) : 0 ≤ b2i b ∧ b2i b ≤ 1 := by cases b <;> simp [b2i]
noncomputable def score (r0 r1 : Int) (rc : List Int) (r3 r4 : Int) (rp : List Int) (r6 r7 f0 f1 f2 f3 f4 f5 f6 f7 : Int) : Int :=
  if canBe r0 r1 rc r3 r4 rp r6 r7 f0 f1 f2 f3 f4 f5 f6 f7 = true then 1 + b2i (inR (rc.length : Int) 1 2) + b2i (decide (r4 - r3 ≤ 5)) + b2i (inR (rp.length : Int) 1 2) + b2i (decide (f6 ≤ r7 + 24)) else 0
theorem canBe_bd (r0 r1 : Int) (rc : List Int) (r3 r4 : Int) (rp : List Int) (r6 r7 f0 f1 f2 f3 f4 f5 f6 f7 : Int) (h : canBe r0 r1 rc r3 r4 rp r6 r7 f0 f1 f2 f3 f4 f5 f6 f7 = true) : 1 ≤ r3 ∧ r3 ≤ r4 ∧ r4 ≤ 50 ∧ 0 ≤ r7 ∧ r7 ≤ 100000 ∧ 0 ≤ f6 ∧ f6 ≤ 100000 := by
  simp only [canBe, isReport, isFind, Bool.and_eq_true, decide_eq_true_iff, inR_iff] at h
  omega

theorem inRange (a b c : Int) : impl_InRange.f a b c = some (inR a b c) := by
  unfold impl_InRange.f inR
  by_cases h : b ≤ a <;> simp [h]

theorem impl_isAscending_l0 (l : List Int) (a b : Int) (hn : l.length ≤ 4194304) : ∀ (d i : Nat), i + d = l.length → impl_isAscending.L0 l a b l (l.length : Int) (i : Int) = some (allF (okAsc a b l) l.length i)
  | 0, i, h => by rw [impl_isAscending.L0_eq, if_neg (by omega), allF_end (by omega)]
  | d + 1, i, h => by
    have hi : i < l.length := by omega
    have ih := impl_isAscending_l0 l a b hn d (i + 1) (by omega)
    rw [impl_isAscending.L0_eq]
    simp only [wrap_succ i (by omega), wrap_pred i (by omega), ih, inRange, Option.bind_some]
    by_cases hp_ : okAsc a b l i
    · rw [allF_yes hp_]
      simp only [okAsc] at hp_
      obtain ⟨h1_, h2_⟩ := hp_
      repeat' split
      all_goals first
        | rfl
        | (exfalso; first | contradiction | omega)
    · rw [allF_no hi hp_]
      repeat' split
      all_goals first
        | rfl
        | (simp; done)
        | (exfalso; first | contradiction | omega)
        | (exfalso; apply hp_; simp only [okAsc]; (repeat' constructor) <;> first | assumption | (intro _; omega) | omega)
theorem impl_isAscending_is (l : List Int) (a b : Int) (hn : l.length ≤ 4194304) : impl_isAscending.F l a b = some (isAsc l a b) := by
  rw [impl_isAscending.F_eq]
  exact impl_isAscending_l0 l a b hn l.length 0 (by omega)

theorem impl_IsSpan_is (a b : Int) : impl_IsSpan.f a b = some (inR a 0 100000 && inR b 0 100000 && decide (a ≤ b)) := by
  unfold impl_IsSpan.f
  simp only [inRange, Option.bind_some]
  cases inR a 0 100000 <;> cases inR b 0 100000 <;> simp

theorem impl_IsReport_is (r0 r1 : Int) (rc : List Int) (r3 r4 : Int) (rp : List Int) (r6 r7 : Int) (hc : rc.length ≤ 4194304) (hp : rp.length ≤ 4194304) : impl_IsReport.F r0 r1 rc r3 r4 rp r6 r7 = some (isReport r0 r1 rc r3 r4 rp r6 r7) := by
  rw [impl_IsReport.F_eq]
  simp only [inRange, impl_isAscending_is rc 0 7 hc, impl_isAscending_is rp 1 30 hp, impl_IsSpan_is, Option.bind_some, isReport]
  generalize (inR r6 0 100000 && inR r7 0 100000 && decide (r6 ≤ r7)) = s
  cases inR r0 1 999 <;> cases inR r1 1 8 <;> cases isAsc rc 0 7 <;> cases isAsc rp 1 30 <;> by_cases h1 : 1 ≤ r3 <;> by_cases h2 : r3 ≤ r4 <;> by_cases h3 : r4 ≤ 50 <;> by_cases h4 : (rp.length : Int) ≤ 10 <;> simp [h1, h2, h3, h4]

theorem impl_IsThing_is (a b c d e : Int) : impl_IsThing.f a b c d e = some (inR a 1 999 && inR b 1 8 && inR c 0 7 && inR d 1 50 && inR e 0 10000000) := by
  unfold impl_IsThing.f
  simp only [inRange, Option.bind_some]
  cases inR a 1 999 <;> cases inR b 1 8 <;> cases inR c 0 7 <;> cases inR d 1 50 <;> simp

theorem impl_IsFind_is (f0 f1 f2 f3 f4 f5 f6 f7 : Int) : impl_IsFind.f f0 f1 f2 f3 f4 f5 f6 f7 = some (isFind f0 f1 f2 f3 f4 f5 f6 f7) := by
  unfold impl_IsFind.f
  simp only [impl_IsThing_is, inRange, Option.bind_some, isFind]
  generalize (inR f0 1 999 && inR f1 1 8 && inR f2 0 7 && inR f3 1 50 && inR f4 0 10000000) = t
  cases t <;> cases inR f5 1 30 <;> cases inR f6 0 100000 <;> simp

theorem slices_Index_l0 (l : List Int) (n : Int) (hn : l.length ≤ 4194304) : ∀ (d i : Nat), i + d = l.length → ∃ r, slices_Index_int_int.L0 l n (l.length : Int) (i : Int) = some r ∧ (0 ≤ r ↔ n ∈ l.drop i)
  | 0, i, h => by
    refine ⟨-1, by rw [slices_Index_int_int.L0_eq, if_neg (by omega)], ?_⟩
    rw [List.drop_of_length_le (by omega)]
    simp
  | d + 1, i, h => by
    rw [slices_Index_int_int.L0_eq, if_pos (by omega), if_pos (by omega), if_pos (by omega), dropInt l i (by omega), wrap_succ i (by omega)]
    by_cases c : n = rd l (i : Int)
    · rw [if_pos c]
      exact ⟨_, rfl, ⟨fun _ => by rw [← c]; exact List.mem_cons_self, fun _ => by omega⟩⟩
    · rw [if_neg c]
      obtain ⟨r, hr, hi⟩ := slices_Index_l0 l n hn d (i + 1) (by omega)
      refine ⟨r, hr, hi.trans ⟨fun hm => List.mem_cons_of_mem _ hm, fun hm => ?_⟩⟩
      rcases List.mem_cons.1 hm with he | he
      · exact absurd he c
      · exact he
theorem slices_Contains_is (l : List Int) (n : Int) (hn : l.length ≤ 4194304) : slices_Contains_int_int.F l n = some (decide (n ∈ l)) := by
  obtain ⟨r, hr, hi⟩ := slices_Index_l0 l n hn l.length 0 (by omega)
  rw [slices_Contains_int_int.F_eq, slices_Index_int_int.F_eq]
  have hr' : slices_Index_int_int.L0 l n (l.length : Int) 0 = some r := hr
  rw [hr', Option.bind_some]
  congr 1
  rw [Bool.eq_iff_iff, decide_eq_true_iff, decide_eq_true_iff]
  exact hi

theorem impl_allows_is (l : List Int) (n : Int) (hn : l.length ≤ 4194304) : impl_allows.F l n = some (allow l n) := by
  rw [impl_allows.F_eq, slices_Contains_is l n hn, allow]
  by_cases h : l.length = 0
  · rw [if_pos (by omega), decide_eq_true h]; rfl
  · rw [if_neg (by omega), decide_eq_false h]; rfl

theorem impl_WhyNot_is (r0 r1 : Int) (rc : List Int) (r3 r4 : Int) (rp : List Int) (r6 r7 f0 f1 f2 f3 f4 f5 f6 f7 : Int) (hc : rc.length ≤ 4194304) (hp : rp.length ≤ 4194304) : impl_WhyNot.F r0 r1 rc r3 r4 rp r6 r7 f0 f1 f2 f3 f4 f5 f6 f7 = some (whyNot r0 r1 rc r3 r4 rp r6 r7 f0 f1 f2 f3 f4 f5 f6 f7) := by
  rw [impl_WhyNot.F_eq, impl_IsReport_is r0 r1 rc r3 r4 rp r6 r7 hc hp]
  simp only [Option.bind_some, impl_IsFind_is, impl_WhyNot.J0_eq, impl_allows_is rc _ hc, impl_allows_is rp _ hp, inRange, whyNot]
  cases isReport r0 r1 rc r3 r4 rp r6 r7 <;> cases isFind f0 f1 f2 f3 f4 f5 f6 f7 <;> by_cases h3 : r1 = f1 <;> cases allow rc f2 <;> cases inR f3 r3 r4 <;> cases allow rp f5 <;> by_cases h4 : f6 < r6 <;> simp [h3, h4]

theorem impl_CanBe_is (r0 r1 : Int) (rc : List Int) (r3 r4 : Int) (rp : List Int) (r6 r7 f0 f1 f2 f3 f4 f5 f6 f7 : Int) (hc : rc.length ≤ 4194304) (hp : rp.length ≤ 4194304) : impl_CanBe.F r0 r1 rc r3 r4 rp r6 r7 f0 f1 f2 f3 f4 f5 f6 f7 = some (canBe r0 r1 rc r3 r4 rp r6 r7 f0 f1 f2 f3 f4 f5 f6 f7) := by
  rw [impl_CanBe.F_eq, impl_WhyNot_is r0 r1 rc r3 r4 rp r6 r7 f0 f1 f2 f3 f4 f5 f6 f7 hc hp, Option.bind_some, canBe_why]

theorem impl_Score_is (r0 r1 : Int) (rc : List Int) (r3 r4 : Int) (rp : List Int) (r6 r7 f0 f1 f2 f3 f4 f5 f6 f7 : Int) (hc : rc.length ≤ 4194304) (hp : rp.length ≤ 4194304) : impl_Score.F r0 r1 rc r3 r4 rp r6 r7 f0 f1 f2 f3 f4 f5 f6 f7 = some (score r0 r1 rc r3 r4 rp r6 r7 f0 f1 f2 f3 f4 f5 f6 f7) := by
  rw [impl_Score.F_eq, impl_CanBe_is r0 r1 rc r3 r4 rp r6 r7 f0 f1 f2 f3 f4 f5 f6 f7 hc hp, Option.bind_some, score]
  by_cases h : canBe r0 r1 rc r3 r4 rp r6 r7 f0 f1 f2 f3 f4 f5 f6 f7 = true
  · obtain ⟨h1, h2, h3, h4, h5, h6, h7⟩ := canBe_bd r0 r1 rc r3 r4 rp r6 r7 f0 f1 f2 f3 f4 f5 f6 f7 h
    simp only [if_pos h, inRange, Option.bind_some, impl_Score.J0_eq, impl_Score.J1_eq]
    rw [wrap_in (r4 - r3) (by omega), wrap_in (f6 - r7) (by omega)]
    have e : decide (f6 ≤ r7 + 24) = decide (f6 - r7 ≤ 24) := by rw [Bool.eq_iff_iff, decide_eq_true_iff, decide_eq_true_iff]; omega
    rw [e]
    have v2 : wrap64 2 = 2 := by unfold wrap64; omega
    have v3 : wrap64 3 = 3 := by unfold wrap64; omega
    have v4 : wrap64 4 = 4 := by unfold wrap64; omega
    have v5 : wrap64 5 = 5 := by unfold wrap64; omega
    have w2 : wrap64 (1 + 1) = 2 := by unfold wrap64; omega
    have w3 : wrap64 (2 + 1) = 3 := by unfold wrap64; omega
    have w4 : wrap64 (3 + 1) = 4 := by unfold wrap64; omega
    have w5 : wrap64 (4 + 1) = 5 := by unfold wrap64; omega
    cases inR (rc.length : Int) 1 2 <;> by_cases h8 : r4 - r3 ≤ 5 <;> cases inR (rp.length : Int) 1 2 <;> by_cases h9 : f6 - r7 ≤ 24 <;> simp [h8, h9, b2i, v2, v3, v4, v5, w2, w3, w4, w5]
  · rw [if_neg h, if_neg h]

def okFindAt (l : List S42) (i : Nat) : Prop := isFind (rd_T42 l (i : Int)).f0.f0 (rd_T42 l (i : Int)).f0.f1 (rd_T42 l (i : Int)).f0.f2 (rd_T42 l (i : Int)).f0.f3 (rd_T42 l (i : Int)).f0.f4 (rd_T42 l (i : Int)).f1 (rd_T42 l (i : Int)).f2 (rd_T42 l (i : Int)).f3 = true ∧ ((i : Int) > 0 → (rd_T42 l ((i : Int) - 1)).f0.f0 < (rd_T42 l (i : Int)).f0.f0)
noncomputable def areFinds (l : List S42) : Bool := allF (okFindAt l) l.length 0 && decide ((l.length : Int) ≤ 20)
noncomputable def bestF (r0 r1 : Int) (rc : List Int) (r3 r4 : Int) (rp : List Int) (r6 r7 : Int) : List S42 → Int → Int → Int
  | [], b, _ => b
  | y :: r, b, s => if score r0 r1 rc r3 r4 rp r6 r7 y.f0.f0 y.f0.f1 y.f0.f2 y.f0.f3 y.f0.f4 y.f1 y.f2 y.f3 > s then bestF r0 r1 rc r3 r4 rp r6 r7 r y.f0.f0 (score r0 r1 rc r3 r4 rp r6 r7 y.f0.f0 y.f0.f1 y.f0.f2 y.f0.f3 y.f0.f4 y.f1 y.f2 y.f3) else bestF r0 r1 rc r3 r4 rp r6 r7 r b s

noncomputable def candF (r0 r1 : Int) (rc : List Int) (r3 r4 : Int) (rp : List Int) (r6 r7 : Int) : List S42 → List Int
  | [] => []
  | y :: r => if canBe r0 r1 rc r3 r4 rp r6 r7 y.f0.f0 y.f0.f1 y.f0.f2 y.f0.f3 y.f0.f4 y.f1 y.f2 y.f3 = true then y.f0.f0 :: candF r0 r1 rc r3 r4 rp r6 r7 r else candF r0 r1 rc r3 r4 rp r6 r7 r
theorem candF_len (r0 r1 : Int) (rc : List Int) (r3 r4 : Int) (rp : List Int) (r6 r7 : Int) : ∀ l : List S42, (candF r0 r1 rc r3 r4 rp r6 r7 l).length ≤ l.length
  | [] => Nat.le_refl _
  | y :: r => by
    have := candF_len r0 r1 rc r3 r4 rp r6 r7 r
    simp only [candF]
    split <;> simp only [List.length_cons] <;> omega
noncomputable def candidates (r0 r1 : Int) (rc : List Int) (r3 r4 : Int) (rp : List Int) (r6 r7 : Int) (l : List S42) : List Int := if areFinds l = true then candF r0 r1 rc r3 r4 rp r6 r7 l else []
theorem candidates_len (r0 r1 : Int) (rc : List Int) (r3 r4 : Int) (rp : List Int) (r6 r7 : Int) (l : List S42) : (candidates r0 r1 rc r3 r4 rp r6 r7 l).length ≤ l.length := by
  unfold candidates
  split
  · exact candF_len r0 r1 rc r3 r4 rp r6 r7 l
  · exact Nat.zero_le _

theorem impl_AreFinds_l0 (l : List S42) (hn : l.length ≤ 1048576) : ∀ (d i : Nat), i + d = l.length → impl_AreFinds.L0 l l (l.length : Int) (i : Int) = some (allF (okFindAt l) l.length i)
  | 0, i, h => by rw [impl_AreFinds.L0_eq, if_neg (by omega), allF_end (by omega)]
  | d + 1, i, h => by
    have hi : i < l.length := by omega
    have ih := impl_AreFinds_l0 l hn d (i + 1) (by omega)
    have ht : impl_IsFind.f (rd_T42 l (i : Int)).f0.f0 (rd_T42 l (i : Int)).f0.f1 (rd_T42 l (i : Int)).f0.f2 (rd_T42 l (i : Int)).f0.f3 (rd_T42 l (i : Int)).f0.f4 (rd_T42 l (i : Int)).f1 (rd_T42 l (i : Int)).f2 (rd_T42 l (i : Int)).f3 = some (isFind (rd_T42 l (i : Int)).f0.f0 (rd_T42 l (i : Int)).f0.f1 (rd_T42 l (i : Int)).f0.f2 (rd_T42 l (i : Int)).f0.f3 (rd_T42 l (i : Int)).f0.f4 (rd_T42 l (i : Int)).f1 (rd_T42 l (i : Int)).f2 (rd_T42 l (i : Int)).f3) := impl_IsFind_is ..
    rw [impl_AreFinds.L0_eq, if_pos (by omega), if_pos (by omega), if_pos (by omega), ht, Option.bind_some, wrap_pred i (by omega), wrap_succ i (by omega), ih]
    by_cases c1 : isFind (rd_T42 l (i : Int)).f0.f0 (rd_T42 l (i : Int)).f0.f1 (rd_T42 l (i : Int)).f0.f2 (rd_T42 l (i : Int)).f0.f3 (rd_T42 l (i : Int)).f0.f4 (rd_T42 l (i : Int)).f1 (rd_T42 l (i : Int)).f2 (rd_T42 l (i : Int)).f3 = true
    · rw [if_pos c1]
      by_cases c0 : (i : Int) > 0
      · rw [if_pos c0, if_pos (by omega), if_pos (by omega)]
        by_cases c2 : (rd_T42 l (i : Int)).f0.f0 ≤ (rd_T42 l ((i : Int) - 1)).f0.f0
        · rw [if_pos c2, allF_no hi (fun h => absurd (h.2 c0) (by omega))]
        · have hp : okFindAt l i := ⟨c1, fun _ => by omega⟩
          rw [if_neg c2, allF_yes hp]
      · have hp : okFindAt l i := ⟨c1, fun hh => absurd hh c0⟩
        rw [if_neg c0, allF_yes hp]
    · rw [if_neg c1, allF_no hi (fun h => c1 h.1)]
theorem impl_AreFinds_is (l : List S42) (hn : l.length ≤ 1048576) : impl_AreFinds.F l = some (areFinds l) := by
  rw [impl_AreFinds.F_eq, areFinds]
  by_cases h : (l.length : Int) > 20
  · rw [if_pos h, decide_eq_false (by omega), Bool.and_false]
  · rw [if_neg h, decide_eq_true (by omega), Bool.and_true]
    exact impl_AreFinds_l0 l hn l.length 0 (by omega)

theorem impl_Candidates_l0 (l : List S42) (hn : l.length ≤ 1048576) (r0 r1 : Int) (rc : List Int) (r3 r4 : Int) (rp : List Int) (r6 r7 : Int) (hc : rc.length ≤ 4194304) (hp : rp.length ≤ 4194304) : ∀ (d i : Nat) (acc : List Int), i + d = l.length → acc.length ≤ i → impl_Candidates.L0 acc l (l.length : Int) (i : Int) r0 r1 rc r3 r4 rp r6 r7 = some (acc ++ candF r0 r1 rc r3 r4 rp r6 r7 (l.drop i))
  | 0, i, acc, h, hacc => by rw [impl_Candidates.L0_eq, if_neg (by omega), List.drop_of_length_le (by omega), candF, List.append_nil]
  | d + 1, i, acc, h, hacc => by
    rw [impl_Candidates.L0_eq, if_pos (by omega), if_pos (by omega), if_pos (by omega), impl_CanBe_is r0 r1 rc r3 r4 rp r6 r7 _ _ _ _ _ _ _ _ hc hp, Option.bind_some, wrap_succ i (by omega), dropFind l i (by omega), candF]
    split
    · rw [if_pos (by omega), impl_Candidates_l0 l hn r0 r1 rc r3 r4 rp r6 r7 hc hp d (i + 1) _ (by omega) (by rw [List.length_append, List.length_singleton]; omega), List.append_assoc]
      rfl
    · rw [impl_Candidates_l0 l hn r0 r1 rc r3 r4 rp r6 r7 hc hp d (i + 1) _ (by omega) (by omega)]
theorem impl_Candidates_is (r0 r1 : Int) (rc : List Int) (r3 r4 : Int) (rp : List Int) (r6 r7 : Int) (l : List S42) (hc : rc.length ≤ 4194304) (hp : rp.length ≤ 4194304) (hn : l.length ≤ 1048576) : impl_Candidates.F r0 r1 rc r3 r4 rp r6 r7 l = some (candidates r0 r1 rc r3 r4 rp r6 r7 l) := by
  rw [impl_Candidates.F_eq, Option.bind_some, impl_AreFinds_is l hn, Option.bind_some, candidates]
  by_cases ha : areFinds l = true
  · have := impl_Candidates_l0 l hn r0 r1 rc r3 r4 rp r6 r7 hc hp l.length 0 [] (by omega) (by simp)
    rw [List.drop_zero, List.nil_append] at this
    rw [if_pos ha, if_pos ha]
    exact this
  · rw [if_neg ha, if_neg ha]

noncomputable def bestOf (r0 r1 : Int) (rc : List Int) (r3 r4 : Int) (rp : List Int) (r6 r7 : Int) (l : List S42) : Int := if areFinds l = true then bestF r0 r1 rc r3 r4 rp r6 r7 l 0 0 else 0

theorem impl_BestOf_l0 (l : List S42) (hn : l.length ≤ 1048576) (r0 r1 : Int) (rc : List Int) (r3 r4 : Int) (rp : List Int) (r6 r7 : Int) (hc : rc.length ≤ 4194304) (hp : rp.length ≤ 4194304) : ∀ (d i : Nat) (b s : Int), i + d = l.length → impl_BestOf.L0 b s l (l.length : Int) (i : Int) r0 r1 rc r3 r4 rp r6 r7 = some (bestF r0 r1 rc r3 r4 rp r6 r7 (l.drop i) b s)
  | 0, i, b, s, h => by rw [impl_BestOf.L0_eq, if_neg (by omega), List.drop_of_length_le (by omega), bestF]
  | d + 1, i, b, s, h => by
    have ih := fun b' s' => impl_BestOf_l0 l hn r0 r1 rc r3 r4 rp r6 r7 hc hp d (i + 1) b' s' (by omega)
    rw [impl_BestOf.L0_eq, if_pos (by omega), if_pos (by omega), if_pos (by omega), impl_Score_is r0 r1 rc r3 r4 rp r6 r7 _ _ _ _ _ _ _ _ hc hp, Option.bind_some, wrap_succ i (by omega), dropFind l i (by omega), bestF, ih, ih]
    split <;> rfl
theorem impl_BestOf_is (r0 r1 : Int) (rc : List Int) (r3 r4 : Int) (rp : List Int) (r6 r7 : Int) (l : List S42) (hc : rc.length ≤ 4194304) (hp : rp.length ≤ 4194304) (hn : l.length ≤ 1048576) : impl_BestOf.F r0 r1 rc r3 r4 rp r6 r7 l = some (bestOf r0 r1 rc r3 r4 rp r6 r7 l) := by
  rw [impl_BestOf.F_eq, bestOf, impl_AreFinds_is l hn, Option.bind_some]
  by_cases ha : areFinds l = true
  · have := impl_BestOf_l0 l hn r0 r1 rc r3 r4 rp r6 r7 hc hp l.length 0 0 0 (by omega)
    rw [List.drop_zero] at this
    rw [if_pos ha, if_pos ha]
    exact this
  · rw [if_neg ha, if_neg ha]

def Asc (l : List Int) : Prop := l.Pairwise (fun x y => x < y)
theorem asc_ext : ∀ (a b : List Int), Asc a → Asc b → (∀ x, x ∈ a ↔ x ∈ b) → a = b
  | [], [], _, _, _ => rfl
  | [], y :: b, _, _, h => by have := (h y).2 (List.mem_cons_self ..); cases this
  | x :: a, [], _, _, h => by have := (h x).1 (List.mem_cons_self ..); cases this
  | x :: a, y :: b, ha, hb, h => by
    have ha' := List.pairwise_cons.1 ha
    have hb' := List.pairwise_cons.1 hb
    have e : x = y := by
      rcases List.mem_cons.1 ((h x).1 (List.mem_cons_self ..)) with h1 | h1
      · exact h1
      · rcases List.mem_cons.1 ((h y).2 (List.mem_cons_self ..)) with h2 | h2
        · exact h2.symm
        · have := hb'.1 x h1
          have := ha'.1 y h2
          omega
    subst e
    congr 1
    refine asc_ext a b ha'.2 hb'.2 (fun z => ⟨fun hz => ?_, fun hz => ?_⟩)
    · rcases List.mem_cons.1 ((h z).1 (List.mem_cons_of_mem _ hz)) with h1 | h1
      · have := ha'.1 z hz; omega
      · exact h1
    · rcases List.mem_cons.1 ((h z).2 (List.mem_cons_of_mem _ hz)) with h1 | h1
      · have := hb'.1 z hz; omega
      · exact h1
def putA : List Int → Int → List Int
  | [], n => [n]
  | x :: r, n => if x < n then x :: putA r n else if x = n then x :: r else n :: x :: r
theorem putA_mem (n z : Int) : ∀ l : List Int, z ∈ putA l n ↔ z = n ∨ z ∈ l
  | [] => by simp [putA]
  | x :: r => by
    simp only [putA]
    by_cases h1 : x < n
    · rw [if_pos h1, List.mem_cons, putA_mem n z r, List.mem_cons]
      exact ⟨fun h => by rcases h with h | h | h <;> simp [h], fun h => by rcases h with h | h | h <;> simp [h]⟩
    · rw [if_neg h1]
      by_cases h2 : x = n
      · rw [if_pos h2, List.mem_cons]
        refine ⟨fun h => .inr h, fun h => ?_⟩
        rcases h with h | h
        · exact .inl (by omega)
        · exact h
      · rw [if_neg h2, List.mem_cons]
theorem putA_asc (n : Int) : ∀ l : List Int, Asc l → Asc (putA l n)
  | [], _ => List.pairwise_singleton _ _
  | x :: r, h => by
    have h' := List.pairwise_cons.1 h
    simp only [putA]
    by_cases h1 : x < n
    · rw [if_pos h1]
      refine List.pairwise_cons.2 ⟨fun z hz => ?_, putA_asc n r h'.2⟩
      rcases (putA_mem n z r).1 hz with e | e
      · omega
      · exact h'.1 z e
    · rw [if_neg h1]
      by_cases h2 : x = n
      · rw [if_pos h2]; exact h
      · rw [if_neg h2]
        refine List.pairwise_cons.2 ⟨fun z hz => ?_, h⟩
        rcases List.mem_cons.1 hz with e | e
        · omega
        · have := h'.1 z e; omega
theorem putA_len (n : Int) : ∀ l : List Int, (putA l n).length ≤ l.length + 1
  | [] => by simp [putA]
  | x :: r => by
    simp only [putA]
    by_cases h1 : x < n
    · rw [if_pos h1, List.length_cons, List.length_cons]
      have := putA_len n r
      omega
    · rw [if_neg h1]
      split <;> simp

def okRepAt (l : List S30) (i : Nat) : Prop := isReport (rd_T30 l (i : Int)).f0 (rd_T30 l (i : Int)).f1 (rd_T30 l (i : Int)).f2 (rd_T30 l (i : Int)).f3 (rd_T30 l (i : Int)).f4 (rd_T30 l (i : Int)).f5 (rd_T30 l (i : Int)).f6.f0 (rd_T30 l (i : Int)).f6.f1 = true ∧ ((i : Int) > 0 → (rd_T30 l ((i : Int) - 1)).f0 < (rd_T30 l (i : Int)).f0)
noncomputable def areReports (l : List S30) : Bool := allF (okRepAt l) l.length 0 && decide ((l.length : Int) ≤ 20)
noncomputable def seekF (f0 f1 f2 f3 f4 f5 f6 f7 : Int) : List S30 → List Int
  | [] => []
  | y :: r => if canBe y.f0 y.f1 y.f2 y.f3 y.f4 y.f5 y.f6.f0 y.f6.f1 f0 f1 f2 f3 f4 f5 f6 f7 = true then y.f0 :: seekF f0 f1 f2 f3 f4 f5 f6 f7 r else seekF f0 f1 f2 f3 f4 f5 f6 f7 r
theorem seekF_len (f0 f1 f2 f3 f4 f5 f6 f7 : Int) : ∀ l : List S30, (seekF f0 f1 f2 f3 f4 f5 f6 f7 l).length ≤ l.length
  | [] => Nat.le_refl _
  | y :: r => by
    have := seekF_len f0 f1 f2 f3 f4 f5 f6 f7 r
    simp only [seekF]
    split <;> simp only [List.length_cons] <;> omega
noncomputable def seekers (f0 f1 f2 f3 f4 f5 f6 f7 : Int) (l : List S30) : List Int := if areReports l = true then seekF f0 f1 f2 f3 f4 f5 f6 f7 l else []
theorem seekers_len (f0 f1 f2 f3 f4 f5 f6 f7 : Int) (l : List S30) : (seekers f0 f1 f2 f3 f4 f5 f6 f7 l).length ≤ l.length := by
  unfold seekers
  split
  · exact seekF_len f0 f1 f2 f3 f4 f5 f6 f7 l
  · exact Nat.zero_le _
theorem seekF_mem (f0 f1 f2 f3 f4 f5 f6 f7 z : Int) : ∀ l : List S30, z ∈ seekF f0 f1 f2 f3 f4 f5 f6 f7 l ↔ ∃ y ∈ l, canBe y.f0 y.f1 y.f2 y.f3 y.f4 y.f5 y.f6.f0 y.f6.f1 f0 f1 f2 f3 f4 f5 f6 f7 = true ∧ y.f0 = z
  | [] => by simp [seekF]
  | y :: r => by
    have ih := seekF_mem f0 f1 f2 f3 f4 f5 f6 f7 z r
    simp only [seekF]
    by_cases c : canBe y.f0 y.f1 y.f2 y.f3 y.f4 y.f5 y.f6.f0 y.f6.f1 f0 f1 f2 f3 f4 f5 f6 f7 = true
    · rw [if_pos c, List.mem_cons, ih]
      constructor
      · rintro (h | ⟨x, h1, h2, h3⟩)
        · exact ⟨y, List.mem_cons_self .., c, h.symm⟩
        · exact ⟨x, List.mem_cons_of_mem _ h1, h2, h3⟩
      · rintro ⟨x, h1, h2, h3⟩
        rcases List.mem_cons.1 h1 with e | e
        · rw [e] at h3; exact .inl h3.symm
        · exact .inr ⟨x, e, h2, h3⟩
    · rw [if_neg c, ih]
      constructor
      · rintro ⟨x, h1, h2, h3⟩
        exact ⟨x, List.mem_cons_of_mem _ h1, h2, h3⟩
      · rintro ⟨x, h1, h2, h3⟩
        rcases List.mem_cons.1 h1 with e | e
        · rw [e] at h2; exact absurd h2 c
        · exact ⟨x, e, h2, h3⟩
theorem reports_lt {l : List S30} (h : areReports l = true) : ∀ (d i : Nat), i + d + 1 < l.length → (rd_T30 l (i : Int)).f0 < (rd_T30 l ((i + d + 1 : Nat) : Int)).f0 := by
  unfold areReports at h
  rw [Bool.and_eq_true, allF_all] at h
  have step : ∀ j : Nat, j + 1 < l.length → (rd_T30 l (j : Int)).f0 < (rd_T30 l ((j + 1 : Nat) : Int)).f0 := fun j hj => by
    have := (h.1 (j + 1) hj).2 (by omega)
    rw [show ((j + 1 : Nat) : Int) - 1 = (j : Int) by omega] at this
    exact this
  intro d
  induction d with
  | zero => exact fun i hi => step i hi
  | succ d ih =>
    intro i hi
    have h1 := ih i (by omega)
    have h2 := step (i + d + 1) (by omega)
    exact Int.lt_trans h1 h2
theorem report_same {l : List S30} (h : areReports l = true) {x : S30} (hx : x ∈ l) (i : Nat) (hi : i < l.length) (e : x.f0 = (rd_T30 l (i : Int)).f0) : x = rd_T30 l (i : Int) := by
  obtain ⟨j, hj, ej⟩ := List.getElem_of_mem hx
  have ej' : rd_T30 l (j : Int) = x := by rw [rdReport_at, getD_get l j _ hj, ej]
  rcases Nat.lt_trichotomy i j with c | c | c
  · obtain ⟨d, rfl⟩ : ∃ d, j = i + d + 1 := ⟨j - i - 1, by omega⟩
    have := reports_lt h d i hj
    rw [ej'] at this
    omega
  · subst c
    exact ej'.symm
  · obtain ⟨d, rfl⟩ : ∃ d, i = j + d + 1 := ⟨i - j - 1, by omega⟩
    have := reports_lt h d j hi
    rw [ej'] at this
    omega
/-- Who seeks it: in a row of reports, just those that it can be. -/
theorem seek_is (f0 f1 f2 f3 f4 f5 f6 f7 : Int) (l : List S30) (h : areReports l = true) (i : Nat) (hi : i < l.length) : (rd_T30 l (i : Int)).f0 ∈ seekers f0 f1 f2 f3 f4 f5 f6 f7 l ↔ canBe (rd_T30 l (i : Int)).f0 (rd_T30 l (i : Int)).f1 (rd_T30 l (i : Int)).f2 (rd_T30 l (i : Int)).f3 (rd_T30 l (i : Int)).f4 (rd_T30 l (i : Int)).f5 (rd_T30 l (i : Int)).f6.f0 (rd_T30 l (i : Int)).f6.f1 f0 f1 f2 f3 f4 f5 f6 f7 = true := by
  rw [seekers, if_pos h, seekF_mem]
  constructor
  · rintro ⟨y, hy, hc, e⟩
    have := report_same h hy i hi e
    rw [this] at hc
    exact hc
  · intro hc
    exact ⟨_, memReport l i hi, hc, rfl⟩

theorem impl_AreReports_l0 (l : List S30) (hn : l.length ≤ 1000) (ho : OKR l) : ∀ (d i : Nat), i + d = l.length → impl_AreReports.L0 l l (l.length : Int) (i : Int) = some (allF (okRepAt l) l.length i)
  | 0, i, h => by rw [impl_AreReports.L0_eq, if_neg (by omega), allF_end (by omega)]
  | d + 1, i, h => by
    have hi : i < l.length := by omega
    have ih := impl_AreReports_l0 l hn ho d (i + 1) (by omega)
    obtain ⟨o2, o5⟩ := ho _ (memReport l i hi)
    have ht : impl_IsReport.F (rd_T30 l (i : Int)).f0 (rd_T30 l (i : Int)).f1 (rd_T30 l (i : Int)).f2 (rd_T30 l (i : Int)).f3 (rd_T30 l (i : Int)).f4 (rd_T30 l (i : Int)).f5 (rd_T30 l (i : Int)).f6.f0 (rd_T30 l (i : Int)).f6.f1 = some (isReport (rd_T30 l (i : Int)).f0 (rd_T30 l (i : Int)).f1 (rd_T30 l (i : Int)).f2 (rd_T30 l (i : Int)).f3 (rd_T30 l (i : Int)).f4 (rd_T30 l (i : Int)).f5 (rd_T30 l (i : Int)).f6.f0 (rd_T30 l (i : Int)).f6.f1) := impl_IsReport_is _ _ _ _ _ _ _ _ (by omega) (by omega)
    rw [impl_AreReports.L0_eq, if_pos (by omega), if_pos (by omega), if_pos (by omega), ht, Option.bind_some, wrap_pred i (by omega), wrap_succ i (by omega), ih]
    by_cases c1 : isReport (rd_T30 l (i : Int)).f0 (rd_T30 l (i : Int)).f1 (rd_T30 l (i : Int)).f2 (rd_T30 l (i : Int)).f3 (rd_T30 l (i : Int)).f4 (rd_T30 l (i : Int)).f5 (rd_T30 l (i : Int)).f6.f0 (rd_T30 l (i : Int)).f6.f1 = true
    · rw [if_pos c1]
      by_cases c0 : (i : Int) > 0
      · rw [if_pos c0, if_pos (by omega), if_pos (by omega)]
        by_cases c2 : (rd_T30 l (i : Int)).f0 ≤ (rd_T30 l ((i : Int) - 1)).f0
        · rw [if_pos c2, allF_no hi (fun h => absurd (h.2 c0) (by omega))]
        · have hp : okRepAt l i := ⟨c1, fun _ => by omega⟩
          rw [if_neg c2, allF_yes hp]
      · have hp : okRepAt l i := ⟨c1, fun hh => absurd hh c0⟩
        rw [if_neg c0, allF_yes hp]
    · rw [if_neg c1, allF_no hi (fun h => c1 h.1)]
theorem impl_AreReports_is (l : List S30) (hn : l.length ≤ 1000) (ho : OKR l) : impl_AreReports.F l = some (areReports l) := by
  rw [impl_AreReports.F_eq, areReports]
  by_cases h : (l.length : Int) > 20
  · rw [if_pos h, decide_eq_false (by omega), Bool.and_false]
  · rw [if_neg h, decide_eq_true (by omega), Bool.and_true]
    exact impl_AreReports_l0 l hn ho l.length 0 (by omega)

theorem impl_Seekers_l0 (l : List S30) (hn : l.length ≤ 1000) (ho : OKR l) (f0 f1 f2 f3 f4 f5 f6 f7 : Int) : ∀ (d i : Nat) (acc : List Int), i + d = l.length → acc.length ≤ i → impl_Seekers.L0 acc l (l.length : Int) (i : Int) f0 f1 f2 f3 f4 f5 f6 f7 = some (acc ++ seekF f0 f1 f2 f3 f4 f5 f6 f7 (l.drop i))
  | 0, i, acc, h, hacc => by rw [impl_Seekers.L0_eq, if_neg (by omega), List.drop_of_length_le (by omega), seekF, List.append_nil]
  | d + 1, i, acc, h, hacc => by
    obtain ⟨o2, o5⟩ := ho _ (memReport l i (by omega))
    rw [impl_Seekers.L0_eq, if_pos (by omega), if_pos (by omega), if_pos (by omega), impl_CanBe_is _ _ _ _ _ _ _ _ f0 f1 f2 f3 f4 f5 f6 f7 (by omega) (by omega), Option.bind_some, wrap_succ i (by omega), dropReport l i (by omega), seekF]
    split
    · rw [if_pos (by omega), impl_Seekers_l0 l hn ho f0 f1 f2 f3 f4 f5 f6 f7 d (i + 1) _ (by omega) (by rw [List.length_append, List.length_singleton]; omega), List.append_assoc]
      rfl
    · rw [impl_Seekers_l0 l hn ho f0 f1 f2 f3 f4 f5 f6 f7 d (i + 1) _ (by omega) (by omega)]
theorem impl_Seekers_is (f0 f1 f2 f3 f4 f5 f6 f7 : Int) (l : List S30) (hn : l.length ≤ 1000) (ho : OKR l) : impl_Seekers.F f0 f1 f2 f3 f4 f5 f6 f7 l = some (seekers f0 f1 f2 f3 f4 f5 f6 f7 l) := by
  rw [impl_Seekers.F_eq, Option.bind_some, impl_AreReports_is l hn ho, Option.bind_some, seekers]
  by_cases ha : areReports l = true
  · have := impl_Seekers_l0 l hn ho f0 f1 f2 f3 f4 f5 f6 f7 l.length 0 [] (by omega) (by simp)
    rw [List.drop_zero, List.nil_append] at this
    rw [if_pos ha, if_pos ha]
    exact this
  · rw [if_neg ha, if_neg ha]

theorem idxFFind_spec (p : S42 → Bool) : ∀ (l : List S42) (i : Int), (idxF42 p l i = -1 ∧ ∀ x ∈ l, ¬ p x = true) ∨ ∃ j : Nat, j < l.length ∧ idxF42 p l i = i + (j : Int) ∧ p (l.getD j z42) = true ∧ ∀ m : Nat, m < j → ¬ p (l.getD m z42) = true
  | [], i => .inl ⟨rfl, by simp⟩
  | x :: r, i => by
    simp only [idxF42]
    by_cases h : p x = true
    · rw [if_pos h]
      exact .inr ⟨0, by simp, by simp, by simpa using h, fun m hm => absurd hm (by omega)⟩
    · rw [if_neg h]
      rcases idxFFind_spec p r (i + 1) with ⟨h1, h2⟩ | ⟨j, h1, h2, h3, h4⟩
      · exact .inl ⟨h1, fun y hy => by
          rcases List.mem_cons.1 hy with e | e
          · rw [e]; exact h
          · exact h2 y e⟩
      · refine .inr ⟨j + 1, by simp; omega, by rw [h2]; omega, by simpa using h3, fun m hm => ?_⟩
        cases m with
        | zero => simpa using h
        | succ m => simpa using h4 m (by omega)
theorem idxFFind_at (p : S42 → Bool) (l : List S42) : (idxF42 p l 0 = -1 ∧ ∀ x ∈ l, ¬ p x = true) ∨ ∃ j : Nat, j < l.length ∧ idxF42 p l 0 = (j : Int) ∧ p (rd_T42 l (j : Int)) = true ∧ ∀ m : Nat, m < j → ¬ p (rd_T42 l (m : Int)) = true := by
  rcases idxFFind_spec p l 0 with h | ⟨j, h1, h2, h3, h4⟩
  · exact .inl h
  · refine .inr ⟨j, h1, by rw [h2]; omega, by rw [rdFind_at]; exact h3, fun m hm => by rw [rdFind_at]; exact h4 m hm⟩

theorem score_pos (r0 r1 : Int) (rc : List Int) (r3 r4 : Int) (rp : List Int) (r6 r7 f0 f1 f2 f3 f4 f5 f6 f7 : Int) : decide (score r0 r1 rc r3 r4 rp r6 r7 f0 f1 f2 f3 f4 f5 f6 f7 > 0) = canBe r0 r1 rc r3 r4 rp r6 r7 f0 f1 f2 f3 f4 f5 f6 f7 := by
  unfold score
  have b1 := b2i_bd (inR (rc.length : Int) 1 2)
  have b2 := b2i_bd (decide (r4 - r3 ≤ 5))
  have b3 := b2i_bd (inR (rp.length : Int) 1 2)
  have b4 := b2i_bd (decide (f6 ≤ r7 + 24))
  by_cases h : canBe r0 r1 rc r3 r4 rp r6 r7 f0 f1 f2 f3 f4 f5 f6 f7 = true
  · rw [if_pos h, h]
    exact decide_eq_true (by omega)
  · rw [if_neg h, Bool.eq_false_iff.2 h]
    exact decide_eq_false (by omega)
theorem score_le (r0 r1 : Int) (rc : List Int) (r3 r4 : Int) (rp : List Int) (r6 r7 f0 f1 f2 f3 f4 f5 f6 f7 : Int) : score r0 r1 rc r3 r4 rp r6 r7 f0 f1 f2 f3 f4 f5 f6 f7 ≤ 5 := by
  unfold score
  have b1 := b2i_bd (inR (rc.length : Int) 1 2)
  have b2 := b2i_bd (decide (r4 - r3 ≤ 5))
  have b3 := b2i_bd (inR (rp.length : Int) 1 2)
  have b4 := b2i_bd (decide (f6 ≤ r7 + 24))
  split <;> omega
theorem score_can {r0 r1 : Int} {rc : List Int} {r3 r4 : Int} {rp : List Int} {r6 r7 f0 f1 f2 f3 f4 f5 f6 f7 : Int} (h : score r0 r1 rc r3 r4 rp r6 r7 f0 f1 f2 f3 f4 f5 f6 f7 > 0) : canBe r0 r1 rc r3 r4 rp r6 r7 f0 f1 f2 f3 f4 f5 f6 f7 = true := by
  rw [← score_pos]
  exact decide_eq_true h
theorem can_id {r0 r1 : Int} {rc : List Int} {r3 r4 : Int} {rp : List Int} {r6 r7 f0 f1 f2 f3 f4 f5 f6 f7 : Int} (h : canBe r0 r1 rc r3 r4 rp r6 r7 f0 f1 f2 f3 f4 f5 f6 f7 = true) : 1 ≤ f0 := by
  simp only [canBe, isFind, Bool.and_eq_true, inR_iff] at h
  omega
theorem bestF_spec (r0 r1 : Int) (rc : List Int) (r3 r4 : Int) (rp : List Int) (r6 r7 : Int) : ∀ (l : List S42) (b s : Int), (bestF r0 r1 rc r3 r4 rp r6 r7 l b s = b ∧ ∀ z ∈ l, score r0 r1 rc r3 r4 rp r6 r7 z.f0.f0 z.f0.f1 z.f0.f2 z.f0.f3 z.f0.f4 z.f1 z.f2 z.f3 ≤ s) ∨ ∃ y ∈ l, bestF r0 r1 rc r3 r4 rp r6 r7 l b s = y.f0.f0 ∧ score r0 r1 rc r3 r4 rp r6 r7 y.f0.f0 y.f0.f1 y.f0.f2 y.f0.f3 y.f0.f4 y.f1 y.f2 y.f3 > s ∧ ∀ z ∈ l, score r0 r1 rc r3 r4 rp r6 r7 z.f0.f0 z.f0.f1 z.f0.f2 z.f0.f3 z.f0.f4 z.f1 z.f2 z.f3 ≤ score r0 r1 rc r3 r4 rp r6 r7 y.f0.f0 y.f0.f1 y.f0.f2 y.f0.f3 y.f0.f4 y.f1 y.f2 y.f3
  | [], b, s => .inl ⟨rfl, fun z hz => by cases hz⟩
  | y :: r, b, s => by
    simp only [bestF]
    by_cases c : score r0 r1 rc r3 r4 rp r6 r7 y.f0.f0 y.f0.f1 y.f0.f2 y.f0.f3 y.f0.f4 y.f1 y.f2 y.f3 > s
    · rw [if_pos c]
      rcases bestF_spec r0 r1 rc r3 r4 rp r6 r7 r y.f0.f0 (score r0 r1 rc r3 r4 rp r6 r7 y.f0.f0 y.f0.f1 y.f0.f2 y.f0.f3 y.f0.f4 y.f1 y.f2 y.f3) with ⟨h1, h2⟩ | ⟨x, hx, h1, h2, h3⟩
      · refine .inr ⟨y, List.mem_cons_self .., h1, c, fun z hz => ?_⟩
        rcases List.mem_cons.1 hz with e | e
        · rw [e]; exact Int.le_refl _
        · exact h2 z e
      · refine .inr ⟨x, List.mem_cons_of_mem _ hx, h1, by omega, fun z hz => ?_⟩
        rcases List.mem_cons.1 hz with e | e
        · rw [e]; omega
        · exact h3 z e
    · rw [if_neg c]
      rcases bestF_spec r0 r1 rc r3 r4 rp r6 r7 r b s with ⟨h1, h2⟩ | ⟨x, hx, h1, h2, h3⟩
      · refine .inl ⟨h1, fun z hz => ?_⟩
        rcases List.mem_cons.1 hz with e | e
        · rw [e]; omega
        · exact h2 z e
      · refine .inr ⟨x, List.mem_cons_of_mem _ hx, h1, h2, fun z hz => ?_⟩
        rcases List.mem_cons.1 hz with e | e
        · rw [e]; omega
        · exact h3 z e
theorem candF_mem (r0 r1 : Int) (rc : List Int) (r3 r4 : Int) (rp : List Int) (r6 r7 z : Int) : ∀ l : List S42, z ∈ candF r0 r1 rc r3 r4 rp r6 r7 l ↔ ∃ y ∈ l, canBe r0 r1 rc r3 r4 rp r6 r7 y.f0.f0 y.f0.f1 y.f0.f2 y.f0.f3 y.f0.f4 y.f1 y.f2 y.f3 = true ∧ y.f0.f0 = z
  | [] => by simp [candF]
  | y :: r => by
    have ih := candF_mem r0 r1 rc r3 r4 rp r6 r7 z r
    simp only [candF]
    by_cases c : canBe r0 r1 rc r3 r4 rp r6 r7 y.f0.f0 y.f0.f1 y.f0.f2 y.f0.f3 y.f0.f4 y.f1 y.f2 y.f3 = true
    · rw [if_pos c, List.mem_cons, ih]
      constructor
      · rintro (h | ⟨x, h1, h2, h3⟩)
        · exact ⟨y, List.mem_cons_self .., c, h.symm⟩
        · exact ⟨x, List.mem_cons_of_mem _ h1, h2, h3⟩
      · rintro ⟨x, h1, h2, h3⟩
        rcases List.mem_cons.1 h1 with e | e
        · rw [e] at h3; exact .inl h3.symm
        · exact .inr ⟨x, e, h2, h3⟩
    · rw [if_neg c, ih]
      constructor
      · rintro ⟨x, h1, h2, h3⟩
        exact ⟨x, List.mem_cons_of_mem _ h1, h2, h3⟩
      · rintro ⟨x, h1, h2, h3⟩
        rcases List.mem_cons.1 h1 with e | e
        · rw [e] at h2; exact absurd h2 c
        · exact ⟨x, e, h2, h3⟩
theorem finds_lt {l : List S42} (h : areFinds l = true) : ∀ (d i : Nat), i + d + 1 < l.length → (rd_T42 l (i : Int)).f0.f0 < (rd_T42 l ((i + d + 1 : Nat) : Int)).f0.f0 := by
  unfold areFinds at h
  rw [Bool.and_eq_true, allF_all] at h
  have step : ∀ j : Nat, j + 1 < l.length → (rd_T42 l (j : Int)).f0.f0 < (rd_T42 l ((j + 1 : Nat) : Int)).f0.f0 := fun j hj => by
    have := (h.1 (j + 1) hj).2 (by omega)
    rw [show ((j + 1 : Nat) : Int) - 1 = (j : Int) by omega] at this
    exact this
  intro d
  induction d with
  | zero => exact fun i hi => step i hi
  | succ d ih =>
    intro i hi
    have h1 := ih i (by omega)
    have h2 := step (i + d + 1) (by omega)
    exact Int.lt_trans h1 h2
theorem finds_pw {l : List S42} (h : areFinds l = true) : l.Pairwise (fun x y => x.f0.f0 < y.f0.f0) := by
  rw [List.pairwise_iff_getElem]
  intro i j hi hj hij
  obtain ⟨d, rfl⟩ : ∃ d, j = i + d + 1 := ⟨j - i - 1, by omega⟩
  have := finds_lt h d i hj
  rw [rdFind_at, rdFind_at, getD_get l i _ hi, getD_get l (i + d + 1) _ hj] at this
  exact this
theorem candF_asc (r0 r1 : Int) (rc : List Int) (r3 r4 : Int) (rp : List Int) (r6 r7 : Int) : ∀ l : List S42, l.Pairwise (fun x y => x.f0.f0 < y.f0.f0) → Asc (candF r0 r1 rc r3 r4 rp r6 r7 l)
  | [], _ => List.Pairwise.nil
  | y :: r, h => by
    rw [List.pairwise_cons] at h
    have ih := candF_asc r0 r1 rc r3 r4 rp r6 r7 r h.2
    simp only [candF]
    split
    · refine List.Pairwise.cons (fun z hz => ?_) ih
      rw [candF_mem] at hz
      obtain ⟨x, hx, _, e⟩ := hz
      rw [← e]
      exact h.1 x hx
    · exact ih
theorem candidates_asc (r0 r1 : Int) (rc : List Int) (r3 r4 : Int) (rp : List Int) (r6 r7 : Int) (l : List S42) : Asc (candidates r0 r1 rc r3 r4 rp r6 r7 l) := by
  unfold candidates
  split
  · next h => exact candF_asc r0 r1 rc r3 r4 rp r6 r7 l (finds_pw h)
  · exact List.Pairwise.nil
theorem find_same {l : List S42} (h : l.Pairwise (fun x y => x.f0.f0 < y.f0.f0)) {x y : S42} (hx : x ∈ l) (hy : y ∈ l) (e : x.f0.f0 = y.f0.f0) : x = y := by
  obtain ⟨i, hi, ei⟩ := List.getElem_of_mem hx
  obtain ⟨j, hj, ej⟩ := List.getElem_of_mem hy
  have hp := List.pairwise_iff_getElem.1 h
  rcases Nat.lt_trichotomy i j with c | c | c
  · have := hp i j hi hj c
    rw [ei, ej] at this
    omega
  · subst c
    rw [← ei, ← ej]
  · have := hp j i hj hi c
    rw [ei, ej] at this
    omega
/-- The best one: none, and no candidate; or the one whose number comes first, a candidate, and no other scores more. -/
theorem best_is (r0 r1 : Int) (rc : List Int) (r3 r4 : Int) (rp : List Int) (r6 r7 : Int) (l : List S42) : (bestOf r0 r1 rc r3 r4 rp r6 r7 l = 0 ∧ candidates r0 r1 rc r3 r4 rp r6 r7 l = []) ∨ (bestOf r0 r1 rc r3 r4 rp r6 r7 l ≠ 0 ∧ bestOf r0 r1 rc r3 r4 rp r6 r7 l ∈ candidates r0 r1 rc r3 r4 rp r6 r7 l ∧ ∃ j : Nat, j < l.length ∧ idxF42 (fun x => x.f0.f0 == bestOf r0 r1 rc r3 r4 rp r6 r7 l) l 0 = (j : Int) ∧ ∀ z ∈ l, score r0 r1 rc r3 r4 rp r6 r7 z.f0.f0 z.f0.f1 z.f0.f2 z.f0.f3 z.f0.f4 z.f1 z.f2 z.f3 ≤ score r0 r1 rc r3 r4 rp r6 r7 (rd_T42 l (j : Int)).f0.f0 (rd_T42 l (j : Int)).f0.f1 (rd_T42 l (j : Int)).f0.f2 (rd_T42 l (j : Int)).f0.f3 (rd_T42 l (j : Int)).f0.f4 (rd_T42 l (j : Int)).f1 (rd_T42 l (j : Int)).f2 (rd_T42 l (j : Int)).f3) := by
  unfold bestOf candidates
  by_cases h : areFinds l = true
  · rw [if_pos h, if_pos h]
    rcases bestF_spec r0 r1 rc r3 r4 rp r6 r7 l 0 0 with ⟨h1, h2⟩ | ⟨y, hy, h1, h2, h3⟩
    · refine .inl ⟨h1, List.eq_nil_iff_forall_not_mem.2 (fun z hz => ?_)⟩
      rw [candF_mem] at hz
      obtain ⟨x, hx, hc, _⟩ := hz
      have := h2 x hx
      have hp := score_pos r0 r1 rc r3 r4 rp r6 r7 x.f0.f0 x.f0.f1 x.f0.f2 x.f0.f3 x.f0.f4 x.f1 x.f2 x.f3
      rw [hc, decide_eq_true_eq] at hp
      omega
    · have hc := score_can h2
      have hid := can_id hc
      rw [h1]
      refine .inr ⟨by omega, (candF_mem r0 r1 rc r3 r4 rp r6 r7 _ l).2 ⟨y, hy, hc, rfl⟩, ?_⟩
      rcases idxFFind_at (fun x => x.f0.f0 == y.f0.f0) l with ⟨_, h4⟩ | ⟨j, hj, h4, h5, _⟩
      · exact absurd (beq_self_eq_true _) (h4 y hy)
      · refine ⟨j, hj, h4, fun z hz => ?_⟩
        have hm : rd_T42 l (j : Int) ∈ l := by
          rw [rdFind_at, getD_get l j _ hj]
          exact List.getElem_mem hj
        have := find_same (finds_pw h) hm hy (by simpa using h5)
        rw [this]
        exact h3 z hz
  · rw [if_neg h, if_neg h]
    exact .inl ⟨rfl, rfl⟩

theorem ascends_l0 (l : List Int) (hl : l.length ≤ 4194304) (h : Asc l) : ∀ (d i : Nat), i + d = l.length → 1 ≤ i → laws_ascends.L0 l (i : Int) = some true
  | 0, i, hd, h1 => by rw [laws_ascends.L0_eq, if_neg (by omega)]
  | d + 1, i, hd, h1 => by
    have hp := List.pairwise_iff_getElem.1 h (i - 1) i (by omega) (by omega) (by omega)
    have e : ¬ rd l ((i - 1 : Nat) : Int) ≥ rd l (i : Int) := by
      rw [rdInt_at, rdInt_at, getD_get l i _ (by omega), getD_get l (i - 1) _ (by omega)]
      omega
    rw [laws_ascends.L0_eq, if_pos (by omega), show wrap64 ((i : Int) - 1) = ((i - 1 : Nat) : Int) by rw [wrap_in _ (by omega)]; omega, if_pos (by omega), if_pos (by omega), if_pos (by omega), if_neg e, wrap_succ i (by omega)]
    exact ascends_l0 l hl h d (i + 1) (by omega) (by omega)
theorem ascends_is (l : List Int) (hl : l.length ≤ 4194304) (h : Asc l) : laws_ascends.F l = some true := by
  rw [laws_ascends.F_eq]
  by_cases h0 : l.length = 0
  · rw [laws_ascends.L0_eq, if_neg (by omega)]
  · exact ascends_l0 l hl h (l.length - 1) 1 (by omega) (by omega)

theorem contains_l0 (l : List Int) (x : Int) (hl : l.length ≤ 1048576) : ∀ (d i : Nat), i + d = l.length → x ∈ l.drop i → laws_contains.L0 l x (i : Int) = some true
  | 0, i, h, hx => by
    rw [List.drop_of_length_le (by omega)] at hx
    cases hx
  | d + 1, i, h, hx => by
    rw [laws_contains.L0_eq, if_pos (by omega), if_pos (by omega), wrap_succ i (by omega)]
    by_cases e : rd l (i : Int) = x
    · rw [if_pos e]
    · rw [if_neg e]
      refine contains_l0 l x hl d (i + 1) (by omega) ?_
      rw [dropInt l i (by omega)] at hx
      rcases List.mem_cons.1 hx with h1 | h1
      · exact absurd h1.symm e
      · exact h1
theorem contains_yes (l : List Int) (x : Int) (hl : l.length ≤ 1048576) (h : x ∈ l) : laws_contains.F l x = some true := by
  rw [laws_contains.F_eq]
  exact contains_l0 l x hl l.length 0 (by omega) (by rw [List.drop_zero]; exact h)

theorem contains_n0 (l : List Int) (x : Int) (hl : l.length ≤ 1048576) (hx : x ∉ l) : ∀ (d i : Nat), i + d = l.length → laws_contains.L0 l x (i : Int) = some false
  | 0, i, h => by rw [laws_contains.L0_eq, if_neg (by omega)]
  | d + 1, i, h => by
    rw [laws_contains.L0_eq, if_pos (by omega), if_pos (by omega), wrap_succ i (by omega), contains_n0 l x hl hx d (i + 1) (by omega)]
    have e : rd l (i : Int) ≠ x := fun e => by
      have h1 := dropInt l i (by omega)
      have h2 : rd l (i : Int) ∈ l.drop i := by rw [h1]; exact List.mem_cons_self
      rw [e] at h2
      exact hx (List.mem_of_mem_drop h2)
    rw [if_neg e]
theorem contains_no (l : List Int) (x : Int) (hl : l.length ≤ 1048576) (h : x ∉ l) : laws_contains.F l x = some false := by
  rw [laws_contains.F_eq]
  exact contains_n0 l x hl h l.length 0 (by omega)

theorem contains_is (l : List Int) (x : Int) (hl : l.length ≤ 1048576) : laws_contains.F l x = some (decide (x ∈ l)) := by
  by_cases h : x ∈ l
  · rw [contains_yes l x hl h, decide_eq_true h]
  · rw [contains_no l x hl h, decide_eq_false h]
theorem seek_l1 (l : List S30) (hn : l.length ≤ 1000) (ho : OKR l) (f0 f1 f2 f3 f4 f5 f6 f7 : Int) : ∀ (d i : Nat), i + d = l.length → laws_FnMatches.L1 l (seekers f0 f1 f2 f3 f4 f5 f6 f7 l) (i : Int) f0 f1 f2 f3 f4 f5 f6 f7 = some true
  | d, i, h => by
    have hj : ∀ j, laws_FnMatches.J5 l (seekers f0 f1 f2 f3 f4 f5 f6 f7 l) j false f0 f1 f2 f3 f4 f5 f6 f7 = some true := fun j => by rw [laws_FnMatches.J5_eq, if_neg (by decide)]
    rw [laws_FnMatches.L1_eq]
    by_cases hi : (i : Int) < (l.length : Int)
    · rw [if_pos hi, impl_AreReports_is l hn ho, Option.bind_some]
      by_cases ha : areReports l = true
      · have hs := seek_is f0 f1 f2 f3 f4 f5 f6 f7 l ha i (by omega)
        have hlen := seekers_len f0 f1 f2 f3 f4 f5 f6 f7 l
        obtain ⟨o2, o5⟩ := ho _ (memReport l i (by omega))
        rw [ha, laws_FnMatches.J5_eq, if_pos rfl, if_pos (by omega), if_pos hi, contains_is _ _ (by omega), Option.bind_some, impl_CanBe_is _ _ _ _ _ _ _ _ f0 f1 f2 f3 f4 f5 f6 f7 (by omega) (by omega), Option.bind_some]
        have hd : decide ((rd_T30 l (i : Int)).f0 ∈ seekers f0 f1 f2 f3 f4 f5 f6 f7 l) = canBe (rd_T30 l (i : Int)).f0 (rd_T30 l (i : Int)).f1 (rd_T30 l (i : Int)).f2 (rd_T30 l (i : Int)).f3 (rd_T30 l (i : Int)).f4 (rd_T30 l (i : Int)).f5 (rd_T30 l (i : Int)).f6.f0 (rd_T30 l (i : Int)).f6.f1 f0 f1 f2 f3 f4 f5 f6 f7 := by
          rw [Bool.eq_iff_iff, decide_eq_true_eq]
          exact hs
        rw [hd, bne_self_eq_false, if_neg (by decide), wrap_succ i (by omega)]
        match d, h with
        | 0, h => exact absurd h (by omega)
        | d + 1, h => exact seek_l1 l hn ho f0 f1 f2 f3 f4 f5 f6 f7 d (i + 1) (by omega)
      · rw [Bool.eq_false_iff.2 ha]
        exact hj _
    · rw [if_neg hi]
      exact hj _
theorem match_j3 (b : List Int) (hb : b.length ≤ 1048576) (l : List S42) (n i r0 r1 : Int) (rc : List Int) (r3 r4 : Int) (rp : List Int) (r6 r7 : Int) : laws_FnMatches.J3 b l n i false r0 r1 rc r3 r4 rp r6 r7 = some true := by
  obtain ⟨f0, f1, f2, f3, f4, f5, f6, f7, m, e, hm, ho⟩ := drawSeekers_is b hb
  rw [laws_FnMatches.J3_eq, if_neg (by decide), e, Option.bind_some]
  dsimp only
  rw [impl_Seekers_is f0 f1 f2 f3 f4 f5 f6 f7 m hm ho, Option.bind_some]
  exact seek_l1 m hm ho f0 f1 f2 f3 f4 f5 f6 f7 m.length 0 (by omega)
theorem match_l0 (b : List Int) (hb : b.length ≤ 1048576) (l : List S42) (hl : l.length ≤ 1000) (n r0 r1 : Int) (rc : List Int) (r3 r4 : Int) (rp : List Int) (r6 r7 : Int) (hc : rc.length ≤ 4194304) (hp : rp.length ≤ 4194304) (hn : n ≠ 0 → ∃ j : Nat, j < l.length ∧ idxF42 (fun x => x.f0.f0 == n) l 0 = (j : Int) ∧ ∀ z ∈ l, score r0 r1 rc r3 r4 rp r6 r7 z.f0.f0 z.f0.f1 z.f0.f2 z.f0.f3 z.f0.f4 z.f1 z.f2 z.f3 ≤ score r0 r1 rc r3 r4 rp r6 r7 (rd_T42 l (j : Int)).f0.f0 (rd_T42 l (j : Int)).f0.f1 (rd_T42 l (j : Int)).f0.f2 (rd_T42 l (j : Int)).f0.f3 (rd_T42 l (j : Int)).f0.f4 (rd_T42 l (j : Int)).f1 (rd_T42 l (j : Int)).f2 (rd_T42 l (j : Int)).f3) : ∀ (d i : Nat), i + d = l.length → laws_FnMatches.L0 b l n (i : Int) r0 r1 rc r3 r4 rp r6 r7 = some true
  | d, i, h => by
    rw [laws_FnMatches.L0_eq]
    by_cases hi : (i : Int) < (l.length : Int)
    · rw [if_pos hi]
      by_cases h0 : n = 0
      · rw [show (n != 0) = false by simpa using h0]
        exact match_j3 b hb l n i r0 r1 rc r3 r4 rp r6 r7
      · obtain ⟨j, hj, ej, hs⟩ := hn h0
        have hm : rd_T42 l (i : Int) ∈ l := by
          rw [rdFind_at, getD_get l i _ (by omega)]
          exact List.getElem_mem _
        have hle := hs _ hm
        rw [show (n != 0) = true by simpa using h0, laws_FnMatches.J3_eq, if_pos rfl, if_pos (by omega), if_pos hi, impl_Score_is r0 r1 rc r3 r4 rp r6 r7 _ _ _ _ _ _ _ _ hc hp, Option.bind_some, impl_FindThing.f, ej, Option.bind_some, if_pos (by omega), if_pos (by omega), impl_Score_is r0 r1 rc r3 r4 rp r6 r7 _ _ _ _ _ _ _ _ hc hp, Option.bind_some, if_neg (by omega), wrap_succ i (by omega)]
        match d, h with
        | 0, h => exact absurd h (by omega)
        | d + 1, h => exact match_l0 b hb l hl n r0 r1 rc r3 r4 rp r6 r7 hc hp hn d (i + 1) (by omega)
    · rw [if_neg hi]
      exact match_j3 b hb l n i r0 r1 rc r3 r4 rp r6 r7
theorem match_j0 (b : List Int) (hb : b.length ≤ 1048576) : laws_FnMatches.J0 b false = some true := by
  obtain ⟨r0, r1, rc, r3, r4, rp, r6, r7, l, e, hc, hp, hl⟩ := drawCandidates_is b hb
  have hc' : rc.length ≤ 4194304 := by omega
  have hp' : rp.length ≤ 4194304 := by omega
  have hlen := candidates_len r0 r1 rc r3 r4 rp r6 r7 l
  have hasc := candidates_asc r0 r1 rc r3 r4 rp r6 r7 l
  have hbest := best_is r0 r1 rc r3 r4 rp r6 r7 l
  rw [laws_FnMatches.J0_eq, if_neg (by decide), e, Option.bind_some]
  dsimp only
  rw [impl_Candidates_is r0 r1 rc r3 r4 rp r6 r7 l hc' hp' (by omega), Option.bind_some, impl_BestOf_is r0 r1 rc r3 r4 rp r6 r7 l hc' hp' (by omega), Option.bind_some]
  rw [ascends_is _ (by omega) hasc, Option.bind_some, if_pos rfl]
  generalize candidates r0 r1 rc r3 r4 rp r6 r7 l = C at *
  generalize bestOf r0 r1 rc r3 r4 rp r6 r7 l = B at *
  have hL : (B ≠ 0 → ∃ j : Nat, j < l.length ∧ idxF42 (fun x => x.f0.f0 == B) l 0 = (j : Int) ∧ ∀ z ∈ l, score r0 r1 rc r3 r4 rp r6 r7 z.f0.f0 z.f0.f1 z.f0.f2 z.f0.f3 z.f0.f4 z.f1 z.f2 z.f3 ≤ score r0 r1 rc r3 r4 rp r6 r7 (rd_T42 l (j : Int)).f0.f0 (rd_T42 l (j : Int)).f0.f1 (rd_T42 l (j : Int)).f0.f2 (rd_T42 l (j : Int)).f0.f3 (rd_T42 l (j : Int)).f0.f4 (rd_T42 l (j : Int)).f1 (rd_T42 l (j : Int)).f2 (rd_T42 l (j : Int)).f3) → laws_FnMatches.J1 b l B false r0 r1 rc r3 r4 rp r6 r7 = some true := fun hB => by
    rw [laws_FnMatches.J1_eq, if_neg (by decide)]
    exact match_l0 b hb l hl B r0 r1 rc r3 r4 rp r6 r7 hc' hp' hB l.length 0 (by omega)
  rcases hbest with ⟨h1, h2⟩ | ⟨h1, h2, h3⟩
  · subst h1
    subst h2
    rw [if_neg (by decide), if_pos rfl]
    exact hL (fun h => absurd rfl h)
  · have hC : ¬ (C.length : Int) = 0 := fun h => by
      have : C = [] := List.eq_nil_of_length_eq_zero (by omega)
      rw [this] at h2
      cases h2
    have hcond : ¬ ((B == 0) != ((C.length : Int) == 0)) = true := by
      rw [beq_eq_false_iff_ne.2 h1, beq_eq_false_iff_ne.2 hC]
      decide
    rw [if_neg hcond, if_neg h1, contains_yes C B (by omega) h2, Option.bind_some]
    exact hL (fun _ => h3)
theorem law_FnMatches (l0 : List Int) (hm0 : l0.length ≤ maxLen) (hw0 : ∀ y ∈ l0, (fun n : Int => (Lit.int .u8 n).wf = true) y) : laws_FnMatches.F l0 = some true := by
  rw [laws_FnMatches.F_eq, big_is, Option.bind_some]
  by_cases h : (l0.length : Int) > 1048576
  · rw [decide_eq_true h, if_pos rfl]
  · have hb : l0.length ≤ 1048576 := by omega
    have hJ := match_j0 l0 hb
    obtain ⟨r0, r1, rc, r3, r4, rp, r6, r7, f0, f1, f2, f3, f4, f5, f6, f7, e, hc, hp⟩ := drawCanBe_is l0 hb
    have hc' : rc.length ≤ 4194304 := by omega
    have hp' : rp.length ≤ 4194304 := by omega
    have hpos := score_pos r0 r1 rc r3 r4 rp r6 r7 f0 f1 f2 f3 f4 f5 f6 f7
    have hle := score_le r0 r1 rc r3 r4 rp r6 r7 f0 f1 f2 f3 f4 f5 f6 f7
    have hwhy := canBe_why r0 r1 rc r3 r4 rp r6 r7 f0 f1 f2 f3 f4 f5 f6 f7
    rw [decide_eq_false h, if_neg (by decide), e, Option.bind_some]
    dsimp only
    rw [impl_WhyNot_is r0 r1 rc r3 r4 rp r6 r7 f0 f1 f2 f3 f4 f5 f6 f7 hc' hp', Option.bind_some, impl_Score_is r0 r1 rc r3 r4 rp r6 r7 f0 f1 f2 f3 f4 f5 f6 f7 hc' hp', Option.bind_some, impl_CanBe_is r0 r1 rc r3 r4 rp r6 r7 f0 f1 f2 f3 f4 f5 f6 f7 hc' hp', Option.bind_some]
    rw [hwhy, hpos, bne_self_eq_false, if_neg (by decide), if_neg (by decide), decide_eq_false (show ¬ score r0 r1 rc r3 r4 rp r6 r7 f0 f1 f2 f3 f4 f5 f6 f7 > 5 by omega)]
    exact hJ

theorem FnMatches (l0 : List Int) (hm0 : l0.length ≤ maxLen) (hw0 : ∀ y ∈ l0, (fun n : Int => (Lit.int .u8 n).wf = true) y) : ∃ k, laws_FnMatches.f k l0 = some true :=
  (laws_FnMatches.F_co l0).rounds (law_FnMatches l0 hm0 hw0)
end Go.Proofs.Ytmammjfomgfjhaa.PFnMatches.Pure
