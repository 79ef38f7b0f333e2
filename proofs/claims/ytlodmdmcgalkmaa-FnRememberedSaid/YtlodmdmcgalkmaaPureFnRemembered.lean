/-
  The law FnRemembered answers true for every input. It has no conditions.
-/
import Derived.Test.YtlodmdmcgalkmaaShFnRemembered
import Derived.Test.YtlodmdmcgalkmaaEqFnRemembered
import Derived.Test.YtlodmdmcgalkmaaBase
set_option linter.unusedVariables false
set_option linter.unusedSimpArgs false
namespace Go.Proofs.Ytlodmdmcgalkmaa.PFnRemembered.Pure
open Go.RowKit Go.Proofs.YtlodmdmcgalkmaaW.PrintWords Go.Proofs.YtlodmdmcgalkmaaW.PrintLast Go.Proofs.YtlodmdmcgalkmaaW.PrintMore Go.Proofs.Ytlodmdmcgalkmaa.PFnRemembered Go.Proofs.Ytlodmdmcgalkmaa.Lim Go.Proofs.Ytlodmdmcgalkmaa.Base
set_option maxRecDepth 100000

theorem big_is (l : List Int) : laws_big.f l = some (decide ((l.length : Int) > 1048576)) := rfl

def CO (b : List Int) (i : Int) : Prop := 0 ≤ i ∧ i ≤ (b.length : Int) ∧ b.length ≤ 1048576
theorem and255 (x : Int) : 0 ≤ Go.bits .and .i64 x 255 ∧ Go.bits .and .i64 x 255 ≤ 255 := by
  have h : (BitVec.ofInt 64 255).toNat = 255 := by decide
  have h2 : (BitVec.ofInt 64 x &&& BitVec.ofInt 64 255).toNat ≤ 255 := by
    rw [BitVec.toNat_and, h]
    exact Nat.and_le_right
  show 0 ≤ IntKind.i64.wrap ((BitVec.ofInt 64 x &&& BitVec.ofInt 64 255).toNat : Int) ∧ IntKind.i64.wrap ((BitVec.ofInt 64 x &&& BitVec.ofInt 64 255).toNat : Int) ≤ 255
  rw [IntKind.wrap_i64]
  omega
theorem l1Byte_is (b : List Int) (i h : Int) (c : CO b i) : ∃ r i' h', spec_l1Byte.f b i h = some (r, i', h') ∧ 0 ≤ r ∧ r ≤ 255 ∧ CO b i' := by
  obtain ⟨c0, c1, c2⟩ := c
  unfold spec_l1Byte.f
  by_cases hi : i < (b.length : Int)
  · rw [if_pos hi, if_pos c0]
    refine ⟨_, _, _, rfl, (and255 _).1, (and255 _).2, ?_⟩
    rw [wrap_in _ (by omega)]
    exact ⟨by omega, by omega, c2⟩
  · rw [if_neg hi]
    exact ⟨_, _, _, rfl, (and255 _).1, (and255 _).2, c0, c1, c2⟩
theorem l1Below_is (b : List Int) (i h n : Int) (c : CO b i) (hn : n ≤ 10000000) : ∃ r i' h', spec_l1Below.f b i h n = some (r, i', h') ∧ 0 ≤ r ∧ (0 < n → r < n) ∧ (n ≤ 0 → r = 0) ∧ CO b i' := by
  unfold spec_l1Below.f
  by_cases h0 : n ≤ 0
  · rw [if_pos h0]
    exact ⟨0, i, h, rfl, by omega, fun _ => by omega, fun _ => rfl, c⟩
  · rw [if_neg h0]
    by_cases h1 : n ≤ 256
    · obtain ⟨r, i', h', e, r0, r1, c'⟩ := l1Byte_is b i h c
      rw [if_pos h1, e, Option.bind_some, if_neg (by omega), Int.tmod_eq_emod_of_nonneg r0]
      exact ⟨_, _, _, rfl, Int.emod_nonneg _ (by omega), fun _ => Int.emod_lt_of_pos _ (by omega), fun _ => by omega, c'⟩
    · obtain ⟨r, i', h', e, r0, r1, c'⟩ := l1Byte_is b i h c
      obtain ⟨s, i2, h2, e2, s0, s1, c2⟩ := l1Byte_is b i' h' c'
      obtain ⟨t, i3, h3, e3, t0, t1, c3⟩ := l1Byte_is b i2 h2 c2
      rw [if_neg h1, e, Option.bind_some]
      dsimp only
      rw [e2, Option.bind_some]
      dsimp only
      rw [e3, Option.bind_some, if_neg (by omega)]
      dsimp only
      rw [wrap_in (r * 65536) (by omega), wrap_in (s * 256) (by omega), wrap_in (r * 65536 + s * 256) (by omega), wrap_in (r * 65536 + s * 256 + t) (by omega), Int.tmod_eq_emod_of_nonneg (by omega)]
      exact ⟨_, _, _, rfl, Int.emod_nonneg _ (by omega), fun _ => Int.emod_lt_of_pos _ (by omega), fun _ => by omega, c3⟩
theorem below_pos (b : List Int) (i h n : Int) (c : CO b i) (h0 : 0 < n) (hn : n ≤ 10000000) : ∃ r i' h', spec_l1Below.f b i h n = some (r, i', h') ∧ 0 ≤ r ∧ r < n ∧ CO b i' := by
  obtain ⟨r, i', h', e, r0, r1, _, c'⟩ := l1Below_is b i h n c hn
  exact ⟨r, i', h', e, r0, r1 h0, c'⟩
theorem l1New_l0 (b : List Int) (hb : b.length ≤ 1048576) : ∀ (d i : Nat) (h : Int), i + d = b.length → ∃ h', spec_l1New.L0 b h (i : Int) = some (b, 0, h')
  | 0, i, h, hd => ⟨h, by rw [spec_l1New.L0_eq, if_neg (by omega)]⟩
  | d + 1, i, h, hd => by
    rw [spec_l1New.L0_eq, if_pos (by omega), if_pos (show (0 : Int) ≤ (i : Int) by omega), wrap_succ i (by omega)]
    by_cases h4 : (i : Int) < 4000
    · rw [if_pos h4]
      exact l1New_l0 b hb d (i + 1) _ (by omega)
    · rw [if_neg h4]
      exact ⟨h, rfl⟩
theorem l1New_is (b : List Int) (hb : b.length ≤ 1048576) : ∃ h', spec_l1New.F b = some (b, 0, h') ∧ CO b 0 := by
  obtain ⟨h', e⟩ := l1New_l0 b hb b.length 0 (wrap64 (193017 + (b.length : Int))) (by omega)
  exact ⟨h', by rw [spec_l1New.F_eq]; exact e, by unfold CO; omega⟩

theorem rdInt_at (l : List Int) (i : Nat) : rd l (i : Int) = l.getD i 0 := by simp [rd]
theorem dropInt (l : List Int) (i : Nat) (h : i < l.length) : l.drop i = rd l (i : Int) :: l.drop (i + 1) := by
  rw [rdInt_at, getD_get l i _ h]
  exact List.drop_eq_getElem_cons h

theorem l1Int_is (b : List Int) (i h : Int) (l : List Int) (c : CO b i) (h0 : 0 < l.length) (hn : l.length ≤ 1000) : ∃ r i' h', spec_l1Int.f b i h l = some (r, i', h') ∧ r ∈ l ∧ CO b i' := by
  obtain ⟨r, i', h', e, r0, r1, c'⟩ := below_pos b i h (l.length : Int) c (by omega) (by omega)
  unfold spec_l1Int.f
  rw [e, Option.bind_some]
  dsimp only
  rw [if_pos r0, if_pos r1]
  obtain ⟨j, rfl⟩ : ∃ j : Nat, r = j := ⟨r.toNat, by omega⟩
  refine ⟨_, _, _, rfl, ?_, c'⟩
  rw [show rd l (j : Int) = l[j]'(by omega) by simp [rd, show j < l.length by omega]]
  exact List.getElem_mem _

theorem l4Raw_is (b : List Int) (i h : Int) (c : CO b i) : ∃ r i' h', spec_l4Raw.f b i h = some (r, i', h') ∧ r ∈ ([-1, 0, 8, 50, 51, 1000, 9223372036854775807, -9223372036854775808] : List Int) ∧ CO b i' := by
  obtain ⟨r, i', h', e, hm, c'⟩ := l1Int_is b i h [-1, 0, 8, 50, 51, 1000, 9223372036854775807, -9223372036854775808] c (by decide) (by decide)
  unfold spec_l4Raw.f
  rw [e, Option.bind_some]
  exact ⟨r, i', h', rfl, hm, c'⟩

theorem l4Draw_is (b : List Int) (i h id : Int) (c : CO b i) : ∃ x1 x2 x3 x4 i' h', spec_l4Draw.f b i h id = some (id, x1, x2, x3, x4, i', h') ∧ CO b i' := by
  obtain ⟨r1, i1, h1, e1, _, _, c1⟩ := below_pos b i h 8 c (by omega) (by omega)
  obtain ⟨r2, i2, h2, e2, _, _, c2⟩ := below_pos b i1 h1 8 c1 (by omega) (by omega)
  obtain ⟨r3, i3, h3, e3, _, _, c3⟩ := below_pos b i2 h2 20 c2 (by omega) (by omega)
  obtain ⟨r4, i4, h4, e4, _, _, c4⟩ := below_pos b i3 h3 500 c3 (by omega) (by omega)
  unfold spec_l4Draw.f
  rw [e1, Option.bind_some]
  dsimp only
  rw [e2, Option.bind_some]
  dsimp only
  rw [e3, Option.bind_some]
  dsimp only
  rw [e4, Option.bind_some]
  exact ⟨_, _, _, _, i4, h4, rfl, c4⟩
theorem l4Any_is (b : List Int) (i h : Int) (c : CO b i) : ∃ x0 x1 x2 x3 x4 i' h', spec_l4Any.f b i h = some (x0, x1, x2, x3, x4, i', h') ∧ CO b i' := by
  obtain ⟨r, i1, h1, e1, _, _, c1⟩ := below_pos b i h 40 c (by omega) (by omega)
  obtain ⟨x1, x2, x3, x4, i2, h2, e2, c2⟩ := l4Draw_is b i1 h1 (wrap64 (1 + r)) c1
  obtain ⟨s, i3, h3, e3, _, _, c3⟩ := below_pos b i2 h2 14 c2 (by omega) (by omega)
  unfold spec_l4Any.f
  rw [e1, Option.bind_some]
  dsimp only
  rw [e2, Option.bind_some]
  dsimp only
  rw [e3, Option.bind_some]
  dsimp only
  by_cases s0 : s = 0
  · obtain ⟨v, i4, h4, e4, _, c4⟩ := l1Int_is b i3 h3 [0, 999, 1000] c3 (by decide) (by decide)
    rw [if_pos s0, e4, Option.bind_some]
    exact ⟨_, _, _, _, _, i4, h4, rfl, c4⟩
  rw [if_neg s0]
  by_cases s1 : s = 1
  · obtain ⟨v, i4, h4, e4, _, c4⟩ := l1Int_is b i3 h3 [0, 8, 9] c3 (by decide) (by decide)
    rw [if_pos s1, e4, Option.bind_some]
    exact ⟨_, _, _, _, _, i4, h4, rfl, c4⟩
  rw [if_neg s1]
  by_cases s2 : s = 2
  · obtain ⟨v, i4, h4, e4, _, c4⟩ := l1Int_is b i3 h3 [-1, 7, 8] c3 (by decide) (by decide)
    rw [if_pos s2, e4, Option.bind_some]
    exact ⟨_, _, _, _, _, i4, h4, rfl, c4⟩
  rw [if_neg s2]
  by_cases s3 : s = 3
  · obtain ⟨v, i4, h4, e4, _, c4⟩ := l4Raw_is b i3 h3 c3
    rw [if_pos s3, e4, Option.bind_some]
    exact ⟨_, _, _, _, _, i4, h4, rfl, c4⟩
  rw [if_neg s3]
  by_cases s4 : s = 4
  · obtain ⟨v, i4, h4, e4, _, c4⟩ := l1Int_is b i3 h3 [-1, 10000000, 10000001] c3 (by decide) (by decide)
    rw [if_pos s4, e4, Option.bind_some]
    exact ⟨_, _, _, _, _, i4, h4, rfl, c4⟩
  · rw [if_neg s4]
    exact ⟨_, _, _, _, _, i3, h3, rfl, c3⟩

theorem l1Once_is (b : List Int) (i h n : Int) (c : CO b i) (h0 : 0 < n) (hn : n ≤ 10000000) : ∃ r i' h', spec_l1Once.f b i h n = some (r, i', h') ∧ CO b i' := by
  obtain ⟨r, i', h', e, r0, r1, c'⟩ := below_pos b i h n c h0 hn
  unfold spec_l1Once.f
  rw [e, Option.bind_some]
  exact ⟨_, i', h', rfl, c'⟩

theorem l6Draw_is (b : List Int) (i h id : Int) (c : CO b i) : ∃ x1 x2 x3 x4 x5 x6 x7 i' h', spec_l6Draw.f b i h id = some (id, x1, x2, x3, x4, x5, x6, x7, i', h') ∧ CO b i' := by
  obtain ⟨x1, x2, x3, x4, i1, h1, e1, c1⟩ := l4Draw_is b i h id c
  obtain ⟨r2, i2, h2, e2, _, _, c2⟩ := below_pos b i1 h1 6 c1 (by omega) (by omega)
  obtain ⟨r3, i3, h3, e3, _, _, c3⟩ := below_pos b i2 h2 80 c2 (by omega) (by omega)
  obtain ⟨r4, i4, h4, e4, _, _, c4⟩ := below_pos b i3 h3 5 c3 (by omega) (by omega)
  unfold spec_l6Draw.f
  rw [e1, Option.bind_some]
  dsimp only
  rw [e2, Option.bind_some]
  dsimp only
  rw [e3, Option.bind_some]
  dsimp only
  rw [e4, Option.bind_some]
  exact ⟨_, _, _, _, _, _, _, i4, h4, rfl, c4⟩
theorem l6List_l0 (b : List Int) : ∀ (d : Nat) (l : List S27) (x i h : Int), CO b i → 1 ≤ x → x + d = 8 → l.length + d ≤ 1000 → ∃ l' i' h', spec_l6List.L0 l x b i h = some (l', i', h') ∧ CO b i' ∧ l'.length ≤ 1000
  | 0, l, x, i, h, c, h0, hx, hl => by
    obtain ⟨r, i1, h1, e1, r0, r1, c1⟩ := below_pos b i h 8 c (by omega) (by omega)
    rw [spec_l6List.L0_eq, e1, Option.bind_some]
    dsimp only
    rw [if_neg (by omega)]
    exact ⟨l, i1, h1, rfl, c1, by omega⟩
  | d + 1, l, x, i, h, c, h0, hx, hl => by
    obtain ⟨r, i1, h1, e1, r0, r1, c1⟩ := below_pos b i h 8 c (by omega) (by omega)
    rw [spec_l6List.L0_eq, e1, Option.bind_some]
    dsimp only
    by_cases c2 : x ≤ r
    · obtain ⟨x1, x2, x3, x4, x5, x6, x7, i2, h2, e2, c3⟩ := l6Draw_is b i1 h1 (wrap64 (2 * x)) c1
      rw [if_pos c2, e2, Option.bind_some]
      dsimp only
      rw [if_pos (by omega), show wrap64 (x + 1) = x + 1 from wrap_in _ (by omega)]
      exact l6List_l0 b d _ (x + 1) i2 h2 c3 (by omega) (by omega) (by rw [List.length_append, List.length_singleton]; omega)
    · rw [if_neg c2]
      exact ⟨l, i1, h1, rfl, c1, by omega⟩
theorem l6List_is (b : List Int) (i h : Int) (c : CO b i) : ∃ l' i' h', spec_l6List.F b i h = some (l', i', h') ∧ CO b i' ∧ l'.length ≤ 1000 := by
  rw [spec_l6List.F_eq]
  exact l6List_l0 b 7 [] 1 i h c (by omega) (by omega) (by simp)
theorem l6Any_is (b : List Int) (i h : Int) (c : CO b i) : ∃ l' i' h', spec_l6Any.F b i h = some (l', i', h') ∧ CO b i' ∧ l'.length ≤ 1000 := by
  obtain ⟨l, i1, h1, e1, c1, hl⟩ := l6List_is b i h c
  rw [spec_l6Any.F_eq, e1, Option.bind_some]
  dsimp only
  by_cases l0 : (l.length : Int) = 0
  · rw [if_pos l0]
    exact ⟨l, i1, h1, rfl, c1, hl⟩
  obtain ⟨r, i2, h2, e2, r0, r1, c2⟩ := below_pos b i1 h1 (l.length : Int) c1 (by omega) (by omega)
  obtain ⟨s, i3, h3, e3, _, _, c3⟩ := below_pos b i2 h2 12 c2 (by omega) (by omega)
  rw [if_neg l0, e2, Option.bind_some]
  dsimp only
  rw [e3, Option.bind_some]
  dsimp only
  by_cases s0 : s = 0
  · obtain ⟨y0, y1, y2, y3, y4, i4, h4, e4, c4⟩ := l4Any_is b i3 h3 c3
    rw [if_pos s0, e4, Option.bind_some]
    dsimp only
    rw [if_pos r0, if_pos r1]
    exact ⟨_, i4, h4, rfl, c4, by rw [List.length_set]; exact hl⟩
  rw [if_neg s0]
  by_cases s1 : s = 1
  · obtain ⟨v, i4, h4, e4, _, c4⟩ := l1Int_is b i3 h3 [0, 30, 31] c3 (by decide) (by decide)
    rw [if_pos s1, e4, Option.bind_some]
    dsimp only
    rw [if_pos r0, if_pos r1]
    exact ⟨_, i4, h4, rfl, c4, by rw [List.length_set]; exact hl⟩
  rw [if_neg s1]
  by_cases s2 : s = 2
  · obtain ⟨v, i4, h4, e4, _, c4⟩ := l4Raw_is b i3 h3 c3
    rw [if_pos s2, e4, Option.bind_some]
    dsimp only
    rw [if_pos r0, if_pos r1]
    exact ⟨_, i4, h4, rfl, c4, by rw [List.length_set]; exact hl⟩
  rw [if_neg s2]
  by_cases s3 : s = 3
  · obtain ⟨v, i4, h4, e4, _, c4⟩ := l1Int_is b i3 h3 [-1, 999, 1000] c3 (by decide) (by decide)
    rw [if_pos s3, e4, Option.bind_some]
    dsimp only
    rw [if_pos r0, if_pos r1]
    exact ⟨_, i4, h4, rfl, c4, by rw [List.length_set]; exact hl⟩
  · rw [if_neg s3]
    exact ⟨l, i3, h3, rfl, c3, hl⟩
theorem l6One_is (b : List Int) (i h : Int) (c : CO b i) : ∃ x0 x1 x2 x3 x4 x5 x6 x7 i' h', spec_l6One.F b i h = some (x0, x1, x2, x3, x4, x5, x6, x7, i', h') ∧ CO b i' := by
  obtain ⟨l, i1, h1, e1, c1, hl⟩ := l6Any_is b i h c
  rw [spec_l6One.F_eq, e1, Option.bind_some]
  dsimp only
  by_cases l0 : (l.length : Int) = 0
  · rw [if_pos l0]
    exact ⟨_, _, _, _, _, _, _, _, i1, h1, rfl, c1⟩
  · rw [if_neg l0, if_pos (by omega)]
    exact ⟨_, _, _, _, _, _, _, _, i1, h1, rfl, c1⟩

theorem l5Draw_is (b : List Int) (i h : Int) (c : CO b i) : ∃ x0 x1 i' h', spec_l5Draw.f b i h = some (x0, x1, i', h') ∧ CO b i' := by
  obtain ⟨r1, i1, h1, e1, _, _, c1⟩ := below_pos b i h 60 c (by omega) (by omega)
  obtain ⟨r2, i2, h2, e2, _, _, c2⟩ := below_pos b i1 h1 30 c1 (by omega) (by omega)
  unfold spec_l5Draw.f
  rw [e1, Option.bind_some]
  dsimp only
  rw [e2, Option.bind_some]
  exact ⟨_, _, i2, h2, rfl, c2⟩
theorem l5Any_is (b : List Int) (i h : Int) (c : CO b i) : ∃ x0 x1 i' h', spec_l5Any.f b i h = some (x0, x1, i', h') ∧ CO b i' := by
  obtain ⟨x0, x1, i1, h1, e1, c1⟩ := l5Draw_is b i h c
  obtain ⟨r2, i2, h2, e2, _, _, c2⟩ := below_pos b i1 h1 10 c1 (by omega) (by omega)
  unfold spec_l5Any.f
  rw [e1, Option.bind_some]
  dsimp only
  rw [e2, Option.bind_some]
  dsimp only
  by_cases s0 : r2 = 0
  · obtain ⟨v, i3, h3, e3, _, c3⟩ := l4Raw_is b i2 h2 c2
    rw [if_pos s0, e3, Option.bind_some]
    exact ⟨_, _, i3, h3, rfl, c3⟩
  · rw [if_neg s0]
    by_cases s1 : r2 = 1
    · obtain ⟨v, i3, h3, e3, _, c3⟩ := l1Int_is b i2 h2 [-1, 0, 100000, 100001] c2 (by decide) (by decide)
      rw [if_pos s1, e3, Option.bind_some]
      exact ⟨_, _, i3, h3, rfl, c3⟩
    · rw [if_neg s1]
      exact ⟨_, _, i2, h2, rfl, c2⟩

theorem l7Some_l0 (b : List Int) (hi q : Int) (hq : 0 < q ∧ q ≤ 1000) (hh : hi ≤ 1000) : ∀ (d : Nat) (l : List Int) (x i h : Int), CO b i → 0 ≤ x → x + d = hi + 1 → l.length + d ≤ 1000 → ∃ l' i' h', spec_l7Some.L0 hi q l x b i h = some (l', i', h') ∧ CO b i' ∧ l'.length ≤ 1000
  | 0, l, x, i, h, c, h0, hx, hl => ⟨l, i, h, by rw [spec_l7Some.L0_eq, if_neg (by omega)], c, by omega⟩
  | d + 1, l, x, i, h, c, h0, hx, hl => by
    obtain ⟨r, i1, h1, e1, c1⟩ := l1Once_is b i h q c (by omega) (by omega)
    rw [spec_l7Some.L0_eq, if_pos (by omega), e1, Option.bind_some]
    dsimp only
    rw [show wrap64 (x + 1) = x + 1 from wrap_in _ (by omega)]
    by_cases c2 : r = true
    · rw [if_pos c2, if_pos (by omega)]
      exact l7Some_l0 b hi q hq hh d _ (x + 1) i1 h1 c1 (by omega) (by omega) (by rw [List.length_append, List.length_singleton]; omega)
    · rw [if_neg c2]
      exact l7Some_l0 b hi q hq hh d l (x + 1) i1 h1 c1 (by omega) (by omega) (by omega)
theorem l7Some_is (b : List Int) (i h lo hi q : Int) (c : CO b i) (hq : 0 < q ∧ q ≤ 1000) (hlo : 0 ≤ lo) (hlh : lo ≤ hi) (hh : hi ≤ 900) : ∃ l' i' h', spec_l7Some.F b i h lo hi q = some (l', i', h') ∧ CO b i' ∧ l'.length ≤ 1000 := by
  rw [spec_l7Some.F_eq]
  exact l7Some_l0 b hi q hq (by omega) (hi + 1 - lo).toNat [] lo i h c hlo (by omega) (by simp only [List.length_nil]; omega)
theorem l7Draw_is (b : List Int) (i h n : Int) (c : CO b i) : ∃ r1 rc r3 r4 rp r6 r7 i' h', spec_l7Draw.F b i h n = some (n, r1, rc, r3, r4, rp, r6, r7, i', h') ∧ CO b i' ∧ rc.length ≤ 1000 ∧ rp.length ≤ 1000 := by
  obtain ⟨x1, i1, h1, e1, _, _, c1⟩ := below_pos b i h 12 c (by omega) (by omega)
  obtain ⟨x2, i2, h2, e2, _, _, c2⟩ := below_pos b i1 h1 8 c1 (by omega) (by omega)
  obtain ⟨rc, i3, h3, e3, c3, hc⟩ := l7Some_is b i2 h2 0 7 3 c2 (by omega) (by omega) (by omega) (by omega)
  obtain ⟨x4, i4, h4, e4, _, _, c4⟩ := below_pos b i3 h3 15 c3 (by omega) (by omega)
  obtain ⟨rp, i5, h5, e5, c5, hp⟩ := l7Some_is b i4 h4 1 6 2 c4 (by omega) (by omega) (by omega) (by omega)
  obtain ⟨s0, s1, i6, h6, e6, c6⟩ := l5Draw_is b i5 h5 c5
  rw [spec_l7Draw.F_eq, e1, Option.bind_some]
  dsimp only
  rw [e2, Option.bind_some]
  dsimp only
  rw [e3, Option.bind_some]
  dsimp only
  rw [e4, Option.bind_some]
  dsimp only
  rw [e5, Option.bind_some]
  dsimp only
  rw [e6, Option.bind_some]
  exact ⟨_, rc, _, _, rp, _, _, i6, h6, rfl, c6, hc, hp⟩
theorem l7Any_is (b : List Int) (i h : Int) (c : CO b i) : ∃ r0 r1 rc r3 r4 rp r6 r7 i' h', spec_l7Any.F b i h = some (r0, r1, rc, r3, r4, rp, r6, r7, i', h') ∧ CO b i' ∧ rc.length ≤ 1000 ∧ rp.length ≤ 1000 := by
  obtain ⟨n, i1, h1, e1, _, _, c1⟩ := below_pos b i h 9 c (by omega) (by omega)
  obtain ⟨r1, rc, r3, r4, rp, r6, r7, i2, h2, e2, c2, hc, hp⟩ := l7Draw_is b i1 h1 (wrap64 (1 + n)) c1
  obtain ⟨s, i3, h3, e3, _, _, c3⟩ := below_pos b i2 h2 14 c2 (by omega) (by omega)
  rw [spec_l7Any.F_eq, e1, Option.bind_some]
  dsimp only
  rw [e2, Option.bind_some]
  dsimp only
  rw [e3, Option.bind_some]
  dsimp only
  by_cases s0 : s = 0
  · obtain ⟨v, i4, h4, e4, _, c4⟩ := l1Int_is b i3 h3 [0, 999, 1000] c3 (by decide) (by decide)
    rw [if_pos s0, e4, Option.bind_some]
    exact ⟨_, _, _, _, _, _, _, _, i4, h4, rfl, c4, hc, hp⟩
  rw [if_neg s0]
  by_cases s1 : s = 1
  · obtain ⟨v, i4, h4, e4, _, c4⟩ := l1Int_is b i3 h3 [0, 8, 9] c3 (by decide) (by decide)
    rw [if_pos s1, e4, Option.bind_some]
    exact ⟨_, _, _, _, _, _, _, _, i4, h4, rfl, c4, hc, hp⟩
  rw [if_neg s1]
  by_cases s2 : s = 2
  · obtain ⟨v, i4, h4, e4, _, c4⟩ := l1Int_is b i3 h3 [-1, 3, 8] c3 (by decide) (by decide)
    rw [if_pos s2, e4, Option.bind_some]
    exact ⟨_, _, _, _, _, _, _, _, i4, h4, rfl, c4, by simp, hp⟩
  rw [if_neg s2]
  by_cases s3 : s = 3
  · obtain ⟨v, i4, h4, e4, _, c4⟩ := l4Raw_is b i3 h3 c3
    rw [if_pos s3, e4, Option.bind_some]
    exact ⟨_, _, _, _, _, _, _, _, i4, h4, rfl, c4, hc, hp⟩
  rw [if_neg s3]
  by_cases s4 : s = 4
  · obtain ⟨v, i4, h4, e4, _, c4⟩ := l4Raw_is b i3 h3 c3
    rw [if_pos s4, e4, Option.bind_some]
    exact ⟨_, _, _, _, _, _, _, _, i4, h4, rfl, c4, hc, hp⟩
  rw [if_neg s4]
  by_cases s5 : s = 5
  · obtain ⟨v, i4, h4, e4, _, c4⟩ := l1Int_is b i3 h3 [0, 30, 31] c3 (by decide) (by decide)
    rw [if_pos s5, e4, Option.bind_some]
    exact ⟨_, _, _, _, _, _, _, _, i4, h4, rfl, c4, hc, by simp⟩
  rw [if_neg s5]
  by_cases s6 : s = 6
  · obtain ⟨v0, v1, i4, h4, e4, c4⟩ := l5Any_is b i3 h3 c3
    rw [if_pos s6, e4, Option.bind_some]
    exact ⟨_, _, _, _, _, _, _, _, i4, h4, rfl, c4, hc, hp⟩
  rw [if_neg s6]
  by_cases s7 : s = 7
  · rw [if_pos s7]
    exact ⟨_, _, _, _, _, _, _, _, i3, h3, rfl, c3, by simp, by simp⟩
  · rw [if_neg s7]
    exact ⟨_, _, _, _, _, _, _, _, i3, h3, rfl, c3, hc, hp⟩

theorem l9Draw_is (b : List Int) (i h : Int) (c : CO b i) : ∃ dc ds dp dh i' h', spec_l9Draw.F b i h = some (dc, ds, dp, dh, i', h') ∧ CO b i' ∧ dc.length ≤ 1000 ∧ dp.length ≤ 1000 := by
  obtain ⟨dc, i1, h1, e1, c1, n1⟩ := l7Some_is b i h 0 7 4 c (by omega) (by omega) (by omega) (by omega)
  obtain ⟨ds, i2, h2, e2, _, _, c2⟩ := below_pos b i1 h1 6 c1 (by omega) (by omega)
  obtain ⟨dp, i3, h3, e3, c3, n3⟩ := l7Some_is b i2 h2 1 8 3 c2 (by omega) (by omega) (by omega) (by omega)
  obtain ⟨dh, i4, h4, e4, _, _, c4⟩ := below_pos b i3 h3 50 c3 (by omega) (by omega)
  rw [spec_l9Draw.F_eq]
  rw [e1, Option.bind_some]
  dsimp only
  rw [e2, Option.bind_some]
  dsimp only
  rw [e3, Option.bind_some]
  dsimp only
  rw [e4, Option.bind_some]
  dsimp only
  exact ⟨dc, ds, dp, dh, i4, h4, rfl, c4, n1, n3⟩
theorem l9Any_is (b : List Int) (i h : Int) (c : CO b i) : ∃ dc ds dp dh i' h', spec_l9Any.F b i h = some (dc, ds, dp, dh, i', h') ∧ CO b i' ∧ dc.length ≤ 1000 ∧ dp.length ≤ 1000 := by
  obtain ⟨dc, ds, dp, dh, i1, h1, e1, c1, n1, n2⟩ := l9Draw_is b i h c
  obtain ⟨r, i2, h2, e2, _, _, c2⟩ := below_pos b i1 h1 12 c1 (by omega) (by omega)
  rw [spec_l9Any.F_eq]
  rw [e1, Option.bind_some]
  dsimp only
  rw [e2, Option.bind_some]
  dsimp only
  by_cases r0 : r = 0
  · rw [if_pos r0]
    exact ⟨_, _, _, _, i2, h2, rfl, c2, by simp, n2⟩
  rw [if_neg r0]
  by_cases r1 : r = 1
  · obtain ⟨v, i3, h3, e3, _, c3⟩ := l1Int_is b i2 h2 [-1, 50, 51] c2 (by decide) (by decide)
    rw [if_pos r1, e3, Option.bind_some]
    exact ⟨_, _, _, _, i3, h3, rfl, c3, n1, n2⟩
  rw [if_neg r1]
  by_cases r2 : r = 2
  · rw [if_pos r2]
    exact ⟨_, _, _, _, i2, h2, rfl, c2, n1, by simp⟩
  rw [if_neg r2]
  by_cases r3 : r = 3
  · obtain ⟨v, i3, h3, e3, _, c3⟩ := l1Int_is b i2 h2 [-1, 1000, 1001] c2 (by decide) (by decide)
    rw [if_pos r3, e3, Option.bind_some]
    exact ⟨_, _, _, _, i3, h3, rfl, c3, n1, n2⟩
  rw [if_neg r3]
  exact ⟨_, _, _, _, i2, h2, rfl, c2, n1, n2⟩
theorem drawRemember_is (b : List Int) (hb : b.length ≤ 1048576) : ∃ f0 f1 f2 f3 f4 f5 f6 f7 dc ds dp dh id, spec_DrawRemember.F b = some (f0, f1, f2, f3, f4, f5, f6, f7, dc, ds, dp, dh, id) ∧ dc.length ≤ 1000 ∧ dp.length ≤ 1000 := by
  obtain ⟨h0, e1, c0⟩ := l1New_is b hb
  obtain ⟨f0, f1, f2, f3, f4, f5, f6, f7, i1, h1, e2, c1⟩ := l6One_is b 0 h0 c0
  obtain ⟨dc, ds, dp, dh, i2, h2, e3, c2, n1, n2⟩ := l9Any_is b i1 h1 c1
  obtain ⟨v, i3, h3, e4, _, c3⟩ := l1Int_is b i2 h2 [1, 5, 999, 1000, 0] c2 (by decide) (by decide)
  rw [spec_DrawRemember.F_eq]
  rw [e1, Option.bind_some]
  dsimp only
  rw [e2, Option.bind_some]
  dsimp only
  rw [e3, Option.bind_some]
  dsimp only
  rw [e4, Option.bind_some]
  dsimp only
  exact ⟨_, _, _, _, _, _, _, _, _, _, _, _, _, rfl, n1, n2⟩
theorem drawJoinDoubts_is (b : List Int) (hb : b.length ≤ 1048576) : ∃ a0 a1 a2 a3 b0 b1 b2 b3, spec_DrawJoinDoubts.F b = some (a0, a1, a2, a3, b0, b1, b2, b3) ∧ a0.length ≤ 1000 ∧ a2.length ≤ 1000 ∧ b0.length ≤ 1000 ∧ b2.length ≤ 1000 := by
  obtain ⟨h0, e1, c0⟩ := l1New_is b hb
  obtain ⟨a0, a1, a2, a3, i1, h1, e2, c1, n1, n2⟩ := l9Any_is b 0 h0 c0
  obtain ⟨b0, b1, b2, b3, i2, h2, e3, c2, n3, n4⟩ := l9Any_is b i1 h1 c1
  rw [spec_DrawJoinDoubts.F_eq]
  rw [e1, Option.bind_some]
  dsimp only
  rw [e2, Option.bind_some]
  dsimp only
  rw [e3, Option.bind_some]
  dsimp only
  exact ⟨_, _, _, _, _, _, _, _, rfl, n1, n2, n3, n4⟩
theorem report_q (r0 r1 : Int) (rc : List Int) (r3 r4 : Int) (rp : List Int) (r6 r7 : Int) (hc : rc.length ≤ 1000) (hp : rp.length ≤ 1000) : spec_l7Report.f r0 r1 rc r3 r4 rp r6 r7 = some (r0, r1, rc, r3, r4, rp, r6, r7) := by
  unfold spec_l7Report.f
  rw [Option.bind_some, if_pos (by simp only [List.length_nil]; omega), Option.bind_some, if_pos (by simp only [List.length_nil]; omega), List.nil_append, List.nil_append]
theorem drawIsWider_is (b : List Int) (hb : b.length ≤ 1048576) : ∃ u0 u1 u2 u3 u4 u5 u6 u7 v0 v1 v2 v3 v4 v5 v6 v7, spec_DrawIsWider.F b = some (u0, u1, u2, u3, u4, u5, u6, u7, v0, v1, v2, v3, v4, v5, v6, v7) ∧ u2.length ≤ 1000 ∧ u5.length ≤ 1000 ∧ v2.length ≤ 1000 ∧ v5.length ≤ 1000 := by
  obtain ⟨h0, e1, c0⟩ := l1New_is b hb
  obtain ⟨x0, x1, xc, x3, x4, xp, x6, x7, i1, h1, e2, c1, n1, n2⟩ := l7Any_is b 0 h0 c0
  have e3 := report_q x0 x1 xc x3 x4 xp x6 x7 n1 n2
  obtain ⟨r, i2, h2, e4, _, _, c2⟩ := below_pos b i1 h1 5 c1 (by omega) (by omega)
  rw [spec_DrawIsWider.F_eq]
  rw [e1, Option.bind_some]
  dsimp only
  rw [e2, Option.bind_some]
  dsimp only
  rw [e3, Option.bind_some]
  dsimp only
  rw [e4, Option.bind_some]
  dsimp only
  by_cases r0 : r = 0
  · rw [if_pos r0]
    exact ⟨_, _, _, _, _, _, _, _, _, _, _, _, _, _, _, _, rfl, by simp, n2, n1, n2⟩
  rw [if_neg r0]
  by_cases r1 : r = 1
  · rw [if_pos r1]
    exact ⟨_, _, _, _, _, _, _, _, _, _, _, _, _, _, _, _, rfl, n1, by simp, n1, n2⟩
  rw [if_neg r1]
  by_cases r2 : r = 2
  · rw [if_pos r2]
    exact ⟨_, _, _, _, _, _, _, _, _, _, _, _, _, _, _, _, rfl, n1, n2, n1, n2⟩
  rw [if_neg r2]
  by_cases r3 : r = 3
  · obtain ⟨y0, y1, yc, y3, y4, yp, y6, y7, i3, h3, e5, c3, n3, n4⟩ := l7Any_is b i2 h2 c2
    rw [if_pos r3, e5, Option.bind_some]
    exact ⟨_, _, _, _, _, _, _, _, _, _, _, _, _, _, _, _, rfl, n3, n4, n1, n2⟩
  rw [if_neg r3]
  exact ⟨_, _, _, _, _, _, _, _, _, _, _, _, _, _, _, _, rfl, n1, n2, n1, n2⟩
theorem drawSharpen_is (b : List Int) (hb : b.length ≤ 1048576) : ∃ u0 u1 u2 u3 u4 u5 u6 u7 v0 v1 v2 v3 v4 v5 v6 v7, spec_DrawSharpen.F b = some (u0, u1, u2, u3, u4, u5, u6, u7, v0, v1, v2, v3, v4, v5, v6, v7) ∧ u2.length ≤ 1000 ∧ u5.length ≤ 1000 ∧ v2.length ≤ 1000 ∧ v5.length ≤ 1000 := by
  obtain ⟨u0, u1, u2, u3, u4, u5, u6, u7, v0, v1, v2, v3, v4, v5, v6, v7, e1, n1, n2, n3, n4⟩ := drawIsWider_is b hb
  obtain ⟨h0, e2, c0⟩ := l1New_is b hb
  obtain ⟨r, i1, h1, e3, c1⟩ := l1Once_is b 0 h0 2 c0 (by omega) (by omega)
  rw [spec_DrawSharpen.F_eq]
  rw [e1, Option.bind_some]
  dsimp only
  rw [e2, Option.bind_some]
  dsimp only
  rw [e3, Option.bind_some]
  dsimp only
  split
  · obtain ⟨y0, y1, yc, y3, y4, yp, y6, y7, i3, h3, e5, c3, n5, n6⟩ := l7Any_is b i1 h1 c1
    rw [e5, Option.bind_some]
    exact ⟨_, _, _, _, _, _, _, _, _, _, _, _, _, _, _, _, rfl, n1, n2, n5, n6⟩
  · exact ⟨_, _, _, _, _, _, _, _, _, _, _, _, _, _, _, _, rfl, n1, n2, n3, n4⟩
theorem drawAreFinds_is (b : List Int) (hb : b.length ≤ 1048576) : ∃ l, spec_DrawAreFinds.F b = some l ∧ l.length ≤ 1000 := by
  obtain ⟨h0, e1, c0⟩ := l1New_is b hb
  obtain ⟨l, i1, h1, e2, c1, n1⟩ := l6Any_is b 0 h0 c0
  rw [spec_DrawAreFinds.F_eq]
  rw [e1, Option.bind_some]
  dsimp only
  rw [e2, Option.bind_some]
  dsimp only
  exact ⟨l, rfl, n1⟩

def okAsc (a b : Int) (l : List Int) (i : Nat) : Prop := inR (rd l i) a b = true ∧ ((i : Int) > 0 → rd l ((i : Int) - 1) < rd l i)
noncomputable def isAsc (l : List Int) (a b : Int) : Bool := allF (okAsc a b l) l.length 0

noncomputable def isReport (r0 r1 : Int) (rc : List Int) (r3 r4 : Int) (rp : List Int) (r6 r7 : Int) : Bool := inR r0 1 999 && inR r1 1 8 && isAsc rc 0 7 && decide (1 ≤ r3) && decide (r3 ≤ r4) && decide (r4 ≤ 50) && isAsc rp 1 30 && decide ((rp.length : Int) ≤ 10) && (inR r6 0 100000 && inR r7 0 100000 && decide (r6 ≤ r7))
noncomputable def isFind (f0 f1 f2 f3 f4 f5 f6 f7 : Int) : Bool := (inR f0 1 999 && inR f1 1 8 && inR f2 0 7 && inR f3 1 50 && inR f4 0 10000000) && inR f5 1 30 && inR f6 0 100000 && inR f7 0 999

def allow (l : List Int) (n : Int) : Bool := decide (l.length = 0) || decide (n ∈ l)

noncomputable def whyNot (r0 r1 : Int) (rc : List Int) (r3 r4 : Int) (rp : List Int) (r6 r7 f0 f1 f2 f3 f4 f5 f6 f7 : Int) : ByteArray :=
  if ¬ (isReport r0 r1 rc r3 r4 rp r6 r7 = true ∧ isFind f0 f1 f2 f3 f4 f5 f6 f7 = true) then ⟨#[105, 110, 118, 97, 108, 105, 100]⟩
  else if ¬ r1 = f1 then ⟨#[107, 105, 110, 100]⟩
  else if ¬ allow rc f2 = true then ⟨#[99, 111, 108, 111, 117, 114]⟩
  else if ¬ inR f3 r3 r4 = true then ⟨#[115, 105, 122, 101]⟩
  else if ¬ allow rp f5 = true then ⟨#[112, 108, 97, 99, 101]⟩
  else if f6 < r6 then ⟨#[116, 105, 109, 101]⟩ else ⟨#[]⟩
noncomputable def canBe (r0 r1 : Int) (rc : List Int) (r3 r4 : Int) (rp : List Int) (r6 r7 f0 f1 f2 f3 f4 f5 f6 f7 : Int) : Bool := isReport r0 r1 rc r3 r4 rp r6 r7 && isFind f0 f1 f2 f3 f4 f5 f6 f7 && decide (r1 = f1) && allow rc f2 && inR f3 r3 r4 && allow rp f5 && decide (r6 ≤ f6)
theorem canBe_why (r0 r1 : Int) (rc : List Int) (r3 r4 : Int) (rp : List Int) (r6 r7 f0 f1 f2 f3 f4 f5 f6 f7 : Int) : ((whyNot r0 r1 rc r3 r4 rp r6 r7 f0 f1 f2 f3 f4 f5 f6 f7).toList == ([] : List UInt8)) = canBe r0 r1 rc r3 r4 rp r6 r7 f0 f1 f2 f3 f4 f5 f6 f7 := by
  unfold whyNot canBe
  by_cases h1 : isReport r0 r1 rc r3 r4 rp r6 r7 = true
  · by_cases h2 : isFind f0 f1 f2 f3 f4 f5 f6 f7 = true
    · rw [h1, h2]
      simp only [and_self, not_true_eq_false, if_false, Bool.true_and]
      by_cases h3 : r1 = f1
      · simp only [h3, not_true_eq_false, if_false, decide_true, Bool.true_and]
        cases allow rc f2
        · first | (simp; done) | (simp; decide +kernel)
        · cases inR f3 r3 r4
          · first | (simp; done) | (simp; decide +kernel)
          · cases allow rp f5
            · first | (simp; done) | (simp; decide +kernel)
            · by_cases h4 : f6 < r6
              · simp only [h4, not_true_eq_false, if_false, if_true, Bool.true_and, decide_eq_false (show ¬ r6 ≤ f6 by omega)]
                decide +kernel
              · simp only [h4, not_true_eq_false, if_false, Bool.true_and, decide_eq_true (show r6 ≤ f6 by omega)]
                decide +kernel
      · simp only [h3, not_false_eq_true, if_true, decide_false, Bool.false_and]
        decide +kernel
    · rw [Bool.eq_false_iff.2 h2]
      simp only [Bool.false_eq_true, and_false, not_false_eq_true, if_true, Bool.and_false, Bool.false_and]
      decide +kernel
  · rw [Bool.eq_false_iff.2 h1]
    simp only [Bool.false_eq_true, false_and, not_false_eq_true, if_true, Bool.false_and]
    decide +kernel

def Asc (l : List Int) : Prop := l.Pairwise (fun x y => x < y)
theorem asc_ext : ∀ (a b : List Int), Asc a → Asc b → (∀ x, x ∈ a ↔ x ∈ b) → a = b
  | [], [], _, _, _ => rfl
  | [], y :: b, _, _, h => by have := (h y).2 (List.mem_cons_self ..); cases this
  | x :: a, [], _, _, h => by have := (h x).1 (List.mem_cons_self ..); cases this
  | x :: a, y :: b, ha, hb, h => by
    have ha' := List.pairwise_cons.1 ha
    have hb' := List.pairwise_cons.1 hb
    have e : x = y := by
      rcases List.mem_cons.1 ((h x).1 (List.mem_cons_self ..)) with h1 | h1
      · exact h1
      · rcases List.mem_cons.1 ((h y).2 (List.mem_cons_self ..)) with h2 | h2
        · exact h2.symm
        · have := hb'.1 x h1
          have := ha'.1 y h2
          omega
    subst e
    congr 1
    refine asc_ext a b ha'.2 hb'.2 (fun z => ⟨fun hz => ?_, fun hz => ?_⟩)
    · rcases List.mem_cons.1 ((h z).1 (List.mem_cons_of_mem _ hz)) with h1 | h1
      · have := ha'.1 z hz; omega
      · exact h1
    · rcases List.mem_cons.1 ((h z).2 (List.mem_cons_of_mem _ hz)) with h1 | h1
      · have := hb'.1 z hz; omega
      · exact h1
def putA : List Int → Int → List Int
  | [], n => [n]
  | x :: r, n => if x < n then x :: putA r n else if x = n then x :: r else n :: x :: r
theorem putA_mem (n z : Int) : ∀ l : List Int, z ∈ putA l n ↔ z = n ∨ z ∈ l
  | [] => by simp [putA]
  | x :: r => by
    simp only [putA]
    by_cases h1 : x < n
    · rw [if_pos h1, List.mem_cons, putA_mem n z r, List.mem_cons]
      exact ⟨fun h => by rcases h with h | h | h <;> simp [h], fun h => by rcases h with h | h | h <;> simp [h]⟩
    · rw [if_neg h1]
      by_cases h2 : x = n
      · rw [if_pos h2, List.mem_cons]
        refine ⟨fun h => .inr h, fun h => ?_⟩
        rcases h with h | h
        · exact .inl (by omega)
        · exact h
      · rw [if_neg h2, List.mem_cons]
theorem putA_asc (n : Int) : ∀ l : List Int, Asc l → Asc (putA l n)
  | [], _ => List.pairwise_singleton _ _
  | x :: r, h => by
    have h' := List.pairwise_cons.1 h
    simp only [putA]
    by_cases h1 : x < n
    · rw [if_pos h1]
      refine List.pairwise_cons.2 ⟨fun z hz => ?_, putA_asc n r h'.2⟩
      rcases (putA_mem n z r).1 hz with e | e
      · omega
      · exact h'.1 z e
    · rw [if_neg h1]
      by_cases h2 : x = n
      · rw [if_pos h2]; exact h
      · rw [if_neg h2]
        refine List.pairwise_cons.2 ⟨fun z hz => ?_, h⟩
        rcases List.mem_cons.1 hz with e | e
        · omega
        · have := h'.1 z e; omega
theorem sortedA_mem (l : List Int) (z : Int) : z ∈ Srt.sorted l ↔ z ∈ l := (List.mergeSort_perm l _).mem_iff
theorem sortedA_pw (l : List Int) : (Srt.sorted l).Pairwise (fun x y => x ≤ y) := by
  have h := List.pairwise_mergeSort (le := fun x y : Int => decide (x ≤ y)) (fun a b c h1 h2 => by simp only [decide_eq_true_eq] at *; omega) (fun a b => by simp only [Bool.or_eq_true, decide_eq_true_eq]; omega) l
  exact h.imp (fun h => by simpa using h)
theorem get_le {l : List Int} (h : l.Pairwise (fun x y => x ≤ y)) {i j : Nat} (hij : i ≤ j) (hj : j < l.length) : l.toArray[i]! ≤ l.toArray[j]! := by
  rcases Nat.lt_or_eq_of_le hij with hlt | rfl
  · have := List.pairwise_iff_getElem.1 h i j (by omega) hj hlt
    simpa [show i < l.length by omega, hj] using this
  · exact Int.le_refl _
theorem compact_asc {l : List Int} (h : l.Pairwise (fun x y => x ≤ y)) : Asc (Go.Lib.compact l) := by
  unfold Asc Go.Lib.compact Go.Lib.compactUpTo
  rw [List.pairwise_map]
  refine List.Pairwise.imp_of_mem ?_ (List.Pairwise.filter _ List.pairwise_lt_range)
  intro i j hi hj hij
  rw [List.mem_filter, List.mem_range] at hi hj
  have hk := hj.2
  unfold Go.Lib.keeps at hk
  rw [decide_eq_true_iff] at hk
  have hne := hk.resolve_left (by omega)
  have h1 := get_le h (show i ≤ j - 1 by omega) (by omega)
  have h2 := get_le h (show j - 1 ≤ j by omega) hj.1
  omega
theorem compact_mem (l : List Int) (z : Int) : z ∈ Go.Lib.compact l ↔ z ∈ l := by
  unfold Go.Lib.compact Go.Lib.compactUpTo
  rw [List.mem_map]
  constructor
  · rintro ⟨j, hj, rfl⟩
    rw [List.mem_filter, List.mem_range] at hj
    simp [hj.1]
  · intro hz
    obtain ⟨i, hi, rfl⟩ := List.getElem_of_mem hz
    have key : ∀ (n i : Nat), i ≤ n → (hi : i < l.length) → ∃ j, j ∈ (List.range l.length).filter (Go.Lib.keeps l.toArray) ∧ l.toArray[j]! = l[i] := by
      intro n
      induction n with
      | zero =>
        intro i hin hi
        have e : i = 0 := by omega
        subst e
        exact ⟨0, by rw [List.mem_filter, List.mem_range]; exact ⟨hi, by simp [Go.Lib.keeps]⟩, by simp [hi]⟩
      | succ n ih =>
        intro i hin hi
        by_cases hk : Go.Lib.keeps l.toArray i = true
        · exact ⟨i, by rw [List.mem_filter, List.mem_range]; exact ⟨hi, hk⟩, by simp [hi]⟩
        · unfold Go.Lib.keeps at hk
          rw [decide_eq_true_iff, not_or] at hk
          have h2 : l.toArray[i]! = l.toArray[i - 1]! := Classical.byContradiction (fun hh => hk.2 hh)
          obtain ⟨j, hj, e⟩ := ih (i - 1) (by omega) (by omega)
          refine ⟨j, hj, e.trans ?_⟩
          simpa [hi, show i - 1 < l.length by omega] using h2.symm
    exact key i i (Nat.le_refl _) hi
theorem united_is {a b : List Int} (hb : Asc b) (h : ∀ z, z ∈ a ↔ z ∈ b) : Go.Lib.compact (Srt.sorted a) = b :=
  asc_ext _ _ (compact_asc (sortedA_pw a)) hb (fun z => by rw [compact_mem, sortedA_mem]; exact h z)

def fltL (a b : List Int) : List Int := a.filter (fun n => decide (n ∈ b))
def bothL (a b : List Int) : List Int × Bool := if a.length = 0 then (b, true) else if b.length = 0 then (a, true) else (fltL a b, decide (((fltL a b).length : Int) > 0))
theorem fltL_len (a b : List Int) : (fltL a b).length ≤ a.length := List.length_filter_le _ _
theorem asc_less {l : List Int} {a b : Int} (h : isAsc l a b = true) (i : Nat) : ∀ j : Nat, i < j → j < l.length → rd l (i : Int) < rd l (j : Int)
  | 0, h1, _ => absurd h1 (Nat.not_lt_zero _)
  | j + 1, h1, h2 => by
    have h0 := h
    unfold isAsc at h0
    rw [allF_all] at h0
    have h3 := (h0 (j + 1) h2).2 (by omega)
    rw [show ((j + 1 : Nat) : Int) - 1 = (j : Int) by omega] at h3
    by_cases e : i = j
    · rw [e]; exact h3
    · have := asc_less h i j (by omega) (by omega)
      omega
theorem asc_of {l : List Int} {a b : Int} (h : isAsc l a b = true) : Asc l := by
  unfold Asc
  rw [List.pairwise_iff_getElem]
  intro i j hi hj hij
  have := asc_less h i j hij hj
  rw [rdInt_at, rdInt_at, getD_get l i _ hi, getD_get l j _ hj] at this
  exact this
def joinL (a b : List Int) : List Int := Go.Lib.compact (Srt.sorted (a ++ b))
theorem compactL_len (l : List Int) : (Go.Lib.compact l).length ≤ l.length := Srt.compact_len l
theorem joinL_len (a b : List Int) : (joinL a b).length ≤ a.length + b.length := by
  have h := compactL_len (Srt.sorted (a ++ b))
  rw [Srt.sorted_len, List.length_append] at h
  exact h
theorem foldA_mem (z : Int) : ∀ (b a : List Int), z ∈ b.foldl putA a ↔ z ∈ a ∨ z ∈ b
  | [], a => by simp
  | y :: b, a => by
    rw [List.foldl_cons, foldA_mem z b (putA a y), putA_mem, List.mem_cons]
    exact ⟨fun h => by rcases h with (h | h) | h <;> simp [h], fun h => by rcases h with h | h | h <;> simp [h]⟩
theorem foldA_asc : ∀ (b a : List Int), Asc a → Asc (b.foldl putA a)
  | [], a, h => h
  | y :: b, a, h => foldA_asc b (putA a y) (putA_asc y a h)
theorem foldA_is (a b : List Int) (ha : Asc a) : b.foldl putA a = joinL a b := (united_is (foldA_asc b a ha) (fun z => by rw [foldA_mem, List.mem_append])).symm
theorem impl_united_is (a b : List Int) (h : a.length + b.length ≤ 4000000) : impl_united.f a b = some (joinL a b) := by
  unfold impl_united.f
  rw [if_pos h]
  rfl

noncomputable def isDoubt (c : List Int) (s : Int) (p : List Int) (h : Int) : Bool := isAsc c 0 7 && inR s 0 50 && isAsc p 1 30 && decide ((p.length : Int) ≤ 9) && inR h 0 1000

def maxI (a b : Int) : Int := if b > a then b else a
theorem spec_MaxI (a b : Int) : spec_Max.f a b = some (maxI a b) := by unfold spec_Max.f maxI; split <;> rfl
theorem mxI (a b : Int) : mx a b = maxI a b := by unfold mx maxI; first | rfl | (split <;> rfl)

def minI (a b : Int) : Int := if b < a then b else a
theorem spec_MinI (a b : Int) : spec_Min.f a b = some (minI a b) := by unfold spec_Min.f minI; split <;> rfl
theorem mnI (a b : Int) : mn a b = minI a b := by unfold mn minI; first | rfl | (split <;> rfl)

open Classical in
noncomputable def remR (f0 f1 f2 f3 f4 f5 f6 f7 : Int) (c : List Int) (s : Int) (p : List Int) (h id : Int) : Int × Int × List Int × Int × Int × List Int × Int × Int × Bool :=
  if isFind f0 f1 f2 f3 f4 f5 f6 f7 = true ∧ isDoubt c s p h = true ∧ isReport id f1 (joinL c [f2]) (maxI 1 (wrap64 (f3 - s))) (minI 50 (wrap64 (f3 + s))) (joinL p [f5]) (maxI 0 (wrap64 (f6 - h))) f6 = true then (id, f1, joinL c [f2], maxI 1 (wrap64 (f3 - s)), minI 50 (wrap64 (f3 + s)), joinL p [f5], maxI 0 (wrap64 (f6 - h)), f6, true) else (0, 0, [], 0, 0, [], 0, 0, false)
theorem remR_len (f0 f1 f2 f3 f4 f5 f6 f7 : Int) (c : List Int) (s : Int) (p : List Int) (h id : Int) : (remR f0 f1 f2 f3 f4 f5 f6 f7 c s p h id).2.2.1.length ≤ c.length + 1 ∧ (remR f0 f1 f2 f3 f4 f5 f6 f7 c s p h id).2.2.2.2.2.1.length ≤ p.length + 1 := by
  unfold remR
  split
  · exact ⟨joinL_len c [f2], joinL_len p [f5]⟩
  · exact ⟨Nat.zero_le _, Nat.zero_le _⟩

theorem asc_isS {l : List Int} {a b : Int} (h : Asc l) (hr : ∀ z ∈ l, inR z a b = true) : isAsc l a b = true := by
  unfold isAsc
  rw [allF_all]
  intro i hi
  have hp := List.pairwise_iff_getElem.1 h
  refine ⟨?_, fun h0 => ?_⟩
  · rw [rdInt_at, getD_get l i _ hi]
    exact hr _ (List.getElem_mem hi)
  · rw [show (i : Int) - 1 = ((i - 1 : Nat) : Int) by omega, rdInt_at, rdInt_at, getD_get l i _ hi, getD_get l (i - 1) _ (by omega)]
    exact hp (i - 1) i (by omega) hi (by omega)
theorem asc_rangeS {l : List Int} {a b : Int} (h : isAsc l a b = true) : ∀ z ∈ l, inR z a b = true := by
  intro z hz
  obtain ⟨q, hq, e⟩ := List.getElem_of_mem hz
  unfold isAsc at h
  rw [allF_all] at h
  have := (h q hq).1
  rw [rdInt_at, getD_get l q _ hq, e] at this
  exact this
theorem both_ascS {l m : List Int} {a b : Int} (hl : isAsc l a b = true) (hm : isAsc m a b = true) : isAsc (bothL l m).1 a b = true := by
  unfold bothL
  split
  · exact hm
  · split
    · exact hl
    · exact asc_isS (List.Pairwise.filter _ (asc_of hl)) (fun z hz => asc_rangeS hl z (List.mem_filter.1 hz).1)
theorem both_lenS {l m : List Int} {n : Nat} (hl : l.length ≤ n) (hm : m.length ≤ n) : (bothL l m).1.length ≤ n := by
  have := fltL_len l m
  unfold bothL
  split
  · exact hm
  · split
    · exact hl
    · exact Nat.le_trans this hl
theorem sharp_rep (r0 r1 : Int) (rc : List Int) (r3 r4 : Int) (rp : List Int) (r6 r7 s0 s1 : Int) (sc : List Int) (s3 s4 : Int) (sp : List Int) (s6 s7 : Int) (ha : isReport r0 r1 rc r3 r4 rp r6 r7 = true) (hb : isReport s0 s1 sc s3 s4 sp s6 s7 = true) : isReport r0 r1 (bothL rc sc).1 (maxI r3 s3) (minI r4 s4) (bothL rp sp).1 (maxI r6 s6) (maxI (maxI r6 s6) (minI r7 s7)) = decide (maxI r3 s3 ≤ minI r4 s4) := by
  unfold isReport at *
  simp only [Bool.and_eq_true, decide_eq_true_eq, inR_iff] at ha hb
  obtain ⟨⟨⟨⟨⟨⟨⟨⟨a0, a1⟩, ac⟩, a3⟩, a34⟩, a4⟩, ap⟩, al⟩, ⟨⟨a6, a7⟩, a67⟩⟩ := ha
  obtain ⟨⟨⟨⟨⟨⟨⟨⟨b0, b1⟩, bc⟩, b3⟩, b34⟩, b4⟩, bp⟩, bl⟩, ⟨⟨b6, b7⟩, b67⟩⟩ := hb
  have e1 := both_ascS ac bc
  have e2 := both_ascS ap bp
  have e3 : (bothL rp sp).1.length ≤ 10 := both_lenS (by omega) (by omega)
  have h0 : inR r0 1 999 = true := inR_iff.2 a0
  have h1 : inR r1 1 8 = true := inR_iff.2 a1
  have h3 : decide (1 ≤ maxI r3 s3) = true := decide_eq_true (by unfold maxI; split <;> omega)
  have h4 : decide (minI r4 s4 ≤ 50) = true := decide_eq_true (by unfold minI; split <;> omega)
  have h5 : decide (((bothL rp sp).1.length : Int) ≤ 10) = true := decide_eq_true (by omega)
  have h6 : inR (maxI r6 s6) 0 100000 = true := inR_iff.2 (by unfold maxI; split <;> omega)
  have h7 : inR (maxI (maxI r6 s6) (minI r7 s7)) 0 100000 = true := inR_iff.2 (by unfold maxI minI; repeat' split <;> omega)
  have h8 : decide (maxI r6 s6 ≤ maxI (maxI r6 s6) (minI r7 s7)) = true := decide_eq_true (by generalize maxI r6 s6 = m; unfold maxI; split <;> omega)
  rw [h0, h1, e1, h3, h4, e2, h5, h6, h7, h8]
  simp
open Classical in
noncomputable def sharpR (r0 r1 : Int) (rc : List Int) (r3 r4 : Int) (rp : List Int) (r6 r7 s0 s1 : Int) (sc : List Int) (s3 s4 : Int) (sp : List Int) (s6 s7 : Int) : Int × Int × List Int × Int × Int × List Int × Int × Int × Bool :=
  if isReport r0 r1 rc r3 r4 rp r6 r7 = true ∧ isReport s0 s1 sc s3 s4 sp s6 s7 = true ∧ r1 = s1 ∧ (bothL rc sc).2 = true ∧ (bothL rp sp).2 = true ∧ maxI r3 s3 ≤ minI r4 s4 then (r0, r1, (bothL rc sc).1, maxI r3 s3, minI r4 s4, (bothL rp sp).1, maxI r6 s6, maxI (maxI r6 s6) (minI r7 s7), true) else (0, 0, [], 0, 0, [], 0, 0, false)
theorem sharpR_len (r0 r1 : Int) (rc : List Int) (r3 r4 : Int) (rp : List Int) (r6 r7 s0 s1 : Int) (sc : List Int) (s3 s4 : Int) (sp : List Int) (s6 s7 : Int) (n : Nat) (h1 : rc.length ≤ n) (h2 : rp.length ≤ n) (h3 : sc.length ≤ n) (h4 : sp.length ≤ n) : (sharpR r0 r1 rc r3 r4 rp r6 r7 s0 s1 sc s3 s4 sp s6 s7).2.2.1.length ≤ n ∧ (sharpR r0 r1 rc r3 r4 rp r6 r7 s0 s1 sc s3 s4 sp s6 s7).2.2.2.2.2.1.length ≤ n := by
  unfold sharpR
  split
  · exact ⟨both_lenS h1 h3, both_lenS h2 h4⟩
  · exact ⟨Nat.zero_le _, Nat.zero_le _⟩

theorem asc_short {l : List Int} {a b : Int} (h : isAsc l a b = true) (hb : b ≤ 30) (ha : 0 ≤ a) : l.length ≤ 31 := by
  have key : ∀ j : Nat, j < l.length → (j : Int) ≤ rd l (j : Int) := by
    intro j
    induction j with
    | zero =>
      intro hj
      have h0 := h
      unfold isAsc at h0
      rw [allF_all] at h0
      have := inR_iff.1 (h0 0 hj).1
      show ((0 : Nat) : Int) ≤ rd l ((0 : Nat) : Int)
      omega
    | succ j ih =>
      intro hj
      have := ih (by omega)
      have := asc_less h j (j + 1) (by omega) hj
      omega
  by_cases h2 : l.length ≤ 31
  · exact h2
  · have h3 := key 31 (by omega)
    have h0 := h
    unfold isAsc at h0
    rw [allF_all] at h0
    have := inR_iff.1 (h0 31 (by omega)).1
    have e : rd l ((31 : Nat) : Int) = rd l 31 := rfl
    omega
theorem doubt_asc {c : List Int} {s : Int} {p : List Int} {h : Int} (hd : isDoubt c s p h = true) : Asc c ∧ Asc p ∧ c.length ≤ 31 ∧ p.length ≤ 31 := by
  unfold isDoubt at hd
  simp only [Bool.and_eq_true] at hd
  exact ⟨asc_of hd.1.1.1.1, asc_of hd.1.1.2, asc_short hd.1.1.1.1 (by omega) (by omega), asc_short hd.1.1.2 (by omega) (by omega)⟩

open Classical in
noncomputable def joinD (c : List Int) (s : Int) (p : List Int) (h : Int) (c' : List Int) (s' : Int) (p' : List Int) (h' : Int) : List Int × Int × List Int × Int × Bool :=
  if isDoubt c s p h = true ∧ isDoubt c' s' p' h' = true ∧ isDoubt (joinL c c') (maxI s s') (joinL p p') (maxI h h') = true then (joinL c c', maxI s s', joinL p p', maxI h h', true) else ([], 0, [], 0, false)
theorem joinD_len (c : List Int) (s : Int) (p : List Int) (h : Int) (c' : List Int) (s' : Int) (p' : List Int) (h' : Int) : (joinD c s p h c' s' p' h').1.length ≤ c.length + c'.length ∧ (joinD c s p h c' s' p' h').2.2.1.length ≤ p.length + p'.length := by
  unfold joinD
  split
  · exact ⟨joinL_len c c', joinL_len p p'⟩
  · exact ⟨Nat.zero_le _, Nat.zero_le _⟩

def wider (a b : List Int) : Bool := decide (a.length = 0) || (decide (0 < b.length) && b.all (fun n => decide (n ∈ a)))
noncomputable def isWider (r0 r1 : Int) (rc : List Int) (r3 r4 : Int) (rp : List Int) (r6 r7 q0 q1 : Int) (qc : List Int) (q3 q4 : Int) (qp : List Int) (q6 q7 : Int) : Bool := isReport r0 r1 rc r3 r4 rp r6 r7 && isReport q0 q1 qc q3 q4 qp q6 q7 && decide (r1 = q1) && wider rc qc && decide (r3 ≤ q3) && decide (q4 ≤ r4) && wider rp qp && decide (r6 ≤ q6)

theorem joinL_mem (z : Int) (a b : List Int) (ha : Asc a) : z ∈ joinL a b ↔ z ∈ a ∨ z ∈ b := by rw [← foldA_is a b ha, foldA_mem]
theorem joinL_asc (a b : List Int) (ha : Asc a) : Asc (joinL a b) := by
  rw [← foldA_is a b ha]
  exact foldA_asc b a ha
theorem join_in {l : List Int} {x a b : Int} (hl : isAsc l a b = true) (hx : a ≤ x ∧ x ≤ b) : isAsc (joinL l [x]) a b = true :=
  asc_isS (joinL_asc l [x] (asc_of hl)) (fun z hz => by
    rcases (joinL_mem z l [x] (asc_of hl)).1 hz with h1 | h1
    · exact asc_rangeS hl z h1
    · rw [List.mem_singleton.1 h1]
      exact inR_iff.2 hx)
theorem join_last (l : List Int) (x : Int) (hl : Asc l) : x ∈ joinL l [x] := (joinL_mem x l [x] hl).2 (.inr (List.mem_singleton_self x))
theorem find_in (f0 f1 f2 f3 f4 f5 f6 f7 : Int) (hf : isFind f0 f1 f2 f3 f4 f5 f6 f7 = true) : (1 ≤ f1 ∧ f1 ≤ 8) ∧ (0 ≤ f2 ∧ f2 ≤ 7) ∧ (1 ≤ f3 ∧ f3 ≤ 50) ∧ (1 ≤ f5 ∧ f5 ≤ 30) ∧ 0 ≤ f6 ∧ f6 ≤ 100000 := by
  unfold isFind at hf
  simp only [Bool.and_eq_true, inR_iff] at hf
  obtain ⟨⟨⟨⟨⟨⟨⟨_, a1⟩, a2⟩, a3⟩, _⟩, a5⟩, a6⟩, _⟩ := hf
  exact ⟨a1, a2, a3, a5, a6⟩
theorem doubt_in (c : List Int) (s : Int) (p : List Int) (h : Int) (hd : isDoubt c s p h = true) : isAsc c 0 7 = true ∧ (0 ≤ s ∧ s ≤ 50) ∧ isAsc p 1 30 = true ∧ p.length ≤ 9 ∧ 0 ≤ h ∧ h ≤ 1000 := by
  unfold isDoubt at hd
  simp only [Bool.and_eq_true, decide_eq_true_eq, inR_iff] at hd
  obtain ⟨⟨⟨⟨dc, ds⟩, dp⟩, dl⟩, dh⟩ := hd
  exact ⟨dc, ds, dp, by omega, dh⟩
theorem rem_nums (f3 f6 s h : Int) (h3 : 1 ≤ f3 ∧ f3 ≤ 50) (h6 : 0 ≤ f6 ∧ f6 ≤ 100000) (hs : 0 ≤ s ∧ s ≤ 50) (hh : 0 ≤ h ∧ h ≤ 1000) : wrap64 (f3 - s) = f3 - s ∧ wrap64 (f3 + s) = f3 + s ∧ wrap64 (f6 - h) = f6 - h := ⟨wrap_in _ (by omega), wrap_in _ (by omega), wrap_in _ (by omega)⟩
theorem rem_rep (f0 f1 f2 f3 f4 f5 f6 f7 : Int) (c : List Int) (s : Int) (p : List Int) (h id : Int) (hf : isFind f0 f1 f2 f3 f4 f5 f6 f7 = true) (hd : isDoubt c s p h = true) : isReport id f1 (joinL c [f2]) (maxI 1 (wrap64 (f3 - s))) (minI 50 (wrap64 (f3 + s))) (joinL p [f5]) (maxI 0 (wrap64 (f6 - h))) f6 = (decide (1 ≤ id) && decide (id ≤ 999)) := by
  obtain ⟨a1, a2, a3, a5, a6⟩ := find_in f0 f1 f2 f3 f4 f5 f6 f7 hf
  obtain ⟨dc, ds, dp, dl, dh⟩ := doubt_in c s p h hd
  have e1 := join_in dc a2
  have e2 := join_in dp a5
  have e3 := joinL_len p [f5]
  rw [List.length_singleton] at e3
  have h1 : inR f1 1 8 = true := inR_iff.2 a1
  have h3 : decide (1 ≤ maxI 1 (f3 - s)) = true := decide_eq_true (by unfold maxI; split <;> omega)
  have h4 : decide (maxI 1 (f3 - s) ≤ minI 50 (f3 + s)) = true := decide_eq_true (by unfold maxI minI; split <;> split <;> omega)
  have h5 : decide (minI 50 (f3 + s) ≤ 50) = true := decide_eq_true (by unfold minI; split <;> omega)
  have h6 : decide (((joinL p [f5]).length : Int) ≤ 10) = true := decide_eq_true (by omega)
  have h7 : inR (maxI 0 (f6 - h)) 0 100000 = true := inR_iff.2 (by unfold maxI; split <;> omega)
  have h8 : inR f6 0 100000 = true := inR_iff.2 a6
  have h9 : decide (maxI 0 (f6 - h) ≤ f6) = true := decide_eq_true (by unfold maxI; split <;> omega)
  have h0 : inR id 1 999 = (decide (1 ≤ id) && decide (id ≤ 999)) := by unfold inR; exact Bool.decide_and _ _
  obtain ⟨w1, w2, w3⟩ := rem_nums f3 f6 s h a3 a6 ds dh
  unfold isReport
  rw [w1, w2, w3, h0, h1, e1, h3, h4, h5, e2, h6, h7, h8, h9]
  simp only [Bool.and_true]
theorem remR_ok (f0 f1 f2 f3 f4 f5 f6 f7 : Int) (c : List Int) (s : Int) (p : List Int) (h id : Int) : (remR f0 f1 f2 f3 f4 f5 f6 f7 c s p h id).2.2.2.2.2.2.2.2 = (isFind f0 f1 f2 f3 f4 f5 f6 f7 && (isDoubt c s p h && (decide (1 ≤ id) && decide (id ≤ 999)))) := by
  unfold remR
  by_cases hf : isFind f0 f1 f2 f3 f4 f5 f6 f7 = true
  · by_cases hd : isDoubt c s p h = true
    · have hr := rem_rep f0 f1 f2 f3 f4 f5 f6 f7 c s p h id hf hd
      by_cases hi : (decide (1 ≤ id) && decide (id ≤ 999)) = true
      · rw [if_pos ⟨hf, hd, hr.trans hi⟩, hf, hd, hi]
        rfl
      · rw [if_neg (fun hh => hi (hr.symm.trans hh.2.2)), hf, hd, Bool.eq_false_iff.2 hi]
        rfl
    · rw [if_neg (fun hh => hd hh.2.1), Bool.eq_false_iff.2 hd, Bool.false_and, Bool.and_false]
  · rw [if_neg (fun hh => hf hh.1), Bool.eq_false_iff.2 hf, Bool.false_and]
theorem remR_yes (f0 f1 f2 f3 f4 f5 f6 f7 : Int) (c : List Int) (s : Int) (p : List Int) (h id : Int) (hf : isFind f0 f1 f2 f3 f4 f5 f6 f7 = true) (hd : isDoubt c s p h = true) (h0 : 1 ≤ id) (h1 : id ≤ 999) : (remR f0 f1 f2 f3 f4 f5 f6 f7 c s p h id) = (id, f1, (joinL c [f2]), (maxI 1 (wrap64 (f3 - s))), (minI 50 (wrap64 (f3 + s))), (joinL p [f5]), (maxI 0 (wrap64 (f6 - h))), f6, true) ∧ isReport id f1 (joinL c [f2]) (maxI 1 (wrap64 (f3 - s))) (minI 50 (wrap64 (f3 + s))) (joinL p [f5]) (maxI 0 (wrap64 (f6 - h))) f6 = true := by
  have hr := rem_rep f0 f1 f2 f3 f4 f5 f6 f7 c s p h id hf hd
  rw [decide_eq_true h0, decide_eq_true h1, Bool.true_and] at hr
  unfold remR
  rw [if_pos ⟨hf, hd, hr⟩]
  exact ⟨rfl, hr⟩
theorem allow_of {l : List Int} {x : Int} (h : x ∈ l) : allow l x = true := by
  unfold allow
  rw [decide_eq_true h, Bool.or_true]
theorem remR_can (f0 f1 f2 f3 f4 f5 f6 f7 : Int) (c : List Int) (s : Int) (p : List Int) (h id : Int) (hk : (remR f0 f1 f2 f3 f4 f5 f6 f7 c s p h id).2.2.2.2.2.2.2.2 = true) : canBe (remR f0 f1 f2 f3 f4 f5 f6 f7 c s p h id).1 (remR f0 f1 f2 f3 f4 f5 f6 f7 c s p h id).2.1 (remR f0 f1 f2 f3 f4 f5 f6 f7 c s p h id).2.2.1 (remR f0 f1 f2 f3 f4 f5 f6 f7 c s p h id).2.2.2.1 (remR f0 f1 f2 f3 f4 f5 f6 f7 c s p h id).2.2.2.2.1 (remR f0 f1 f2 f3 f4 f5 f6 f7 c s p h id).2.2.2.2.2.1 (remR f0 f1 f2 f3 f4 f5 f6 f7 c s p h id).2.2.2.2.2.2.1 (remR f0 f1 f2 f3 f4 f5 f6 f7 c s p h id).2.2.2.2.2.2.2.1 f0 f1 f2 f3 f4 f5 f6 f7 = true := by
  rw [remR_ok] at hk
  simp only [Bool.and_eq_true, decide_eq_true_eq] at hk
  obtain ⟨hf, hd, h0, h1⟩ := hk
  obtain ⟨e, hr⟩ := remR_yes f0 f1 f2 f3 f4 f5 f6 f7 c s p h id hf hd h0 h1
  rw [e]
  dsimp only
  obtain ⟨a1, a2, a3, a5, a6⟩ := find_in f0 f1 f2 f3 f4 f5 f6 f7 hf
  obtain ⟨dc, ds, dp, dl, dh⟩ := doubt_in c s p h hd
  have g1 := allow_of (join_last c f2 (asc_of dc))
  have g2 := allow_of (join_last p f5 (asc_of dp))
  have g3 : inR f3 (maxI 1 (f3 - s)) (minI 50 (f3 + s)) = true := inR_iff.2 (by unfold maxI minI; split <;> split <;> omega)
  have g4 : decide (maxI 0 (f6 - h) ≤ f6) = true := decide_eq_true (by unfold maxI; split <;> omega)
  obtain ⟨w1, w2, w3⟩ := rem_nums f3 f6 s h a3 a6 ds dh
  unfold canBe
  rw [hr, hf, g1, g2, w1, w2, w3, g3, g4, decide_eq_true (rfl : f1 = f1)]
  rfl
theorem wider_of {a b : List Int} (h : 0 < b.length) (hs : ∀ z ∈ b, z ∈ a) : wider a b = true := by
  unfold wider
  rw [decide_eq_true h, Bool.true_and, List.all_eq_true.2 (fun z hz => decide_eq_true (hs z hz)), Bool.or_true]
theorem join_wider {a b : List Int} (x : Int) (ha : Asc a) : wider (joinL (joinL a b) [x]) (joinL a [x]) = true :=
  wider_of (List.length_pos_of_mem (join_last a x ha)) (fun z hz => (joinL_mem z _ [x] (joinL_asc a b ha)).2 (by
    rcases (joinL_mem z a [x] ha).1 hz with h | h
    · exact .inl ((joinL_mem z a b ha).2 (.inl h))
    · exact .inr h))
theorem rem_wider (f0 f1 f2 f3 f4 f5 f6 f7 : Int) (c : List Int) (s : Int) (p : List Int) (h : Int) (c' : List Int) (s' : Int) (p' : List Int) (h' id : Int) (hf : isFind f0 f1 f2 f3 f4 f5 f6 f7 = true) (h0 : 1 ≤ id) (h1 : id ≤ 999) (hj : (joinD c s p h c' s' p' h').2.2.2.2 = true) : (remR f0 f1 f2 f3 f4 f5 f6 f7 c s p h id).2.2.2.2.2.2.2.2 = true ∧ (remR f0 f1 f2 f3 f4 f5 f6 f7 (joinD c s p h c' s' p' h').1 (joinD c s p h c' s' p' h').2.1 (joinD c s p h c' s' p' h').2.2.1 (joinD c s p h c' s' p' h').2.2.2.1 id).2.2.2.2.2.2.2.2 = true ∧ isWider (remR f0 f1 f2 f3 f4 f5 f6 f7 (joinD c s p h c' s' p' h').1 (joinD c s p h c' s' p' h').2.1 (joinD c s p h c' s' p' h').2.2.1 (joinD c s p h c' s' p' h').2.2.2.1 id).1 (remR f0 f1 f2 f3 f4 f5 f6 f7 (joinD c s p h c' s' p' h').1 (joinD c s p h c' s' p' h').2.1 (joinD c s p h c' s' p' h').2.2.1 (joinD c s p h c' s' p' h').2.2.2.1 id).2.1 (remR f0 f1 f2 f3 f4 f5 f6 f7 (joinD c s p h c' s' p' h').1 (joinD c s p h c' s' p' h').2.1 (joinD c s p h c' s' p' h').2.2.1 (joinD c s p h c' s' p' h').2.2.2.1 id).2.2.1 (remR f0 f1 f2 f3 f4 f5 f6 f7 (joinD c s p h c' s' p' h').1 (joinD c s p h c' s' p' h').2.1 (joinD c s p h c' s' p' h').2.2.1 (joinD c s p h c' s' p' h').2.2.2.1 id).2.2.2.1 (remR f0 f1 f2 f3 f4 f5 f6 f7 (joinD c s p h c' s' p' h').1 (joinD c s p h c' s' p' h').2.1 (joinD c s p h c' s' p' h').2.2.1 (joinD c s p h c' s' p' h').2.2.2.1 id).2.2.2.2.1 (remR f0 f1 f2 f3 f4 f5 f6 f7 (joinD c s p h c' s' p' h').1 (joinD c s p h c' s' p' h').2.1 (joinD c s p h c' s' p' h').2.2.1 (joinD c s p h c' s' p' h').2.2.2.1 id).2.2.2.2.2.1 (remR f0 f1 f2 f3 f4 f5 f6 f7 (joinD c s p h c' s' p' h').1 (joinD c s p h c' s' p' h').2.1 (joinD c s p h c' s' p' h').2.2.1 (joinD c s p h c' s' p' h').2.2.2.1 id).2.2.2.2.2.2.1 (remR f0 f1 f2 f3 f4 f5 f6 f7 (joinD c s p h c' s' p' h').1 (joinD c s p h c' s' p' h').2.1 (joinD c s p h c' s' p' h').2.2.1 (joinD c s p h c' s' p' h').2.2.2.1 id).2.2.2.2.2.2.2.1 (remR f0 f1 f2 f3 f4 f5 f6 f7 c s p h id).1 (remR f0 f1 f2 f3 f4 f5 f6 f7 c s p h id).2.1 (remR f0 f1 f2 f3 f4 f5 f6 f7 c s p h id).2.2.1 (remR f0 f1 f2 f3 f4 f5 f6 f7 c s p h id).2.2.2.1 (remR f0 f1 f2 f3 f4 f5 f6 f7 c s p h id).2.2.2.2.1 (remR f0 f1 f2 f3 f4 f5 f6 f7 c s p h id).2.2.2.2.2.1 (remR f0 f1 f2 f3 f4 f5 f6 f7 c s p h id).2.2.2.2.2.2.1 (remR f0 f1 f2 f3 f4 f5 f6 f7 c s p h id).2.2.2.2.2.2.2.1 = true := by
  have hJ : (joinD c s p h c' s' p' h') = (joinL c c', maxI s s', joinL p p', maxI h h', true) ∧ isDoubt c s p h = true ∧ isDoubt c' s' p' h' = true ∧ isDoubt (joinL c c') (maxI s s') (joinL p p') (maxI h h') = true := by
    unfold joinD at hj ⊢
    by_cases hh : isDoubt c s p h = true ∧ isDoubt c' s' p' h' = true ∧ isDoubt (joinL c c') (maxI s s') (joinL p p') (maxI h h') = true
    · rw [if_pos hh]
      exact ⟨rfl, hh⟩
    · rw [if_neg hh] at hj
      cases hj
  obtain ⟨e, d1, _, d3⟩ := hJ
  rw [e]
  dsimp only
  obtain ⟨e1, r1⟩ := remR_yes f0 f1 f2 f3 f4 f5 f6 f7 c s p h id hf d1 h0 h1
  obtain ⟨e3, r3⟩ := remR_yes f0 f1 f2 f3 f4 f5 f6 f7 (joinL c c') (maxI s s') (joinL p p') (maxI h h') id hf d3 h0 h1
  rw [e1, e3]
  dsimp only
  refine ⟨rfl, rfl, ?_⟩
  obtain ⟨a1, a2, a3, a5, a6⟩ := find_in f0 f1 f2 f3 f4 f5 f6 f7 hf
  obtain ⟨dc, ds, dp, dl, dh⟩ := doubt_in c s p h d1
  obtain ⟨_, js, _, _, jh⟩ := doubt_in _ _ _ _ d3
  have g1 := @join_wider c c' f2 (asc_of dc)
  have g2 := @join_wider p p' f5 (asc_of dp)
  have m1 : s ≤ maxI s s' := by unfold maxI; split <;> omega
  have m2 : h ≤ maxI h h' := by unfold maxI; split <;> omega
  unfold isWider
  rw [r3, r1, g1, g2, decide_eq_true (rfl : f1 = f1)]
  generalize maxI s s' = ss at *
  generalize maxI h h' = hh at *
  have g3 : decide (maxI 1 (f3 - ss) ≤ maxI 1 (f3 - s)) = true := decide_eq_true (by unfold maxI; split <;> split <;> omega)
  have g4 : decide (minI 50 (f3 + s) ≤ minI 50 (f3 + ss)) = true := decide_eq_true (by unfold minI; split <;> split <;> omega)
  have g5 : decide (maxI 0 (f6 - hh) ≤ maxI 0 (f6 - h)) = true := decide_eq_true (by unfold maxI; split <;> split <;> omega)
  obtain ⟨w1, w2, w3⟩ := rem_nums f3 f6 s h a3 a6 ds dh
  obtain ⟨w4, w5, w6⟩ := rem_nums f3 f6 ss hh a3 a6 js jh
  rw [w1, w2, w3, w4, w5, w6, g3, g4, g5]
  rfl

theorem self_wider (a : List Int) : wider a a = true := by
  by_cases h : a.length = 0
  · unfold wider
    rw [decide_eq_true h, Bool.true_or]
  · exact wider_of (by omega) (fun z hz => hz)
theorem nil_wider {a : List Int} (b : List Int) (h : a.length = 0) : wider a b = true := by
  unfold wider
  rw [decide_eq_true h, Bool.true_or]
theorem nil_allow {a : List Int} (x : Int) (h : a.length = 0) : allow a x = true := by
  unfold allow
  rw [decide_eq_true h, Bool.true_or]
theorem both_wider {l m : List Int} (h : (bothL l m).2 = true) : wider l (bothL l m).1 = true ∧ wider m (bothL l m).1 = true := by
  unfold bothL at h ⊢
  by_cases h1 : l.length = 0
  · rw [if_pos h1]
    exact ⟨nil_wider _ h1, self_wider m⟩
  rw [if_neg h1] at h ⊢
  by_cases h2 : m.length = 0
  · rw [if_pos h2]
    exact ⟨self_wider l, nil_wider _ h2⟩
  rw [if_neg h2] at h ⊢
  have h3 : ((fltL l m).length : Int) > 0 := of_decide_eq_true h
  refine ⟨wider_of (show 0 < (fltL l m).length by omega) (fun z hz => (List.mem_filter.1 hz).1), wider_of (show 0 < (fltL l m).length by omega) (fun z hz => of_decide_eq_true (List.mem_filter.1 hz).2)⟩
theorem both_allow {l m : List Int} (x : Int) (h : (bothL l m).2 = true) : allow (bothL l m).1 x = (allow l x && allow m x) := by
  unfold bothL at h ⊢
  by_cases h1 : l.length = 0
  · rw [if_pos h1, nil_allow x h1, Bool.true_and]
  rw [if_neg h1] at h ⊢
  by_cases h2 : m.length = 0
  · rw [if_pos h2, nil_allow x h2, Bool.and_true]
  rw [if_neg h2] at h ⊢
  have h3 : ((fltL l m).length : Int) > 0 := of_decide_eq_true h
  unfold allow
  rw [decide_eq_false h1, decide_eq_false h2, decide_eq_false (show ¬ (fltL l m).length = 0 by omega), Bool.false_or, Bool.false_or, Bool.false_or, Bool.eq_iff_iff, Bool.and_eq_true, decide_eq_true_iff, decide_eq_true_iff, decide_eq_true_iff]
  exact ⟨fun hx => ⟨(List.mem_filter.1 hx).1, of_decide_eq_true (List.mem_filter.1 hx).2⟩, fun hx => List.mem_filter.2 ⟨hx.1, decide_eq_true hx.2⟩⟩
theorem both_some {l m : List Int} (x : Int) (hl : allow l x = true) (hm : allow m x = true) : (bothL l m).2 = true := by
  unfold allow at hl hm
  rw [Bool.or_eq_true, decide_eq_true_iff, decide_eq_true_iff] at hl hm
  unfold bothL
  by_cases h1 : l.length = 0
  · rw [if_pos h1]
  rw [if_neg h1]
  by_cases h2 : m.length = 0
  · rw [if_pos h2]
  rw [if_neg h2]
  have h3 := List.length_pos_of_mem (show x ∈ fltL l m from List.mem_filter.2 ⟨hl.resolve_left h1, decide_eq_true (hm.resolve_left h2)⟩)
  exact decide_eq_true (by omega)
theorem wider_allow {a b : List Int} {x : Int} (h : wider a b = true) (hx : allow b x = true) : allow a x = true := by
  unfold wider at h
  unfold allow at hx ⊢
  simp only [Bool.or_eq_true, Bool.and_eq_true, decide_eq_true_eq, List.all_eq_true] at h hx ⊢
  rcases h with h | ⟨h1, h2⟩
  · exact .inl h
  · rcases hx with hx | hx
    · omega
    · exact .inr (h2 x hx)
theorem can_parts (r0 r1 : Int) (rc : List Int) (r3 r4 : Int) (rp : List Int) (r6 r7 f0 f1 f2 f3 f4 f5 f6 f7 : Int) : canBe r0 r1 rc r3 r4 rp r6 r7 f0 f1 f2 f3 f4 f5 f6 f7 = true ↔ isReport r0 r1 rc r3 r4 rp r6 r7 = true ∧ isFind f0 f1 f2 f3 f4 f5 f6 f7 = true ∧ r1 = f1 ∧ allow rc f2 = true ∧ (r3 ≤ f3 ∧ f3 ≤ r4) ∧ allow rp f5 = true ∧ r6 ≤ f6 := by
  unfold canBe
  simp only [Bool.and_eq_true, decide_eq_true_eq, inR_iff]
  exact ⟨fun ⟨⟨⟨⟨⟨⟨a, b⟩, c⟩, d⟩, e⟩, f⟩, g⟩ => ⟨a, b, c, d, e, f, g⟩, fun ⟨a, b, c, d, e, f, g⟩ => ⟨⟨⟨⟨⟨⟨a, b⟩, c⟩, d⟩, e⟩, f⟩, g⟩⟩
theorem wider_can (r0 r1 : Int) (rc : List Int) (r3 r4 : Int) (rp : List Int) (r6 r7 s0 s1 : Int) (sc : List Int) (s3 s4 : Int) (sp : List Int) (s6 s7 f0 f1 f2 f3 f4 f5 f6 f7 : Int) (hw : isWider r0 r1 rc r3 r4 rp r6 r7 s0 s1 sc s3 s4 sp s6 s7 = true) (hs : canBe s0 s1 sc s3 s4 sp s6 s7 f0 f1 f2 f3 f4 f5 f6 f7 = true) : canBe r0 r1 rc r3 r4 rp r6 r7 f0 f1 f2 f3 f4 f5 f6 f7 = true := by
  rw [can_parts] at hs ⊢
  unfold isWider at hw
  simp only [Bool.and_eq_true, decide_eq_true_eq] at hw
  obtain ⟨⟨⟨⟨⟨⟨⟨a, _⟩, e⟩, wc⟩, h3⟩, h4⟩, wp⟩, h6⟩ := hw
  obtain ⟨_, hf, e2, ac, hn, ap, ht⟩ := hs
  exact ⟨a, hf, e.trans e2, wider_allow wc ac, by omega, wider_allow wp ap, by omega⟩
theorem sharp_yes (r0 r1 : Int) (rc : List Int) (r3 r4 : Int) (rp : List Int) (r6 r7 s0 s1 : Int) (sc : List Int) (s3 s4 : Int) (sp : List Int) (s6 s7 : Int) (hk : (sharpR r0 r1 rc r3 r4 rp r6 r7 s0 s1 sc s3 s4 sp s6 s7).2.2.2.2.2.2.2.2 = true) : (sharpR r0 r1 rc r3 r4 rp r6 r7 s0 s1 sc s3 s4 sp s6 s7) = (r0, r1, (bothL rc sc).1, (maxI r3 s3), (minI r4 s4), (bothL rp sp).1, (maxI r6 s6), (maxI (maxI r6 s6) (minI r7 s7)), true) ∧ isReport r0 r1 (bothL rc sc).1 (maxI r3 s3) (minI r4 s4) (bothL rp sp).1 (maxI r6 s6) (maxI (maxI r6 s6) (minI r7 s7)) = true ∧ isReport r0 r1 rc r3 r4 rp r6 r7 = true ∧ isReport s0 s1 sc s3 s4 sp s6 s7 = true ∧ r1 = s1 ∧ (bothL rc sc).2 = true ∧ (bothL rp sp).2 = true := by
  unfold sharpR at hk ⊢
  by_cases hh : isReport r0 r1 rc r3 r4 rp r6 r7 = true ∧ isReport s0 s1 sc s3 s4 sp s6 s7 = true ∧ r1 = s1 ∧ (bothL rc sc).2 = true ∧ (bothL rp sp).2 = true ∧ maxI r3 s3 ≤ minI r4 s4
  · rw [if_pos hh]
    exact ⟨rfl, (sharp_rep r0 r1 rc r3 r4 rp r6 r7 s0 s1 sc s3 s4 sp s6 s7 hh.1 hh.2.1).trans (decide_eq_true hh.2.2.2.2.2), hh.1, hh.2.1, hh.2.2.1, hh.2.2.2.1, hh.2.2.2.2.1⟩
  · rw [if_neg hh] at hk
    cases hk
theorem sharp_wider (r0 r1 : Int) (rc : List Int) (r3 r4 : Int) (rp : List Int) (r6 r7 s0 s1 : Int) (sc : List Int) (s3 s4 : Int) (sp : List Int) (s6 s7 : Int) (hk : (sharpR r0 r1 rc r3 r4 rp r6 r7 s0 s1 sc s3 s4 sp s6 s7).2.2.2.2.2.2.2.2 = true) : isWider r0 r1 rc r3 r4 rp r6 r7 (sharpR r0 r1 rc r3 r4 rp r6 r7 s0 s1 sc s3 s4 sp s6 s7).1 (sharpR r0 r1 rc r3 r4 rp r6 r7 s0 s1 sc s3 s4 sp s6 s7).2.1 (sharpR r0 r1 rc r3 r4 rp r6 r7 s0 s1 sc s3 s4 sp s6 s7).2.2.1 (sharpR r0 r1 rc r3 r4 rp r6 r7 s0 s1 sc s3 s4 sp s6 s7).2.2.2.1 (sharpR r0 r1 rc r3 r4 rp r6 r7 s0 s1 sc s3 s4 sp s6 s7).2.2.2.2.1 (sharpR r0 r1 rc r3 r4 rp r6 r7 s0 s1 sc s3 s4 sp s6 s7).2.2.2.2.2.1 (sharpR r0 r1 rc r3 r4 rp r6 r7 s0 s1 sc s3 s4 sp s6 s7).2.2.2.2.2.2.1 (sharpR r0 r1 rc r3 r4 rp r6 r7 s0 s1 sc s3 s4 sp s6 s7).2.2.2.2.2.2.2.1 = true ∧ isWider s0 s1 sc s3 s4 sp s6 s7 (sharpR r0 r1 rc r3 r4 rp r6 r7 s0 s1 sc s3 s4 sp s6 s7).1 (sharpR r0 r1 rc r3 r4 rp r6 r7 s0 s1 sc s3 s4 sp s6 s7).2.1 (sharpR r0 r1 rc r3 r4 rp r6 r7 s0 s1 sc s3 s4 sp s6 s7).2.2.1 (sharpR r0 r1 rc r3 r4 rp r6 r7 s0 s1 sc s3 s4 sp s6 s7).2.2.2.1 (sharpR r0 r1 rc r3 r4 rp r6 r7 s0 s1 sc s3 s4 sp s6 s7).2.2.2.2.1 (sharpR r0 r1 rc r3 r4 rp r6 r7 s0 s1 sc s3 s4 sp s6 s7).2.2.2.2.2.1 (sharpR r0 r1 rc r3 r4 rp r6 r7 s0 s1 sc s3 s4 sp s6 s7).2.2.2.2.2.2.1 (sharpR r0 r1 rc r3 r4 rp r6 r7 s0 s1 sc s3 s4 sp s6 s7).2.2.2.2.2.2.2.1 = true := by
  obtain ⟨e, hS, h1, h2, he, hc, hp⟩ := sharp_yes r0 r1 rc r3 r4 rp r6 r7 s0 s1 sc s3 s4 sp s6 s7 hk
  rw [e]
  dsimp only
  have bc := both_wider hc
  have bp := both_wider hp
  have x1 : decide (r3 ≤ maxI r3 s3) = true := decide_eq_true (by unfold maxI; split <;> omega)
  have x2 : decide (s3 ≤ maxI r3 s3) = true := decide_eq_true (by unfold maxI; split <;> omega)
  have x3 : decide (minI r4 s4 ≤ r4) = true := decide_eq_true (by unfold minI; split <;> omega)
  have x4 : decide (minI r4 s4 ≤ s4) = true := decide_eq_true (by unfold minI; split <;> omega)
  have x5 : decide (r6 ≤ maxI r6 s6) = true := decide_eq_true (by unfold maxI; split <;> omega)
  have x6 : decide (s6 ≤ maxI r6 s6) = true := decide_eq_true (by unfold maxI; split <;> omega)
  unfold isWider
  rw [hS, h1, h2, bc.1, bc.2, bp.1, bp.2, x1, x2, x3, x4, x5, x6, decide_eq_true (rfl : r1 = r1), decide_eq_true he.symm]
  exact ⟨rfl, rfl⟩
theorem sharp_both (r0 r1 : Int) (rc : List Int) (r3 r4 : Int) (rp : List Int) (r6 r7 s0 s1 : Int) (sc : List Int) (s3 s4 : Int) (sp : List Int) (s6 s7 f0 f1 f2 f3 f4 f5 f6 f7 : Int) (hp : canBe r0 r1 rc r3 r4 rp r6 r7 f0 f1 f2 f3 f4 f5 f6 f7 = true) (hq : canBe s0 s1 sc s3 s4 sp s6 s7 f0 f1 f2 f3 f4 f5 f6 f7 = true) : (sharpR r0 r1 rc r3 r4 rp r6 r7 s0 s1 sc s3 s4 sp s6 s7).2.2.2.2.2.2.2.2 = true := by
  rw [can_parts] at hp hq
  obtain ⟨a1, _, a3, a4, a5, a6, _⟩ := hp
  obtain ⟨b1, _, b3, b4, b5, b6, _⟩ := hq
  unfold sharpR
  rw [if_pos ⟨a1, b1, a3.trans b3.symm, both_some f2 a4 b4, both_some f5 a6 b6, by unfold maxI minI; split <;> split <;> omega⟩]
theorem sharp_can (r0 r1 : Int) (rc : List Int) (r3 r4 : Int) (rp : List Int) (r6 r7 s0 s1 : Int) (sc : List Int) (s3 s4 : Int) (sp : List Int) (s6 s7 f0 f1 f2 f3 f4 f5 f6 f7 : Int) (hk : (sharpR r0 r1 rc r3 r4 rp r6 r7 s0 s1 sc s3 s4 sp s6 s7).2.2.2.2.2.2.2.2 = true) : canBe (sharpR r0 r1 rc r3 r4 rp r6 r7 s0 s1 sc s3 s4 sp s6 s7).1 (sharpR r0 r1 rc r3 r4 rp r6 r7 s0 s1 sc s3 s4 sp s6 s7).2.1 (sharpR r0 r1 rc r3 r4 rp r6 r7 s0 s1 sc s3 s4 sp s6 s7).2.2.1 (sharpR r0 r1 rc r3 r4 rp r6 r7 s0 s1 sc s3 s4 sp s6 s7).2.2.2.1 (sharpR r0 r1 rc r3 r4 rp r6 r7 s0 s1 sc s3 s4 sp s6 s7).2.2.2.2.1 (sharpR r0 r1 rc r3 r4 rp r6 r7 s0 s1 sc s3 s4 sp s6 s7).2.2.2.2.2.1 (sharpR r0 r1 rc r3 r4 rp r6 r7 s0 s1 sc s3 s4 sp s6 s7).2.2.2.2.2.2.1 (sharpR r0 r1 rc r3 r4 rp r6 r7 s0 s1 sc s3 s4 sp s6 s7).2.2.2.2.2.2.2.1 f0 f1 f2 f3 f4 f5 f6 f7 = (canBe r0 r1 rc r3 r4 rp r6 r7 f0 f1 f2 f3 f4 f5 f6 f7 && canBe s0 s1 sc s3 s4 sp s6 s7 f0 f1 f2 f3 f4 f5 f6 f7) := by
  obtain ⟨e, hS, h1, h2, he, hc, hp⟩ := sharp_yes r0 r1 rc r3 r4 rp r6 r7 s0 s1 sc s3 s4 sp s6 s7 hk
  rw [e]
  dsimp only
  rw [Bool.eq_iff_iff, Bool.and_eq_true, can_parts, can_parts, can_parts, both_allow f2 hc, both_allow f5 hp, Bool.and_eq_true, Bool.and_eq_true]
  have m3 : maxI r3 s3 ≤ f3 ↔ r3 ≤ f3 ∧ s3 ≤ f3 := by unfold maxI; split <;> omega
  have m4 : f3 ≤ minI r4 s4 ↔ f3 ≤ r4 ∧ f3 ≤ s4 := by unfold minI; split <;> omega
  have m6 : maxI r6 s6 ≤ f6 ↔ r6 ≤ f6 ∧ s6 ≤ f6 := by unfold maxI; split <;> omega
  rw [m3, m4, m6]
  exact ⟨fun ⟨_, b, c, d, e, f, g⟩ => ⟨⟨h1, b, c, d.1, ⟨e.1.1, e.2.1⟩, f.1, g.1⟩, h2, b, he.symm.trans c, d.2, ⟨e.1.2, e.2.2⟩, f.2, g.2⟩, fun ⟨⟨_, b, c, d, e, f, g⟩, _, _, _, d', e', f', g'⟩ => ⟨hS, b, c, ⟨d, d'⟩, ⟨⟨e.1, e'.1⟩, e.2, e'.2⟩, ⟨f, f'⟩, g, g'⟩⟩

theorem inRange (a b c : Int) : impl_InRange.f a b c = some (inR a b c) := by
  unfold impl_InRange.f inR
  by_cases h : b ≤ a <;> simp [h]

theorem impl_isAscending_l0 (l : List Int) (a b : Int) (hn : l.length ≤ 4194304) : ∀ (d i : Nat), i + d = l.length → impl_isAscending.L0 l a b l (l.length : Int) (i : Int) = some (allF (okAsc a b l) l.length i)
  | 0, i, h => by rw [impl_isAscending.L0_eq, if_neg (by omega), allF_end (by omega)]
  | d + 1, i, h => by
    have hi : i < l.length := by omega
    have ih := impl_isAscending_l0 l a b hn d (i + 1) (by omega)
    rw [impl_isAscending.L0_eq]
    simp only [wrap_succ i (by omega), wrap_pred i (by omega), ih, inRange, Option.bind_some]
    by_cases hp_ : okAsc a b l i
    · rw [allF_yes hp_]
      simp only [okAsc] at hp_
      obtain ⟨h1_, h2_⟩ := hp_
      repeat' split
      all_goals first
        | rfl
        | (exfalso; first | contradiction | omega)
    · rw [allF_no hi hp_]
      repeat' split
      all_goals first
        | rfl
        | (simp; done)
        | (exfalso; first | contradiction | omega)
        | (exfalso; apply hp_; simp only [okAsc]; (repeat' constructor) <;> first | assumption | (intro _; omega) | omega)
theorem impl_isAscending_is (l : List Int) (a b : Int) (hn : l.length ≤ 4194304) : impl_isAscending.F l a b = some (isAsc l a b) := by
  rw [impl_isAscending.F_eq]
  exact impl_isAscending_l0 l a b hn l.length 0 (by omega)

theorem impl_IsSpan_is (a b : Int) : impl_IsSpan.f a b = some (inR a 0 100000 && inR b 0 100000 && decide (a ≤ b)) := by
  unfold impl_IsSpan.f
  simp only [inRange, Option.bind_some]
  cases inR a 0 100000 <;> cases inR b 0 100000 <;> simp

theorem impl_IsReport_is (r0 r1 : Int) (rc : List Int) (r3 r4 : Int) (rp : List Int) (r6 r7 : Int) (hc : rc.length ≤ 4194304) (hp : rp.length ≤ 4194304) : impl_IsReport.F r0 r1 rc r3 r4 rp r6 r7 = some (isReport r0 r1 rc r3 r4 rp r6 r7) := by
  rw [impl_IsReport.F_eq]
  simp only [inRange, impl_isAscending_is rc 0 7 hc, impl_isAscending_is rp 1 30 hp, impl_IsSpan_is, Option.bind_some, isReport]
  generalize (inR r6 0 100000 && inR r7 0 100000 && decide (r6 ≤ r7)) = s
  cases inR r0 1 999 <;> cases inR r1 1 8 <;> cases isAsc rc 0 7 <;> cases isAsc rp 1 30 <;> by_cases h1 : 1 ≤ r3 <;> by_cases h2 : r3 ≤ r4 <;> by_cases h3 : r4 ≤ 50 <;> by_cases h4 : (rp.length : Int) ≤ 10 <;> simp [h1, h2, h3, h4]

theorem slices_Index_l0 (l : List Int) (n : Int) (hn : l.length ≤ 4194304) : ∀ (d i : Nat), i + d = l.length → ∃ r, slices_Index_int_int.L0 l n (l.length : Int) (i : Int) = some r ∧ (0 ≤ r ↔ n ∈ l.drop i)
  | 0, i, h => by
    refine ⟨-1, by rw [slices_Index_int_int.L0_eq, if_neg (by omega)], ?_⟩
    rw [List.drop_of_length_le (by omega)]
    simp
  | d + 1, i, h => by
    rw [slices_Index_int_int.L0_eq, if_pos (by omega), if_pos (by omega), if_pos (by omega), dropInt l i (by omega), wrap_succ i (by omega)]
    by_cases c : n = rd l (i : Int)
    · rw [if_pos c]
      exact ⟨_, rfl, ⟨fun _ => by rw [← c]; exact List.mem_cons_self, fun _ => by omega⟩⟩
    · rw [if_neg c]
      obtain ⟨r, hr, hi⟩ := slices_Index_l0 l n hn d (i + 1) (by omega)
      refine ⟨r, hr, hi.trans ⟨fun hm => List.mem_cons_of_mem _ hm, fun hm => ?_⟩⟩
      rcases List.mem_cons.1 hm with he | he
      · exact absurd he c
      · exact he
theorem slices_Contains_is (l : List Int) (n : Int) (hn : l.length ≤ 4194304) : slices_Contains_int_int.F l n = some (decide (n ∈ l)) := by
  obtain ⟨r, hr, hi⟩ := slices_Index_l0 l n hn l.length 0 (by omega)
  rw [slices_Contains_int_int.F_eq, slices_Index_int_int.F_eq]
  have hr' : slices_Index_int_int.L0 l n (l.length : Int) 0 = some r := hr
  rw [hr', Option.bind_some]
  congr 1
  rw [Bool.eq_iff_iff, decide_eq_true_iff, decide_eq_true_iff]
  exact hi

theorem impl_allowsAll_l0 (a b : List Int) (ha : a.length ≤ 4194304) (hb : b.length ≤ 4194304) : ∀ (d i : Nat), i + d = b.length → impl_allowsAll.L0 a b (b.length : Int) (i : Int) = some ((b.drop i).all (fun n => decide (n ∈ a)))
  | 0, i, h => by rw [impl_allowsAll.L0_eq, if_neg (by omega), List.drop_of_length_le (by omega)]; rfl
  | d + 1, i, h => by
    rw [impl_allowsAll.L0_eq, if_pos (by omega), if_pos (by omega), if_pos (by omega), slices_Contains_is a _ ha, Option.bind_some, wrap_succ i (by omega), impl_allowsAll_l0 a b ha hb d (i + 1) (by omega), dropInt b i (by omega), List.all_cons]
    by_cases c : rd b (i : Int) ∈ a
    · rw [decide_eq_true c, if_pos rfl, Bool.true_and]
    · rw [decide_eq_false c, if_neg (by decide), Bool.false_and]
theorem impl_allowsAll_is (a b : List Int) (ha : a.length ≤ 4194304) (hb : b.length ≤ 4194304) : impl_allowsAll.F a b = some (wider a b) := by
  rw [impl_allowsAll.F_eq, wider]
  by_cases h : a.length = 0
  · rw [if_pos (by omega), impl_allowsAll.J0_eq, if_pos rfl, decide_eq_true h, Bool.true_or, h]; rfl
  · rw [if_neg (by omega), impl_allowsAll.J0_eq, decide_eq_false h, Bool.false_or]
    by_cases h2 : b.length = 0
    · have e1 : ((a.length : Int) == 0) = false := by rw [beq_eq_false_iff_ne]; omega
      rw [if_pos (by rw [beq_iff_eq]; omega), decide_eq_false (by omega), Bool.false_and, e1]
    · rw [if_neg (by rw [beq_iff_eq]; omega), decide_eq_true (by omega), Bool.true_and]
      have := impl_allowsAll_l0 a b ha hb b.length 0 (by omega)
      rw [List.drop_zero] at this
      exact this
theorem impl_IsWider_is (r0 r1 : Int) (rc : List Int) (r3 r4 : Int) (rp : List Int) (r6 r7 q0 q1 : Int) (qc : List Int) (q3 q4 : Int) (qp : List Int) (q6 q7 : Int) (hc : rc.length ≤ 4194304) (hp : rp.length ≤ 4194304) (hqc : qc.length ≤ 4194304) (hqp : qp.length ≤ 4194304) : impl_IsWider.F r0 r1 rc r3 r4 rp r6 r7 q0 q1 qc q3 q4 qp q6 q7 = some (isWider r0 r1 rc r3 r4 rp r6 r7 q0 q1 qc q3 q4 qp q6 q7) := by
  rw [impl_IsWider.F_eq, impl_IsReport_is r0 r1 rc r3 r4 rp r6 r7 hc hp, impl_IsReport_is q0 q1 qc q3 q4 qp q6 q7 hqc hqp, impl_allowsAll_is rc qc hc hqc, impl_allowsAll_is rp qp hp hqp, isWider]
  simp only [Option.bind_some]
  cases isReport r0 r1 rc r3 r4 rp r6 r7 <;> cases isReport q0 q1 qc q3 q4 qp q6 q7 <;> by_cases h1 : r1 = q1 <;> cases wider rc qc <;> by_cases h2 : r3 ≤ q3 <;> by_cases h3 : q4 ≤ r4 <;> cases wider rp qp <;> simp [h1, h2, h3]

theorem impl_IsThing_is (a b c d e : Int) : impl_IsThing.f a b c d e = some (inR a 1 999 && inR b 1 8 && inR c 0 7 && inR d 1 50 && inR e 0 10000000) := by
  unfold impl_IsThing.f
  simp only [inRange, Option.bind_some]
  cases inR a 1 999 <;> cases inR b 1 8 <;> cases inR c 0 7 <;> cases inR d 1 50 <;> simp

theorem impl_IsFind_is (f0 f1 f2 f3 f4 f5 f6 f7 : Int) : impl_IsFind.f f0 f1 f2 f3 f4 f5 f6 f7 = some (isFind f0 f1 f2 f3 f4 f5 f6 f7) := by
  unfold impl_IsFind.f
  simp only [impl_IsThing_is, inRange, Option.bind_some, isFind]
  generalize (inR f0 1 999 && inR f1 1 8 && inR f2 0 7 && inR f3 1 50 && inR f4 0 10000000) = t
  cases t <;> cases inR f5 1 30 <;> cases inR f6 0 100000 <;> simp

theorem impl_allows_is (l : List Int) (n : Int) (hn : l.length ≤ 4194304) : impl_allows.F l n = some (allow l n) := by
  rw [impl_allows.F_eq, slices_Contains_is l n hn, allow]
  by_cases h : l.length = 0
  · rw [if_pos (by omega), decide_eq_true h]; rfl
  · rw [if_neg (by omega), decide_eq_false h]; rfl

theorem impl_WhyNot_is (r0 r1 : Int) (rc : List Int) (r3 r4 : Int) (rp : List Int) (r6 r7 f0 f1 f2 f3 f4 f5 f6 f7 : Int) (hc : rc.length ≤ 4194304) (hp : rp.length ≤ 4194304) : impl_WhyNot.F r0 r1 rc r3 r4 rp r6 r7 f0 f1 f2 f3 f4 f5 f6 f7 = some (whyNot r0 r1 rc r3 r4 rp r6 r7 f0 f1 f2 f3 f4 f5 f6 f7) := by
  rw [impl_WhyNot.F_eq, impl_IsReport_is r0 r1 rc r3 r4 rp r6 r7 hc hp]
  simp only [Option.bind_some, impl_IsFind_is, impl_WhyNot.J0_eq, impl_allows_is rc _ hc, impl_allows_is rp _ hp, inRange, whyNot]
  cases isReport r0 r1 rc r3 r4 rp r6 r7 <;> cases isFind f0 f1 f2 f3 f4 f5 f6 f7 <;> by_cases h3 : r1 = f1 <;> cases allow rc f2 <;> cases inR f3 r3 r4 <;> cases allow rp f5 <;> by_cases h4 : f6 < r6 <;> simp [h3, h4]

theorem impl_CanBe_is (r0 r1 : Int) (rc : List Int) (r3 r4 : Int) (rp : List Int) (r6 r7 f0 f1 f2 f3 f4 f5 f6 f7 : Int) (hc : rc.length ≤ 4194304) (hp : rp.length ≤ 4194304) : impl_CanBe.F r0 r1 rc r3 r4 rp r6 r7 f0 f1 f2 f3 f4 f5 f6 f7 = some (canBe r0 r1 rc r3 r4 rp r6 r7 f0 f1 f2 f3 f4 f5 f6 f7) := by
  rw [impl_CanBe.F_eq, impl_WhyNot_is r0 r1 rc r3 r4 rp r6 r7 f0 f1 f2 f3 f4 f5 f6 f7 hc hp, Option.bind_some, canBe_why]

open Classical in
theorem all_is (u0 u1 : Int) (u2 : List Int) (u3 u4 : Int) (u5 : List Int) (u6 u7 v0 v1 : Int) (v2 : List Int) (v3 v4 : Int) (v5 : List Int) (v6 v7 p0 p1 : Int) (p2 : List Int) (p3 p4 : Int) (p5 : List Int) (p6 p7 q0 q1 : Int) (q2 : List Int) (q3 q4 : Int) (q5 : List Int) (q6 q7 s0 s1 : Int) (s2 : List Int) (s3 s4 : Int) (s5 : List Int) (s6 s7 : Int) (s8 : Bool) (l : List S27) (nu : u2.length ≤ 4194304) (mu : u5.length ≤ 4194304) (nv : v2.length ≤ 4194304) (mv : v5.length ≤ 4194304) (np : p2.length ≤ 4194304) (mp : p5.length ≤ 4194304) (nq : q2.length ≤ 4194304) (mq : q5.length ≤ 4194304) (ns : s2.length ≤ 4194304) (ms : s5.length ≤ 4194304) (hb : ∀ f0 f1 f2 f3 f4 f5 f6 f7, canBe p0 p1 p2 p3 p4 p5 p6 p7 f0 f1 f2 f3 f4 f5 f6 f7 = true → canBe q0 q1 q2 q3 q4 q5 q6 q7 f0 f1 f2 f3 f4 f5 f6 f7 = true → s8 = true) (hc : ∀ f0 f1 f2 f3 f4 f5 f6 f7, s8 = true → canBe s0 s1 s2 s3 s4 s5 s6 s7 f0 f1 f2 f3 f4 f5 f6 f7 = (canBe p0 p1 p2 p3 p4 p5 p6 p7 f0 f1 f2 f3 f4 f5 f6 f7 && canBe q0 q1 q2 q3 q4 q5 q6 q7 f0 f1 f2 f3 f4 f5 f6 f7)) : laws_FnRemembered.all u0 u1 u2 u3 u4 u5 u6 u7 v0 v1 v2 v3 v4 v5 v6 v7 p0 p1 p2 p3 p4 p5 p6 p7 q0 q1 q2 q3 q4 q5 q6 q7 s0 s1 s2 s3 s4 s5 s6 s7 s8 l = true := by
  unfold laws_FnRemembered.all
  apply decide_eq_true
  intro z hz
  have hco : Co (fun k => laws_FnRemembered.good k u0 u1 u2 u3 u4 u5 u6 u7 v0 v1 v2 v3 v4 v5 v6 v7 p0 p1 p2 p3 p4 p5 p6 p7 q0 q1 q2 q3 q4 q5 q6 q7 s0 s1 s2 s3 s4 s5 s6 s7 s8 z) ((impl_IsWider.F u0 u1 u2 u3 u4 u5 u6 u7 v0 v1 v2 v3 v4 v5 v6 v7).bind fun a => ((impl_CanBe.F v0 v1 v2 v3 v4 v5 v6 v7 z.f0.f0 z.f0.f1 z.f0.f2 z.f0.f3 z.f0.f4 z.f1 z.f2 z.f3).bind fun b => ((impl_CanBe.F u0 u1 u2 u3 u4 u5 u6 u7 z.f0.f0 z.f0.f1 z.f0.f2 z.f0.f3 z.f0.f4 z.f1 z.f2 z.f3).bind fun c => ((impl_CanBe.F p0 p1 p2 p3 p4 p5 p6 p7 z.f0.f0 z.f0.f1 z.f0.f2 z.f0.f3 z.f0.f4 z.f1 z.f2 z.f3).bind fun d => ((impl_CanBe.F q0 q1 q2 q3 q4 q5 q6 q7 z.f0.f0 z.f0.f1 z.f0.f2 z.f0.f3 z.f0.f4 z.f1 z.f2 z.f3).bind fun e => ((impl_CanBe.F s0 s1 s2 s3 s4 s5 s6 s7 z.f0.f0 z.f0.f1 z.f0.f2 z.f0.f3 z.f0.f4 z.f1 z.f2 z.f3).bind fun g => (if ((a = true → b = true → c = true) ∧ (d = true → e = true → s8 = true) ∧ (s8 = true → g = (d && e))) then (some true) else none))))))) := by
    unfold laws_FnRemembered.good
    repeat' first | (with_reducible exact Co.const _) | (with_reducible exact impl_CanBe.F_co _ _ _ _ _ _ _ _ _ _ _ _ _ _ _ _) | (with_reducible exact impl_IsWider.F_co _ _ _ _ _ _ _ _ _ _ _ _ _ _ _ _) | (with_reducible refine Co.bind ?_ (fun _ => ?_))
  refine hco.rounds ?_
  rw [impl_IsWider_is u0 u1 u2 u3 u4 u5 u6 u7 v0 v1 v2 v3 v4 v5 v6 v7 nu mu nv mv, Option.bind_some, impl_CanBe_is v0 v1 v2 v3 v4 v5 v6 v7 z.f0.f0 z.f0.f1 z.f0.f2 z.f0.f3 z.f0.f4 z.f1 z.f2 z.f3 nv mv, Option.bind_some, impl_CanBe_is u0 u1 u2 u3 u4 u5 u6 u7 z.f0.f0 z.f0.f1 z.f0.f2 z.f0.f3 z.f0.f4 z.f1 z.f2 z.f3 nu mu, Option.bind_some, impl_CanBe_is p0 p1 p2 p3 p4 p5 p6 p7 z.f0.f0 z.f0.f1 z.f0.f2 z.f0.f3 z.f0.f4 z.f1 z.f2 z.f3 np mp, Option.bind_some, impl_CanBe_is q0 q1 q2 q3 q4 q5 q6 q7 z.f0.f0 z.f0.f1 z.f0.f2 z.f0.f3 z.f0.f4 z.f1 z.f2 z.f3 nq mq, Option.bind_some, impl_CanBe_is s0 s1 s2 s3 s4 s5 s6 s7 z.f0.f0 z.f0.f1 z.f0.f2 z.f0.f3 z.f0.f4 z.f1 z.f2 z.f3 ns ms, Option.bind_some]
  exact if_pos ⟨fun h1 h2 => wider_can _ _ _ _ _ _ _ _ _ _ _ _ _ _ _ _ _ _ _ _ _ _ _ _ h1 h2, hb _ _ _ _ _ _ _ _, hc _ _ _ _ _ _ _ _⟩

theorem spec_l9Put_l0 (l : List Int) (n : Int) (hl : l.length ≤ 2000000) : ∀ (d i : Nat), i + d = l.length → spec_l9Put.L0 l n (i : Int) = some (l.take i ++ putA (l.drop i) n)
  | 0, i, h => by
    have ht := List.length_take (i := i) (l := l)
    have hd := List.length_drop (i := i) (l := l)
    rw [spec_l9Put.L0_eq, if_neg (by omega), Option.bind_some, if_pos (by omega), if_pos (by omega), Int.toNat_natCast, List.nil_append, if_pos (by simp; omega), Option.bind_some, Option.bind_some, if_pos (by simp; omega), Option.bind_some, if_pos (by simp; omega), List.drop_of_length_le (by omega)]
    simp [putA]
  | d + 1, i, h => by
    rw [spec_l9Put.L0_eq, if_pos (by omega), if_pos (by omega), wrap_succ i (by omega), spec_l9Put_l0 l n hl d (i + 1) (by omega)]
    have e := dropInt l i (by omega)
    have e2 : l.take (i + 1) = l.take i ++ [rd l (i : Int)] := by
      rw [List.take_succ_eq_append_getElem (by omega)]
      congr 2
      simp [rd, show i < l.length by omega]
    by_cases h1 : rd l (i : Int) < n
    · rw [if_pos h1, e, putA, if_pos h1, e2]
      simp
    · rw [if_neg h1]
      by_cases h2 : rd l (i : Int) = n
      · rw [if_pos h2, Option.bind_some, if_pos (by simp; omega), e, putA, if_neg h1, if_pos h2, ← e, List.take_append_drop, List.nil_append]
      · rw [if_neg h2, Option.bind_some, if_pos (by omega), Int.toNat_natCast, List.nil_append, if_pos (by simp; omega), Option.bind_some, Option.bind_some, if_pos (by simp; omega), Option.bind_some, if_pos (by simp; omega), e, putA, if_neg h1, if_neg h2]
        simp
theorem spec_l9Put_is (l : List Int) (n : Int) (hl : l.length ≤ 2000000) : spec_l9Put.F l n = some (putA l n) := by
  have := spec_l9Put_l0 l n hl l.length 0 (by omega)
  rw [spec_l9Put.F_eq]
  simpa using this

theorem l1In (a b c : Int) : spec_l1In.f a b c = some (inR a b c) := by
  unfold spec_l1In.f inR
  by_cases h : b ≤ a <;> simp [h]

theorem spec_l7Ids_l0 (l : List Int) (a b : Int) (hn : l.length ≤ 4194304) : ∀ (d i : Nat), i + d = l.length → spec_l7Ids.L0 l a b (i : Int) = some (allF (okAsc a b l) l.length i)
  | 0, i, h => by rw [spec_l7Ids.L0_eq, if_neg (by omega), allF_end (by omega)]
  | d + 1, i, h => by
    have hi : i < l.length := by omega
    have ih := spec_l7Ids_l0 l a b hn d (i + 1) (by omega)
    rw [spec_l7Ids.L0_eq]
    simp only [wrap_succ i (by omega), wrap_pred i (by omega), ih, l1In, Option.bind_some]
    by_cases hp_ : okAsc a b l i
    · rw [allF_yes hp_]
      simp only [okAsc] at hp_
      obtain ⟨h1_, h2_⟩ := hp_
      repeat' split
      all_goals first
        | rfl
        | (exfalso; first | contradiction | omega)
    · rw [allF_no hi hp_]
      repeat' split
      all_goals first
        | rfl
        | (simp; done)
        | (exfalso; first | contradiction | omega)
        | (exfalso; apply hp_; simp only [okAsc]; (repeat' constructor) <;> first | assumption | (intro _; omega) | omega)
theorem spec_l7Ids_is (l : List Int) (a b : Int) (hn : l.length ≤ 4194304) : spec_l7Ids.F l a b = some (isAsc l a b) := by
  rw [spec_l7Ids.F_eq]
  exact spec_l7Ids_l0 l a b hn l.length 0 (by omega)

theorem spec_IsDoubt_is (c : List Int) (s : Int) (p : List Int) (h : Int) (hc : c.length ≤ 4194304) (hp : p.length ≤ 4194304) : spec_IsDoubt.F c s p h = some (isDoubt c s p h) := by
  rw [spec_IsDoubt.F_eq, spec_l7Ids_is c 0 7 hc]
  simp only [l1In, spec_l7Ids_is p 1 30 hp, Option.bind_some, isDoubt]
  cases isAsc c 0 7 <;> cases inR s 0 50 <;> cases isAsc p 1 30 <;> by_cases hl : (p.length : Int) ≤ 9 <;> simp [hl]

theorem spec_IsThing_is (a b c d e : Int) : spec_IsThing.f a b c d e = some (inR a 1 999 && inR b 1 8 && inR c 0 7 && inR d 1 50 && inR e 0 10000000) := by
  unfold spec_IsThing.f
  simp only [l1In, Option.bind_some]
  cases inR a 1 999 <;> cases inR b 1 8 <;> cases inR c 0 7 <;> cases inR d 1 50 <;> simp

theorem spec_IsFind_is (f0 f1 f2 f3 f4 f5 f6 f7 : Int) : spec_IsFind.f f0 f1 f2 f3 f4 f5 f6 f7 = some (isFind f0 f1 f2 f3 f4 f5 f6 f7) := by
  unfold spec_IsFind.f
  simp only [spec_IsThing_is, l1In, Option.bind_some, isFind]
  generalize (inR f0 1 999 && inR f1 1 8 && inR f2 0 7 && inR f3 1 50 && inR f4 0 10000000) = t
  cases t <;> cases inR f5 1 30 <;> cases inR f6 0 100000 <;> simp

theorem spec_IsSpan_is (a b : Int) : spec_IsSpan.f a b = some (inR a 0 100000 && inR b 0 100000 && decide (a ≤ b)) := by
  unfold spec_IsSpan.f
  simp only [l1In, Option.bind_some]
  cases inR a 0 100000 <;> cases inR b 0 100000 <;> simp

theorem spec_IsReport_is (r0 r1 : Int) (rc : List Int) (r3 r4 : Int) (rp : List Int) (r6 r7 : Int) (hc : rc.length ≤ 4194304) (hp : rp.length ≤ 4194304) : spec_IsReport.F r0 r1 rc r3 r4 rp r6 r7 = some (isReport r0 r1 rc r3 r4 rp r6 r7) := by
  rw [spec_IsReport.F_eq]
  simp only [l1In, spec_l7Ids_is rc 0 7 hc, spec_l7Ids_is rp 1 30 hp, spec_IsSpan_is, Option.bind_some, isReport]
  generalize (inR r6 0 100000 && inR r7 0 100000 && decide (r6 ≤ r7)) = s
  cases inR r0 1 999 <;> cases inR r1 1 8 <;> cases isAsc rc 0 7 <;> cases isAsc rp 1 30 <;> by_cases h1 : 1 ≤ r3 <;> by_cases h2 : r3 ≤ r4 <;> by_cases h3 : r4 ≤ 50 <;> by_cases h4 : (rp.length : Int) ≤ 10 <;> simp [h1, h2, h3, h4]

theorem spec_Remember_is (f0 f1 f2 f3 f4 f5 f6 f7 : Int) (c : List Int) (s : Int) (p : List Int) (h id : Int) (n1 : c.length ≤ 1048576) (n2 : p.length ≤ 1048576) : spec_Remember.F f0 f1 f2 f3 f4 f5 f6 f7 c s p h id = some (remR f0 f1 f2 f3 f4 f5 f6 f7 c s p h id) := by
  rw [spec_Remember.F_eq, spec_IsFind_is, Option.bind_some]
  unfold remR
  by_cases h1 : isFind f0 f1 f2 f3 f4 f5 f6 f7 = true
  · rw [if_pos h1, spec_IsDoubt_is c s p h (by omega) (by omega), Option.bind_some, spec_Remember.J0_eq]
    by_cases h2 : isDoubt c s p h = true
    · obtain ⟨a1, a2, b1, b2⟩ := doubt_asc h2
      have j1 := joinL_len c [f2]
      have j2 := joinL_len p [f5]
      have e1 : putA c f2 = joinL c [f2] := foldA_is c [f2] a1
      have e2 : putA p f5 = joinL p [f5] := foldA_is p [f5] a2
      simp only [List.length_singleton] at j1 j2
      rw [h2, if_neg (by decide), spec_l9Put_is c f2 (by omega), Option.bind_some, spec_MaxI, Option.bind_some, spec_MinI, Option.bind_some, spec_l9Put_is p f5 (by omega), Option.bind_some, spec_MaxI, Option.bind_some, e1, e2, spec_IsReport_is _ _ _ _ _ _ _ _ (by omega) (by omega), Option.bind_some]
      by_cases h3 : isReport id f1 (joinL c [f2]) (maxI 1 (wrap64 (f3 - s))) (minI 50 (wrap64 (f3 + s))) (joinL p [f5]) (maxI 0 (wrap64 (f6 - h))) f6 = true
      · rw [if_pos h3, if_pos ⟨h1, rfl, h3⟩]
      · rw [if_neg h3, if_neg (fun hh => h3 hh.2.2)]
    · rw [if_pos (by rw [Bool.eq_false_iff.2 h2]; rfl), if_neg (fun hh => h2 hh.2.1)]
  · rw [if_neg h1, spec_Remember.J0_eq, if_pos rfl, if_neg (fun hh => h1 hh.1)]

theorem impl_IsDoubt_is (c : List Int) (s : Int) (p : List Int) (h : Int) (hc : c.length ≤ 4194304) (hp : p.length ≤ 4194304) : impl_IsDoubt.F c s p h = some (isDoubt c s p h) := by
  rw [impl_IsDoubt.F_eq, impl_isAscending_is c 0 7 hc]
  simp only [inRange, impl_isAscending_is p 1 30 hp, Option.bind_some, isDoubt]
  cases isAsc c 0 7 <;> cases inR s 0 50 <;> cases isAsc p 1 30 <;> by_cases hl : (p.length : Int) ≤ 9 <;> simp [hl]

theorem impl_Remember_is (f0 f1 f2 f3 f4 f5 f6 f7 : Int) (c : List Int) (s : Int) (p : List Int) (h id : Int) (n1 : c.length ≤ 1048576) (n2 : p.length ≤ 1048576) : impl_Remember.F f0 f1 f2 f3 f4 f5 f6 f7 c s p h id = some (remR f0 f1 f2 f3 f4 f5 f6 f7 c s p h id) := by
  rw [impl_Remember.F_eq, impl_IsFind_is, Option.bind_some]
  unfold remR
  by_cases h1 : isFind f0 f1 f2 f3 f4 f5 f6 f7 = true
  · rw [if_pos h1, impl_IsDoubt_is c s p h (by omega) (by omega), Option.bind_some, impl_Remember.J0_eq]
    by_cases h2 : isDoubt c s p h = true
    · have j1 := joinL_len c [f2]
      have j2 := joinL_len p [f5]
      simp only [List.length_singleton] at j1 j2
      rw [h2, if_neg (by decide), impl_united_is c [f2] (by simp only [List.length_singleton]; omega), Option.bind_some, impl_united_is p [f5] (by simp only [List.length_singleton]; omega), Option.bind_some, mxI, mnI, mxI, impl_IsReport_is _ _ _ _ _ _ _ _ (by omega) (by omega), Option.bind_some]
      by_cases h3 : isReport id f1 (joinL c [f2]) (maxI 1 (wrap64 (f3 - s))) (minI 50 (wrap64 (f3 + s))) (joinL p [f5]) (maxI 0 (wrap64 (f6 - h))) f6 = true
      · rw [if_pos h3, if_pos ⟨h1, rfl, h3⟩]
      · rw [if_neg h3, if_neg (fun hh => h3 hh.2.2)]
    · rw [if_pos (by rw [Bool.eq_false_iff.2 h2]; rfl), if_neg (fun hh => h2 hh.2.1)]
  · rw [if_neg h1, impl_Remember.J0_eq, if_pos rfl, if_neg (fun hh => h1 hh.1)]

theorem impl_JoinDoubts_is (c : List Int) (s : Int) (p : List Int) (h : Int) (c' : List Int) (s' : Int) (p' : List Int) (h' : Int) (n1 : c.length ≤ 1048576) (n2 : p.length ≤ 1048576) (n3 : c'.length ≤ 1048576) (n4 : p'.length ≤ 1048576) : impl_JoinDoubts.F c s p h c' s' p' h' = some (joinD c s p h c' s' p' h') := by
  have j1 := joinL_len c c'
  have j2 := joinL_len p p'
  rw [impl_JoinDoubts.F_eq, impl_united_is c c' (by omega), Option.bind_some, impl_united_is p p' (by omega), Option.bind_some, impl_IsDoubt_is c s p h (by omega) (by omega), Option.bind_some]
  unfold joinD
  by_cases h1 : isDoubt c s p h = true
  · rw [if_pos h1, impl_IsDoubt_is c' s' p' h' (by omega) (by omega), Option.bind_some]
    by_cases h2 : isDoubt c' s' p' h' = true
    · rw [if_pos h2, mxI, mxI, impl_IsDoubt_is _ _ _ _ (by omega) (by omega), Option.bind_some]
      by_cases h3 : isDoubt (joinL c c') (maxI s s') (joinL p p') (maxI h h') = true
      · rw [if_pos h3, if_pos ⟨h1, h2, h3⟩]
      · rw [if_neg h3, if_neg (fun hh => h3 hh.2.2)]
    · rw [if_neg h2, if_neg (fun hh => h2 hh.2.1)]
  · rw [if_neg h1, if_neg (fun hh => h1 hh.1)]

theorem cloneIntK (l : List Int) (hl : l.length ≤ 4194304) : slices_Clone_int_int.f l = some l := by
  unfold slices_Clone_int_int.f
  rw [Option.bind_some, if_pos (by simp only [List.length_nil]; omega), List.nil_append]
theorem impl_both_l0 (a b : List Int) (ha : a.length ≤ 4194304) (hb : b.length ≤ 4194304) : ∀ (d i : Nat) (acc : List Int), i + d = a.length → acc.length ≤ i → impl_both.L0 b acc a (a.length : Int) (i : Int) = some (acc ++ fltL (a.drop i) b, decide (((acc ++ fltL (a.drop i) b).length : Int) > 0))
  | 0, i, acc, h, hacc => by
    rw [impl_both.L0_eq, if_neg (by omega), List.drop_of_length_le (by omega), fltL, List.filter_nil, List.append_nil]
  | d + 1, i, acc, h, hacc => by
    rw [impl_both.L0_eq, if_pos (by omega), if_pos (by omega), if_pos (by omega), slices_Contains_is b _ hb, Option.bind_some, wrap_succ i (by omega), dropInt a i (by omega), fltL, List.filter_cons]
    by_cases c : rd a (i : Int) ∈ b
    · rw [decide_eq_true c, if_pos rfl, if_pos rfl, if_pos (by omega), impl_both_l0 a b ha hb d (i + 1) _ (by omega) (by rw [List.length_append, List.length_singleton]; omega), List.append_assoc]
      rfl
    · rw [decide_eq_false c, if_neg (by decide), if_neg (by decide), impl_both_l0 a b ha hb d (i + 1) _ (by omega) (by omega)]
      rfl
theorem impl_both_is (a b : List Int) (ha : a.length ≤ 4194304) (hb : b.length ≤ 4194304) : impl_both.F a b = some (bothL a b) := by
  rw [impl_both.F_eq, bothL]
  by_cases h : a.length = 0
  · rw [if_pos (by omega), if_pos h, cloneIntK b hb, Option.bind_some]
  · rw [if_neg (by omega), if_neg h]
    by_cases h2 : b.length = 0
    · rw [if_pos (by omega), if_pos h2, cloneIntK a ha, Option.bind_some]
    · have := impl_both_l0 a b ha hb a.length 0 [] (by omega) (by simp)
      rw [List.drop_zero, List.nil_append] at this
      rw [if_neg (by omega), if_neg h2]
      exact this

theorem impl_Sharpen_is (r0 r1 : Int) (rc : List Int) (r3 r4 : Int) (rp : List Int) (r6 r7 s0 s1 : Int) (sc : List Int) (s3 s4 : Int) (sp : List Int) (s6 s7 : Int) (n1 : rc.length ≤ 4194304) (n2 : rp.length ≤ 4194304) (n3 : sc.length ≤ 4194304) (n4 : sp.length ≤ 4194304) : impl_Sharpen.F r0 r1 rc r3 r4 rp r6 r7 s0 s1 sc s3 s4 sp s6 s7 = some (sharpR r0 r1 rc r3 r4 rp r6 r7 s0 s1 sc s3 s4 sp s6 s7) := by
  rw [impl_Sharpen.F_eq, impl_IsReport_is r0 r1 rc r3 r4 rp r6 r7 n1 n2, Option.bind_some]
  unfold sharpR
  by_cases h1 : isReport r0 r1 rc r3 r4 rp r6 r7 = true
  · rw [if_pos h1, impl_IsReport_is s0 s1 sc s3 s4 sp s6 s7 n3 n4, Option.bind_some]
    by_cases h2 : isReport s0 s1 sc s3 s4 sp s6 s7 = true
    · rw [if_pos h2, impl_Sharpen.J0_eq]
      by_cases h3 : r1 = s1
      · rw [if_neg (by rw [h3, bne_self_eq_false]; decide), impl_both_is rc sc n1 n3, Option.bind_some, impl_both_is rp sp n2 n4, Option.bind_some]
        by_cases h4 : (bothL rc sc).2 = true
        · rw [if_pos h4]
          by_cases h5 : (bothL rp sp).2 = true
          · rw [if_pos h5]
            simp only [mxI, mnI]
            by_cases h6 : maxI r3 s3 ≤ minI r4 s4
            · rw [if_neg (by omega), if_pos ⟨h1, h2, h3, h4, h5, h6⟩]
            · rw [if_pos (by omega), if_neg (fun hh => h6 hh.2.2.2.2.2)]
          · rw [if_neg h5, if_neg (fun hh => h5 hh.2.2.2.2.1)]
        · rw [if_neg h4, if_neg (fun hh => h4 hh.2.2.2.1)]
      · rw [if_pos (bne_iff_ne.2 h3), if_neg (fun hh => h3 hh.2.2.1)]
    · rw [if_neg h2, impl_Sharpen.J0_eq, if_pos rfl, if_neg (fun hh => h2 hh.2.1)]
  · rw [if_neg h1, impl_Sharpen.J0_eq, if_pos rfl, if_neg (fun hh => h1 hh.1)]

set_option maxHeartbeats 4000000 in
theorem law_FnRemembered (l0 : List Int) (hm0 : l0.length ≤ maxLen) (hw0 : ∀ y ∈ l0, (fun n : Int => (Lit.int .u8 n).wf = true) y) : laws_FnRemembered.F l0 = some true := by
  rw [laws_FnRemembered.F_eq, big_is, Option.bind_some]
  by_cases hb : (l0.length : Int) > 1048576
  · rw [decide_eq_true hb, if_pos rfl]
  · have hb' : l0.length ≤ 1048576 := by omega
    obtain ⟨f0, f1, f2, f3, f4, f5, f6, f7, dc, ds, dp, dh, id, eD, nd, md⟩ := drawRemember_is l0 hb'
    obtain ⟨a0, a1, a2, a3, b0, b1, b2, b3, eM, na, ma, nb, mb⟩ := drawJoinDoubts_is l0 hb'
    obtain ⟨u0, u1, u2, u3, u4, u5, u6, u7, v0, v1, v2, v3, v4, v5, v6, v7, eU, nu, mu, nv, mv⟩ := drawIsWider_is l0 hb'
    obtain ⟨p0, p1, p2, p3, p4, p5, p6, p7, q0, q1, q2, q3, q4, q5, q6, q7, eP, np, mp, nq, mq⟩ := drawSharpen_is l0 hb'
    obtain ⟨l, el, nl⟩ := drawAreFinds_is l0 hb'
    have hR := impl_Remember_is f0 f1 f2 f3 f4 f5 f6 f7 dc ds dp dh id (by omega) (by omega)
    have hX := spec_Remember_is f0 f1 f2 f3 f4 f5 f6 f7 dc ds dp dh id (by omega) (by omega)
    have hi := impl_IsFind_is f0 f1 f2 f3 f4 f5 f6 f7
    have hd := impl_IsDoubt_is dc ds dp dh (by omega) (by omega)
    have kR := remR_ok f0 f1 f2 f3 f4 f5 f6 f7 dc ds dp dh id
    have cR := remR_can f0 f1 f2 f3 f4 f5 f6 f7 dc ds dp dh id
    have lR := remR_len f0 f1 f2 f3 f4 f5 f6 f7 dc ds dp dh id
    have hJ := impl_JoinDoubts_is a0 a1 a2 a3 b0 b1 b2 b3 (by omega) (by omega) (by omega) (by omega)
    have lJ := joinD_len a0 a1 a2 a3 b0 b1 b2 b3
    have wJ := rem_wider f0 f1 f2 f3 f4 f5 f6 f7 a0 a1 a2 a3 b0 b1 b2 b3 id
    have hS := impl_Sharpen_is p0 p1 p2 p3 p4 p5 p6 p7 q0 q1 q2 q3 q4 q5 q6 q7 (by omega) (by omega) (by omega) (by omega)
    have lS := sharpR_len p0 p1 p2 p3 p4 p5 p6 p7 q0 q1 q2 q3 q4 q5 q6 q7 1000 np mp nq mq
    have wS := sharp_wider p0 p1 p2 p3 p4 p5 p6 p7 q0 q1 q2 q3 q4 q5 q6 q7
    have bS := sharp_both p0 p1 p2 p3 p4 p5 p6 p7 q0 q1 q2 q3 q4 q5 q6 q7
    have cS := sharp_can p0 p1 p2 p3 p4 p5 p6 p7 q0 q1 q2 q3 q4 q5 q6 q7
    generalize sharpR p0 p1 p2 p3 p4 p5 p6 p7 q0 q1 q2 q3 q4 q5 q6 q7 = S at hS lS wS bS cS
    obtain ⟨s0, s1, s2, s3, s4, s5, s6, s7, s8⟩ := S
    generalize remR f0 f1 f2 f3 f4 f5 f6 f7 dc ds dp dh id = R at hR hX kR cR lR
    obtain ⟨r0, r1, r2, r3, r4, r5, r6, r7, r8⟩ := R
    generalize joinD a0 a1 a2 a3 b0 b1 b2 b3 = J at hJ lJ wJ
    obtain ⟨j0, j1, j2, j3, j4⟩ := J
    dsimp only at lJ wJ kR cR lR lS wS bS cS
    have hY := impl_Remember_is f0 f1 f2 f3 f4 f5 f6 f7 a0 a1 a2 a3 id (by omega) (by omega)
    have lY := remR_len f0 f1 f2 f3 f4 f5 f6 f7 a0 a1 a2 a3 id
    have hZ := impl_Remember_is f0 f1 f2 f3 f4 f5 f6 f7 j0 j1 j2 j3 id (by omega) (by omega)
    have lZ := remR_len f0 f1 f2 f3 f4 f5 f6 f7 j0 j1 j2 j3 id
    generalize remR f0 f1 f2 f3 f4 f5 f6 f7 a0 a1 a2 a3 id = Y at hY lY wJ
    obtain ⟨y0, y1, y2, y3, y4, y5, y6, y7, y8⟩ := Y
    generalize remR f0 f1 f2 f3 f4 f5 f6 f7 j0 j1 j2 j3 id = Z at hZ lZ wJ
    obtain ⟨z0, z1, z2, z3, z4, z5, z6, z7, z8⟩ := Z
    dsimp only at lY lZ wJ
    have hc := impl_CanBe_is r0 r1 r2 r3 r4 r5 r6 r7 f0 f1 f2 f3 f4 f5 f6 f7 (by omega) (by omega)
    have hv := impl_IsWider_is z0 z1 z2 z3 z4 z5 z6 z7 y0 y1 y2 y3 y4 y5 y6 y7 (by omega) (by omega) (by omega) (by omega)
    have hs := impl_IsWider_is p0 p1 p2 p3 p4 p5 p6 p7 s0 s1 s2 s3 s4 s5 s6 s7 (by omega) (by omega) (by omega) (by omega)
    have ht := impl_IsWider_is q0 q1 q2 q3 q4 q5 q6 q7 s0 s1 s2 s3 s4 s5 s6 s7 (by omega) (by omega) (by omega) (by omega)
    have hl := all_is u0 u1 u2 u3 u4 u5 u6 u7 v0 v1 v2 v3 v4 v5 v6 v7 p0 p1 p2 p3 p4 p5 p6 p7 q0 q1 q2 q3 q4 q5 q6 q7 s0 s1 s2 s3 s4 s5 s6 s7 s8 l (by omega) (by omega) (by omega) (by omega) (by omega) (by omega) (by omega) (by omega) (by omega) (by omega) bS (fun _ _ _ _ _ _ _ _ h => cS _ _ _ _ _ _ _ _ h)
    rw [decide_eq_false hb, if_neg (by decide), eD, Option.bind_some]
    dsimp only
    rw [hR, Option.bind_some]
    dsimp only
    rw [hX, Option.bind_some, hi, Option.bind_some, hd, Option.bind_some, hc, Option.bind_some, eM, Option.bind_some]
    dsimp only
    rw [hJ, Option.bind_some]
    dsimp only
    rw [hY, Option.bind_some]
    dsimp only
    rw [hZ, Option.bind_some]
    dsimp only
    rw [hv, Option.bind_some, eU, Option.bind_some]
    dsimp only
    rw [eP, Option.bind_some]
    dsimp only
    rw [hS, Option.bind_some]
    dsimp only
    rw [el, Option.bind_some, hs, Option.bind_some, ht, Option.bind_some]
    refine if_pos ⟨⟨rfl, kR, cR, fun hh => ?_, wS, by omega⟩, hl⟩
    rw [Bool.and_eq_true] at hh
    have h2 := hh.2
    rw [kR] at h2
    simp only [Bool.and_eq_true, decide_eq_true_eq] at h2
    exact wJ h2.1 h2.2.2.1 h2.2.2.2 hh.1

theorem FnRemembered (l0 : List Int) (hm0 : l0.length ≤ maxLen) (hw0 : ∀ y ∈ l0, (fun n : Int => (Lit.int .u8 n).wf = true) y) : ∃ k, laws_FnRemembered.f k l0 = some true :=
  (laws_FnRemembered.F_co l0).rounds (law_FnRemembered l0 hm0 hw0)
end Go.Proofs.Ytlodmdmcgalkmaa.PFnRemembered.Pure
