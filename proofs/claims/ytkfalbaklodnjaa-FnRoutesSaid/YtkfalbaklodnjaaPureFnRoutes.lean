/-
  The law FnRoutes answers true for every input. It has no conditions.
-/
import Derived.Test.YtkfalbaklodnjaaShFnRoutes
import Derived.Test.YtkfalbaklodnjaaEqFnRoutes
import Derived.Test.YtkfalbaklodnjaaBase
set_option linter.unusedVariables false
set_option linter.unusedSimpArgs false
namespace Go.Proofs.Ytkfalbaklodnjaa.PFnRoutes.Pure
open Go.RowKit Go.Proofs.YtkfalbaklodnjaaW.PrintWords Go.Proofs.YtkfalbaklodnjaaW.PrintLast Go.Proofs.YtkfalbaklodnjaaW.PrintMore Go.Proofs.Ytkfalbaklodnjaa.PFnRoutes Go.Proofs.Ytkfalbaklodnjaa.Lim Go.Proofs.Ytkfalbaklodnjaa.Base
set_option maxRecDepth 100000

theorem big_is (l : List Int) : laws_big.f l = some (decide ((l.length : Int) > 1048576)) := rfl

/-- A cursor's place in the bytes that it reads. -/
def CO (b : List Int) (i : Int) : Prop := 0 ≤ i ∧ i ≤ (b.length : Int) ∧ b.length ≤ 1048576
theorem and255 (x : Int) : 0 ≤ Go.bits .and .i64 x 255 ∧ Go.bits .and .i64 x 255 ≤ 255 := by
  have h : (BitVec.ofInt 64 255).toNat = 255 := by decide
  have h2 : (BitVec.ofInt 64 x &&& BitVec.ofInt 64 255).toNat ≤ 255 := by
    rw [BitVec.toNat_and, h]
    exact Nat.and_le_right
  show 0 ≤ IntKind.i64.wrap ((BitVec.ofInt 64 x &&& BitVec.ofInt 64 255).toNat : Int) ∧ IntKind.i64.wrap ((BitVec.ofInt 64 x &&& BitVec.ofInt 64 255).toNat : Int) ≤ 255
  rw [IntKind.wrap_i64]
  omega
theorem l1Byte_is (b : List Int) (i h : Int) (c : CO b i) : ∃ r i' h', spec_l1Byte.f b i h = some (r, i', h') ∧ 0 ≤ r ∧ r ≤ 255 ∧ CO b i' := by
  obtain ⟨c0, c1, c2⟩ := c
  unfold spec_l1Byte.f
  by_cases hi : i < (b.length : Int)
  · rw [if_pos hi, if_pos c0]
    refine ⟨_, _, _, rfl, (and255 _).1, (and255 _).2, ?_⟩
    rw [wrap_in _ (by omega)]
    exact ⟨by omega, by omega, c2⟩
  · rw [if_neg hi]
    exact ⟨_, _, _, rfl, (and255 _).1, (and255 _).2, c0, c1, c2⟩
theorem l1Below_is (b : List Int) (i h n : Int) (c : CO b i) (hn : n ≤ 10000000) : ∃ r i' h', spec_l1Below.f b i h n = some (r, i', h') ∧ 0 ≤ r ∧ (0 < n → r < n) ∧ (n ≤ 0 → r = 0) ∧ CO b i' := by
  unfold spec_l1Below.f
  by_cases h0 : n ≤ 0
  · rw [if_pos h0]
    exact ⟨0, i, h, rfl, by omega, fun _ => by omega, fun _ => rfl, c⟩
  · rw [if_neg h0]
    by_cases h1 : n ≤ 256
    · obtain ⟨r, i', h', e, r0, r1, c'⟩ := l1Byte_is b i h c
      rw [if_pos h1, e, Option.bind_some, if_neg (by omega), Int.tmod_eq_emod_of_nonneg r0]
      exact ⟨_, _, _, rfl, Int.emod_nonneg _ (by omega), fun _ => Int.emod_lt_of_pos _ (by omega), fun _ => by omega, c'⟩
    · obtain ⟨r, i', h', e, r0, r1, c'⟩ := l1Byte_is b i h c
      obtain ⟨s, i2, h2, e2, s0, s1, c2⟩ := l1Byte_is b i' h' c'
      obtain ⟨t, i3, h3, e3, t0, t1, c3⟩ := l1Byte_is b i2 h2 c2
      rw [if_neg h1, e, Option.bind_some]
      dsimp only
      rw [e2, Option.bind_some]
      dsimp only
      rw [e3, Option.bind_some, if_neg (by omega)]
      dsimp only
      rw [wrap_in (r * 65536) (by omega), wrap_in (s * 256) (by omega), wrap_in (r * 65536 + s * 256) (by omega), wrap_in (r * 65536 + s * 256 + t) (by omega), Int.tmod_eq_emod_of_nonneg (by omega)]
      exact ⟨_, _, _, rfl, Int.emod_nonneg _ (by omega), fun _ => Int.emod_lt_of_pos _ (by omega), fun _ => by omega, c3⟩
theorem below_pos (b : List Int) (i h n : Int) (c : CO b i) (h0 : 0 < n) (hn : n ≤ 10000000) : ∃ r i' h', spec_l1Below.f b i h n = some (r, i', h') ∧ 0 ≤ r ∧ r < n ∧ CO b i' := by
  obtain ⟨r, i', h', e, r0, r1, _, c'⟩ := l1Below_is b i h n c hn
  exact ⟨r, i', h', e, r0, r1 h0, c'⟩
theorem l1New_l0 (b : List Int) (hb : b.length ≤ 1048576) : ∀ (d i : Nat) (h : Int), i + d = b.length → ∃ h', spec_l1New.L0 b h (i : Int) = some (b, 0, h')
  | 0, i, h, hd => ⟨h, by rw [spec_l1New.L0_eq, if_neg (by omega)]⟩
  | d + 1, i, h, hd => by
    rw [spec_l1New.L0_eq, if_pos (by omega), if_pos (show (0 : Int) ≤ (i : Int) by omega), wrap_succ i (by omega)]
    by_cases h4 : (i : Int) < 4000
    · rw [if_pos h4]
      exact l1New_l0 b hb d (i + 1) _ (by omega)
    · rw [if_neg h4]
      exact ⟨h, rfl⟩
theorem l1New_is (b : List Int) (hb : b.length ≤ 1048576) : ∃ h', spec_l1New.F b = some (b, 0, h') ∧ CO b 0 := by
  obtain ⟨h', e⟩ := l1New_l0 b hb b.length 0 (wrap64 (193017 + (b.length : Int))) (by omega)
  exact ⟨h', by rw [spec_l1New.F_eq]; exact e, by unfold CO; omega⟩

theorem rdInt_at (l : List Int) (i : Nat) : rd l (i : Int) = l.getD i 0 := by simp [rd]
theorem dropInt (l : List Int) (i : Nat) (h : i < l.length) : l.drop i = rd l (i : Int) :: l.drop (i + 1) := by
  rw [rdInt_at, getD_get l i _ h]
  exact List.drop_eq_getElem_cons h

theorem l1Int_is (b : List Int) (i h : Int) (l : List Int) (c : CO b i) (h0 : 0 < l.length) (hn : l.length ≤ 1000) : ∃ r i' h', spec_l1Int.f b i h l = some (r, i', h') ∧ r ∈ l ∧ CO b i' := by
  obtain ⟨r, i', h', e, r0, r1, c'⟩ := below_pos b i h (l.length : Int) c (by omega) (by omega)
  unfold spec_l1Int.f
  rw [e, Option.bind_some]
  dsimp only
  rw [if_pos r0, if_pos r1]
  obtain ⟨j, rfl⟩ : ∃ j : Nat, r = j := ⟨r.toNat, by omega⟩
  refine ⟨_, _, _, rfl, ?_, c'⟩
  rw [show rd l (j : Int) = l[j]'(by omega) by simp [rd, show j < l.length by omega]]
  exact List.getElem_mem _

theorem l4Raw_is (b : List Int) (i h : Int) (c : CO b i) : ∃ r i' h', spec_l4Raw.f b i h = some (r, i', h') ∧ r ∈ ([-1, 0, 8, 50, 51, 1000, 9223372036854775807, -9223372036854775808] : List Int) ∧ CO b i' := by
  obtain ⟨r, i', h', e, hm, c'⟩ := l1Int_is b i h [-1, 0, 8, 50, 51, 1000, 9223372036854775807, -9223372036854775808] c (by decide) (by decide)
  unfold spec_l4Raw.f
  rw [e, Option.bind_some]
  exact ⟨r, i', h', rfl, hm, c'⟩

theorem rdStop_at (l : List S130) (i : Nat) : rd_T130 l (i : Int) = l.getD i z130 := by simp [rd_T130]
theorem dropStop (l : List S130) (i : Nat) (h : i < l.length) : l.drop i = rd_T130 l (i : Int) :: l.drop (i + 1) := by
  rw [rdStop_at, getD_get l i _ h]
  exact List.drop_eq_getElem_cons h

theorem l5Draw_is (b : List Int) (i h : Int) (c : CO b i) : ∃ x0 x1 i' h', spec_l5Draw.f b i h = some (x0, x1, i', h') ∧ CO b i' := by
  obtain ⟨r1, i1, h1, e1, _, _, c1⟩ := below_pos b i h 60 c (by omega) (by omega)
  obtain ⟨r2, i2, h2, e2, _, _, c2⟩ := below_pos b i1 h1 30 c1 (by omega) (by omega)
  unfold spec_l5Draw.f
  rw [e1, Option.bind_some]
  dsimp only
  rw [e2, Option.bind_some]
  exact ⟨_, _, i2, h2, rfl, c2⟩
theorem l5Any_is (b : List Int) (i h : Int) (c : CO b i) : ∃ x0 x1 i' h', spec_l5Any.f b i h = some (x0, x1, i', h') ∧ CO b i' := by
  obtain ⟨x0, x1, i1, h1, e1, c1⟩ := l5Draw_is b i h c
  obtain ⟨r2, i2, h2, e2, _, _, c2⟩ := below_pos b i1 h1 10 c1 (by omega) (by omega)
  unfold spec_l5Any.f
  rw [e1, Option.bind_some]
  dsimp only
  rw [e2, Option.bind_some]
  dsimp only
  by_cases s0 : r2 = 0
  · obtain ⟨v, i3, h3, e3, _, c3⟩ := l4Raw_is b i2 h2 c2
    rw [if_pos s0, e3, Option.bind_some]
    exact ⟨_, _, i3, h3, rfl, c3⟩
  · rw [if_neg s0]
    by_cases s1 : r2 = 1
    · obtain ⟨v, i3, h3, e3, _, c3⟩ := l1Int_is b i2 h2 [-1, 0, 100000, 100001] c2 (by decide) (by decide)
      rw [if_pos s1, e3, Option.bind_some]
      exact ⟨_, _, i3, h3, rfl, c3⟩
    · rw [if_neg s1]
      exact ⟨_, _, i2, h2, rfl, c2⟩
theorem l10Draw_l0 (b : List Int) : ∀ (n : Nat) (l : List S130) (t i h : Int), CO b i → n ≤ 1000 → l.length + n ≤ 1000 → ∃ l' i' h', spec_l10Draw.L0 l t (n : Int) b i h = some (l', i', h') ∧ CO b i' ∧ l'.length = l.length + n
  | 0, l, t, i, h, c, hn, hl => ⟨l, i, h, by rw [spec_l10Draw.L0_eq, if_neg (by omega)], c, rfl⟩
  | n + 1, l, t, i, h, c, hn, hl => by
    obtain ⟨r1, i1, h1, e1, _, _, c1⟩ := below_pos b i h 4 c (by omega) (by omega)
    obtain ⟨r2, i2, h2, e2, _, _, c2⟩ := below_pos b i1 h1 6 c1 (by omega) (by omega)
    obtain ⟨r3, i3, h3, e3, _, _, c3⟩ := below_pos b i2 h2 8 c2 (by omega) (by omega)
    rw [spec_l10Draw.L0_eq, if_pos (by omega), e1, Option.bind_some]
    dsimp only
    rw [e2, Option.bind_some]
    dsimp only
    rw [if_pos (by omega), e3, Option.bind_some]
    dsimp only
    rw [show wrap64 (((n + 1 : Nat) : Int) - 1) = (n : Int) by rw [wrap_in _ (by omega)]; omega]
    obtain ⟨l', i', h', e, c', hl'⟩ := l10Draw_l0 b n (l ++ [(⟨wrap64 (1 + r2), t, wrap64 (t + r1)⟩ : S130)]) (wrap64 (wrap64 (t + r1) + r3)) i3 h3 c3 (by omega) (by rw [List.length_append, List.length_singleton]; omega)
    rw [List.length_append, List.length_singleton] at hl'
    exact ⟨l', i', h', e, c', by omega⟩
theorem l10Any_is (b : List Int) (i h : Int) (c : CO b i) : ∃ l' i' h', spec_l10Any.F b i h = some (l', i', h') ∧ CO b i' ∧ l'.length ≤ 1000 := by
  obtain ⟨t, i1, h1, e1, _, _, c1⟩ := below_pos b i h 30 c (by omega) (by omega)
  obtain ⟨n, i2, h2, e2, n0, n1, c2⟩ := below_pos b i1 h1 5 c1 (by omega) (by omega)
  obtain ⟨m, hm⟩ : ∃ m : Nat, 1 + n = m := ⟨(1 + n).toNat, by omega⟩
  obtain ⟨l, i3, h3, e3, c3, hl⟩ := l10Draw_l0 b m [] t i2 h2 c2 (by omega) (by simp only [List.length_nil]; omega)
  have e4 : spec_l10Draw.F b i h = some (l, i3, h3) := by
    rw [spec_l10Draw.F_eq, e1, Option.bind_some]
    dsimp only
    rw [e2, Option.bind_some]
    dsimp only
    rw [wrap_in (1 + n) (by omega), hm]
    exact e3
  rw [List.length_nil] at hl
  have hl1 : 0 < (l.length : Int) := by omega
  have hl2 : l.length ≤ 1000 := by omega
  obtain ⟨r, i5, h5, e5, r0, r1, c5⟩ := below_pos b i3 h3 (l.length : Int) c3 hl1 (by omega)
  obtain ⟨s, i6, h6, e6, _, _, c6⟩ := below_pos b i5 h5 10 c5 (by omega) (by omega)
  rw [spec_l10Any.F_eq, e4, Option.bind_some]
  dsimp only
  rw [e5, Option.bind_some]
  dsimp only
  rw [e6, Option.bind_some]
  dsimp only
  by_cases s0 : s = 0
  · obtain ⟨v, i7, h7, e7, _, c7⟩ := l1Int_is b i6 h6 [0, 30, 31] c6 (by decide) (by decide)
    rw [if_pos s0, e7, Option.bind_some]
    dsimp only
    rw [if_pos r0, if_pos r1]
    exact ⟨_, i7, h7, rfl, c7, by rw [List.length_set]; exact hl2⟩
  · rw [if_neg s0]
    by_cases s1 : s = 1
    · obtain ⟨v, i7, h7, e7, _, c7⟩ := l4Raw_is b i6 h6 c6
      rw [if_pos s1, e7, Option.bind_some]
      dsimp only
      rw [if_pos r0, if_pos r1]
      exact ⟨_, i7, h7, rfl, c7, by rw [List.length_set]; exact hl2⟩
    · rw [if_neg s1]
      by_cases s2 : s = 2
      · obtain ⟨v, i7, h7, e7, _, c7⟩ := l1Int_is b i6 h6 [-1, 100000, 100001] c6 (by decide) (by decide)
        rw [if_pos s2, e7, Option.bind_some]
        dsimp only
        rw [if_pos r0, if_pos r1]
        exact ⟨_, i7, h7, rfl, c7, by rw [List.length_set]; exact hl2⟩
      · rw [if_neg s2]
        by_cases s3 : s = 3
        · rw [if_pos s3]
          exact ⟨_, i6, h6, rfl, c6, by simp⟩
        · rw [if_neg s3]
          exact ⟨_, i6, h6, rfl, c6, hl2⟩
theorem drawLeftBetween_is (b : List Int) (hb : b.length ≤ 1048576) : ∃ l s0 s1, spec_DrawLeftBetween.F b = some (l, s0, s1) ∧ l.length ≤ 1000 := by
  obtain ⟨h0, e0, c0⟩ := l1New_is b hb
  obtain ⟨l, i1, h1, e1, c1, hl⟩ := l10Any_is b 0 h0 c0
  obtain ⟨s0, s1, i2, h2, e2, _⟩ := l5Any_is b i1 h1 c1
  rw [spec_DrawLeftBetween.F_eq, e0, Option.bind_some]
  dsimp only
  rw [e1, Option.bind_some]
  dsimp only
  rw [e2, Option.bind_some]
  exact ⟨l, s0, s1, rfl, hl⟩

theorem l1Once_is (b : List Int) (i h n : Int) (c : CO b i) (h0 : 0 < n) (hn : n ≤ 10000000) : ∃ r i' h', spec_l1Once.f b i h n = some (r, i', h') ∧ CO b i' := by
  obtain ⟨r, i', h', e, r0, r1, c'⟩ := below_pos b i h n c h0 hn
  unfold spec_l1Once.f
  rw [e, Option.bind_some]
  exact ⟨_, i', h', rfl, c'⟩

theorem l7Some_l0 (b : List Int) (hi q : Int) (hq : 0 < q ∧ q ≤ 1000) (hh : hi ≤ 1000) : ∀ (d : Nat) (l : List Int) (x i h : Int), CO b i → 0 ≤ x → x + d = hi + 1 → l.length + d ≤ 1000 → ∃ l' i' h', spec_l7Some.L0 hi q l x b i h = some (l', i', h') ∧ CO b i' ∧ l'.length ≤ 1000
  | 0, l, x, i, h, c, h0, hx, hl => ⟨l, i, h, by rw [spec_l7Some.L0_eq, if_neg (by omega)], c, by omega⟩
  | d + 1, l, x, i, h, c, h0, hx, hl => by
    obtain ⟨r, i1, h1, e1, c1⟩ := l1Once_is b i h q c (by omega) (by omega)
    rw [spec_l7Some.L0_eq, if_pos (by omega), e1, Option.bind_some]
    dsimp only
    rw [show wrap64 (x + 1) = x + 1 from wrap_in _ (by omega)]
    by_cases c2 : r = true
    · rw [if_pos c2, if_pos (by omega)]
      exact l7Some_l0 b hi q hq hh d _ (x + 1) i1 h1 c1 (by omega) (by omega) (by rw [List.length_append, List.length_singleton]; omega)
    · rw [if_neg c2]
      exact l7Some_l0 b hi q hq hh d l (x + 1) i1 h1 c1 (by omega) (by omega) (by omega)
theorem l7Some_is (b : List Int) (i h lo hi q : Int) (c : CO b i) (hq : 0 < q ∧ q ≤ 1000) (hlo : 0 ≤ lo) (hlh : lo ≤ hi) (hh : hi ≤ 900) : ∃ l' i' h', spec_l7Some.F b i h lo hi q = some (l', i', h') ∧ CO b i' ∧ l'.length ≤ 1000 := by
  rw [spec_l7Some.F_eq]
  exact l7Some_l0 b hi q hq (by omega) (hi + 1 - lo).toNat [] lo i h c hlo (by omega) (by simp only [List.length_nil]; omega)
theorem l7Draw_is (b : List Int) (i h n : Int) (c : CO b i) : ∃ r1 rc r3 r4 rp r6 r7 i' h', spec_l7Draw.F b i h n = some (n, r1, rc, r3, r4, rp, r6, r7, i', h') ∧ CO b i' ∧ rc.length ≤ 1000 ∧ rp.length ≤ 1000 := by
  obtain ⟨x1, i1, h1, e1, _, _, c1⟩ := below_pos b i h 12 c (by omega) (by omega)
  obtain ⟨x2, i2, h2, e2, _, _, c2⟩ := below_pos b i1 h1 8 c1 (by omega) (by omega)
  obtain ⟨rc, i3, h3, e3, c3, hc⟩ := l7Some_is b i2 h2 0 7 3 c2 (by omega) (by omega) (by omega) (by omega)
  obtain ⟨x4, i4, h4, e4, _, _, c4⟩ := below_pos b i3 h3 15 c3 (by omega) (by omega)
  obtain ⟨rp, i5, h5, e5, c5, hp⟩ := l7Some_is b i4 h4 1 6 2 c4 (by omega) (by omega) (by omega) (by omega)
  obtain ⟨s0, s1, i6, h6, e6, c6⟩ := l5Draw_is b i5 h5 c5
  rw [spec_l7Draw.F_eq, e1, Option.bind_some]
  dsimp only
  rw [e2, Option.bind_some]
  dsimp only
  rw [e3, Option.bind_some]
  dsimp only
  rw [e4, Option.bind_some]
  dsimp only
  rw [e5, Option.bind_some]
  dsimp only
  rw [e6, Option.bind_some]
  exact ⟨_, rc, _, _, rp, _, _, i6, h6, rfl, c6, hc, hp⟩
theorem l7Any_is (b : List Int) (i h : Int) (c : CO b i) : ∃ r0 r1 rc r3 r4 rp r6 r7 i' h', spec_l7Any.F b i h = some (r0, r1, rc, r3, r4, rp, r6, r7, i', h') ∧ CO b i' ∧ rc.length ≤ 1000 ∧ rp.length ≤ 1000 := by
  obtain ⟨n, i1, h1, e1, _, _, c1⟩ := below_pos b i h 9 c (by omega) (by omega)
  obtain ⟨r1, rc, r3, r4, rp, r6, r7, i2, h2, e2, c2, hc, hp⟩ := l7Draw_is b i1 h1 (wrap64 (1 + n)) c1
  obtain ⟨s, i3, h3, e3, _, _, c3⟩ := below_pos b i2 h2 14 c2 (by omega) (by omega)
  rw [spec_l7Any.F_eq, e1, Option.bind_some]
  dsimp only
  rw [e2, Option.bind_some]
  dsimp only
  rw [e3, Option.bind_some]
  dsimp only
  by_cases s0 : s = 0
  · obtain ⟨v, i4, h4, e4, _, c4⟩ := l1Int_is b i3 h3 [0, 999, 1000] c3 (by decide) (by decide)
    rw [if_pos s0, e4, Option.bind_some]
    exact ⟨_, _, _, _, _, _, _, _, i4, h4, rfl, c4, hc, hp⟩
  rw [if_neg s0]
  by_cases s1 : s = 1
  · obtain ⟨v, i4, h4, e4, _, c4⟩ := l1Int_is b i3 h3 [0, 8, 9] c3 (by decide) (by decide)
    rw [if_pos s1, e4, Option.bind_some]
    exact ⟨_, _, _, _, _, _, _, _, i4, h4, rfl, c4, hc, hp⟩
  rw [if_neg s1]
  by_cases s2 : s = 2
  · obtain ⟨v, i4, h4, e4, _, c4⟩ := l1Int_is b i3 h3 [-1, 3, 8] c3 (by decide) (by decide)
    rw [if_pos s2, e4, Option.bind_some]
    exact ⟨_, _, _, _, _, _, _, _, i4, h4, rfl, c4, by simp, hp⟩
  rw [if_neg s2]
  by_cases s3 : s = 3
  · obtain ⟨v, i4, h4, e4, _, c4⟩ := l4Raw_is b i3 h3 c3
    rw [if_pos s3, e4, Option.bind_some]
    exact ⟨_, _, _, _, _, _, _, _, i4, h4, rfl, c4, hc, hp⟩
  rw [if_neg s3]
  by_cases s4 : s = 4
  · obtain ⟨v, i4, h4, e4, _, c4⟩ := l4Raw_is b i3 h3 c3
    rw [if_pos s4, e4, Option.bind_some]
    exact ⟨_, _, _, _, _, _, _, _, i4, h4, rfl, c4, hc, hp⟩
  rw [if_neg s4]
  by_cases s5 : s = 5
  · obtain ⟨v, i4, h4, e4, _, c4⟩ := l1Int_is b i3 h3 [0, 30, 31] c3 (by decide) (by decide)
    rw [if_pos s5, e4, Option.bind_some]
    exact ⟨_, _, _, _, _, _, _, _, i4, h4, rfl, c4, hc, by simp⟩
  rw [if_neg s5]
  by_cases s6 : s = 6
  · obtain ⟨v0, v1, i4, h4, e4, c4⟩ := l5Any_is b i3 h3 c3
    rw [if_pos s6, e4, Option.bind_some]
    exact ⟨_, _, _, _, _, _, _, _, i4, h4, rfl, c4, hc, hp⟩
  rw [if_neg s6]
  by_cases s7 : s = 7
  · rw [if_pos s7]
    exact ⟨_, _, _, _, _, _, _, _, i3, h3, rfl, c3, by simp, by simp⟩
  · rw [if_neg s7]
    exact ⟨_, _, _, _, _, _, _, _, i3, h3, rfl, c3, hc, hp⟩
theorem drawAlongRoute_is (b : List Int) (hb : b.length ≤ 1048576) : ∃ r0 r1 rc r3 r4 rp r6 r7 l, spec_DrawAlongRoute.F b = some (r0, r1, rc, r3, r4, rp, r6, r7, l) ∧ rc.length ≤ 1000 ∧ rp.length ≤ 1000 ∧ l.length ≤ 1000 := by
  obtain ⟨h0, e0, c0⟩ := l1New_is b hb
  obtain ⟨r0, r1, rc, r3, r4, rp, r6, r7, i1, h1, e1, c1, hc, hp⟩ := l7Any_is b 0 h0 c0
  obtain ⟨l, i2, h2, e2, _, hl⟩ := l10Any_is b i1 h1 c1
  rw [spec_DrawAlongRoute.F_eq, e0, Option.bind_some]
  dsimp only
  rw [e1, Option.bind_some]
  dsimp only
  rw [e2, Option.bind_some]
  exact ⟨r0, r1, rc, r3, r4, rp, r6, r7, l, rfl, hc, hp, hl⟩

def spanB (a b : Int) : Bool := inR a 0 100000 && inR b 0 100000 && decide (a ≤ b)
def maxI (a b : Int) : Int := if b > a then b else a
def minI (a b : Int) : Int := if b < a then b else a
theorem maxI_comm (a b : Int) : maxI a b = maxI b a := by unfold maxI; split <;> split <;> omega
theorem minI_comm (a b : Int) : minI a b = minI b a := by unfold minI; split <;> split <;> omega
def meetB (a0 a1 b0 b1 : Int) : Bool := spanB a0 a1 && spanB b0 b1 && spanB (maxI a0 b0) (minI a1 b1)
theorem meetB_comm (a0 a1 b0 b1 : Int) : meetB a0 a1 b0 b1 = meetB b0 b1 a0 a1 := by
  unfold meetB
  rw [maxI_comm a0, minI_comm a1, Bool.and_comm (spanB a0 a1)]

def Asc (l : List Int) : Prop := l.Pairwise (fun x y => x < y)
theorem asc_ext : ∀ (a b : List Int), Asc a → Asc b → (∀ x, x ∈ a ↔ x ∈ b) → a = b
  | [], [], _, _, _ => rfl
  | [], y :: b, _, _, h => by have := (h y).2 (List.mem_cons_self ..); cases this
  | x :: a, [], _, _, h => by have := (h x).1 (List.mem_cons_self ..); cases this
  | x :: a, y :: b, ha, hb, h => by
    have ha' := List.pairwise_cons.1 ha
    have hb' := List.pairwise_cons.1 hb
    have e : x = y := by
      rcases List.mem_cons.1 ((h x).1 (List.mem_cons_self ..)) with h1 | h1
      · exact h1
      · rcases List.mem_cons.1 ((h y).2 (List.mem_cons_self ..)) with h2 | h2
        · exact h2.symm
        · have := hb'.1 x h1
          have := ha'.1 y h2
          omega
    subst e
    congr 1
    refine asc_ext a b ha'.2 hb'.2 (fun z => ⟨fun hz => ?_, fun hz => ?_⟩)
    · rcases List.mem_cons.1 ((h z).1 (List.mem_cons_of_mem _ hz)) with h1 | h1
      · have := ha'.1 z hz; omega
      · exact h1
    · rcases List.mem_cons.1 ((h z).2 (List.mem_cons_of_mem _ hz)) with h1 | h1
      · have := hb'.1 z hz; omega
      · exact h1
def putA : List Int → Int → List Int
  | [], n => [n]
  | x :: r, n => if x < n then x :: putA r n else if x = n then x :: r else n :: x :: r
theorem putA_mem (n z : Int) : ∀ l : List Int, z ∈ putA l n ↔ z = n ∨ z ∈ l
  | [] => by simp [putA]
  | x :: r => by
    simp only [putA]
    by_cases h1 : x < n
    · rw [if_pos h1, List.mem_cons, putA_mem n z r, List.mem_cons]
      exact ⟨fun h => by rcases h with h | h | h <;> simp [h], fun h => by rcases h with h | h | h <;> simp [h]⟩
    · rw [if_neg h1]
      by_cases h2 : x = n
      · rw [if_pos h2, List.mem_cons]
        refine ⟨fun h => .inr h, fun h => ?_⟩
        rcases h with h | h
        · exact .inl (by omega)
        · exact h
      · rw [if_neg h2, List.mem_cons]
theorem putA_asc (n : Int) : ∀ l : List Int, Asc l → Asc (putA l n)
  | [], _ => List.pairwise_singleton _ _
  | x :: r, h => by
    have h' := List.pairwise_cons.1 h
    simp only [putA]
    by_cases h1 : x < n
    · rw [if_pos h1]
      refine List.pairwise_cons.2 ⟨fun z hz => ?_, putA_asc n r h'.2⟩
      rcases (putA_mem n z r).1 hz with e | e
      · omega
      · exact h'.1 z e
    · rw [if_neg h1]
      by_cases h2 : x = n
      · rw [if_pos h2]; exact h
      · rw [if_neg h2]
        refine List.pairwise_cons.2 ⟨fun z hz => ?_, h⟩
        rcases List.mem_cons.1 hz with e | e
        · omega
        · have := h'.1 z e; omega
theorem putA_len (n : Int) : ∀ l : List Int, (putA l n).length ≤ l.length + 1
  | [] => by simp [putA]
  | x :: r => by
    simp only [putA]
    by_cases h1 : x < n
    · rw [if_pos h1, List.length_cons, List.length_cons]
      have := putA_len n r
      omega
    · rw [if_neg h1]
      split <;> simp

theorem sortedA_mem (l : List Int) (z : Int) : z ∈ Srt.sorted l ↔ z ∈ l := (List.mergeSort_perm l _).mem_iff
theorem sortedA_pw (l : List Int) : (Srt.sorted l).Pairwise (fun x y => x ≤ y) := by
  have h := List.pairwise_mergeSort (le := fun x y : Int => decide (x ≤ y)) (fun a b c h1 h2 => by simp only [decide_eq_true_eq] at *; omega) (fun a b => by simp only [Bool.or_eq_true, decide_eq_true_eq]; omega) l
  exact h.imp (fun h => by simpa using h)
theorem get_le {l : List Int} (h : l.Pairwise (fun x y => x ≤ y)) {i j : Nat} (hij : i ≤ j) (hj : j < l.length) : l.toArray[i]! ≤ l.toArray[j]! := by
  rcases Nat.lt_or_eq_of_le hij with hlt | rfl
  · have := List.pairwise_iff_getElem.1 h i j (by omega) hj hlt
    simpa [show i < l.length by omega, hj] using this
  · exact Int.le_refl _
theorem compact_asc {l : List Int} (h : l.Pairwise (fun x y => x ≤ y)) : Asc (Go.Lib.compact l) := by
  unfold Asc Go.Lib.compact Go.Lib.compactUpTo
  rw [List.pairwise_map]
  refine List.Pairwise.imp_of_mem ?_ (List.Pairwise.filter _ List.pairwise_lt_range)
  intro i j hi hj hij
  rw [List.mem_filter, List.mem_range] at hi hj
  have hk := hj.2
  unfold Go.Lib.keeps at hk
  rw [decide_eq_true_iff] at hk
  have hne := hk.resolve_left (by omega)
  have h1 := get_le h (show i ≤ j - 1 by omega) (by omega)
  have h2 := get_le h (show j - 1 ≤ j by omega) hj.1
  omega
theorem compact_mem (l : List Int) (z : Int) : z ∈ Go.Lib.compact l ↔ z ∈ l := by
  unfold Go.Lib.compact Go.Lib.compactUpTo
  rw [List.mem_map]
  constructor
  · rintro ⟨j, hj, rfl⟩
    rw [List.mem_filter, List.mem_range] at hj
    simp [hj.1]
  · intro hz
    obtain ⟨i, hi, rfl⟩ := List.getElem_of_mem hz
    have key : ∀ (n i : Nat), i ≤ n → (hi : i < l.length) → ∃ j, j ∈ (List.range l.length).filter (Go.Lib.keeps l.toArray) ∧ l.toArray[j]! = l[i] := by
      intro n
      induction n with
      | zero =>
        intro i hin hi
        have e : i = 0 := by omega
        subst e
        exact ⟨0, by rw [List.mem_filter, List.mem_range]; exact ⟨hi, by simp [Go.Lib.keeps]⟩, by simp [hi]⟩
      | succ n ih =>
        intro i hin hi
        by_cases hk : Go.Lib.keeps l.toArray i = true
        · exact ⟨i, by rw [List.mem_filter, List.mem_range]; exact ⟨hi, hk⟩, by simp [hi]⟩
        · unfold Go.Lib.keeps at hk
          rw [decide_eq_true_iff, not_or] at hk
          have h2 : l.toArray[i]! = l.toArray[i - 1]! := Classical.byContradiction (fun hh => hk.2 hh)
          obtain ⟨j, hj, e⟩ := ih (i - 1) (by omega) (by omega)
          refine ⟨j, hj, e.trans ?_⟩
          simpa [hi, show i - 1 < l.length by omega] using h2.symm
    exact key i i (Nat.le_refl _) hi
theorem united_is {a b : List Int} (hb : Asc b) (h : ∀ z, z ∈ a ↔ z ∈ b) : Go.Lib.compact (Srt.sorted a) = b :=
  asc_ext _ _ (compact_asc (sortedA_pw a)) hb (fun z => by rw [compact_mem, sortedA_mem]; exact h z)

def okStop (l : List S130) (i : Nat) : Prop := inR (rd_T130 l i).f0 1 30 = true ∧ ¬ (rd_T130 l i).f1 < 0 ∧ ¬ (rd_T130 l i).f1 > (rd_T130 l i).f2 ∧ ¬ (rd_T130 l i).f2 > 100000 ∧ ((i : Int) > 0 → ¬ (rd_T130 l i).f1 < (rd_T130 l ((i : Int) - 1)).f2)
noncomputable def isRoute (l : List S130) : Bool := allF (okStop l) l.length 0 && inR (l.length : Int) 1 10

def leftS (s0 s1 : Int) : List S130 → List Int → List Int
  | [], acc => acc
  | x :: r, acc => leftS s0 s1 r (if meetB s0 s1 x.f1 x.f2 = true ∨ r.length = 0 then putA acc x.f0 else acc)
def leftI (s0 s1 : Int) : List S130 → List Int → List Int
  | [], acc => acc
  | x :: r, acc => leftI s0 s1 r (if meetB s0 s1 x.f1 x.f2 = true then acc ++ [x.f0] else acc)
theorem leftS_asc (s0 s1 : Int) : ∀ (l : List S130) (acc : List Int), Asc acc → Asc (leftS s0 s1 l acc)
  | [], acc, h => h
  | x :: r, acc, h => by
    rw [leftS]
    refine leftS_asc s0 s1 r _ ?_
    split
    · exact putA_asc _ _ h
    · exact h
theorem leftS_len (s0 s1 : Int) : ∀ (l : List S130) (acc : List Int), (leftS s0 s1 l acc).length ≤ acc.length + l.length
  | [], acc => Nat.le_refl _
  | x :: r, acc => by
    rw [leftS, List.length_cons]
    have h1 := leftS_len s0 s1 r (if meetB s0 s1 x.f1 x.f2 = true ∨ r.length = 0 then putA acc x.f0 else acc)
    have h2 := putA_len x.f0 acc
    split at h1 <;> rename_i hc
    · rw [if_pos hc]; omega
    · rw [if_neg hc]; omega
theorem leftI_len (s0 s1 : Int) : ∀ (l : List S130) (acc : List Int), (leftI s0 s1 l acc).length ≤ acc.length + l.length
  | [], acc => Nat.le_refl _
  | x :: r, acc => by
    rw [leftI, List.length_cons]
    by_cases hc : meetB s0 s1 x.f1 x.f2 = true
    · rw [if_pos hc]
      have h1 := leftI_len s0 s1 r (acc ++ [x.f0])
      rw [List.length_append, List.length_singleton] at h1
      omega
    · rw [if_neg hc]
      have h1 := leftI_len s0 s1 r acc
      omega
theorem leftI_mem (s0 s1 z : Int) : ∀ (l : List S130) (acc : List Int), z ∈ leftI s0 s1 l acc ↔ z ∈ acc ∨ ∃ y ∈ l, meetB s0 s1 y.f1 y.f2 = true ∧ y.f0 = z
  | [], acc => by simp [leftI]
  | x :: r, acc => by
    rw [leftI]
    by_cases hc : meetB s0 s1 x.f1 x.f2 = true
    · rw [if_pos hc, leftI_mem s0 s1 z r]
      constructor
      · rintro (h | ⟨y, hy, h⟩)
        · rcases List.mem_append.1 h with h | h
          · exact .inl h
          · exact .inr ⟨x, List.mem_cons_self .., hc, (List.mem_singleton.1 h).symm⟩
        · exact .inr ⟨y, List.mem_cons_of_mem _ hy, h⟩
      · rintro (h | ⟨y, hy, h⟩)
        · exact .inl (List.mem_append_left _ h)
        · rcases List.mem_cons.1 hy with e | e
          · exact .inl (List.mem_append_right _ (by rw [← h.2, e]; exact List.mem_singleton.2 rfl))
          · exact .inr ⟨y, e, h⟩
    · rw [if_neg hc, leftI_mem s0 s1 z r]
      constructor
      · rintro (h | ⟨y, hy, h⟩)
        · exact .inl h
        · exact .inr ⟨y, List.mem_cons_of_mem _ hy, h⟩
      · rintro (h | ⟨y, hy, h⟩)
        · exact .inl h
        · rcases List.mem_cons.1 hy with e | e
          · rw [e] at h; exact absurd h.1 hc
          · exact .inr ⟨y, e, h⟩
theorem leftS_mem (s0 s1 z : Int) : ∀ (l : List S130) (acc : List Int), z ∈ leftS s0 s1 l acc ↔ z ∈ acc ∨ (∃ y ∈ l, meetB s0 s1 y.f1 y.f2 = true ∧ y.f0 = z) ∨ (0 < l.length ∧ (l.getD (l.length - 1) z130).f0 = z)
  | [], acc => by simp [leftS]
  | x :: r, acc => by
    have hlast : (0 < (x :: r).length ∧ ((x :: r).getD ((x :: r).length - 1) z130).f0 = z) ↔ (if r.length = 0 then x.f0 = z else (0 < r.length ∧ (r.getD (r.length - 1) z130).f0 = z)) := by
      cases r with
      | nil => simp
      | cons y q => simp
    rw [leftS, hlast, leftS_mem s0 s1 z r]
    have hp := putA_mem x.f0 z acc
    by_cases hr : r.length = 0
    · have hr0 : r = [] := List.eq_nil_of_length_eq_zero hr
      subst hr0
      rw [if_pos (.inr hr), if_pos hr, hp]
      constructor
      · rintro ((h | h) | h | h)
        · exact .inr (.inr h.symm)
        · exact .inl h
        · obtain ⟨y, hy, _⟩ := h; cases hy
        · exact absurd h.1 (by simp)
      · rintro (h | ⟨y, hy, h⟩ | h)
        · exact .inl (.inr h)
        · rcases List.mem_cons.1 hy with e | e
          · exact .inl (.inl (by rw [← h.2, e]))
          · cases e
        · exact .inl (.inl h.symm)
    · rw [if_neg hr]
      by_cases hc : meetB s0 s1 x.f1 x.f2 = true
      · rw [if_pos (.inl hc), hp]
        constructor
        · rintro ((h | h) | ⟨y, hy, h⟩ | h)
          · exact .inr (.inl ⟨x, List.mem_cons_self .., hc, h.symm⟩)
          · exact .inl h
          · exact .inr (.inl ⟨y, List.mem_cons_of_mem _ hy, h⟩)
          · exact .inr (.inr h)
        · rintro (h | ⟨y, hy, h⟩ | h)
          · exact .inl (.inr h)
          · rcases List.mem_cons.1 hy with e | e
            · exact .inl (.inl (by rw [← h.2, e]))
            · exact .inr (.inl ⟨y, e, h⟩)
          · exact .inr (.inr h)
      · rw [if_neg (fun hh => hh.elim hc hr)]
        constructor
        · rintro (h | ⟨y, hy, h⟩ | h)
          · exact .inl h
          · exact .inr (.inl ⟨y, List.mem_cons_of_mem _ hy, h⟩)
          · exact .inr (.inr h)
        · rintro (h | ⟨y, hy, h⟩ | h)
          · exact .inl h
          · rcases List.mem_cons.1 hy with e | e
            · rw [e] at h; exact absurd h.1 hc
            · exact .inr (.inl ⟨y, e, h⟩)
          · exact .inr (.inr h)
noncomputable def leftBetween (l : List S130) (s0 s1 : Int) : List Int := if isRoute l = true ∧ spanB s0 s1 = true then leftS s0 s1 l [] else []
theorem route_len {l : List S130} (h : isRoute l = true) : 1 ≤ l.length ∧ l.length ≤ 10 := by
  unfold isRoute at h
  rw [Bool.and_eq_true, inR_iff] at h
  omega
theorem leftBetween_len (l : List S130) (s0 s1 : Int) : (leftBetween l s0 s1).length ≤ 10 := by
  unfold leftBetween
  by_cases h : isRoute l = true ∧ spanB s0 s1 = true
  · rw [if_pos h]
    have h1 := leftS_len s0 s1 l []
    have h2 := (route_len h.1).2
    simp at h1
    omega
  · rw [if_neg h]
    simp

theorem inRange (a b c : Int) : impl_InRange.f a b c = some (inR a b c) := by
  unfold impl_InRange.f inR
  by_cases h : b ≤ a <;> simp [h]

theorem impl_IsRoute_l0 (l : List S130) (hn : l.length ≤ 1048576) : ∀ (d i : Nat), i + d = l.length → impl_IsRoute.L0 l l (l.length : Int) (i : Int) = some (allF (okStop l) l.length i)
  | 0, i, h => by rw [impl_IsRoute.L0_eq, if_neg (by omega), allF_end (by omega)]; first | done | rfl | simp [inRange, inR]
  | d + 1, i, h => by
    have hi : i < l.length := by omega
    have ih := impl_IsRoute_l0 l hn d (i + 1) (by omega)
    rw [impl_IsRoute.L0_eq]
    simp only [wrap_succ i (by omega), wrap_pred i (by omega), ih, inRange, Option.bind_some]
    by_cases hp_ : okStop l i
    · rw [allF_yes hp_]
      simp only [okStop] at hp_
      obtain ⟨h1_, h2_, h3_, h4_, h5_⟩ := hp_
      repeat' split
      all_goals first
        | rfl
        | (exfalso; first | contradiction | omega)
    · rw [allF_no hi hp_]
      repeat' split
      all_goals first
        | rfl
        | (simp; done)
        | (exfalso; first | contradiction | omega)
        | (exfalso; apply hp_; simp only [okStop]; (repeat' constructor) <;> first | assumption | (intro _; omega) | omega)

theorem impl_IsRoute_is (l : List S130) (hn : l.length ≤ 1048576) : impl_IsRoute.F l = some (isRoute l) := by
  rw [impl_IsRoute.F_eq, isRoute, inRange, Option.bind_some]
  by_cases h : inR (l.length : Int) 1 10 = true
  · rw [if_pos h, h, Bool.and_true]
    exact impl_IsRoute_l0 l hn l.length 0 (by omega)
  · rw [if_neg h, Bool.eq_false_iff.2 h, Bool.and_false]

theorem impl_Meet_is (a0 a1 b0 b1 : Int) : ∃ u v, impl_Meet.f a0 a1 b0 b1 = some (u, v, meetB a0 a1 b0 b1) := by
  have hs : ∀ a b, impl_IsSpan.f a b = some (spanB a b) := fun a b => by
    unfold impl_IsSpan.f spanB
    simp only [inRange, Option.bind_some]
    cases inR a 0 100000 <;> cases inR b 0 100000 <;> simp
  have h1 : ∀ a b : Int, mx a b = maxI a b := fun a b => by unfold mx maxI; first | rfl | (split <;> rfl)
  have h2 : ∀ a b : Int, mn a b = minI a b := fun a b => by unfold mn minI; first | rfl | (split <;> rfl)
  unfold impl_Meet.f meetB
  rw [h1, h2, hs, Option.bind_some, hs, Option.bind_some, hs, Option.bind_some]
  cases spanB a0 a1 <;> cases spanB b0 b1 <;> cases spanB (maxI a0 b0) (minI a1 b1) <;> exact ⟨_, _, rfl⟩
theorem impl_Span_is (a b : Int) : impl_IsSpan.f a b = some (spanB a b) := by
  unfold impl_IsSpan.f spanB
  simp only [inRange, Option.bind_some]
  cases inR a 0 100000 <;> cases inR b 0 100000 <;> simp

theorem impl_LeftBetween_l0 (l : List S130) (s0 s1 : Int) (hn : l.length ≤ 1000) : ∀ (d i : Nat) (acc : List Int), i + d = l.length → acc.length ≤ i + 1 → impl_LeftBetween.L0 acc l (l.length : Int) (i : Int) s0 s1 = some (Go.Lib.compact (Srt.sorted (leftI s0 s1 (l.drop i) acc)))
  | 0, i, acc, h, ha => by
    rw [impl_LeftBetween.L0_eq, if_neg (by omega), slices_Sort_int_int.f, if_pos (by omega), Option.bind_some, slices_Compact_int_int.f, Option.bind_some, List.drop_of_length_le (by omega)]
    rfl
  | d + 1, i, acc, h, ha => by
    obtain ⟨u, v, em⟩ := impl_Meet_is (rd_T130 l (i : Int)).f1 (rd_T130 l (i : Int)).f2 s0 s1
    rw [meetB_comm] at em
    rw [impl_LeftBetween.L0_eq, if_pos (by omega), if_pos (by omega), if_pos (by omega), em, Option.bind_some, dropStop l i (by omega), leftI]
    dsimp only
    rw [wrap_succ i (by omega)]
    by_cases hc : meetB s0 s1 (rd_T130 l (i : Int)).f1 (rd_T130 l (i : Int)).f2 = true
    · rw [if_pos hc, if_pos hc, if_pos (by omega)]
      exact impl_LeftBetween_l0 l s0 s1 hn d (i + 1) _ (by omega) (by rw [List.length_append, List.length_singleton]; omega)
    · rw [if_neg hc, if_neg hc]
      exact impl_LeftBetween_l0 l s0 s1 hn d (i + 1) _ (by omega) (by omega)
theorem impl_LeftBetween_is (l : List S130) (s0 s1 : Int) (hn : l.length ≤ 1048576) : impl_LeftBetween.F l s0 s1 = some (leftBetween l s0 s1) := by
  rw [impl_LeftBetween.F_eq, impl_IsRoute_is l hn, Option.bind_some, leftBetween]
  by_cases h1 : isRoute l = true
  · have hl := route_len h1
    rw [if_pos h1, impl_Span_is, Option.bind_some, impl_LeftBetween.J0_eq]
    by_cases h2 : spanB s0 s1 = true
    · have e : ((l.length : Int) - 1) = ((l.length - 1 : Nat) : Int) := by omega
      rw [h2, if_neg (by decide), wrap_in _ (by omega), if_pos (by omega), if_pos (by omega), if_pos ⟨h1, rfl⟩]
      refine Eq.trans (impl_LeftBetween_l0 l s0 s1 (by omega) l.length 0 _ (by omega) (by simp)) ?_
      rw [List.drop_zero]
      congr 1
      refine united_is (leftS_asc s0 s1 l [] List.Pairwise.nil) (fun z => ?_)
      rw [leftI_mem, leftS_mem, List.mem_singleton, e, rdStop_at]
      constructor
      · rintro (h | h)
        · exact .inr (.inr ⟨by omega, h.symm⟩)
        · exact .inr (.inl h)
      · rintro (h | h | h)
        · cases h
        · exact .inr h
        · exact .inl h.2.symm
    · rw [Bool.eq_false_iff.2 h2, if_pos (by decide), if_neg (fun hh => by cases hh.2)]
  · rw [if_neg h1, if_neg (fun hh => h1 hh.1), impl_LeftBetween.J0_eq, if_pos rfl]

def okAsc (a b : Int) (l : List Int) (i : Nat) : Prop := inR (rd l i) a b = true ∧ ((i : Int) > 0 → rd l ((i : Int) - 1) < rd l i)
noncomputable def isAsc (l : List Int) (a b : Int) : Bool := allF (okAsc a b l) l.length 0

noncomputable def isReport (r0 r1 : Int) (rc : List Int) (r3 r4 : Int) (rp : List Int) (r6 r7 : Int) : Bool := inR r0 1 999 && inR r1 1 8 && isAsc rc 0 7 && decide (1 ≤ r3) && decide (r3 ≤ r4) && decide (r4 ≤ 50) && isAsc rp 1 30 && decide ((rp.length : Int) ≤ 10) && (inR r6 0 100000 && inR r7 0 100000 && decide (r6 ≤ r7))
noncomputable def isFind (f0 f1 f2 f3 f4 f5 f6 f7 : Int) : Bool := (inR f0 1 999 && inR f1 1 8 && inR f2 0 7 && inR f3 1 50 && inR f4 0 10000000) && inR f5 1 30 && inR f6 0 100000 && inR f7 0 999

theorem impl_isAscending_l0 (l : List Int) (a b : Int) (hn : l.length ≤ 4194304) : ∀ (d i : Nat), i + d = l.length → impl_isAscending.L0 l a b l (l.length : Int) (i : Int) = some (allF (okAsc a b l) l.length i)
  | 0, i, h => by rw [impl_isAscending.L0_eq, if_neg (by omega), allF_end (by omega)]
  | d + 1, i, h => by
    have hi : i < l.length := by omega
    have ih := impl_isAscending_l0 l a b hn d (i + 1) (by omega)
    rw [impl_isAscending.L0_eq]
    simp only [wrap_succ i (by omega), wrap_pred i (by omega), ih, inRange, Option.bind_some]
    by_cases hp_ : okAsc a b l i
    · rw [allF_yes hp_]
      simp only [okAsc] at hp_
      obtain ⟨h1_, h2_⟩ := hp_
      repeat' split
      all_goals first
        | rfl
        | (exfalso; first | contradiction | omega)
    · rw [allF_no hi hp_]
      repeat' split
      all_goals first
        | rfl
        | (simp; done)
        | (exfalso; first | contradiction | omega)
        | (exfalso; apply hp_; simp only [okAsc]; (repeat' constructor) <;> first | assumption | (intro _; omega) | omega)
theorem impl_isAscending_is (l : List Int) (a b : Int) (hn : l.length ≤ 4194304) : impl_isAscending.F l a b = some (isAsc l a b) := by
  rw [impl_isAscending.F_eq]
  exact impl_isAscending_l0 l a b hn l.length 0 (by omega)

theorem impl_IsSpan_is (a b : Int) : impl_IsSpan.f a b = some (inR a 0 100000 && inR b 0 100000 && decide (a ≤ b)) := by
  unfold impl_IsSpan.f
  simp only [inRange, Option.bind_some]
  cases inR a 0 100000 <;> cases inR b 0 100000 <;> simp

theorem impl_IsReport_is (r0 r1 : Int) (rc : List Int) (r3 r4 : Int) (rp : List Int) (r6 r7 : Int) (hc : rc.length ≤ 4194304) (hp : rp.length ≤ 4194304) : impl_IsReport.F r0 r1 rc r3 r4 rp r6 r7 = some (isReport r0 r1 rc r3 r4 rp r6 r7) := by
  rw [impl_IsReport.F_eq]
  simp only [inRange, impl_isAscending_is rc 0 7 hc, impl_isAscending_is rp 1 30 hp, impl_IsSpan_is, Option.bind_some, isReport]
  generalize (inR r6 0 100000 && inR r7 0 100000 && decide (r6 ≤ r7)) = s
  cases inR r0 1 999 <;> cases inR r1 1 8 <;> cases isAsc rc 0 7 <;> cases isAsc rp 1 30 <;> by_cases h1 : 1 ≤ r3 <;> by_cases h2 : r3 ≤ r4 <;> by_cases h3 : r4 ≤ 50 <;> by_cases h4 : (rp.length : Int) ≤ 10 <;> simp [h1, h2, h3, h4]

def allow (l : List Int) (n : Int) : Bool := decide (l.length = 0) || decide (n ∈ l)

def wider (a b : List Int) : Bool := decide (a.length = 0) || (decide (0 < b.length) && b.all (fun n => decide (n ∈ a)))
noncomputable def isWider (r0 r1 : Int) (rc : List Int) (r3 r4 : Int) (rp : List Int) (r6 r7 : Int) (q0 q1 : Int) (qc : List Int) (q3 q4 : Int) (qp : List Int) (q6 q7 : Int) : Bool := isReport r0 r1 rc r3 r4 rp r6 r7 && isReport q0 q1 qc q3 q4 qp q6 q7 && decide (r1 = q1) && wider rc qc && decide (r3 ≤ q3) && decide (q4 ≤ r4) && wider rp qp && decide (r6 ≤ q6)

theorem slices_Index_l0 (l : List Int) (n : Int) (hn : l.length ≤ 4194304) : ∀ (d i : Nat), i + d = l.length → ∃ r, slices_Index_int_int.L0 l n (l.length : Int) (i : Int) = some r ∧ (0 ≤ r ↔ n ∈ l.drop i)
  | 0, i, h => by
    refine ⟨-1, by rw [slices_Index_int_int.L0_eq, if_neg (by omega)], ?_⟩
    rw [List.drop_of_length_le (by omega)]
    simp
  | d + 1, i, h => by
    rw [slices_Index_int_int.L0_eq, if_pos (by omega), if_pos (by omega), if_pos (by omega), dropInt l i (by omega), wrap_succ i (by omega)]
    by_cases c : n = rd l (i : Int)
    · rw [if_pos c]
      exact ⟨_, rfl, ⟨fun _ => by rw [← c]; exact List.mem_cons_self, fun _ => by omega⟩⟩
    · rw [if_neg c]
      obtain ⟨r, hr, hi⟩ := slices_Index_l0 l n hn d (i + 1) (by omega)
      refine ⟨r, hr, hi.trans ⟨fun hm => List.mem_cons_of_mem _ hm, fun hm => ?_⟩⟩
      rcases List.mem_cons.1 hm with he | he
      · exact absurd he c
      · exact he
theorem slices_Contains_is (l : List Int) (n : Int) (hn : l.length ≤ 4194304) : slices_Contains_int_int.F l n = some (decide (n ∈ l)) := by
  obtain ⟨r, hr, hi⟩ := slices_Index_l0 l n hn l.length 0 (by omega)
  rw [slices_Contains_int_int.F_eq, slices_Index_int_int.F_eq]
  have hr' : slices_Index_int_int.L0 l n (l.length : Int) 0 = some r := hr
  rw [hr', Option.bind_some]
  congr 1
  rw [Bool.eq_iff_iff, decide_eq_true_iff, decide_eq_true_iff]
  exact hi

theorem impl_allowsAll_l0 (a b : List Int) (ha : a.length ≤ 4194304) (hb : b.length ≤ 4194304) : ∀ (d i : Nat), i + d = b.length → impl_allowsAll.L0 a b (b.length : Int) (i : Int) = some ((b.drop i).all (fun n => decide (n ∈ a)))
  | 0, i, h => by rw [impl_allowsAll.L0_eq, if_neg (by omega), List.drop_of_length_le (by omega)]; rfl
  | d + 1, i, h => by
    rw [impl_allowsAll.L0_eq, if_pos (by omega), if_pos (by omega), if_pos (by omega), slices_Contains_is a _ ha, Option.bind_some, wrap_succ i (by omega), impl_allowsAll_l0 a b ha hb d (i + 1) (by omega), dropInt b i (by omega), List.all_cons]
    by_cases c : rd b (i : Int) ∈ a
    · rw [decide_eq_true c, if_pos rfl, Bool.true_and]
    · rw [decide_eq_false c, if_neg (by decide), Bool.false_and]
theorem impl_allowsAll_is (a b : List Int) (ha : a.length ≤ 4194304) (hb : b.length ≤ 4194304) : impl_allowsAll.F a b = some (wider a b) := by
  rw [impl_allowsAll.F_eq, wider]
  by_cases h : a.length = 0
  · rw [if_pos (by omega), impl_allowsAll.J0_eq, if_pos rfl, decide_eq_true h, Bool.true_or, h]; rfl
  · rw [if_neg (by omega), impl_allowsAll.J0_eq, decide_eq_false h, Bool.false_or]
    by_cases h2 : b.length = 0
    · have e1 : ((a.length : Int) == 0) = false := by rw [beq_eq_false_iff_ne]; omega
      rw [if_pos (by rw [beq_iff_eq]; omega), decide_eq_false (by omega), Bool.false_and, e1]
    · rw [if_neg (by rw [beq_iff_eq]; omega), decide_eq_true (by omega), Bool.true_and]
      have := impl_allowsAll_l0 a b ha hb b.length 0 (by omega)
      rw [List.drop_zero] at this
      exact this
theorem impl_IsWider_is (r0 r1 : Int) (rc : List Int) (r3 r4 : Int) (rp : List Int) (r6 r7 : Int) (q0 q1 : Int) (qc : List Int) (q3 q4 : Int) (qp : List Int) (q6 q7 : Int) (hc : rc.length ≤ 4194304) (hp : rp.length ≤ 4194304) (hqc : qc.length ≤ 4194304) (hqp : qp.length ≤ 4194304) : impl_IsWider.F r0 r1 rc r3 r4 rp r6 r7 q0 q1 qc q3 q4 qp q6 q7 = some (isWider r0 r1 rc r3 r4 rp r6 r7 q0 q1 qc q3 q4 qp q6 q7) := by
  rw [impl_IsWider.F_eq, impl_IsReport_is r0 r1 rc r3 r4 rp r6 r7 hc hp, impl_IsReport_is q0 q1 qc q3 q4 qp q6 q7 hqc hqp, impl_allowsAll_is rc qc hc hqc, impl_allowsAll_is rp qp hp hqp, isWider]
  simp only [Option.bind_some]
  cases isReport r0 r1 rc r3 r4 rp r6 r7 <;> cases isReport q0 q1 qc q3 q4 qp q6 q7 <;> by_cases h1 : r1 = q1 <;> cases wider rc qc <;> by_cases h2 : r3 ≤ q3 <;> by_cases h3 : q4 ≤ r4 <;> cases wider rp qp <;> simp [h1, h2, h3]

def fltL (a b : List Int) : List Int := a.filter (fun n => decide (n ∈ b))
def bothL (a b : List Int) : List Int × Bool := if a.length = 0 then (b, true) else if b.length = 0 then (a, true) else (fltL a b, decide (((fltL a b).length : Int) > 0))
theorem fltL_len (a b : List Int) : (fltL a b).length ≤ a.length := List.length_filter_le _ _
theorem asc_less {l : List Int} {a b : Int} (h : isAsc l a b = true) (i : Nat) : ∀ j : Nat, i < j → j < l.length → rd l (i : Int) < rd l (j : Int)
  | 0, h1, _ => absurd h1 (Nat.not_lt_zero _)
  | j + 1, h1, h2 => by
    have h0 := h
    unfold isAsc at h0
    rw [allF_all] at h0
    have h3 := (h0 (j + 1) h2).2 (by omega)
    rw [show ((j + 1 : Nat) : Int) - 1 = (j : Int) by omega] at h3
    by_cases e : i = j
    · rw [e]; exact h3
    · have := asc_less h i j (by omega) (by omega)
      omega
theorem asc_of {l : List Int} {a b : Int} (h : isAsc l a b = true) : Asc l := by
  unfold Asc
  rw [List.pairwise_iff_getElem]
  intro i j hi hj hij
  have := asc_less h i j hij hj
  rw [rdInt_at, rdInt_at, getD_get l i _ hi, getD_get l j _ hj] at this
  exact this
theorem bothL_comm (a b : List Int) (ha : Asc a) (hb : Asc b) (h : ¬ a.length = 0) : bothL a b = bothL b a := by
  unfold bothL
  rw [if_neg h]
  by_cases h2 : b.length = 0
  · rw [if_pos h2, if_pos h2]
  · have e : fltL a b = fltL b a := asc_ext _ _ (List.Pairwise.filter _ ha) (List.Pairwise.filter _ hb) (fun x => by simp only [fltL, List.mem_filter, decide_eq_true_eq]; exact And.comm)
    rw [if_neg h2, if_neg h2, if_neg h, e]

noncomputable def alongP (rep : Bool) (rp p : List Int) : List Int × Bool := if rep = true ∧ ¬ p.length = 0 ∧ (bothL rp p).2 = true then ((bothL rp p).1, true) else (rp, false)
theorem alongP_len (rep : Bool) (rp p : List Int) (n : Nat) (h1 : rp.length ≤ n) (h2 : p.length ≤ n) : (alongP rep rp p).1.length ≤ n := by
  unfold alongP bothL
  have := fltL_len rp p
  repeat' split
  all_goals (simp only []; omega)
theorem leftBetween_asc (l : List S130) (s0 s1 : Int) : Asc (leftBetween l s0 s1) := by
  unfold leftBetween
  split
  · exact leftS_asc s0 s1 l [] List.Pairwise.nil
  · exact List.Pairwise.nil
theorem leftBetween_some (l : List S130) (s0 s1 : Int) (h : isRoute l = true) (hs : spanB s0 s1 = true) : ¬ (leftBetween l s0 s1).length = 0 := by
  intro h0
  have hl := route_len h
  have hm := (leftS_mem s0 s1 (l.getD (l.length - 1) z130).f0 l []).2 (.inr (.inr ⟨by omega, rfl⟩))
  rw [leftBetween, if_pos ⟨h, hs⟩] at h0
  rw [List.eq_nil_of_length_eq_zero h0] at hm
  cases hm
theorem leftBetween_none (l : List S130) (s0 s1 : Int) (h : ¬ isRoute l = true) : leftBetween l s0 s1 = [] := by
  rw [leftBetween, if_neg (fun hh => h hh.1)]
theorem report_span (r0 r1 : Int) (rc : List Int) (r3 r4 : Int) (rp : List Int) (r6 r7 : Int) (h : isReport r0 r1 rc r3 r4 rp r6 r7 = true) : spanB r6 r7 = true ∧ Asc rp := by
  unfold isReport at h
  simp only [Bool.and_eq_true] at h
  refine ⟨?_, asc_of h.1.1.2⟩
  have h2 := h.2
  unfold spanB
  simp only [Bool.and_eq_true]
  exact h2

theorem cloneIntK (l : List Int) (hl : l.length ≤ 4194304) : slices_Clone_int_int.f l = some l := by
  unfold slices_Clone_int_int.f
  rw [Option.bind_some, if_pos (by simp only [List.length_nil]; omega), List.nil_append]
theorem impl_both_l0 (a b : List Int) (ha : a.length ≤ 4194304) (hb : b.length ≤ 4194304) : ∀ (d i : Nat) (acc : List Int), i + d = a.length → acc.length ≤ i → impl_both.L0 b acc a (a.length : Int) (i : Int) = some (acc ++ fltL (a.drop i) b, decide (((acc ++ fltL (a.drop i) b).length : Int) > 0))
  | 0, i, acc, h, hacc => by
    rw [impl_both.L0_eq, if_neg (by omega), List.drop_of_length_le (by omega), fltL, List.filter_nil, List.append_nil]
  | d + 1, i, acc, h, hacc => by
    rw [impl_both.L0_eq, if_pos (by omega), if_pos (by omega), if_pos (by omega), slices_Contains_is b _ hb, Option.bind_some, wrap_succ i (by omega), dropInt a i (by omega), fltL, List.filter_cons]
    by_cases c : rd a (i : Int) ∈ b
    · rw [decide_eq_true c, if_pos rfl, if_pos rfl, if_pos (by omega), impl_both_l0 a b ha hb d (i + 1) _ (by omega) (by rw [List.length_append, List.length_singleton]; omega), List.append_assoc]
      rfl
    · rw [decide_eq_false c, if_neg (by decide), if_neg (by decide), impl_both_l0 a b ha hb d (i + 1) _ (by omega) (by omega)]
      rfl
theorem impl_both_is (a b : List Int) (ha : a.length ≤ 4194304) (hb : b.length ≤ 4194304) : impl_both.F a b = some (bothL a b) := by
  rw [impl_both.F_eq, bothL]
  by_cases h : a.length = 0
  · rw [if_pos (by omega), if_pos h, cloneIntK b hb, Option.bind_some]
  · rw [if_neg (by omega), if_neg h]
    by_cases h2 : b.length = 0
    · rw [if_pos (by omega), if_pos h2, cloneIntK a ha, Option.bind_some]
    · have := impl_both_l0 a b ha hb a.length 0 [] (by omega) (by simp)
      rw [List.drop_zero, List.nil_append] at this
      rw [if_neg (by omega), if_neg h2]
      exact this

theorem impl_cloneReport_is (r0 r1 : Int) (rc : List Int) (r3 r4 : Int) (rp : List Int) (r6 r7 : Int) (hc : rc.length ≤ 4194304) (hp : rp.length ≤ 4194304) : impl_cloneReport.f r0 r1 rc r3 r4 rp r6 r7 = some (r0, r1, rc, r3, r4, rp, r6, r7) := by
  unfold impl_cloneReport.f
  rw [cloneIntK rc hc, Option.bind_some, cloneIntK rp hp, Option.bind_some]
theorem impl_AlongRoute_is (r0 r1 : Int) (rc : List Int) (r3 r4 : Int) (rp : List Int) (r6 r7 : Int) (l : List S130) (hc : rc.length ≤ 4194304) (hp : rp.length ≤ 4194304) (hn : l.length ≤ 1048576) : impl_AlongRoute.F r0 r1 rc r3 r4 rp r6 r7 l = some (r0, r1, rc, r3, r4, (alongP (isReport r0 r1 rc r3 r4 rp r6 r7) rp (leftBetween l r6 r7)).1, r6, r7, (alongP (isReport r0 r1 rc r3 r4 rp r6 r7) rp (leftBetween l r6 r7)).2) := by
  have hl := leftBetween_len l r6 r7
  have ha := leftBetween_asc l r6 r7
  rw [impl_AlongRoute.F_eq, impl_cloneReport_is r0 r1 rc r3 r4 rp r6 r7 hc hp, Option.bind_some]
  dsimp only
  rw [impl_IsReport_is r0 r1 rc r3 r4 rp r6 r7 hc hp, Option.bind_some]
  by_cases hr : isReport r0 r1 rc r3 r4 rp r6 r7 = true
  · obtain ⟨hs, hasc⟩ := report_span r0 r1 rc r3 r4 rp r6 r7 hr
    rw [if_pos hr, impl_IsRoute_is l hn, Option.bind_some, impl_AlongRoute.J0_eq]
    unfold alongP
    by_cases h : isRoute l = true
    · have hne := leftBetween_some l r6 r7 h hs
      rw [h, if_neg (by decide), impl_LeftBetween_is l r6 r7 hn, Option.bind_some, impl_both_is _ rp (by omega) hp, Option.bind_some, bothL_comm _ _ ha hasc hne]
      by_cases h2 : (bothL rp (leftBetween l r6 r7)).2 = true
      · rw [if_pos h2, if_pos ⟨hr, hne, h2⟩]
      · rw [if_neg h2, if_neg (fun hh => h2 hh.2.2)]
    · rw [if_pos (by rw [Bool.eq_false_iff.2 h]; rfl), if_neg (fun hh => hh.2.1 (by rw [leftBetween_none l r6 r7 h]; rfl))]
  · rw [if_neg hr, impl_AlongRoute.J0_eq, if_pos rfl]
    unfold alongP
    rw [if_neg (fun hh => hr hh.1)]

def stopIn : List S130 → Int → Int
  | [], _ => 0
  | x :: r, h => if inR h x.f1 x.f2 = true then x.f0 else stopIn r h
noncomputable def stopAt (l : List S130) (h : Int) : Int := if isRoute l = true then stopIn l h else 0

theorem impl_StopAt_l0 (l : List S130) (q : Int) (hn : l.length ≤ 1048576) : ∀ (d i : Nat), i + d = l.length → impl_StopAt.L0 q l (l.length : Int) (i : Int) = some (stopIn (l.drop i) q)
  | 0, i, h => by rw [impl_StopAt.L0_eq, if_neg (by omega), List.drop_of_length_le (by omega)]; rfl
  | d + 1, i, h => by
    have hi : i < l.length := by omega
    have ih := impl_StopAt_l0 l q hn d (i + 1) (by omega)
    rw [impl_StopAt.L0_eq, dropStop l i hi]
    simp only [wrap_succ i (by omega), wrap_pred i (by omega), ih, Option.bind_some, stopIn, inRange]
    repeat' split
    all_goals first
      | rfl
      | (exfalso; first | contradiction | omega)
      | (simp_all; done)

theorem impl_StopAt_is (l : List S130) (q : Int) (hn : l.length ≤ 1048576) : impl_StopAt.F l q = some (stopAt l q) := by
  rw [impl_StopAt.F_eq, impl_IsRoute_is l hn, Option.bind_some, stopAt]
  by_cases h : isRoute l = true
  · rw [if_pos h, if_pos h]
    exact impl_StopAt_l0 l q hn l.length 0 (by omega)
  · rw [if_neg h, if_neg h]

theorem impl_RouteHours_is (l : List S130) (hn : l.length ≤ 1048576) : impl_RouteHours.F l = some (if isRoute l = true then wrap64 ((rd_T130 l (wrap64 ((l.length : Int) - 1))).f2 - (rd_T130 l 0).f1) else 0) := by
  rw [impl_RouteHours.F_eq, impl_IsRoute_is l hn, Option.bind_some]
  by_cases h : isRoute l = true
  · have hl : inR (l.length : Int) 1 10 = true := by
      unfold isRoute at h
      rw [Bool.and_eq_true] at h
      exact h.2
    rw [inR_iff] at hl
    rw [if_pos h, if_pos h, wrap_in _ (by omega), if_pos (by omega), if_pos (by omega), if_pos (by omega)]
  · rw [if_neg h, if_neg h]

theorem contains_l0 (l : List Int) (x : Int) (hl : l.length ≤ 1048576) : ∀ (d i : Nat), i + d = l.length → x ∈ l.drop i → laws_contains.L0 l x (i : Int) = some true
  | 0, i, h, hx => by
    rw [List.drop_of_length_le (by omega)] at hx
    cases hx
  | d + 1, i, h, hx => by
    rw [laws_contains.L0_eq, if_pos (by omega), if_pos (by omega), wrap_succ i (by omega)]
    by_cases e : rd l (i : Int) = x
    · rw [if_pos e]
    · rw [if_neg e]
      refine contains_l0 l x hl d (i + 1) (by omega) ?_
      rw [dropInt l i (by omega)] at hx
      rcases List.mem_cons.1 hx with h1 | h1
      · exact absurd h1.symm e
      · exact h1
theorem contains_yes (l : List Int) (x : Int) (hl : l.length ≤ 1048576) (h : x ∈ l) : laws_contains.F l x = some true := by
  rw [laws_contains.F_eq]
  exact contains_l0 l x hl l.length 0 (by omega) (by rw [List.drop_zero]; exact h)

theorem stopIn_mem (h : Int) : ∀ l : List S130, stopIn l h ≠ 0 → ∃ x ∈ l, inR h x.f1 x.f2 = true ∧ x.f0 = stopIn l h
  | [], h0 => absurd rfl h0
  | x :: r, h0 => by
    rw [stopIn] at h0 ⊢
    by_cases c : inR h x.f1 x.f2 = true
    · rw [if_pos c]
      exact ⟨x, List.mem_cons_self .., c, rfl⟩
    · rw [if_neg c] at h0 ⊢
      obtain ⟨y, h1, h2, h3⟩ := stopIn_mem h r h0
      exact ⟨y, List.mem_cons_of_mem _ h1, h2, h3⟩
theorem stop_ok {l : List S130} (h : isRoute l = true) (i : Nat) (hi : i < l.length) : okStop l i := by
  unfold isRoute at h
  rw [Bool.and_eq_true, allF_all] at h
  exact h.1 i hi
theorem mem_rdStop {l : List S130} {y : S130} (hx : y ∈ l) : ∃ q : Nat, q < l.length ∧ rd_T130 l (q : Int) = y := by
  obtain ⟨q, hq, e⟩ := List.getElem_of_mem hx
  exact ⟨q, hq, by rw [rdStop_at, getD_get l q _ hq, e]⟩
theorem stop_left {l : List S130} {s0 s1 h : Int} (hr : isRoute l = true) (hs : spanB s0 s1 = true) (h0 : s0 ≤ h) (h1 : h ≤ s1) (hn : stopIn l h ≠ 0) : stopIn l h ∈ leftBetween l s0 s1 := by
  obtain ⟨x, hx, h2, h3⟩ := stopIn_mem h l hn
  obtain ⟨q, hq, e⟩ := mem_rdStop hx
  have ho := stop_ok hr q hq
  unfold okStop at ho
  rw [e] at ho
  rw [leftBetween, if_pos ⟨hr, hs⟩, leftS_mem]
  refine .inr (.inl ⟨x, hx, ?_, h3⟩)
  simp only [inR, decide_eq_true_eq] at h2
  unfold spanB at hs
  simp only [inR, Bool.and_eq_true, decide_eq_true_eq] at hs
  unfold meetB spanB maxI minI
  simp only [inR, Bool.and_eq_true, decide_eq_true_eq]
  have := ho.2.1
  have := ho.2.2.1
  have := ho.2.2.2.1
  refine ⟨⟨⟨⟨?_, ?_⟩, ?_⟩, ⟨⟨?_, ?_⟩, ?_⟩⟩, ⟨⟨?_, ?_⟩, ?_⟩⟩ <;> (repeat' split) <;> omega
theorem last_left {l : List S130} {s0 s1 : Int} (hr : isRoute l = true) (hs : spanB s0 s1 = true) : (rd_T130 l ((l.length : Int) - 1)).f0 ∈ leftBetween l s0 s1 := by
  have hl := route_len hr
  rw [leftBetween, if_pos ⟨hr, hs⟩, leftS_mem, show (l.length : Int) - 1 = ((l.length - 1 : Nat) : Int) by omega, rdStop_at]
  exact .inr (.inr ⟨by omega, rfl⟩)
theorem left_range {l : List S130} {s0 s1 z : Int} (h : z ∈ leftBetween l s0 s1) : inR z 1 30 = true := by
  unfold leftBetween at h
  by_cases hc : isRoute l = true ∧ spanB s0 s1 = true
  · rw [if_pos hc, leftS_mem] at h
    rcases h with h | ⟨y, hy, _, e⟩ | ⟨hl, e⟩
    · cases h
    · obtain ⟨q, hq, e2⟩ := mem_rdStop hy
      have ho := (stop_ok hc.1 q hq).1
      rw [e2, e] at ho
      exact ho
    · have ho := (stop_ok hc.1 (l.length - 1) (by omega)).1
      rw [rdStop_at, e] at ho
      exact ho
  · rw [if_neg hc] at h
    cases h
theorem asc_is {l : List Int} {a b : Int} (h : Asc l) (hr : ∀ z ∈ l, inR z a b = true) : isAsc l a b = true := by
  unfold isAsc
  rw [allF_all]
  intro i hi
  have hp := List.pairwise_iff_getElem.1 h
  refine ⟨?_, fun h0 => ?_⟩
  · rw [rdInt_at, getD_get l i _ hi]
    exact hr _ (List.getElem_mem hi)
  · rw [show (i : Int) - 1 = ((i - 1 : Nat) : Int) by omega, rdInt_at, rdInt_at, getD_get l i _ hi, getD_get l (i - 1) _ (by omega)]
    exact hp (i - 1) i (by omega) hi (by omega)
theorem asc_range {l : List Int} {a b : Int} (h : isAsc l a b = true) : ∀ z ∈ l, inR z a b = true := by
  intro z hz
  obtain ⟨q, hq, e⟩ := List.getElem_of_mem hz
  unfold isAsc at h
  rw [allF_all] at h
  have := (h q hq).1
  rw [rdInt_at, getD_get l q _ hq, e] at this
  exact this
theorem wider_self (a : List Int) : wider a a = true := by
  unfold wider
  by_cases h : a.length = 0
  · rw [decide_eq_true h, Bool.true_or]
  · rw [decide_eq_false h, decide_eq_true (show 0 < a.length by omega), Bool.false_or, Bool.true_and, List.all_eq_true]
    intro x hx
    exact decide_eq_true hx
theorem both_wider (rp p : List Int) (hp : ¬ p.length = 0) (h : (bothL rp p).2 = true) : wider rp (bothL rp p).1 = true ∧ (∀ z ∈ (bothL rp p).1, z ∈ p ∨ p.length = 0) ∧ ((bothL rp p).1 = p ∨ (bothL rp p).1 = fltL rp p) := by
  unfold bothL at h ⊢
  by_cases h0 : rp.length = 0
  · rw [if_pos h0]
    refine ⟨by rw [wider, decide_eq_true h0, Bool.true_or], fun z hz => .inl hz, .inl rfl⟩
  · rw [if_neg h0, if_neg hp] at h ⊢
    simp only [decide_eq_true_eq] at h
    refine ⟨?_, fun z hz => ?_, .inr rfl⟩
    · rw [wider, decide_eq_false h0, Bool.false_or, Bool.and_eq_true, List.all_eq_true]
      exact ⟨decide_eq_true (by simp only []; omega), fun z hz => decide_eq_true (List.mem_filter.1 hz).1⟩
    · have := (List.mem_filter.1 hz).2
      rw [decide_eq_true_eq] at this
      exact .inl this
theorem fltL_asc {a b : List Int} (h : Asc a) : Asc (fltL a b) := List.Pairwise.filter _ h

theorem ascends_l0 (l : List Int) (hl : l.length ≤ 4194304) (h : Asc l) : ∀ (d i : Nat), i + d = l.length → 1 ≤ i → laws_ascends.L0 l (i : Int) = some true
  | 0, i, hd, h1 => by rw [laws_ascends.L0_eq, if_neg (by omega)]
  | d + 1, i, hd, h1 => by
    have hp := List.pairwise_iff_getElem.1 h (i - 1) i (by omega) (by omega) (by omega)
    have e : ¬ rd l ((i - 1 : Nat) : Int) ≥ rd l (i : Int) := by
      rw [rdInt_at, rdInt_at, getD_get l i _ (by omega), getD_get l (i - 1) _ (by omega)]
      omega
    rw [laws_ascends.L0_eq, if_pos (by omega), show wrap64 ((i : Int) - 1) = ((i - 1 : Nat) : Int) by rw [wrap_in _ (by omega)]; omega, if_pos (by omega), if_pos (by omega), if_pos (by omega), if_neg e, wrap_succ i (by omega)]
    exact ascends_l0 l hl h d (i + 1) (by omega) (by omega)
theorem ascends_is (l : List Int) (hl : l.length ≤ 4194304) (h : Asc l) : laws_ascends.F l = some true := by
  rw [laws_ascends.F_eq]
  by_cases h0 : l.length = 0
  · rw [laws_ascends.L0_eq, if_neg (by omega)]
  · exact ascends_l0 l hl h (l.length - 1) 1 (by omega) (by omega)
theorem within_l0 (a p : List Int) (ha : a.length ≤ 1048576) (hp : p.length ≤ 1048576) (h : ∀ z ∈ a, z ∈ p) : ∀ (d i : Nat), i + d = a.length → laws_within.L0 a p (i : Int) = some true
  | 0, i, hd => by rw [laws_within.L0_eq, if_neg (by omega)]
  | d + 1, i, hd => by
    have hm : rd a (i : Int) ∈ p := h _ (by rw [rdInt_at, getD_get a i _ (by omega)]; exact List.getElem_mem (by omega))
    rw [laws_within.L0_eq, if_pos (by omega), if_pos (by omega), contains_yes p _ hp hm, Option.bind_some, if_pos rfl, wrap_succ i (by omega)]
    exact within_l0 a p ha hp h d (i + 1) (by omega)
theorem equal_l0 (a : List Int) (ha : a.length ≤ 1048576) : ∀ (d i : Nat), i + d = a.length → slices_Equal_int_int.L0 a a (a.length : Int) (i : Int) = some true
  | 0, i, hd => by rw [slices_Equal_int_int.L0_eq, if_neg (by omega)]
  | d + 1, i, hd => by
    rw [slices_Equal_int_int.L0_eq, if_pos (by omega), if_pos (by omega), if_pos (by omega), if_pos (by omega), if_pos rfl, wrap_succ i (by omega)]
    exact equal_l0 a ha d (i + 1) (by omega)
theorem equal_is (a : List Int) (ha : a.length ≤ 1048576) : slices_Equal_int_int.F a a = some true := by
  rw [slices_Equal_int_int.F_eq, if_pos rfl]
  exact equal_l0 a ha a.length 0 (by omega)
theorem equalReports_is (r0 r1 : Int) (rc : List Int) (r3 r4 : Int) (rp : List Int) (r6 r7 : Int) (hc : rc.length ≤ 1048576) (hp : rp.length ≤ 1048576) : impl_EqualReports.F r0 r1 rc r3 r4 rp r6 r7 r0 r1 rc r3 r4 rp r6 r7 = some true := by
  rw [impl_EqualReports.F_eq, if_pos rfl, if_pos rfl, if_pos rfl, if_pos rfl, if_pos (by simp), equal_is rc hc, Option.bind_some, if_pos rfl, equal_is rp hp, Option.bind_some]
theorem hours_from {l : List S130} (h : isRoute l = true) : ∀ i : Nat, i < l.length → 0 ≤ (rd_T130 l ((0 : Nat) : Int)).f1 ∧ (rd_T130 l ((0 : Nat) : Int)).f1 ≤ (rd_T130 l (i : Int)).f2 ∧ (rd_T130 l (i : Int)).f2 ≤ 100000
  | 0, hi => by
    have ho := stop_ok h 0 hi
    have := ho.2.1
    have := ho.2.2.1
    have := ho.2.2.2.1
    omega
  | i + 1, hi => by
    have ih := hours_from h i (by omega)
    have ho := stop_ok h (i + 1) hi
    have h1 := ho.2.2.2.2 (by omega)
    rw [show ((i + 1 : Nat) : Int) - 1 = (i : Int) by omega] at h1
    have := ho.2.2.1
    have := ho.2.2.2.1
    omega
theorem hours_ge (l : List S130) (hl : l.length ≤ 1000) : ∃ t, impl_RouteHours.F l = some t ∧ t ≥ 0 := by
  rw [impl_RouteHours_is l (by omega)]
  by_cases h : isRoute l = true
  · have hr := route_len h
    have hh := hours_from h (l.length - 1) (by omega)
    rw [if_pos h, wrap_in ((l.length : Int) - 1) (by omega), show (l.length : Int) - 1 = ((l.length - 1 : Nat) : Int) by omega]
    have e0 : rd_T130 l 0 = rd_T130 l ((0 : Nat) : Int) := rfl
    rw [e0, wrap_in _ (by omega)]
    exact ⟨_, rfl, by omega⟩
  · rw [if_neg h]
    exact ⟨0, rfl, by omega⟩
theorem routes_end (x0 : List Int) (hb : x0.length ≤ 1048576) (l : List S130) (p : List Int) (x s0 s1 : Int) : laws_FnRoutes.J2 x0 l p x false s0 s1 = some true := by
  obtain ⟨r0, r1, rc, r3, r4, rp, r6, r7, q, e, hc, hp, hq⟩ := drawAlongRoute_is x0 hb
  obtain ⟨t, et, ht⟩ := hours_ge q hq
  have hll := leftBetween_len q r6 r7
  have ha := alongP_len (isReport r0 r1 rc r3 r4 rp r6 r7) rp (leftBetween q r6 r7) 1000 hp (by omega)
  rw [laws_FnRoutes.J2_eq, if_neg (by decide), e, Option.bind_some]
  dsimp only
  rw [impl_AlongRoute_is r0 r1 rc r3 r4 rp r6 r7 q (by omega) (by omega) (by omega), Option.bind_some]
  dsimp only
  by_cases c : isReport r0 r1 rc r3 r4 rp r6 r7 = true ∧ ¬ (leftBetween q r6 r7).length = 0 ∧ (bothL rp (leftBetween q r6 r7)).2 = true
  · have eA : alongP (isReport r0 r1 rc r3 r4 rp r6 r7) rp (leftBetween q r6 r7) = ((bothL rp (leftBetween q r6 r7)).1, true) := by rw [alongP, if_pos c]
    obtain ⟨w1, w2, w3⟩ := both_wider rp _ c.2.1 c.2.2
    have hspan := report_span r0 r1 rc r3 r4 rp r6 r7 c.1
    have hlen : (bothL rp (leftBetween q r6 r7)).1.length ≤ 10 ∧ isAsc (bothL rp (leftBetween q r6 r7)).1 1 30 = true := by
      have hrep := c.1
      unfold isReport at hrep
      simp only [Bool.and_eq_true, decide_eq_true_eq] at hrep
      rcases w3 with w3 | w3
      · rw [w3]
        exact ⟨hll, asc_is (leftBetween_asc _ _ _) (fun z hz => left_range hz)⟩
      · rw [w3]
        have hf := fltL_len rp (leftBetween q r6 r7)
        exact ⟨by have := hrep.1.2; omega, asc_is (fltL_asc hspan.2) (fun z hz => asc_range hrep.1.1.2 z (List.mem_filter.1 hz).1)⟩
    have hrep2 : isReport r0 r1 rc r3 r4 (bothL rp (leftBetween q r6 r7)).1 r6 r7 = true := by
      have hrep := c.1
      unfold isReport at hrep ⊢
      simp only [Bool.and_eq_true, decide_eq_true_eq] at hrep ⊢
      exact ⟨⟨⟨hrep.1.1.1, hlen.2⟩, by omega⟩, hrep.2⟩
    rw [eA] at ha ⊢
    dsimp only at ha ⊢
    have hW : isWider r0 r1 rc r3 r4 rp r6 r7 r0 r1 rc r3 r4 (bothL rp (leftBetween q r6 r7)).1 r6 r7 = true := by
      unfold isWider
      rw [c.1, hrep2, wider_self rc, w1]
      simp
    rw [if_pos rfl, impl_IsWider_is r0 r1 rc r3 r4 rp r6 r7 r0 r1 rc r3 r4 (bothL rp (leftBetween q r6 r7)).1 r6 r7 (by omega) (by omega) (by omega) (by omega), hW, Option.bind_some, if_pos rfl, impl_LeftBetween_is q r6 r7 (by omega), Option.bind_some, laws_within.F_eq]
    have hW2 := within_l0 (bothL rp (leftBetween q r6 r7)).1 (leftBetween q r6 r7) (by omega) (by omega) (fun z hz => (w2 z hz).resolve_right c.2.1) (bothL rp (leftBetween q r6 r7)).1.length 0 (by omega)
    have hW3 : laws_within.L0 (bothL rp (leftBetween q r6 r7)).1 (leftBetween q r6 r7) 0 = some true := hW2
    rw [hW3, Option.bind_some, if_pos rfl, et, Option.bind_some, decide_eq_true ht]
  · have eA : alongP (isReport r0 r1 rc r3 r4 rp r6 r7) rp (leftBetween q r6 r7) = (rp, false) := by rw [alongP, if_neg c]
    rw [eA]
    dsimp only
    rw [if_neg (by decide), equalReports_is r0 r1 rc r3 r4 rp r6 r7 (by omega) (by omega), Option.bind_some, if_pos rfl, et, Option.bind_some, decide_eq_true ht]
theorem routes_l0 (x0 : List Int) (hb : x0.length ≤ 1048576) (l : List S130) (hl : l.length ≤ 1000) (s0 s1 : Int) : ∀ (d : Nat) (h : Int), h + d = s0 + 200 → s0 ≤ h → laws_FnRoutes.L0 x0 l (leftBetween l s0 s1) h s0 s1 = some true := by
  have hE := fun x => routes_end x0 hb l (leftBetween l s0 s1) x s0 s1
  have hll := leftBetween_len l s0 s1
  intro d
  induction d with
  | zero =>
    intro h hd h0
    rw [laws_FnRoutes.L0_eq, impl_IsRoute_is l (by omega), Option.bind_some]
    by_cases hr : isRoute l = true
    · rw [if_pos hr, impl_IsSpan_is, Option.bind_some]
      by_cases hs : (inR s0 0 100000 && inR s1 0 100000 && decide (s0 ≤ s1)) = true
      · have hs2 := hs
        simp only [inR, Bool.and_eq_true, decide_eq_true_eq] at hs2
        rw [if_pos hs, wrap_in (s0 + 200) (by omega), decide_eq_false (by omega)]
        split
        · exact hE h
        · exact hE h
      · rw [if_neg hs]
        exact hE h
    · rw [if_neg hr]
      exact hE h
  | succ d ih =>
    intro h hd h0
    rw [laws_FnRoutes.L0_eq, impl_IsRoute_is l (by omega), Option.bind_some]
    by_cases hr : isRoute l = true
    · rw [if_pos hr, impl_IsSpan_is, Option.bind_some]
      by_cases hs : (inR s0 0 100000 && inR s1 0 100000 && decide (s0 ≤ s1)) = true
      · have hs2 := hs
        simp only [inR, Bool.and_eq_true, decide_eq_true_eq] at hs2
        rw [if_pos hs, wrap_in (s0 + 200) (by omega), decide_eq_true (by omega)]
        by_cases h1 : h ≤ s1
        · rw [if_pos h1, laws_FnRoutes.J2_eq, if_pos rfl, impl_StopAt_is l h (by omega), Option.bind_some, stopAt, if_pos hr, wrap_in (h + 1) (by omega)]
          have ih2 := ih (h + 1) (by omega) (by omega)
          by_cases h2 : stopIn l h = 0
          · rw [if_pos h2]
            exact ih2
          · rw [if_neg h2, contains_yes _ _ (by omega) (stop_left hr hs h0 h1 h2), Option.bind_some, if_pos rfl]
            exact ih2
        · rw [if_neg h1]
          exact hE h
      · rw [if_neg hs]
        exact hE h
    · rw [if_neg hr]
      exact hE h
theorem law_FnRoutes (l0 : List Int) (hm0 : l0.length ≤ maxLen) (hw0 : ∀ y ∈ l0, (fun n : Int => (Lit.int .u8 n).wf = true) y) : laws_FnRoutes.F l0 = some true := by
  rw [laws_FnRoutes.F_eq, big_is, Option.bind_some]
  by_cases hb : (l0.length : Int) > 1048576
  · rw [decide_eq_true hb, if_pos rfl]
  · have hb' : l0.length ≤ 1048576 := by omega
    obtain ⟨l, s0, s1, e, hl⟩ := drawLeftBetween_is l0 hb'
    have hll := leftBetween_len l s0 s1
    have hJ : laws_FnRoutes.J0 l0 l (leftBetween l s0 s1) false s0 s1 = some true := by
      rw [laws_FnRoutes.J0_eq, if_neg (by decide)]
      exact routes_l0 l0 hb' l hl s0 s1 200 s0 (by omega) (by omega)
    rw [decide_eq_false hb, if_neg (by decide), e, Option.bind_some]
    dsimp only
    rw [impl_LeftBetween_is l s0 s1 (by omega), Option.bind_some, ascends_is _ (by omega) (leftBetween_asc l s0 s1), Option.bind_some, if_pos rfl, impl_IsRoute_is l (by omega), Option.bind_some]
    by_cases hr : isRoute l = true
    · have hr2 := route_len hr
      rw [if_pos hr, impl_IsSpan_is, Option.bind_some]
      by_cases hs : (inR s0 0 100000 && inR s1 0 100000 && decide (s0 ≤ s1)) = true
      · have hne := leftBetween_some l s0 s1 hr hs
        rw [if_pos hs, if_neg (by omega), wrap_in ((l.length : Int) - 1) (by omega), if_pos (by omega), if_pos (by omega), contains_yes _ _ (by omega) (last_left hr hs), Option.bind_some]
        exact hJ
      · rw [if_neg hs]
        exact hJ
    · rw [if_neg hr]
      exact hJ

theorem FnRoutes (l0 : List Int) (hm0 : l0.length ≤ maxLen) (hw0 : ∀ y ∈ l0, (fun n : Int => (Lit.int .u8 n).wf = true) y) : ∃ k, laws_FnRoutes.f k l0 = some true :=
  (laws_FnRoutes.F_co l0).rounds (law_FnRoutes l0 hm0 hw0)
end Go.Proofs.Ytkfalbaklodnjaa.PFnRoutes.Pure
