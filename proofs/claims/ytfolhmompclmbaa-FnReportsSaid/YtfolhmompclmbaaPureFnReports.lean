/-
  The law FnReports answers true for every input. It has no conditions.
-/
import Derived.Test.YtfolhmompclmbaaShFnReports
import Derived.Test.YtfolhmompclmbaaEqFnReports
import Derived.Test.YtfolhmompclmbaaBase
set_option linter.unusedVariables false
set_option linter.unusedSimpArgs false
namespace Go.Proofs.Ytfolhmompclmbaa.PFnReports.Pure
open Go.RowKit Go.Proofs.YtfolhmompclmbaaW.PrintWords Go.Proofs.YtfolhmompclmbaaW.PrintLast Go.Proofs.YtfolhmompclmbaaW.PrintMore Go.Proofs.Ytfolhmompclmbaa.PFnReports Go.Proofs.Ytfolhmompclmbaa.Lim Go.Proofs.Ytfolhmompclmbaa.Base
set_option maxRecDepth 100000

theorem big_is (l : List Int) : laws_big.f l = some (decide ((l.length : Int) > 1048576)) := rfl

/-- A cursor's place in the bytes that it reads. -/
def CO (b : List Int) (i : Int) : Prop := 0 ≤ i ∧ i ≤ (b.length : Int) ∧ b.length ≤ 1048576
theorem and255 (x : Int) : 0 ≤ Go.bits .and .i64 x 255 ∧ Go.bits .and .i64 x 255 ≤ 255 := by
  have h : (BitVec.ofInt 64 255).toNat = 255 := by decide
  have h2 : (BitVec.ofInt 64 x &&& BitVec.ofInt 64 255).toNat ≤ 255 := by
    rw [BitVec.toNat_and, h]
    exact Nat.and_le_right
  show 0 ≤ IntKind.i64.wrap ((BitVec.ofInt 64 x &&& BitVec.ofInt 64 255).toNat : Int) ∧ IntKind.i64.wrap ((BitVec.ofInt 64 x &&& BitVec.ofInt 64 255).toNat : Int) ≤ 255
  rw [IntKind.wrap_i64]
  omega
theorem l1Byte_is (b : List Int) (i h : Int) (c : CO b i) : ∃ r i' h', spec_l1Byte.f b i h = some (r, i', h') ∧ 0 ≤ r ∧ r ≤ 255 ∧ CO b i' := by
  obtain ⟨c0, c1, c2⟩ := c
  unfold spec_l1Byte.f
  by_cases hi : i < (b.length : Int)
  · rw [if_pos hi, if_pos c0]
    refine ⟨_, _, _, rfl, (and255 _).1, (and255 _).2, ?_⟩
    rw [wrap_in _ (by omega)]
    exact ⟨by omega, by omega, c2⟩
  · rw [if_neg hi]
    exact ⟨_, _, _, rfl, (and255 _).1, (and255 _).2, c0, c1, c2⟩
theorem l1Below_is (b : List Int) (i h n : Int) (c : CO b i) (hn : n ≤ 10000000) : ∃ r i' h', spec_l1Below.f b i h n = some (r, i', h') ∧ 0 ≤ r ∧ (0 < n → r < n) ∧ (n ≤ 0 → r = 0) ∧ CO b i' := by
  unfold spec_l1Below.f
  by_cases h0 : n ≤ 0
  · rw [if_pos h0]
    exact ⟨0, i, h, rfl, by omega, fun _ => by omega, fun _ => rfl, c⟩
  · rw [if_neg h0]
    by_cases h1 : n ≤ 256
    · obtain ⟨r, i', h', e, r0, r1, c'⟩ := l1Byte_is b i h c
      rw [if_pos h1, e, Option.bind_some, if_neg (by omega), Int.tmod_eq_emod_of_nonneg r0]
      exact ⟨_, _, _, rfl, Int.emod_nonneg _ (by omega), fun _ => Int.emod_lt_of_pos _ (by omega), fun _ => by omega, c'⟩
    · obtain ⟨r, i', h', e, r0, r1, c'⟩ := l1Byte_is b i h c
      obtain ⟨s, i2, h2, e2, s0, s1, c2⟩ := l1Byte_is b i' h' c'
      obtain ⟨t, i3, h3, e3, t0, t1, c3⟩ := l1Byte_is b i2 h2 c2
      rw [if_neg h1, e, Option.bind_some]
      dsimp only
      rw [e2, Option.bind_some]
      dsimp only
      rw [e3, Option.bind_some, if_neg (by omega)]
      dsimp only
      rw [wrap_in (r * 65536) (by omega), wrap_in (s * 256) (by omega), wrap_in (r * 65536 + s * 256) (by omega), wrap_in (r * 65536 + s * 256 + t) (by omega), Int.tmod_eq_emod_of_nonneg (by omega)]
      exact ⟨_, _, _, rfl, Int.emod_nonneg _ (by omega), fun _ => Int.emod_lt_of_pos _ (by omega), fun _ => by omega, c3⟩
theorem below_pos (b : List Int) (i h n : Int) (c : CO b i) (h0 : 0 < n) (hn : n ≤ 10000000) : ∃ r i' h', spec_l1Below.f b i h n = some (r, i', h') ∧ 0 ≤ r ∧ r < n ∧ CO b i' := by
  obtain ⟨r, i', h', e, r0, r1, _, c'⟩ := l1Below_is b i h n c hn
  exact ⟨r, i', h', e, r0, r1 h0, c'⟩
theorem l1New_l0 (b : List Int) (hb : b.length ≤ 1048576) : ∀ (d i : Nat) (h : Int), i + d = b.length → ∃ h', spec_l1New.L0 b h (i : Int) = some (b, 0, h')
  | 0, i, h, hd => ⟨h, by rw [spec_l1New.L0_eq, if_neg (by omega)]⟩
  | d + 1, i, h, hd => by
    rw [spec_l1New.L0_eq, if_pos (by omega), if_pos (show (0 : Int) ≤ (i : Int) by omega), wrap_succ i (by omega)]
    by_cases h4 : (i : Int) < 4000
    · rw [if_pos h4]
      exact l1New_l0 b hb d (i + 1) _ (by omega)
    · rw [if_neg h4]
      exact ⟨h, rfl⟩
theorem l1New_is (b : List Int) (hb : b.length ≤ 1048576) : ∃ h', spec_l1New.F b = some (b, 0, h') ∧ CO b 0 := by
  obtain ⟨h', e⟩ := l1New_l0 b hb b.length 0 (wrap64 (193017 + (b.length : Int))) (by omega)
  exact ⟨h', by rw [spec_l1New.F_eq]; exact e, by unfold CO; omega⟩

theorem rdInt_at (l : List Int) (i : Nat) : rd l (i : Int) = l.getD i 0 := by simp [rd]
theorem dropInt (l : List Int) (i : Nat) (h : i < l.length) : l.drop i = rd l (i : Int) :: l.drop (i + 1) := by
  rw [rdInt_at, getD_get l i _ h]
  exact List.drop_eq_getElem_cons h

theorem l1Int_is (b : List Int) (i h : Int) (l : List Int) (c : CO b i) (h0 : 0 < l.length) (hn : l.length ≤ 1000) : ∃ r i' h', spec_l1Int.f b i h l = some (r, i', h') ∧ r ∈ l ∧ CO b i' := by
  obtain ⟨r, i', h', e, r0, r1, c'⟩ := below_pos b i h (l.length : Int) c (by omega) (by omega)
  unfold spec_l1Int.f
  rw [e, Option.bind_some]
  dsimp only
  rw [if_pos r0, if_pos r1]
  obtain ⟨j, rfl⟩ : ∃ j : Nat, r = j := ⟨r.toNat, by omega⟩
  refine ⟨_, _, _, rfl, ?_, c'⟩
  rw [show rd l (j : Int) = l[j]'(by omega) by simp [rd, show j < l.length by omega]]
  exact List.getElem_mem _

theorem l4Raw_is (b : List Int) (i h : Int) (c : CO b i) : ∃ r i' h', spec_l4Raw.f b i h = some (r, i', h') ∧ r ∈ ([-1, 0, 8, 50, 51, 1000, 9223372036854775807, -9223372036854775808] : List Int) ∧ CO b i' := by
  obtain ⟨r, i', h', e, hm, c'⟩ := l1Int_is b i h [-1, 0, 8, 50, 51, 1000, 9223372036854775807, -9223372036854775808] c (by decide) (by decide)
  unfold spec_l4Raw.f
  rw [e, Option.bind_some]
  exact ⟨r, i', h', rfl, hm, c'⟩

theorem l5Draw_is (b : List Int) (i h : Int) (c : CO b i) : ∃ x0 x1 i' h', spec_l5Draw.f b i h = some (x0, x1, i', h') ∧ CO b i' := by
  obtain ⟨r1, i1, h1, e1, _, _, c1⟩ := below_pos b i h 60 c (by omega) (by omega)
  obtain ⟨r2, i2, h2, e2, _, _, c2⟩ := below_pos b i1 h1 30 c1 (by omega) (by omega)
  unfold spec_l5Draw.f
  rw [e1, Option.bind_some]
  dsimp only
  rw [e2, Option.bind_some]
  exact ⟨_, _, i2, h2, rfl, c2⟩
theorem l5Any_is (b : List Int) (i h : Int) (c : CO b i) : ∃ x0 x1 i' h', spec_l5Any.f b i h = some (x0, x1, i', h') ∧ CO b i' := by
  obtain ⟨x0, x1, i1, h1, e1, c1⟩ := l5Draw_is b i h c
  obtain ⟨r2, i2, h2, e2, _, _, c2⟩ := below_pos b i1 h1 10 c1 (by omega) (by omega)
  unfold spec_l5Any.f
  rw [e1, Option.bind_some]
  dsimp only
  rw [e2, Option.bind_some]
  dsimp only
  by_cases s0 : r2 = 0
  · obtain ⟨v, i3, h3, e3, _, c3⟩ := l4Raw_is b i2 h2 c2
    rw [if_pos s0, e3, Option.bind_some]
    exact ⟨_, _, i3, h3, rfl, c3⟩
  · rw [if_neg s0]
    by_cases s1 : r2 = 1
    · obtain ⟨v, i3, h3, e3, _, c3⟩ := l1Int_is b i2 h2 [-1, 0, 100000, 100001] c2 (by decide) (by decide)
      rw [if_pos s1, e3, Option.bind_some]
      exact ⟨_, _, i3, h3, rfl, c3⟩
    · rw [if_neg s1]
      exact ⟨_, _, i2, h2, rfl, c2⟩

theorem l1Once_is (b : List Int) (i h n : Int) (c : CO b i) (h0 : 0 < n) (hn : n ≤ 10000000) : ∃ r i' h', spec_l1Once.f b i h n = some (r, i', h') ∧ CO b i' := by
  obtain ⟨r, i', h', e, r0, r1, c'⟩ := below_pos b i h n c h0 hn
  unfold spec_l1Once.f
  rw [e, Option.bind_some]
  exact ⟨_, i', h', rfl, c'⟩

theorem l7Some_l0 (b : List Int) (hi q : Int) (hq : 0 < q ∧ q ≤ 1000) (hh : hi ≤ 1000) : ∀ (d : Nat) (l : List Int) (x i h : Int), CO b i → 0 ≤ x → x + d = hi + 1 → l.length + d ≤ 1000 → ∃ l' i' h', spec_l7Some.L0 hi q l x b i h = some (l', i', h') ∧ CO b i' ∧ l'.length ≤ 1000
  | 0, l, x, i, h, c, h0, hx, hl => ⟨l, i, h, by rw [spec_l7Some.L0_eq, if_neg (by omega)], c, by omega⟩
  | d + 1, l, x, i, h, c, h0, hx, hl => by
    obtain ⟨r, i1, h1, e1, c1⟩ := l1Once_is b i h q c (by omega) (by omega)
    rw [spec_l7Some.L0_eq, if_pos (by omega), e1, Option.bind_some]
    dsimp only
    rw [show wrap64 (x + 1) = x + 1 from wrap_in _ (by omega)]
    by_cases c2 : r = true
    · rw [if_pos c2, if_pos (by omega)]
      exact l7Some_l0 b hi q hq hh d _ (x + 1) i1 h1 c1 (by omega) (by omega) (by rw [List.length_append, List.length_singleton]; omega)
    · rw [if_neg c2]
      exact l7Some_l0 b hi q hq hh d l (x + 1) i1 h1 c1 (by omega) (by omega) (by omega)
theorem l7Some_is (b : List Int) (i h lo hi q : Int) (c : CO b i) (hq : 0 < q ∧ q ≤ 1000) (hlo : 0 ≤ lo) (hlh : lo ≤ hi) (hh : hi ≤ 900) : ∃ l' i' h', spec_l7Some.F b i h lo hi q = some (l', i', h') ∧ CO b i' ∧ l'.length ≤ 1000 := by
  rw [spec_l7Some.F_eq]
  exact l7Some_l0 b hi q hq (by omega) (hi + 1 - lo).toNat [] lo i h c hlo (by omega) (by simp only [List.length_nil]; omega)
theorem l7Draw_is (b : List Int) (i h n : Int) (c : CO b i) : ∃ r1 rc r3 r4 rp r6 r7 i' h', spec_l7Draw.F b i h n = some (n, r1, rc, r3, r4, rp, r6, r7, i', h') ∧ CO b i' ∧ rc.length ≤ 1000 ∧ rp.length ≤ 1000 := by
  obtain ⟨x1, i1, h1, e1, _, _, c1⟩ := below_pos b i h 12 c (by omega) (by omega)
  obtain ⟨x2, i2, h2, e2, _, _, c2⟩ := below_pos b i1 h1 8 c1 (by omega) (by omega)
  obtain ⟨rc, i3, h3, e3, c3, hc⟩ := l7Some_is b i2 h2 0 7 3 c2 (by omega) (by omega) (by omega) (by omega)
  obtain ⟨x4, i4, h4, e4, _, _, c4⟩ := below_pos b i3 h3 15 c3 (by omega) (by omega)
  obtain ⟨rp, i5, h5, e5, c5, hp⟩ := l7Some_is b i4 h4 1 6 2 c4 (by omega) (by omega) (by omega) (by omega)
  obtain ⟨s0, s1, i6, h6, e6, c6⟩ := l5Draw_is b i5 h5 c5
  rw [spec_l7Draw.F_eq, e1, Option.bind_some]
  dsimp only
  rw [e2, Option.bind_some]
  dsimp only
  rw [e3, Option.bind_some]
  dsimp only
  rw [e4, Option.bind_some]
  dsimp only
  rw [e5, Option.bind_some]
  dsimp only
  rw [e6, Option.bind_some]
  exact ⟨_, rc, _, _, rp, _, _, i6, h6, rfl, c6, hc, hp⟩
theorem l7Any_is (b : List Int) (i h : Int) (c : CO b i) : ∃ r0 r1 rc r3 r4 rp r6 r7 i' h', spec_l7Any.F b i h = some (r0, r1, rc, r3, r4, rp, r6, r7, i', h') ∧ CO b i' ∧ rc.length ≤ 1000 ∧ rp.length ≤ 1000 := by
  obtain ⟨n, i1, h1, e1, _, _, c1⟩ := below_pos b i h 9 c (by omega) (by omega)
  obtain ⟨r1, rc, r3, r4, rp, r6, r7, i2, h2, e2, c2, hc, hp⟩ := l7Draw_is b i1 h1 (wrap64 (1 + n)) c1
  obtain ⟨s, i3, h3, e3, _, _, c3⟩ := below_pos b i2 h2 14 c2 (by omega) (by omega)
  rw [spec_l7Any.F_eq, e1, Option.bind_some]
  dsimp only
  rw [e2, Option.bind_some]
  dsimp only
  rw [e3, Option.bind_some]
  dsimp only
  by_cases s0 : s = 0
  · obtain ⟨v, i4, h4, e4, _, c4⟩ := l1Int_is b i3 h3 [0, 999, 1000] c3 (by decide) (by decide)
    rw [if_pos s0, e4, Option.bind_some]
    exact ⟨_, _, _, _, _, _, _, _, i4, h4, rfl, c4, hc, hp⟩
  rw [if_neg s0]
  by_cases s1 : s = 1
  · obtain ⟨v, i4, h4, e4, _, c4⟩ := l1Int_is b i3 h3 [0, 8, 9] c3 (by decide) (by decide)
    rw [if_pos s1, e4, Option.bind_some]
    exact ⟨_, _, _, _, _, _, _, _, i4, h4, rfl, c4, hc, hp⟩
  rw [if_neg s1]
  by_cases s2 : s = 2
  · obtain ⟨v, i4, h4, e4, _, c4⟩ := l1Int_is b i3 h3 [-1, 3, 8] c3 (by decide) (by decide)
    rw [if_pos s2, e4, Option.bind_some]
    exact ⟨_, _, _, _, _, _, _, _, i4, h4, rfl, c4, by simp, hp⟩
  rw [if_neg s2]
  by_cases s3 : s = 3
  · obtain ⟨v, i4, h4, e4, _, c4⟩ := l4Raw_is b i3 h3 c3
    rw [if_pos s3, e4, Option.bind_some]
    exact ⟨_, _, _, _, _, _, _, _, i4, h4, rfl, c4, hc, hp⟩
  rw [if_neg s3]
  by_cases s4 : s = 4
  · obtain ⟨v, i4, h4, e4, _, c4⟩ := l4Raw_is b i3 h3 c3
    rw [if_pos s4, e4, Option.bind_some]
    exact ⟨_, _, _, _, _, _, _, _, i4, h4, rfl, c4, hc, hp⟩
  rw [if_neg s4]
  by_cases s5 : s = 5
  · obtain ⟨v, i4, h4, e4, _, c4⟩ := l1Int_is b i3 h3 [0, 30, 31] c3 (by decide) (by decide)
    rw [if_pos s5, e4, Option.bind_some]
    exact ⟨_, _, _, _, _, _, _, _, i4, h4, rfl, c4, hc, by simp⟩
  rw [if_neg s5]
  by_cases s6 : s = 6
  · obtain ⟨v0, v1, i4, h4, e4, c4⟩ := l5Any_is b i3 h3 c3
    rw [if_pos s6, e4, Option.bind_some]
    exact ⟨_, _, _, _, _, _, _, _, i4, h4, rfl, c4, hc, hp⟩
  rw [if_neg s6]
  by_cases s7 : s = 7
  · rw [if_pos s7]
    exact ⟨_, _, _, _, _, _, _, _, i3, h3, rfl, c3, by simp, by simp⟩
  · rw [if_neg s7]
    exact ⟨_, _, _, _, _, _, _, _, i3, h3, rfl, c3, hc, hp⟩

theorem rdReport_at (l : List S29) (i : Nat) : rd_T29 l (i : Int) = l.getD i z29 := by simp [rd_T29]
theorem dropReport (l : List S29) (i : Nat) (h : i < l.length) : l.drop i = rd_T29 l (i : Int) :: l.drop (i + 1) := by
  rw [rdReport_at, getD_get l i _ h]
  exact List.drop_eq_getElem_cons h
theorem memReport (l : List S29) (i : Nat) (h : i < l.length) : rd_T29 l (i : Int) ∈ l := by
  rw [rdReport_at, getD_get l i _ h]
  exact List.getElem_mem h

/-- The rows of drawn reports are short. -/
def OKR (l : List S29) : Prop := ∀ y ∈ l, y.f2.length ≤ 1000 ∧ y.f5.length ≤ 1000
theorem OKR_set {l : List S29} (h : OKR l) (j : Nat) (y : S29) (h2 : y.f2.length ≤ 1000) (h5 : y.f5.length ≤ 1000) : OKR (l.set j y) := fun z hz => by
  rcases List.mem_or_eq_of_mem_set hz with e | e
  · exact h z e
  · rw [e]; exact ⟨h2, h5⟩
theorem OKR_app {l : List S29} (h : OKR l) (y : S29) (h2 : y.f2.length ≤ 1000) (h5 : y.f5.length ≤ 1000) : OKR (l ++ [y]) := fun z hz => by
  rcases List.mem_append.1 hz with e | e
  · exact h z e
  · rw [List.mem_singleton.1 e]; exact ⟨h2, h5⟩
theorem l7List_j1 (b : List Int) (l : List S29) (t : Bool) (i h : Int) (c : CO b i) (hl : l.length ≤ 1000) (ho : OKR l) (ht : t = true → 0 < l.length) : ∃ l' i' h', spec_l7List.J1 l t b i h = some (l', i', h') ∧ CO b i' ∧ l'.length ≤ 1000 ∧ OKR l' := by
  rw [spec_l7List.J1_eq]
  by_cases h1 : t = true
  · have := ht h1
    obtain ⟨r, i2, h2, e2, r0, r1, c2⟩ := below_pos b i h (l.length : Int) c (by omega) (by omega)
    obtain ⟨x0, x1, xc, x3, x4, xp, x6, x7, i3, h3, e3, c3, hc, hp⟩ := l7Any_is b i2 h2 c2
    rw [if_pos h1, e2, Option.bind_some]
    dsimp only
    rw [e3, Option.bind_some]
    dsimp only
    rw [if_pos r0, if_pos r1]
    exact ⟨_, i3, h3, rfl, c3, by rw [List.length_set]; exact hl, OKR_set ho _ _ hc hp⟩
  · rw [if_neg h1]
    exact ⟨l, i, h, rfl, c, hl, ho⟩
theorem l7List_l0 (b : List Int) : ∀ (d : Nat) (l : List S29) (x i h : Int), CO b i → 1 ≤ x → x + d = 6 → l.length + d ≤ 1000 → OKR l → ∃ l' i' h', spec_l7List.L0 l x b i h = some (l', i', h') ∧ CO b i' ∧ l'.length ≤ 1000 ∧ OKR l'
  | d, l, x, i, h, c, h0, hx, hl, ho => by
    obtain ⟨r, i1, h1, e1, r0, r1, c1⟩ := below_pos b i h 6 c (by omega) (by omega)
    rw [spec_l7List.L0_eq, e1, Option.bind_some]
    dsimp only
    by_cases c2 : x ≤ r
    · obtain ⟨x1, xc, x3, x4, xp, x6, x7, i2, h2, e2, c3, hc, hp⟩ := l7Draw_is b i1 h1 (wrap64 (3 * x)) c1
      rw [if_pos c2, e2, Option.bind_some]
      dsimp only
      rw [if_pos (by omega), show wrap64 (x + 1) = x + 1 from wrap_in _ (by omega)]
      match d, hx, hl with
      | 0, hx, hl => exact absurd hx (by omega)
      | d + 1, hx, hl => exact l7List_l0 b d _ (x + 1) i2 h2 c3 (by omega) (by omega) (by rw [List.length_append, List.length_singleton]; omega) (OKR_app ho _ hc hp)
    · rw [if_neg c2]
      by_cases c3 : (l.length : Int) > 0
      · obtain ⟨t, i2, h2, e2, c4⟩ := l1Once_is b i1 h1 8 c1 (by omega) (by omega)
        rw [if_pos c3, e2, Option.bind_some]
        exact l7List_j1 b l t i2 h2 c4 (by omega) ho (fun _ => by omega)
      · rw [if_neg c3]
        exact l7List_j1 b l false i1 h1 c1 (by omega) ho (fun h => by cases h)
theorem l7List_is (b : List Int) (i h : Int) (c : CO b i) : ∃ l' i' h', spec_l7List.F b i h = some (l', i', h') ∧ CO b i' ∧ l'.length ≤ 1000 ∧ OKR l' := by
  rw [spec_l7List.F_eq]
  exact l7List_l0 b 5 [] 1 i h c (by omega) (by omega) (by simp) (fun y hy => by cases hy)

def okAsc (a b : Int) (l : List Int) (i : Nat) : Prop := inR (rd l i) a b = true ∧ ((i : Int) > 0 → rd l ((i : Int) - 1) < rd l i)
noncomputable def isAsc (l : List Int) (a b : Int) : Bool := allF (okAsc a b l) l.length 0

noncomputable def isReport (r0 r1 : Int) (rc : List Int) (r3 r4 : Int) (rp : List Int) (r6 r7 : Int) : Bool := inR r0 1 999 && inR r1 1 8 && isAsc rc 0 7 && decide (1 ≤ r3) && decide (r3 ≤ r4) && decide (r4 ≤ 50) && isAsc rp 1 30 && decide ((rp.length : Int) ≤ 10) && (inR r6 0 100000 && inR r7 0 100000 && decide (r6 ≤ r7))
noncomputable def isFind (f0 f1 f2 f3 f4 f5 f6 f7 : Int) : Bool := (inR f0 1 999 && inR f1 1 8 && inR f2 0 7 && inR f3 1 50 && inR f4 0 10000000) && inR f5 1 30 && inR f6 0 100000 && inR f7 0 999

def allow (l : List Int) (n : Int) : Bool := decide (l.length = 0) || decide (n ∈ l)

noncomputable def whyNot (r0 r1 : Int) (rc : List Int) (r3 r4 : Int) (rp : List Int) (r6 r7 : Int) (f0 f1 f2 f3 f4 f5 f6 f7 : Int) : ByteArray :=
  if ¬ (isReport r0 r1 rc r3 r4 rp r6 r7 = true ∧ isFind f0 f1 f2 f3 f4 f5 f6 f7 = true) then ⟨#[105, 110, 118, 97, 108, 105, 100]⟩
  else if ¬ r1 = f1 then ⟨#[107, 105, 110, 100]⟩
  else if ¬ allow rc f2 = true then ⟨#[99, 111, 108, 111, 117, 114]⟩
  else if ¬ inR f3 r3 r4 = true then ⟨#[115, 105, 122, 101]⟩
  else if ¬ allow rp f5 = true then ⟨#[112, 108, 97, 99, 101]⟩
  else if f6 < r6 then ⟨#[116, 105, 109, 101]⟩ else ⟨#[]⟩
noncomputable def canBe (r0 r1 : Int) (rc : List Int) (r3 r4 : Int) (rp : List Int) (r6 r7 : Int) (f0 f1 f2 f3 f4 f5 f6 f7 : Int) : Bool := isReport r0 r1 rc r3 r4 rp r6 r7 && isFind f0 f1 f2 f3 f4 f5 f6 f7 && decide (r1 = f1) && allow rc f2 && inR f3 r3 r4 && allow rp f5 && decide (r6 ≤ f6)
theorem canBe_why (r0 r1 : Int) (rc : List Int) (r3 r4 : Int) (rp : List Int) (r6 r7 : Int) (f0 f1 f2 f3 f4 f5 f6 f7 : Int) : ((whyNot r0 r1 rc r3 r4 rp r6 r7 f0 f1 f2 f3 f4 f5 f6 f7).toList == ([] : List UInt8)) = canBe r0 r1 rc r3 r4 rp r6 r7 f0 f1 f2 f3 f4 f5 f6 f7 := by
  unfold whyNot canBe
  by_cases h1 : isReport r0 r1 rc r3 r4 rp r6 r7 = true
  · by_cases h2 : isFind f0 f1 f2 f3 f4 f5 f6 f7 = true
    · rw [h1, h2]
      simp only [and_self, not_true_eq_false, if_false, Bool.true_and]
      by_cases h3 : r1 = f1
      · simp only [h3, not_true_eq_false, if_false, decide_true, Bool.true_and]
        cases allow rc f2
        · first | (simp; done) | (simp; decide +kernel)
        · cases inR f3 r3 r4
          · first | (simp; done) | (simp; decide +kernel)
          · cases allow rp f5
            · first | (simp; done) | (simp; decide +kernel)
            · by_cases h4 : f6 < r6
              · simp only [h4, not_true_eq_false, if_false, if_true, Bool.true_and, decide_eq_false (show ¬ r6 ≤ f6 by omega)]
                decide +kernel
              · simp only [h4, not_true_eq_false, if_false, Bool.true_and, decide_eq_true (show r6 ≤ f6 by omega)]
                decide +kernel
      · simp only [h3, not_false_eq_true, if_true, decide_false, Bool.false_and]
        decide +kernel
    · rw [Bool.eq_false_iff.2 h2]
      simp only [Bool.false_eq_true, and_false, not_false_eq_true, if_true, Bool.and_false, Bool.false_and]
      decide +kernel
  · rw [Bool.eq_false_iff.2 h1]
    simp only [Bool.false_eq_true, false_and, not_false_eq_true, if_true, Bool.false_and]
    decide +kernel

def Asc (l : List Int) : Prop := l.Pairwise (fun x y => x < y)
theorem asc_ext : ∀ (a b : List Int), Asc a → Asc b → (∀ x, x ∈ a ↔ x ∈ b) → a = b
  | [], [], _, _, _ => rfl
  | [], y :: b, _, _, h => by have := (h y).2 (List.mem_cons_self ..); cases this
  | x :: a, [], _, _, h => by have := (h x).1 (List.mem_cons_self ..); cases this
  | x :: a, y :: b, ha, hb, h => by
    have ha' := List.pairwise_cons.1 ha
    have hb' := List.pairwise_cons.1 hb
    have e : x = y := by
      rcases List.mem_cons.1 ((h x).1 (List.mem_cons_self ..)) with h1 | h1
      · exact h1
      · rcases List.mem_cons.1 ((h y).2 (List.mem_cons_self ..)) with h2 | h2
        · exact h2.symm
        · have := hb'.1 x h1
          have := ha'.1 y h2
          omega
    subst e
    congr 1
    refine asc_ext a b ha'.2 hb'.2 (fun z => ⟨fun hz => ?_, fun hz => ?_⟩)
    · rcases List.mem_cons.1 ((h z).1 (List.mem_cons_of_mem _ hz)) with h1 | h1
      · have := ha'.1 z hz; omega
      · exact h1
    · rcases List.mem_cons.1 ((h z).2 (List.mem_cons_of_mem _ hz)) with h1 | h1
      · have := hb'.1 z hz; omega
      · exact h1
def putA : List Int → Int → List Int
  | [], n => [n]
  | x :: r, n => if x < n then x :: putA r n else if x = n then x :: r else n :: x :: r
theorem putA_mem (n z : Int) : ∀ l : List Int, z ∈ putA l n ↔ z = n ∨ z ∈ l
  | [] => by simp [putA]
  | x :: r => by
    simp only [putA]
    by_cases h1 : x < n
    · rw [if_pos h1, List.mem_cons, putA_mem n z r, List.mem_cons]
      exact ⟨fun h => by rcases h with h | h | h <;> simp [h], fun h => by rcases h with h | h | h <;> simp [h]⟩
    · rw [if_neg h1]
      by_cases h2 : x = n
      · rw [if_pos h2, List.mem_cons]
        refine ⟨fun h => .inr h, fun h => ?_⟩
        rcases h with h | h
        · exact .inl (by omega)
        · exact h
      · rw [if_neg h2, List.mem_cons]
theorem putA_asc (n : Int) : ∀ l : List Int, Asc l → Asc (putA l n)
  | [], _ => List.pairwise_singleton _ _
  | x :: r, h => by
    have h' := List.pairwise_cons.1 h
    simp only [putA]
    by_cases h1 : x < n
    · rw [if_pos h1]
      refine List.pairwise_cons.2 ⟨fun z hz => ?_, putA_asc n r h'.2⟩
      rcases (putA_mem n z r).1 hz with e | e
      · omega
      · exact h'.1 z e
    · rw [if_neg h1]
      by_cases h2 : x = n
      · rw [if_pos h2]; exact h
      · rw [if_neg h2]
        refine List.pairwise_cons.2 ⟨fun z hz => ?_, h⟩
        rcases List.mem_cons.1 hz with e | e
        · omega
        · have := h'.1 z e; omega
theorem putA_len (n : Int) : ∀ l : List Int, (putA l n).length ≤ l.length + 1
  | [] => by simp [putA]
  | x :: r => by
    simp only [putA]
    by_cases h1 : x < n
    · rw [if_pos h1, List.length_cons, List.length_cons]
      have := putA_len n r
      omega
    · rw [if_neg h1]
      split <;> simp

def okRepAt (l : List S29) (i : Nat) : Prop := isReport (rd_T29 l (i : Int)).f0 (rd_T29 l (i : Int)).f1 (rd_T29 l (i : Int)).f2 (rd_T29 l (i : Int)).f3 (rd_T29 l (i : Int)).f4 (rd_T29 l (i : Int)).f5 (rd_T29 l (i : Int)).f6.f0 (rd_T29 l (i : Int)).f6.f1 = true ∧ ((i : Int) > 0 → (rd_T29 l ((i : Int) - 1)).f0 < (rd_T29 l (i : Int)).f0)
noncomputable def areReports (l : List S29) : Bool := allF (okRepAt l) l.length 0 && decide ((l.length : Int) ≤ 20)
noncomputable def seekF (f0 f1 f2 f3 f4 f5 f6 f7 : Int) : List S29 → List Int
  | [] => []
  | y :: r => if canBe y.f0 y.f1 y.f2 y.f3 y.f4 y.f5 y.f6.f0 y.f6.f1 f0 f1 f2 f3 f4 f5 f6 f7 = true then y.f0 :: seekF f0 f1 f2 f3 f4 f5 f6 f7 r else seekF f0 f1 f2 f3 f4 f5 f6 f7 r
theorem seekF_len (f0 f1 f2 f3 f4 f5 f6 f7 : Int) : ∀ l : List S29, (seekF f0 f1 f2 f3 f4 f5 f6 f7 l).length ≤ l.length
  | [] => Nat.le_refl _
  | y :: r => by
    have := seekF_len f0 f1 f2 f3 f4 f5 f6 f7 r
    simp only [seekF]
    split <;> simp only [List.length_cons] <;> omega
noncomputable def seekers (f0 f1 f2 f3 f4 f5 f6 f7 : Int) (l : List S29) : List Int := if areReports l = true then seekF f0 f1 f2 f3 f4 f5 f6 f7 l else []
theorem seekers_len (f0 f1 f2 f3 f4 f5 f6 f7 : Int) (l : List S29) : (seekers f0 f1 f2 f3 f4 f5 f6 f7 l).length ≤ l.length := by
  unfold seekers
  split
  · exact seekF_len f0 f1 f2 f3 f4 f5 f6 f7 l
  · exact Nat.zero_le _
theorem seekF_mem (f0 f1 f2 f3 f4 f5 f6 f7 : Int) (z : Int) : ∀ l : List S29, z ∈ seekF f0 f1 f2 f3 f4 f5 f6 f7 l ↔ ∃ y ∈ l, canBe y.f0 y.f1 y.f2 y.f3 y.f4 y.f5 y.f6.f0 y.f6.f1 f0 f1 f2 f3 f4 f5 f6 f7 = true ∧ y.f0 = z
  | [] => by simp [seekF]
  | y :: r => by
    have ih := seekF_mem f0 f1 f2 f3 f4 f5 f6 f7 z r
    simp only [seekF]
    by_cases c : canBe y.f0 y.f1 y.f2 y.f3 y.f4 y.f5 y.f6.f0 y.f6.f1 f0 f1 f2 f3 f4 f5 f6 f7 = true
    · rw [if_pos c, List.mem_cons, ih]
      constructor
      · rintro (h | ⟨x, h1, h2, h3⟩)
        · exact ⟨y, List.mem_cons_self .., c, h.symm⟩
        · exact ⟨x, List.mem_cons_of_mem _ h1, h2, h3⟩
      · rintro ⟨x, h1, h2, h3⟩
        rcases List.mem_cons.1 h1 with e | e
        · rw [e] at h3; exact .inl h3.symm
        · exact .inr ⟨x, e, h2, h3⟩
    · rw [if_neg c, ih]
      constructor
      · rintro ⟨x, h1, h2, h3⟩
        exact ⟨x, List.mem_cons_of_mem _ h1, h2, h3⟩
      · rintro ⟨x, h1, h2, h3⟩
        rcases List.mem_cons.1 h1 with e | e
        · rw [e] at h2; exact absurd h2 c
        · exact ⟨x, e, h2, h3⟩
theorem reports_lt {l : List S29} (h : areReports l = true) : ∀ (d i : Nat), i + d + 1 < l.length → (rd_T29 l (i : Int)).f0 < (rd_T29 l ((i + d + 1 : Nat) : Int)).f0 := by
  unfold areReports at h
  rw [Bool.and_eq_true, allF_all] at h
  have step : ∀ j : Nat, j + 1 < l.length → (rd_T29 l (j : Int)).f0 < (rd_T29 l ((j + 1 : Nat) : Int)).f0 := fun j hj => by
    have := (h.1 (j + 1) hj).2 (by omega)
    rw [show ((j + 1 : Nat) : Int) - 1 = (j : Int) by omega] at this
    exact this
  intro d
  induction d with
  | zero => exact fun i hi => step i hi
  | succ d ih =>
    intro i hi
    have h1 := ih i (by omega)
    have h2 := step (i + d + 1) (by omega)
    exact Int.lt_trans h1 h2
theorem report_same {l : List S29} (h : areReports l = true) {x : S29} (hx : x ∈ l) (i : Nat) (hi : i < l.length) (e : x.f0 = (rd_T29 l (i : Int)).f0) : x = rd_T29 l (i : Int) := by
  obtain ⟨j, hj, ej⟩ := List.getElem_of_mem hx
  have ej' : rd_T29 l (j : Int) = x := by rw [rdReport_at, getD_get l j _ hj, ej]
  rcases Nat.lt_trichotomy i j with c | c | c
  · obtain ⟨d, rfl⟩ : ∃ d, j = i + d + 1 := ⟨j - i - 1, by omega⟩
    have := reports_lt h d i hj
    rw [ej'] at this
    omega
  · subst c
    exact ej'.symm
  · obtain ⟨d, rfl⟩ : ∃ d, i = j + d + 1 := ⟨i - j - 1, by omega⟩
    have := reports_lt h d j hi
    rw [ej'] at this
    omega
/-- Who seeks it: in a row of reports, just those that it can be. -/
theorem seek_is (f0 f1 f2 f3 f4 f5 f6 f7 : Int) (l : List S29) (h : areReports l = true) (i : Nat) (hi : i < l.length) : (rd_T29 l (i : Int)).f0 ∈ seekers f0 f1 f2 f3 f4 f5 f6 f7 l ↔ canBe (rd_T29 l (i : Int)).f0 (rd_T29 l (i : Int)).f1 (rd_T29 l (i : Int)).f2 (rd_T29 l (i : Int)).f3 (rd_T29 l (i : Int)).f4 (rd_T29 l (i : Int)).f5 (rd_T29 l (i : Int)).f6.f0 (rd_T29 l (i : Int)).f6.f1 f0 f1 f2 f3 f4 f5 f6 f7 = true := by
  rw [seekers, if_pos h, seekF_mem]
  constructor
  · rintro ⟨y, hy, hc, e⟩
    have := report_same h hy i hi e
    rw [this] at hc
    exact hc
  · intro hc
    exact ⟨_, memReport l i hi, hc, rfl⟩

/-- The rows of the reports are of bounded length. -/
def OKB (l : List S29) : Prop := ∀ y ∈ l, y.f2.length ≤ 1048576 ∧ y.f5.length ≤ 1048576

theorem inRange (a b c : Int) : impl_InRange.f a b c = some (inR a b c) := by
  unfold impl_InRange.f inR
  by_cases h : b ≤ a <;> simp [h]

theorem impl_isAscending_l0 (l : List Int) (a b : Int) (hn : l.length ≤ 4194304) : ∀ (d i : Nat), i + d = l.length → impl_isAscending.L0 l a b l (l.length : Int) (i : Int) = some (allF (okAsc a b l) l.length i)
  | 0, i, h => by rw [impl_isAscending.L0_eq, if_neg (by omega), allF_end (by omega)]
  | d + 1, i, h => by
    have hi : i < l.length := by omega
    have ih := impl_isAscending_l0 l a b hn d (i + 1) (by omega)
    rw [impl_isAscending.L0_eq]
    simp only [wrap_succ i (by omega), wrap_pred i (by omega), ih, inRange, Option.bind_some]
    by_cases hp_ : okAsc a b l i
    · rw [allF_yes hp_]
      simp only [okAsc] at hp_
      obtain ⟨h1_, h2_⟩ := hp_
      repeat' split
      all_goals first
        | rfl
        | (exfalso; first | contradiction | omega)
    · rw [allF_no hi hp_]
      repeat' split
      all_goals first
        | rfl
        | (simp; done)
        | (exfalso; first | contradiction | omega)
        | (exfalso; apply hp_; simp only [okAsc]; (repeat' constructor) <;> first | assumption | (intro _; omega) | omega)
theorem impl_isAscending_is (l : List Int) (a b : Int) (hn : l.length ≤ 4194304) : impl_isAscending.F l a b = some (isAsc l a b) := by
  rw [impl_isAscending.F_eq]
  exact impl_isAscending_l0 l a b hn l.length 0 (by omega)

theorem impl_IsSpan_is (a b : Int) : impl_IsSpan.f a b = some (inR a 0 100000 && inR b 0 100000 && decide (a ≤ b)) := by
  unfold impl_IsSpan.f
  simp only [inRange, Option.bind_some]
  cases inR a 0 100000 <;> cases inR b 0 100000 <;> simp

theorem impl_IsReport_is (r0 r1 : Int) (rc : List Int) (r3 r4 : Int) (rp : List Int) (r6 r7 : Int) (hc : rc.length ≤ 4194304) (hp : rp.length ≤ 4194304) : impl_IsReport.F r0 r1 rc r3 r4 rp r6 r7 = some (isReport r0 r1 rc r3 r4 rp r6 r7) := by
  rw [impl_IsReport.F_eq]
  simp only [inRange, impl_isAscending_is rc 0 7 hc, impl_isAscending_is rp 1 30 hp, impl_IsSpan_is, Option.bind_some, isReport]
  generalize (inR r6 0 100000 && inR r7 0 100000 && decide (r6 ≤ r7)) = s
  cases inR r0 1 999 <;> cases inR r1 1 8 <;> cases isAsc rc 0 7 <;> cases isAsc rp 1 30 <;> by_cases h1 : 1 ≤ r3 <;> by_cases h2 : r3 ≤ r4 <;> by_cases h3 : r4 ≤ 50 <;> by_cases h4 : (rp.length : Int) ≤ 10 <;> simp [h1, h2, h3, h4]

theorem impl_AreReports_l0 (l : List S29) (hn : l.length ≤ 1048576) (ho : OKB l) : ∀ (d i : Nat), i + d = l.length → impl_AreReports.L0 l l (l.length : Int) (i : Int) = some (allF (okRepAt l) l.length i)
  | 0, i, h => by rw [impl_AreReports.L0_eq, if_neg (by omega), allF_end (by omega)]
  | d + 1, i, h => by
    have hi : i < l.length := by omega
    have ih := impl_AreReports_l0 l hn ho d (i + 1) (by omega)
    obtain ⟨o2, o5⟩ := ho _ (memReport l i hi)
    have ht : impl_IsReport.F (rd_T29 l (i : Int)).f0 (rd_T29 l (i : Int)).f1 (rd_T29 l (i : Int)).f2 (rd_T29 l (i : Int)).f3 (rd_T29 l (i : Int)).f4 (rd_T29 l (i : Int)).f5 (rd_T29 l (i : Int)).f6.f0 (rd_T29 l (i : Int)).f6.f1 = some (isReport (rd_T29 l (i : Int)).f0 (rd_T29 l (i : Int)).f1 (rd_T29 l (i : Int)).f2 (rd_T29 l (i : Int)).f3 (rd_T29 l (i : Int)).f4 (rd_T29 l (i : Int)).f5 (rd_T29 l (i : Int)).f6.f0 (rd_T29 l (i : Int)).f6.f1) := impl_IsReport_is _ _ _ _ _ _ _ _ (by omega) (by omega)
    rw [impl_AreReports.L0_eq, if_pos (by omega), if_pos (by omega), if_pos (by omega), ht, Option.bind_some, wrap_pred i (by omega), wrap_succ i (by omega), ih]
    by_cases c1 : isReport (rd_T29 l (i : Int)).f0 (rd_T29 l (i : Int)).f1 (rd_T29 l (i : Int)).f2 (rd_T29 l (i : Int)).f3 (rd_T29 l (i : Int)).f4 (rd_T29 l (i : Int)).f5 (rd_T29 l (i : Int)).f6.f0 (rd_T29 l (i : Int)).f6.f1 = true
    · rw [if_pos c1]
      by_cases c0 : (i : Int) > 0
      · rw [if_pos c0, if_pos (by omega), if_pos (by omega)]
        by_cases c2 : (rd_T29 l (i : Int)).f0 ≤ (rd_T29 l ((i : Int) - 1)).f0
        · rw [if_pos c2, allF_no hi (fun h => absurd (h.2 c0) (by omega))]
        · have hp : okRepAt l i := ⟨c1, fun _ => by omega⟩
          rw [if_neg c2, allF_yes hp]
      · have hp : okRepAt l i := ⟨c1, fun hh => absurd hh c0⟩
        rw [if_neg c0, allF_yes hp]
    · rw [if_neg c1, allF_no hi (fun h => c1 h.1)]
theorem impl_AreReports_is (l : List S29) (hn : l.length ≤ 1048576) (ho : OKB l) : impl_AreReports.F l = some (areReports l) := by
  rw [impl_AreReports.F_eq, areReports]
  by_cases h : (l.length : Int) > 20
  · rw [if_pos h, decide_eq_false (by omega), Bool.and_false]
  · rw [if_neg h, decide_eq_true (by omega), Bool.and_true]
    exact impl_AreReports_l0 l hn ho l.length 0 (by omega)

theorem idxFReport_spec (p : S29 → Bool) : ∀ (l : List S29) (i : Int), (idxF29 p l i = -1 ∧ ∀ x ∈ l, ¬ p x = true) ∨ ∃ j : Nat, j < l.length ∧ idxF29 p l i = i + (j : Int) ∧ p (l.getD j z29) = true ∧ ∀ m : Nat, m < j → ¬ p (l.getD m z29) = true
  | [], i => .inl ⟨rfl, by simp⟩
  | x :: r, i => by
    simp only [idxF29]
    by_cases h : p x = true
    · rw [if_pos h]
      exact .inr ⟨0, by simp, by simp, by simpa using h, fun m hm => absurd hm (by omega)⟩
    · rw [if_neg h]
      rcases idxFReport_spec p r (i + 1) with ⟨h1, h2⟩ | ⟨j, h1, h2, h3, h4⟩
      · exact .inl ⟨h1, fun y hy => by
          rcases List.mem_cons.1 hy with e | e
          · rw [e]; exact h
          · exact h2 y e⟩
      · refine .inr ⟨j + 1, by simp; omega, by rw [h2]; omega, by simpa using h3, fun m hm => ?_⟩
        cases m with
        | zero => simpa using h
        | succ m => simpa using h4 m (by omega)
theorem idxFReport_at (p : S29 → Bool) (l : List S29) : (idxF29 p l 0 = -1 ∧ ∀ x ∈ l, ¬ p x = true) ∨ ∃ j : Nat, j < l.length ∧ idxF29 p l 0 = (j : Int) ∧ p (rd_T29 l (j : Int)) = true ∧ ∀ m : Nat, m < j → ¬ p (rd_T29 l (m : Int)) = true := by
  rcases idxFReport_spec p l 0 with h | ⟨j, h1, h2, h3, h4⟩
  · exact .inl h
  · refine .inr ⟨j, h1, by rw [h2]; omega, by rw [rdReport_at]; exact h3, fun m hm => by rw [rdReport_at]; exact h4 m hm⟩

theorem cloneInt_is (l : List Int) (h : l.length ≤ 1000) : slices_Clone_int_int.f l = some l := by
  unfold slices_Clone_int_int.f
  rw [Option.bind_some, if_pos (by simp; omega), List.nil_append]
theorem cloneReport_is (r0 r1 : Int) (rc : List Int) (r3 r4 : Int) (rp : List Int) (r6 r7 : Int) (hc : rc.length ≤ 1000) (hp : rp.length ≤ 1000) : impl_cloneReport.f r0 r1 rc r3 r4 rp r6 r7 = some (r0, r1, rc, r3, r4, rp, r6, r7) := by
  unfold impl_cloneReport.f
  rw [cloneInt_is rc hc, Option.bind_some, cloneInt_is rp hp, Option.bind_some]
theorem cloneReports_l0 (l : List S29) (hn : l.length ≤ 1000) (ho : OKR l) : ∀ (d i : Nat) (acc : List S29), i + d = l.length → acc.length ≤ i → impl_cloneReports.L0 acc l (l.length : Int) (i : Int) = some (acc ++ l.drop i)
  | 0, i, acc, h, ha => by rw [impl_cloneReports.L0_eq, if_neg (by omega), List.drop_of_length_le (by omega), List.append_nil]
  | d + 1, i, acc, h, ha => by
    obtain ⟨o2, o5⟩ := ho _ (memReport l i (by omega))
    rw [impl_cloneReports.L0_eq, if_pos (by omega), if_pos (by omega), if_pos (by omega), cloneReport_is _ _ _ _ _ _ _ _ o2 o5, Option.bind_some, if_pos (by omega), wrap_succ i (by omega)]
    rw [cloneReports_l0 l hn ho d (i + 1) _ (by omega) (by rw [List.length_append, List.length_singleton]; omega), List.append_assoc, dropReport l i (by omega)]
    rfl
theorem cloneReports_is (l : List S29) (hn : l.length ≤ 1000) (ho : OKR l) : impl_cloneReports.F l = some l := by
  rw [impl_cloneReports.F_eq]
  have := cloneReports_l0 l hn ho l.length 0 [] (by omega) (by simp)
  rw [List.drop_zero, List.nil_append] at this
  exact this
theorem okb_of {l : List S29} (h : OKR l) : OKB l := fun y hy => by
  have := h y hy
  omega
theorem put_j1 (l o : List S29) (hn : l.length ≤ 1000) (ho : OKR l) (hon : o.length ≤ 1048576) (hob : OKB o) : impl_PutReport.J1 l o = some (if areReports o = true then (o, true) else (l, false)) := by
  rw [impl_PutReport.J1_eq, impl_AreReports_is o hon hob, Option.bind_some]
  by_cases h : areReports o = true
  · rw [if_pos h, if_pos h]
  · rw [if_neg h, if_neg h, cloneReports_is l hn ho, Option.bind_some]
theorem put_l0 (l : List S29) (hn : l.length ≤ 1000) (ho : OKR l) (r0 r1 : Int) (rc : List Int) (r3 r4 : Int) (rp : List Int) (r6 r7 : Int) (hc : rc.length ≤ 1000) (hp : rp.length ≤ 1000) : ∀ (d i : Nat), i + d = l.length → ∃ q : Nat, q ≤ l.length ∧ impl_PutReport.L0 l l (i : Int) r0 r1 rc r3 r4 rp r6 r7 = impl_PutReport.J1 l (l.take q ++ [(⟨r0, r1, rc, r3, r4, rp, ⟨r6, r7⟩⟩ : S29)] ++ l.drop q)
  | 0, i, h => ⟨i, by omega, by rw [impl_PutReport.L0_eq, if_neg (by omega), cloneReport_is r0 r1 rc r3 r4 rp r6 r7 hc hp, Option.bind_some, if_pos ⟨by omega, by omega, by omega⟩, Int.toNat_natCast]⟩
  | d + 1, i, h => by
    by_cases c : (rd_T29 l (i : Int)).f0 < r0
    · obtain ⟨q, h1, h2⟩ := put_l0 l hn ho r0 r1 rc r3 r4 rp r6 r7 hc hp d (i + 1) (by omega)
      exact ⟨q, h1, by rw [impl_PutReport.L0_eq, if_pos (by omega), if_pos (by omega), if_pos c, wrap_succ i (by omega)]; exact h2⟩
    · exact ⟨i, by omega, by rw [impl_PutReport.L0_eq, if_pos (by omega), if_pos (by omega), if_neg c, cloneReport_is r0 r1 rc r3 r4 rp r6 r7 hc hp, Option.bind_some, if_pos ⟨by omega, by omega, by omega⟩, Int.toNat_natCast]⟩
/-- What is put in stands in the row that PutReport asks about; else the old row comes back. -/
theorem put_is (l : List S29) (hn : l.length ≤ 1000) (ho : OKR l) (r0 r1 : Int) (rc : List Int) (r3 r4 : Int) (rp : List Int) (r6 r7 : Int) (hc : rc.length ≤ 1000) (hp : rp.length ≤ 1000) : ∃ o : List S29, (⟨r0, r1, rc, r3, r4, rp, ⟨r6, r7⟩⟩ : S29) ∈ o ∧ o.length ≤ 1048576 ∧ OKB o ∧ impl_PutReport.F l r0 r1 rc r3 r4 rp r6 r7 = some (if areReports o = true then (o, true) else (l, false)) := by
  rw [impl_PutReport.F_eq, cloneReports_is l hn ho, Option.bind_some, impl_FindReport.f, Option.bind_some]
  have hrv : ∀ z ∈ [(⟨r0, r1, rc, r3, r4, rp, ⟨r6, r7⟩⟩ : S29)], z.f2.length ≤ 1000 ∧ z.f5.length ≤ 1000 := fun z hz => by
    rw [List.mem_singleton.1 hz]
    exact ⟨hc, hp⟩
  rcases idxFReport_at (fun x => x.f0 == r0) l with ⟨h, _⟩ | ⟨j, hj, h, _⟩
  · obtain ⟨q, hq, e⟩ := put_l0 l hn ho r0 r1 rc r3 r4 rp r6 r7 hc hp l.length 0 (by omega)
    have hol : (l.take q ++ [(⟨r0, r1, rc, r3, r4, rp, ⟨r6, r7⟩⟩ : S29)] ++ l.drop q).length ≤ 1048576 := by
      simp only [List.length_append, List.length_take, List.length_drop, List.length_singleton]
      omega
    have hor : OKR (l.take q ++ [(⟨r0, r1, rc, r3, r4, rp, ⟨r6, r7⟩⟩ : S29)] ++ l.drop q) := fun z hz => by
      rcases List.mem_append.1 hz with h1 | h1
      · rcases List.mem_append.1 h1 with h2 | h2
        · exact ho z (List.mem_of_mem_take h2)
        · exact hrv z h2
      · exact ho z (List.mem_of_mem_drop h1)
    refine ⟨_, List.mem_append_left _ (List.mem_append_right _ (List.mem_singleton_self _)), hol, okb_of hor, ?_⟩
    rw [h, if_neg (by decide)]
    exact e.trans (put_j1 l _ hn ho hol (okb_of hor))
  · have hol : (l.set j (⟨r0, r1, rc, r3, r4, rp, ⟨r6, r7⟩⟩ : S29)).length ≤ 1048576 := by rw [List.length_set]; omega
    have hor : OKR (l.set j (⟨r0, r1, rc, r3, r4, rp, ⟨r6, r7⟩⟩ : S29)) := OKR_set ho j _ hc hp
    refine ⟨l.set j (⟨r0, r1, rc, r3, r4, rp, ⟨r6, r7⟩⟩ : S29), List.mem_set (by exact hj) _, hol, okb_of hor, ?_⟩
    rw [h, if_pos (by omega), cloneReport_is r0 r1 rc r3 r4 rp r6 r7 hc hp, Option.bind_some, if_pos (by omega), if_pos (by omega), Int.toNat_natCast]
    exact put_j1 l _ hn ho hol (okb_of hor)

theorem slicesEq_l0 (l m : List Int) (hlm : l.length = m.length) (hn : l.length ≤ 4194304) : ∀ (d i : Nat), i + d = l.length → slices_Equal_int_int.L0 l m (l.length : Int) (i : Int) = some (decide (l.drop i = m.drop i))
  | 0, i, h => by
    rw [slices_Equal_int_int.L0_eq, if_neg (by omega), List.drop_of_length_le (by omega), List.drop_of_length_le (by omega)]
    simp
  | d + 1, i, h => by
    rw [slices_Equal_int_int.L0_eq, if_pos (by omega), if_pos (by omega), if_pos (by omega), if_pos (by omega), wrap_succ i (by omega), slicesEq_l0 l m hlm hn d (i + 1) (by omega), dropInt l i (by omega), dropInt m i (by omega)]
    by_cases e : rd l (i : Int) = rd m (i : Int)
    · rw [if_pos e, e]
      simp
    · rw [if_neg e]
      simp [e]
theorem slicesEq (l m : List Int) (hl : l.length ≤ 4194304) : slices_Equal_int_int.F l m = some (decide (l = m)) := by
  rw [slices_Equal_int_int.F_eq]
  by_cases h : l.length = m.length
  · have := slicesEq_l0 l m h hl l.length 0 (by omega)
    rw [List.drop_zero, List.drop_zero] at this
    rw [if_pos (by omega)]
    exact this
  · have : ¬ l = m := fun e => h (by rw [e])
    rw [if_neg (by omega), decide_eq_false this]

def eqRep (r0 r1 : Int) (rc : List Int) (r3 r4 : Int) (rp : List Int) (r6 r7 : Int) (s0 s1 : Int) (sc : List Int) (s3 s4 : Int) (sp : List Int) (s6 s7 : Int) : Bool := decide (r0 = s0 ∧ r1 = s1 ∧ rc = sc ∧ r3 = s3 ∧ r4 = s4 ∧ rp = sp ∧ r6 = s6 ∧ r7 = s7)
theorem eqRep_refl (r0 r1 : Int) (rc : List Int) (r3 r4 : Int) (rp : List Int) (r6 r7 : Int) : eqRep r0 r1 rc r3 r4 rp r6 r7 r0 r1 rc r3 r4 rp r6 r7 = true := by simp [eqRep]
theorem eqRep_symm (r0 r1 : Int) (rc : List Int) (r3 r4 : Int) (rp : List Int) (r6 r7 : Int) (s0 s1 : Int) (sc : List Int) (s3 s4 : Int) (sp : List Int) (s6 s7 : Int) : eqRep r0 r1 rc r3 r4 rp r6 r7 s0 s1 sc s3 s4 sp s6 s7 = eqRep s0 s1 sc s3 s4 sp s6 s7 r0 r1 rc r3 r4 rp r6 r7 := by
  unfold eqRep
  rw [Bool.eq_iff_iff, decide_eq_true_eq, decide_eq_true_eq]
  constructor
  · rintro ⟨h0, h1, h2, h3, h4, h5, h6, h7⟩
    exact ⟨h0.symm, h1.symm, h2.symm, h3.symm, h4.symm, h5.symm, h6.symm, h7.symm⟩
  · rintro ⟨h0, h1, h2, h3, h4, h5, h6, h7⟩
    exact ⟨h0.symm, h1.symm, h2.symm, h3.symm, h4.symm, h5.symm, h6.symm, h7.symm⟩
theorem impl_EqualReports_is (r0 r1 : Int) (rc : List Int) (r3 r4 : Int) (rp : List Int) (r6 r7 : Int) (s0 s1 : Int) (sc : List Int) (s3 s4 : Int) (sp : List Int) (s6 s7 : Int) (hc : rc.length ≤ 4194304) (hp : rp.length ≤ 4194304) : impl_EqualReports.F r0 r1 rc r3 r4 rp r6 r7 s0 s1 sc s3 s4 sp s6 s7 = some (eqRep r0 r1 rc r3 r4 rp r6 r7 s0 s1 sc s3 s4 sp s6 s7) := by
  rw [impl_EqualReports.F_eq, slicesEq rc sc hc, slicesEq rp sp hp, eqRep]
  by_cases h0 : r0 = s0
  · by_cases h1 : r1 = s1
    · by_cases h3 : r3 = s3
      · by_cases h4 : r4 = s4
        · by_cases h6 : r6 = s6
          · by_cases h7 : r7 = s7
            · by_cases h2 : rc = sc
              · by_cases h5 : rp = sp
                · simp [h0, h1, h2, h3, h4, h5, h6, h7]
                · simp [h0, h1, h2, h3, h4, h5, h6, h7]
              · simp [h0, h1, h2, h3, h4, h6, h7]
            · simp [h0, h1, h3, h4, h6, h7]
          · simp [h0, h1, h3, h4, h6]
        · simp [h0, h1, h3, h4]
      · simp [h0, h1, h3]
    · simp [h0, h1]
  · simp [h0]

theorem drawPutReport_is (b : List Int) (hb : b.length ≤ 1048576) : ∃ l r0 r1 rc r3 r4 rp r6 r7, spec_DrawPutReport.F b = some (l, r0, r1, rc, r3, r4, rp, r6, r7) ∧ l.length ≤ 1000 ∧ OKR l ∧ rc.length ≤ 1000 ∧ rp.length ≤ 1000 := by
  obtain ⟨h0, e0, c0⟩ := l1New_is b hb
  obtain ⟨l, i1, h1, e1, c1, hl, ho⟩ := l7List_is b 0 h0 c0
  obtain ⟨r0, r1, rc, r3, r4, rp, r6, r7, i2, h2, e2, c2, hc, hp⟩ := l7Any_is b i1 h1 c1
  rw [spec_DrawPutReport.F_eq, e0, Option.bind_some]
  dsimp only
  rw [e1, Option.bind_some]
  dsimp only
  rw [e2, Option.bind_some]
  exact ⟨l, _, _, _, _, _, _, _, _, rfl, hl, ho, hc, hp⟩
theorem l7Report_is (r0 r1 : Int) (rc : List Int) (r3 r4 : Int) (rp : List Int) (r6 r7 : Int) (hc : rc.length ≤ 1000) (hp : rp.length ≤ 1000) : spec_l7Report.f r0 r1 rc r3 r4 rp r6 r7 = some (r0, r1, rc, r3, r4, rp, r6, r7) := by
  unfold spec_l7Report.f
  rw [Option.bind_some, if_pos (by simp; omega), Option.bind_some, if_pos (by simp; omega), List.nil_append, List.nil_append]
theorem drawEqual_is (b : List Int) (hb : b.length ≤ 1048576) : ∃ r0 r1 rc r3 r4 rp r6 r7 s0 s1 sc s3 s4 sp s6 s7, spec_DrawEqualReports.F b = some (r0, r1, rc, r3, r4, rp, r6, r7, s0, s1, sc, s3, s4, sp, s6, s7) ∧ rc.length ≤ 1000 ∧ rp.length ≤ 1000 ∧ sc.length ≤ 1000 ∧ sp.length ≤ 1000 := by
  obtain ⟨h0, e0, c0⟩ := l1New_is b hb
  obtain ⟨r0, r1, rc, r3, r4, rp, r6, r7, i1, h1, e1, c1, hc, hp⟩ := l7Any_is b 0 h0 c0
  obtain ⟨t, i2, h2, e2, c2⟩ := l1Once_is b i1 h1 2 c1 (by omega) (by omega)
  rw [spec_DrawEqualReports.F_eq, e0, Option.bind_some]
  dsimp only
  rw [e1, Option.bind_some]
  dsimp only
  rw [e2, Option.bind_some]
  dsimp only
  split
  · rw [l7Report_is r0 r1 rc r3 r4 rp r6 r7 hc hp, Option.bind_some]
    exact ⟨_, _, _, _, _, _, _, _, _, _, _, _, _, _, _, _, rfl, hc, hp, hc, hp⟩
  · obtain ⟨s0, s1, sc, s3, s4, sp, s6, s7, i3, h3, e3, c3, hsc, hsp⟩ := l7Any_is b i2 h2 c2
    rw [e3, Option.bind_some]
    exact ⟨_, _, _, _, _, _, _, _, _, _, _, _, _, _, _, _, rfl, hc, hp, hsc, hsp⟩
theorem drawVague_is (b : List Int) (hb : b.length ≤ 1048576) : ∃ r0 r1 rc r3 r4 rp r6 r7, spec_DrawIsVague.F b = some (r0, r1, rc, r3, r4, rp, r6, r7) ∧ rc.length ≤ 1000 ∧ rp.length ≤ 1000 := by
  obtain ⟨h0, e0, c0⟩ := l1New_is b hb
  obtain ⟨r0, r1, rc, r3, r4, rp, r6, r7, i1, h1, e1, c1, hc, hp⟩ := l7Any_is b 0 h0 c0
  rw [spec_DrawIsVague.F_eq, spec_DrawIsReport.F_eq, e0, Option.bind_some]
  dsimp only
  rw [e1, Option.bind_some, Option.bind_some]
  exact ⟨_, _, _, _, _, _, _, _, rfl, hc, hp⟩
theorem rep_j0 (b : List Int) (hb : b.length ≤ 1048576) : laws_FnReports.J0 b = some true := by
  obtain ⟨r0, r1, rc, r3, r4, rp, r6, r7, s0, s1, sc, s3, s4, sp, s6, s7, e, hc, hp, hsc, hsp⟩ := drawEqual_is b hb
  obtain ⟨v0, v1, vc, v3, v4, vp, v6, v7, e2, hvc, hvp⟩ := drawVague_is b hb
  rw [laws_FnReports.J0_eq, e, Option.bind_some]
  dsimp only
  rw [e2, Option.bind_some]
  dsimp only
  rw [impl_EqualReports_is r0 r1 rc r3 r4 rp r6 r7 s0 s1 sc s3 s4 sp s6 s7 (by omega) (by omega), Option.bind_some, impl_EqualReports_is s0 s1 sc s3 s4 sp s6 s7 r0 r1 rc r3 r4 rp r6 r7 (by omega) (by omega), Option.bind_some, eqRep_symm s0 s1 sc s3 s4 sp s6 s7 r0 r1 rc r3 r4 rp r6 r7, if_pos (beq_self_eq_true _), impl_EqualReports_is r0 r1 rc r3 r4 rp r6 r7 r0 r1 rc r3 r4 rp r6 r7 (by omega) (by omega), Option.bind_some, eqRep_refl, if_pos rfl]
  have hR := impl_IsReport_is v0 v1 vc v3 v4 vp v6 v7 (by omega) (by omega)
  rw [impl_IsVague.F_eq, hR, Option.bind_some]
  by_cases h : isReport v0 v1 vc v3 v4 vp v6 v7 = true
  · rw [if_pos h, h]
    have key : ∀ o : Option Bool, (∃ t, o = some t) → (o.bind fun ab => if ab = true then (some true).bind fun ac => some ac else some true) = some true := by
      rintro o ⟨t, rfl⟩
      cases t <;> rfl
    apply key
    split
    · split
      · split
        · exact ⟨_, rfl⟩
        · exact ⟨_, rfl⟩
      · exact ⟨_, rfl⟩
    · exact ⟨_, rfl⟩
  · rw [if_neg h, Option.bind_some, if_neg (by decide)]
theorem law_FnReports (l0 : List Int) (hm0 : l0.length ≤ maxLen) (hw0 : ∀ y ∈ l0, (fun n : Int => (Lit.int .u8 n).wf = true) y) : laws_FnReports.F l0 = some true := by
  rw [laws_FnReports.F_eq, big_is, Option.bind_some]
  by_cases h : (l0.length : Int) > 1048576
  · rw [decide_eq_true h, if_pos rfl]
  · have hb : l0.length ≤ 1048576 := by omega
    have hJ := rep_j0 l0 hb
    obtain ⟨l, r0, r1, rc, r3, r4, rp, r6, r7, e, hl, ho, hc, hp⟩ := drawPutReport_is l0 hb
    obtain ⟨o, hmem, hol, hob, eP⟩ := put_is l hl ho r0 r1 rc r3 r4 rp r6 r7 hc hp
    rw [decide_eq_false h, if_neg (by decide), e, Option.bind_some]
    dsimp only
    rw [eP, Option.bind_some]
    by_cases ha : areReports o = true
    · rw [if_pos ha]
      dsimp only
      rw [if_pos rfl, impl_FindReport.f, Option.bind_some, impl_AreReports_is o hol hob, Option.bind_some, if_pos ha]
      rcases idxFReport_at (fun x => x.f0 == r0) o with ⟨_, h4⟩ | ⟨j, hj, h4, h5, _⟩
      · exact absurd (beq_self_eq_true _) (h4 _ hmem)
      · have hs := report_same ha hmem j hj (by simpa using (beq_iff_eq.1 h5).symm)
        rw [h4, if_neg (by omega), if_pos (by omega), if_pos (by omega), ← hs, impl_EqualReports_is r0 r1 rc r3 r4 rp r6 r7 r0 r1 rc r3 r4 rp r6 r7 (by omega) (by omega), Option.bind_some, eqRep_refl, if_pos rfl]
        exact hJ
    · rw [if_neg ha]
      dsimp only
      rw [if_neg (by decide), if_pos rfl]
      exact hJ

theorem FnReports (l0 : List Int) (hm0 : l0.length ≤ maxLen) (hw0 : ∀ y ∈ l0, (fun n : Int => (Lit.int .u8 n).wf = true) y) : ∃ k, laws_FnReports.f k l0 = some true :=
  (laws_FnReports.F_co l0).rounds (law_FnReports l0 hm0 hw0)
end Go.Proofs.Ytfolhmompclmbaa.PFnReports.Pure
