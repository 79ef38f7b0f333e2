/-
  The program's Seekers answers as the reference's does, for all arguments. It has no conditions.
-/
import Derived.Test.YtmgildchccmhgaaShFnExactSeekers
import Derived.Test.YtmgildchccmhgaaEqFnExactSeekers
import Derived.Test.YtmgildchccmhgaaBase
set_option linter.unusedVariables false
set_option linter.unusedSimpArgs false
namespace Go.Proofs.Ytmgildchccmhgaa.PFnExactSeekers.Pure
open Go.RowKit Go.Proofs.YtmgildchccmhgaaW.PrintWords Go.Proofs.YtmgildchccmhgaaW.PrintLast Go.Proofs.YtmgildchccmhgaaW.PrintMore Go.Proofs.Ytmgildchccmhgaa.PFnExactSeekers Go.Proofs.Ytmgildchccmhgaa.Lim Go.Proofs.Ytmgildchccmhgaa.Base
set_option maxRecDepth 100000

theorem szIntS (l : List Int) (a : Int) (ha : 0 ≤ a ∧ a ≤ 1048576) (hl : l.length ≤ maxLen) : laws_szIntS.f l a = some (if a < (l.length : Int) then -1 else a - (l.length : Int)) := by
  simp only [maxLen] at hl
  unfold laws_szIntS.f
  rw [wrap_in _ (by omega)]
  by_cases h : a < (l.length : Int)
  · rw [if_pos (by omega), if_pos h]
  · rw [if_neg (by omega), if_neg h]

theorem szReport_is (r0 r1 : Int) (rc : List Int) (r3 r4 : Int) (rp : List Int) (r6 r7 : Int) (a : Int) (ha : 0 ≤ a ∧ a ≤ 1048576) (hc : rc.length ≤ maxLen) (hp : rp.length ≤ maxLen) :
    laws_szReport.f r0 r1 rc r3 r4 rp r6 r7 a = some (-1) ∨ (laws_szReport.f r0 r1 rc r3 r4 rp r6 r7 a = some (a - (rc.length : Int) - (rp.length : Int)) ∧ (rc.length : Int) + (rp.length : Int) ≤ a) := by
  unfold laws_szReport.f
  rw [szIntS rc a ha hc, Option.bind_some]
  by_cases h1 : a < (rc.length : Int)
  · left
    rw [if_pos h1]; rfl
  · rw [if_neg h1, if_neg (by omega), szIntS rp _ (by omega) hp, Option.bind_some]
    by_cases h2 : a - (rc.length : Int) < (rp.length : Int)
    · left
      rw [if_pos h2]; rfl
    · right
      rw [if_neg h2, if_neg (by omega)]
      exact ⟨rfl, by omega⟩

def szRep : List S45 → Nat
  | [] => 0
  | y :: r => y.f2.length + y.f5.length + szRep r
theorem szRep_mem : ∀ (l : List S45), ∀ y ∈ l, y.f2.length + y.f5.length ≤ szRep l
  | x :: r, y, h => by
    rw [szRep]
    rcases List.mem_cons.1 h with e | e
    · rw [e]; omega
    · have := szRep_mem r y e
      omega
theorem dropRep (l : List S45) (i : Nat) (h : i < l.length) : l.drop i = rd_T45 l (i : Int) :: l.drop (i + 1) := by
  rw [show rd_T45 l (i : Int) = l[i] by simp [rd_T45, h]]
  exact List.drop_eq_getElem_cons h
theorem memRep (l : List S45) (i : Nat) (h : i < l.length) : rd_T45 l (i : Int) ∈ l := by
  rw [show rd_T45 l (i : Int) = l[i] by simp [rd_T45, h]]
  exact List.getElem_mem h
theorem szReportS_l0 (l : List S45) (hn : l.length ≤ 1048576) (ho : ∀ y ∈ l, y.f2.length ≤ maxLen ∧ y.f5.length ≤ maxLen) : ∀ (d i : Nat) (a : Int), i + d = l.length → 0 ≤ a ∧ a ≤ 1048576 → laws_szReportS.L0 l a (i : Int) = some (-1) ∨ (laws_szReportS.L0 l a (i : Int) = some (a - (szRep (l.drop i) : Int)) ∧ (szRep (l.drop i) : Int) ≤ a)
  | 0, i, a, h, ha => by
    right
    rw [laws_szReportS.L0_eq, if_neg (by omega), List.drop_of_length_le (by omega), szRep]
    exact ⟨by simp, by simp; omega⟩
  | d + 1, i, a, h, ha => by
    obtain ⟨o2, o5⟩ := ho _ (memRep l i (by omega))
    rw [laws_szReportS.L0_eq, if_pos (by omega), if_pos (by omega), dropRep l i (by omega), szRep, wrap_succ i (by omega)]
    rcases szReport_is (rd_T45 l (i : Int)).f0 (rd_T45 l (i : Int)).f1 (rd_T45 l (i : Int)).f2 (rd_T45 l (i : Int)).f3 (rd_T45 l (i : Int)).f4 (rd_T45 l (i : Int)).f5 (rd_T45 l (i : Int)).f6.f0 (rd_T45 l (i : Int)).f6.f1 a ha o2 o5 with e | ⟨e, hl⟩
    · left
      rw [e]; rfl
    · rw [e, Option.bind_some, if_neg (by omega)]
      rcases szReportS_l0 l hn ho d (i + 1) (a - ((rd_T45 l (i : Int)).f2.length : Int) - ((rd_T45 l (i : Int)).f5.length : Int)) (by omega) (by omega) with e2 | ⟨e2, h2⟩
      · exact .inl e2
      · right
        rw [e2]
        exact ⟨by congr 1; omega, by omega⟩
theorem szReportS (l : List S45) (hm : l.length ≤ maxLen) (ho : ∀ y ∈ l, y.f2.length ≤ maxLen ∧ y.f5.length ≤ maxLen) : laws_szReportS.F l 1048576 = some (-1) ∨ (∃ v, laws_szReportS.F l 1048576 = some v ∧ 0 ≤ v ∧ l.length + szRep l ≤ 1048576) := by
  simp only [maxLen] at hm
  rw [laws_szReportS.F_eq, wrap_in _ (by omega)]
  by_cases h : 1048576 - (l.length : Int) < 0
  · left
    rw [if_pos h]
  · rw [if_neg h]
    rcases szReportS_l0 l (by omega) ho l.length 0 (1048576 - (l.length : Int)) (by omega) (by omega) with e | ⟨e, h2⟩
    · exact .inl e
    · rw [List.drop_zero] at e h2
      exact .inr ⟨_, e, by omega, by omega⟩

theorem toIntS_l0 (l : List Int) (hn : l.length ≤ 1048576) : ∀ (d i : Nat) (acc : List Int), i + d = l.length → acc.length = l.length → acc.take i = (l.take i).map id → laws_toIntS.L0 l acc (i : Int) = some l
  | 0, i, acc, h, ha, ht => by
    rw [laws_toIntS.L0_eq, if_neg (by omega)]
    rw [List.take_of_length_le (by omega), List.take_of_length_le (by omega)] at ht
    rw [ht, List.map_id]
  | d + 1, i, acc, h, ha, ht => by
    have hi : i < l.length := by omega
    rw [laws_toIntS.L0_eq, if_pos (by omega), if_pos (by omega), if_pos (by omega), wrap_succ i (by omega)]
    refine toIntS_l0 l hn d (i + 1) _ (by omega) (by rw [List.length_set]; exact ha) ?_
    rw [Int.toNat_natCast]
    exact fill_step l id acc i ha hi ht _ (by simp [rd, hi])
theorem toIntS (l : List Int) (hn : l.length ≤ 1048576) : laws_toIntS.F l = some l := by
  rw [laws_toIntS.F_eq, if_pos (by omega), if_pos (by omega)]
  exact toIntS_l0 l hn l.length 0 _ (by omega) (by simp) (by simp)

theorem toReport_is (r0 r1 : Int) (rc : List Int) (r3 r4 : Int) (rp : List Int) (r6 r7 : Int) (hc : rc.length ≤ 1048576) (hp : rp.length ≤ 1048576) : laws_toReport.F r0 r1 rc r3 r4 rp r6 r7 = some (r0, r1, rc, r3, r4, rp, r6, r7) := by
  rw [laws_toReport.F_eq, toIntS _ hc, toIntS _ hp]
  rfl

theorem rdReport_at (l : List S50) (i : Nat) : rd_T50 l (i : Int) = l.getD i z50 := by simp [rd_T50]
theorem dropReport (l : List S50) (i : Nat) (h : i < l.length) : l.drop i = rd_T50 l (i : Int) :: l.drop (i + 1) := by
  rw [rdReport_at, getD_get l i _ h]
  exact List.drop_eq_getElem_cons h
theorem memReport (l : List S50) (i : Nat) (h : i < l.length) : rd_T50 l (i : Int) ∈ l := by
  rw [rdReport_at, getD_get l i _ h]
  exact List.getElem_mem h

/-- The rows of the reports are of bounded length. -/
def OKB (l : List S50) : Prop := ∀ y ∈ l, y.f2.length ≤ 1048576 ∧ y.f5.length ≤ 1048576

def cvRep (y : S45) : S50 := ⟨y.f0, y.f1, y.f2, y.f3, y.f4, y.f5, ⟨y.f6.f0, y.f6.f1⟩⟩
theorem toReportS_l0 (l : List S45) (hn : l.length ≤ 1048576) (ho : ∀ y ∈ l, y.f2.length ≤ 1048576 ∧ y.f5.length ≤ 1048576) : ∀ (d i : Nat) (acc : List S50), i + d = l.length → acc.length = l.length → acc.take i = (l.take i).map cvRep → laws_toReportS.L0 l acc (i : Int) = some (l.map cvRep)
  | 0, i, acc, h, ha, ht => by
    rw [laws_toReportS.L0_eq, if_neg (by omega)]
    rw [List.take_of_length_le (by omega), List.take_of_length_le (by omega)] at ht
    rw [ht]
  | d + 1, i, acc, h, ha, ht => by
    have hi : i < l.length := by omega
    obtain ⟨o2, o5⟩ := ho _ (memRep l i hi)
    rw [laws_toReportS.L0_eq, if_pos (by omega), if_pos (by omega)]
    simp only [toReport_is _ _ _ _ _ _ _ _ o2 o5, Option.bind_some, wrap_succ i (by omega)]
    rw [if_pos (by omega)]
    refine toReportS_l0 l hn ho d (i + 1) _ (by omega) (by rw [List.length_set]; exact ha) ?_
    rw [Int.toNat_natCast]
    exact fill_step l cvRep acc i ha hi ht _ (by simp [rd_T45, cvRep, hi])
theorem toReportS (l : List S45) (hn : l.length ≤ 1048576) (ho : ∀ y ∈ l, y.f2.length ≤ 1048576 ∧ y.f5.length ≤ 1048576) : laws_toReportS.F l = some (l.map cvRep) := by
  rw [laws_toReportS.F_eq, if_pos (by omega), if_pos (by omega)]
  exact toReportS_l0 l hn ho l.length 0 _ (by omega) (by simp) (by simp)
theorem okb_map (l : List S45) (ho : ∀ y ∈ l, y.f2.length ≤ 1048576 ∧ y.f5.length ≤ 1048576) : OKB (l.map cvRep) := fun z hz => by
  obtain ⟨y, hy, rfl⟩ := List.mem_map.1 hz
  exact ho y hy
theorem mkLen_map : ∀ l : List S45, mkLen (l.map cvRep) = 6 * (l.length : Int) + (szRep l : Int)
  | [] => rfl
  | y :: r => by
    have := mkLen_map r
    rw [List.map_cons, mkLen, this, szRep, List.length_cons]
    simp only [cvRep]
    omega

theorem eqIntS_l0 (l : List Int) (hn : l.length ≤ 4194304) : ∀ (d i : Nat), i + d = l.length → laws_eqIntS.L0 l l (i : Int) = some true
  | 0, i, h => by rw [laws_eqIntS.L0_eq, if_neg (by omega)]
  | d + 1, i, h => by
    rw [laws_eqIntS.L0_eq, if_pos (by omega), if_pos (by omega), if_pos (by omega), if_pos rfl, wrap_succ i (by omega)]
    exact eqIntS_l0 l hn d (i + 1) (by omega)
theorem eqIntS (l : List Int) (hn : l.length ≤ 4194304) : laws_eqIntS.F l l = some true := by
  rw [laws_eqIntS.F_eq, if_pos rfl]
  exact eqIntS_l0 l hn l.length 0 (by omega)

theorem eqReport_is (r0 r1 : Int) (rc : List Int) (r3 r4 : Int) (rp : List Int) (r6 r7 : Int) (hc : rc.length ≤ 4194304) (hp : rp.length ≤ 4194304) : laws_eqReport.F r0 r1 rc r3 r4 rp r6 r7 r0 r1 rc r3 r4 rp r6 r7 = some true := by
  rw [laws_eqReport.F_eq]
  simp [eqIntS _ hc, eqIntS _ hp, laws_eqSpan.f]

theorem eqReportS_l0 (l : List S50) (hn : l.length ≤ 1048576) (ho : OKB l) : ∀ (d i : Nat), i + d = l.length → laws_eqReportS.L0 l l (i : Int) = some true
  | 0, i, h => by rw [laws_eqReportS.L0_eq, if_neg (by omega)]
  | d + 1, i, h => by
    obtain ⟨o2, o5⟩ := ho _ (memReport l i (by omega))
    rw [laws_eqReportS.L0_eq, if_pos (by omega), if_pos (by omega), if_pos (by omega), eqReport_is _ _ _ _ _ _ _ _ (by omega) (by omega), Option.bind_some, if_pos rfl, wrap_succ i (by omega)]
    exact eqReportS_l0 l hn ho d (i + 1) (by omega)
theorem eqReportS (l : List S50) (hn : l.length ≤ 1048576) (ho : OKB l) : laws_eqReportS.F l l = some true := by
  rw [laws_eqReportS.F_eq, if_pos rfl]
  exact eqReportS_l0 l hn ho l.length 0 (by omega)

theorem toFind_is (f0 f1 f2 f3 f4 f5 f6 f7 : Int) : laws_toFind.f f0 f1 f2 f3 f4 f5 f6 f7 = some (f0, f1, f2, f3, f4, f5, f6, f7) := rfl

def lineInt (k : Int) (n : Nat) : List Int := (List.range n).map (fun j : Nat => k + (j : Int))
theorem lineInt_len (k : Int) (n : Nat) : (lineInt k n).length = n := by simp [lineInt]
theorem markIntS_l0 (k : Int) (n : Nat) (hk : 0 ≤ k ∧ k ≤ 67108864) (hn : n ≤ 4194304) : ∀ (d i : Nat) (acc : List Int), i + d = n → acc.length = n → acc.take i = ((List.range n).take i).map (fun j : Nat => k + (j : Int)) → laws_markIntS.L0 acc (k + (i : Int)) (i : Int) = some (k + (n : Int), lineInt k n)
  | 0, i, acc, h, ha, ht => by
    rw [laws_markIntS.L0_eq, if_neg (by omega)]
    rw [List.take_of_length_le (by omega), List.take_of_length_le (by simp; omega)] at ht
    rw [ht, show i = n by omega]; rfl
  | d + 1, i, acc, h, ha, ht => by
    rw [laws_markIntS.L0_eq, if_pos (by omega), if_pos (by omega), wrap_succ i (by omega), wrap_in _ (by omega), Int.toNat_natCast, show k + (i : Int) + 1 = k + ((i + 1 : Nat) : Int) by omega]
    refine markIntS_l0 k n hk hn d (i + 1) _ (by omega) (by rw [List.length_set]; exact ha) ?_
    exact fill_step (List.range n) (fun j : Nat => k + (j : Int)) acc i (by simp [ha]) (by simp; omega) ht _ (by simp)
theorem markIntS (l : List Int) (k : Int) (hk : 0 ≤ k ∧ k ≤ 67108864) (hn : l.length ≤ 4194304) : laws_markIntS.F l k = some (k + (l.length : Int), lineInt k l.length) := by
  rw [laws_markIntS.F_eq]
  have := markIntS_l0 k l.length hk hn l.length 0 l (by omega) rfl (by simp)
  simpa using this

theorem heldIntS_l0 (k : Int) (n : Nat) (hk : 0 ≤ k ∧ k ≤ 67108864) (hn : n ≤ 4194304) : ∀ (d i : Nat), i + d = n → laws_heldIntS.L0 (lineInt k n) (k + (i : Int)) (i : Int) = some (k + (n : Int))
  | 0, i, h => by rw [laws_heldIntS.L0_eq, lineInt_len, if_neg (by omega), show i = n by omega]
  | d + 1, i, h => by
    have hr : rd (lineInt k n) (i : Int) = k + (i : Int) := by simp [rd, lineInt, show i < n by omega]
    rw [laws_heldIntS.L0_eq, lineInt_len, if_pos (by omega), if_pos (by omega), hr, if_pos rfl, wrap_succ i (by omega), wrap_in _ (by omega), show k + (i : Int) + 1 = k + ((i + 1 : Nat) : Int) by omega]
    exact heldIntS_l0 k n hk hn d (i + 1) (by omega)
theorem heldIntS (k : Int) (n : Nat) (hk : 0 ≤ k ∧ k ≤ 67108864) (hn : n ≤ 4194304) : laws_heldIntS.F (lineInt k n) k = some (k + (n : Int)) := by
  rw [laws_heldIntS.F_eq]
  have := heldIntS_l0 k n hk hn n 0 (by omega)
  simpa using this

theorem rdInt_at (l : List Int) (i : Nat) : rd l (i : Int) = l.getD i 0 := by simp [rd]
theorem dropInt (l : List Int) (i : Nat) (h : i < l.length) : l.drop i = rd l (i : Int) :: l.drop (i + 1) := by
  rw [rdInt_at, getD_get l i _ h]
  exact List.drop_eq_getElem_cons h

def okAsc (a b : Int) (l : List Int) (i : Nat) : Prop := inR (rd l i) a b = true ∧ ((i : Int) > 0 → rd l ((i : Int) - 1) < rd l i)
noncomputable def isAsc (l : List Int) (a b : Int) : Bool := allF (okAsc a b l) l.length 0

noncomputable def isReport (r0 r1 : Int) (rc : List Int) (r3 r4 : Int) (rp : List Int) (r6 r7 : Int) : Bool := inR r0 1 999 && inR r1 1 8 && isAsc rc 0 7 && decide (1 ≤ r3) && decide (r3 ≤ r4) && decide (r4 ≤ 50) && isAsc rp 1 30 && decide ((rp.length : Int) ≤ 10) && (inR r6 0 100000 && inR r7 0 100000 && decide (r6 ≤ r7))
noncomputable def isFind (f0 f1 f2 f3 f4 f5 f6 f7 : Int) : Bool := (inR f0 1 999 && inR f1 1 8 && inR f2 0 7 && inR f3 1 50 && inR f4 0 10000000) && inR f5 1 30 && inR f6 0 100000 && inR f7 0 999

def allow (l : List Int) (n : Int) : Bool := decide (l.length = 0) || decide (n ∈ l)

noncomputable def whyNot (r0 r1 : Int) (rc : List Int) (r3 r4 : Int) (rp : List Int) (r6 r7 : Int) (f0 f1 f2 f3 f4 f5 f6 f7 : Int) : ByteArray :=
  if ¬ (isReport r0 r1 rc r3 r4 rp r6 r7 = true ∧ isFind f0 f1 f2 f3 f4 f5 f6 f7 = true) then ⟨#[105, 110, 118, 97, 108, 105, 100]⟩
  else if ¬ r1 = f1 then ⟨#[107, 105, 110, 100]⟩
  else if ¬ allow rc f2 = true then ⟨#[99, 111, 108, 111, 117, 114]⟩
  else if ¬ inR f3 r3 r4 = true then ⟨#[115, 105, 122, 101]⟩
  else if ¬ allow rp f5 = true then ⟨#[112, 108, 97, 99, 101]⟩
  else if f6 < r6 then ⟨#[116, 105, 109, 101]⟩ else ⟨#[]⟩
noncomputable def canBe (r0 r1 : Int) (rc : List Int) (r3 r4 : Int) (rp : List Int) (r6 r7 : Int) (f0 f1 f2 f3 f4 f5 f6 f7 : Int) : Bool := isReport r0 r1 rc r3 r4 rp r6 r7 && isFind f0 f1 f2 f3 f4 f5 f6 f7 && decide (r1 = f1) && allow rc f2 && inR f3 r3 r4 && allow rp f5 && decide (r6 ≤ f6)
theorem canBe_why (r0 r1 : Int) (rc : List Int) (r3 r4 : Int) (rp : List Int) (r6 r7 : Int) (f0 f1 f2 f3 f4 f5 f6 f7 : Int) : ((whyNot r0 r1 rc r3 r4 rp r6 r7 f0 f1 f2 f3 f4 f5 f6 f7).toList == ([] : List UInt8)) = canBe r0 r1 rc r3 r4 rp r6 r7 f0 f1 f2 f3 f4 f5 f6 f7 := by
  unfold whyNot canBe
  by_cases h1 : isReport r0 r1 rc r3 r4 rp r6 r7 = true
  · by_cases h2 : isFind f0 f1 f2 f3 f4 f5 f6 f7 = true
    · rw [h1, h2]
      simp only [and_self, not_true_eq_false, if_false, Bool.true_and]
      by_cases h3 : r1 = f1
      · simp only [h3, not_true_eq_false, if_false, decide_true, Bool.true_and]
        cases allow rc f2
        · first | (simp; done) | (simp; decide +kernel)
        · cases inR f3 r3 r4
          · first | (simp; done) | (simp; decide +kernel)
          · cases allow rp f5
            · first | (simp; done) | (simp; decide +kernel)
            · by_cases h4 : f6 < r6
              · simp only [h4, not_true_eq_false, if_false, if_true, Bool.true_and, decide_eq_false (show ¬ r6 ≤ f6 by omega)]
                decide +kernel
              · simp only [h4, not_true_eq_false, if_false, Bool.true_and, decide_eq_true (show r6 ≤ f6 by omega)]
                decide +kernel
      · simp only [h3, not_false_eq_true, if_true, decide_false, Bool.false_and]
        decide +kernel
    · rw [Bool.eq_false_iff.2 h2]
      simp only [Bool.false_eq_true, and_false, not_false_eq_true, if_true, Bool.and_false, Bool.false_and]
      decide +kernel
  · rw [Bool.eq_false_iff.2 h1]
    simp only [Bool.false_eq_true, false_and, not_false_eq_true, if_true, Bool.false_and]
    decide +kernel

def Asc (l : List Int) : Prop := l.Pairwise (fun x y => x < y)
theorem asc_ext : ∀ (a b : List Int), Asc a → Asc b → (∀ x, x ∈ a ↔ x ∈ b) → a = b
  | [], [], _, _, _ => rfl
  | [], y :: b, _, _, h => by have := (h y).2 (List.mem_cons_self ..); cases this
  | x :: a, [], _, _, h => by have := (h x).1 (List.mem_cons_self ..); cases this
  | x :: a, y :: b, ha, hb, h => by
    have ha' := List.pairwise_cons.1 ha
    have hb' := List.pairwise_cons.1 hb
    have e : x = y := by
      rcases List.mem_cons.1 ((h x).1 (List.mem_cons_self ..)) with h1 | h1
      · exact h1
      · rcases List.mem_cons.1 ((h y).2 (List.mem_cons_self ..)) with h2 | h2
        · exact h2.symm
        · have := hb'.1 x h1
          have := ha'.1 y h2
          omega
    subst e
    congr 1
    refine asc_ext a b ha'.2 hb'.2 (fun z => ⟨fun hz => ?_, fun hz => ?_⟩)
    · rcases List.mem_cons.1 ((h z).1 (List.mem_cons_of_mem _ hz)) with h1 | h1
      · have := ha'.1 z hz; omega
      · exact h1
    · rcases List.mem_cons.1 ((h z).2 (List.mem_cons_of_mem _ hz)) with h1 | h1
      · have := hb'.1 z hz; omega
      · exact h1
def putA : List Int → Int → List Int
  | [], n => [n]
  | x :: r, n => if x < n then x :: putA r n else if x = n then x :: r else n :: x :: r
theorem putA_mem (n z : Int) : ∀ l : List Int, z ∈ putA l n ↔ z = n ∨ z ∈ l
  | [] => by simp [putA]
  | x :: r => by
    simp only [putA]
    by_cases h1 : x < n
    · rw [if_pos h1, List.mem_cons, putA_mem n z r, List.mem_cons]
      exact ⟨fun h => by rcases h with h | h | h <;> simp [h], fun h => by rcases h with h | h | h <;> simp [h]⟩
    · rw [if_neg h1]
      by_cases h2 : x = n
      · rw [if_pos h2, List.mem_cons]
        refine ⟨fun h => .inr h, fun h => ?_⟩
        rcases h with h | h
        · exact .inl (by omega)
        · exact h
      · rw [if_neg h2, List.mem_cons]
theorem putA_asc (n : Int) : ∀ l : List Int, Asc l → Asc (putA l n)
  | [], _ => List.pairwise_singleton _ _
  | x :: r, h => by
    have h' := List.pairwise_cons.1 h
    simp only [putA]
    by_cases h1 : x < n
    · rw [if_pos h1]
      refine List.pairwise_cons.2 ⟨fun z hz => ?_, putA_asc n r h'.2⟩
      rcases (putA_mem n z r).1 hz with e | e
      · omega
      · exact h'.1 z e
    · rw [if_neg h1]
      by_cases h2 : x = n
      · rw [if_pos h2]; exact h
      · rw [if_neg h2]
        refine List.pairwise_cons.2 ⟨fun z hz => ?_, h⟩
        rcases List.mem_cons.1 hz with e | e
        · omega
        · have := h'.1 z e; omega
theorem putA_len (n : Int) : ∀ l : List Int, (putA l n).length ≤ l.length + 1
  | [] => by simp [putA]
  | x :: r => by
    simp only [putA]
    by_cases h1 : x < n
    · rw [if_pos h1, List.length_cons, List.length_cons]
      have := putA_len n r
      omega
    · rw [if_neg h1]
      split <;> simp

def okRepAt (l : List S50) (i : Nat) : Prop := isReport (rd_T50 l (i : Int)).f0 (rd_T50 l (i : Int)).f1 (rd_T50 l (i : Int)).f2 (rd_T50 l (i : Int)).f3 (rd_T50 l (i : Int)).f4 (rd_T50 l (i : Int)).f5 (rd_T50 l (i : Int)).f6.f0 (rd_T50 l (i : Int)).f6.f1 = true ∧ ((i : Int) > 0 → (rd_T50 l ((i : Int) - 1)).f0 < (rd_T50 l (i : Int)).f0)
noncomputable def areReports (l : List S50) : Bool := allF (okRepAt l) l.length 0 && decide ((l.length : Int) ≤ 20)
noncomputable def seekF (f0 f1 f2 f3 f4 f5 f6 f7 : Int) : List S50 → List Int
  | [] => []
  | y :: r => if canBe y.f0 y.f1 y.f2 y.f3 y.f4 y.f5 y.f6.f0 y.f6.f1 f0 f1 f2 f3 f4 f5 f6 f7 = true then y.f0 :: seekF f0 f1 f2 f3 f4 f5 f6 f7 r else seekF f0 f1 f2 f3 f4 f5 f6 f7 r
theorem seekF_len (f0 f1 f2 f3 f4 f5 f6 f7 : Int) : ∀ l : List S50, (seekF f0 f1 f2 f3 f4 f5 f6 f7 l).length ≤ l.length
  | [] => Nat.le_refl _
  | y :: r => by
    have := seekF_len f0 f1 f2 f3 f4 f5 f6 f7 r
    simp only [seekF]
    split <;> simp only [List.length_cons] <;> omega
noncomputable def seekers (f0 f1 f2 f3 f4 f5 f6 f7 : Int) (l : List S50) : List Int := if areReports l = true then seekF f0 f1 f2 f3 f4 f5 f6 f7 l else []
theorem seekers_len (f0 f1 f2 f3 f4 f5 f6 f7 : Int) (l : List S50) : (seekers f0 f1 f2 f3 f4 f5 f6 f7 l).length ≤ l.length := by
  unfold seekers
  split
  · exact seekF_len f0 f1 f2 f3 f4 f5 f6 f7 l
  · exact Nat.zero_le _
theorem seekF_mem (f0 f1 f2 f3 f4 f5 f6 f7 : Int) (z : Int) : ∀ l : List S50, z ∈ seekF f0 f1 f2 f3 f4 f5 f6 f7 l ↔ ∃ y ∈ l, canBe y.f0 y.f1 y.f2 y.f3 y.f4 y.f5 y.f6.f0 y.f6.f1 f0 f1 f2 f3 f4 f5 f6 f7 = true ∧ y.f0 = z
  | [] => by simp [seekF]
  | y :: r => by
    have ih := seekF_mem f0 f1 f2 f3 f4 f5 f6 f7 z r
    simp only [seekF]
    by_cases c : canBe y.f0 y.f1 y.f2 y.f3 y.f4 y.f5 y.f6.f0 y.f6.f1 f0 f1 f2 f3 f4 f5 f6 f7 = true
    · rw [if_pos c, List.mem_cons, ih]
      constructor
      · rintro (h | ⟨x, h1, h2, h3⟩)
        · exact ⟨y, List.mem_cons_self .., c, h.symm⟩
        · exact ⟨x, List.mem_cons_of_mem _ h1, h2, h3⟩
      · rintro ⟨x, h1, h2, h3⟩
        rcases List.mem_cons.1 h1 with e | e
        · rw [e] at h3; exact .inl h3.symm
        · exact .inr ⟨x, e, h2, h3⟩
    · rw [if_neg c, ih]
      constructor
      · rintro ⟨x, h1, h2, h3⟩
        exact ⟨x, List.mem_cons_of_mem _ h1, h2, h3⟩
      · rintro ⟨x, h1, h2, h3⟩
        rcases List.mem_cons.1 h1 with e | e
        · rw [e] at h2; exact absurd h2 c
        · exact ⟨x, e, h2, h3⟩
theorem reports_lt {l : List S50} (h : areReports l = true) : ∀ (d i : Nat), i + d + 1 < l.length → (rd_T50 l (i : Int)).f0 < (rd_T50 l ((i + d + 1 : Nat) : Int)).f0 := by
  unfold areReports at h
  rw [Bool.and_eq_true, allF_all] at h
  have step : ∀ j : Nat, j + 1 < l.length → (rd_T50 l (j : Int)).f0 < (rd_T50 l ((j + 1 : Nat) : Int)).f0 := fun j hj => by
    have := (h.1 (j + 1) hj).2 (by omega)
    rw [show ((j + 1 : Nat) : Int) - 1 = (j : Int) by omega] at this
    exact this
  intro d
  induction d with
  | zero => exact fun i hi => step i hi
  | succ d ih =>
    intro i hi
    have h1 := ih i (by omega)
    have h2 := step (i + d + 1) (by omega)
    exact Int.lt_trans h1 h2
theorem report_same {l : List S50} (h : areReports l = true) {x : S50} (hx : x ∈ l) (i : Nat) (hi : i < l.length) (e : x.f0 = (rd_T50 l (i : Int)).f0) : x = rd_T50 l (i : Int) := by
  obtain ⟨j, hj, ej⟩ := List.getElem_of_mem hx
  have ej' : rd_T50 l (j : Int) = x := by rw [rdReport_at, getD_get l j _ hj, ej]
  rcases Nat.lt_trichotomy i j with c | c | c
  · obtain ⟨d, rfl⟩ : ∃ d, j = i + d + 1 := ⟨j - i - 1, by omega⟩
    have := reports_lt h d i hj
    rw [ej'] at this
    omega
  · subst c
    exact ej'.symm
  · obtain ⟨d, rfl⟩ : ∃ d, i = j + d + 1 := ⟨i - j - 1, by omega⟩
    have := reports_lt h d j hi
    rw [ej'] at this
    omega
/-- Who seeks it: in a row of reports, just those that it can be. -/
theorem seek_is (f0 f1 f2 f3 f4 f5 f6 f7 : Int) (l : List S50) (h : areReports l = true) (i : Nat) (hi : i < l.length) : (rd_T50 l (i : Int)).f0 ∈ seekers f0 f1 f2 f3 f4 f5 f6 f7 l ↔ canBe (rd_T50 l (i : Int)).f0 (rd_T50 l (i : Int)).f1 (rd_T50 l (i : Int)).f2 (rd_T50 l (i : Int)).f3 (rd_T50 l (i : Int)).f4 (rd_T50 l (i : Int)).f5 (rd_T50 l (i : Int)).f6.f0 (rd_T50 l (i : Int)).f6.f1 f0 f1 f2 f3 f4 f5 f6 f7 = true := by
  rw [seekers, if_pos h, seekF_mem]
  constructor
  · rintro ⟨y, hy, hc, e⟩
    have := report_same h hy i hi e
    rw [this] at hc
    exact hc
  · intro hc
    exact ⟨_, memReport l i hi, hc, rfl⟩

theorem l1In (a b c : Int) : spec_l1In.f a b c = some (inR a b c) := by
  unfold spec_l1In.f inR
  by_cases h : b ≤ a <;> simp [h]

theorem spec_l7Ids_l0 (l : List Int) (a b : Int) (hn : l.length ≤ 4194304) : ∀ (d i : Nat), i + d = l.length → spec_l7Ids.L0 l a b (i : Int) = some (allF (okAsc a b l) l.length i)
  | 0, i, h => by rw [spec_l7Ids.L0_eq, if_neg (by omega), allF_end (by omega)]
  | d + 1, i, h => by
    have hi : i < l.length := by omega
    have ih := spec_l7Ids_l0 l a b hn d (i + 1) (by omega)
    rw [spec_l7Ids.L0_eq]
    simp only [wrap_succ i (by omega), wrap_pred i (by omega), ih, l1In, Option.bind_some]
    by_cases hp_ : okAsc a b l i
    · rw [allF_yes hp_]
      simp only [okAsc] at hp_
      obtain ⟨h1_, h2_⟩ := hp_
      repeat' split
      all_goals first
        | rfl
        | (exfalso; first | contradiction | omega)
    · rw [allF_no hi hp_]
      repeat' split
      all_goals first
        | rfl
        | (simp; done)
        | (exfalso; first | contradiction | omega)
        | (exfalso; apply hp_; simp only [okAsc]; (repeat' constructor) <;> first | assumption | (intro _; omega) | omega)
theorem spec_l7Ids_is (l : List Int) (a b : Int) (hn : l.length ≤ 4194304) : spec_l7Ids.F l a b = some (isAsc l a b) := by
  rw [spec_l7Ids.F_eq]
  exact spec_l7Ids_l0 l a b hn l.length 0 (by omega)

theorem spec_IsSpan_is (a b : Int) : spec_IsSpan.f a b = some (inR a 0 100000 && inR b 0 100000 && decide (a ≤ b)) := by
  unfold spec_IsSpan.f
  simp only [l1In, Option.bind_some]
  cases inR a 0 100000 <;> cases inR b 0 100000 <;> simp

theorem spec_IsReport_is (r0 r1 : Int) (rc : List Int) (r3 r4 : Int) (rp : List Int) (r6 r7 : Int) (hc : rc.length ≤ 4194304) (hp : rp.length ≤ 4194304) : spec_IsReport.F r0 r1 rc r3 r4 rp r6 r7 = some (isReport r0 r1 rc r3 r4 rp r6 r7) := by
  rw [spec_IsReport.F_eq]
  simp only [l1In, spec_l7Ids_is rc 0 7 hc, spec_l7Ids_is rp 1 30 hp, spec_IsSpan_is, Option.bind_some, isReport]
  generalize (inR r6 0 100000 && inR r7 0 100000 && decide (r6 ≤ r7)) = s
  cases inR r0 1 999 <;> cases inR r1 1 8 <;> cases isAsc rc 0 7 <;> cases isAsc rp 1 30 <;> by_cases h1 : 1 ≤ r3 <;> by_cases h2 : r3 ≤ r4 <;> by_cases h3 : r4 ≤ 50 <;> by_cases h4 : (rp.length : Int) ≤ 10 <;> simp [h1, h2, h3, h4]

theorem spec_AreReports_l0 (l : List S50) (hn : l.length ≤ 1048576) (ho : OKB l) : ∀ (d i : Nat), i + d = l.length → spec_AreReports.L0 l (i : Int) = some (allF (okRepAt l) l.length i && decide ((l.length : Int) ≤ 20))
  | 0, i, h => by rw [spec_AreReports.L0_eq, if_neg (by omega), allF_end (by omega)]; rfl
  | d + 1, i, h => by
    have hi : i < l.length := by omega
    have ih := spec_AreReports_l0 l hn ho d (i + 1) (by omega)
    obtain ⟨o2, o5⟩ := ho _ (memReport l i hi)
    have ht : spec_IsReport.F (rd_T50 l (i : Int)).f0 (rd_T50 l (i : Int)).f1 (rd_T50 l (i : Int)).f2 (rd_T50 l (i : Int)).f3 (rd_T50 l (i : Int)).f4 (rd_T50 l (i : Int)).f5 (rd_T50 l (i : Int)).f6.f0 (rd_T50 l (i : Int)).f6.f1 = some (isReport (rd_T50 l (i : Int)).f0 (rd_T50 l (i : Int)).f1 (rd_T50 l (i : Int)).f2 (rd_T50 l (i : Int)).f3 (rd_T50 l (i : Int)).f4 (rd_T50 l (i : Int)).f5 (rd_T50 l (i : Int)).f6.f0 (rd_T50 l (i : Int)).f6.f1) := spec_IsReport_is _ _ _ _ _ _ _ _ (by omega) (by omega)
    rw [spec_AreReports.L0_eq, if_pos (by omega), if_pos (by omega), ht, Option.bind_some, wrap_pred i (by omega), wrap_succ i (by omega), ih]
    by_cases c1 : isReport (rd_T50 l (i : Int)).f0 (rd_T50 l (i : Int)).f1 (rd_T50 l (i : Int)).f2 (rd_T50 l (i : Int)).f3 (rd_T50 l (i : Int)).f4 (rd_T50 l (i : Int)).f5 (rd_T50 l (i : Int)).f6.f0 (rd_T50 l (i : Int)).f6.f1 = true
    · rw [if_pos c1]
      by_cases c0 : (i : Int) > 0
      · rw [if_pos c0, if_pos (by omega), if_pos (by omega)]
        by_cases c2 : (rd_T50 l ((i : Int) - 1)).f0 ≥ (rd_T50 l (i : Int)).f0
        · rw [if_pos c2, allF_no hi (fun h => absurd (h.2 c0) (by omega))]; rfl
        · have hp : okRepAt l i := ⟨c1, fun _ => by omega⟩
          rw [if_neg c2, allF_yes hp]
      · have hp : okRepAt l i := ⟨c1, fun hh => absurd hh c0⟩
        rw [if_neg c0, allF_yes hp]
    · rw [if_neg c1, allF_no hi (fun h => c1 h.1)]; rfl
theorem spec_AreReports_is (l : List S50) (hn : l.length ≤ 1048576) (ho : OKB l) : spec_AreReports.F l = some (areReports l) := by
  rw [spec_AreReports.F_eq, areReports]
  exact spec_AreReports_l0 l hn ho l.length 0 (by omega)

theorem spec_IsThing_is (a b c d e : Int) : spec_IsThing.f a b c d e = some (inR a 1 999 && inR b 1 8 && inR c 0 7 && inR d 1 50 && inR e 0 10000000) := by
  unfold spec_IsThing.f
  simp only [l1In, Option.bind_some]
  cases inR a 1 999 <;> cases inR b 1 8 <;> cases inR c 0 7 <;> cases inR d 1 50 <;> simp

theorem spec_IsFind_is (f0 f1 f2 f3 f4 f5 f6 f7 : Int) : spec_IsFind.f f0 f1 f2 f3 f4 f5 f6 f7 = some (isFind f0 f1 f2 f3 f4 f5 f6 f7) := by
  unfold spec_IsFind.f
  simp only [spec_IsThing_is, l1In, Option.bind_some, isFind]
  generalize (inR f0 1 999 && inR f1 1 8 && inR f2 0 7 && inR f3 1 50 && inR f4 0 10000000) = t
  cases t <;> cases inR f5 1 30 <;> cases inR f6 0 100000 <;> simp

theorem spec_l8Has_l0 (l : List Int) (n : Int) (hn : l.length ≤ 4194304) : ∀ (d i : Nat), i + d = l.length → spec_l8Has.L0 l n (i : Int) = some (decide (n ∈ l.drop i))
  | 0, i, h => by
    rw [spec_l8Has.L0_eq, if_neg (by omega), List.drop_of_length_le (by omega)]
    simp
  | d + 1, i, h => by
    rw [spec_l8Has.L0_eq, if_pos (by omega), if_pos (by omega), dropInt l i (by omega), wrap_succ i (by omega), spec_l8Has_l0 l n hn d (i + 1) (by omega)]
    by_cases c : rd l (i : Int) = n
    · rw [if_pos c]
      simp [c]
    · rw [if_neg c]
      have c' : ¬ n = rd l (i : Int) := fun e => c e.symm
      simp [c']
theorem spec_l8Has_is (l : List Int) (n : Int) (hn : l.length ≤ 4194304) : spec_l8Has.F l n = some (decide (n ∈ l)) := by
  rw [spec_l8Has.F_eq]
  exact spec_l8Has_l0 l n hn l.length 0 (by omega)

theorem spec_WhyNot_is (r0 r1 : Int) (rc : List Int) (r3 r4 : Int) (rp : List Int) (r6 r7 : Int) (f0 f1 f2 f3 f4 f5 f6 f7 : Int) (hc : rc.length ≤ 4194304) (hp : rp.length ≤ 4194304) : spec_WhyNot.F r0 r1 rc r3 r4 rp r6 r7 f0 f1 f2 f3 f4 f5 f6 f7 = some (whyNot r0 r1 rc r3 r4 rp r6 r7 f0 f1 f2 f3 f4 f5 f6 f7) := by
  rw [spec_WhyNot.F_eq, spec_IsReport_is r0 r1 rc r3 r4 rp r6 r7 hc hp]
  simp only [Option.bind_some, spec_IsFind_is, spec_WhyNot.J0_eq, spec_WhyNot.J1_eq, spec_WhyNot.J2_eq, spec_l8Has_is rc _ hc, spec_l8Has_is rp _ hp, l1In, whyNot, allow]
  have e1 : ((rc.length : Int) > 0) = ¬ rc.length = 0 := propext ⟨fun h => by omega, fun h => by omega⟩
  have e2 : ((rp.length : Int) > 0) = ¬ rp.length = 0 := propext ⟨fun h => by omega, fun h => by omega⟩
  simp only [e1, e2]
  cases isReport r0 r1 rc r3 r4 rp r6 r7 <;> cases isFind f0 f1 f2 f3 f4 f5 f6 f7 <;> by_cases h3 : r1 = f1 <;> by_cases h5 : rc.length = 0 <;> by_cases h6 : f2 ∈ rc <;> cases inR f3 r3 r4 <;> by_cases h7 : rp.length = 0 <;> by_cases h8 : f5 ∈ rp <;> by_cases h4 : f6 < r6 <;> simp only [h3, h4, h5, h6, h7, h8, not_true_eq_false, not_false_eq_true, and_true, and_false, and_self, true_and, false_and, if_true, if_false, Bool.not_true, Bool.not_false, Bool.false_eq_true, decide_true, decide_false, Bool.true_or, Bool.false_or, Bool.or_true, Bool.or_false]

theorem spec_CanBe_is (r0 r1 : Int) (rc : List Int) (r3 r4 : Int) (rp : List Int) (r6 r7 : Int) (f0 f1 f2 f3 f4 f5 f6 f7 : Int) (hc : rc.length ≤ 4194304) (hp : rp.length ≤ 4194304) : spec_CanBe.F r0 r1 rc r3 r4 rp r6 r7 f0 f1 f2 f3 f4 f5 f6 f7 = some (canBe r0 r1 rc r3 r4 rp r6 r7 f0 f1 f2 f3 f4 f5 f6 f7) := by
  rw [spec_CanBe.F_eq, spec_WhyNot_is r0 r1 rc r3 r4 rp r6 r7 f0 f1 f2 f3 f4 f5 f6 f7 hc hp, Option.bind_some, canBe_why]

theorem spec_Seekers_l0 (l : List S50) (hn : l.length ≤ 1048576) (ho : OKB l) (ha : areReports l = true) (f0 f1 f2 f3 f4 f5 f6 f7 : Int) : ∀ (d i : Nat) (acc : List Int), i + d = l.length → acc.length ≤ i → spec_Seekers.L0 l acc (i : Int) f0 f1 f2 f3 f4 f5 f6 f7 = some (acc ++ seekF f0 f1 f2 f3 f4 f5 f6 f7 (l.drop i))
  | 0, i, acc, h, hacc => by rw [spec_Seekers.L0_eq, if_neg (by omega), spec_Seekers.J1_eq, if_neg (by decide), List.drop_of_length_le (by omega), seekF, List.append_nil]
  | d + 1, i, acc, h, hacc => by
    obtain ⟨o2, o5⟩ := ho _ (memReport l i (by omega))
    rw [spec_Seekers.L0_eq, if_pos (by omega), spec_AreReports_is l hn ho, Option.bind_some, spec_Seekers.J1_eq, if_pos ha, if_pos (by omega), if_pos (by omega), spec_CanBe_is _ _ _ _ _ _ _ _ f0 f1 f2 f3 f4 f5 f6 f7 (by omega) (by omega), Option.bind_some, wrap_succ i (by omega), dropReport l i (by omega), seekF]
    split
    · rw [if_pos (by omega), spec_Seekers_l0 l hn ho ha f0 f1 f2 f3 f4 f5 f6 f7 d (i + 1) _ (by omega) (by rw [List.length_append, List.length_singleton]; omega), List.append_assoc]
      rfl
    · rw [spec_Seekers_l0 l hn ho ha f0 f1 f2 f3 f4 f5 f6 f7 d (i + 1) _ (by omega) (by omega)]
theorem spec_Seekers_is (f0 f1 f2 f3 f4 f5 f6 f7 : Int) (l : List S50) (hn : l.length ≤ 1048576) (ho : OKB l) : spec_Seekers.F f0 f1 f2 f3 f4 f5 f6 f7 l = some (seekers f0 f1 f2 f3 f4 f5 f6 f7 l) := by
  rw [spec_Seekers.F_eq, seekers]
  by_cases ha : areReports l = true
  · have := spec_Seekers_l0 l hn ho ha f0 f1 f2 f3 f4 f5 f6 f7 l.length 0 [] (by omega) (by simp)
    rw [List.drop_zero, List.nil_append] at this
    rw [if_pos ha]
    exact this
  · have hfa : areReports l = false := by simpa using ha
    have e1 : ∀ i, spec_Seekers.J1 l [] i false f0 f1 f2 f3 f4 f5 f6 f7 = some [] := fun i => by rw [spec_Seekers.J1_eq, if_neg (by decide)]
    rw [if_neg ha, spec_Seekers.L0_eq, spec_AreReports_is l hn ho, Option.bind_some, hfa, e1]
    split <;> rfl

theorem inRange (a b c : Int) : impl_InRange.f a b c = some (inR a b c) := by
  unfold impl_InRange.f inR
  by_cases h : b ≤ a <;> simp [h]

theorem impl_isAscending_l0 (l : List Int) (a b : Int) (hn : l.length ≤ 4194304) : ∀ (d i : Nat), i + d = l.length → impl_isAscending.L0 l a b l (l.length : Int) (i : Int) = some (allF (okAsc a b l) l.length i)
  | 0, i, h => by rw [impl_isAscending.L0_eq, if_neg (by omega), allF_end (by omega)]
  | d + 1, i, h => by
    have hi : i < l.length := by omega
    have ih := impl_isAscending_l0 l a b hn d (i + 1) (by omega)
    rw [impl_isAscending.L0_eq]
    simp only [wrap_succ i (by omega), wrap_pred i (by omega), ih, inRange, Option.bind_some]
    by_cases hp_ : okAsc a b l i
    · rw [allF_yes hp_]
      simp only [okAsc] at hp_
      obtain ⟨h1_, h2_⟩ := hp_
      repeat' split
      all_goals first
        | rfl
        | (exfalso; first | contradiction | omega)
    · rw [allF_no hi hp_]
      repeat' split
      all_goals first
        | rfl
        | (simp; done)
        | (exfalso; first | contradiction | omega)
        | (exfalso; apply hp_; simp only [okAsc]; (repeat' constructor) <;> first | assumption | (intro _; omega) | omega)
theorem impl_isAscending_is (l : List Int) (a b : Int) (hn : l.length ≤ 4194304) : impl_isAscending.F l a b = some (isAsc l a b) := by
  rw [impl_isAscending.F_eq]
  exact impl_isAscending_l0 l a b hn l.length 0 (by omega)

theorem impl_IsSpan_is (a b : Int) : impl_IsSpan.f a b = some (inR a 0 100000 && inR b 0 100000 && decide (a ≤ b)) := by
  unfold impl_IsSpan.f
  simp only [inRange, Option.bind_some]
  cases inR a 0 100000 <;> cases inR b 0 100000 <;> simp

theorem impl_IsReport_is (r0 r1 : Int) (rc : List Int) (r3 r4 : Int) (rp : List Int) (r6 r7 : Int) (hc : rc.length ≤ 4194304) (hp : rp.length ≤ 4194304) : impl_IsReport.F r0 r1 rc r3 r4 rp r6 r7 = some (isReport r0 r1 rc r3 r4 rp r6 r7) := by
  rw [impl_IsReport.F_eq]
  simp only [inRange, impl_isAscending_is rc 0 7 hc, impl_isAscending_is rp 1 30 hp, impl_IsSpan_is, Option.bind_some, isReport]
  generalize (inR r6 0 100000 && inR r7 0 100000 && decide (r6 ≤ r7)) = s
  cases inR r0 1 999 <;> cases inR r1 1 8 <;> cases isAsc rc 0 7 <;> cases isAsc rp 1 30 <;> by_cases h1 : 1 ≤ r3 <;> by_cases h2 : r3 ≤ r4 <;> by_cases h3 : r4 ≤ 50 <;> by_cases h4 : (rp.length : Int) ≤ 10 <;> simp [h1, h2, h3, h4]

theorem impl_AreReports_l0 (l : List S50) (hn : l.length ≤ 1048576) (ho : OKB l) : ∀ (d i : Nat), i + d = l.length → impl_AreReports.L0 l l (l.length : Int) (i : Int) = some (allF (okRepAt l) l.length i)
  | 0, i, h => by rw [impl_AreReports.L0_eq, if_neg (by omega), allF_end (by omega)]
  | d + 1, i, h => by
    have hi : i < l.length := by omega
    have ih := impl_AreReports_l0 l hn ho d (i + 1) (by omega)
    obtain ⟨o2, o5⟩ := ho _ (memReport l i hi)
    have ht : impl_IsReport.F (rd_T50 l (i : Int)).f0 (rd_T50 l (i : Int)).f1 (rd_T50 l (i : Int)).f2 (rd_T50 l (i : Int)).f3 (rd_T50 l (i : Int)).f4 (rd_T50 l (i : Int)).f5 (rd_T50 l (i : Int)).f6.f0 (rd_T50 l (i : Int)).f6.f1 = some (isReport (rd_T50 l (i : Int)).f0 (rd_T50 l (i : Int)).f1 (rd_T50 l (i : Int)).f2 (rd_T50 l (i : Int)).f3 (rd_T50 l (i : Int)).f4 (rd_T50 l (i : Int)).f5 (rd_T50 l (i : Int)).f6.f0 (rd_T50 l (i : Int)).f6.f1) := impl_IsReport_is _ _ _ _ _ _ _ _ (by omega) (by omega)
    rw [impl_AreReports.L0_eq, if_pos (by omega), if_pos (by omega), if_pos (by omega), ht, Option.bind_some, wrap_pred i (by omega), wrap_succ i (by omega), ih]
    by_cases c1 : isReport (rd_T50 l (i : Int)).f0 (rd_T50 l (i : Int)).f1 (rd_T50 l (i : Int)).f2 (rd_T50 l (i : Int)).f3 (rd_T50 l (i : Int)).f4 (rd_T50 l (i : Int)).f5 (rd_T50 l (i : Int)).f6.f0 (rd_T50 l (i : Int)).f6.f1 = true
    · rw [if_pos c1]
      by_cases c0 : (i : Int) > 0
      · rw [if_pos c0, if_pos (by omega), if_pos (by omega)]
        by_cases c2 : (rd_T50 l (i : Int)).f0 ≤ (rd_T50 l ((i : Int) - 1)).f0
        · rw [if_pos c2, allF_no hi (fun h => absurd (h.2 c0) (by omega))]
        · have hp : okRepAt l i := ⟨c1, fun _ => by omega⟩
          rw [if_neg c2, allF_yes hp]
      · have hp : okRepAt l i := ⟨c1, fun hh => absurd hh c0⟩
        rw [if_neg c0, allF_yes hp]
    · rw [if_neg c1, allF_no hi (fun h => c1 h.1)]
theorem impl_AreReports_is (l : List S50) (hn : l.length ≤ 1048576) (ho : OKB l) : impl_AreReports.F l = some (areReports l) := by
  rw [impl_AreReports.F_eq, areReports]
  by_cases h : (l.length : Int) > 20
  · rw [if_pos h, decide_eq_false (by omega), Bool.and_false]
  · rw [if_neg h, decide_eq_true (by omega), Bool.and_true]
    exact impl_AreReports_l0 l hn ho l.length 0 (by omega)

theorem impl_IsThing_is (a b c d e : Int) : impl_IsThing.f a b c d e = some (inR a 1 999 && inR b 1 8 && inR c 0 7 && inR d 1 50 && inR e 0 10000000) := by
  unfold impl_IsThing.f
  simp only [inRange, Option.bind_some]
  cases inR a 1 999 <;> cases inR b 1 8 <;> cases inR c 0 7 <;> cases inR d 1 50 <;> simp

theorem impl_IsFind_is (f0 f1 f2 f3 f4 f5 f6 f7 : Int) : impl_IsFind.f f0 f1 f2 f3 f4 f5 f6 f7 = some (isFind f0 f1 f2 f3 f4 f5 f6 f7) := by
  unfold impl_IsFind.f
  simp only [impl_IsThing_is, inRange, Option.bind_some, isFind]
  generalize (inR f0 1 999 && inR f1 1 8 && inR f2 0 7 && inR f3 1 50 && inR f4 0 10000000) = t
  cases t <;> cases inR f5 1 30 <;> cases inR f6 0 100000 <;> simp

theorem slices_Index_l0 (l : List Int) (n : Int) (hn : l.length ≤ 4194304) : ∀ (d i : Nat), i + d = l.length → ∃ r, slices_Index_int_int.L0 l n (l.length : Int) (i : Int) = some r ∧ (0 ≤ r ↔ n ∈ l.drop i)
  | 0, i, h => by
    refine ⟨-1, by rw [slices_Index_int_int.L0_eq, if_neg (by omega)], ?_⟩
    rw [List.drop_of_length_le (by omega)]
    simp
  | d + 1, i, h => by
    rw [slices_Index_int_int.L0_eq, if_pos (by omega), if_pos (by omega), if_pos (by omega), dropInt l i (by omega), wrap_succ i (by omega)]
    by_cases c : n = rd l (i : Int)
    · rw [if_pos c]
      exact ⟨_, rfl, ⟨fun _ => by rw [← c]; exact List.mem_cons_self, fun _ => by omega⟩⟩
    · rw [if_neg c]
      obtain ⟨r, hr, hi⟩ := slices_Index_l0 l n hn d (i + 1) (by omega)
      refine ⟨r, hr, hi.trans ⟨fun hm => List.mem_cons_of_mem _ hm, fun hm => ?_⟩⟩
      rcases List.mem_cons.1 hm with he | he
      · exact absurd he c
      · exact he
theorem slices_Contains_is (l : List Int) (n : Int) (hn : l.length ≤ 4194304) : slices_Contains_int_int.F l n = some (decide (n ∈ l)) := by
  obtain ⟨r, hr, hi⟩ := slices_Index_l0 l n hn l.length 0 (by omega)
  rw [slices_Contains_int_int.F_eq, slices_Index_int_int.F_eq]
  have hr' : slices_Index_int_int.L0 l n (l.length : Int) 0 = some r := hr
  rw [hr', Option.bind_some]
  congr 1
  rw [Bool.eq_iff_iff, decide_eq_true_iff, decide_eq_true_iff]
  exact hi

theorem impl_allows_is (l : List Int) (n : Int) (hn : l.length ≤ 4194304) : impl_allows.F l n = some (allow l n) := by
  rw [impl_allows.F_eq, slices_Contains_is l n hn, allow]
  by_cases h : l.length = 0
  · rw [if_pos (by omega), decide_eq_true h]; rfl
  · rw [if_neg (by omega), decide_eq_false h]; rfl

theorem impl_WhyNot_is (r0 r1 : Int) (rc : List Int) (r3 r4 : Int) (rp : List Int) (r6 r7 : Int) (f0 f1 f2 f3 f4 f5 f6 f7 : Int) (hc : rc.length ≤ 4194304) (hp : rp.length ≤ 4194304) : impl_WhyNot.F r0 r1 rc r3 r4 rp r6 r7 f0 f1 f2 f3 f4 f5 f6 f7 = some (whyNot r0 r1 rc r3 r4 rp r6 r7 f0 f1 f2 f3 f4 f5 f6 f7) := by
  rw [impl_WhyNot.F_eq, impl_IsReport_is r0 r1 rc r3 r4 rp r6 r7 hc hp]
  simp only [Option.bind_some, impl_IsFind_is, impl_WhyNot.J0_eq, impl_allows_is rc _ hc, impl_allows_is rp _ hp, inRange, whyNot]
  cases isReport r0 r1 rc r3 r4 rp r6 r7 <;> cases isFind f0 f1 f2 f3 f4 f5 f6 f7 <;> by_cases h3 : r1 = f1 <;> cases allow rc f2 <;> cases inR f3 r3 r4 <;> cases allow rp f5 <;> by_cases h4 : f6 < r6 <;> simp [h3, h4]

theorem impl_CanBe_is (r0 r1 : Int) (rc : List Int) (r3 r4 : Int) (rp : List Int) (r6 r7 : Int) (f0 f1 f2 f3 f4 f5 f6 f7 : Int) (hc : rc.length ≤ 4194304) (hp : rp.length ≤ 4194304) : impl_CanBe.F r0 r1 rc r3 r4 rp r6 r7 f0 f1 f2 f3 f4 f5 f6 f7 = some (canBe r0 r1 rc r3 r4 rp r6 r7 f0 f1 f2 f3 f4 f5 f6 f7) := by
  rw [impl_CanBe.F_eq, impl_WhyNot_is r0 r1 rc r3 r4 rp r6 r7 f0 f1 f2 f3 f4 f5 f6 f7 hc hp, Option.bind_some, canBe_why]

theorem impl_Seekers_l0 (l : List S50) (hn : l.length ≤ 1048576) (ho : OKB l) (f0 f1 f2 f3 f4 f5 f6 f7 : Int) : ∀ (d i : Nat) (acc : List Int), i + d = l.length → acc.length ≤ i → impl_Seekers.L0 acc l (l.length : Int) (i : Int) f0 f1 f2 f3 f4 f5 f6 f7 = some (acc ++ seekF f0 f1 f2 f3 f4 f5 f6 f7 (l.drop i))
  | 0, i, acc, h, hacc => by rw [impl_Seekers.L0_eq, if_neg (by omega), List.drop_of_length_le (by omega), seekF, List.append_nil]
  | d + 1, i, acc, h, hacc => by
    obtain ⟨o2, o5⟩ := ho _ (memReport l i (by omega))
    rw [impl_Seekers.L0_eq, if_pos (by omega), if_pos (by omega), if_pos (by omega), impl_CanBe_is _ _ _ _ _ _ _ _ f0 f1 f2 f3 f4 f5 f6 f7 (by omega) (by omega), Option.bind_some, wrap_succ i (by omega), dropReport l i (by omega), seekF]
    split
    · rw [if_pos (by omega), impl_Seekers_l0 l hn ho f0 f1 f2 f3 f4 f5 f6 f7 d (i + 1) _ (by omega) (by rw [List.length_append, List.length_singleton]; omega), List.append_assoc]
      rfl
    · rw [impl_Seekers_l0 l hn ho f0 f1 f2 f3 f4 f5 f6 f7 d (i + 1) _ (by omega) (by omega)]
theorem impl_Seekers_is (f0 f1 f2 f3 f4 f5 f6 f7 : Int) (l : List S50) (hn : l.length ≤ 1048576) (ho : OKB l) : impl_Seekers.F f0 f1 f2 f3 f4 f5 f6 f7 l = some (seekers f0 f1 f2 f3 f4 f5 f6 f7 l) := by
  rw [impl_Seekers.F_eq, Option.bind_some, impl_AreReports_is l hn ho, Option.bind_some, seekers]
  by_cases ha : areReports l = true
  · have := impl_Seekers_l0 l hn ho f0 f1 f2 f3 f4 f5 f6 f7 l.length 0 [] (by omega) (by simp)
    rw [List.drop_zero, List.nil_append] at this
    rw [if_pos ha, if_pos ha]
    exact this
  · rw [if_neg ha, if_neg ha]

theorem law_FnExactSeekers (x0 : S25) (hw0 : ok25 x0) (l1 : List S45) (hm1 : l1.length ≤ maxLen) (hw1 : ∀ y ∈ l1, ok45 y) : laws_FnExactSeekers.F x0.f0.f0 x0.f0.f1 x0.f0.f2 x0.f0.f3 x0.f0.f4 x0.f1 x0.f2 x0.f3 l1 = some true := by
  rw [laws_FnExactSeekers.F_eq]
  have hb : ∀ y ∈ l1, y.f2.length ≤ maxLen ∧ y.f5.length ≤ maxLen := fun y hy => by
    obtain ⟨_, _, ⟨m0, _⟩, _, _, ⟨m2, _⟩, _⟩ := hw1 y hy
    exact ⟨m0, m2⟩
  rcases szReportS l1 hm1 hb with h | ⟨v, h, hv, hl⟩
  · rw [h]; rfl
  · have hn : l1.length ≤ 1048576 := by omega
    have ho : ∀ y ∈ l1, y.f2.length ≤ 1048576 ∧ y.f5.length ≤ 1048576 := fun y hy => by
      have := szRep_mem l1 y hy
      omega
    have hob := okb_map l1 ho
    have hn' : (l1.map cvRep).length ≤ 1048576 := by rw [List.length_map]; exact hn
    have ha := seekers_len x0.f0.f0 x0.f0.f1 x0.f0.f2 x0.f0.f3 x0.f0.f4 x0.f1 x0.f2 x0.f3 (l1.map cvRep)
    have hS := spec_Seekers_is x0.f0.f0 x0.f0.f1 x0.f0.f2 x0.f0.f3 x0.f0.f4 x0.f1 x0.f2 x0.f3 (l1.map cvRep) hn' hob
    have hI := impl_Seekers_is x0.f0.f0 x0.f0.f1 x0.f0.f2 x0.f0.f3 x0.f0.f4 x0.f1 x0.f2 x0.f3 (l1.map cvRep) hn' hob
    have hE := eqReportS (l1.map cvRep) hn' hob
    have hM : laws_markReportS.f (l1.map cvRep) 1 = some (1 + (6 * (l1.length : Int) + (szRep l1 : Int))) := by
      rw [laws_markReportS.f, mkLen_map, if_pos (by omega)]
    have hT := toReportS l1 hn ho
    generalize seekers x0.f0.f0 x0.f0.f1 x0.f0.f2 x0.f0.f3 x0.f0.f4 x0.f1 x0.f2 x0.f3 (l1.map cvRep) = A at ha hS hI
    have ha' : A.length ≤ 4194304 := by omega
    have hJ : laws_FnExactSeekers.J0 l1 A A false x0.f0.f0 x0.f0.f1 x0.f0.f2 x0.f0.f3 x0.f0.f4 x0.f1 x0.f2 x0.f3 = some true := by
      rw [laws_FnExactSeekers.J0_eq, if_neg (by decide), markIntS A 1 (by omega) ha', Option.bind_some]
      dsimp only
      rw [heldIntS 1 _ (by omega) ha', Option.bind_some, if_neg (by omega), if_pos rfl, toFind_is, Option.bind_some, hT, Option.bind_some]
      dsimp only
      rw [hI, Option.bind_some, eqIntS A ha', Option.bind_some, if_pos rfl, Option.bind_some, if_neg (by omega), if_pos rfl]
    rw [h, Option.bind_some, if_neg (by omega), toFind_is, Option.bind_some, hT, Option.bind_some]
    dsimp only
    rw [hS, Option.bind_some, Option.bind_some, Option.bind_some]
    dsimp only
    rw [hI, Option.bind_some, eqIntS A ha', Option.bind_some, if_pos rfl, Option.bind_some, hE, Option.bind_some, if_pos rfl, hM, Option.bind_some, if_neg (by omega), Option.bind_some]
    exact hJ

theorem FnExactSeekers (x0 : S25) (hw0 : ok25 x0) (l1 : List S45) (hm1 : l1.length ≤ maxLen) (hw1 : ∀ y ∈ l1, ok45 y) : ∃ k, laws_FnExactSeekers.f k x0.f0.f0 x0.f0.f1 x0.f0.f2 x0.f0.f3 x0.f0.f4 x0.f1 x0.f2 x0.f3 l1 = some true :=
  (laws_FnExactSeekers.F_co x0.f0.f0 x0.f0.f1 x0.f0.f2 x0.f0.f3 x0.f0.f4 x0.f1 x0.f2 x0.f3 l1).rounds (law_FnExactSeekers x0 hw0 l1 hm1 hw1)
end Go.Proofs.Ytmgildchccmhgaa.PFnExactSeekers.Pure
