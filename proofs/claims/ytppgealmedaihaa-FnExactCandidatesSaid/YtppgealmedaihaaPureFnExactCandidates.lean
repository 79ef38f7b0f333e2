/-
  The program's Candidates answers as the reference's does, for all arguments. It has no conditions.
-/
import Derived.Test.YtppgealmedaihaaShFnExactCandidates
import Derived.Test.YtppgealmedaihaaEqFnExactCandidates
import Derived.Test.YtppgealmedaihaaBase
set_option linter.unusedVariables false
set_option linter.unusedSimpArgs false
namespace Go.Proofs.Ytppgealmedaihaa.PFnExactCandidates.Pure
open Go.RowKit Go.Proofs.YtppgealmedaihaaW.PrintWords Go.Proofs.YtppgealmedaihaaW.PrintLast Go.Proofs.YtppgealmedaihaaW.PrintMore Go.Proofs.Ytppgealmedaihaa.PFnExactCandidates Go.Proofs.Ytppgealmedaihaa.Lim Go.Proofs.Ytppgealmedaihaa.Base
set_option maxRecDepth 100000

theorem szIntS (l : List Int) (a : Int) (ha : 0 ≤ a ∧ a ≤ 1048576) (hl : l.length ≤ maxLen) : laws_szIntS.f l a = some (if a < (l.length : Int) then -1 else a - (l.length : Int)) := by
  simp only [maxLen] at hl
  unfold laws_szIntS.f
  rw [wrap_in _ (by omega)]
  by_cases h : a < (l.length : Int)
  · rw [if_pos (by omega), if_pos h]
  · rw [if_neg (by omega), if_neg h]

theorem szReport_is (r0 r1 : Int) (rc : List Int) (r3 r4 : Int) (rp : List Int) (r6 r7 : Int) (a : Int) (ha : 0 ≤ a ∧ a ≤ 1048576) (hc : rc.length ≤ maxLen) (hp : rp.length ≤ maxLen) :
    laws_szReport.f r0 r1 rc r3 r4 rp r6 r7 a = some (-1) ∨ (laws_szReport.f r0 r1 rc r3 r4 rp r6 r7 a = some (a - (rc.length : Int) - (rp.length : Int)) ∧ (rc.length : Int) + (rp.length : Int) ≤ a) := by
  unfold laws_szReport.f
  rw [szIntS rc a ha hc, Option.bind_some]
  by_cases h1 : a < (rc.length : Int)
  · left
    rw [if_pos h1]; rfl
  · rw [if_neg h1, if_neg (by omega), szIntS rp _ (by omega) hp, Option.bind_some]
    by_cases h2 : a - (rc.length : Int) < (rp.length : Int)
    · left
      rw [if_pos h2]; rfl
    · right
      rw [if_neg h2, if_neg (by omega)]
      exact ⟨rfl, by omega⟩

theorem toIntS_l0 (l : List Int) (hn : l.length ≤ 1048576) : ∀ (d i : Nat) (acc : List Int), i + d = l.length → acc.length = l.length → acc.take i = (l.take i).map id → laws_toIntS.L0 l acc (i : Int) = some l
  | 0, i, acc, h, ha, ht => by
    rw [laws_toIntS.L0_eq, if_neg (by omega)]
    rw [List.take_of_length_le (by omega), List.take_of_length_le (by omega)] at ht
    rw [ht, List.map_id]
  | d + 1, i, acc, h, ha, ht => by
    have hi : i < l.length := by omega
    rw [laws_toIntS.L0_eq, if_pos (by omega), if_pos (by omega), if_pos (by omega), wrap_succ i (by omega)]
    refine toIntS_l0 l hn d (i + 1) _ (by omega) (by rw [List.length_set]; exact ha) ?_
    rw [Int.toNat_natCast]
    exact fill_step l id acc i ha hi ht _ (by simp [rd, hi])
theorem toIntS (l : List Int) (hn : l.length ≤ 1048576) : laws_toIntS.F l = some l := by
  rw [laws_toIntS.F_eq, if_pos (by omega), if_pos (by omega)]
  exact toIntS_l0 l hn l.length 0 _ (by omega) (by simp) (by simp)

theorem toReport_is (r0 r1 : Int) (rc : List Int) (r3 r4 : Int) (rp : List Int) (r6 r7 : Int) (hc : rc.length ≤ 1048576) (hp : rp.length ≤ 1048576) : laws_toReport.F r0 r1 rc r3 r4 rp r6 r7 = some (r0, r1, rc, r3, r4, rp, r6, r7) := by
  rw [laws_toReport.F_eq, toIntS _ hc, toIntS _ hp]
  rfl

theorem eqIntS_l0 (l : List Int) (hn : l.length ≤ 4194304) : ∀ (d i : Nat), i + d = l.length → laws_eqIntS.L0 l l (i : Int) = some true
  | 0, i, h => by rw [laws_eqIntS.L0_eq, if_neg (by omega)]
  | d + 1, i, h => by
    rw [laws_eqIntS.L0_eq, if_pos (by omega), if_pos (by omega), if_pos (by omega), if_pos rfl, wrap_succ i (by omega)]
    exact eqIntS_l0 l hn d (i + 1) (by omega)
theorem eqIntS (l : List Int) (hn : l.length ≤ 4194304) : laws_eqIntS.F l l = some true := by
  rw [laws_eqIntS.F_eq, if_pos rfl]
  exact eqIntS_l0 l hn l.length 0 (by omega)

theorem eqReport_is (r0 r1 : Int) (rc : List Int) (r3 r4 : Int) (rp : List Int) (r6 r7 : Int) (hc : rc.length ≤ 4194304) (hp : rp.length ≤ 4194304) : laws_eqReport.F r0 r1 rc r3 r4 rp r6 r7 r0 r1 rc r3 r4 rp r6 r7 = some true := by
  rw [laws_eqReport.F_eq]
  simp [eqIntS _ hc, eqIntS _ hp, laws_eqSpan.f]

theorem szFindS (l : List S92) (a : Int) (ha : 0 ≤ a ∧ a ≤ 1048576) (hl : l.length ≤ maxLen) : laws_szFindS.f l a = some (if a < (l.length : Int) then -1 else a - (l.length : Int)) := by
  simp only [maxLen] at hl
  unfold laws_szFindS.f
  rw [wrap_in _ (by omega)]
  by_cases h : a < (l.length : Int)
  · rw [if_pos (by omega), if_pos h]
  · rw [if_neg (by omega), if_neg h]

theorem toFind_is (f0 f1 f2 f3 f4 f5 f6 f7 : Int) : laws_toFind.f f0 f1 f2 f3 f4 f5 f6 f7 = some (f0, f1, f2, f3, f4, f5, f6, f7) := rfl

def cvFind (y : S92) : S98 := ⟨⟨y.f0.f0, y.f0.f1, y.f0.f2, y.f0.f3, y.f0.f4⟩, y.f1, y.f2, y.f3⟩
theorem toFindS_l0 (l : List S92) (hn : l.length ≤ 1048576) : ∀ (d i : Nat) (acc : List S98), i + d = l.length → acc.length = l.length → acc.take i = (l.take i).map cvFind → laws_toFindS.L0 l acc (i : Int) = some (l.map cvFind)
  | 0, i, acc, h, ha, ht => by
    rw [laws_toFindS.L0_eq, if_neg (by omega)]
    rw [List.take_of_length_le (by omega), List.take_of_length_le (by omega)] at ht
    rw [ht]
  | d + 1, i, acc, h, ha, ht => by
    have hi : i < l.length := by omega
    rw [laws_toFindS.L0_eq, if_pos (by omega), if_pos (by omega)]
    simp only [toFind_is, Option.bind_some, wrap_succ i (by omega)]
    rw [if_pos (by omega)]
    refine toFindS_l0 l hn d (i + 1) _ (by omega) (by rw [List.length_set]; exact ha) ?_
    rw [Int.toNat_natCast]
    exact fill_step l cvFind acc i ha hi ht _ (by simp [rd_T92, cvFind, hi])
theorem toFindS (l : List S92) (hn : l.length ≤ 1048576) : laws_toFindS.F l = some (l.map cvFind) := by
  rw [laws_toFindS.F_eq, if_pos (by omega), if_pos (by omega)]
  exact toFindS_l0 l hn l.length 0 _ (by omega) (by simp) (by simp)

theorem eqFind1 (f0 f1 f2 f3 f4 f5 f6 f7 : Int) : laws_eqFind.f f0 f1 f2 f3 f4 f5 f6 f7 f0 f1 f2 f3 f4 f5 f6 f7 = some true := by simp [laws_eqFind.f, laws_eqThing.f]
theorem eqFindS_l0 (l : List S98) (hn : l.length ≤ 1048576) : ∀ (d i : Nat), i + d = l.length → laws_eqFindS.L0 l l (i : Int) = some true
  | 0, i, h => by rw [laws_eqFindS.L0_eq, if_neg (by omega)]
  | d + 1, i, h => by
    rw [laws_eqFindS.L0_eq, if_pos (by omega), if_pos (by omega), if_pos (by omega), eqFind1, Option.bind_some, if_pos rfl, wrap_succ i (by omega)]
    exact eqFindS_l0 l hn d (i + 1) (by omega)
theorem eqFindS (l : List S98) (hn : l.length ≤ 1048576) : laws_eqFindS.F l l = some true := by
  rw [laws_eqFindS.F_eq, if_pos rfl]
  exact eqFindS_l0 l hn l.length 0 (by omega)

theorem rdFind_at (l : List S98) (i : Nat) : rd_T98 l (i : Int) = l.getD i z98 := by simp [rd_T98]
theorem dropFind (l : List S98) (i : Nat) (h : i < l.length) : l.drop i = rd_T98 l (i : Int) :: l.drop (i + 1) := by
  rw [rdFind_at, getD_get l i _ h]
  exact List.drop_eq_getElem_cons h

theorem bindE {α β : Type} {a : α} {f : α → Option β} {P : β → Prop} (Q : α → Prop) (ha : Q a) (h : ∀ y, Q y → ∃ b, f y = some b ∧ P b) : ∃ b, (some a).bind f = some b ∧ P b := h a ha
theorem markFindS_l0 (n : Nat) (hn : n ≤ 1048576) : ∀ (d i : Nat) (acc : List S98) (k : Int), i + d = n → acc.length = n → 0 ≤ k → k + 8 * (d : Int) ≤ 100000000 → ∃ r, laws_markFindS.L0 acc k (i : Int) = some r ∧ r.1 = k + 8 * (d : Int)
  | 0, i, acc, k, h, hl, h0, h1 => ⟨(k, acc), by rw [laws_markFindS.L0_eq, if_neg (by omega)], by simp⟩
  | d + 1, i, acc, k, h, hl, h0, h1 => by
    have e8 : wrap64 ((wrap64 ((wrap64 ((wrap64 ((wrap64 ((wrap64 ((wrap64 ((wrap64 (k + 1)) + 1)) + 1)) + 1)) + 1)) + 1)) + 1)) + 1) = k + 8 := by
      rw [wrap_in (k + 1) (by omega), wrap_in (k + 1 + 1) (by omega), wrap_in (k + 1 + 1 + 1) (by omega), wrap_in (k + 1 + 1 + 1 + 1) (by omega), wrap_in (k + 1 + 1 + 1 + 1 + 1) (by omega), wrap_in (k + 1 + 1 + 1 + 1 + 1 + 1) (by omega), wrap_in (k + 1 + 1 + 1 + 1 + 1 + 1 + 1) (by omega), wrap_in (k + 1 + 1 + 1 + 1 + 1 + 1 + 1 + 1) (by omega)]
      omega
    have key : ∀ acc : List S98, acc.length = n → ∃ r, laws_markFindS.L0 acc (k + 8) ((i + 1 : Nat) : Int) = some r ∧ r.1 = k + 8 * ((d + 1 : Nat) : Int) := fun acc hacc => by
      obtain ⟨r, e, hr⟩ := markFindS_l0 n hn d (i + 1) acc (k + 8) (by omega) hacc (by omega) (by omega)
      exact ⟨r, e, by omega⟩
    rw [laws_markFindS.L0_eq, if_pos (by omega), if_pos (by omega)]
    iterate 7 refine bindE (fun y => y.length = n) (by (first | (rw [List.length_set]; exact hl) | (rw [List.length_set]; assumption))) (fun y hy => ?_)
    rw [e8, wrap_succ i (by omega)]
    apply key
    rw [List.length_set]
    assumption
theorem markFindS_some (l : List S98) (k : Int) (h0 : 0 ≤ k) (hk : k ≤ 4000000) (hn : l.length ≤ 1048576) : ∃ r, laws_markFindS.F l k = some r ∧ ¬ r.1 < 0 := by
  rw [laws_markFindS.F_eq]
  obtain ⟨r, e, hr⟩ := markFindS_l0 l.length hn l.length 0 l k (by omega) rfl h0 (by omega)
  exact ⟨r, e, by omega⟩

def lineInt (k : Int) (n : Nat) : List Int := (List.range n).map (fun j : Nat => k + (j : Int))
theorem lineInt_len (k : Int) (n : Nat) : (lineInt k n).length = n := by simp [lineInt]
theorem markIntS_l0 (k : Int) (n : Nat) (hk : 0 ≤ k ∧ k ≤ 67108864) (hn : n ≤ 4194304) : ∀ (d i : Nat) (acc : List Int), i + d = n → acc.length = n → acc.take i = ((List.range n).take i).map (fun j : Nat => k + (j : Int)) → laws_markIntS.L0 acc (k + (i : Int)) (i : Int) = some (k + (n : Int), lineInt k n)
  | 0, i, acc, h, ha, ht => by
    rw [laws_markIntS.L0_eq, if_neg (by omega)]
    rw [List.take_of_length_le (by omega), List.take_of_length_le (by simp; omega)] at ht
    rw [ht, show i = n by omega]; rfl
  | d + 1, i, acc, h, ha, ht => by
    rw [laws_markIntS.L0_eq, if_pos (by omega), if_pos (by omega), wrap_succ i (by omega), wrap_in _ (by omega), Int.toNat_natCast, show k + (i : Int) + 1 = k + ((i + 1 : Nat) : Int) by omega]
    refine markIntS_l0 k n hk hn d (i + 1) _ (by omega) (by rw [List.length_set]; exact ha) ?_
    exact fill_step (List.range n) (fun j : Nat => k + (j : Int)) acc i (by simp [ha]) (by simp; omega) ht _ (by simp)
theorem markIntS (l : List Int) (k : Int) (hk : 0 ≤ k ∧ k ≤ 67108864) (hn : l.length ≤ 4194304) : laws_markIntS.F l k = some (k + (l.length : Int), lineInt k l.length) := by
  rw [laws_markIntS.F_eq]
  have := markIntS_l0 k l.length hk hn l.length 0 l (by omega) rfl (by simp)
  simpa using this

theorem heldIntS_l0 (k : Int) (n : Nat) (hk : 0 ≤ k ∧ k ≤ 67108864) (hn : n ≤ 4194304) : ∀ (d i : Nat), i + d = n → laws_heldIntS.L0 (lineInt k n) (k + (i : Int)) (i : Int) = some (k + (n : Int))
  | 0, i, h => by rw [laws_heldIntS.L0_eq, lineInt_len, if_neg (by omega), show i = n by omega]
  | d + 1, i, h => by
    have hr : rd (lineInt k n) (i : Int) = k + (i : Int) := by simp [rd, lineInt, show i < n by omega]
    rw [laws_heldIntS.L0_eq, lineInt_len, if_pos (by omega), if_pos (by omega), hr, if_pos rfl, wrap_succ i (by omega), wrap_in _ (by omega), show k + (i : Int) + 1 = k + ((i + 1 : Nat) : Int) by omega]
    exact heldIntS_l0 k n hk hn d (i + 1) (by omega)
theorem heldIntS (k : Int) (n : Nat) (hk : 0 ≤ k ∧ k ≤ 67108864) (hn : n ≤ 4194304) : laws_heldIntS.F (lineInt k n) k = some (k + (n : Int)) := by
  rw [laws_heldIntS.F_eq]
  have := heldIntS_l0 k n hk hn n 0 (by omega)
  simpa using this

theorem rdInt_at (l : List Int) (i : Nat) : rd l (i : Int) = l.getD i 0 := by simp [rd]
theorem dropInt (l : List Int) (i : Nat) (h : i < l.length) : l.drop i = rd l (i : Int) :: l.drop (i + 1) := by
  rw [rdInt_at, getD_get l i _ h]
  exact List.drop_eq_getElem_cons h

def okAsc (a b : Int) (l : List Int) (i : Nat) : Prop := inR (rd l i) a b = true ∧ ((i : Int) > 0 → rd l ((i : Int) - 1) < rd l i)
noncomputable def isAsc (l : List Int) (a b : Int) : Bool := allF (okAsc a b l) l.length 0

noncomputable def isReport (r0 r1 : Int) (rc : List Int) (r3 r4 : Int) (rp : List Int) (r6 r7 : Int) : Bool := inR r0 1 999 && inR r1 1 8 && isAsc rc 0 7 && decide (1 ≤ r3) && decide (r3 ≤ r4) && decide (r4 ≤ 50) && isAsc rp 1 30 && decide ((rp.length : Int) ≤ 10) && (inR r6 0 100000 && inR r7 0 100000 && decide (r6 ≤ r7))
noncomputable def isFind (f0 f1 f2 f3 f4 f5 f6 f7 : Int) : Bool := (inR f0 1 999 && inR f1 1 8 && inR f2 0 7 && inR f3 1 50 && inR f4 0 10000000) && inR f5 1 30 && inR f6 0 100000 && inR f7 0 999

def allow (l : List Int) (n : Int) : Bool := decide (l.length = 0) || decide (n ∈ l)

noncomputable def whyNot (r0 r1 : Int) (rc : List Int) (r3 r4 : Int) (rp : List Int) (r6 r7 : Int) (f0 f1 f2 f3 f4 f5 f6 f7 : Int) : ByteArray :=
  if ¬ (isReport r0 r1 rc r3 r4 rp r6 r7 = true ∧ isFind f0 f1 f2 f3 f4 f5 f6 f7 = true) then ⟨#[105, 110, 118, 97, 108, 105, 100]⟩
  else if ¬ r1 = f1 then ⟨#[107, 105, 110, 100]⟩
  else if ¬ allow rc f2 = true then ⟨#[99, 111, 108, 111, 117, 114]⟩
  else if ¬ inR f3 r3 r4 = true then ⟨#[115, 105, 122, 101]⟩
  else if ¬ allow rp f5 = true then ⟨#[112, 108, 97, 99, 101]⟩
  else if f6 < r6 then ⟨#[116, 105, 109, 101]⟩ else ⟨#[]⟩
noncomputable def canBe (r0 r1 : Int) (rc : List Int) (r3 r4 : Int) (rp : List Int) (r6 r7 : Int) (f0 f1 f2 f3 f4 f5 f6 f7 : Int) : Bool := isReport r0 r1 rc r3 r4 rp r6 r7 && isFind f0 f1 f2 f3 f4 f5 f6 f7 && decide (r1 = f1) && allow rc f2 && inR f3 r3 r4 && allow rp f5 && decide (r6 ≤ f6)
theorem canBe_why (r0 r1 : Int) (rc : List Int) (r3 r4 : Int) (rp : List Int) (r6 r7 : Int) (f0 f1 f2 f3 f4 f5 f6 f7 : Int) : ((whyNot r0 r1 rc r3 r4 rp r6 r7 f0 f1 f2 f3 f4 f5 f6 f7).toList == ([] : List UInt8)) = canBe r0 r1 rc r3 r4 rp r6 r7 f0 f1 f2 f3 f4 f5 f6 f7 := by
  unfold whyNot canBe
  by_cases h1 : isReport r0 r1 rc r3 r4 rp r6 r7 = true
  · by_cases h2 : isFind f0 f1 f2 f3 f4 f5 f6 f7 = true
    · rw [h1, h2]
      simp only [and_self, not_true_eq_false, if_false, Bool.true_and]
      by_cases h3 : r1 = f1
      · simp only [h3, not_true_eq_false, if_false, decide_true, Bool.true_and]
        cases allow rc f2
        · first | (simp; done) | (simp; decide +kernel)
        · cases inR f3 r3 r4
          · first | (simp; done) | (simp; decide +kernel)
          · cases allow rp f5
            · first | (simp; done) | (simp; decide +kernel)
            · by_cases h4 : f6 < r6
              · simp only [h4, not_true_eq_false, if_false, if_true, Bool.true_and, decide_eq_false (show ¬ r6 ≤ f6 by omega)]
                decide +kernel
              · simp only [h4, not_true_eq_false, if_false, Bool.true_and, decide_eq_true (show r6 ≤ f6 by omega)]
                decide +kernel
      · simp only [h3, not_false_eq_true, if_true, decide_false, Bool.false_and]
        decide +kernel
    · rw [Bool.eq_false_iff.2 h2]
      simp only [Bool.false_eq_true, and_false, not_false_eq_true, if_true, Bool.and_false, Bool.false_and]
      decide +kernel
  · rw [Bool.eq_false_iff.2 h1]
    simp only [Bool.false_eq_true, false_and, not_false_eq_true, if_true, Bool.false_and]
    decide +kernel

def b2i (b : Bool) : Int := if b = true then 1 else 0
theorem b2i_bd (b : Bool) : 0 ≤ b2i b ∧ b2i b ≤ 1 := by cases b <;> simp [b2i]
noncomputable def score (r0 r1 : Int) (rc : List Int) (r3 r4 : Int) (rp : List Int) (r6 r7 : Int) (f0 f1 f2 f3 f4 f5 f6 f7 : Int) : Int :=
  if canBe r0 r1 rc r3 r4 rp r6 r7 f0 f1 f2 f3 f4 f5 f6 f7 = true then 1 + b2i (inR (rc.length : Int) 1 2) + b2i (decide (r4 - r3 ≤ 5)) + b2i (inR (rp.length : Int) 1 2) + b2i (decide (f6 ≤ r7 + 24)) else 0
theorem canBe_bd (r0 r1 : Int) (rc : List Int) (r3 r4 : Int) (rp : List Int) (r6 r7 : Int) (f0 f1 f2 f3 f4 f5 f6 f7 : Int) (h : canBe r0 r1 rc r3 r4 rp r6 r7 f0 f1 f2 f3 f4 f5 f6 f7 = true) : 1 ≤ r3 ∧ r3 ≤ r4 ∧ r4 ≤ 50 ∧ 0 ≤ r7 ∧ r7 ≤ 100000 ∧ 0 ≤ f6 ∧ f6 ≤ 100000 := by
  simp only [canBe, isReport, isFind, Bool.and_eq_true, decide_eq_true_iff, inR_iff] at h
  omega

def okFindAt (l : List S98) (i : Nat) : Prop := isFind (rd_T98 l (i : Int)).f0.f0 (rd_T98 l (i : Int)).f0.f1 (rd_T98 l (i : Int)).f0.f2 (rd_T98 l (i : Int)).f0.f3 (rd_T98 l (i : Int)).f0.f4 (rd_T98 l (i : Int)).f1 (rd_T98 l (i : Int)).f2 (rd_T98 l (i : Int)).f3 = true ∧ ((i : Int) > 0 → (rd_T98 l ((i : Int) - 1)).f0.f0 < (rd_T98 l (i : Int)).f0.f0)
noncomputable def areFinds (l : List S98) : Bool := allF (okFindAt l) l.length 0 && decide ((l.length : Int) ≤ 20)
noncomputable def bestF (r0 r1 : Int) (rc : List Int) (r3 r4 : Int) (rp : List Int) (r6 r7 : Int) : List S98 → Int → Int → Int
  | [], b, _ => b
  | y :: r, b, s => if score r0 r1 rc r3 r4 rp r6 r7 y.f0.f0 y.f0.f1 y.f0.f2 y.f0.f3 y.f0.f4 y.f1 y.f2 y.f3 > s then bestF r0 r1 rc r3 r4 rp r6 r7 r y.f0.f0 (score r0 r1 rc r3 r4 rp r6 r7 y.f0.f0 y.f0.f1 y.f0.f2 y.f0.f3 y.f0.f4 y.f1 y.f2 y.f3) else bestF r0 r1 rc r3 r4 rp r6 r7 r b s

noncomputable def candF (r0 r1 : Int) (rc : List Int) (r3 r4 : Int) (rp : List Int) (r6 r7 : Int) : List S98 → List Int
  | [] => []
  | y :: r => if canBe r0 r1 rc r3 r4 rp r6 r7 y.f0.f0 y.f0.f1 y.f0.f2 y.f0.f3 y.f0.f4 y.f1 y.f2 y.f3 = true then y.f0.f0 :: candF r0 r1 rc r3 r4 rp r6 r7 r else candF r0 r1 rc r3 r4 rp r6 r7 r
theorem candF_len (r0 r1 : Int) (rc : List Int) (r3 r4 : Int) (rp : List Int) (r6 r7 : Int) : ∀ l : List S98, (candF r0 r1 rc r3 r4 rp r6 r7 l).length ≤ l.length
  | [] => Nat.le_refl _
  | y :: r => by
    have := candF_len r0 r1 rc r3 r4 rp r6 r7 r
    simp only [candF]
    split <;> simp only [List.length_cons] <;> omega
noncomputable def candidates (r0 r1 : Int) (rc : List Int) (r3 r4 : Int) (rp : List Int) (r6 r7 : Int) (l : List S98) : List Int := if areFinds l = true then candF r0 r1 rc r3 r4 rp r6 r7 l else []
theorem candidates_len (r0 r1 : Int) (rc : List Int) (r3 r4 : Int) (rp : List Int) (r6 r7 : Int) (l : List S98) : (candidates r0 r1 rc r3 r4 rp r6 r7 l).length ≤ l.length := by
  unfold candidates
  split
  · exact candF_len r0 r1 rc r3 r4 rp r6 r7 l
  · exact Nat.zero_le _

theorem l1In (a b c : Int) : spec_l1In.f a b c = some (inR a b c) := by
  unfold spec_l1In.f inR
  by_cases h : b ≤ a <;> simp [h]

theorem spec_IsThing_is (a b c d e : Int) : spec_IsThing.f a b c d e = some (inR a 1 999 && inR b 1 8 && inR c 0 7 && inR d 1 50 && inR e 0 10000000) := by
  unfold spec_IsThing.f
  simp only [l1In, Option.bind_some]
  cases inR a 1 999 <;> cases inR b 1 8 <;> cases inR c 0 7 <;> cases inR d 1 50 <;> simp

theorem spec_IsFind_is (f0 f1 f2 f3 f4 f5 f6 f7 : Int) : spec_IsFind.f f0 f1 f2 f3 f4 f5 f6 f7 = some (isFind f0 f1 f2 f3 f4 f5 f6 f7) := by
  unfold spec_IsFind.f
  simp only [spec_IsThing_is, l1In, Option.bind_some, isFind]
  generalize (inR f0 1 999 && inR f1 1 8 && inR f2 0 7 && inR f3 1 50 && inR f4 0 10000000) = t
  cases t <;> cases inR f5 1 30 <;> cases inR f6 0 100000 <;> simp

theorem spec_AreFinds_l0 (l : List S98) (hn : l.length ≤ 1048576) : ∀ (d i : Nat), i + d = l.length → spec_AreFinds.L0 l (i : Int) = some (allF (okFindAt l) l.length i && decide ((l.length : Int) ≤ 20))
  | 0, i, h => by rw [spec_AreFinds.L0_eq, if_neg (by omega), allF_end (by omega)]; rfl
  | d + 1, i, h => by
    have hi : i < l.length := by omega
    have ih := spec_AreFinds_l0 l hn d (i + 1) (by omega)
    have ht : spec_IsFind.f (rd_T98 l (i : Int)).f0.f0 (rd_T98 l (i : Int)).f0.f1 (rd_T98 l (i : Int)).f0.f2 (rd_T98 l (i : Int)).f0.f3 (rd_T98 l (i : Int)).f0.f4 (rd_T98 l (i : Int)).f1 (rd_T98 l (i : Int)).f2 (rd_T98 l (i : Int)).f3 = some (isFind (rd_T98 l (i : Int)).f0.f0 (rd_T98 l (i : Int)).f0.f1 (rd_T98 l (i : Int)).f0.f2 (rd_T98 l (i : Int)).f0.f3 (rd_T98 l (i : Int)).f0.f4 (rd_T98 l (i : Int)).f1 (rd_T98 l (i : Int)).f2 (rd_T98 l (i : Int)).f3) := spec_IsFind_is ..
    rw [spec_AreFinds.L0_eq, if_pos (by omega), if_pos (by omega), ht, Option.bind_some, wrap_pred i (by omega), wrap_succ i (by omega), ih]
    by_cases c1 : isFind (rd_T98 l (i : Int)).f0.f0 (rd_T98 l (i : Int)).f0.f1 (rd_T98 l (i : Int)).f0.f2 (rd_T98 l (i : Int)).f0.f3 (rd_T98 l (i : Int)).f0.f4 (rd_T98 l (i : Int)).f1 (rd_T98 l (i : Int)).f2 (rd_T98 l (i : Int)).f3 = true
    · rw [if_pos c1]
      by_cases c0 : (i : Int) > 0
      · rw [if_pos c0, if_pos (by omega), if_pos (by omega)]
        by_cases c2 : (rd_T98 l ((i : Int) - 1)).f0.f0 ≥ (rd_T98 l (i : Int)).f0.f0
        · rw [if_pos c2, allF_no hi (fun h => absurd (h.2 c0) (by omega))]; rfl
        · have hp : okFindAt l i := ⟨c1, fun _ => by omega⟩
          rw [if_neg c2, allF_yes hp]
      · have hp : okFindAt l i := ⟨c1, fun hh => absurd hh c0⟩
        rw [if_neg c0, allF_yes hp]
    · rw [if_neg c1, allF_no hi (fun h => c1 h.1)]; rfl
theorem spec_AreFinds_is (l : List S98) (hn : l.length ≤ 1048576) : spec_AreFinds.F l = some (areFinds l) := by
  rw [spec_AreFinds.F_eq, areFinds]
  exact spec_AreFinds_l0 l hn l.length 0 (by omega)

theorem spec_l7Ids_l0 (l : List Int) (a b : Int) (hn : l.length ≤ 4194304) : ∀ (d i : Nat), i + d = l.length → spec_l7Ids.L0 l a b (i : Int) = some (allF (okAsc a b l) l.length i)
  | 0, i, h => by rw [spec_l7Ids.L0_eq, if_neg (by omega), allF_end (by omega)]
  | d + 1, i, h => by
    have hi : i < l.length := by omega
    have ih := spec_l7Ids_l0 l a b hn d (i + 1) (by omega)
    rw [spec_l7Ids.L0_eq]
    simp only [wrap_succ i (by omega), wrap_pred i (by omega), ih, l1In, Option.bind_some]
    by_cases hp_ : okAsc a b l i
    · rw [allF_yes hp_]
      simp only [okAsc] at hp_
      obtain ⟨h1_, h2_⟩ := hp_
      repeat' split
      all_goals first
        | rfl
        | (exfalso; first | contradiction | omega)
    · rw [allF_no hi hp_]
      repeat' split
      all_goals first
        | rfl
        | (simp; done)
        | (exfalso; first | contradiction | omega)
        | (exfalso; apply hp_; simp only [okAsc]; (repeat' constructor) <;> first | assumption | (intro _; omega) | omega)
theorem spec_l7Ids_is (l : List Int) (a b : Int) (hn : l.length ≤ 4194304) : spec_l7Ids.F l a b = some (isAsc l a b) := by
  rw [spec_l7Ids.F_eq]
  exact spec_l7Ids_l0 l a b hn l.length 0 (by omega)

theorem spec_IsSpan_is (a b : Int) : spec_IsSpan.f a b = some (inR a 0 100000 && inR b 0 100000 && decide (a ≤ b)) := by
  unfold spec_IsSpan.f
  simp only [l1In, Option.bind_some]
  cases inR a 0 100000 <;> cases inR b 0 100000 <;> simp

theorem spec_IsReport_is (r0 r1 : Int) (rc : List Int) (r3 r4 : Int) (rp : List Int) (r6 r7 : Int) (hc : rc.length ≤ 4194304) (hp : rp.length ≤ 4194304) : spec_IsReport.F r0 r1 rc r3 r4 rp r6 r7 = some (isReport r0 r1 rc r3 r4 rp r6 r7) := by
  rw [spec_IsReport.F_eq]
  simp only [l1In, spec_l7Ids_is rc 0 7 hc, spec_l7Ids_is rp 1 30 hp, spec_IsSpan_is, Option.bind_some, isReport]
  generalize (inR r6 0 100000 && inR r7 0 100000 && decide (r6 ≤ r7)) = s
  cases inR r0 1 999 <;> cases inR r1 1 8 <;> cases isAsc rc 0 7 <;> cases isAsc rp 1 30 <;> by_cases h1 : 1 ≤ r3 <;> by_cases h2 : r3 ≤ r4 <;> by_cases h3 : r4 ≤ 50 <;> by_cases h4 : (rp.length : Int) ≤ 10 <;> simp [h1, h2, h3, h4]

theorem spec_l8Has_l0 (l : List Int) (n : Int) (hn : l.length ≤ 4194304) : ∀ (d i : Nat), i + d = l.length → spec_l8Has.L0 l n (i : Int) = some (decide (n ∈ l.drop i))
  | 0, i, h => by
    rw [spec_l8Has.L0_eq, if_neg (by omega), List.drop_of_length_le (by omega)]
    simp
  | d + 1, i, h => by
    rw [spec_l8Has.L0_eq, if_pos (by omega), if_pos (by omega), dropInt l i (by omega), wrap_succ i (by omega), spec_l8Has_l0 l n hn d (i + 1) (by omega)]
    by_cases c : rd l (i : Int) = n
    · rw [if_pos c]
      simp [c]
    · rw [if_neg c]
      have c' : ¬ n = rd l (i : Int) := fun e => c e.symm
      simp [c']
theorem spec_l8Has_is (l : List Int) (n : Int) (hn : l.length ≤ 4194304) : spec_l8Has.F l n = some (decide (n ∈ l)) := by
  rw [spec_l8Has.F_eq]
  exact spec_l8Has_l0 l n hn l.length 0 (by omega)

theorem spec_WhyNot_is (r0 r1 : Int) (rc : List Int) (r3 r4 : Int) (rp : List Int) (r6 r7 : Int) (f0 f1 f2 f3 f4 f5 f6 f7 : Int) (hc : rc.length ≤ 4194304) (hp : rp.length ≤ 4194304) : spec_WhyNot.F r0 r1 rc r3 r4 rp r6 r7 f0 f1 f2 f3 f4 f5 f6 f7 = some (whyNot r0 r1 rc r3 r4 rp r6 r7 f0 f1 f2 f3 f4 f5 f6 f7) := by
  rw [spec_WhyNot.F_eq, spec_IsReport_is r0 r1 rc r3 r4 rp r6 r7 hc hp]
  simp only [Option.bind_some, spec_IsFind_is, spec_WhyNot.J0_eq, spec_WhyNot.J1_eq, spec_WhyNot.J2_eq, spec_l8Has_is rc _ hc, spec_l8Has_is rp _ hp, l1In, whyNot, allow]
  have e1 : ((rc.length : Int) > 0) = ¬ rc.length = 0 := propext ⟨fun h => by omega, fun h => by omega⟩
  have e2 : ((rp.length : Int) > 0) = ¬ rp.length = 0 := propext ⟨fun h => by omega, fun h => by omega⟩
  simp only [e1, e2]
  cases isReport r0 r1 rc r3 r4 rp r6 r7 <;> cases isFind f0 f1 f2 f3 f4 f5 f6 f7 <;> by_cases h3 : r1 = f1 <;> by_cases h5 : rc.length = 0 <;> by_cases h6 : f2 ∈ rc <;> cases inR f3 r3 r4 <;> by_cases h7 : rp.length = 0 <;> by_cases h8 : f5 ∈ rp <;> by_cases h4 : f6 < r6 <;> simp only [h3, h4, h5, h6, h7, h8, not_true_eq_false, not_false_eq_true, and_true, and_false, and_self, true_and, false_and, if_true, if_false, Bool.not_true, Bool.not_false, Bool.false_eq_true, decide_true, decide_false, Bool.true_or, Bool.false_or, Bool.or_true, Bool.or_false]

theorem spec_CanBe_is (r0 r1 : Int) (rc : List Int) (r3 r4 : Int) (rp : List Int) (r6 r7 : Int) (f0 f1 f2 f3 f4 f5 f6 f7 : Int) (hc : rc.length ≤ 4194304) (hp : rp.length ≤ 4194304) : spec_CanBe.F r0 r1 rc r3 r4 rp r6 r7 f0 f1 f2 f3 f4 f5 f6 f7 = some (canBe r0 r1 rc r3 r4 rp r6 r7 f0 f1 f2 f3 f4 f5 f6 f7) := by
  rw [spec_CanBe.F_eq, spec_WhyNot_is r0 r1 rc r3 r4 rp r6 r7 f0 f1 f2 f3 f4 f5 f6 f7 hc hp, Option.bind_some, canBe_why]

theorem spec_Candidates_l0 (l : List S98) (hn : l.length ≤ 1048576) (ha : areFinds l = true) (r0 r1 : Int) (rc : List Int) (r3 r4 : Int) (rp : List Int) (r6 r7 : Int) (hc : rc.length ≤ 4194304) (hp : rp.length ≤ 4194304) : ∀ (d i : Nat) (acc : List Int), i + d = l.length → acc.length ≤ i → spec_Candidates.L0 l acc (i : Int) r0 r1 rc r3 r4 rp r6 r7 = some (acc ++ candF r0 r1 rc r3 r4 rp r6 r7 (l.drop i))
  | 0, i, acc, h, hacc => by rw [spec_Candidates.L0_eq, if_neg (by omega), spec_Candidates.J1_eq, if_neg (by decide), List.drop_of_length_le (by omega), candF, List.append_nil]
  | d + 1, i, acc, h, hacc => by
    rw [spec_Candidates.L0_eq, if_pos (by omega), spec_AreFinds_is l hn, Option.bind_some, spec_Candidates.J1_eq, if_pos ha, if_pos (by omega), if_pos (by omega), spec_CanBe_is r0 r1 rc r3 r4 rp r6 r7 _ _ _ _ _ _ _ _ hc hp, Option.bind_some, wrap_succ i (by omega), dropFind l i (by omega), candF]
    split
    · rw [if_pos (by omega), spec_Candidates_l0 l hn ha r0 r1 rc r3 r4 rp r6 r7 hc hp d (i + 1) _ (by omega) (by rw [List.length_append, List.length_singleton]; omega), List.append_assoc]
      rfl
    · rw [spec_Candidates_l0 l hn ha r0 r1 rc r3 r4 rp r6 r7 hc hp d (i + 1) _ (by omega) (by omega)]
theorem spec_Candidates_is (r0 r1 : Int) (rc : List Int) (r3 r4 : Int) (rp : List Int) (r6 r7 : Int) (l : List S98) (hc : rc.length ≤ 4194304) (hp : rp.length ≤ 4194304) (hn : l.length ≤ 1048576) : spec_Candidates.F r0 r1 rc r3 r4 rp r6 r7 l = some (candidates r0 r1 rc r3 r4 rp r6 r7 l) := by
  rw [spec_Candidates.F_eq, candidates]
  by_cases ha : areFinds l = true
  · have := spec_Candidates_l0 l hn ha r0 r1 rc r3 r4 rp r6 r7 hc hp l.length 0 [] (by omega) (by simp)
    rw [List.drop_zero, List.nil_append] at this
    rw [if_pos ha]
    exact this
  · have hfa : areFinds l = false := by simpa using ha
    have e1 : ∀ i, spec_Candidates.J1 l [] i false r0 r1 rc r3 r4 rp r6 r7 = some [] := fun i => by rw [spec_Candidates.J1_eq, if_neg (by decide)]
    rw [if_neg ha, spec_Candidates.L0_eq, spec_AreFinds_is l hn, Option.bind_some, hfa, e1]
    split <;> rfl

theorem inRange (a b c : Int) : impl_InRange.f a b c = some (inR a b c) := by
  unfold impl_InRange.f inR
  by_cases h : b ≤ a <;> simp [h]

theorem impl_IsThing_is (a b c d e : Int) : impl_IsThing.f a b c d e = some (inR a 1 999 && inR b 1 8 && inR c 0 7 && inR d 1 50 && inR e 0 10000000) := by
  unfold impl_IsThing.f
  simp only [inRange, Option.bind_some]
  cases inR a 1 999 <;> cases inR b 1 8 <;> cases inR c 0 7 <;> cases inR d 1 50 <;> simp

theorem impl_IsFind_is (f0 f1 f2 f3 f4 f5 f6 f7 : Int) : impl_IsFind.f f0 f1 f2 f3 f4 f5 f6 f7 = some (isFind f0 f1 f2 f3 f4 f5 f6 f7) := by
  unfold impl_IsFind.f
  simp only [impl_IsThing_is, inRange, Option.bind_some, isFind]
  generalize (inR f0 1 999 && inR f1 1 8 && inR f2 0 7 && inR f3 1 50 && inR f4 0 10000000) = t
  cases t <;> cases inR f5 1 30 <;> cases inR f6 0 100000 <;> simp

theorem impl_AreFinds_l0 (l : List S98) (hn : l.length ≤ 1048576) : ∀ (d i : Nat), i + d = l.length → impl_AreFinds.L0 l l (l.length : Int) (i : Int) = some (allF (okFindAt l) l.length i)
  | 0, i, h => by rw [impl_AreFinds.L0_eq, if_neg (by omega), allF_end (by omega)]
  | d + 1, i, h => by
    have hi : i < l.length := by omega
    have ih := impl_AreFinds_l0 l hn d (i + 1) (by omega)
    have ht : impl_IsFind.f (rd_T98 l (i : Int)).f0.f0 (rd_T98 l (i : Int)).f0.f1 (rd_T98 l (i : Int)).f0.f2 (rd_T98 l (i : Int)).f0.f3 (rd_T98 l (i : Int)).f0.f4 (rd_T98 l (i : Int)).f1 (rd_T98 l (i : Int)).f2 (rd_T98 l (i : Int)).f3 = some (isFind (rd_T98 l (i : Int)).f0.f0 (rd_T98 l (i : Int)).f0.f1 (rd_T98 l (i : Int)).f0.f2 (rd_T98 l (i : Int)).f0.f3 (rd_T98 l (i : Int)).f0.f4 (rd_T98 l (i : Int)).f1 (rd_T98 l (i : Int)).f2 (rd_T98 l (i : Int)).f3) := impl_IsFind_is ..
    rw [impl_AreFinds.L0_eq, if_pos (by omega), if_pos (by omega), if_pos (by omega), ht, Option.bind_some, wrap_pred i (by omega), wrap_succ i (by omega), ih]
    by_cases c1 : isFind (rd_T98 l (i : Int)).f0.f0 (rd_T98 l (i : Int)).f0.f1 (rd_T98 l (i : Int)).f0.f2 (rd_T98 l (i : Int)).f0.f3 (rd_T98 l (i : Int)).f0.f4 (rd_T98 l (i : Int)).f1 (rd_T98 l (i : Int)).f2 (rd_T98 l (i : Int)).f3 = true
    · rw [if_pos c1]
      by_cases c0 : (i : Int) > 0
      · rw [if_pos c0, if_pos (by omega), if_pos (by omega)]
        by_cases c2 : (rd_T98 l (i : Int)).f0.f0 ≤ (rd_T98 l ((i : Int) - 1)).f0.f0
        · rw [if_pos c2, allF_no hi (fun h => absurd (h.2 c0) (by omega))]
        · have hp : okFindAt l i := ⟨c1, fun _ => by omega⟩
          rw [if_neg c2, allF_yes hp]
      · have hp : okFindAt l i := ⟨c1, fun hh => absurd hh c0⟩
        rw [if_neg c0, allF_yes hp]
    · rw [if_neg c1, allF_no hi (fun h => c1 h.1)]
theorem impl_AreFinds_is (l : List S98) (hn : l.length ≤ 1048576) : impl_AreFinds.F l = some (areFinds l) := by
  rw [impl_AreFinds.F_eq, areFinds]
  by_cases h : (l.length : Int) > 20
  · rw [if_pos h, decide_eq_false (by omega), Bool.and_false]
  · rw [if_neg h, decide_eq_true (by omega), Bool.and_true]
    exact impl_AreFinds_l0 l hn l.length 0 (by omega)

theorem impl_isAscending_l0 (l : List Int) (a b : Int) (hn : l.length ≤ 4194304) : ∀ (d i : Nat), i + d = l.length → impl_isAscending.L0 l a b l (l.length : Int) (i : Int) = some (allF (okAsc a b l) l.length i)
  | 0, i, h => by rw [impl_isAscending.L0_eq, if_neg (by omega), allF_end (by omega)]
  | d + 1, i, h => by
    have hi : i < l.length := by omega
    have ih := impl_isAscending_l0 l a b hn d (i + 1) (by omega)
    rw [impl_isAscending.L0_eq]
    simp only [wrap_succ i (by omega), wrap_pred i (by omega), ih, inRange, Option.bind_some]
    by_cases hp_ : okAsc a b l i
    · rw [allF_yes hp_]
      simp only [okAsc] at hp_
      obtain ⟨h1_, h2_⟩ := hp_
      repeat' split
      all_goals first
        | rfl
        | (exfalso; first | contradiction | omega)
    · rw [allF_no hi hp_]
      repeat' split
      all_goals first
        | rfl
        | (simp; done)
        | (exfalso; first | contradiction | omega)
        | (exfalso; apply hp_; simp only [okAsc]; (repeat' constructor) <;> first | assumption | (intro _; omega) | omega)
theorem impl_isAscending_is (l : List Int) (a b : Int) (hn : l.length ≤ 4194304) : impl_isAscending.F l a b = some (isAsc l a b) := by
  rw [impl_isAscending.F_eq]
  exact impl_isAscending_l0 l a b hn l.length 0 (by omega)

theorem impl_IsSpan_is (a b : Int) : impl_IsSpan.f a b = some (inR a 0 100000 && inR b 0 100000 && decide (a ≤ b)) := by
  unfold impl_IsSpan.f
  simp only [inRange, Option.bind_some]
  cases inR a 0 100000 <;> cases inR b 0 100000 <;> simp

theorem impl_IsReport_is (r0 r1 : Int) (rc : List Int) (r3 r4 : Int) (rp : List Int) (r6 r7 : Int) (hc : rc.length ≤ 4194304) (hp : rp.length ≤ 4194304) : impl_IsReport.F r0 r1 rc r3 r4 rp r6 r7 = some (isReport r0 r1 rc r3 r4 rp r6 r7) := by
  rw [impl_IsReport.F_eq]
  simp only [inRange, impl_isAscending_is rc 0 7 hc, impl_isAscending_is rp 1 30 hp, impl_IsSpan_is, Option.bind_some, isReport]
  generalize (inR r6 0 100000 && inR r7 0 100000 && decide (r6 ≤ r7)) = s
  cases inR r0 1 999 <;> cases inR r1 1 8 <;> cases isAsc rc 0 7 <;> cases isAsc rp 1 30 <;> by_cases h1 : 1 ≤ r3 <;> by_cases h2 : r3 ≤ r4 <;> by_cases h3 : r4 ≤ 50 <;> by_cases h4 : (rp.length : Int) ≤ 10 <;> simp [h1, h2, h3, h4]

theorem slices_Index_l0 (l : List Int) (n : Int) (hn : l.length ≤ 4194304) : ∀ (d i : Nat), i + d = l.length → ∃ r, slices_Index_int_int.L0 l n (l.length : Int) (i : Int) = some r ∧ (0 ≤ r ↔ n ∈ l.drop i)
  | 0, i, h => by
    refine ⟨-1, by rw [slices_Index_int_int.L0_eq, if_neg (by omega)], ?_⟩
    rw [List.drop_of_length_le (by omega)]
    simp
  | d + 1, i, h => by
    rw [slices_Index_int_int.L0_eq, if_pos (by omega), if_pos (by omega), if_pos (by omega), dropInt l i (by omega), wrap_succ i (by omega)]
    by_cases c : n = rd l (i : Int)
    · rw [if_pos c]
      exact ⟨_, rfl, ⟨fun _ => by rw [← c]; exact List.mem_cons_self, fun _ => by omega⟩⟩
    · rw [if_neg c]
      obtain ⟨r, hr, hi⟩ := slices_Index_l0 l n hn d (i + 1) (by omega)
      refine ⟨r, hr, hi.trans ⟨fun hm => List.mem_cons_of_mem _ hm, fun hm => ?_⟩⟩
      rcases List.mem_cons.1 hm with he | he
      · exact absurd he c
      · exact he
theorem slices_Contains_is (l : List Int) (n : Int) (hn : l.length ≤ 4194304) : slices_Contains_int_int.F l n = some (decide (n ∈ l)) := by
  obtain ⟨r, hr, hi⟩ := slices_Index_l0 l n hn l.length 0 (by omega)
  rw [slices_Contains_int_int.F_eq, slices_Index_int_int.F_eq]
  have hr' : slices_Index_int_int.L0 l n (l.length : Int) 0 = some r := hr
  rw [hr', Option.bind_some]
  congr 1
  rw [Bool.eq_iff_iff, decide_eq_true_iff, decide_eq_true_iff]
  exact hi

theorem impl_allows_is (l : List Int) (n : Int) (hn : l.length ≤ 4194304) : impl_allows.F l n = some (allow l n) := by
  rw [impl_allows.F_eq, slices_Contains_is l n hn, allow]
  by_cases h : l.length = 0
  · rw [if_pos (by omega), decide_eq_true h]; rfl
  · rw [if_neg (by omega), decide_eq_false h]; rfl

theorem impl_WhyNot_is (r0 r1 : Int) (rc : List Int) (r3 r4 : Int) (rp : List Int) (r6 r7 : Int) (f0 f1 f2 f3 f4 f5 f6 f7 : Int) (hc : rc.length ≤ 4194304) (hp : rp.length ≤ 4194304) : impl_WhyNot.F r0 r1 rc r3 r4 rp r6 r7 f0 f1 f2 f3 f4 f5 f6 f7 = some (whyNot r0 r1 rc r3 r4 rp r6 r7 f0 f1 f2 f3 f4 f5 f6 f7) := by
  rw [impl_WhyNot.F_eq, impl_IsReport_is r0 r1 rc r3 r4 rp r6 r7 hc hp]
  simp only [Option.bind_some, impl_IsFind_is, impl_WhyNot.J0_eq, impl_allows_is rc _ hc, impl_allows_is rp _ hp, inRange, whyNot]
  cases isReport r0 r1 rc r3 r4 rp r6 r7 <;> cases isFind f0 f1 f2 f3 f4 f5 f6 f7 <;> by_cases h3 : r1 = f1 <;> cases allow rc f2 <;> cases inR f3 r3 r4 <;> cases allow rp f5 <;> by_cases h4 : f6 < r6 <;> simp [h3, h4]

theorem impl_CanBe_is (r0 r1 : Int) (rc : List Int) (r3 r4 : Int) (rp : List Int) (r6 r7 : Int) (f0 f1 f2 f3 f4 f5 f6 f7 : Int) (hc : rc.length ≤ 4194304) (hp : rp.length ≤ 4194304) : impl_CanBe.F r0 r1 rc r3 r4 rp r6 r7 f0 f1 f2 f3 f4 f5 f6 f7 = some (canBe r0 r1 rc r3 r4 rp r6 r7 f0 f1 f2 f3 f4 f5 f6 f7) := by
  rw [impl_CanBe.F_eq, impl_WhyNot_is r0 r1 rc r3 r4 rp r6 r7 f0 f1 f2 f3 f4 f5 f6 f7 hc hp, Option.bind_some, canBe_why]

theorem impl_Candidates_l0 (l : List S98) (hn : l.length ≤ 1048576) (r0 r1 : Int) (rc : List Int) (r3 r4 : Int) (rp : List Int) (r6 r7 : Int) (hc : rc.length ≤ 4194304) (hp : rp.length ≤ 4194304) : ∀ (d i : Nat) (acc : List Int), i + d = l.length → acc.length ≤ i → impl_Candidates.L0 acc l (l.length : Int) (i : Int) r0 r1 rc r3 r4 rp r6 r7 = some (acc ++ candF r0 r1 rc r3 r4 rp r6 r7 (l.drop i))
  | 0, i, acc, h, hacc => by rw [impl_Candidates.L0_eq, if_neg (by omega), List.drop_of_length_le (by omega), candF, List.append_nil]
  | d + 1, i, acc, h, hacc => by
    rw [impl_Candidates.L0_eq, if_pos (by omega), if_pos (by omega), if_pos (by omega), impl_CanBe_is r0 r1 rc r3 r4 rp r6 r7 _ _ _ _ _ _ _ _ hc hp, Option.bind_some, wrap_succ i (by omega), dropFind l i (by omega), candF]
    split
    · rw [if_pos (by omega), impl_Candidates_l0 l hn r0 r1 rc r3 r4 rp r6 r7 hc hp d (i + 1) _ (by omega) (by rw [List.length_append, List.length_singleton]; omega), List.append_assoc]
      rfl
    · rw [impl_Candidates_l0 l hn r0 r1 rc r3 r4 rp r6 r7 hc hp d (i + 1) _ (by omega) (by omega)]
theorem impl_Candidates_is (r0 r1 : Int) (rc : List Int) (r3 r4 : Int) (rp : List Int) (r6 r7 : Int) (l : List S98) (hc : rc.length ≤ 4194304) (hp : rp.length ≤ 4194304) (hn : l.length ≤ 1048576) : impl_Candidates.F r0 r1 rc r3 r4 rp r6 r7 l = some (candidates r0 r1 rc r3 r4 rp r6 r7 l) := by
  rw [impl_Candidates.F_eq, Option.bind_some, impl_AreFinds_is l hn, Option.bind_some, candidates]
  by_cases ha : areFinds l = true
  · have := impl_Candidates_l0 l hn r0 r1 rc r3 r4 rp r6 r7 hc hp l.length 0 [] (by omega) (by simp)
    rw [List.drop_zero, List.nil_append] at this
    rw [if_pos ha, if_pos ha]
    exact this
  · rw [if_neg ha, if_neg ha]

theorem markReport_is (r0 r1 : Int) (rc : List Int) (r3 r4 : Int) (rp : List Int) (r6 r7 : Int) (hc : rc.length ≤ 1048576) (hp : rp.length ≤ 1048576) : laws_markReport.F r0 r1 rc r3 r4 rp r6 r7 1 = some (1 + (rc.length : Int) + (rp.length : Int), lineInt 1 rc.length, lineInt (1 + (rc.length : Int)) rp.length) := by
  rw [laws_markReport.F_eq, markIntS rc 1 (by omega) (by omega), Option.bind_some]
  dsimp only
  rw [markIntS rp _ (by omega) (by omega), Option.bind_some]
theorem law_FnExactCandidates (x0 : S40) (hw0 : ok40 x0) (l1 : List S92) (hm1 : l1.length ≤ maxLen) (hw1 : ∀ y ∈ l1, ok92 y) : laws_FnExactCandidates.F x0.f0 x0.f1 x0.f2 x0.f3 x0.f4 x0.f5 x0.f6.f0 x0.f6.f1 l1 = some true := by
  obtain ⟨_, _, ⟨m0, _⟩, _, _, ⟨m2, _⟩, _⟩ := hw0
  rw [laws_FnExactCandidates.F_eq]
  rcases szReport_is x0.f0 x0.f1 x0.f2 x0.f3 x0.f4 x0.f5 x0.f6.f0 x0.f6.f1 1048576 (by omega) m0 m2 with h | ⟨h, hl⟩
  · rw [h]; rfl
  · rw [h, Option.bind_some, if_neg (by omega), szFindS l1 _ (by omega) hm1, Option.bind_some]
    by_cases h3 : 1048576 - (x0.f2.length : Int) - (x0.f5.length : Int) < (l1.length : Int)
    · rw [if_pos h3]; rfl
    · have n0 : x0.f2.length ≤ 1048576 := by omega
      have n2 : x0.f5.length ≤ 1048576 := by omega
      have n0' : x0.f2.length ≤ 4194304 := by omega
      have n2' : x0.f5.length ≤ 4194304 := by omega
      have hn : l1.length ≤ 1048576 := by omega
      have hn' : (l1.map cvFind).length ≤ 1048576 := by rw [List.length_map]; exact hn
      have ha := candidates_len x0.f0 x0.f1 x0.f2 x0.f3 x0.f4 x0.f5 x0.f6.f0 x0.f6.f1 (l1.map cvFind)
      have hS := spec_Candidates_is x0.f0 x0.f1 x0.f2 x0.f3 x0.f4 x0.f5 x0.f6.f0 x0.f6.f1 (l1.map cvFind) n0' n2' hn'
      have hI := impl_Candidates_is x0.f0 x0.f1 x0.f2 x0.f3 x0.f4 x0.f5 x0.f6.f0 x0.f6.f1 (l1.map cvFind) n0' n2' hn'
      generalize candidates x0.f0 x0.f1 x0.f2 x0.f3 x0.f4 x0.f5 x0.f6.f0 x0.f6.f1 (l1.map cvFind) = A at ha hS hI
      have ha' : A.length ≤ 4194304 := by omega
      have hJ : laws_FnExactCandidates.J0 l1 A A false x0.f0 x0.f1 x0.f2 x0.f3 x0.f4 x0.f5 x0.f6.f0 x0.f6.f1 = some true := by
        rw [laws_FnExactCandidates.J0_eq, if_neg (by decide), markIntS A 1 (by omega) ha', Option.bind_some]
        dsimp only
        rw [heldIntS 1 _ (by omega) ha', Option.bind_some, if_neg (by omega), if_pos rfl, toReport_is x0.f0 x0.f1 x0.f2 x0.f3 x0.f4 x0.f5 x0.f6.f0 x0.f6.f1 n0 n2, Option.bind_some, toFindS l1 hn, Option.bind_some]
        dsimp only
        rw [hI, Option.bind_some, eqIntS A ha', Option.bind_some, if_pos rfl, Option.bind_some, if_neg (by omega), if_pos rfl]
      obtain ⟨r, er, hr⟩ := markFindS_some (l1.map cvFind) (1 + (x0.f2.length : Int) + (x0.f5.length : Int)) (by omega) (by omega) hn'
      rw [if_neg h3, if_neg (by omega), toReport_is x0.f0 x0.f1 x0.f2 x0.f3 x0.f4 x0.f5 x0.f6.f0 x0.f6.f1 n0 n2, Option.bind_some, toFindS l1 hn, Option.bind_some]
      dsimp only
      rw [hS, Option.bind_some, Option.bind_some, Option.bind_some]
      dsimp only
      rw [hI, Option.bind_some, eqIntS A ha', Option.bind_some, if_pos rfl, Option.bind_some]
      dsimp only
      rw [eqReport_is x0.f0 x0.f1 x0.f2 x0.f3 x0.f4 x0.f5 x0.f6.f0 x0.f6.f1 n0' n2', Option.bind_some, if_pos rfl, Option.bind_some, eqFindS _ hn', Option.bind_some, if_pos rfl, markReport_is x0.f0 x0.f1 x0.f2 x0.f3 x0.f4 x0.f5 x0.f6.f0 x0.f6.f1 n0 n2, Option.bind_some]
      dsimp only
      rw [er, Option.bind_some, if_neg hr, Option.bind_some]
      exact hJ

theorem FnExactCandidates (x0 : S40) (hw0 : ok40 x0) (l1 : List S92) (hm1 : l1.length ≤ maxLen) (hw1 : ∀ y ∈ l1, ok92 y) : ∃ k, laws_FnExactCandidates.f k x0.f0 x0.f1 x0.f2 x0.f3 x0.f4 x0.f5 x0.f6.f0 x0.f6.f1 l1 = some true :=
  (laws_FnExactCandidates.F_co x0.f0 x0.f1 x0.f2 x0.f3 x0.f4 x0.f5 x0.f6.f0 x0.f6.f1 l1).rounds (law_FnExactCandidates x0 hw0 l1 hm1 hw1)
end Go.Proofs.Ytppgealmedaihaa.PFnExactCandidates.Pure
