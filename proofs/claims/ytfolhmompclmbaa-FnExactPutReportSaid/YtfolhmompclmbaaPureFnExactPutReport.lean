/-
  The program's PutReport answers as the reference's does, for all arguments. It has no conditions.
-/
import Derived.Test.YtfolhmompclmbaaShFnExactPutReport
import Derived.Test.YtfolhmompclmbaaEqFnExactPutReport
import Derived.Test.YtfolhmompclmbaaBase
set_option linter.unusedVariables false
set_option linter.unusedSimpArgs false
namespace Go.Proofs.Ytfolhmompclmbaa.PFnExactPutReport.Pure
open Go.RowKit Go.Proofs.YtfolhmompclmbaaW.PrintWords Go.Proofs.YtfolhmompclmbaaW.PrintLast Go.Proofs.YtfolhmompclmbaaW.PrintMore Go.Proofs.Ytfolhmompclmbaa.PFnExactPutReport Go.Proofs.Ytfolhmompclmbaa.Lim Go.Proofs.Ytfolhmompclmbaa.Base
set_option maxRecDepth 100000

theorem szIntS (l : List Int) (a : Int) (ha : 0 ≤ a ∧ a ≤ 1048576) (hl : l.length ≤ maxLen) : laws_szIntS.f l a = some (if a < (l.length : Int) then -1 else a - (l.length : Int)) := by
  simp only [maxLen] at hl
  unfold laws_szIntS.f
  rw [wrap_in _ (by omega)]
  by_cases h : a < (l.length : Int)
  · rw [if_pos (by omega), if_pos h]
  · rw [if_neg (by omega), if_neg h]

theorem szReport_is (r0 r1 : Int) (rc : List Int) (r3 r4 : Int) (rp : List Int) (r6 r7 : Int) (a : Int) (ha : 0 ≤ a ∧ a ≤ 1048576) (hc : rc.length ≤ maxLen) (hp : rp.length ≤ maxLen) :
    laws_szReport.f r0 r1 rc r3 r4 rp r6 r7 a = some (-1) ∨ (laws_szReport.f r0 r1 rc r3 r4 rp r6 r7 a = some (a - (rc.length : Int) - (rp.length : Int)) ∧ (rc.length : Int) + (rp.length : Int) ≤ a) := by
  unfold laws_szReport.f
  rw [szIntS rc a ha hc, Option.bind_some]
  by_cases h1 : a < (rc.length : Int)
  · left
    rw [if_pos h1]; rfl
  · rw [if_neg h1, if_neg (by omega), szIntS rp _ (by omega) hp, Option.bind_some]
    by_cases h2 : a - (rc.length : Int) < (rp.length : Int)
    · left
      rw [if_pos h2]; rfl
    · right
      rw [if_neg h2, if_neg (by omega)]
      exact ⟨rfl, by omega⟩

def szRep : List S44 → Nat
  | [] => 0
  | y :: r => y.f2.length + y.f5.length + szRep r
theorem szRep_mem : ∀ (l : List S44), ∀ y ∈ l, y.f2.length + y.f5.length ≤ szRep l
  | x :: r, y, h => by
    rw [szRep]
    rcases List.mem_cons.1 h with e | e
    · rw [e]; omega
    · have := szRep_mem r y e
      omega
theorem dropRep (l : List S44) (i : Nat) (h : i < l.length) : l.drop i = rd_T44 l (i : Int) :: l.drop (i + 1) := by
  rw [show rd_T44 l (i : Int) = l[i] by simp [rd_T44, h]]
  exact List.drop_eq_getElem_cons h
theorem memRep (l : List S44) (i : Nat) (h : i < l.length) : rd_T44 l (i : Int) ∈ l := by
  rw [show rd_T44 l (i : Int) = l[i] by simp [rd_T44, h]]
  exact List.getElem_mem h
theorem szReportS_l0 (l : List S44) (hn : l.length ≤ 1048576) (ho : ∀ y ∈ l, y.f2.length ≤ maxLen ∧ y.f5.length ≤ maxLen) : ∀ (d i : Nat) (a : Int), i + d = l.length → 0 ≤ a ∧ a ≤ 1048576 → laws_szReportS.L0 l a (i : Int) = some (-1) ∨ (laws_szReportS.L0 l a (i : Int) = some (a - (szRep (l.drop i) : Int)) ∧ (szRep (l.drop i) : Int) ≤ a)
  | 0, i, a, h, ha => by
    right
    rw [laws_szReportS.L0_eq, if_neg (by omega), List.drop_of_length_le (by omega), szRep]
    exact ⟨by simp, by simp; omega⟩
  | d + 1, i, a, h, ha => by
    obtain ⟨o2, o5⟩ := ho _ (memRep l i (by omega))
    rw [laws_szReportS.L0_eq, if_pos (by omega), if_pos (by omega), dropRep l i (by omega), szRep, wrap_succ i (by omega)]
    rcases szReport_is (rd_T44 l (i : Int)).f0 (rd_T44 l (i : Int)).f1 (rd_T44 l (i : Int)).f2 (rd_T44 l (i : Int)).f3 (rd_T44 l (i : Int)).f4 (rd_T44 l (i : Int)).f5 (rd_T44 l (i : Int)).f6.f0 (rd_T44 l (i : Int)).f6.f1 a ha o2 o5 with e | ⟨e, hl⟩
    · left
      rw [e]; rfl
    · rw [e, Option.bind_some, if_neg (by omega)]
      rcases szReportS_l0 l hn ho d (i + 1) (a - ((rd_T44 l (i : Int)).f2.length : Int) - ((rd_T44 l (i : Int)).f5.length : Int)) (by omega) (by omega) with e2 | ⟨e2, h2⟩
      · exact .inl e2
      · right
        rw [e2]
        exact ⟨by congr 1; omega, by omega⟩
theorem szReportS (l : List S44) (hm : l.length ≤ maxLen) (ho : ∀ y ∈ l, y.f2.length ≤ maxLen ∧ y.f5.length ≤ maxLen) : laws_szReportS.F l 1048576 = some (-1) ∨ (∃ v, laws_szReportS.F l 1048576 = some v ∧ 0 ≤ v ∧ l.length + szRep l ≤ 1048576) := by
  simp only [maxLen] at hm
  rw [laws_szReportS.F_eq, wrap_in _ (by omega)]
  by_cases h : 1048576 - (l.length : Int) < 0
  · left
    rw [if_pos h]
  · rw [if_neg h]
    rcases szReportS_l0 l (by omega) ho l.length 0 (1048576 - (l.length : Int)) (by omega) (by omega) with e | ⟨e, h2⟩
    · exact .inl e
    · rw [List.drop_zero] at e h2
      exact .inr ⟨_, e, by omega, by omega⟩

theorem toIntS_l0 (l : List Int) (hn : l.length ≤ 1048576) : ∀ (d i : Nat) (acc : List Int), i + d = l.length → acc.length = l.length → acc.take i = (l.take i).map id → laws_toIntS.L0 l acc (i : Int) = some l
  | 0, i, acc, h, ha, ht => by
    rw [laws_toIntS.L0_eq, if_neg (by omega)]
    rw [List.take_of_length_le (by omega), List.take_of_length_le (by omega)] at ht
    rw [ht, List.map_id]
  | d + 1, i, acc, h, ha, ht => by
    have hi : i < l.length := by omega
    rw [laws_toIntS.L0_eq, if_pos (by omega), if_pos (by omega), if_pos (by omega), wrap_succ i (by omega)]
    refine toIntS_l0 l hn d (i + 1) _ (by omega) (by rw [List.length_set]; exact ha) ?_
    rw [Int.toNat_natCast]
    exact fill_step l id acc i ha hi ht _ (by simp [rd, hi])
theorem toIntS (l : List Int) (hn : l.length ≤ 1048576) : laws_toIntS.F l = some l := by
  rw [laws_toIntS.F_eq, if_pos (by omega), if_pos (by omega)]
  exact toIntS_l0 l hn l.length 0 _ (by omega) (by simp) (by simp)

theorem toReport_is (r0 r1 : Int) (rc : List Int) (r3 r4 : Int) (rp : List Int) (r6 r7 : Int) (hc : rc.length ≤ 1048576) (hp : rp.length ≤ 1048576) : laws_toReport.F r0 r1 rc r3 r4 rp r6 r7 = some (r0, r1, rc, r3, r4, rp, r6, r7) := by
  rw [laws_toReport.F_eq, toIntS _ hc, toIntS _ hp]
  rfl

theorem rdReport_at (l : List S29) (i : Nat) : rd_T29 l (i : Int) = l.getD i z29 := by simp [rd_T29]
theorem dropReport (l : List S29) (i : Nat) (h : i < l.length) : l.drop i = rd_T29 l (i : Int) :: l.drop (i + 1) := by
  rw [rdReport_at, getD_get l i _ h]
  exact List.drop_eq_getElem_cons h
theorem memReport (l : List S29) (i : Nat) (h : i < l.length) : rd_T29 l (i : Int) ∈ l := by
  rw [rdReport_at, getD_get l i _ h]
  exact List.getElem_mem h

/-- The rows of the reports are of bounded length. -/
def OKB (l : List S29) : Prop := ∀ y ∈ l, y.f2.length ≤ 1048576 ∧ y.f5.length ≤ 1048576

def cvRep (y : S44) : S29 := ⟨y.f0, y.f1, y.f2, y.f3, y.f4, y.f5, ⟨y.f6.f0, y.f6.f1⟩⟩
theorem toReportS_l0 (l : List S44) (hn : l.length ≤ 1048576) (ho : ∀ y ∈ l, y.f2.length ≤ 1048576 ∧ y.f5.length ≤ 1048576) : ∀ (d i : Nat) (acc : List S29), i + d = l.length → acc.length = l.length → acc.take i = (l.take i).map cvRep → laws_toReportS.L0 l acc (i : Int) = some (l.map cvRep)
  | 0, i, acc, h, ha, ht => by
    rw [laws_toReportS.L0_eq, if_neg (by omega)]
    rw [List.take_of_length_le (by omega), List.take_of_length_le (by omega)] at ht
    rw [ht]
  | d + 1, i, acc, h, ha, ht => by
    have hi : i < l.length := by omega
    obtain ⟨o2, o5⟩ := ho _ (memRep l i hi)
    rw [laws_toReportS.L0_eq, if_pos (by omega), if_pos (by omega)]
    simp only [toReport_is _ _ _ _ _ _ _ _ o2 o5, Option.bind_some, wrap_succ i (by omega)]
    rw [if_pos (by omega)]
    refine toReportS_l0 l hn ho d (i + 1) _ (by omega) (by rw [List.length_set]; exact ha) ?_
    rw [Int.toNat_natCast]
    exact fill_step l cvRep acc i ha hi ht _ (by simp [rd_T44, cvRep, hi])
theorem toReportS (l : List S44) (hn : l.length ≤ 1048576) (ho : ∀ y ∈ l, y.f2.length ≤ 1048576 ∧ y.f5.length ≤ 1048576) : laws_toReportS.F l = some (l.map cvRep) := by
  rw [laws_toReportS.F_eq, if_pos (by omega), if_pos (by omega)]
  exact toReportS_l0 l hn ho l.length 0 _ (by omega) (by simp) (by simp)
theorem okb_map (l : List S44) (ho : ∀ y ∈ l, y.f2.length ≤ 1048576 ∧ y.f5.length ≤ 1048576) : OKB (l.map cvRep) := fun z hz => by
  obtain ⟨y, hy, rfl⟩ := List.mem_map.1 hz
  exact ho y hy
theorem mkLen_map : ∀ l : List S44, mkLen (l.map cvRep) = 6 * (l.length : Int) + (szRep l : Int)
  | [] => rfl
  | y :: r => by
    have := mkLen_map r
    rw [List.map_cons, mkLen, this, szRep, List.length_cons]
    simp only [cvRep]
    omega

theorem eqIntS_l0 (l : List Int) (hn : l.length ≤ 4194304) : ∀ (d i : Nat), i + d = l.length → laws_eqIntS.L0 l l (i : Int) = some true
  | 0, i, h => by rw [laws_eqIntS.L0_eq, if_neg (by omega)]
  | d + 1, i, h => by
    rw [laws_eqIntS.L0_eq, if_pos (by omega), if_pos (by omega), if_pos (by omega), if_pos rfl, wrap_succ i (by omega)]
    exact eqIntS_l0 l hn d (i + 1) (by omega)
theorem eqIntS (l : List Int) (hn : l.length ≤ 4194304) : laws_eqIntS.F l l = some true := by
  rw [laws_eqIntS.F_eq, if_pos rfl]
  exact eqIntS_l0 l hn l.length 0 (by omega)

theorem eqReport_is (r0 r1 : Int) (rc : List Int) (r3 r4 : Int) (rp : List Int) (r6 r7 : Int) (hc : rc.length ≤ 4194304) (hp : rp.length ≤ 4194304) : laws_eqReport.F r0 r1 rc r3 r4 rp r6 r7 r0 r1 rc r3 r4 rp r6 r7 = some true := by
  rw [laws_eqReport.F_eq]
  simp [eqIntS _ hc, eqIntS _ hp, laws_eqSpan.f]

theorem eqReportS_l0 (l : List S29) (hn : l.length ≤ 4194304) (ho : OKB l) : ∀ (d i : Nat), i + d = l.length → laws_eqReportS.L0 l l (i : Int) = some true
  | 0, i, h => by rw [laws_eqReportS.L0_eq, if_neg (by omega)]
  | d + 1, i, h => by
    obtain ⟨o2, o5⟩ := ho _ (memReport l i (by omega))
    rw [laws_eqReportS.L0_eq, if_pos (by omega), if_pos (by omega), if_pos (by omega), eqReport_is _ _ _ _ _ _ _ _ (by omega) (by omega), Option.bind_some, if_pos rfl, wrap_succ i (by omega)]
    exact eqReportS_l0 l hn ho d (i + 1) (by omega)
theorem eqReportS (l : List S29) (hn : l.length ≤ 4194304) (ho : OKB l) : laws_eqReportS.F l l = some true := by
  rw [laws_eqReportS.F_eq, if_pos rfl]
  exact eqReportS_l0 l hn ho l.length 0 (by omega)

def lineInt (k : Int) (n : Nat) : List Int := (List.range n).map (fun j : Nat => k + (j : Int))
theorem lineInt_len (k : Int) (n : Nat) : (lineInt k n).length = n := by simp [lineInt]
theorem markIntS_l0 (k : Int) (n : Nat) (hk : 0 ≤ k ∧ k ≤ 67108864) (hn : n ≤ 4194304) : ∀ (d i : Nat) (acc : List Int), i + d = n → acc.length = n → acc.take i = ((List.range n).take i).map (fun j : Nat => k + (j : Int)) → laws_markIntS.L0 acc (k + (i : Int)) (i : Int) = some (k + (n : Int), lineInt k n)
  | 0, i, acc, h, ha, ht => by
    rw [laws_markIntS.L0_eq, if_neg (by omega)]
    rw [List.take_of_length_le (by omega), List.take_of_length_le (by simp; omega)] at ht
    rw [ht, show i = n by omega]; rfl
  | d + 1, i, acc, h, ha, ht => by
    rw [laws_markIntS.L0_eq, if_pos (by omega), if_pos (by omega), wrap_succ i (by omega), wrap_in _ (by omega), Int.toNat_natCast, show k + (i : Int) + 1 = k + ((i + 1 : Nat) : Int) by omega]
    refine markIntS_l0 k n hk hn d (i + 1) _ (by omega) (by rw [List.length_set]; exact ha) ?_
    exact fill_step (List.range n) (fun j : Nat => k + (j : Int)) acc i (by simp [ha]) (by simp; omega) ht _ (by simp)
theorem markIntS (l : List Int) (k : Int) (hk : 0 ≤ k ∧ k ≤ 67108864) (hn : l.length ≤ 4194304) : laws_markIntS.F l k = some (k + (l.length : Int), lineInt k l.length) := by
  rw [laws_markIntS.F_eq]
  have := markIntS_l0 k l.length hk hn l.length 0 l (by omega) rfl (by simp)
  simpa using this

theorem heldIntS_l0 (k : Int) (n : Nat) (hk : 0 ≤ k ∧ k ≤ 67108864) (hn : n ≤ 4194304) : ∀ (d i : Nat), i + d = n → laws_heldIntS.L0 (lineInt k n) (k + (i : Int)) (i : Int) = some (k + (n : Int))
  | 0, i, h => by rw [laws_heldIntS.L0_eq, lineInt_len, if_neg (by omega), show i = n by omega]
  | d + 1, i, h => by
    have hr : rd (lineInt k n) (i : Int) = k + (i : Int) := by simp [rd, lineInt, show i < n by omega]
    rw [laws_heldIntS.L0_eq, lineInt_len, if_pos (by omega), if_pos (by omega), hr, if_pos rfl, wrap_succ i (by omega), wrap_in _ (by omega), show k + (i : Int) + 1 = k + ((i + 1 : Nat) : Int) by omega]
    exact heldIntS_l0 k n hk hn d (i + 1) (by omega)
theorem heldIntS (k : Int) (n : Nat) (hk : 0 ≤ k ∧ k ≤ 67108864) (hn : n ≤ 4194304) : laws_heldIntS.F (lineInt k n) k = some (k + (n : Int)) := by
  rw [laws_heldIntS.F_eq]
  have := heldIntS_l0 k n hk hn n 0 (by omega)
  simpa using this

theorem rd_mk (l : List S29) (k : Int) (j : Nat) (h : j < l.length) : rd_T29 (mkList k l) (j : Int) = mkElt (k + mkLen (l.take j)) (rd_T29 l (j : Int)).f2.length (rd_T29 l (j : Int)).f5.length := by
  show (mkList k l).getD (j : Int).toNat z29 = _
  rw [Int.toNat_natCast, List.getD_eq_getElem?_getD, mkList_get l k j h]
  rfl
theorem held_nums (kk : Int) (n2 n5 : Nat) (hk : 0 ≤ kk ∧ kk ≤ 33554432) (h2 : n2 ≤ 1048576) (h5 : n5 ≤ 1048576) : wrap64 (kk + 1) = kk + 1 ∧ wrap64 (kk + 1 + 1) = kk + 1 + 1 ∧ wrap64 (kk + 1 + 1 + (n2 : Int) + 1) = kk + 1 + 1 + (n2 : Int) + 1 ∧ wrap64 (kk + 1 + 1 + (n2 : Int) + 1 + 1) = kk + 1 + 1 + (n2 : Int) + 1 + 1 ∧ wrap64 (kk + 1 + 1 + (n2 : Int) + 1 + 1 + (n5 : Int) + 1) = kk + 1 + 1 + (n2 : Int) + 1 + 1 + (n5 : Int) + 1 ∧ wrap64 (kk + 1 + 1 + (n2 : Int) + 1 + 1 + (n5 : Int) + 1 + 1) = kk + 1 + 1 + (n2 : Int) + 1 + 1 + (n5 : Int) + 1 + 1 ∧ (0 ≤ kk + 1 + 1 ∧ 0 ≤ kk + 1 + 1 + (n2 : Int) ∧ kk + 1 + 1 ≤ 67108864) ∧ 0 ≤ kk + 1 + 1 + (n2 : Int) + 1 + 1 ∧ 0 ≤ kk + 1 + 1 + (n2 : Int) + 1 + 1 + (n5 : Int) ∧ kk + 1 + 1 + (n2 : Int) + 1 + 1 ≤ 67108864 :=
  ⟨wrap_in _ (by omega), wrap_in _ (by omega), wrap_in _ (by omega), wrap_in _ (by omega), wrap_in _ (by omega), wrap_in _ (by omega), by omega, by omega⟩
theorem held_up (k : Int) (n : Nat) {m : Int} (h : 0 ≤ k ∧ 0 ≤ m ∧ k ≤ 67108864) (hn : n ≤ 4194304) : laws_heldIntS.F (upTo k n) k = some (k + (n : Int)) := heldIntS k n ⟨h.1, h.2.2⟩ hn
theorem heldRS_l0 (l : List S29) (hl : mkLen l ≤ 16777216) (ho : OKB l) : ∀ (d i : Nat), i + d = l.length → laws_heldReportS.L0 (mkList 1 l) (1 + mkLen (l.take i)) (i : Int) = some (1 + mkLen l)
  | 0, i, h => by rw [laws_heldReportS.L0_eq, mkList_len, if_neg (by omega), List.take_of_length_le (by omega)]
  | d + 1, i, h => by
    have ih := heldRS_l0 l hl ho d (i + 1) (by omega)
    have hi : i < l.length := by omega
    have h1 := mkLen_step l i hi
    have h2 := mkLen_nn (l.take i)
    have h3 := mkLen_le l (i + 1)
    have h4 := mkLen_cnt l
    obtain ⟨o2, o5⟩ := ho _ (memReport l i hi)
    have hr := rd_mk l 1 i hi
    obtain ⟨n2, hn2⟩ : ∃ n, n = (rd_T29 l (i : Int)).f2.length := ⟨_, rfl⟩
    obtain ⟨n5, hn5⟩ : ∃ n, n = (rd_T29 l (i : Int)).f5.length := ⟨_, rfl⟩
    obtain ⟨kk, hkk⟩ : ∃ q, q = 1 + mkLen (l.take i) := ⟨_, rfl⟩
    rw [← hn2, ← hn5, ← hkk] at hr
    rw [← hn2, ← hn5] at h1
    rw [← hn2] at o2
    rw [← hn5] at o5
    have e0 : (rd_T29 (mkList 1 l) (i : Int)).f0 = kk := by rw [hr, mkElt]
    have e1 : (rd_T29 (mkList 1 l) (i : Int)).f1 = kk + 1 := by rw [hr, mkElt]
    have e2 : (rd_T29 (mkList 1 l) (i : Int)).f2 = upTo (kk + 1 + 1) n2 := by rw [hr, mkElt]
    have e3 : (rd_T29 (mkList 1 l) (i : Int)).f3 = kk + 1 + 1 + (n2 : Int) := by rw [hr, mkElt]
    have e4 : (rd_T29 (mkList 1 l) (i : Int)).f4 = kk + 1 + 1 + (n2 : Int) + 1 := by rw [hr, mkElt]
    have e5 : (rd_T29 (mkList 1 l) (i : Int)).f5 = upTo (kk + 1 + 1 + (n2 : Int) + 1 + 1) n5 := by rw [hr, mkElt]
    have e6 : (rd_T29 (mkList 1 l) (i : Int)).f6.f0 = kk + 1 + 1 + (n2 : Int) + 1 + 1 + (n5 : Int) := by rw [hr, mkElt]
    have e7 : (rd_T29 (mkList 1 l) (i : Int)).f6.f1 = kk + 1 + 1 + (n2 : Int) + 1 + 1 + (n5 : Int) + 1 := by rw [hr, mkElt]
    have hend : kk + 1 + 1 + (n2 : Int) + 1 + 1 + (n5 : Int) + 1 + 1 = 1 + mkLen (l.take (i + 1)) := by omega
    have hlt : (i : Int) < (l.length : Int) := by omega
    have hi0 : (0 : Int) ≤ (i : Int) := by omega
    have b2 : n2 ≤ 4194304 := by omega
    have b5 : n5 ≤ 4194304 := by omega
    have bi : i ≤ 4611686018427387904 := by omega
    obtain ⟨w1, w2, w3, w4, w5, w6, c1, c2⟩ := held_nums kk n2 n5 (by omega) o2 o5
    have g2 : laws_heldIntS.F (upTo (kk + 1 + 1) n2) (kk + 1 + 1) = some (kk + 1 + 1 + (n2 : Int)) := held_up _ n2 c1 b2
    have g5 : laws_heldIntS.F (upTo (kk + 1 + 1 + (n2 : Int) + 1 + 1) n5) (kk + 1 + 1 + (n2 : Int) + 1 + 1) = some (kk + 1 + 1 + (n2 : Int) + 1 + 1 + (n5 : Int)) := held_up _ n5 c2 b5
    have wi : wrap64 ((i : Int) + 1) = ((i + 1 : Nat) : Int) := wrap_succ i bi
    rw [laws_heldReportS.L0_eq, mkList_len, if_pos hlt, if_pos hi0, ← hkk, e0, if_pos rfl, e1, w1, if_pos rfl, w2, e2, g2, Option.bind_some, if_neg (Int.not_lt.2 c1.2.1), e3, if_pos rfl, e4, w3, if_pos rfl, w4, e5, g5, Option.bind_some, if_neg (Int.not_lt.2 c2.2.1), e6, if_pos rfl, e7, w5, if_pos rfl, w6, hend, wi]
    exact ih
theorem heldRS (l : List S29) (hl : mkLen l ≤ 16777216) (ho : OKB l) : laws_heldReportS.F (mkList 1 l) 1 = some (1 + mkLen l) := by
  rw [laws_heldReportS.F_eq]
  have := heldRS_l0 l hl ho l.length 0 (by omega)
  rw [List.take_zero, mkLen] at this
  exact this

theorem rdInt_at (l : List Int) (i : Nat) : rd l (i : Int) = l.getD i 0 := by simp [rd]
theorem dropInt (l : List Int) (i : Nat) (h : i < l.length) : l.drop i = rd l (i : Int) :: l.drop (i + 1) := by
  rw [rdInt_at, getD_get l i _ h]
  exact List.drop_eq_getElem_cons h

def okAsc (a b : Int) (l : List Int) (i : Nat) : Prop := inR (rd l i) a b = true ∧ ((i : Int) > 0 → rd l ((i : Int) - 1) < rd l i)
noncomputable def isAsc (l : List Int) (a b : Int) : Bool := allF (okAsc a b l) l.length 0

noncomputable def isReport (r0 r1 : Int) (rc : List Int) (r3 r4 : Int) (rp : List Int) (r6 r7 : Int) : Bool := inR r0 1 999 && inR r1 1 8 && isAsc rc 0 7 && decide (1 ≤ r3) && decide (r3 ≤ r4) && decide (r4 ≤ 50) && isAsc rp 1 30 && decide ((rp.length : Int) ≤ 10) && (inR r6 0 100000 && inR r7 0 100000 && decide (r6 ≤ r7))
noncomputable def isFind (f0 f1 f2 f3 f4 f5 f6 f7 : Int) : Bool := (inR f0 1 999 && inR f1 1 8 && inR f2 0 7 && inR f3 1 50 && inR f4 0 10000000) && inR f5 1 30 && inR f6 0 100000 && inR f7 0 999

def allow (l : List Int) (n : Int) : Bool := decide (l.length = 0) || decide (n ∈ l)

noncomputable def whyNot (r0 r1 : Int) (rc : List Int) (r3 r4 : Int) (rp : List Int) (r6 r7 : Int) (f0 f1 f2 f3 f4 f5 f6 f7 : Int) : ByteArray :=
  if ¬ (isReport r0 r1 rc r3 r4 rp r6 r7 = true ∧ isFind f0 f1 f2 f3 f4 f5 f6 f7 = true) then ⟨#[105, 110, 118, 97, 108, 105, 100]⟩
  else if ¬ r1 = f1 then ⟨#[107, 105, 110, 100]⟩
  else if ¬ allow rc f2 = true then ⟨#[99, 111, 108, 111, 117, 114]⟩
  else if ¬ inR f3 r3 r4 = true then ⟨#[115, 105, 122, 101]⟩
  else if ¬ allow rp f5 = true then ⟨#[112, 108, 97, 99, 101]⟩
  else if f6 < r6 then ⟨#[116, 105, 109, 101]⟩ else ⟨#[]⟩
noncomputable def canBe (r0 r1 : Int) (rc : List Int) (r3 r4 : Int) (rp : List Int) (r6 r7 : Int) (f0 f1 f2 f3 f4 f5 f6 f7 : Int) : Bool := isReport r0 r1 rc r3 r4 rp r6 r7 && isFind f0 f1 f2 f3 f4 f5 f6 f7 && decide (r1 = f1) && allow rc f2 && inR f3 r3 r4 && allow rp f5 && decide (r6 ≤ f6)
theorem canBe_why (r0 r1 : Int) (rc : List Int) (r3 r4 : Int) (rp : List Int) (r6 r7 : Int) (f0 f1 f2 f3 f4 f5 f6 f7 : Int) : ((whyNot r0 r1 rc r3 r4 rp r6 r7 f0 f1 f2 f3 f4 f5 f6 f7).toList == ([] : List UInt8)) = canBe r0 r1 rc r3 r4 rp r6 r7 f0 f1 f2 f3 f4 f5 f6 f7 := by
  unfold whyNot canBe
  by_cases h1 : isReport r0 r1 rc r3 r4 rp r6 r7 = true
  · by_cases h2 : isFind f0 f1 f2 f3 f4 f5 f6 f7 = true
    · rw [h1, h2]
      simp only [and_self, not_true_eq_false, if_false, Bool.true_and]
      by_cases h3 : r1 = f1
      · simp only [h3, not_true_eq_false, if_false, decide_true, Bool.true_and]
        cases allow rc f2
        · first | (simp; done) | (simp; decide +kernel)
        · cases inR f3 r3 r4
          · first | (simp; done) | (simp; decide +kernel)
          · cases allow rp f5
            · first | (simp; done) | (simp; decide +kernel)
            · by_cases h4 : f6 < r6
              · simp only [h4, not_true_eq_false, if_false, if_true, Bool.true_and, decide_eq_false (show ¬ r6 ≤ f6 by omega)]
                decide +kernel
              · simp only [h4, not_true_eq_false, if_false, Bool.true_and, decide_eq_true (show r6 ≤ f6 by omega)]
                decide +kernel
      · simp only [h3, not_false_eq_true, if_true, decide_false, Bool.false_and]
        decide +kernel
    · rw [Bool.eq_false_iff.2 h2]
      simp only [Bool.false_eq_true, and_false, not_false_eq_true, if_true, Bool.and_false, Bool.false_and]
      decide +kernel
  · rw [Bool.eq_false_iff.2 h1]
    simp only [Bool.false_eq_true, false_and, not_false_eq_true, if_true, Bool.false_and]
    decide +kernel

def Asc (l : List Int) : Prop := l.Pairwise (fun x y => x < y)
theorem asc_ext : ∀ (a b : List Int), Asc a → Asc b → (∀ x, x ∈ a ↔ x ∈ b) → a = b
  | [], [], _, _, _ => rfl
  | [], y :: b, _, _, h => by have := (h y).2 (List.mem_cons_self ..); cases this
  | x :: a, [], _, _, h => by have := (h x).1 (List.mem_cons_self ..); cases this
  | x :: a, y :: b, ha, hb, h => by
    have ha' := List.pairwise_cons.1 ha
    have hb' := List.pairwise_cons.1 hb
    have e : x = y := by
      rcases List.mem_cons.1 ((h x).1 (List.mem_cons_self ..)) with h1 | h1
      · exact h1
      · rcases List.mem_cons.1 ((h y).2 (List.mem_cons_self ..)) with h2 | h2
        · exact h2.symm
        · have := hb'.1 x h1
          have := ha'.1 y h2
          omega
    subst e
    congr 1
    refine asc_ext a b ha'.2 hb'.2 (fun z => ⟨fun hz => ?_, fun hz => ?_⟩)
    · rcases List.mem_cons.1 ((h z).1 (List.mem_cons_of_mem _ hz)) with h1 | h1
      · have := ha'.1 z hz; omega
      · exact h1
    · rcases List.mem_cons.1 ((h z).2 (List.mem_cons_of_mem _ hz)) with h1 | h1
      · have := hb'.1 z hz; omega
      · exact h1
def putA : List Int → Int → List Int
  | [], n => [n]
  | x :: r, n => if x < n then x :: putA r n else if x = n then x :: r else n :: x :: r
theorem putA_mem (n z : Int) : ∀ l : List Int, z ∈ putA l n ↔ z = n ∨ z ∈ l
  | [] => by simp [putA]
  | x :: r => by
    simp only [putA]
    by_cases h1 : x < n
    · rw [if_pos h1, List.mem_cons, putA_mem n z r, List.mem_cons]
      exact ⟨fun h => by rcases h with h | h | h <;> simp [h], fun h => by rcases h with h | h | h <;> simp [h]⟩
    · rw [if_neg h1]
      by_cases h2 : x = n
      · rw [if_pos h2, List.mem_cons]
        refine ⟨fun h => .inr h, fun h => ?_⟩
        rcases h with h | h
        · exact .inl (by omega)
        · exact h
      · rw [if_neg h2, List.mem_cons]
theorem putA_asc (n : Int) : ∀ l : List Int, Asc l → Asc (putA l n)
  | [], _ => List.pairwise_singleton _ _
  | x :: r, h => by
    have h' := List.pairwise_cons.1 h
    simp only [putA]
    by_cases h1 : x < n
    · rw [if_pos h1]
      refine List.pairwise_cons.2 ⟨fun z hz => ?_, putA_asc n r h'.2⟩
      rcases (putA_mem n z r).1 hz with e | e
      · omega
      · exact h'.1 z e
    · rw [if_neg h1]
      by_cases h2 : x = n
      · rw [if_pos h2]; exact h
      · rw [if_neg h2]
        refine List.pairwise_cons.2 ⟨fun z hz => ?_, h⟩
        rcases List.mem_cons.1 hz with e | e
        · omega
        · have := h'.1 z e; omega
theorem putA_len (n : Int) : ∀ l : List Int, (putA l n).length ≤ l.length + 1
  | [] => by simp [putA]
  | x :: r => by
    simp only [putA]
    by_cases h1 : x < n
    · rw [if_pos h1, List.length_cons, List.length_cons]
      have := putA_len n r
      omega
    · rw [if_neg h1]
      split <;> simp

def okRepAt (l : List S29) (i : Nat) : Prop := isReport (rd_T29 l (i : Int)).f0 (rd_T29 l (i : Int)).f1 (rd_T29 l (i : Int)).f2 (rd_T29 l (i : Int)).f3 (rd_T29 l (i : Int)).f4 (rd_T29 l (i : Int)).f5 (rd_T29 l (i : Int)).f6.f0 (rd_T29 l (i : Int)).f6.f1 = true ∧ ((i : Int) > 0 → (rd_T29 l ((i : Int) - 1)).f0 < (rd_T29 l (i : Int)).f0)
noncomputable def areReports (l : List S29) : Bool := allF (okRepAt l) l.length 0 && decide ((l.length : Int) ≤ 20)
noncomputable def seekF (f0 f1 f2 f3 f4 f5 f6 f7 : Int) : List S29 → List Int
  | [] => []
  | y :: r => if canBe y.f0 y.f1 y.f2 y.f3 y.f4 y.f5 y.f6.f0 y.f6.f1 f0 f1 f2 f3 f4 f5 f6 f7 = true then y.f0 :: seekF f0 f1 f2 f3 f4 f5 f6 f7 r else seekF f0 f1 f2 f3 f4 f5 f6 f7 r
theorem seekF_len (f0 f1 f2 f3 f4 f5 f6 f7 : Int) : ∀ l : List S29, (seekF f0 f1 f2 f3 f4 f5 f6 f7 l).length ≤ l.length
  | [] => Nat.le_refl _
  | y :: r => by
    have := seekF_len f0 f1 f2 f3 f4 f5 f6 f7 r
    simp only [seekF]
    split <;> simp only [List.length_cons] <;> omega
noncomputable def seekers (f0 f1 f2 f3 f4 f5 f6 f7 : Int) (l : List S29) : List Int := if areReports l = true then seekF f0 f1 f2 f3 f4 f5 f6 f7 l else []
theorem seekers_len (f0 f1 f2 f3 f4 f5 f6 f7 : Int) (l : List S29) : (seekers f0 f1 f2 f3 f4 f5 f6 f7 l).length ≤ l.length := by
  unfold seekers
  split
  · exact seekF_len f0 f1 f2 f3 f4 f5 f6 f7 l
  · exact Nat.zero_le _
theorem seekF_mem (f0 f1 f2 f3 f4 f5 f6 f7 : Int) (z : Int) : ∀ l : List S29, z ∈ seekF f0 f1 f2 f3 f4 f5 f6 f7 l ↔ ∃ y ∈ l, canBe y.f0 y.f1 y.f2 y.f3 y.f4 y.f5 y.f6.f0 y.f6.f1 f0 f1 f2 f3 f4 f5 f6 f7 = true ∧ y.f0 = z
  | [] => by simp [seekF]
  | y :: r => by
    have ih := seekF_mem f0 f1 f2 f3 f4 f5 f6 f7 z r
    simp only [seekF]
    by_cases c : canBe y.f0 y.f1 y.f2 y.f3 y.f4 y.f5 y.f6.f0 y.f6.f1 f0 f1 f2 f3 f4 f5 f6 f7 = true
    · rw [if_pos c, List.mem_cons, ih]
      constructor
      · rintro (h | ⟨x, h1, h2, h3⟩)
        · exact ⟨y, List.mem_cons_self .., c, h.symm⟩
        · exact ⟨x, List.mem_cons_of_mem _ h1, h2, h3⟩
      · rintro ⟨x, h1, h2, h3⟩
        rcases List.mem_cons.1 h1 with e | e
        · rw [e] at h3; exact .inl h3.symm
        · exact .inr ⟨x, e, h2, h3⟩
    · rw [if_neg c, ih]
      constructor
      · rintro ⟨x, h1, h2, h3⟩
        exact ⟨x, List.mem_cons_of_mem _ h1, h2, h3⟩
      · rintro ⟨x, h1, h2, h3⟩
        rcases List.mem_cons.1 h1 with e | e
        · rw [e] at h2; exact absurd h2 c
        · exact ⟨x, e, h2, h3⟩
theorem reports_lt {l : List S29} (h : areReports l = true) : ∀ (d i : Nat), i + d + 1 < l.length → (rd_T29 l (i : Int)).f0 < (rd_T29 l ((i + d + 1 : Nat) : Int)).f0 := by
  unfold areReports at h
  rw [Bool.and_eq_true, allF_all] at h
  have step : ∀ j : Nat, j + 1 < l.length → (rd_T29 l (j : Int)).f0 < (rd_T29 l ((j + 1 : Nat) : Int)).f0 := fun j hj => by
    have := (h.1 (j + 1) hj).2 (by omega)
    rw [show ((j + 1 : Nat) : Int) - 1 = (j : Int) by omega] at this
    exact this
  intro d
  induction d with
  | zero => exact fun i hi => step i hi
  | succ d ih =>
    intro i hi
    have h1 := ih i (by omega)
    have h2 := step (i + d + 1) (by omega)
    exact Int.lt_trans h1 h2
theorem report_same {l : List S29} (h : areReports l = true) {x : S29} (hx : x ∈ l) (i : Nat) (hi : i < l.length) (e : x.f0 = (rd_T29 l (i : Int)).f0) : x = rd_T29 l (i : Int) := by
  obtain ⟨j, hj, ej⟩ := List.getElem_of_mem hx
  have ej' : rd_T29 l (j : Int) = x := by rw [rdReport_at, getD_get l j _ hj, ej]
  rcases Nat.lt_trichotomy i j with c | c | c
  · obtain ⟨d, rfl⟩ : ∃ d, j = i + d + 1 := ⟨j - i - 1, by omega⟩
    have := reports_lt h d i hj
    rw [ej'] at this
    omega
  · subst c
    exact ej'.symm
  · obtain ⟨d, rfl⟩ : ∃ d, i = j + d + 1 := ⟨i - j - 1, by omega⟩
    have := reports_lt h d j hi
    rw [ej'] at this
    omega
/-- Who seeks it: in a row of reports, just those that it can be. -/
theorem seek_is (f0 f1 f2 f3 f4 f5 f6 f7 : Int) (l : List S29) (h : areReports l = true) (i : Nat) (hi : i < l.length) : (rd_T29 l (i : Int)).f0 ∈ seekers f0 f1 f2 f3 f4 f5 f6 f7 l ↔ canBe (rd_T29 l (i : Int)).f0 (rd_T29 l (i : Int)).f1 (rd_T29 l (i : Int)).f2 (rd_T29 l (i : Int)).f3 (rd_T29 l (i : Int)).f4 (rd_T29 l (i : Int)).f5 (rd_T29 l (i : Int)).f6.f0 (rd_T29 l (i : Int)).f6.f1 f0 f1 f2 f3 f4 f5 f6 f7 = true := by
  rw [seekers, if_pos h, seekF_mem]
  constructor
  · rintro ⟨y, hy, hc, e⟩
    have := report_same h hy i hi e
    rw [this] at hc
    exact hc
  · intro hc
    exact ⟨_, memReport l i hi, hc, rfl⟩

theorem idxFReport_spec (p : S29 → Bool) : ∀ (l : List S29) (i : Int), (idxF29 p l i = -1 ∧ ∀ x ∈ l, ¬ p x = true) ∨ ∃ j : Nat, j < l.length ∧ idxF29 p l i = i + (j : Int) ∧ p (l.getD j z29) = true ∧ ∀ m : Nat, m < j → ¬ p (l.getD m z29) = true
  | [], i => .inl ⟨rfl, by simp⟩
  | x :: r, i => by
    simp only [idxF29]
    by_cases h : p x = true
    · rw [if_pos h]
      exact .inr ⟨0, by simp, by simp, by simpa using h, fun m hm => absurd hm (by omega)⟩
    · rw [if_neg h]
      rcases idxFReport_spec p r (i + 1) with ⟨h1, h2⟩ | ⟨j, h1, h2, h3, h4⟩
      · exact .inl ⟨h1, fun y hy => by
          rcases List.mem_cons.1 hy with e | e
          · rw [e]; exact h
          · exact h2 y e⟩
      · refine .inr ⟨j + 1, by simp; omega, by rw [h2]; omega, by simpa using h3, fun m hm => ?_⟩
        cases m with
        | zero => simpa using h
        | succ m => simpa using h4 m (by omega)
theorem idxFReport_at (p : S29 → Bool) (l : List S29) : (idxF29 p l 0 = -1 ∧ ∀ x ∈ l, ¬ p x = true) ∨ ∃ j : Nat, j < l.length ∧ idxF29 p l 0 = (j : Int) ∧ p (rd_T29 l (j : Int)) = true ∧ ∀ m : Nat, m < j → ¬ p (rd_T29 l (m : Int)) = true := by
  rcases idxFReport_spec p l 0 with h | ⟨j, h1, h2, h3, h4⟩
  · exact .inl h
  · refine .inr ⟨j, h1, by rw [h2]; omega, by rw [rdReport_at]; exact h3, fun m hm => by rw [rdReport_at]; exact h4 m hm⟩

def leadR (q : Int) : List S29 → Nat
  | [] => 0
  | y :: r => if y.f0 < q then leadR q r + 1 else 0
theorem leadR_le (q : Int) : ∀ l : List S29, leadR q l ≤ l.length
  | [] => Nat.le_refl _
  | y :: r => by
    have := leadR_le q r
    simp only [leadR, List.length_cons]
    split <;> omega
theorem leadR_lt (q : Int) : ∀ (l : List S29) (j : Nat), j < leadR q l → (l.getD j z29).f0 < q
  | [], j, h => absurd h (Nat.not_lt_zero j)
  | y :: r, j, h => by
    simp only [leadR] at h
    by_cases c : y.f0 < q
    · rw [if_pos c] at h
      cases j with
      | zero => simpa using c
      | succ j => simpa using leadR_lt q r j (by omega)
    · rw [if_neg c] at h
      exact absurd h (Nat.not_lt_zero j)
theorem leadR_at (q : Int) : ∀ (l : List S29), leadR q l < l.length → ¬ (l.getD (leadR q l) z29).f0 < q
  | [], h => absurd h (Nat.not_lt_zero _)
  | y :: r, h => by
    simp only [leadR, List.length_cons] at h ⊢
    by_cases c : y.f0 < q
    · rw [if_pos c] at h ⊢
      simpa using leadR_at q r (by omega)
    · rw [if_neg c] at h ⊢
      simpa using c
/-- The reference's way: before the first that is not less, in the place of that one if it has the number. -/
def putS (l : List S29) (x : S29) : List S29 := l.take (leadR x.f0 l) ++ [x] ++ l.drop (if leadR x.f0 l < l.length ∧ (l.getD (leadR x.f0 l) z29).f0 = x.f0 then leadR x.f0 l + 1 else leadR x.f0 l)
/-- The program's way: in the place of the first that has the number, else before the first that is not less. -/
def putI (l : List S29) (x : S29) : List S29 := if idxF29 (fun y => y.f0 == x.f0) l 0 ≥ 0 then l.set (idxF29 (fun y => y.f0 == x.f0) l 0).toNat x else l.take (leadR x.f0 l) ++ [x] ++ l.drop (leadR x.f0 l)
theorem not_rep {l : List S29} {i j : Nat} (hij : i < j) (hj : j < l.length) (h : ¬ (l.getD i z29).f0 < (l.getD j z29).f0) : areReports l = false := by
  rw [Bool.eq_false_iff]
  intro ha
  obtain ⟨d, rfl⟩ : ∃ d, j = i + d + 1 := ⟨j - i - 1, by omega⟩
  have := reports_lt ha d i hj
  rw [rdReport_at, rdReport_at] at this
  exact h this
theorem put_alike (l : List S29) (x : S29) : putS l x = putI l x ∨ (areReports (putS l x) = false ∧ areReports (putI l x) = false) := by
  have hle := leadR_le x.f0 l
  rcases idxFReport_at (fun y => y.f0 == x.f0) l with ⟨h, hn⟩ | ⟨j, hj, h, hp, hm⟩
  · left
    have hno : ¬ (leadR x.f0 l < l.length ∧ (l.getD (leadR x.f0 l) z29).f0 = x.f0) := fun ⟨h1, h2⟩ => by
      refine hn _ ?_ (beq_iff_eq.2 h2)
      rw [getD_get l _ _ h1]
      exact List.getElem_mem h1
    rw [putS, if_neg hno, putI, h, if_neg (by decide)]
  · have hpj : (l.getD j z29).f0 = x.f0 := by
      rw [rdReport_at] at hp
      exact beq_iff_eq.1 hp
    have hlj : leadR x.f0 l ≤ j := by
      rcases Nat.lt_or_ge j (leadR x.f0 l) with c | c
      · have := leadR_lt x.f0 l j c
        omega
      · exact c
    by_cases e : leadR x.f0 l = j
    · left
      rw [putS, e, if_pos ⟨hj, hpj⟩, putI, h, if_pos (by omega), Int.toNat_natCast, List.append_assoc, List.set_eq_take_append_cons_drop, if_pos hj]
      rfl
    · right
      have hk : leadR x.f0 l < j := by omega
      have hk1 := leadR_at x.f0 l (by omega)
      have hk2 : (l.getD (leadR x.f0 l) z29).f0 ≠ x.f0 := fun e2 => hm (leadR x.f0 l) hk (by rw [rdReport_at]; exact beq_iff_eq.2 e2)
      have hs : putS l x = l.take (leadR x.f0 l) ++ [x] ++ l.drop (leadR x.f0 l) := by rw [putS, if_neg (fun h => hk2 h.2)]
      have htl : (l.take (leadR x.f0 l)).length = leadR x.f0 l := by rw [List.length_take]; omega
      refine ⟨?_, ?_⟩
      · rw [hs]
        refine not_rep (i := leadR x.f0 l) (j := j + 1) (by omega) (by simp only [List.length_append, htl, List.length_drop, List.length_singleton]; omega) ?_
        have e1 : (l.take (leadR x.f0 l) ++ [x] ++ l.drop (leadR x.f0 l)).getD (leadR x.f0 l) z29 = x := by
          rw [List.getD_eq_getElem?_getD, List.append_assoc, List.getElem?_append_right (by omega), htl, Nat.sub_self]
          rfl
        have e2 : (l.take (leadR x.f0 l) ++ [x] ++ l.drop (leadR x.f0 l)).getD (j + 1) z29 = l.getD j z29 := by
          rw [List.getD_eq_getElem?_getD, List.getD_eq_getElem?_getD, List.append_assoc, List.getElem?_append_right (by omega), htl, show j + 1 - leadR x.f0 l = (j - leadR x.f0 l) + 1 by omega, List.singleton_append, List.getElem?_cons_succ, List.getElem?_drop, show leadR x.f0 l + (j - leadR x.f0 l) = j by omega]
        rw [e1, e2, hpj]
        omega
      · rw [putI, h, if_pos (by omega), Int.toNat_natCast]
        refine not_rep (i := leadR x.f0 l) (j := j) hk (by rw [List.length_set]; exact hj) ?_
        have e1 : (l.set j x).getD (leadR x.f0 l) z29 = l.getD (leadR x.f0 l) z29 := by
          rw [List.getD_eq_getElem?_getD, List.getD_eq_getElem?_getD, List.getElem?_set_ne (by omega)]
        have e2 : (l.set j x).getD j z29 = x := by
          rw [List.getD_eq_getElem?_getD, List.getElem?_set_self hj]
          rfl
        rw [e1, e2]
        exact hk1

theorem inRange (a b c : Int) : impl_InRange.f a b c = some (inR a b c) := by
  unfold impl_InRange.f inR
  by_cases h : b ≤ a <;> simp [h]

theorem impl_isAscending_l0 (l : List Int) (a b : Int) (hn : l.length ≤ 4194304) : ∀ (d i : Nat), i + d = l.length → impl_isAscending.L0 l a b l (l.length : Int) (i : Int) = some (allF (okAsc a b l) l.length i)
  | 0, i, h => by rw [impl_isAscending.L0_eq, if_neg (by omega), allF_end (by omega)]
  | d + 1, i, h => by
    have hi : i < l.length := by omega
    have ih := impl_isAscending_l0 l a b hn d (i + 1) (by omega)
    rw [impl_isAscending.L0_eq]
    simp only [wrap_succ i (by omega), wrap_pred i (by omega), ih, inRange, Option.bind_some]
    by_cases hp_ : okAsc a b l i
    · rw [allF_yes hp_]
      simp only [okAsc] at hp_
      obtain ⟨h1_, h2_⟩ := hp_
      repeat' split
      all_goals first
        | rfl
        | (exfalso; first | contradiction | omega)
    · rw [allF_no hi hp_]
      repeat' split
      all_goals first
        | rfl
        | (simp; done)
        | (exfalso; first | contradiction | omega)
        | (exfalso; apply hp_; simp only [okAsc]; (repeat' constructor) <;> first | assumption | (intro _; omega) | omega)
theorem impl_isAscending_is (l : List Int) (a b : Int) (hn : l.length ≤ 4194304) : impl_isAscending.F l a b = some (isAsc l a b) := by
  rw [impl_isAscending.F_eq]
  exact impl_isAscending_l0 l a b hn l.length 0 (by omega)

theorem impl_IsSpan_is (a b : Int) : impl_IsSpan.f a b = some (inR a 0 100000 && inR b 0 100000 && decide (a ≤ b)) := by
  unfold impl_IsSpan.f
  simp only [inRange, Option.bind_some]
  cases inR a 0 100000 <;> cases inR b 0 100000 <;> simp

theorem impl_IsReport_is (r0 r1 : Int) (rc : List Int) (r3 r4 : Int) (rp : List Int) (r6 r7 : Int) (hc : rc.length ≤ 4194304) (hp : rp.length ≤ 4194304) : impl_IsReport.F r0 r1 rc r3 r4 rp r6 r7 = some (isReport r0 r1 rc r3 r4 rp r6 r7) := by
  rw [impl_IsReport.F_eq]
  simp only [inRange, impl_isAscending_is rc 0 7 hc, impl_isAscending_is rp 1 30 hp, impl_IsSpan_is, Option.bind_some, isReport]
  generalize (inR r6 0 100000 && inR r7 0 100000 && decide (r6 ≤ r7)) = s
  cases inR r0 1 999 <;> cases inR r1 1 8 <;> cases isAsc rc 0 7 <;> cases isAsc rp 1 30 <;> by_cases h1 : 1 ≤ r3 <;> by_cases h2 : r3 ≤ r4 <;> by_cases h3 : r4 ≤ 50 <;> by_cases h4 : (rp.length : Int) ≤ 10 <;> simp [h1, h2, h3, h4]

theorem impl_AreReports_l0 (l : List S29) (hn : l.length ≤ 4194304) (ho : OKB l) : ∀ (d i : Nat), i + d = l.length → impl_AreReports.L0 l l (l.length : Int) (i : Int) = some (allF (okRepAt l) l.length i)
  | 0, i, h => by rw [impl_AreReports.L0_eq, if_neg (by omega), allF_end (by omega)]
  | d + 1, i, h => by
    have hi : i < l.length := by omega
    have ih := impl_AreReports_l0 l hn ho d (i + 1) (by omega)
    obtain ⟨o2, o5⟩ := ho _ (memReport l i hi)
    have ht : impl_IsReport.F (rd_T29 l (i : Int)).f0 (rd_T29 l (i : Int)).f1 (rd_T29 l (i : Int)).f2 (rd_T29 l (i : Int)).f3 (rd_T29 l (i : Int)).f4 (rd_T29 l (i : Int)).f5 (rd_T29 l (i : Int)).f6.f0 (rd_T29 l (i : Int)).f6.f1 = some (isReport (rd_T29 l (i : Int)).f0 (rd_T29 l (i : Int)).f1 (rd_T29 l (i : Int)).f2 (rd_T29 l (i : Int)).f3 (rd_T29 l (i : Int)).f4 (rd_T29 l (i : Int)).f5 (rd_T29 l (i : Int)).f6.f0 (rd_T29 l (i : Int)).f6.f1) := impl_IsReport_is _ _ _ _ _ _ _ _ (by omega) (by omega)
    rw [impl_AreReports.L0_eq, if_pos (by omega), if_pos (by omega), if_pos (by omega), ht, Option.bind_some, wrap_pred i (by omega), wrap_succ i (by omega), ih]
    by_cases c1 : isReport (rd_T29 l (i : Int)).f0 (rd_T29 l (i : Int)).f1 (rd_T29 l (i : Int)).f2 (rd_T29 l (i : Int)).f3 (rd_T29 l (i : Int)).f4 (rd_T29 l (i : Int)).f5 (rd_T29 l (i : Int)).f6.f0 (rd_T29 l (i : Int)).f6.f1 = true
    · rw [if_pos c1]
      by_cases c0 : (i : Int) > 0
      · rw [if_pos c0, if_pos (by omega), if_pos (by omega)]
        by_cases c2 : (rd_T29 l (i : Int)).f0 ≤ (rd_T29 l ((i : Int) - 1)).f0
        · rw [if_pos c2, allF_no hi (fun h => absurd (h.2 c0) (by omega))]
        · have hp : okRepAt l i := ⟨c1, fun _ => by omega⟩
          rw [if_neg c2, allF_yes hp]
      · have hp : okRepAt l i := ⟨c1, fun hh => absurd hh c0⟩
        rw [if_neg c0, allF_yes hp]
    · rw [if_neg c1, allF_no hi (fun h => c1 h.1)]
theorem impl_AreReports_is (l : List S29) (hn : l.length ≤ 4194304) (ho : OKB l) : impl_AreReports.F l = some (areReports l) := by
  rw [impl_AreReports.F_eq, areReports]
  by_cases h : (l.length : Int) > 20
  · rw [if_pos h, decide_eq_false (by omega), Bool.and_false]
  · rw [if_neg h, decide_eq_true (by omega), Bool.and_true]
    exact impl_AreReports_l0 l hn ho l.length 0 (by omega)

theorem l1In (a b c : Int) : spec_l1In.f a b c = some (inR a b c) := by
  unfold spec_l1In.f inR
  by_cases h : b ≤ a <;> simp [h]

theorem spec_l7Ids_l0 (l : List Int) (a b : Int) (hn : l.length ≤ 4194304) : ∀ (d i : Nat), i + d = l.length → spec_l7Ids.L0 l a b (i : Int) = some (allF (okAsc a b l) l.length i)
  | 0, i, h => by rw [spec_l7Ids.L0_eq, if_neg (by omega), allF_end (by omega)]
  | d + 1, i, h => by
    have hi : i < l.length := by omega
    have ih := spec_l7Ids_l0 l a b hn d (i + 1) (by omega)
    rw [spec_l7Ids.L0_eq]
    simp only [wrap_succ i (by omega), wrap_pred i (by omega), ih, l1In, Option.bind_some]
    by_cases hp_ : okAsc a b l i
    · rw [allF_yes hp_]
      simp only [okAsc] at hp_
      obtain ⟨h1_, h2_⟩ := hp_
      repeat' split
      all_goals first
        | rfl
        | (exfalso; first | contradiction | omega)
    · rw [allF_no hi hp_]
      repeat' split
      all_goals first
        | rfl
        | (simp; done)
        | (exfalso; first | contradiction | omega)
        | (exfalso; apply hp_; simp only [okAsc]; (repeat' constructor) <;> first | assumption | (intro _; omega) | omega)
theorem spec_l7Ids_is (l : List Int) (a b : Int) (hn : l.length ≤ 4194304) : spec_l7Ids.F l a b = some (isAsc l a b) := by
  rw [spec_l7Ids.F_eq]
  exact spec_l7Ids_l0 l a b hn l.length 0 (by omega)

theorem spec_IsSpan_is (a b : Int) : spec_IsSpan.f a b = some (inR a 0 100000 && inR b 0 100000 && decide (a ≤ b)) := by
  unfold spec_IsSpan.f
  simp only [l1In, Option.bind_some]
  cases inR a 0 100000 <;> cases inR b 0 100000 <;> simp

theorem spec_IsReport_is (r0 r1 : Int) (rc : List Int) (r3 r4 : Int) (rp : List Int) (r6 r7 : Int) (hc : rc.length ≤ 4194304) (hp : rp.length ≤ 4194304) : spec_IsReport.F r0 r1 rc r3 r4 rp r6 r7 = some (isReport r0 r1 rc r3 r4 rp r6 r7) := by
  rw [spec_IsReport.F_eq]
  simp only [l1In, spec_l7Ids_is rc 0 7 hc, spec_l7Ids_is rp 1 30 hp, spec_IsSpan_is, Option.bind_some, isReport]
  generalize (inR r6 0 100000 && inR r7 0 100000 && decide (r6 ≤ r7)) = s
  cases inR r0 1 999 <;> cases inR r1 1 8 <;> cases isAsc rc 0 7 <;> cases isAsc rp 1 30 <;> by_cases h1 : 1 ≤ r3 <;> by_cases h2 : r3 ≤ r4 <;> by_cases h3 : r4 ≤ 50 <;> by_cases h4 : (rp.length : Int) ≤ 10 <;> simp [h1, h2, h3, h4]

theorem spec_AreReports_l0 (l : List S29) (hn : l.length ≤ 4194304) (ho : OKB l) : ∀ (d i : Nat), i + d = l.length → spec_AreReports.L0 l (i : Int) = some (allF (okRepAt l) l.length i && decide ((l.length : Int) ≤ 20))
  | 0, i, h => by rw [spec_AreReports.L0_eq, if_neg (by omega), allF_end (by omega)]; rfl
  | d + 1, i, h => by
    have hi : i < l.length := by omega
    have ih := spec_AreReports_l0 l hn ho d (i + 1) (by omega)
    obtain ⟨o2, o5⟩ := ho _ (memReport l i hi)
    have ht : spec_IsReport.F (rd_T29 l (i : Int)).f0 (rd_T29 l (i : Int)).f1 (rd_T29 l (i : Int)).f2 (rd_T29 l (i : Int)).f3 (rd_T29 l (i : Int)).f4 (rd_T29 l (i : Int)).f5 (rd_T29 l (i : Int)).f6.f0 (rd_T29 l (i : Int)).f6.f1 = some (isReport (rd_T29 l (i : Int)).f0 (rd_T29 l (i : Int)).f1 (rd_T29 l (i : Int)).f2 (rd_T29 l (i : Int)).f3 (rd_T29 l (i : Int)).f4 (rd_T29 l (i : Int)).f5 (rd_T29 l (i : Int)).f6.f0 (rd_T29 l (i : Int)).f6.f1) := spec_IsReport_is _ _ _ _ _ _ _ _ (by omega) (by omega)
    rw [spec_AreReports.L0_eq, if_pos (by omega), if_pos (by omega), ht, Option.bind_some, wrap_pred i (by omega), wrap_succ i (by omega), ih]
    by_cases c1 : isReport (rd_T29 l (i : Int)).f0 (rd_T29 l (i : Int)).f1 (rd_T29 l (i : Int)).f2 (rd_T29 l (i : Int)).f3 (rd_T29 l (i : Int)).f4 (rd_T29 l (i : Int)).f5 (rd_T29 l (i : Int)).f6.f0 (rd_T29 l (i : Int)).f6.f1 = true
    · rw [if_pos c1]
      by_cases c0 : (i : Int) > 0
      · rw [if_pos c0, if_pos (by omega), if_pos (by omega)]
        by_cases c2 : (rd_T29 l ((i : Int) - 1)).f0 ≥ (rd_T29 l (i : Int)).f0
        · rw [if_pos c2, allF_no hi (fun h => absurd (h.2 c0) (by omega))]; rfl
        · have hp : okRepAt l i := ⟨c1, fun _ => by omega⟩
          rw [if_neg c2, allF_yes hp]
      · have hp : okRepAt l i := ⟨c1, fun hh => absurd hh c0⟩
        rw [if_neg c0, allF_yes hp]
    · rw [if_neg c1, allF_no hi (fun h => c1 h.1)]; rfl
theorem spec_AreReports_is (l : List S29) (hn : l.length ≤ 4194304) (ho : OKB l) : spec_AreReports.F l = some (areReports l) := by
  rw [spec_AreReports.F_eq, areReports]
  exact spec_AreReports_l0 l hn ho l.length 0 (by omega)

theorem cloneInt_b (l : List Int) (h : l.length ≤ 1048576) : slices_Clone_int_int.f l = some l := by
  unfold slices_Clone_int_int.f
  rw [Option.bind_some, if_pos (by simp; omega), List.nil_append]
theorem cloneReport_b (r0 r1 : Int) (rc : List Int) (r3 r4 : Int) (rp : List Int) (r6 r7 : Int) (hc : rc.length ≤ 1048576) (hp : rp.length ≤ 1048576) : impl_cloneReport.f r0 r1 rc r3 r4 rp r6 r7 = some (r0, r1, rc, r3, r4, rp, r6, r7) := by
  unfold impl_cloneReport.f
  rw [cloneInt_b rc hc, Option.bind_some, cloneInt_b rp hp, Option.bind_some]
theorem cloneReports_l0 (l : List S29) (hn : l.length ≤ 1048576) (ho : OKB l) : ∀ (d i : Nat) (acc : List S29), i + d = l.length → acc.length ≤ i → impl_cloneReports.L0 acc l (l.length : Int) (i : Int) = some (acc ++ l.drop i)
  | 0, i, acc, h, ha => by rw [impl_cloneReports.L0_eq, if_neg (by omega), List.drop_of_length_le (by omega), List.append_nil]
  | d + 1, i, acc, h, ha => by
    obtain ⟨o2, o5⟩ := ho _ (memReport l i (by omega))
    rw [impl_cloneReports.L0_eq, if_pos (by omega), if_pos (by omega), if_pos (by omega), cloneReport_b _ _ _ _ _ _ _ _ o2 o5, Option.bind_some, if_pos (by omega), wrap_succ i (by omega)]
    rw [cloneReports_l0 l hn ho d (i + 1) _ (by omega) (by rw [List.length_append, List.length_singleton]; omega), List.append_assoc, dropReport l i (by omega)]
    rfl
theorem cloneReports_b (l : List S29) (hn : l.length ≤ 1048576) (ho : OKB l) : impl_cloneReports.F l = some l := by
  rw [impl_cloneReports.F_eq]
  have := cloneReports_l0 l hn ho l.length 0 [] (by omega) (by simp)
  rw [List.drop_zero, List.nil_append] at this
  exact this
theorem l7Report_b (r0 r1 : Int) (rc : List Int) (r3 r4 : Int) (rp : List Int) (r6 r7 : Int) (hc : rc.length ≤ 1048576) (hp : rp.length ≤ 1048576) : spec_l7Report.f r0 r1 rc r3 r4 rp r6 r7 = some (r0, r1, rc, r3, r4, rp, r6, r7) := by
  unfold spec_l7Report.f
  rw [Option.bind_some, if_pos (by simp; omega), Option.bind_some, if_pos (by simp; omega), List.nil_append, List.nil_append]
theorem l7Copy_l0 (l : List S29) (hn : l.length ≤ 1048576) (ho : OKB l) : ∀ (d i : Nat) (acc : List S29), i + d = l.length → acc.length ≤ i → spec_l7Copy.L0 l acc (i : Int) = some (acc ++ l.drop i)
  | 0, i, acc, h, ha => by rw [spec_l7Copy.L0_eq, if_neg (by omega), List.drop_of_length_le (by omega), List.append_nil]
  | d + 1, i, acc, h, ha => by
    obtain ⟨o2, o5⟩ := ho _ (memReport l i (by omega))
    rw [spec_l7Copy.L0_eq, if_pos (by omega), if_pos (by omega), l7Report_b _ _ _ _ _ _ _ _ o2 o5, Option.bind_some, if_pos (by omega), wrap_succ i (by omega)]
    rw [l7Copy_l0 l hn ho d (i + 1) _ (by omega) (by rw [List.length_append, List.length_singleton]; omega), List.append_assoc, dropReport l i (by omega)]
    rfl
theorem l7Copy_b (l : List S29) (hn : l.length ≤ 1048576) (ho : OKB l) : spec_l7Copy.F l = some l := by
  rw [spec_l7Copy.F_eq]
  have := l7Copy_l0 l hn ho l.length 0 [] (by omega) (by simp)
  rw [List.drop_zero, List.nil_append] at this
  exact this
theorem OKB_put {l : List S29} (ho : OKB l) (x : S29) (h2 : x.f2.length ≤ 1048576) (h5 : x.f5.length ≤ 1048576) (q m : Nat) : OKB (l.take q ++ [x] ++ l.drop m) := fun z hz => by
  rcases List.mem_append.1 hz with h1 | h1
  · rcases List.mem_append.1 h1 with h3 | h3
    · exact ho z (List.mem_of_mem_take h3)
    · rw [List.mem_singleton.1 h3]
      exact ⟨h2, h5⟩
  · exact ho z (List.mem_of_mem_drop h1)
theorem len_put (l : List S29) (x : S29) (q m : Nat) : (l.take q ++ [x] ++ l.drop m).length ≤ l.length + l.length + 1 := by
  simp only [List.length_append, List.length_take, List.length_drop, List.length_singleton]
  omega
/-- What PutReport answers: the new row if it is one of reports, else the old one. -/
noncomputable def putOut (l o : List S29) : List S29 × Bool := if areReports o = true then (o, true) else (l, false)
theorem put_j1_b (l o : List S29) (hn : l.length ≤ 1048576) (ho : OKB l) (hon : o.length ≤ 4194304) (hob : OKB o) : impl_PutReport.J1 l o = some (putOut l o) := by
  rw [impl_PutReport.J1_eq, impl_AreReports_is o hon hob, Option.bind_some, putOut]
  by_cases h : areReports o = true
  · rw [if_pos h, if_pos h]
  · rw [if_neg h, if_neg h, cloneReports_b l hn ho, Option.bind_some]
theorem put_l0_b (l : List S29) (hn : l.length ≤ 1048576) (r0 r1 : Int) (rc : List Int) (r3 r4 : Int) (rp : List Int) (r6 r7 : Int) (hc : rc.length ≤ 1048576) (hp : rp.length ≤ 1048576) : ∀ (d i : Nat), i + d = l.length → impl_PutReport.L0 l l (i : Int) r0 r1 rc r3 r4 rp r6 r7 = impl_PutReport.J1 l (l.take (i + leadR r0 (l.drop i)) ++ [(⟨r0, r1, rc, r3, r4, rp, ⟨r6, r7⟩⟩ : S29)] ++ l.drop (i + leadR r0 (l.drop i)))
  | 0, i, h => by
    have hz : leadR r0 (l.drop i) = 0 := by
      rw [List.drop_of_length_le (by omega)]
      rfl
    rw [hz, Nat.add_zero, impl_PutReport.L0_eq, if_neg (by omega), cloneReport_b r0 r1 rc r3 r4 rp r6 r7 hc hp, Option.bind_some, if_pos ⟨by omega, by omega, by omega⟩, Int.toNat_natCast]
  | d + 1, i, h => by
    have hd := dropReport l i (by omega)
    by_cases c : (rd_T29 l (i : Int)).f0 < r0
    · have hz : leadR r0 (l.drop i) = leadR r0 (l.drop (i + 1)) + 1 := by rw [hd, leadR, if_pos c]
      rw [hz, impl_PutReport.L0_eq, if_pos (by omega), if_pos (by omega), if_pos c, wrap_succ i (by omega), put_l0_b l hn r0 r1 rc r3 r4 rp r6 r7 hc hp d (i + 1) (by omega), show i + (leadR r0 (l.drop (i + 1)) + 1) = i + 1 + leadR r0 (l.drop (i + 1)) by omega]
    · have hz : leadR r0 (l.drop i) = 0 := by rw [hd, leadR, if_neg c]
      rw [hz, Nat.add_zero, impl_PutReport.L0_eq, if_pos (by omega), if_pos (by omega), if_neg c, cloneReport_b r0 r1 rc r3 r4 rp r6 r7 hc hp, Option.bind_some, if_pos ⟨by omega, by omega, by omega⟩, Int.toNat_natCast]
theorem impl_put_b (l : List S29) (hn : l.length ≤ 1048576) (ho : OKB l) (r0 r1 : Int) (rc : List Int) (r3 r4 : Int) (rp : List Int) (r6 r7 : Int) (hc : rc.length ≤ 1048576) (hp : rp.length ≤ 1048576) : impl_PutReport.F l r0 r1 rc r3 r4 rp r6 r7 = some (putOut l (putI l (⟨r0, r1, rc, r3, r4, rp, ⟨r6, r7⟩⟩ : S29))) := by
  rw [impl_PutReport.F_eq, cloneReports_b l hn ho, Option.bind_some, impl_FindReport.f, Option.bind_some]
  rcases idxFReport_at (fun y => y.f0 == r0) l with ⟨h, _⟩ | ⟨j, hj, h, _⟩
  · have hI : putI l (⟨r0, r1, rc, r3, r4, rp, ⟨r6, r7⟩⟩ : S29) = l.take (leadR r0 l) ++ [(⟨r0, r1, rc, r3, r4, rp, ⟨r6, r7⟩⟩ : S29)] ++ l.drop (leadR r0 l) := by
      unfold putI
      dsimp only
      rw [h, if_neg (by decide)]
    have e := put_l0_b l hn r0 r1 rc r3 r4 rp r6 r7 hc hp l.length 0 (by omega)
    rw [List.drop_zero, Nat.zero_add] at e
    have hl := len_put l (⟨r0, r1, rc, r3, r4, rp, ⟨r6, r7⟩⟩ : S29) (leadR r0 l) (leadR r0 l)
    rw [h, if_neg (by decide), hI]
    exact e.trans (put_j1_b l _ hn ho (by omega) (OKB_put ho _ hc hp _ _))
  · have hI : putI l (⟨r0, r1, rc, r3, r4, rp, ⟨r6, r7⟩⟩ : S29) = l.set j (⟨r0, r1, rc, r3, r4, rp, ⟨r6, r7⟩⟩ : S29) := by
      unfold putI
      dsimp only
      rw [h, if_pos (by omega), Int.toNat_natCast]
    have hob : OKB (l.set j (⟨r0, r1, rc, r3, r4, rp, ⟨r6, r7⟩⟩ : S29)) := fun z hz => by
      rcases List.mem_or_eq_of_mem_set hz with e | e
      · exact ho z e
      · rw [e]
        exact ⟨hc, hp⟩
    rw [h, if_pos (by omega), cloneReport_b r0 r1 rc r3 r4 rp r6 r7 hc hp, Option.bind_some, if_pos (by omega), if_pos (by omega), Int.toNat_natCast, hI]
    exact put_j1_b l _ hn ho (by rw [List.length_set]; omega) hob
theorem spec_j3_b (l : List S29) (hn : l.length ≤ 1048576) (ho : OKB l) (q m : Nat) (hq : q ≤ l.length) (r0 r1 : Int) (rc : List Int) (r3 r4 : Int) (rp : List Int) (r6 r7 : Int) (hc : rc.length ≤ 1048576) (hp : rp.length ≤ 1048576) : spec_PutReport.J3 l (q : Int) (l.drop m) r0 r1 rc r3 r4 rp r6 r7 = some (putOut l (l.take q ++ [(⟨r0, r1, rc, r3, r4, rp, ⟨r6, r7⟩⟩ : S29)] ++ l.drop m)) := by
  have h1 : (l.take q).length ≤ 1048576 := by rw [List.length_take]; omega
  have h2 : (l.drop m).length ≤ 1048576 := by rw [List.length_drop]; omega
  have h3 := len_put l (⟨r0, r1, rc, r3, r4, rp, ⟨r6, r7⟩⟩ : S29) q m
  have h4 : (l.take q ++ [(⟨r0, r1, rc, r3, r4, rp, ⟨r6, r7⟩⟩ : S29)]).length ≤ 1048577 := by rw [List.length_append, List.length_singleton]; omega
  rw [spec_PutReport.J3_eq, if_pos (by omega), if_pos (by omega), Int.toNat_natCast, l7Copy_b (l.take q) h1 (fun z hz => ho z (List.mem_of_mem_take hz)), Option.bind_some, l7Report_b r0 r1 rc r3 r4 rp r6 r7 hc hp, Option.bind_some]
  dsimp only
  rw [if_pos (by omega), Option.bind_some, l7Copy_b (l.drop m) h2 (fun z hz => ho z (List.mem_of_mem_drop hz)), Option.bind_some, if_pos (by omega), Option.bind_some, spec_AreReports_is _ (by omega) (OKB_put ho _ hc hp _ _), Option.bind_some, putOut]
  by_cases h : areReports (l.take q ++ [(⟨r0, r1, rc, r3, r4, rp, ⟨r6, r7⟩⟩ : S29)] ++ l.drop m) = true
  · rw [if_pos h, if_pos h]
  · rw [if_neg h, if_neg h, l7Copy_b l hn ho, Option.bind_some]
theorem spec_j1_b (l : List S29) (hn : l.length ≤ 1048576) (ho : OKB l) (q : Nat) (hq : q ≤ l.length) (r0 r1 : Int) (rc : List Int) (r3 r4 : Int) (rp : List Int) (r6 r7 : Int) (hc : rc.length ≤ 1048576) (hp : rp.length ≤ 1048576) : spec_PutReport.J1 l (q : Int) r0 r1 rc r3 r4 rp r6 r7 = some (putOut l (l.take q ++ [(⟨r0, r1, rc, r3, r4, rp, ⟨r6, r7⟩⟩ : S29)] ++ l.drop (if q < l.length ∧ (l.getD q z29).f0 = r0 then q + 1 else q))) := by
  have hlen : (l.drop q).length = l.length - q := List.length_drop
  rw [spec_PutReport.J1_eq, if_pos (by omega), if_pos (by omega), Option.bind_some, Int.toNat_natCast]
  by_cases hql : q < l.length
  · have hr : (rd_T29 (l.drop q) 0).f0 = (l.getD q z29).f0 := by
      rw [dropReport l q hql, ← rdReport_at]
      rfl
    rw [if_pos (by omega), if_pos (by omega), hr, spec_PutReport.J2_eq]
    by_cases e : (l.getD q z29).f0 = r0
    · rw [if_pos (beq_iff_eq.2 e), if_pos (by omega), if_pos ⟨hql, e⟩, List.drop_drop]
      exact spec_j3_b l hn ho q (q + 1) hq r0 r1 rc r3 r4 rp r6 r7 hc hp
    · rw [if_neg (fun h => e (beq_iff_eq.1 h)), if_neg (fun h => e h.2)]
      exact spec_j3_b l hn ho q q hq r0 r1 rc r3 r4 rp r6 r7 hc hp
  · rw [if_neg (by omega), spec_PutReport.J2_eq, if_neg (by decide), if_neg (fun h => hql h.1)]
    exact spec_j3_b l hn ho q q hq r0 r1 rc r3 r4 rp r6 r7 hc hp
theorem spec_put_l0 (l : List S29) (hn : l.length ≤ 1048576) (r0 r1 : Int) (rc : List Int) (r3 r4 : Int) (rp : List Int) (r6 r7 : Int) : ∀ (d i : Nat), i + d = l.length → spec_PutReport.L0 l (i : Int) r0 r1 rc r3 r4 rp r6 r7 = spec_PutReport.J1 l ((i + leadR r0 (l.drop i) : Nat) : Int) r0 r1 rc r3 r4 rp r6 r7
  | 0, i, h => by
    have hz : leadR r0 (l.drop i) = 0 := by
      rw [List.drop_of_length_le (by omega)]
      rfl
    rw [hz, Nat.add_zero, spec_PutReport.L0_eq, if_neg (by omega)]
  | d + 1, i, h => by
    have hd := dropReport l i (by omega)
    by_cases c : (rd_T29 l (i : Int)).f0 < r0
    · have hz : leadR r0 (l.drop i) = leadR r0 (l.drop (i + 1)) + 1 := by rw [hd, leadR, if_pos c]
      rw [hz, spec_PutReport.L0_eq, if_pos (by omega), if_pos (by omega), if_pos c, wrap_succ i (by omega), spec_put_l0 l hn r0 r1 rc r3 r4 rp r6 r7 d (i + 1) (by omega), show i + (leadR r0 (l.drop (i + 1)) + 1) = i + 1 + leadR r0 (l.drop (i + 1)) by omega]
    · have hz : leadR r0 (l.drop i) = 0 := by rw [hd, leadR, if_neg c]
      rw [hz, Nat.add_zero, spec_PutReport.L0_eq, if_pos (by omega), if_pos (by omega), if_neg c]
theorem spec_put_b (l : List S29) (hn : l.length ≤ 1048576) (ho : OKB l) (r0 r1 : Int) (rc : List Int) (r3 r4 : Int) (rp : List Int) (r6 r7 : Int) (hc : rc.length ≤ 1048576) (hp : rp.length ≤ 1048576) : spec_PutReport.F l r0 r1 rc r3 r4 rp r6 r7 = some (putOut l (putS l (⟨r0, r1, rc, r3, r4, rp, ⟨r6, r7⟩⟩ : S29))) := by
  have e := spec_put_l0 l hn r0 r1 rc r3 r4 rp r6 r7 l.length 0 (by omega)
  rw [List.drop_zero, Nat.zero_add] at e
  rw [spec_PutReport.F_eq]
  exact e.trans (spec_j1_b l hn ho _ (leadR_le r0 l) r0 r1 rc r3 r4 rp r6 r7 hc hp)
theorem put_same (l : List S29) (x : S29) : putOut l (putI l x) = putOut l (putS l x) := by
  rcases put_alike l x with h | ⟨h1, h2⟩
  · rw [h]
  · simp [putOut, h1, h2]
theorem mkLen_drop (l : List S29) (i : Nat) : mkLen (l.drop i) ≤ mkLen l := by
  have h := mkLen_app (l.take i) (l.drop i)
  rw [List.take_append_drop] at h
  have := mkLen_nn (l.take i)
  omega
theorem mkLen_put (l : List S29) (x : S29) : mkLen (putS l x) ≤ mkLen l + (6 + (x.f2.length : Int) + (x.f5.length : Int)) := by
  have h1 := mkLen_app (l.take (leadR x.f0 l)) (l.drop (leadR x.f0 l))
  rw [List.take_append_drop] at h1
  have h2 := mkLen_drop (l.drop (leadR x.f0 l)) 1
  rw [List.drop_drop] at h2
  have h3 : mkLen [x] = 6 + (x.f2.length : Int) + (x.f5.length : Int) := by
    rw [mkLen, mkLen]
    omega
  rw [putS, mkLen_app, mkLen_app, h3]
  split
  · omega
  · omega

theorem szReportS_x (l : List S44) (hm : l.length ≤ maxLen) (ho : ∀ y ∈ l, y.f2.length ≤ maxLen ∧ y.f5.length ≤ maxLen) : laws_szReportS.F l 1048576 = some (-1) ∨ (laws_szReportS.F l 1048576 = some (1048576 - (l.length : Int) - (szRep l : Int)) ∧ l.length + szRep l ≤ 1048576) := by
  simp only [maxLen] at hm
  rw [laws_szReportS.F_eq, wrap_in _ (by omega)]
  by_cases h : 1048576 - (l.length : Int) < 0
  · left
    rw [if_pos h]
  · rw [if_neg h]
    rcases szReportS_l0 l (by omega) ho l.length 0 (1048576 - (l.length : Int)) (by omega) (by omega) with e | ⟨e, h2⟩
    · exact .inl e
    · rw [List.drop_zero] at e h2
      exact .inr ⟨e, by omega⟩
theorem law_FnExactPutReport (l0 : List S44) (hm0 : l0.length ≤ maxLen) (hw0 : ∀ y ∈ l0, ok44 y) (x1 : S44) (hw1 : ok44 x1) : laws_FnExactPutReport.F l0 x1.f0 x1.f1 x1.f2 x1.f3 x1.f4 x1.f5 x1.f6.f0 x1.f6.f1 = some true := by
  obtain ⟨_, _, ⟨m0, _⟩, _, _, ⟨m2, _⟩, _⟩ := hw1
  rw [laws_FnExactPutReport.F_eq]
  have hb : ∀ y ∈ l0, y.f2.length ≤ maxLen ∧ y.f5.length ≤ maxLen := fun y hy => by
    obtain ⟨_, _, ⟨m0, _⟩, _, _, ⟨m2, _⟩, _⟩ := hw0 y hy
    exact ⟨m0, m2⟩
  rcases szReportS_x l0 hm0 hb with h | ⟨h, hl⟩
  · rw [h]; rfl
  · rw [h, Option.bind_some, if_neg (by omega)]
    rcases szReport_is x1.f0 x1.f1 x1.f2 x1.f3 x1.f4 x1.f5 x1.f6.f0 x1.f6.f1 (1048576 - (l0.length : Int) - (szRep l0 : Int)) (by omega) m0 m2 with h1 | ⟨h1, hl1⟩
    · rw [h1]; rfl
    · have hn : l0.length ≤ 1048576 := by omega
      have n2 : x1.f2.length ≤ 1048576 := by omega
      have n5 : x1.f5.length ≤ 1048576 := by omega
      have ho : ∀ y ∈ l0, y.f2.length ≤ 1048576 ∧ y.f5.length ≤ 1048576 := fun y hy => by
        have := szRep_mem l0 y hy
        omega
      have hob := okb_map l0 ho
      have hn' : (l0.map cvRep).length ≤ 1048576 := by rw [List.length_map]; exact hn
      have hS := spec_put_b (l0.map cvRep) hn' hob x1.f0 x1.f1 x1.f2 x1.f3 x1.f4 x1.f5 x1.f6.f0 x1.f6.f1 n2 n5
      have hI := impl_put_b (l0.map cvRep) hn' hob x1.f0 x1.f1 x1.f2 x1.f3 x1.f4 x1.f5 x1.f6.f0 x1.f6.f1 n2 n5
      rw [put_same] at hI
      have hT := toReportS l0 hn ho
      have hML := mkLen_map l0
      have hMP := mkLen_put (l0.map cvRep) (⟨x1.f0, x1.f1, x1.f2, x1.f3, x1.f4, x1.f5, ⟨x1.f6.f0, x1.f6.f1⟩⟩ : S29)
      have hM0 := mkLen_nn (l0.map cvRep)
      have hE := eqReportS (l0.map cvRep) (by omega) hob
      have hP : (putOut (l0.map cvRep) (putS (l0.map cvRep) (⟨x1.f0, x1.f1, x1.f2, x1.f3, x1.f4, x1.f5, ⟨x1.f6.f0, x1.f6.f1⟩⟩ : S29))).1.length ≤ 4194304 ∧ OKB (putOut (l0.map cvRep) (putS (l0.map cvRep) (⟨x1.f0, x1.f1, x1.f2, x1.f3, x1.f4, x1.f5, ⟨x1.f6.f0, x1.f6.f1⟩⟩ : S29))).1 ∧ mkLen (putOut (l0.map cvRep) (putS (l0.map cvRep) (⟨x1.f0, x1.f1, x1.f2, x1.f3, x1.f4, x1.f5, ⟨x1.f6.f0, x1.f6.f1⟩⟩ : S29))).1 ≤ mkLen (l0.map cvRep) + (6 + (x1.f2.length : Int) + (x1.f5.length : Int)) := by
        unfold putOut
        split
        · refine ⟨?_, ?_, hMP⟩
          · have := len_put (l0.map cvRep) (⟨x1.f0, x1.f1, x1.f2, x1.f3, x1.f4, x1.f5, ⟨x1.f6.f0, x1.f6.f1⟩⟩ : S29)
            refine Nat.le_trans (this _ _) (by omega)
          · exact OKB_put hob _ n2 n5 _ _
        · exact ⟨show (l0.map cvRep).length ≤ 4194304 by omega, hob, show mkLen (l0.map cvRep) ≤ _ by omega⟩
      generalize putOut (l0.map cvRep) (putS (l0.map cvRep) (⟨x1.f0, x1.f1, x1.f2, x1.f3, x1.f4, x1.f5, ⟨x1.f6.f0, x1.f6.f1⟩⟩ : S29)) = Z at hS hI hP
      obtain ⟨hZ1, hZ2, hZ3⟩ := hP
      have hZ0 := mkLen_nn Z.1
      have hEZ := eqReportS Z.1 hZ1 hZ2
      have hMK : laws_markReportS.f (l0.map cvRep) 1 = some (1 + mkLen (l0.map cvRep)) := by rw [laws_markReportS.f, if_pos (by omega)]
      have hMZ : laws_markReportS.f Z.1 1 = some (1 + mkLen Z.1) := by rw [laws_markReportS.f, if_pos (by omega)]
      have hH := heldRS Z.1 (by omega) hZ2
      have hM1 := markIntS x1.f2 (1 + mkLen (l0.map cvRep)) (by omega) (by omega)
      have hM2 := markIntS x1.f5 (1 + mkLen (l0.map cvRep) + (x1.f2.length : Int)) (by omega) (by omega)
      rw [h1, Option.bind_some, if_neg (by omega), hT, Option.bind_some, toReport_is x1.f0 x1.f1 x1.f2 x1.f3 x1.f4 x1.f5 x1.f6.f0 x1.f6.f1 n2 n5, Option.bind_some]
      dsimp only
      rw [hS, Option.bind_some, hI, Option.bind_some, hEZ, Option.bind_some, hE, Option.bind_some, eqReport_is x1.f0 x1.f1 x1.f2 x1.f3 x1.f4 x1.f5 x1.f6.f0 x1.f6.f1 (by omega) (by omega), Option.bind_some, hMK, Option.bind_some, laws_markReport.F_eq, hM1, Option.bind_some]
      dsimp only
      rw [hM2, Option.bind_some, Option.bind_some, hMZ, Option.bind_some, hH, Option.bind_some]
      exact if_pos ⟨rfl, rfl, rfl, rfl, by dsimp only; omega, rfl, by omega⟩

theorem FnExactPutReport (l0 : List S44) (hm0 : l0.length ≤ maxLen) (hw0 : ∀ y ∈ l0, ok44 y) (x1 : S44) (hw1 : ok44 x1) : ∃ k, laws_FnExactPutReport.f k l0 x1.f0 x1.f1 x1.f2 x1.f3 x1.f4 x1.f5 x1.f6.f0 x1.f6.f1 = some true :=
  (laws_FnExactPutReport.F_co l0 x1.f0 x1.f1 x1.f2 x1.f3 x1.f4 x1.f5 x1.f6.f0 x1.f6.f1).rounds (law_FnExactPutReport l0 hm0 hw0 x1 hw1)
end Go.Proofs.Ytfolhmompclmbaa.PFnExactPutReport.Pure
