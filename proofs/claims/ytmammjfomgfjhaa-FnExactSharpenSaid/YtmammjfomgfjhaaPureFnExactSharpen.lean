/-
  The program's Sharpen answers as the reference's does, for all arguments. It has no conditions.
-/
import Derived.Test.YtmammjfomgfjhaaShFnExactSharpen
import Derived.Test.YtmammjfomgfjhaaEqFnExactSharpen
import Derived.Test.YtmammjfomgfjhaaBase
set_option linter.unusedVariables false
set_option linter.unusedSimpArgs false
namespace Go.Proofs.Ytmammjfomgfjhaa.PFnExactSharpen.Pure
open Go.RowKit Go.Proofs.YtmammjfomgfjhaaW.PrintWords Go.Proofs.YtmammjfomgfjhaaW.PrintLast Go.Proofs.YtmammjfomgfjhaaW.PrintMore Go.Proofs.Ytmammjfomgfjhaa.PFnExactSharpen Go.Proofs.Ytmammjfomgfjhaa.Lim Go.Proofs.Ytmammjfomgfjhaa.Base
set_option maxRecDepth 100000

def lineInt (k : Int) (n : Nat) : List Int := (List.range n).map (fun j : Nat => k + (j : Int))
theorem lineInt_len (k : Int) (n : Nat) : (lineInt k n).length = n := by simp [lineInt]
theorem markIntS_l0 (k : Int) (n : Nat) (hk : 0 ≤ k ∧ k ≤ 67108864) (hn : n ≤ 4194304) : ∀ (d i : Nat) (acc : List Int), i + d = n → acc.length = n → acc.take i = ((List.range n).take i).map (fun j : Nat => k + (j : Int)) → laws_markIntS.L0 acc (k + (i : Int)) (i : Int) = some (k + (n : Int), lineInt k n)
  | 0, i, acc, h, ha, ht => by
    rw [laws_markIntS.L0_eq, if_neg (by omega)]
    rw [List.take_of_length_le (by omega), List.take_of_length_le (by simp; omega)] at ht
    rw [ht, show i = n by omega]; rfl
  | d + 1, i, acc, h, ha, ht => by
    rw [laws_markIntS.L0_eq, if_pos (by omega), if_pos (by omega), wrap_succ i (by omega), wrap_in _ (by omega), Int.toNat_natCast, show k + (i : Int) + 1 = k + ((i + 1 : Nat) : Int) by omega]
    refine markIntS_l0 k n hk hn d (i + 1) _ (by omega) (by rw [List.length_set]; exact ha) ?_
    exact fill_step (List.range n) (fun j : Nat => k + (j : Int)) acc i (by simp [ha]) (by simp; omega) ht _ (by simp)
theorem markIntS (l : List Int) (k : Int) (hk : 0 ≤ k ∧ k ≤ 67108864) (hn : l.length ≤ 4194304) : laws_markIntS.F l k = some (k + (l.length : Int), lineInt k l.length) := by
  rw [laws_markIntS.F_eq]
  have := markIntS_l0 k l.length hk hn l.length 0 l (by omega) rfl (by simp)
  simpa using this

theorem heldIntS_l0 (k : Int) (n : Nat) (hk : 0 ≤ k ∧ k ≤ 67108864) (hn : n ≤ 4194304) : ∀ (d i : Nat), i + d = n → laws_heldIntS.L0 (lineInt k n) (k + (i : Int)) (i : Int) = some (k + (n : Int))
  | 0, i, h => by rw [laws_heldIntS.L0_eq, lineInt_len, if_neg (by omega), show i = n by omega]
  | d + 1, i, h => by
    have hr : rd (lineInt k n) (i : Int) = k + (i : Int) := by simp [rd, lineInt, show i < n by omega]
    rw [laws_heldIntS.L0_eq, lineInt_len, if_pos (by omega), if_pos (by omega), hr, if_pos rfl, wrap_succ i (by omega), wrap_in _ (by omega), show k + (i : Int) + 1 = k + ((i + 1 : Nat) : Int) by omega]
    exact heldIntS_l0 k n hk hn d (i + 1) (by omega)
theorem heldIntS (k : Int) (n : Nat) (hk : 0 ≤ k ∧ k ≤ 67108864) (hn : n ≤ 4194304) : laws_heldIntS.F (lineInt k n) k = some (k + (n : Int)) := by
  rw [laws_heldIntS.F_eq]
  have := heldIntS_l0 k n hk hn n 0 (by omega)
  simpa using this

theorem markReport_is (r0 r1 : Int) (rc : List Int) (r3 r4 : Int) (rp : List Int) (r6 r7 : Int) (hc : rc.length ≤ 4194304) (hp : rp.length ≤ 4194304) : laws_markReport.F r0 r1 rc r3 r4 rp r6 r7 1 = some (1 + (rc.length : Int) + (rp.length : Int), lineInt 1 rc.length, lineInt (1 + (rc.length : Int)) rp.length) := by
  rw [laws_markReport.F_eq, markIntS rc 1 (by omega) (by omega), Option.bind_some]
  dsimp only
  rw [markIntS rp _ (by omega) (by omega), Option.bind_some]
theorem heldReport_is (r0 r1 r3 r4 r6 r7 : Int) (n m : Nat) (hc : n ≤ 4194304) (hp : m ≤ 4194304) : laws_heldReport.F r0 r1 (lineInt 1 n) r3 r4 (lineInt (1 + (n : Int)) m) r6 r7 1 = some (1 + (n : Int) + (m : Int)) := by
  rw [laws_heldReport.F_eq, heldIntS 1 n (by omega) (by omega), Option.bind_some, if_neg (by omega), heldIntS _ m (by omega) (by omega), Option.bind_some, if_neg (by omega)]

theorem markReportK (r0 r1 : Int) (rc : List Int) (r3 r4 : Int) (rp : List Int) (r6 r7 : Int) (k : Int) (hk : 0 ≤ k ∧ k ≤ 16777216) (hc : rc.length ≤ 4194304) (hp : rp.length ≤ 4194304) : laws_markReport.F r0 r1 rc r3 r4 rp r6 r7 k = some (k + (rc.length : Int) + (rp.length : Int), lineInt k rc.length, lineInt (k + (rc.length : Int)) rp.length) := by
  rw [laws_markReport.F_eq, markIntS rc k (by omega) (by omega), Option.bind_some]
  dsimp only
  rw [markIntS rp _ (by omega) (by omega), Option.bind_some]

theorem szIntS (l : List Int) (a : Int) (ha : 0 ≤ a ∧ a ≤ 1048576) (hl : l.length ≤ maxLen) : laws_szIntS.f l a = some (if a < (l.length : Int) then -1 else a - (l.length : Int)) := by
  simp only [maxLen] at hl
  unfold laws_szIntS.f
  rw [wrap_in _ (by omega)]
  by_cases h : a < (l.length : Int)
  · rw [if_pos (by omega), if_pos h]
  · rw [if_neg (by omega), if_neg h]

theorem szReport_is (r0 r1 : Int) (rc : List Int) (r3 r4 : Int) (rp : List Int) (r6 r7 : Int) (a : Int) (ha : 0 ≤ a ∧ a ≤ 1048576) (hc : rc.length ≤ maxLen) (hp : rp.length ≤ maxLen) :
    laws_szReport.f r0 r1 rc r3 r4 rp r6 r7 a = some (-1) ∨ (laws_szReport.f r0 r1 rc r3 r4 rp r6 r7 a = some (a - (rc.length : Int) - (rp.length : Int)) ∧ (rc.length : Int) + (rp.length : Int) ≤ a) := by
  unfold laws_szReport.f
  rw [szIntS rc a ha hc, Option.bind_some]
  by_cases h1 : a < (rc.length : Int)
  · left
    rw [if_pos h1]; rfl
  · rw [if_neg h1, if_neg (by omega), szIntS rp _ (by omega) hp, Option.bind_some]
    by_cases h2 : a - (rc.length : Int) < (rp.length : Int)
    · left
      rw [if_pos h2]; rfl
    · right
      rw [if_neg h2, if_neg (by omega)]
      exact ⟨rfl, by omega⟩

theorem toIntS_l0 (l : List Int) (hn : l.length ≤ 1048576) : ∀ (d i : Nat) (acc : List Int), i + d = l.length → acc.length = l.length → acc.take i = (l.take i).map id → laws_toIntS.L0 l acc (i : Int) = some l
  | 0, i, acc, h, ha, ht => by
    rw [laws_toIntS.L0_eq, if_neg (by omega)]
    rw [List.take_of_length_le (by omega), List.take_of_length_le (by omega)] at ht
    rw [ht, List.map_id]
  | d + 1, i, acc, h, ha, ht => by
    have hi : i < l.length := by omega
    rw [laws_toIntS.L0_eq, if_pos (by omega), if_pos (by omega), if_pos (by omega), wrap_succ i (by omega)]
    refine toIntS_l0 l hn d (i + 1) _ (by omega) (by rw [List.length_set]; exact ha) ?_
    rw [Int.toNat_natCast]
    exact fill_step l id acc i ha hi ht _ (by simp [rd, hi])
theorem toIntS (l : List Int) (hn : l.length ≤ 1048576) : laws_toIntS.F l = some l := by
  rw [laws_toIntS.F_eq, if_pos (by omega), if_pos (by omega)]
  exact toIntS_l0 l hn l.length 0 _ (by omega) (by simp) (by simp)

theorem toReport_is (r0 r1 : Int) (rc : List Int) (r3 r4 : Int) (rp : List Int) (r6 r7 : Int) (hc : rc.length ≤ 1048576) (hp : rp.length ≤ 1048576) : laws_toReport.F r0 r1 rc r3 r4 rp r6 r7 = some (r0, r1, rc, r3, r4, rp, r6, r7) := by
  rw [laws_toReport.F_eq, toIntS _ hc, toIntS _ hp]
  rfl

theorem eqIntS_l0 (l : List Int) (hn : l.length ≤ 4194304) : ∀ (d i : Nat), i + d = l.length → laws_eqIntS.L0 l l (i : Int) = some true
  | 0, i, h => by rw [laws_eqIntS.L0_eq, if_neg (by omega)]
  | d + 1, i, h => by
    rw [laws_eqIntS.L0_eq, if_pos (by omega), if_pos (by omega), if_pos (by omega), if_pos rfl, wrap_succ i (by omega)]
    exact eqIntS_l0 l hn d (i + 1) (by omega)
theorem eqIntS (l : List Int) (hn : l.length ≤ 4194304) : laws_eqIntS.F l l = some true := by
  rw [laws_eqIntS.F_eq, if_pos rfl]
  exact eqIntS_l0 l hn l.length 0 (by omega)

theorem eqReport_is (r0 r1 : Int) (rc : List Int) (r3 r4 : Int) (rp : List Int) (r6 r7 : Int) (hc : rc.length ≤ 4194304) (hp : rp.length ≤ 4194304) : laws_eqReport.F r0 r1 rc r3 r4 rp r6 r7 r0 r1 rc r3 r4 rp r6 r7 = some true := by
  rw [laws_eqReport.F_eq]
  simp [eqIntS _ hc, eqIntS _ hp, laws_eqSpan.f]

def Asc (l : List Int) : Prop := l.Pairwise (fun x y => x < y)
theorem asc_ext : ∀ (a b : List Int), Asc a → Asc b → (∀ x, x ∈ a ↔ x ∈ b) → a = b
  | [], [], _, _, _ => rfl
  | [], y :: b, _, _, h => by have := (h y).2 (List.mem_cons_self ..); cases this
  | x :: a, [], _, _, h => by have := (h x).1 (List.mem_cons_self ..); cases this
  | x :: a, y :: b, ha, hb, h => by
    have ha' := List.pairwise_cons.1 ha
    have hb' := List.pairwise_cons.1 hb
    have e : x = y := by
      rcases List.mem_cons.1 ((h x).1 (List.mem_cons_self ..)) with h1 | h1
      · exact h1
      · rcases List.mem_cons.1 ((h y).2 (List.mem_cons_self ..)) with h2 | h2
        · exact h2.symm
        · have := hb'.1 x h1
          have := ha'.1 y h2
          omega
    subst e
    congr 1
    refine asc_ext a b ha'.2 hb'.2 (fun z => ⟨fun hz => ?_, fun hz => ?_⟩)
    · rcases List.mem_cons.1 ((h z).1 (List.mem_cons_of_mem _ hz)) with h1 | h1
      · have := ha'.1 z hz; omega
      · exact h1
    · rcases List.mem_cons.1 ((h z).2 (List.mem_cons_of_mem _ hz)) with h1 | h1
      · have := hb'.1 z hz; omega
      · exact h1
def putA : List Int → Int → List Int
  | [], n => [n]
  | x :: r, n => if x < n then x :: putA r n else if x = n then x :: r else n :: x :: r
theorem putA_mem (n z : Int) : ∀ l : List Int, z ∈ putA l n ↔ z = n ∨ z ∈ l
  | [] => by simp [putA]
  | x :: r => by
    simp only [putA]
    by_cases h1 : x < n
    · rw [if_pos h1, List.mem_cons, putA_mem n z r, List.mem_cons]
      exact ⟨fun h => by rcases h with h | h | h <;> simp [h], fun h => by rcases h with h | h | h <;> simp [h]⟩
    · rw [if_neg h1]
      by_cases h2 : x = n
      · rw [if_pos h2, List.mem_cons]
        refine ⟨fun h => .inr h, fun h => ?_⟩
        rcases h with h | h
        · exact .inl (by omega)
        · exact h
      · rw [if_neg h2, List.mem_cons]
theorem putA_asc (n : Int) : ∀ l : List Int, Asc l → Asc (putA l n)
  | [], _ => List.pairwise_singleton _ _
  | x :: r, h => by
    have h' := List.pairwise_cons.1 h
    simp only [putA]
    by_cases h1 : x < n
    · rw [if_pos h1]
      refine List.pairwise_cons.2 ⟨fun z hz => ?_, putA_asc n r h'.2⟩
      rcases (putA_mem n z r).1 hz with e | e
      · omega
      · exact h'.1 z e
    · rw [if_neg h1]
      by_cases h2 : x = n
      · rw [if_pos h2]; exact h
      · rw [if_neg h2]
        refine List.pairwise_cons.2 ⟨fun z hz => ?_, h⟩
        rcases List.mem_cons.1 hz with e | e
        · omega
        · have := h'.1 z e; omega
theorem putA_len (n : Int) : ∀ l : List Int, (putA l n).length ≤ l.length + 1
  | [] => by simp [putA]
  | x :: r => by
    simp only [putA]
    by_cases h1 : x < n
    · rw [if_pos h1, List.length_cons, List.length_cons]
      have := putA_len n r
      omega
    · rw [if_neg h1]
      split <;> simp

theorem rdInt_at (l : List Int) (i : Nat) : rd l (i : Int) = l.getD i 0 := by simp [rd]
theorem dropInt (l : List Int) (i : Nat) (h : i < l.length) : l.drop i = rd l (i : Int) :: l.drop (i + 1) := by
  rw [rdInt_at, getD_get l i _ h]
  exact List.drop_eq_getElem_cons h

def okAsc (a b : Int) (l : List Int) (i : Nat) : Prop := inR (rd l i) a b = true ∧ ((i : Int) > 0 → rd l ((i : Int) - 1) < rd l i)
noncomputable def isAsc (l : List Int) (a b : Int) : Bool := allF (okAsc a b l) l.length 0

def fltL (a b : List Int) : List Int := a.filter (fun n => decide (n ∈ b))
def bothL (a b : List Int) : List Int × Bool := if a.length = 0 then (b, true) else if b.length = 0 then (a, true) else (fltL a b, decide (((fltL a b).length : Int) > 0))
theorem fltL_len (a b : List Int) : (fltL a b).length ≤ a.length := List.length_filter_le _ _
theorem asc_less {l : List Int} {a b : Int} (h : isAsc l a b = true) (i : Nat) : ∀ j : Nat, i < j → j < l.length → rd l (i : Int) < rd l (j : Int)
  | 0, h1, _ => absurd h1 (Nat.not_lt_zero _)
  | j + 1, h1, h2 => by
    have h0 := h
    unfold isAsc at h0
    rw [allF_all] at h0
    have h3 := (h0 (j + 1) h2).2 (by omega)
    rw [show ((j + 1 : Nat) : Int) - 1 = (j : Int) by omega] at h3
    by_cases e : i = j
    · rw [e]; exact h3
    · have := asc_less h i j (by omega) (by omega)
      omega
theorem asc_of {l : List Int} {a b : Int} (h : isAsc l a b = true) : Asc l := by
  unfold Asc
  rw [List.pairwise_iff_getElem]
  intro i j hi hj hij
  have := asc_less h i j hij hj
  rw [rdInt_at, rdInt_at, getD_get l i _ hi, getD_get l j _ hj] at this
  exact this
theorem bothL_comm (a b : List Int) (ha : Asc a) (hb : Asc b) (h : ¬ a.length = 0) : bothL a b = bothL b a := by
  unfold bothL
  rw [if_neg h]
  by_cases h2 : b.length = 0
  · rw [if_pos h2, if_pos h2]
  · have e : fltL a b = fltL b a := asc_ext _ _ (List.Pairwise.filter _ ha) (List.Pairwise.filter _ hb) (fun x => by simp only [fltL, List.mem_filter, decide_eq_true_eq]; exact And.comm)
    rw [if_neg h2, if_neg h2, if_neg h, e]

noncomputable def isReport (r0 r1 : Int) (rc : List Int) (r3 r4 : Int) (rp : List Int) (r6 r7 : Int) : Bool := inR r0 1 999 && inR r1 1 8 && isAsc rc 0 7 && decide (1 ≤ r3) && decide (r3 ≤ r4) && decide (r4 ≤ 50) && isAsc rp 1 30 && decide ((rp.length : Int) ≤ 10) && (inR r6 0 100000 && inR r7 0 100000 && decide (r6 ≤ r7))
noncomputable def isFind (f0 f1 f2 f3 f4 f5 f6 f7 : Int) : Bool := (inR f0 1 999 && inR f1 1 8 && inR f2 0 7 && inR f3 1 50 && inR f4 0 10000000) && inR f5 1 30 && inR f6 0 100000 && inR f7 0 999

def maxI (a b : Int) : Int := if b > a then b else a
theorem spec_MaxI (a b : Int) : spec_Max.f a b = some (maxI a b) := by unfold spec_Max.f maxI; split <;> rfl
theorem mxI (a b : Int) : mx a b = maxI a b := by unfold mx maxI; first | rfl | (split <;> rfl)

def minI (a b : Int) : Int := if b < a then b else a
theorem spec_MinI (a b : Int) : spec_Min.f a b = some (minI a b) := by unfold spec_Min.f minI; split <;> rfl
theorem mnI (a b : Int) : mn a b = minI a b := by unfold mn minI; first | rfl | (split <;> rfl)

theorem asc_isS {l : List Int} {a b : Int} (h : Asc l) (hr : ∀ z ∈ l, inR z a b = true) : isAsc l a b = true := by
  unfold isAsc
  rw [allF_all]
  intro i hi
  have hp := List.pairwise_iff_getElem.1 h
  refine ⟨?_, fun h0 => ?_⟩
  · rw [rdInt_at, getD_get l i _ hi]
    exact hr _ (List.getElem_mem hi)
  · rw [show (i : Int) - 1 = ((i - 1 : Nat) : Int) by omega, rdInt_at, rdInt_at, getD_get l i _ hi, getD_get l (i - 1) _ (by omega)]
    exact hp (i - 1) i (by omega) hi (by omega)
theorem asc_rangeS {l : List Int} {a b : Int} (h : isAsc l a b = true) : ∀ z ∈ l, inR z a b = true := by
  intro z hz
  obtain ⟨q, hq, e⟩ := List.getElem_of_mem hz
  unfold isAsc at h
  rw [allF_all] at h
  have := (h q hq).1
  rw [rdInt_at, getD_get l q _ hq, e] at this
  exact this
theorem both_ascS {l m : List Int} {a b : Int} (hl : isAsc l a b = true) (hm : isAsc m a b = true) : isAsc (bothL l m).1 a b = true := by
  unfold bothL
  split
  · exact hm
  · split
    · exact hl
    · exact asc_isS (List.Pairwise.filter _ (asc_of hl)) (fun z hz => asc_rangeS hl z (List.mem_filter.1 hz).1)
theorem both_lenS {l m : List Int} {n : Nat} (hl : l.length ≤ n) (hm : m.length ≤ n) : (bothL l m).1.length ≤ n := by
  have := fltL_len l m
  unfold bothL
  split
  · exact hm
  · split
    · exact hl
    · exact Nat.le_trans this hl
theorem sharp_rep (r0 r1 : Int) (rc : List Int) (r3 r4 : Int) (rp : List Int) (r6 r7 : Int) (s0 s1 : Int) (sc : List Int) (s3 s4 : Int) (sp : List Int) (s6 s7 : Int) (ha : isReport r0 r1 rc r3 r4 rp r6 r7 = true) (hb : isReport s0 s1 sc s3 s4 sp s6 s7 = true) : isReport r0 r1 (bothL rc sc).1 (maxI r3 s3) (minI r4 s4) (bothL rp sp).1 (maxI r6 s6) (maxI (maxI r6 s6) (minI r7 s7)) = decide (maxI r3 s3 ≤ minI r4 s4) := by
  unfold isReport at *
  simp only [Bool.and_eq_true, decide_eq_true_eq, inR_iff] at ha hb
  obtain ⟨⟨⟨⟨⟨⟨⟨⟨a0, a1⟩, ac⟩, a3⟩, a34⟩, a4⟩, ap⟩, al⟩, ⟨⟨a6, a7⟩, a67⟩⟩ := ha
  obtain ⟨⟨⟨⟨⟨⟨⟨⟨b0, b1⟩, bc⟩, b3⟩, b34⟩, b4⟩, bp⟩, bl⟩, ⟨⟨b6, b7⟩, b67⟩⟩ := hb
  have e1 := both_ascS ac bc
  have e2 := both_ascS ap bp
  have e3 : (bothL rp sp).1.length ≤ 10 := both_lenS (by omega) (by omega)
  have h0 : inR r0 1 999 = true := inR_iff.2 a0
  have h1 : inR r1 1 8 = true := inR_iff.2 a1
  have h3 : decide (1 ≤ maxI r3 s3) = true := decide_eq_true (by unfold maxI; split <;> omega)
  have h4 : decide (minI r4 s4 ≤ 50) = true := decide_eq_true (by unfold minI; split <;> omega)
  have h5 : decide (((bothL rp sp).1.length : Int) ≤ 10) = true := decide_eq_true (by omega)
  have h6 : inR (maxI r6 s6) 0 100000 = true := inR_iff.2 (by unfold maxI; split <;> omega)
  have h7 : inR (maxI (maxI r6 s6) (minI r7 s7)) 0 100000 = true := inR_iff.2 (by unfold maxI minI; repeat' split <;> omega)
  have h8 : decide (maxI r6 s6 ≤ maxI (maxI r6 s6) (minI r7 s7)) = true := decide_eq_true (by generalize maxI r6 s6 = m; unfold maxI; split <;> omega)
  rw [h0, h1, e1, h3, h4, e2, h5, h6, h7, h8]
  simp
open Classical in
noncomputable def sharpR (r0 r1 : Int) (rc : List Int) (r3 r4 : Int) (rp : List Int) (r6 r7 : Int) (s0 s1 : Int) (sc : List Int) (s3 s4 : Int) (sp : List Int) (s6 s7 : Int) : Int × Int × List Int × Int × Int × List Int × Int × Int × Bool :=
  if isReport r0 r1 rc r3 r4 rp r6 r7 = true ∧ isReport s0 s1 sc s3 s4 sp s6 s7 = true ∧ r1 = s1 ∧ (bothL rc sc).2 = true ∧ (bothL rp sp).2 = true ∧ maxI r3 s3 ≤ minI r4 s4 then (r0, r1, (bothL rc sc).1, maxI r3 s3, minI r4 s4, (bothL rp sp).1, maxI r6 s6, maxI (maxI r6 s6) (minI r7 s7), true) else (0, 0, [], 0, 0, [], 0, 0, false)
theorem sharpR_len (r0 r1 : Int) (rc : List Int) (r3 r4 : Int) (rp : List Int) (r6 r7 : Int) (s0 s1 : Int) (sc : List Int) (s3 s4 : Int) (sp : List Int) (s6 s7 : Int) (n : Nat) (h1 : rc.length ≤ n) (h2 : rp.length ≤ n) (h3 : sc.length ≤ n) (h4 : sp.length ≤ n) : (sharpR r0 r1 rc r3 r4 rp r6 r7 s0 s1 sc s3 s4 sp s6 s7).2.2.1.length ≤ n ∧ (sharpR r0 r1 rc r3 r4 rp r6 r7 s0 s1 sc s3 s4 sp s6 s7).2.2.2.2.2.1.length ≤ n := by
  unfold sharpR
  split
  · exact ⟨both_lenS h1 h3, both_lenS h2 h4⟩
  · exact ⟨Nat.zero_le _, Nat.zero_le _⟩

theorem spec_l8Has_l0 (l : List Int) (n : Int) (hn : l.length ≤ 4194304) : ∀ (d i : Nat), i + d = l.length → spec_l8Has.L0 l n (i : Int) = some (decide (n ∈ l.drop i))
  | 0, i, h => by
    rw [spec_l8Has.L0_eq, if_neg (by omega), List.drop_of_length_le (by omega)]
    simp
  | d + 1, i, h => by
    rw [spec_l8Has.L0_eq, if_pos (by omega), if_pos (by omega), dropInt l i (by omega), wrap_succ i (by omega), spec_l8Has_l0 l n hn d (i + 1) (by omega)]
    by_cases c : rd l (i : Int) = n
    · rw [if_pos c]
      simp [c]
    · rw [if_neg c]
      have c' : ¬ n = rd l (i : Int) := fun e => c e.symm
      simp [c']
theorem spec_l8Has_is (l : List Int) (n : Int) (hn : l.length ≤ 4194304) : spec_l8Has.F l n = some (decide (n ∈ l)) := by
  rw [spec_l8Has.F_eq]
  exact spec_l8Has_l0 l n hn l.length 0 (by omega)

theorem spec_l9Both_l0 (a b : List Int) (ha : a.length ≤ 4194304) (hb : b.length ≤ 4194304) : ∀ (d i : Nat) (acc : List Int), i + d = a.length → acc.length ≤ i → spec_l9Both.L0 a b acc (i : Int) = some (acc ++ fltL (a.drop i) b, decide (((acc ++ fltL (a.drop i) b).length : Int) > 0))
  | 0, i, acc, h, hacc => by
    rw [spec_l9Both.L0_eq, if_neg (by omega), List.drop_of_length_le (by omega), fltL, List.filter_nil, List.append_nil]
  | d + 1, i, acc, h, hacc => by
    rw [spec_l9Both.L0_eq, if_pos (by omega), if_pos (by omega), spec_l8Has_is b _ hb, Option.bind_some, wrap_succ i (by omega), dropInt a i (by omega), fltL, List.filter_cons]
    by_cases c : rd a (i : Int) ∈ b
    · rw [decide_eq_true c, if_pos rfl, if_pos rfl, if_pos (by omega), spec_l9Both_l0 a b ha hb d (i + 1) _ (by omega) (by rw [List.length_append, List.length_singleton]; omega), List.append_assoc]
      rfl
    · rw [decide_eq_false c, if_neg (by decide), if_neg (by decide), spec_l9Both_l0 a b ha hb d (i + 1) _ (by omega) (by omega)]
      rfl
theorem spec_l9Both_is (a b : List Int) (ha : a.length ≤ 4194304) (hb : b.length ≤ 4194304) : spec_l9Both.F a b = some (bothL a b) := by
  rw [spec_l9Both.F_eq, bothL]
  by_cases h : a.length = 0
  · rw [if_pos (by omega), if_pos h, Option.bind_some, if_pos (by simp only [List.length_nil]; omega), List.nil_append]
  · rw [if_neg (by omega), if_neg h]
    by_cases h2 : b.length = 0
    · rw [if_pos (by omega), if_pos h2, Option.bind_some, if_pos (by simp only [List.length_nil]; omega), List.nil_append]
    · have := spec_l9Both_l0 a b ha hb a.length 0 [] (by omega) (by simp)
      rw [List.drop_zero, List.nil_append] at this
      rw [if_neg (by omega), if_neg h2]
      exact this

theorem l1In (a b c : Int) : spec_l1In.f a b c = some (inR a b c) := by
  unfold spec_l1In.f inR
  by_cases h : b ≤ a <;> simp [h]

theorem spec_l7Ids_l0 (l : List Int) (a b : Int) (hn : l.length ≤ 4194304) : ∀ (d i : Nat), i + d = l.length → spec_l7Ids.L0 l a b (i : Int) = some (allF (okAsc a b l) l.length i)
  | 0, i, h => by rw [spec_l7Ids.L0_eq, if_neg (by omega), allF_end (by omega)]
  | d + 1, i, h => by
    have hi : i < l.length := by omega
    have ih := spec_l7Ids_l0 l a b hn d (i + 1) (by omega)
    rw [spec_l7Ids.L0_eq]
    simp only [wrap_succ i (by omega), wrap_pred i (by omega), ih, l1In, Option.bind_some]
    by_cases hp_ : okAsc a b l i
    · rw [allF_yes hp_]
      simp only [okAsc] at hp_
      obtain ⟨h1_, h2_⟩ := hp_
      repeat' split
      all_goals first
        | rfl
        | (exfalso; first | contradiction | omega)
    · rw [allF_no hi hp_]
      repeat' split
      all_goals first
        | rfl
        | (simp; done)
        | (exfalso; first | contradiction | omega)
        | (exfalso; apply hp_; simp only [okAsc]; (repeat' constructor) <;> first | assumption | (intro _; omega) | omega)
theorem spec_l7Ids_is (l : List Int) (a b : Int) (hn : l.length ≤ 4194304) : spec_l7Ids.F l a b = some (isAsc l a b) := by
  rw [spec_l7Ids.F_eq]
  exact spec_l7Ids_l0 l a b hn l.length 0 (by omega)

theorem spec_IsSpan_is (a b : Int) : spec_IsSpan.f a b = some (inR a 0 100000 && inR b 0 100000 && decide (a ≤ b)) := by
  unfold spec_IsSpan.f
  simp only [l1In, Option.bind_some]
  cases inR a 0 100000 <;> cases inR b 0 100000 <;> simp

theorem spec_IsReport_is (r0 r1 : Int) (rc : List Int) (r3 r4 : Int) (rp : List Int) (r6 r7 : Int) (hc : rc.length ≤ 4194304) (hp : rp.length ≤ 4194304) : spec_IsReport.F r0 r1 rc r3 r4 rp r6 r7 = some (isReport r0 r1 rc r3 r4 rp r6 r7) := by
  rw [spec_IsReport.F_eq]
  simp only [l1In, spec_l7Ids_is rc 0 7 hc, spec_l7Ids_is rp 1 30 hp, spec_IsSpan_is, Option.bind_some, isReport]
  generalize (inR r6 0 100000 && inR r7 0 100000 && decide (r6 ≤ r7)) = s
  cases inR r0 1 999 <;> cases inR r1 1 8 <;> cases isAsc rc 0 7 <;> cases isAsc rp 1 30 <;> by_cases h1 : 1 ≤ r3 <;> by_cases h2 : r3 ≤ r4 <;> by_cases h3 : r4 ≤ 50 <;> by_cases h4 : (rp.length : Int) ≤ 10 <;> simp [h1, h2, h3, h4]

theorem spec_Sharpen_is (r0 r1 : Int) (rc : List Int) (r3 r4 : Int) (rp : List Int) (r6 r7 : Int) (s0 s1 : Int) (sc : List Int) (s3 s4 : Int) (sp : List Int) (s6 s7 : Int) (n1 : rc.length ≤ 4194304) (n2 : rp.length ≤ 4194304) (n3 : sc.length ≤ 4194304) (n4 : sp.length ≤ 4194304) : spec_Sharpen.F r0 r1 rc r3 r4 rp r6 r7 s0 s1 sc s3 s4 sp s6 s7 = some (sharpR r0 r1 rc r3 r4 rp r6 r7 s0 s1 sc s3 s4 sp s6 s7) := by
  have j1 := both_lenS n1 n3
  have j2 := both_lenS n2 n4
  rw [spec_Sharpen.F_eq, spec_l9Both_is rc sc n1 n3, Option.bind_some, spec_l9Both_is rp sp n2 n4, Option.bind_some, spec_IsReport_is r0 r1 rc r3 r4 rp r6 r7 n1 n2, Option.bind_some]
  unfold sharpR
  by_cases h1 : isReport r0 r1 rc r3 r4 rp r6 r7 = true
  · rw [if_pos h1, spec_IsReport_is s0 s1 sc s3 s4 sp s6 s7 n3 n4, Option.bind_some]
    by_cases h2 : isReport s0 s1 sc s3 s4 sp s6 s7 = true
    · rw [if_pos h2]
      by_cases h3 : r1 = s1
      · rw [if_pos h3]
        by_cases h4 : (bothL rc sc).2 = true
        · rw [if_pos h4, spec_Sharpen.J0_eq]
          by_cases h5 : (bothL rp sp).2 = true
          · rw [h5, if_neg (by decide), spec_MaxI, Option.bind_some, spec_MaxI, Option.bind_some, spec_MinI, Option.bind_some, spec_MinI, Option.bind_some, spec_MaxI, Option.bind_some, spec_IsReport_is _ _ _ _ _ _ _ _ j1 j2, Option.bind_some, sharp_rep r0 r1 rc r3 r4 rp r6 r7 s0 s1 sc s3 s4 sp s6 s7 h1 h2]
            by_cases h6 : maxI r3 s3 ≤ minI r4 s4
            · rw [if_pos (decide_eq_true h6), if_pos ⟨h1, h2, h3, h4, rfl, h6⟩]
            · rw [if_neg (by rw [decide_eq_false h6]; decide), if_neg (fun hh => h6 hh.2.2.2.2.2)]
          · rw [if_pos (by rw [Bool.eq_false_iff.2 h5]; rfl), if_neg (fun hh => h5 hh.2.2.2.2.1)]
        · rw [if_neg h4, spec_Sharpen.J0_eq, if_pos rfl, if_neg (fun hh => h4 hh.2.2.2.1)]
      · rw [if_neg h3, spec_Sharpen.J0_eq, if_pos rfl, if_neg (fun hh => h3 hh.2.2.1)]
    · rw [if_neg h2, spec_Sharpen.J0_eq, if_pos rfl, if_neg (fun hh => h2 hh.2.1)]
  · rw [if_neg h1, spec_Sharpen.J0_eq, if_pos rfl, if_neg (fun hh => h1 hh.1)]

def allow (l : List Int) (n : Int) : Bool := decide (l.length = 0) || decide (n ∈ l)

theorem slices_Index_l0 (l : List Int) (n : Int) (hn : l.length ≤ 4194304) : ∀ (d i : Nat), i + d = l.length → ∃ r, slices_Index_int_int.L0 l n (l.length : Int) (i : Int) = some r ∧ (0 ≤ r ↔ n ∈ l.drop i)
  | 0, i, h => by
    refine ⟨-1, by rw [slices_Index_int_int.L0_eq, if_neg (by omega)], ?_⟩
    rw [List.drop_of_length_le (by omega)]
    simp
  | d + 1, i, h => by
    rw [slices_Index_int_int.L0_eq, if_pos (by omega), if_pos (by omega), if_pos (by omega), dropInt l i (by omega), wrap_succ i (by omega)]
    by_cases c : n = rd l (i : Int)
    · rw [if_pos c]
      exact ⟨_, rfl, ⟨fun _ => by rw [← c]; exact List.mem_cons_self, fun _ => by omega⟩⟩
    · rw [if_neg c]
      obtain ⟨r, hr, hi⟩ := slices_Index_l0 l n hn d (i + 1) (by omega)
      refine ⟨r, hr, hi.trans ⟨fun hm => List.mem_cons_of_mem _ hm, fun hm => ?_⟩⟩
      rcases List.mem_cons.1 hm with he | he
      · exact absurd he c
      · exact he
theorem slices_Contains_is (l : List Int) (n : Int) (hn : l.length ≤ 4194304) : slices_Contains_int_int.F l n = some (decide (n ∈ l)) := by
  obtain ⟨r, hr, hi⟩ := slices_Index_l0 l n hn l.length 0 (by omega)
  rw [slices_Contains_int_int.F_eq, slices_Index_int_int.F_eq]
  have hr' : slices_Index_int_int.L0 l n (l.length : Int) 0 = some r := hr
  rw [hr', Option.bind_some]
  congr 1
  rw [Bool.eq_iff_iff, decide_eq_true_iff, decide_eq_true_iff]
  exact hi

theorem cloneIntK (l : List Int) (hl : l.length ≤ 4194304) : slices_Clone_int_int.f l = some l := by
  unfold slices_Clone_int_int.f
  rw [Option.bind_some, if_pos (by simp only [List.length_nil]; omega), List.nil_append]
theorem impl_both_l0 (a b : List Int) (ha : a.length ≤ 4194304) (hb : b.length ≤ 4194304) : ∀ (d i : Nat) (acc : List Int), i + d = a.length → acc.length ≤ i → impl_both.L0 b acc a (a.length : Int) (i : Int) = some (acc ++ fltL (a.drop i) b, decide (((acc ++ fltL (a.drop i) b).length : Int) > 0))
  | 0, i, acc, h, hacc => by
    rw [impl_both.L0_eq, if_neg (by omega), List.drop_of_length_le (by omega), fltL, List.filter_nil, List.append_nil]
  | d + 1, i, acc, h, hacc => by
    rw [impl_both.L0_eq, if_pos (by omega), if_pos (by omega), if_pos (by omega), slices_Contains_is b _ hb, Option.bind_some, wrap_succ i (by omega), dropInt a i (by omega), fltL, List.filter_cons]
    by_cases c : rd a (i : Int) ∈ b
    · rw [decide_eq_true c, if_pos rfl, if_pos rfl, if_pos (by omega), impl_both_l0 a b ha hb d (i + 1) _ (by omega) (by rw [List.length_append, List.length_singleton]; omega), List.append_assoc]
      rfl
    · rw [decide_eq_false c, if_neg (by decide), if_neg (by decide), impl_both_l0 a b ha hb d (i + 1) _ (by omega) (by omega)]
      rfl
theorem impl_both_is (a b : List Int) (ha : a.length ≤ 4194304) (hb : b.length ≤ 4194304) : impl_both.F a b = some (bothL a b) := by
  rw [impl_both.F_eq, bothL]
  by_cases h : a.length = 0
  · rw [if_pos (by omega), if_pos h, cloneIntK b hb, Option.bind_some]
  · rw [if_neg (by omega), if_neg h]
    by_cases h2 : b.length = 0
    · rw [if_pos (by omega), if_pos h2, cloneIntK a ha, Option.bind_some]
    · have := impl_both_l0 a b ha hb a.length 0 [] (by omega) (by simp)
      rw [List.drop_zero, List.nil_append] at this
      rw [if_neg (by omega), if_neg h2]
      exact this

theorem inRange (a b c : Int) : impl_InRange.f a b c = some (inR a b c) := by
  unfold impl_InRange.f inR
  by_cases h : b ≤ a <;> simp [h]

theorem impl_isAscending_l0 (l : List Int) (a b : Int) (hn : l.length ≤ 4194304) : ∀ (d i : Nat), i + d = l.length → impl_isAscending.L0 l a b l (l.length : Int) (i : Int) = some (allF (okAsc a b l) l.length i)
  | 0, i, h => by rw [impl_isAscending.L0_eq, if_neg (by omega), allF_end (by omega)]
  | d + 1, i, h => by
    have hi : i < l.length := by omega
    have ih := impl_isAscending_l0 l a b hn d (i + 1) (by omega)
    rw [impl_isAscending.L0_eq]
    simp only [wrap_succ i (by omega), wrap_pred i (by omega), ih, inRange, Option.bind_some]
    by_cases hp_ : okAsc a b l i
    · rw [allF_yes hp_]
      simp only [okAsc] at hp_
      obtain ⟨h1_, h2_⟩ := hp_
      repeat' split
      all_goals first
        | rfl
        | (exfalso; first | contradiction | omega)
    · rw [allF_no hi hp_]
      repeat' split
      all_goals first
        | rfl
        | (simp; done)
        | (exfalso; first | contradiction | omega)
        | (exfalso; apply hp_; simp only [okAsc]; (repeat' constructor) <;> first | assumption | (intro _; omega) | omega)
theorem impl_isAscending_is (l : List Int) (a b : Int) (hn : l.length ≤ 4194304) : impl_isAscending.F l a b = some (isAsc l a b) := by
  rw [impl_isAscending.F_eq]
  exact impl_isAscending_l0 l a b hn l.length 0 (by omega)

theorem impl_IsSpan_is (a b : Int) : impl_IsSpan.f a b = some (inR a 0 100000 && inR b 0 100000 && decide (a ≤ b)) := by
  unfold impl_IsSpan.f
  simp only [inRange, Option.bind_some]
  cases inR a 0 100000 <;> cases inR b 0 100000 <;> simp

theorem impl_IsReport_is (r0 r1 : Int) (rc : List Int) (r3 r4 : Int) (rp : List Int) (r6 r7 : Int) (hc : rc.length ≤ 4194304) (hp : rp.length ≤ 4194304) : impl_IsReport.F r0 r1 rc r3 r4 rp r6 r7 = some (isReport r0 r1 rc r3 r4 rp r6 r7) := by
  rw [impl_IsReport.F_eq]
  simp only [inRange, impl_isAscending_is rc 0 7 hc, impl_isAscending_is rp 1 30 hp, impl_IsSpan_is, Option.bind_some, isReport]
  generalize (inR r6 0 100000 && inR r7 0 100000 && decide (r6 ≤ r7)) = s
  cases inR r0 1 999 <;> cases inR r1 1 8 <;> cases isAsc rc 0 7 <;> cases isAsc rp 1 30 <;> by_cases h1 : 1 ≤ r3 <;> by_cases h2 : r3 ≤ r4 <;> by_cases h3 : r4 ≤ 50 <;> by_cases h4 : (rp.length : Int) ≤ 10 <;> simp [h1, h2, h3, h4]

theorem impl_Sharpen_is (r0 r1 : Int) (rc : List Int) (r3 r4 : Int) (rp : List Int) (r6 r7 : Int) (s0 s1 : Int) (sc : List Int) (s3 s4 : Int) (sp : List Int) (s6 s7 : Int) (n1 : rc.length ≤ 4194304) (n2 : rp.length ≤ 4194304) (n3 : sc.length ≤ 4194304) (n4 : sp.length ≤ 4194304) : impl_Sharpen.F r0 r1 rc r3 r4 rp r6 r7 s0 s1 sc s3 s4 sp s6 s7 = some (sharpR r0 r1 rc r3 r4 rp r6 r7 s0 s1 sc s3 s4 sp s6 s7) := by
  rw [impl_Sharpen.F_eq, impl_IsReport_is r0 r1 rc r3 r4 rp r6 r7 n1 n2, Option.bind_some]
  unfold sharpR
  by_cases h1 : isReport r0 r1 rc r3 r4 rp r6 r7 = true
  · rw [if_pos h1, impl_IsReport_is s0 s1 sc s3 s4 sp s6 s7 n3 n4, Option.bind_some]
    by_cases h2 : isReport s0 s1 sc s3 s4 sp s6 s7 = true
    · rw [if_pos h2, impl_Sharpen.J0_eq]
      by_cases h3 : r1 = s1
      · rw [if_neg (by rw [h3, bne_self_eq_false]; decide), impl_both_is rc sc n1 n3, Option.bind_some, impl_both_is rp sp n2 n4, Option.bind_some]
        by_cases h4 : (bothL rc sc).2 = true
        · rw [if_pos h4]
          by_cases h5 : (bothL rp sp).2 = true
          · rw [if_pos h5]
            simp only [mxI, mnI]
            by_cases h6 : maxI r3 s3 ≤ minI r4 s4
            · rw [if_neg (by omega), if_pos ⟨h1, h2, h3, h4, h5, h6⟩]
            · rw [if_pos (by omega), if_neg (fun hh => h6 hh.2.2.2.2.2)]
          · rw [if_neg h5, if_neg (fun hh => h5 hh.2.2.2.2.1)]
        · rw [if_neg h4, if_neg (fun hh => h4 hh.2.2.2.1)]
      · rw [if_pos (bne_iff_ne.2 h3), if_neg (fun hh => h3 hh.2.2.1)]
    · rw [if_neg h2, impl_Sharpen.J0_eq, if_pos rfl, if_neg (fun hh => h2 hh.2.1)]
  · rw [if_neg h1, impl_Sharpen.J0_eq, if_pos rfl, if_neg (fun hh => h1 hh.1)]

theorem law_FnExactSharpen (x0 : S26) (hw0 : ok26 x0) (x1 : S26) (hw1 : ok26 x1) : laws_FnExactSharpen.F x0.f0 x0.f1 x0.f2 x0.f3 x0.f4 x0.f5 x0.f6.f0 x0.f6.f1 x1.f0 x1.f1 x1.f2 x1.f3 x1.f4 x1.f5 x1.f6.f0 x1.f6.f1 = some true := by
  obtain ⟨_, _, ⟨m0, _⟩, _, _, ⟨m2, _⟩, _⟩ := hw0
  obtain ⟨_, _, ⟨m3, _⟩, _, _, ⟨m4, _⟩, _⟩ := hw1
  rw [laws_FnExactSharpen.F_eq]
  rcases szReport_is x0.f0 x0.f1 x0.f2 x0.f3 x0.f4 x0.f5 x0.f6.f0 x0.f6.f1 1048576 (by omega) m0 m2 with h | ⟨h, hl⟩
  · rw [h]; rfl
  · rw [h, Option.bind_some, if_neg (by omega)]
    rcases szReport_is x1.f0 x1.f1 x1.f2 x1.f3 x1.f4 x1.f5 x1.f6.f0 x1.f6.f1 (1048576 - (x0.f2.length : Int) - (x0.f5.length : Int)) (by omega) m3 m4 with h' | ⟨h', hl'⟩
    · rw [h', Option.bind_some, if_pos (by omega)]
    · rw [h', Option.bind_some, if_neg (by omega)]
      have n1 : x0.f2.length ≤ 1048576 := by omega
      have n2 : x0.f5.length ≤ 1048576 := by omega
      have n3 : x1.f2.length ≤ 1048576 := by omega
      have n4 : x1.f5.length ≤ 1048576 := by omega
      have hT0 := toReport_is x0.f0 x0.f1 x0.f2 x0.f3 x0.f4 x0.f5 x0.f6.f0 x0.f6.f1 n1 n2
      have hT1 := toReport_is x1.f0 x1.f1 x1.f2 x1.f3 x1.f4 x1.f5 x1.f6.f0 x1.f6.f1 n3 n4
      have hS := spec_Sharpen_is x0.f0 x0.f1 x0.f2 x0.f3 x0.f4 x0.f5 x0.f6.f0 x0.f6.f1 x1.f0 x1.f1 x1.f2 x1.f3 x1.f4 x1.f5 x1.f6.f0 x1.f6.f1 (by omega) (by omega) (by omega) (by omega)
      have hI := impl_Sharpen_is x0.f0 x0.f1 x0.f2 x0.f3 x0.f4 x0.f5 x0.f6.f0 x0.f6.f1 x1.f0 x1.f1 x1.f2 x1.f3 x1.f4 x1.f5 x1.f6.f0 x1.f6.f1 (by omega) (by omega) (by omega) (by omega)
      have hL := sharpR_len x0.f0 x0.f1 x0.f2 x0.f3 x0.f4 x0.f5 x0.f6.f0 x0.f6.f1 x1.f0 x1.f1 x1.f2 x1.f3 x1.f4 x1.f5 x1.f6.f0 x1.f6.f1 1048576 n1 n2 n3 n4
      generalize sharpR x0.f0 x0.f1 x0.f2 x0.f3 x0.f4 x0.f5 x0.f6.f0 x0.f6.f1 x1.f0 x1.f1 x1.f2 x1.f3 x1.f4 x1.f5 x1.f6.f0 x1.f6.f1 = A at hS hI hL
      obtain ⟨R0, R1, C, R3, R4, P, R6, R7, ok⟩ := A
      have hC : C.length ≤ 4194304 := by have := hL.1; simp only [] at this; omega
      have hP : P.length ≤ 4194304 := by have := hL.2; simp only [] at this; omega
      have hE := eqReport_is R0 R1 C R3 R4 P R6 R7 hC hP
      have hH := heldReport_is R0 R1 R3 R4 R6 R7 C.length P.length hC hP
      have hJ2 : laws_FnExactSharpen.J2 (1 + (C.length : Int) + (P.length : Int)) false R0 R1 (lineInt 1 C.length) R3 R4 (lineInt (1 + (C.length : Int)) P.length) R6 R7 = some true := by
        rw [laws_FnExactSharpen.J2_eq, if_neg (by decide), hH, Option.bind_some, if_neg (by omega), if_pos rfl]
      have hJ1 : laws_FnExactSharpen.J1 ok false x0.f0 x0.f1 x0.f2 x0.f3 x0.f4 x0.f5 x0.f6.f0 x0.f6.f1 x1.f0 x1.f1 x1.f2 x1.f3 x1.f4 x1.f5 x1.f6.f0 x1.f6.f1 R0 R1 C R3 R4 P R6 R7 R0 R1 C R3 R4 P R6 R7 = some true := by
        rw [laws_FnExactSharpen.J1_eq, if_neg (by decide), markReport_is R0 R1 C R3 R4 P R6 R7 hC hP, Option.bind_some]
        dsimp only
        rw [hH, Option.bind_some, if_neg (by omega), if_pos rfl, hT0, Option.bind_some, hT1, Option.bind_some]
        dsimp only
        rw [hI, Option.bind_some]
        dsimp only
        rw [hE, Option.bind_some, if_pos rfl, bne_self_eq_false]
        exact hJ2
      rw [hT0, Option.bind_some, hT1, Option.bind_some]
      dsimp only
      rw [hS, Option.bind_some, Option.bind_some, Option.bind_some]
      dsimp only
      rw [hI, Option.bind_some]
      dsimp only
      rw [hE, Option.bind_some, if_pos rfl, bne_self_eq_false, laws_FnExactSharpen.J0_eq, if_neg (by decide), hT0, Option.bind_some]
      dsimp only
      rw [eqReport_is x0.f0 x0.f1 x0.f2 x0.f3 x0.f4 x0.f5 x0.f6.f0 x0.f6.f1 (by omega) (by omega), Option.bind_some, if_pos rfl, hT1, Option.bind_some]
      dsimp only
      rw [eqReport_is x1.f0 x1.f1 x1.f2 x1.f3 x1.f4 x1.f5 x1.f6.f0 x1.f6.f1 (by omega) (by omega), Option.bind_some, if_pos rfl, markReportK x0.f0 x0.f1 x0.f2 x0.f3 x0.f4 x0.f5 x0.f6.f0 x0.f6.f1 1 (by omega) (by omega) (by omega), Option.bind_some]
      dsimp only
      rw [markReportK x1.f0 x1.f1 x1.f2 x1.f3 x1.f4 x1.f5 x1.f6.f0 x1.f6.f1 _ (by omega) (by omega) (by omega), Option.bind_some]
      dsimp only
      rw [if_neg (by omega), hE, Option.bind_some, if_pos rfl, bne_self_eq_false]
      exact hJ1

theorem FnExactSharpen (x0 : S26) (hw0 : ok26 x0) (x1 : S26) (hw1 : ok26 x1) : ∃ k, laws_FnExactSharpen.f k x0.f0 x0.f1 x0.f2 x0.f3 x0.f4 x0.f5 x0.f6.f0 x0.f6.f1 x1.f0 x1.f1 x1.f2 x1.f3 x1.f4 x1.f5 x1.f6.f0 x1.f6.f1 = some true :=
  (laws_FnExactSharpen.F_co x0.f0 x0.f1 x0.f2 x0.f3 x0.f4 x0.f5 x0.f6.f0 x0.f6.f1 x1.f0 x1.f1 x1.f2 x1.f3 x1.f4 x1.f5 x1.f6.f0 x1.f6.f1).rounds (law_FnExactSharpen x0 hw0 x1 hw1)
end Go.Proofs.Ytmammjfomgfjhaa.PFnExactSharpen.Pure
