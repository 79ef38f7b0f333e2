/-
  The program's SetState answers as the reference's does, for all arguments. It has no conditions.
-/
import Derived.Test.YtbbfelgojaioaaaShFnExactSetState
import Derived.Test.YtbbfelgojaioaaaEqFnExactSetState
import Derived.Test.YtbbfelgojaioaaaBase
set_option linter.unusedVariables false
set_option linter.unusedSimpArgs false
namespace Go.Proofs.Ytbbfelgojaioaaa.PFnExactSetState.Pure
open Go.RowKit Go.Proofs.YtbbfelgojaioaaaW.PrintWords Go.Proofs.YtbbfelgojaioaaaW.PrintLast Go.Proofs.YtbbfelgojaioaaaW.PrintMore Go.Proofs.Ytbbfelgojaioaaa.PFnExactSetState Go.Proofs.Ytbbfelgojaioaaa.Lim Go.Proofs.Ytbbfelgojaioaaa.Base
set_option maxRecDepth 100000

theorem szClaimS (l : List S123) (a : Int) (ha : 0 ≤ a ∧ a ≤ 1048576) (hl : l.length ≤ maxLen) : laws_szClaimS.f l a = some (if a < (l.length : Int) then -1 else a - (l.length : Int)) := by
  simp only [maxLen] at hl
  unfold laws_szClaimS.f
  rw [wrap_in _ (by omega)]
  by_cases h : a < (l.length : Int)
  · rw [if_pos (by omega), if_pos h]
  · rw [if_neg (by omega), if_neg h]

def cvClaim (y : S123) : S121 := ⟨y.f0, y.f1, y.f2, y.f3, y.f4⟩
theorem toClaimS_l0 (l : List S123) (hn : l.length ≤ 1048576) : ∀ (d i : Nat) (acc : List S121), i + d = l.length → acc.length = l.length → acc.take i = (l.take i).map cvClaim → laws_toClaimS.L0 l acc (i : Int) = some (l.map cvClaim)
  | 0, i, acc, h, ha, ht => by
    rw [laws_toClaimS.L0_eq, if_neg (by omega)]
    rw [List.take_of_length_le (by omega), List.take_of_length_le (by omega)] at ht
    rw [ht]
  | d + 1, i, acc, h, ha, ht => by
    have hi : i < l.length := by omega
    rw [laws_toClaimS.L0_eq, if_pos (by omega), if_pos (by omega)]
    simp only [laws_toClaim.f, Option.bind_some, wrap_succ i (by omega)]
    rw [if_pos (by omega)]
    refine toClaimS_l0 l hn d (i + 1) _ (by omega) (by rw [List.length_set]; exact ha) ?_
    rw [Int.toNat_natCast]
    exact fill_step l cvClaim acc i ha hi ht _ (by simp [rd_T123, cvClaim, hi])
theorem toClaimS (l : List S123) (hn : l.length ≤ 1048576) : laws_toClaimS.F l = some (l.map cvClaim) := by
  rw [laws_toClaimS.F_eq, if_pos (by omega), if_pos (by omega)]
  exact toClaimS_l0 l hn l.length 0 _ (by omega) (by simp) (by simp)

theorem eqClaimS_l0 (l : List S121) (hn : l.length ≤ 1048576) : ∀ (d i : Nat), i + d = l.length → laws_eqClaimS.L0 l l (i : Int) = some true
  | 0, i, h => by rw [laws_eqClaimS.L0_eq, if_neg (by omega)]
  | d + 1, i, h => by
    rw [laws_eqClaimS.L0_eq, if_pos (by omega), if_pos (by omega), if_pos (by omega)]
    simp only [laws_eqClaim.f, if_true, Option.bind_some, wrap_succ i (by omega)]
    exact eqClaimS_l0 l hn d (i + 1) (by omega)
theorem eqClaimS (l : List S121) (hn : l.length ≤ 1048576) : laws_eqClaimS.F l l = some true := by
  rw [laws_eqClaimS.F_eq, if_pos rfl]
  exact eqClaimS_l0 l hn l.length 0 (by omega)

theorem rdClaim_at (l : List S121) (i : Nat) : rd_T121 l (i : Int) = l.getD i z121 := by simp [rd_T121]
theorem dropClaim (l : List S121) (i : Nat) (h : i < l.length) : l.drop i = rd_T121 l (i : Int) :: l.drop (i + 1) := by
  rw [rdClaim_at, getD_get l i _ h]
  exact List.drop_eq_getElem_cons h

def lineClaim (k : Int) (n : Nat) : List S121 := (List.range n).map (fun j : Nat => (⟨k + 5 * (j : Int), k + 5 * (j : Int) + 1, k + 5 * (j : Int) + 2, k + 5 * (j : Int) + 3, k + 5 * (j : Int) + 4⟩ : S121))
theorem lineClaim_len (k : Int) (n : Nat) : (lineClaim k n).length = n := by simp [lineClaim]
theorem rdsetClaim (l : List S121) (i : Nat) (v : S121) (h : i < l.length) : rd_T121 (l.set i v) (i : Int) = v := by simp [rd_T121, h]
theorem markClaimS_l0 (k : Int) (n : Nat) (hk : 0 ≤ k ∧ k ≤ 67108864) (hn : n ≤ 1048576) : ∀ (d i : Nat) (acc : List S121), i + d = n → acc.length = n → acc.take i = ((List.range n).take i).map (fun j : Nat => (⟨k + 5 * (j : Int), k + 5 * (j : Int) + 1, k + 5 * (j : Int) + 2, k + 5 * (j : Int) + 3, k + 5 * (j : Int) + 4⟩ : S121)) → laws_markClaimS.L0 acc (k + 5 * (i : Int)) (i : Int) = some (k + 5 * (n : Int), lineClaim k n)
  | 0, i, acc, h, ha, ht => by
    rw [laws_markClaimS.L0_eq, if_neg (by omega)]
    rw [List.take_of_length_le (by omega), List.take_of_length_le (by simp; omega)] at ht
    rw [ht, show i = n by omega]; rfl
  | d + 1, i, acc, h, ha, ht => by
    have hi : i < acc.length := by omega
    rw [laws_markClaimS.L0_eq, if_pos (by omega), if_pos (by omega)]
    simp only [Option.bind_some, Int.toNat_natCast, rdsetClaim, List.length_set, hi, List.set_set, wrap_succ i (by omega)]
    simp only [wrap_in (k + 5 * (i : Int) + 1) (by omega), wrap_in (k + 5 * (i : Int) + 1 + 1) (by omega), wrap_in (k + 5 * (i : Int) + 1 + 1 + 1) (by omega), wrap_in (k + 5 * (i : Int) + 1 + 1 + 1 + 1) (by omega), wrap_in (k + 5 * (i : Int) + 1 + 1 + 1 + 1 + 1) (by omega)]
    rw [show k + 5 * (i : Int) + 1 + 1 + 1 + 1 + 1 = k + 5 * ((i + 1 : Nat) : Int) by omega]
    refine markClaimS_l0 k n hk hn d (i + 1) _ (by omega) (by rw [List.length_set]; exact ha) ?_
    exact fill_step (List.range n) (fun j : Nat => (⟨k + 5 * (j : Int), k + 5 * (j : Int) + 1, k + 5 * (j : Int) + 2, k + 5 * (j : Int) + 3, k + 5 * (j : Int) + 4⟩ : S121)) acc i (by simp [ha]) (by simp; omega) ht _ (by simp <;> omega)
theorem markClaimS (l : List S121) (k : Int) (hk : 0 ≤ k ∧ k ≤ 67108864) (hn : l.length ≤ 1048576) : laws_markClaimS.F l k = some (k + 5 * (l.length : Int), lineClaim k l.length) := by
  rw [laws_markClaimS.F_eq]
  have := markClaimS_l0 k l.length hk hn l.length 0 l (by omega) rfl (by simp)
  simpa using this

theorem heldClaimS_l0 (k : Int) (n : Nat) (hk : 0 ≤ k ∧ k ≤ 67108864) (hn : n ≤ 1048576) : ∀ (d i : Nat), i + d = n → laws_heldClaimS.L0 (lineClaim k n) (k + 5 * (i : Int)) (i : Int) = some (k + 5 * (n : Int))
  | 0, i, h => by rw [laws_heldClaimS.L0_eq, lineClaim_len, if_neg (by omega), show i = n by omega]
  | d + 1, i, h => by
    have hr : rd_T121 (lineClaim k n) (i : Int) = (⟨k + 5 * (i : Int), k + 5 * (i : Int) + 1, k + 5 * (i : Int) + 2, k + 5 * (i : Int) + 3, k + 5 * (i : Int) + 4⟩ : S121) := by simp [rd_T121, lineClaim, show i < n by omega]
    rw [laws_heldClaimS.L0_eq, lineClaim_len, if_pos (by omega), if_pos (by omega), hr]
    simp only [wrap_succ i (by omega), wrap_in (k + 5 * (i : Int) + 1) (by omega), wrap_in (k + 5 * (i : Int) + 1 + 1) (by omega), wrap_in (k + 5 * (i : Int) + 1 + 1 + 1) (by omega), wrap_in (k + 5 * (i : Int) + 1 + 1 + 1 + 1) (by omega), wrap_in (k + 5 * (i : Int) + 1 + 1 + 1 + 1 + 1) (by omega)]
    repeat rw [if_pos (by first | trivial | omega)]
    rw [show k + 5 * (i : Int) + 1 + 1 + 1 + 1 + 1 = k + 5 * ((i + 1 : Nat) : Int) by omega]
    exact heldClaimS_l0 k n hk hn d (i + 1) (by omega)
theorem heldClaimS (k : Int) (n : Nat) (hk : 0 ≤ k ∧ k ≤ 67108864) (hn : n ≤ 1048576) : laws_heldClaimS.F (lineClaim k n) k = some (k + 5 * (n : Int)) := by
  rw [laws_heldClaimS.F_eq]
  have := heldClaimS_l0 k n hk hn n 0 (by omega)
  simpa using this

noncomputable def onceB (l : List S121) (i : Nat) : Bool := decide ((rd_T121 l i).f4 ≠ 3) || allF (fun q : Nat => ¬ ((rd_T121 l q).f4 = 3 ∧ (rd_T121 l q).f2 = (rd_T121 l i).f2)) i 0
def okClaim (l : List S121) (i : Nat) : Prop := inR (rd_T121 l i).f0 1 999 = true ∧ ((i : Int) > 0 → (rd_T121 l ((i : Int) - 1)).f0 < (rd_T121 l i).f0) ∧ inR (rd_T121 l i).f1 1 999 = true ∧ inR (rd_T121 l i).f2 1 999 = true ∧ inR (rd_T121 l i).f3 0 100000 = true ∧ inR (rd_T121 l i).f4 0 3 = true ∧ onceB l i = true
noncomputable def areClaims (l : List S121) : Bool := allF (okClaim l) l.length 0 && decide ((l.length : Int) ≤ 20)
theorem rdClaim_take (l : List S121) (i q : Nat) (h : q < i) : rd_T121 (l.take i) (q : Int) = rd_T121 l (q : Int) := by
  rw [rdClaim_at, rdClaim_at, List.getD_eq_getElem?_getD, List.getD_eq_getElem?_getD, List.getElem?_take, if_pos h]

theorem idxFClaim_spec (p : S121 → Bool) : ∀ (l : List S121) (i : Int), (idxF121 p l i = -1 ∧ ∀ x ∈ l, ¬ p x = true) ∨ ∃ j : Nat, j < l.length ∧ idxF121 p l i = i + (j : Int) ∧ p (l.getD j z121) = true ∧ ∀ m : Nat, m < j → ¬ p (l.getD m z121) = true
  | [], i => .inl ⟨rfl, by simp⟩
  | x :: r, i => by
    simp only [idxF121]
    by_cases h : p x = true
    · rw [if_pos h]
      exact .inr ⟨0, by simp, by simp, by simpa using h, fun m hm => absurd hm (by omega)⟩
    · rw [if_neg h]
      rcases idxFClaim_spec p r (i + 1) with ⟨h1, h2⟩ | ⟨j, h1, h2, h3, h4⟩
      · exact .inl ⟨h1, fun y hy => by
          rcases List.mem_cons.1 hy with e | e
          · rw [e]; exact h
          · exact h2 y e⟩
      · refine .inr ⟨j + 1, by simp; omega, by rw [h2]; omega, by simpa using h3, fun m hm => ?_⟩
        cases m with
        | zero => simpa using h
        | succ m => simpa using h4 m (by omega)
theorem idxFClaim_at (p : S121 → Bool) (l : List S121) : (idxF121 p l 0 = -1 ∧ ∀ x ∈ l, ¬ p x = true) ∨ ∃ j : Nat, j < l.length ∧ idxF121 p l 0 = (j : Int) ∧ p (rd_T121 l (j : Int)) = true ∧ ∀ m : Nat, m < j → ¬ p (rd_T121 l (m : Int)) = true := by
  rcases idxFClaim_spec p l 0 with h | ⟨j, h1, h2, h3, h4⟩
  · exact .inl h
  · refine .inr ⟨j, h1, by rw [h2]; omega, by rw [rdClaim_at]; exact h3, fun m hm => by rw [rdClaim_at]; exact h4 m hm⟩

def stOk (s t : Int) : Bool := decide ((s = 0 ∧ (t = 1 ∨ t = 2)) ∨ (s = 1 ∧ t = 3))
theorem stLaw {X : Type} (s t : Int) (A B : X) : (if s = 0 then (if t = 1 then A else (if t = 2 then A else (if s = 1 then (if t = 3 then A else B) else B))) else (if s = 1 then (if t = 3 then A else B) else B)) = if stOk s t = true then A else B := by
  unfold stOk
  simp only [decide_eq_true_eq]
  repeat' split
  all_goals first
    | rfl
    | (exfalso; omega)
theorem stLaw2 {X : Type} (s t : Int) (f : Bool → X) : (if s = 0 then (if t = 1 then f (!true) else (if t = 2 then f (!true) else (if s = 1 then f (!(t == 3)) else f (!false)))) else (if s = 1 then f (!(t == 3)) else f (!false))) = f (!stOk s t) := by
  have e : ∀ c : Bool, (c = true ↔ (s = 0 ∧ (t = 1 ∨ t = 2)) ∨ (s = 1 ∧ t = 3)) → f (!c) = f (!stOk s t) := by
    intro c hc
    have : c = stOk s t := by rw [Bool.eq_iff_iff, hc, stOk, decide_eq_true_iff]
    rw [this]
  repeat' split
  all_goals (apply e; simp only [beq_iff_eq, Bool.false_eq_true, true_iff, false_iff]; omega)
def withSt (l : List S121) (j : Nat) (t : Int) : List S121 := l.set j ⟨(rd_T121 l (j : Int)).f0, (rd_T121 l (j : Int)).f1, (rd_T121 l (j : Int)).f2, (rd_T121 l (j : Int)).f3, t⟩
theorem withSt_len (l : List S121) (j : Nat) (t : Int) : (withSt l j t).length = l.length := by simp [withSt]
noncomputable def setAt (l : List S121) (j : Int) (t : Int) : List S121 × Bool :=
  if stOk (rd_T121 l j).f4 t = true then (if areClaims (withSt l j.toNat t) = true then (withSt l j.toNat t, true) else (l, false)) else (l, false)
noncomputable def setState (l : List S121) (id t : Int) : List S121 × Bool :=
  if idxF121 (fun x => x.f0 == id) l 0 < 0 then (l, false) else if areClaims l = true then setAt l (idxF121 (fun x => x.f0 == id) l 0) t else (l, false)
theorem setState_len (l : List S121) (id t : Int) : (setState l id t).1.length = l.length := by
  unfold setState setAt
  repeat' split
  all_goals simp [withSt_len]

theorem spec_FindClaim_l0 (l : List S121) (id : Int) (hn : l.length ≤ 1048576) : ∀ (d i : Nat), i + d = l.length → spec_FindClaim.L0 l id (i : Int) = some (idxF121 (fun x => x.f0 == id) (l.drop i) (i : Int))
  | 0, i, h => by rw [spec_FindClaim.L0_eq, if_neg (by omega), List.drop_of_length_le (by omega)]; rfl
  | d + 1, i, h => by
    rw [spec_FindClaim.L0_eq, if_pos (by omega), if_pos (by omega), wrap_succ i (by omega), spec_FindClaim_l0 l id hn d (i + 1) (by omega), dropClaim l i (by omega)]
    simp only [idxF121]
    by_cases c : (rd_T121 l (i : Int)).f0 = id
    · rw [if_pos c, if_pos (by simpa using c)]
    · rw [if_neg c, if_neg (by simpa using c)]
      rfl
theorem spec_FindClaim_is (l : List S121) (id : Int) (hn : l.length ≤ 1048576) : spec_FindClaim.F l id = some (idxF121 (fun x => x.f0 == id) l 0) := by
  rw [spec_FindClaim.F_eq]
  exact spec_FindClaim_l0 l id hn l.length 0 (by omega)

theorem l1In (a b c : Int) : spec_l1In.f a b c = some (inR a b c) := by
  unfold spec_l1In.f inR
  by_cases h : b ≤ a <;> simp [h]

theorem spec_AreClaims_l1 (l : List S121) (hn : l.length ≤ 1048576) (i : Nat) (hi : i < l.length) (y0 y1 y3 : Int) : ∀ (d m : Nat), m + d = i → spec_AreClaims.L1 l (i : Int) (m : Int) y0 y1 (rd_T121 l (i : Int)).f2 y3 (rd_T121 l (i : Int)).f4 = if (decide ((rd_T121 l i).f4 ≠ 3) || allF (fun q : Nat => ¬ ((rd_T121 l q).f4 = 3 ∧ (rd_T121 l q).f2 = (rd_T121 l i).f2)) i m) = true then spec_AreClaims.L0 l ((i + 1 : Nat) : Int) else some false
  | 0, m, h => by
    rw [spec_AreClaims.L1_eq, if_neg (by omega), allF_end (by omega), Bool.or_true, if_pos rfl, wrap_succ i (by omega)]
  | d + 1, m, h => by
    have hm : m < i := by omega
    have hy := fun hc => allF_yes (p := fun q : Nat => ¬ ((rd_T121 l q).f4 = 3 ∧ (rd_T121 l q).f2 = (rd_T121 l i).f2)) (n := i) (i := m) hc
    rw [spec_AreClaims.L1_eq, if_pos (by omega), wrap_succ m (by omega), spec_AreClaims_l1 l hn i hi y0 y1 y3 d (m + 1) (by omega)]
    by_cases c0 : (rd_T121 l (i : Int)).f4 = 3
    · rw [if_pos c0, decide_eq_false (fun hh => hh c0), Bool.false_or, Bool.false_or, if_pos (by omega), if_pos (by omega)]
      by_cases c1 : (rd_T121 l (m : Int)).f4 = 3
      · by_cases c2 : (rd_T121 l (m : Int)).f2 = (rd_T121 l (i : Int)).f2
        · rw [if_pos c1, if_pos c2, allF_no hm (fun hh => hh ⟨c1, c2⟩), if_neg (by decide)]
        · rw [if_pos c1, if_neg c2, hy (fun hh => c2 hh.2)]
      · rw [if_neg c1, hy (fun hh => c1 hh.1)]
    · rw [if_neg c0, decide_eq_true c0, Bool.true_or, Bool.true_or]
theorem spec_AreClaims_l0 (l : List S121) (hn : l.length ≤ 1048576) : ∀ (d i : Nat), i + d = l.length → spec_AreClaims.L0 l (i : Int) = some (allF (okClaim l) l.length i && decide ((l.length : Int) ≤ 20))
  | 0, i, h => by rw [spec_AreClaims.L0_eq, if_neg (by omega), allF_end (by omega)]; rfl
  | d + 1, i, h => by
    have hi : i < l.length := by omega
    have ih := spec_AreClaims_l0 l hn d (i + 1) (by omega)
    have h1 : ∀ y0 y1 y3, spec_AreClaims.L1 l (i : Int) 0 y0 y1 (rd_T121 l (i : Int)).f2 y3 (rd_T121 l (i : Int)).f4 = if onceB l i = true then spec_AreClaims.L0 l ((i + 1 : Nat) : Int) else some false := fun y0 y1 y3 => spec_AreClaims_l1 l hn i hi y0 y1 y3 i 0 (by omega)
    rw [spec_AreClaims.L0_eq]
    have e1 : (i : Int) < (l.length : Int) := by omega
    have e2 : (0 : Int) ≤ (i : Int) := by omega
    have t1 : (if (true : Bool) = true then some false else spec_AreClaims.L0 l ((i + 1 : Nat) : Int)) = some false := rfl
    simp only [wrap_pred i (by omega), l1In, Option.bind_some, spec_AreClaims.J1_eq, h1, if_pos e1, if_pos e2, if_true]
    by_cases c0 : (i : Int) > 0
    · have e4 : (0 : Int) ≤ (i : Int) - 1 := by omega
      have e5 : (i : Int) - 1 < (l.length : Int) := by omega
      simp only [if_pos c0, if_pos e4, if_pos e5, decide_eq_true_eq]
      by_cases c1 : inR (rd_T121 l (i : Int)).f0 1 999 = true
      · rw [if_pos c1]
        by_cases c2 : inR (rd_T121 l (i : Int)).f1 1 999 = true
        · rw [if_pos c2]
          by_cases c3 : inR (rd_T121 l (i : Int)).f2 1 999 = true
          · rw [if_pos c3]
            by_cases c4 : inR (rd_T121 l (i : Int)).f3 0 100000 = true
            · rw [if_pos c4]
              by_cases c5 : inR (rd_T121 l (i : Int)).f4 0 3 = true
              · rw [if_pos c5]
                by_cases c6 : (rd_T121 l ((i : Int) - 1)).f0 ≥ (rd_T121 l (i : Int)).f0
                · rw [if_pos c6, allF_no hi (fun h => absurd (h.2.1 c0) (by omega))]
                  first | done | rfl | simp
                · rw [if_neg c6]
                  by_cases c7 : onceB l i = true
                  · rw [if_pos c7]
                    have hp_ : okClaim l i := ⟨c1, fun _ => by omega, c2, c3, c4, c5, c7⟩
                    rw [ih, allF_yes hp_]
                  · rw [if_neg c7, allF_no hi (fun h => c7 h.2.2.2.2.2.2)]
                    first | done | rfl | simp
              · rw [if_neg c5, allF_no hi (fun h => c5 h.2.2.2.2.2.1)]
                first | done | rfl | simp
            · rw [if_neg c4, allF_no hi (fun h => c4 h.2.2.2.2.1)]
              first | done | rfl | simp
          · rw [if_neg c3, allF_no hi (fun h => c3 h.2.2.2.1)]
            first | done | rfl | simp
        · rw [if_neg c2, allF_no hi (fun h => c2 h.2.2.1)]
          first | done | rfl | simp
      · rw [if_neg c1, allF_no hi (fun h => c1 h.1)]
        first | done | rfl | simp
    · simp only [if_neg c0, Bool.false_eq_true, if_false]
      by_cases c1 : inR (rd_T121 l (i : Int)).f0 1 999 = true
      · rw [if_pos c1]
        by_cases c2 : inR (rd_T121 l (i : Int)).f1 1 999 = true
        · rw [if_pos c2]
          by_cases c3 : inR (rd_T121 l (i : Int)).f2 1 999 = true
          · rw [if_pos c3]
            by_cases c4 : inR (rd_T121 l (i : Int)).f3 0 100000 = true
            · rw [if_pos c4]
              by_cases c5 : inR (rd_T121 l (i : Int)).f4 0 3 = true
              · rw [if_pos c5]
                by_cases c6 : onceB l i = true
                · rw [if_pos c6]
                  have hp_ : okClaim l i := ⟨c1, fun hh => absurd hh c0, c2, c3, c4, c5, c6⟩
                  rw [ih, allF_yes hp_]
                · rw [if_neg c6, allF_no hi (fun h => c6 h.2.2.2.2.2.2)]
                  first | done | rfl | simp
              · rw [if_neg c5, allF_no hi (fun h => c5 h.2.2.2.2.2.1)]
                first | done | rfl | simp
            · rw [if_neg c4, allF_no hi (fun h => c4 h.2.2.2.2.1)]
              first | done | rfl | simp
          · rw [if_neg c3, allF_no hi (fun h => c3 h.2.2.2.1)]
            first | done | rfl | simp
        · rw [if_neg c2, allF_no hi (fun h => c2 h.2.2.1)]
          first | done | rfl | simp
      · rw [if_neg c1, allF_no hi (fun h => c1 h.1)]
        first | done | rfl | simp
theorem spec_AreClaims_is (l : List S121) (hn : l.length ≤ 1048576) : spec_AreClaims.F l = some (areClaims l) := by
  rw [spec_AreClaims.F_eq, areClaims]
  exact spec_AreClaims_l0 l hn l.length 0 (by omega)

theorem spec_SetState_j (l : List S121) (t : Int) (j : Nat) (hj : j < l.length) (hn : l.length ≤ 1048576) : spec_SetState.J0 l t l (j : Int) false = some (setAt l (j : Int) t) := by
  have e1 : (0 : Int) ≤ (j : Int) := by omega
  have e2 : (j : Int) < (l.length : Int) := by omega
  have el : ([] : List S121).length + l.length < 3518437208883 := by simp only [List.length_nil]; omega
  have ha : ∀ m : List S121, m.length = l.length → spec_AreClaims.F m = some (areClaims m) := fun m hm => spec_AreClaims_is m (by omega)
  have hw : l.set j ⟨(rd_T121 l (j : Int)).f0, (rd_T121 l (j : Int)).f1, (rd_T121 l (j : Int)).f2, (rd_T121 l (j : Int)).f3, t⟩ = withSt l j t := rfl
  rw [spec_SetState.J0_eq, if_neg (by decide), if_pos e1, if_pos e2]
  simp only [if_pos e2, Option.bind_some, Int.toNat_natCast, hw, if_pos el, List.nil_append, ha _ (withSt_len l j t)]
  rw [stLaw, setAt, Int.toNat_natCast]
  repeat' split
  all_goals rfl
theorem spec_SetState_is (l : List S121) (id t : Int) (hn : l.length ≤ 1048576) : spec_SetState.F l id t = some (setState l id t) := by
  rw [spec_SetState.F_eq, Option.bind_some, if_pos (by simp only [List.length_nil]; omega), List.nil_append, Option.bind_some, spec_FindClaim_is l id hn, Option.bind_some, spec_AreClaims_is l hn, Option.bind_some, setState]
  rcases idxFClaim_at (fun x => x.f0 == id) l with ⟨h, h1⟩ | ⟨j, hj, h, h1, h2⟩
  · rw [h, if_pos (by omega), if_pos (by omega), spec_SetState.J0_eq, if_pos rfl]
  · rw [h, if_neg (by omega), if_neg (by omega)]
    by_cases c : areClaims l = true
    · rw [c, if_pos rfl, Bool.not_true]
      exact spec_SetState_j l t j hj hn
    · rw [if_neg c, spec_SetState.J0_eq, if_pos (by simpa using c)]

theorem cloneClaim_is (l : List S121) (hn : l.length ≤ 4194304) : impl_Claim_93.f l = some l := by
  unfold impl_Claim_93.f
  rw [Option.bind_some, if_pos (by simp only [List.length_nil]; omega)]
  rfl

theorem impl_FindClaim_is (l : List S121) (id : Int) (hn : l.length ≤ 1048576) : impl_FindClaim.f l id = some (idxF121 (fun x => x.f0 == id) l 0) := rfl

theorem inRange (a b c : Int) : impl_InRange.f a b c = some (inR a b c) := by
  unfold impl_InRange.f inR
  by_cases h : b ≤ a <;> simp [h]

theorem impl_AreClaims_l1 (l : List S121) (hn : l.length ≤ 1048576) (i : Nat) (hi : i < l.length) (y0 y1 y3 : Int) : ∀ (d m : Nat), m + d = i → impl_AreClaims.L1 l l (l.length : Int) (i : Int) (l.take i) ((l.take i).length : Int) (m : Int) y0 y1 (rd_T121 l (i : Int)).f2 y3 (rd_T121 l (i : Int)).f4 = if (decide ((rd_T121 l i).f4 ≠ 3) || allF (fun q : Nat => ¬ ((rd_T121 l q).f4 = 3 ∧ (rd_T121 l q).f2 = (rd_T121 l i).f2)) i m) = true then impl_AreClaims.L0 l l (l.length : Int) ((i + 1 : Nat) : Int) else some false
  | 0, m, h => by
    have hl : (l.take i).length = i := by rw [List.length_take]; omega
    rw [impl_AreClaims.L1_eq, hl, if_neg (by omega), allF_end (by omega), Bool.or_true, if_pos rfl, wrap_succ i (by omega)]
  | d + 1, m, h => by
    have hl : (l.take i).length = i := by rw [List.length_take]; omega
    have hm : m < i := by omega
    have hy := fun hc => allF_yes (p := fun q : Nat => ¬ ((rd_T121 l q).f4 = 3 ∧ (rd_T121 l q).f2 = (rd_T121 l i).f2)) (n := i) (i := m) hc
    have ih := impl_AreClaims_l1 l hn i hi y0 y1 y3 d (m + 1) (by omega)
    rw [impl_AreClaims.L1_eq, wrap_succ m (by omega), ih, hl, if_pos (by omega), if_pos (by omega), if_pos (by omega), rdClaim_take l i m hm]
    by_cases c0 : (rd_T121 l (i : Int)).f4 = 3
    · rw [if_pos c0, decide_eq_false (fun hh => hh c0), Bool.false_or, Bool.false_or]
      by_cases c1 : (rd_T121 l (m : Int)).f4 = 3
      · by_cases c2 : (rd_T121 l (i : Int)).f2 = (rd_T121 l (m : Int)).f2
        · rw [if_pos c1, if_pos c2, allF_no hm (fun hh => hh ⟨c1, c2.symm⟩), if_neg (by decide)]
        · rw [if_pos c1, if_neg c2, hy (fun hh => c2 hh.2.symm)]
      · rw [if_neg c1, hy (fun hh => c1 hh.1)]
    · rw [if_neg c0, decide_eq_true c0, Bool.true_or, Bool.true_or]
theorem impl_AreClaims_l0 (l : List S121) (hn : l.length ≤ 1048576) : ∀ (d i : Nat), i + d = l.length → impl_AreClaims.L0 l l (l.length : Int) (i : Int) = some (allF (okClaim l) l.length i)
  | 0, i, h => by rw [impl_AreClaims.L0_eq, if_neg (by omega), allF_end (by omega)]
  | d + 1, i, h => by
    have hi : i < l.length := by omega
    have ih := impl_AreClaims_l0 l hn d (i + 1) (by omega)
    have h1 : ∀ y0 y1 y3, impl_AreClaims.L1 l l (l.length : Int) (i : Int) (l.take i) ((l.take i).length : Int) 0 y0 y1 (rd_T121 l (i : Int)).f2 y3 (rd_T121 l (i : Int)).f4 = if onceB l i = true then impl_AreClaims.L0 l l (l.length : Int) ((i + 1 : Nat) : Int) else some false := fun y0 y1 y3 => impl_AreClaims_l1 l hn i hi y0 y1 y3 i 0 (by omega)
    have e1 : (i : Int) < (l.length : Int) := by omega
    have e2 : (0 : Int) ≤ (i : Int) := by omega
    have e3 : (i : Int) ≤ (l.length : Int) := by omega
    rw [impl_AreClaims.L0_eq]
    simp only [wrap_pred i (by omega), inRange, Option.bind_some, impl_AreClaims.J1_eq, Int.toNat_natCast, if_pos e1, if_pos e2, if_pos e3, h1, if_true]
    by_cases c0 : (i : Int) > 0
    · have e4 : (0 : Int) ≤ (i : Int) - 1 := by omega
      have e5 : (i : Int) - 1 < (l.length : Int) := by omega
      simp only [if_pos c0, if_pos e4, if_pos e5]
      by_cases c1 : inR (rd_T121 l (i : Int)).f0 1 999 = true
      · rw [if_pos c1]
        by_cases c2 : (rd_T121 l (i : Int)).f0 ≤ (rd_T121 l ((i : Int) - 1)).f0
        · rw [if_pos c2, allF_no hi (fun h => absurd (h.2.1 c0) (by omega))]
          first | done | rfl | simp
        · rw [if_neg c2]
          by_cases c3 : inR (rd_T121 l (i : Int)).f1 1 999 = true
          · rw [if_pos c3]
            by_cases c4 : inR (rd_T121 l (i : Int)).f2 1 999 = true
            · rw [if_pos c4]
              by_cases c5 : inR (rd_T121 l (i : Int)).f3 0 100000 = true
              · rw [if_pos c5]
                by_cases c6 : (!inR (rd_T121 l (i : Int)).f4 0 3) = true
                · rw [if_pos c6, allF_no hi (fun h => by have := h.2.2.2.2.2.1; rw [this] at c6; exact absurd c6 (by decide))]
                  first | done | rfl | simp
                · rw [if_neg c6]
                  by_cases c7 : onceB l i = true
                  · rw [if_pos c7]
                    have hp_ : okClaim l i := ⟨c1, fun _ => by omega, c3, c4, c5, by simpa using c6, c7⟩
                    rw [ih, allF_yes hp_]
                  · rw [if_neg c7, allF_no hi (fun h => c7 h.2.2.2.2.2.2)]
                    first | done | rfl | simp
              · rw [if_neg c5, allF_no hi (fun h => c5 h.2.2.2.2.1)]
                first | done | rfl | simp
            · rw [if_neg c4, allF_no hi (fun h => c4 h.2.2.2.1)]
              first | done | rfl | simp
          · rw [if_neg c3, allF_no hi (fun h => c3 h.2.2.1)]
            first | done | rfl | simp
      · rw [if_neg c1, allF_no hi (fun h => c1 h.1)]
        first | done | rfl | simp
    · simp only [if_neg c0]
      by_cases c1 : inR (rd_T121 l (i : Int)).f0 1 999 = true
      · rw [if_pos c1]
        by_cases c2 : inR (rd_T121 l (i : Int)).f1 1 999 = true
        · rw [if_pos c2]
          by_cases c3 : inR (rd_T121 l (i : Int)).f2 1 999 = true
          · rw [if_pos c3]
            by_cases c4 : inR (rd_T121 l (i : Int)).f3 0 100000 = true
            · rw [if_pos c4]
              by_cases c5 : (!inR (rd_T121 l (i : Int)).f4 0 3) = true
              · rw [if_pos c5, allF_no hi (fun h => by have := h.2.2.2.2.2.1; rw [this] at c5; exact absurd c5 (by decide))]
                first | done | rfl | simp
              · rw [if_neg c5]
                by_cases c6 : onceB l i = true
                · rw [if_pos c6]
                  have hp_ : okClaim l i := ⟨c1, fun hh => absurd hh c0, c2, c3, c4, by simpa using c5, c6⟩
                  rw [ih, allF_yes hp_]
                · rw [if_neg c6, allF_no hi (fun h => c6 h.2.2.2.2.2.2)]
                  first | done | rfl | simp
            · rw [if_neg c4, allF_no hi (fun h => c4 h.2.2.2.2.1)]
              first | done | rfl | simp
          · rw [if_neg c3, allF_no hi (fun h => c3 h.2.2.2.1)]
            first | done | rfl | simp
        · rw [if_neg c2, allF_no hi (fun h => c2 h.2.2.1)]
          first | done | rfl | simp
      · rw [if_neg c1, allF_no hi (fun h => c1 h.1)]
        first | done | rfl | simp
theorem impl_AreClaims_is (l : List S121) (hn : l.length ≤ 1048576) : impl_AreClaims.F l = some (areClaims l) := by
  rw [impl_AreClaims.F_eq, areClaims]
  by_cases h : (l.length : Int) > 20
  · rw [if_pos h, decide_eq_false (by omega), Bool.and_false]
  · rw [if_neg h, decide_eq_true (by omega), Bool.and_true]
    exact impl_AreClaims_l0 l hn l.length 0 (by omega)

theorem impl_SetState_j (l : List S121) (t : Int) (j : Nat) (hj : j < l.length) (hn : l.length ≤ 1048576) : impl_SetState.J0 l t l (j : Int) false = some (setAt l (j : Int) t) := by
  have e1 : (0 : Int) ≤ (j : Int) := by omega
  have e2 : (j : Int) < (l.length : Int) := by omega
  rw [impl_SetState.J0_eq, if_neg (by decide), if_pos e1, if_pos e2, stLaw2 _ _ (fun b => impl_SetState.J1 l t l (j : Int) b), setAt]
  by_cases c : stOk (rd_T121 l (j : Int)).f4 t = true
  · have hw : l.set j ⟨(rd_T121 l (j : Int)).f0, (rd_T121 l (j : Int)).f1, (rd_T121 l (j : Int)).f2, (rd_T121 l (j : Int)).f3, t⟩ = withSt l j t := rfl
    rw [if_pos c, c, Bool.not_true, impl_SetState.J1_eq, if_neg (by decide), if_pos e1, if_pos e2, Int.toNat_natCast, hw, Option.bind_some, impl_AreClaims_is _ (by rw [withSt_len]; exact hn), Option.bind_some, cloneClaim_is l (by omega), Option.bind_some]
    split <;> rfl
  · have c' : stOk (rd_T121 l (j : Int)).f4 t = false := by simpa using c
    rw [if_neg c, c', Bool.not_false, impl_SetState.J1_eq, if_pos rfl]
theorem impl_SetState_is (l : List S121) (id t : Int) (hn : l.length ≤ 1048576) : impl_SetState.F l id t = some (setState l id t) := by
  rw [impl_SetState.F_eq, cloneClaim_is l (by omega), Option.bind_some, impl_FindClaim_is l id hn, Option.bind_some, impl_AreClaims_is l hn, Option.bind_some, setState]
  rcases idxFClaim_at (fun x => x.f0 == id) l with ⟨h, h1⟩ | ⟨j, hj, h, h1, h2⟩
  · rw [h, if_pos (by omega), if_pos (by omega), impl_SetState.J0_eq, if_pos rfl]
  · rw [h, if_neg (by omega), if_neg (by omega)]
    by_cases c : areClaims l = true
    · rw [c, if_pos rfl, Bool.not_true]
      exact impl_SetState_j l t j hj hn
    · rw [if_neg c, impl_SetState.J0_eq, if_pos (by simpa using c)]

theorem law_FnExactSetState (l0 : List S123) (hm0 : l0.length ≤ maxLen) (hw0 : ∀ y ∈ l0, ok123 y) (a1 : Int) (w1 : (Lit.int .i64 a1).wf = true) (a2 : Int) (w2 : (Lit.int .i64 a2).wf = true) : laws_FnExactSetState.F l0 a1 a2 = some true := by
  rw [laws_FnExactSetState.F_eq, szClaimS l0 1048576 (by omega) hm0]
  simp only [Option.bind_some]
  by_cases h : (1048576 : Int) < (l0.length : Int)
  · rw [if_pos h]; rfl
  · have hn : l0.length ≤ 1048576 := by omega
    have hn' : (l0.map cvClaim).length ≤ 1048576 := by rw [List.length_map]; exact hn
    rw [if_neg h, if_neg (by omega)]
    have h_spec := spec_SetState_is _ a1 a2 hn'
    have h_impl := impl_SetState_is _ a1 a2 hn'
    have hR : (setState (l0.map cvClaim) a1 a2).1.length ≤ 1048576 := by rw [setState_len]; exact hn'
    obtain ⟨R, hR0⟩ : ∃ R, setState (l0.map cvClaim) a1 a2 = R := ⟨_, rfl⟩
    rw [hR0] at h_spec h_impl hR
    generalize hRR : R = r at h_spec h_impl hR
    obtain ⟨R1, b⟩ := r
    have e1 : ¬ (1 + 5 * ((l0.map cvClaim).length : Int) < 0) := by omega
    have e2 : ¬ (1 + 5 * (R1.length : Int) < 0) := by omega
    simp only [toClaimS l0 hn, h_spec, h_impl, eqClaimS _ hR, Option.bind_some, if_true, bne_self_eq_false, laws_FnExactSetState.J0_eq, laws_FnExactSetState.J1_eq, laws_FnExactSetState.J2_eq, Bool.false_eq_true, if_false, eqClaimS _ hn', markClaimS _ 1 (by omega) hn', markClaimS _ 1 (by omega) hR, heldClaimS 1 _ (by omega) hR, if_neg e1, if_neg e2]

theorem FnExactSetState (l0 : List S123) (hm0 : l0.length ≤ maxLen) (hw0 : ∀ y ∈ l0, ok123 y) (a1 : Int) (w1 : (Lit.int .i64 a1).wf = true) (a2 : Int) (w2 : (Lit.int .i64 a2).wf = true) : ∃ k, laws_FnExactSetState.f k l0 a1 a2 = some true :=
  (laws_FnExactSetState.F_co l0 a1 a2).rounds (law_FnExactSetState l0 hm0 hw0 a1 w1 a2 w2)
end Go.Proofs.Ytbbfelgojaioaaa.PFnExactSetState.Pure
