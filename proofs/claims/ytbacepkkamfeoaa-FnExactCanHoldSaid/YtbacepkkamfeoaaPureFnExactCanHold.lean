/-
  The program's CanHold answers as the reference's does, for all arguments. It has no conditions.
-/
import Derived.Test.YtbacepkkamfeoaaShFnExactCanHold
import Derived.Test.YtbacepkkamfeoaaEqFnExactCanHold
import Derived.Test.YtbacepkkamfeoaaBase
set_option linter.unusedVariables false
set_option linter.unusedSimpArgs false
namespace Go.Proofs.Ytbacepkkamfeoaa.PFnExactCanHold.Pure
open Go.RowKit Go.Proofs.YtbacepkkamfeoaaW.PrintWords Go.Proofs.YtbacepkkamfeoaaW.PrintLast Go.Proofs.YtbacepkkamfeoaaW.PrintMore Go.Proofs.Ytbacepkkamfeoaa.PFnExactCanHold Go.Proofs.Ytbacepkkamfeoaa.Lim Go.Proofs.Ytbacepkkamfeoaa.Base
set_option maxRecDepth 100000

theorem szSlotS (l : List S91) (a : Int) (ha : 0 ≤ a ∧ a ≤ 1048576) (hl : l.length ≤ maxLen) : laws_szSlotS.f l a = some (if a < (l.length : Int) then -1 else a - (l.length : Int)) := by
  simp only [maxLen] at hl
  unfold laws_szSlotS.f
  rw [wrap_in _ (by omega)]
  by_cases h : a < (l.length : Int)
  · rw [if_pos (by omega), if_pos h]
  · rw [if_neg (by omega), if_neg h]

def cvSlot (y : S91) : S51 := ⟨y.f0, y.f1, y.f2⟩
theorem toSlotS_l0 (l : List S91) (hn : l.length ≤ 1048576) : ∀ (d i : Nat) (acc : List S51), i + d = l.length → acc.length = l.length → acc.take i = (l.take i).map cvSlot → laws_toSlotS.L0 l acc (i : Int) = some (l.map cvSlot)
  | 0, i, acc, h, ha, ht => by
    rw [laws_toSlotS.L0_eq, if_neg (by omega)]
    rw [List.take_of_length_le (by omega), List.take_of_length_le (by omega)] at ht
    rw [ht]
  | d + 1, i, acc, h, ha, ht => by
    have hi : i < l.length := by omega
    rw [laws_toSlotS.L0_eq, if_pos (by omega), if_pos (by omega)]
    simp only [laws_toSlot.f, Option.bind_some, wrap_succ i (by omega)]
    rw [if_pos (by omega)]
    refine toSlotS_l0 l hn d (i + 1) _ (by omega) (by rw [List.length_set]; exact ha) ?_
    rw [Int.toNat_natCast]
    exact fill_step l cvSlot acc i ha hi ht _ (by simp [rd_T91, cvSlot, hi])
theorem toSlotS (l : List S91) (hn : l.length ≤ 1048576) : laws_toSlotS.F l = some (l.map cvSlot) := by
  rw [laws_toSlotS.F_eq, if_pos (by omega), if_pos (by omega)]
  exact toSlotS_l0 l hn l.length 0 _ (by omega) (by simp) (by simp)

theorem eqSlotS_l0 (l : List S51) (hn : l.length ≤ 1048576) : ∀ (d i : Nat), i + d = l.length → laws_eqSlotS.L0 l l (i : Int) = some true
  | 0, i, h => by rw [laws_eqSlotS.L0_eq, if_neg (by omega)]
  | d + 1, i, h => by
    rw [laws_eqSlotS.L0_eq, if_pos (by omega), if_pos (by omega), if_pos (by omega)]
    simp only [laws_eqSlot.f, if_true, Option.bind_some, wrap_succ i (by omega)]
    exact eqSlotS_l0 l hn d (i + 1) (by omega)
theorem eqSlotS (l : List S51) (hn : l.length ≤ 1048576) : laws_eqSlotS.F l l = some true := by
  rw [laws_eqSlotS.F_eq, if_pos rfl]
  exact eqSlotS_l0 l hn l.length 0 (by omega)

theorem szThingS (l : List S55) (a : Int) (ha : 0 ≤ a ∧ a ≤ 1048576) (hl : l.length ≤ maxLen) : laws_szThingS.f l a = some (if a < (l.length : Int) then -1 else a - (l.length : Int)) := by
  simp only [maxLen] at hl
  unfold laws_szThingS.f
  rw [wrap_in _ (by omega)]
  by_cases h : a < (l.length : Int)
  · rw [if_pos (by omega), if_pos h]
  · rw [if_neg (by omega), if_neg h]

def cvThing (y : S55) : S47 := ⟨y.f0, y.f1, y.f2, y.f3, y.f4⟩
theorem toThingS_l0 (l : List S55) (hn : l.length ≤ 1048576) : ∀ (d i : Nat) (acc : List S47), i + d = l.length → acc.length = l.length → acc.take i = (l.take i).map cvThing → laws_toThingS.L0 l acc (i : Int) = some (l.map cvThing)
  | 0, i, acc, h, ha, ht => by
    rw [laws_toThingS.L0_eq, if_neg (by omega)]
    rw [List.take_of_length_le (by omega), List.take_of_length_le (by omega)] at ht
    rw [ht]
  | d + 1, i, acc, h, ha, ht => by
    have hi : i < l.length := by omega
    rw [laws_toThingS.L0_eq, if_pos (by omega), if_pos (by omega)]
    simp only [laws_toThing.f, Option.bind_some, wrap_succ i (by omega)]
    rw [if_pos (by omega)]
    refine toThingS_l0 l hn d (i + 1) _ (by omega) (by rw [List.length_set]; exact ha) ?_
    rw [Int.toNat_natCast]
    exact fill_step l cvThing acc i ha hi ht _ (by simp [rd_T55, cvThing, hi])
theorem toThingS (l : List S55) (hn : l.length ≤ 1048576) : laws_toThingS.F l = some (l.map cvThing) := by
  rw [laws_toThingS.F_eq, if_pos (by omega), if_pos (by omega)]
  exact toThingS_l0 l hn l.length 0 _ (by omega) (by simp) (by simp)

theorem eqThingS_l0 (l : List S47) (hn : l.length ≤ 1048576) : ∀ (d i : Nat), i + d = l.length → laws_eqThingS.L0 l l (i : Int) = some true
  | 0, i, h => by rw [laws_eqThingS.L0_eq, if_neg (by omega)]
  | d + 1, i, h => by
    rw [laws_eqThingS.L0_eq, if_pos (by omega), if_pos (by omega), if_pos (by omega)]
    simp only [laws_eqThing.f, if_true, Option.bind_some, wrap_succ i (by omega)]
    exact eqThingS_l0 l hn d (i + 1) (by omega)
theorem eqThingS (l : List S47) (hn : l.length ≤ 1048576) : laws_eqThingS.F l l = some true := by
  rw [laws_eqThingS.F_eq, if_pos rfl]
  exact eqThingS_l0 l hn l.length 0 (by omega)

theorem lt_sz (x y : S47) : Go.Proofs.ltOf szCmp x y = decide (y.f3 < x.f3) := by
  unfold Go.Proofs.ltOf szCmp
  by_cases h : y.f3 < x.f3
  · rw [if_pos h, decide_eq_true h]; rfl
  · rw [if_neg h, decide_eq_false h]
    by_cases h2 : y.f3 > x.f3
    · rw [if_pos h2]; rfl
    · rw [if_neg h2]; rfl
theorem posD_pre (l m : List S47) (x : Int) : ∀ k, k ≤ l.length → posD (l ++ m) x k = posD l x k
  | 0, _ => rfl
  | k + 1, h => by
    have hr : rd_T47 (l ++ m) (k : Int) = rd_T47 l (k : Int) := by
      simp only [rd_T47, Int.toNat_natCast, List.getD_eq_getElem?_getD]
      rw [List.getElem?_append_left (by omega)]
    rw [posD, posD, hr, posD_pre l m x k (by omega)]
theorem inner_is : ∀ (j : Nat) (ys : List S47) (x : S47) (zs : List S47), ys.length = j → Go.Sort.insInner (Go.Proofs.ltOf szCmp) 0 j (ys ++ x :: zs).toArray = (ys.take (posD ys x.f3 j) ++ x :: (ys.drop (posD ys x.f3 j) ++ zs)).toArray
  | 0, ys, x, zs, h => by
    have e := List.eq_nil_of_length_eq_zero h
    subst e
    rfl
  | j + 1, ys, x, zs, h => by
    obtain ⟨ys', y, rfl⟩ : ∃ ys' y, ys = ys' ++ [y] := by
      rcases List.eq_nil_or_concat ys with e | ⟨a, b, e⟩
      · rw [e] at h; cases h
      · exact ⟨a, b, by rw [e]; simp⟩
    have h' : ys'.length = j := by simpa using h
    subst h'
    have g1 : ((ys' ++ [y]) ++ x :: zs).toArray[ys'.length + 1]! = x := by simp
    have g0 : ((ys' ++ [y]) ++ x :: zs).toArray[ys'.length]! = y := by simp
    have hr : rd_T47 (ys' ++ [y]) (ys'.length : Int) = y := by simp [rd_T47]
    have ep : posD (ys' ++ [y]) x.f3 (ys'.length + 1) = if y.f3 < x.f3 then posD ys' x.f3 ys'.length else ys'.length + 1 := by
      rw [posD, hr, posD_pre _ _ _ ys'.length (Nat.le_refl _)]
    unfold Go.Sort.insInner
    rw [g1, g0]
    by_cases c : y.f3 < x.f3
    · have hs : Go.Sort.swp ((ys' ++ [y]) ++ x :: zs).toArray (ys'.length + 1) ys'.length = (ys' ++ x :: (y :: zs)).toArray := by
        unfold Go.Sort.swp
        rw [g0, g1, List.setIfInBounds_toArray, List.setIfInBounds_toArray]
        congr 1
        simp [List.set_append]
      have hle := posD_le ys' x.f3 ys'.length
      rw [if_pos (by simp [lt_sz, c]), ep, if_pos c, hs, inner_is ys'.length ys' x (y :: zs) rfl, List.take_append_of_le_length hle, List.drop_append_of_le_length hle]
      simp
    · rw [if_neg (by simp [lt_sz, c]), ep, if_neg c, List.take_of_length_le (by simp), List.drop_of_length_le (by simp)]
      simp
theorem outer_is (l : List S47) : ∀ (n i : Nat), i + n = l.length → Go.Sort.insOuter (Go.Proofs.ltOf szCmp) 0 l.length i ((l.take i).foldl insD [] ++ l.drop i).toArray = (l.foldl insD []).toArray
  | 0, i, h => by
    rw [Go.Sort.insOuter, if_neg (by omega), List.take_of_length_le (by omega), List.drop_of_length_le (by omega), List.append_nil]
  | n + 1, i, h => by
    have hi : i < l.length := by omega
    have hlen : ((l.take i).foldl insD []).length = i := by rw [foldD_len, List.length_take]; simp; omega
    rw [Go.Sort.insOuter, if_pos hi, List.drop_eq_getElem_cons hi, inner_is i _ _ _ hlen, ← outer_is l n (i + 1) (by omega), List.take_succ_eq_append_getElem hi, List.foldl_append, List.foldl_cons, List.foldl_nil]
    congr 2
    rw [insD, hlen]
    simp
theorem stabL_is (l : List S47) : stabL l = l.foldl insD [] := by
  unfold stabL Go.Sort.insertionSort
  cases l with
  | nil => rw [Go.Sort.insOuter, if_neg (by simp)]; rfl
  | cons x r =>
    have h := outer_is (x :: r) r.length 1 (by simp; omega)
    have e : (((x :: r).take 1).foldl insD [] ++ (x :: r).drop 1).toArray = (x :: r).toArray := by
      simp [insD, posD]
    rw [e] at h
    rw [Nat.zero_add, h]
theorem insD_perm (l : List S47) (x : S47) : (insD l x).Perm (x :: l) := by
  unfold insD
  have h := List.take_append_drop (posD l x.f3 l.length) l
  have h2 : (List.take (posD l x.f3 l.length) l ++ [x] ++ List.drop (posD l x.f3 l.length) l).Perm (x :: (List.take (posD l x.f3 l.length) l ++ List.drop (posD l x.f3 l.length) l)) := by
    rw [List.append_assoc]
    exact List.perm_middle
  rwa [h] at h2
theorem foldD_perm : ∀ (l acc : List S47), (l.foldl insD acc).Perm (l ++ acc)
  | [], acc => List.Perm.refl _
  | x :: r, acc => by
    rw [List.foldl_cons]
    refine (foldD_perm r (insD acc x)).trans ?_
    refine ((insD_perm acc x).append_left r).trans ?_
    exact List.perm_middle

theorem rdThing_at (l : List S47) (i : Nat) : rd_T47 l (i : Int) = l.getD i z47 := by simp [rd_T47]
theorem dropThing (l : List S47) (i : Nat) (h : i < l.length) : l.drop i = rd_T47 l (i : Int) :: l.drop (i + 1) := by
  rw [rdThing_at, getD_get l i _ h]
  exact List.drop_eq_getElem_cons h

def isThingW (x : S47) : Bool := inR x.f0 1 999 && inR x.f1 1 8 && inR x.f2 0 7 && inR x.f3 1 50 && inR x.f4 0 10000000
def okThing (l : List S47) (i : Nat) : Prop := isThingW (rd_T47 l i) = true ∧ ((i : Int) > 0 → (rd_T47 l ((i : Int) - 1)).f0 < (rd_T47 l i).f0)
noncomputable def areThings (l : List S47) : Bool := allF (okThing l) l.length 0 && decide ((l.length : Int) ≤ 20)

theorem rdSlot_at (l : List S51) (i : Nat) : rd_T51 l (i : Int) = l.getD i z51 := by simp [rd_T51]
theorem dropSlot (l : List S51) (i : Nat) (h : i < l.length) : l.drop i = rd_T51 l (i : Int) :: l.drop (i + 1) := by
  rw [rdSlot_at, getD_get l i _ h]
  exact List.drop_eq_getElem_cons h

theorem idxFSlot_spec (p : S51 → Bool) : ∀ (l : List S51) (i : Int), (idxF51 p l i = -1 ∧ ∀ x ∈ l, ¬ p x = true) ∨ ∃ j : Nat, j < l.length ∧ idxF51 p l i = i + (j : Int) ∧ p (l.getD j z51) = true ∧ ∀ m : Nat, m < j → ¬ p (l.getD m z51) = true
  | [], i => .inl ⟨rfl, by simp⟩
  | x :: r, i => by
    simp only [idxF51]
    by_cases h : p x = true
    · rw [if_pos h]
      exact .inr ⟨0, by simp, by simp, by simpa using h, fun m hm => absurd hm (by omega)⟩
    · rw [if_neg h]
      rcases idxFSlot_spec p r (i + 1) with ⟨h1, h2⟩ | ⟨j, h1, h2, h3, h4⟩
      · exact .inl ⟨h1, fun y hy => by
          rcases List.mem_cons.1 hy with e | e
          · rw [e]; exact h
          · exact h2 y e⟩
      · refine .inr ⟨j + 1, by simp; omega, by rw [h2]; omega, by simpa using h3, fun m hm => ?_⟩
        cases m with
        | zero => simpa using h
        | succ m => simpa using h4 m (by omega)
theorem idxFSlot_at (p : S51 → Bool) (l : List S51) : (idxF51 p l 0 = -1 ∧ ∀ x ∈ l, ¬ p x = true) ∨ ∃ j : Nat, j < l.length ∧ idxF51 p l 0 = (j : Int) ∧ p (rd_T51 l (j : Int)) = true ∧ ∀ m : Nat, m < j → ¬ p (rd_T51 l (m : Int)) = true := by
  rcases idxFSlot_spec p l 0 with h | ⟨j, h1, h2, h3, h4⟩
  · exact .inl h
  · refine .inr ⟨j, h1, by rw [h2]; omega, by rw [rdSlot_at]; exact h3, fun m hm => by rw [rdSlot_at]; exact h4 m hm⟩

def slotOf : List S51 → Int → Int
  | [], _ => 0
  | x :: r, t => if t ≠ 0 ∧ x.f2 = t then x.f0 else slotOf r t
def slotAt (l : List S51) (t : Int) : Int := if t = 0 then -1 else idxF51 (fun x => x.f2 == t) l 0
theorem slotAt_cases (l : List S51) (t : Int) : (slotAt l t = -1 ∧ (t = 0 ∨ ∀ x ∈ l, x.f2 ≠ t)) ∨ (t ≠ 0 ∧ ∃ j : Nat, j < l.length ∧ slotAt l t = (j : Int) ∧ (rd_T51 l (j : Int)).f2 = t ∧ ∀ m : Nat, m < j → (rd_T51 l (m : Int)).f2 ≠ t) := by
  unfold slotAt
  by_cases h : t = 0
  · exact .inl ⟨by rw [if_pos h], .inl h⟩
  · rw [if_neg h]
    rcases idxFSlot_at (fun x => x.f2 == t) l with ⟨h1, h2⟩ | ⟨j, h1, h2, h3, h4⟩
    · exact .inl ⟨h1, .inr (fun x hx => by simpa using h2 x hx)⟩
    · exact .inr ⟨h, j, h1, h2, by simpa using h3, fun m hm => by simpa using h4 m hm⟩
theorem slotOf_none (t : Int) : ∀ (l : List S51), (t = 0 ∨ ∀ x ∈ l, x.f2 ≠ t) → slotOf l t = 0
  | [], h => rfl
  | x :: r, h => by
    simp only [slotOf]
    rw [if_neg (fun hh => h.elim (fun h0 => hh.1 h0) (fun h1 => h1 x (by simp) hh.2))]
    exact slotOf_none t r (h.imp id (fun h1 y hy => h1 y (by simp [hy])))
theorem slotOf_at (t : Int) (ht : t ≠ 0) : ∀ (l : List S51) (j : Nat), j < l.length → (l.getD j z51).f2 = t → (∀ m : Nat, m < j → (l.getD m z51).f2 ≠ t) → slotOf l t = (l.getD j z51).f0
  | [], j, h, _, _ => by simp at h
  | x :: r, 0, h, h1, h2 => by
    simp only [slotOf]
    rw [if_pos ⟨ht, by simpa using h1⟩]
    simp
  | x :: r, j + 1, h, h1, h2 => by
    simp only [slotOf]
    rw [if_neg (fun hh => h2 0 (by omega) (by simpa using hh.2))]
    have := slotOf_at t ht r j (by simpa using h) (by simpa using h1) (fun m hm => by simpa using h2 (m + 1) (by omega))
    rw [this]
    simp
theorem slotOf_slotAt (l : List S51) (t : Int) : (if slotAt l t < 0 then 0 else (rd_T51 l (slotAt l t)).f0) = slotOf l t := by
  rcases slotAt_cases l t with ⟨h, h1⟩ | ⟨h0, j, h1, h2, h3, h4⟩
  · rw [h, if_pos (by omega), slotOf_none t l h1]
  · rw [h2, if_neg (by omega), rdSlot_at, slotOf_at t h0 l j h1 (by rw [← rdSlot_at]; exact h3) (fun m hm => by rw [← rdSlot_at]; exact h4 m hm)]

noncomputable def freshB (l : List S51) (i : Nat) : Bool := decide ((rd_T51 l i).f2 = 0) || allF (fun q : Nat => (rd_T51 l q).f2 ≠ (rd_T51 l i).f2) i 0
def okSlot (l : List S51) (i : Nat) : Prop := inR (rd_T51 l i).f0 1 99 = true ∧ ((i : Int) > 0 → (rd_T51 l ((i : Int) - 1)).f0 < (rd_T51 l i).f0) ∧ inR (rd_T51 l i).f1 1 50 = true ∧ inR (rd_T51 l i).f2 0 999 = true ∧ freshB l i = true
noncomputable def areSlots (l : List S51) : Bool := allF (okSlot l) l.length 0 && decide ((l.length : Int) ≤ 30)
theorem rdSlot_take (l : List S51) (i q : Nat) (h : q < i) : rd_T51 (l.take i) (q : Int) = rd_T51 l (q : Int) := by
  rw [rdSlot_at, rdSlot_at, List.getD_eq_getElem?_getD, List.getD_eq_getElem?_getD, List.getElem?_take, if_pos h]
theorem fresh_iff (l : List S51) (i : Nat) (hi : i ≤ l.length) (hpre : ∀ j, j < i → okSlot l j) : (slotOf (l.take i) (rd_T51 l i).f2 = 0) = (freshB l i = true) := by
  have hl : (l.take i).length = i := by rw [List.length_take]; omega
  have e := slotOf_slotAt (l.take i) (rd_T51 l i).f2
  unfold freshB
  rw [Bool.or_eq_true, decide_eq_true_iff, allF_all]
  apply propext
  rcases slotAt_cases (l.take i) (rd_T51 l i).f2 with ⟨h, h1⟩ | ⟨h0, j, h1, h2, h3, h4⟩
  · rw [h, if_pos (by omega)] at e
    rw [← e]
    refine ⟨fun _ => h1.imp id (fun hx q hq => ?_), fun _ => rfl⟩
    rw [← rdSlot_take l i q hq, rdSlot_at, getD_get _ _ _ (by omega)]
    exact hx _ (List.getElem_mem _)
  · rw [hl] at h1
    rw [h2, if_neg (by omega), rdSlot_take l i j h1] at e
    rw [rdSlot_take l i j h1] at h3
    have hb := inR_iff.1 (hpre j h1).1
    exact ⟨fun hh => by omega, fun hh => hh.elim (fun hz => absurd hz h0) (fun ha => absurd h3 (ha j h1))⟩

theorem areSlots_ok {l : List S51} (h : areSlots l = true) : (∀ i : Nat, i < l.length → okSlot l i) ∧ l.length ≤ 30 := by
  unfold areSlots at h
  rw [Bool.and_eq_true, allF_all, decide_eq_true_iff] at h
  exact ⟨h.1, by omega⟩
theorem slots_lt {l : List S51} (h : areSlots l = true) : ∀ (d i j : Nat), i + d + 1 = j → j < l.length → (rd_T51 l (i : Int)).f0 < (rd_T51 l (j : Int)).f0
  | 0, i, j, e, hj => by
    have h1 := ((areSlots_ok h).1 j hj).2.1 (by omega)
    rw [show (j : Int) - 1 = (i : Int) by omega] at h1
    exact h1
  | d + 1, i, j, e, hj => by
    have h0 := slots_lt h d i (j - 1) (by omega) (by omega)
    have h1 := ((areSlots_ok h).1 j hj).2.1 (by omega)
    rw [show (j : Int) - 1 = ((j - 1 : Nat) : Int) by omega] at h1
    omega
theorem slots_inj {l : List S51} (h : areSlots l = true) (i j : Nat) (hi : i < l.length) (hj : j < l.length) : (rd_T51 l (i : Int)).f0 = (rd_T51 l (j : Int)).f0 ↔ i = j := by
  constructor
  · intro e
    rcases Nat.lt_trichotomy i j with hlt | he | hgt
    · have := slots_lt h (j - i - 1) i j (by omega) hj
      omega
    · exact he
    · have := slots_lt h (i - j - 1) j i (by omega) hi
      omega
  · rintro rfl; rfl
theorem slots_id {l : List S51} (h : areSlots l = true) (i : Nat) (hi : i < l.length) : 1 ≤ (rd_T51 l (i : Int)).f0 ∧ (rd_T51 l (i : Int)).f0 ≤ 99 := inR_iff.1 ((areSlots_ok h).1 i hi).1
def putIn (l : List S51) (j : Nat) (t : Int) : List S51 := l.set j ⟨(rd_T51 l (j : Int)).f0, (rd_T51 l (j : Int)).f1, t⟩
theorem putIn_len (l : List S51) (j : Nat) (t : Int) : (putIn l j t).length = l.length := by simp [putIn]
theorem putIn_rd (l : List S51) (j : Nat) (t : Int) (q : Nat) : rd_T51 (putIn l j t) (q : Int) = if q = j ∧ j < l.length then ⟨(rd_T51 l (j : Int)).f0, (rd_T51 l (j : Int)).f1, t⟩ else rd_T51 l (q : Int) := by
  simp only [rdSlot_at]
  rw [putIn, List.getD_eq_getElem?_getD, List.getElem?_set]
  by_cases h : j = q
  · subst h
    rw [if_pos rfl]
    by_cases h2 : j < l.length
    · rw [if_pos h2, if_pos ⟨rfl, h2⟩]; rfl
    · rw [if_neg h2, if_neg (fun hh => h2 hh.2), List.getD_eq_getElem?_getD, List.getElem?_eq_none (by omega)]
  · rw [if_neg h, if_neg (fun hh => h hh.1.symm), List.getD_eq_getElem?_getD]

def bestSlot (l : List S51) (size : Int) : Nat → Nat → Int → Int
  | 0, _, b => b
  | d + 1, i, b => bestSlot l size d (i + 1) (if (rd_T51 l (i : Int)).f2 = 0 ∧ (rd_T51 l (i : Int)).f1 ≥ size ∧ (b < 0 ∨ (rd_T51 l (i : Int)).f1 < (rd_T51 l b).f1) then (i : Int) else b)
theorem bestSlot_bd (l : List S51) (size : Int) : ∀ (d i : Nat) (b : Int), i + d = l.length → b < i → -1 ≤ b → -1 ≤ bestSlot l size d i b ∧ bestSlot l size d i b < l.length
  | 0, i, b, h, h1, h2 => by simp only [bestSlot]; omega
  | d + 1, i, b, h, h1, h2 => by
    simp only [bestSlot]
    split
    · exact bestSlot_bd l size d (i + 1) _ (by omega) (by omega) (by omega)
    · exact bestSlot_bd l size d (i + 1) _ (by omega) (by omega) (by omega)
def freeId (l : List S51) (b : Int) : Int := if b < 0 then 0 else (rd_T51 l b).f0
def smallestFree (l : List S51) (size : Int) : Int := freeId l (bestSlot l size l.length 0 (-1))

def isThing (a b c d e : Int) : Bool := inR a 1 999 && inR b 1 8 && inR c 0 7 && inR d 1 50 && inR e 0 10000000
noncomputable def putAway (l : List S51) (a b c d e : Int) : List S51 × Bool :=
  if areSlots l = true ∧ isThing a b c d e = true ∧ 0 ≤ bestSlot l d l.length 0 (-1) ∧ slotAt l a < 0 then (putIn l (bestSlot l d l.length 0 (-1)).toNat a, true) else (l, false)
theorem putAway_len (l : List S51) (a b c d e : Int) : (putAway l a b c d e).1.length = l.length := by
  unfold putAway
  split <;> simp [putIn_len]

def Asc (l : List Int) : Prop := l.Pairwise (fun x y => x < y)
theorem asc_ext : ∀ (a b : List Int), Asc a → Asc b → (∀ x, x ∈ a ↔ x ∈ b) → a = b
  | [], [], _, _, _ => rfl
  | [], y :: b, _, _, h => by have := (h y).2 (List.mem_cons_self ..); cases this
  | x :: a, [], _, _, h => by have := (h x).1 (List.mem_cons_self ..); cases this
  | x :: a, y :: b, ha, hb, h => by
    have ha' := List.pairwise_cons.1 ha
    have hb' := List.pairwise_cons.1 hb
    have e : x = y := by
      rcases List.mem_cons.1 ((h x).1 (List.mem_cons_self ..)) with h1 | h1
      · exact h1
      · rcases List.mem_cons.1 ((h y).2 (List.mem_cons_self ..)) with h2 | h2
        · exact h2.symm
        · have := hb'.1 x h1
          have := ha'.1 y h2
          omega
    subst e
    congr 1
    refine asc_ext a b ha'.2 hb'.2 (fun z => ⟨fun hz => ?_, fun hz => ?_⟩)
    · rcases List.mem_cons.1 ((h z).1 (List.mem_cons_of_mem _ hz)) with h1 | h1
      · have := ha'.1 z hz; omega
      · exact h1
    · rcases List.mem_cons.1 ((h z).2 (List.mem_cons_of_mem _ hz)) with h1 | h1
      · have := hb'.1 z hz; omega
      · exact h1
def putA : List Int → Int → List Int
  | [], n => [n]
  | x :: r, n => if x < n then x :: putA r n else if x = n then x :: r else n :: x :: r
theorem putA_mem (n z : Int) : ∀ l : List Int, z ∈ putA l n ↔ z = n ∨ z ∈ l
  | [] => by simp [putA]
  | x :: r => by
    simp only [putA]
    by_cases h1 : x < n
    · rw [if_pos h1, List.mem_cons, putA_mem n z r, List.mem_cons]
      exact ⟨fun h => by rcases h with h | h | h <;> simp [h], fun h => by rcases h with h | h | h <;> simp [h]⟩
    · rw [if_neg h1]
      by_cases h2 : x = n
      · rw [if_pos h2, List.mem_cons]
        refine ⟨fun h => .inr h, fun h => ?_⟩
        rcases h with h | h
        · exact .inl (by omega)
        · exact h
      · rw [if_neg h2, List.mem_cons]
theorem putA_asc (n : Int) : ∀ l : List Int, Asc l → Asc (putA l n)
  | [], _ => List.pairwise_singleton _ _
  | x :: r, h => by
    have h' := List.pairwise_cons.1 h
    simp only [putA]
    by_cases h1 : x < n
    · rw [if_pos h1]
      refine List.pairwise_cons.2 ⟨fun z hz => ?_, putA_asc n r h'.2⟩
      rcases (putA_mem n z r).1 hz with e | e
      · omega
      · exact h'.1 z e
    · rw [if_neg h1]
      by_cases h2 : x = n
      · rw [if_pos h2]; exact h
      · rw [if_neg h2]
        refine List.pairwise_cons.2 ⟨fun z hz => ?_, h⟩
        rcases List.mem_cons.1 hz with e | e
        · omega
        · have := h'.1 z e; omega
theorem putA_len (n : Int) : ∀ l : List Int, (putA l n).length ≤ l.length + 1
  | [] => by simp [putA]
  | x :: r => by
    simp only [putA]
    by_cases h1 : x < n
    · rw [if_pos h1, List.length_cons, List.length_cons]
      have := putA_len n r
      omega
    · rw [if_neg h1]
      split <;> simp

theorem sortedA_mem (l : List Int) (z : Int) : z ∈ Srt.sorted l ↔ z ∈ l := (List.mergeSort_perm l _).mem_iff
theorem sortedA_pw (l : List Int) : (Srt.sorted l).Pairwise (fun x y => x ≤ y) := by
  have h := List.pairwise_mergeSort (le := fun x y : Int => decide (x ≤ y)) (fun a b c h1 h2 => by simp only [decide_eq_true_eq] at *; omega) (fun a b => by simp only [Bool.or_eq_true, decide_eq_true_eq]; omega) l
  exact h.imp (fun h => by simpa using h)
theorem get_le {l : List Int} (h : l.Pairwise (fun x y => x ≤ y)) {i j : Nat} (hij : i ≤ j) (hj : j < l.length) : l.toArray[i]! ≤ l.toArray[j]! := by
  rcases Nat.lt_or_eq_of_le hij with hlt | rfl
  · have := List.pairwise_iff_getElem.1 h i j (by omega) hj hlt
    simpa [show i < l.length by omega, hj] using this
  · exact Int.le_refl _
theorem compact_asc {l : List Int} (h : l.Pairwise (fun x y => x ≤ y)) : Asc (Go.Lib.compact l) := by
  unfold Asc Go.Lib.compact Go.Lib.compactUpTo
  rw [List.pairwise_map]
  refine List.Pairwise.imp_of_mem ?_ (List.Pairwise.filter _ List.pairwise_lt_range)
  intro i j hi hj hij
  rw [List.mem_filter, List.mem_range] at hi hj
  have hk := hj.2
  unfold Go.Lib.keeps at hk
  rw [decide_eq_true_iff] at hk
  have hne := hk.resolve_left (by omega)
  have h1 := get_le h (show i ≤ j - 1 by omega) (by omega)
  have h2 := get_le h (show j - 1 ≤ j by omega) hj.1
  omega
theorem compact_mem (l : List Int) (z : Int) : z ∈ Go.Lib.compact l ↔ z ∈ l := by
  unfold Go.Lib.compact Go.Lib.compactUpTo
  rw [List.mem_map]
  constructor
  · rintro ⟨j, hj, rfl⟩
    rw [List.mem_filter, List.mem_range] at hj
    simp [hj.1]
  · intro hz
    obtain ⟨i, hi, rfl⟩ := List.getElem_of_mem hz
    have key : ∀ (n i : Nat), i ≤ n → (hi : i < l.length) → ∃ j, j ∈ (List.range l.length).filter (Go.Lib.keeps l.toArray) ∧ l.toArray[j]! = l[i] := by
      intro n
      induction n with
      | zero =>
        intro i hin hi
        have e : i = 0 := by omega
        subst e
        exact ⟨0, by rw [List.mem_filter, List.mem_range]; exact ⟨hi, by simp [Go.Lib.keeps]⟩, by simp [hi]⟩
      | succ n ih =>
        intro i hin hi
        by_cases hk : Go.Lib.keeps l.toArray i = true
        · exact ⟨i, by rw [List.mem_filter, List.mem_range]; exact ⟨hi, hk⟩, by simp [hi]⟩
        · unfold Go.Lib.keeps at hk
          rw [decide_eq_true_iff, not_or] at hk
          have h2 : l.toArray[i]! = l.toArray[i - 1]! := Classical.byContradiction (fun hh => hk.2 hh)
          obtain ⟨j, hj, e⟩ := ih (i - 1) (by omega) (by omega)
          refine ⟨j, hj, e.trans ?_⟩
          simpa [hi, show i - 1 < l.length by omega] using h2.symm
    exact key i i (Nat.le_refl _) hi
theorem united_is {a b : List Int} (hb : Asc b) (h : ∀ z, z ∈ a ↔ z ∈ b) : Go.Lib.compact (Srt.sorted a) = b :=
  asc_ext _ _ (compact_asc (sortedA_pw a)) hb (fun z => by rw [compact_mem, sortedA_mem]; exact h z)

noncomputable def putF : List S47 → List S51 → List S51 × List Int
  | [], out => (out, [])
  | x :: r, out => ((putF r (putAway out x.f0 x.f1 x.f2 x.f3 x.f4).1).1, if (putAway out x.f0 x.f1 x.f2 x.f3 x.f4).2 = true then (putF r (putAway out x.f0 x.f1 x.f2 x.f3 x.f4).1).2 else x.f0 :: (putF r (putAway out x.f0 x.f1 x.f2 x.f3 x.f4).1).2)
theorem putF_len : ∀ (l : List S47) (out : List S51), (putF l out).1.length = out.length ∧ (putF l out).2.length ≤ l.length
  | [], out => ⟨rfl, Nat.le_refl _⟩
  | x :: r, out => by
    have h := putF_len r (putAway out x.f0 x.f1 x.f2 x.f3 x.f4).1
    rw [putAway_len] at h
    rw [putF]
    refine ⟨h.1, ?_⟩
    dsimp only
    split
    · rw [List.length_cons]; omega
    · rw [List.length_cons, List.length_cons]; omega
theorem putF_sub : ∀ (l : List S47) (out : List S51), (putF l out).2.Sublist (l.map (fun x => x.f0))
  | [], out => List.Sublist.refl _
  | x :: r, out => by
    have h := putF_sub r (putAway out x.f0 x.f1 x.f2 x.f3 x.f4).1
    rw [putF, List.map_cons]
    dsimp only
    split
    · exact h.cons _
    · exact h.cons_cons _
theorem foldP_mem (z : Int) : ∀ (b a : List Int), z ∈ b.foldl putA a ↔ z ∈ a ∨ z ∈ b
  | [], a => by simp
  | y :: b, a => by
    rw [List.foldl_cons, foldP_mem z b (putA a y), putA_mem, List.mem_cons]
    exact ⟨fun h => by rcases h with (h | h) | h <;> simp [h], fun h => by rcases h with h | h | h <;> simp [h]⟩
theorem foldP_asc : ∀ (b a : List Int), Asc a → Asc (b.foldl putA a)
  | [], a, h => h
  | y :: b, a, h => foldP_asc b (putA a y) (putA_asc y a h)
theorem foldP_len : ∀ (b a : List Int), (b.foldl putA a).length ≤ a.length + b.length
  | [], a => Nat.le_refl _
  | y :: b, a => by
    have h := foldP_len b (putA a y)
    have h2 := putA_len y a
    rw [List.foldl_cons, List.length_cons]
    omega
theorem sorted_fold (l : List Int) (h : l.Nodup) : Srt.sorted l = l.foldl putA [] := by
  refine asc_ext _ _ ?_ (foldP_asc l [] List.Pairwise.nil) (fun z => by rw [sortedA_mem, foldP_mem]; simp)
  have h1 := sortedA_pw l
  have h2 : (Srt.sorted l).Nodup := (List.mergeSort_perm l _).nodup_iff.2 h
  exact (h1.and h2).imp (fun h => by have := h.1; have := h.2; omega)
theorem things_lt {l : List S47} (h : areThings l = true) : ∀ (d i j : Nat), i + d + 1 = j → j < l.length → (rd_T47 l (i : Int)).f0 < (rd_T47 l (j : Int)).f0 := by
  unfold areThings at h
  rw [Bool.and_eq_true, allF_all] at h
  intro d
  induction d with
  | zero =>
    intro i j e hj
    have h1 := (h.1 j hj).2 (by omega)
    rw [show (j : Int) - 1 = (i : Int) by omega] at h1
    exact h1
  | succ d ih =>
    intro i j e hj
    have h0 := ih i (j - 1) (by omega) (by omega)
    have h1 := (h.1 j hj).2 (by omega)
    rw [show (j : Int) - 1 = ((j - 1 : Nat) : Int) by omega] at h1
    omega
theorem things_nodup {l : List S47} (h : areThings l = true) : (l.map (fun x => x.f0)).Nodup := by
  rw [List.nodup_iff_pairwise_ne, List.pairwise_map, List.pairwise_iff_getElem]
  intro i j hi hj hij
  have := things_lt h (j - i - 1) i j (by omega) hj
  rw [rdThing_at, rdThing_at, getD_get l i _ hi, getD_get l j _ hj] at this
  omega
theorem things_len {l : List S47} (h : areThings l = true) : l.length ≤ 20 := by
  unfold areThings at h
  rw [Bool.and_eq_true, decide_eq_true_iff] at h
  omega

theorem l1In (a b c : Int) : spec_l1In.f a b c = some (inR a b c) := by
  unfold spec_l1In.f inR
  by_cases h : b ≤ a <;> simp [h]

theorem spec_IsThing_is (a b c d e : Int) : spec_IsThing.f a b c d e = some (inR a 1 999 && inR b 1 8 && inR c 0 7 && inR d 1 50 && inR e 0 10000000) := by
  unfold spec_IsThing.f
  simp only [l1In, Option.bind_some]
  cases inR a 1 999 <;> cases inR b 1 8 <;> cases inR c 0 7 <;> cases inR d 1 50 <;> simp

theorem spec_AreThings_l0 (l : List S47) (hn : l.length ≤ 1048576) : ∀ (d i : Nat), i + d = l.length → spec_AreThings.L0 l (i : Int) = some (allF (okThing l) l.length i && decide ((l.length : Int) ≤ 20))
  | 0, i, h => by rw [spec_AreThings.L0_eq, if_neg (by omega), allF_end (by omega)]; rfl
  | d + 1, i, h => by
    have hi : i < l.length := by omega
    have ih := spec_AreThings_l0 l hn d (i + 1) (by omega)
    have ht : spec_IsThing.f (rd_T47 l (i : Int)).f0 (rd_T47 l (i : Int)).f1 (rd_T47 l (i : Int)).f2 (rd_T47 l (i : Int)).f3 (rd_T47 l (i : Int)).f4 = some (isThingW (rd_T47 l (i : Int))) := spec_IsThing_is ..
    rw [spec_AreThings.L0_eq, if_pos (by omega), if_pos (by omega), ht, Option.bind_some, wrap_pred i (by omega), wrap_succ i (by omega), ih]
    by_cases c1 : isThingW (rd_T47 l (i : Int)) = true
    · rw [if_pos c1]
      by_cases c0 : (i : Int) > 0
      · rw [if_pos c0, if_pos (by omega), if_pos (by omega)]
        by_cases c2 : (rd_T47 l ((i : Int) - 1)).f0 ≥ (rd_T47 l (i : Int)).f0
        · rw [if_pos c2, allF_no hi (fun h => absurd (h.2 c0) (by omega))]; rfl
        · have hp : okThing l i := ⟨c1, fun _ => by omega⟩
          rw [if_neg c2, allF_yes hp]
      · have hp : okThing l i := ⟨c1, fun hh => absurd hh c0⟩
        rw [if_neg c0, allF_yes hp]
    · rw [if_neg c1, allF_no hi (fun h => c1 h.1)]; rfl
theorem spec_AreThings_is (l : List S47) (hn : l.length ≤ 1048576) : spec_AreThings.F l = some (areThings l) := by
  rw [spec_AreThings.F_eq, areThings]
  exact spec_AreThings_l0 l hn l.length 0 (by omega)

theorem failed_nodup {l : List S47} (h : areThings l = true) (out : List S51) : (putF (stabL l) out).2.Nodup := by
  refine (putF_sub (stabL l) out).nodup ?_
  have hp : (stabL l).Perm l := by
    have := foldD_perm l []
    rw [List.append_nil] at this
    rw [stabL_is]
    exact this
  exact ((hp.map (fun x => x.f0)).nodup_iff).2 (things_nodup h)
theorem stabL_len (l : List S47) : (stabL l).length = l.length := by
  rw [stabL_is, foldD_len]
  simp
open Classical in
noncomputable def allPut (l : List S51) (t : List S47) : List S51 × List Int := if areSlots l = true ∧ areThings t = true then ((putF (stabL t) l).1, (putF (stabL t) l).2.foldl putA []) else (l, [])
theorem allPut_len (l : List S51) (t : List S47) : (allPut l t).1.length = l.length ∧ (allPut l t).2.length ≤ t.length := by
  unfold allPut
  split
  · have h := putF_len (stabL t) l
    have h2 := foldP_len (putF (stabL t) l).2 []
    rw [stabL_len] at h
    simp only [List.length_nil, Nat.zero_add] at h2
    exact ⟨h.1, Nat.le_trans h2 h.2⟩
  · exact ⟨rfl, Nat.zero_le _⟩

noncomputable def takeOut (l : List S51) (t : Int) : List S51 × Bool := if areSlots l = true ∧ 0 ≤ slotAt l t then (putIn l (slotAt l t).toNat 0, true) else (l, false)
theorem takeOut_len (l : List S51) (t : Int) : (takeOut l t).1.length = l.length := by
  unfold takeOut
  split <;> simp [putIn_len]

def freeSlots : List S51 → Int
  | [] => 0
  | x :: r => (if x.f2 = 0 then 1 else 0) + freeSlots r
theorem freeSlots_bd : ∀ (l : List S51), 0 ≤ freeSlots l ∧ freeSlots l ≤ l.length
  | [] => by simp [freeSlots]
  | x :: r => by
    have := freeSlots_bd r
    simp only [freeSlots, List.length_cons]
    split <;> omega
def largestFree : List S51 → Int → Int
  | [], a => a
  | x :: r, a => largestFree r (if x.f2 = 0 then (if x.f1 > a then x.f1 else a) else a)

theorem slots_once2 {l : List S51} (h : areSlots l = true) {j m : Nat} (hj : j < l.length) (hm : m < l.length) (hne : j ≠ m) (h0 : (rd_T51 l (m : Int)).f2 ≠ 0) : (rd_T51 l (j : Int)).f2 ≠ (rd_T51 l (m : Int)).f2 := by
  have key : ∀ a c : Nat, a < c → c < l.length → (rd_T51 l (c : Int)).f2 ≠ 0 → (rd_T51 l (a : Int)).f2 ≠ (rd_T51 l (c : Int)).f2 := by
    intro a c hac hc hc0
    have := ((areSlots_ok h).1 c hc).2.2.2.2
    unfold freshB at this
    rw [decide_eq_false hc0, Bool.false_or, allF_all] at this
    exact this a hac
  rcases Nat.lt_or_gt_of_ne hne with hlt | hgt
  · exact key j m hlt hm h0
  · intro e
    exact key m j hgt hj (by rw [e]; exact h0) e.symm
theorem best_free (l : List S51) (size : Int) : ∀ (d i : Nat) (b : Int), (b < 0 ∨ ((rd_T51 l b).f2 = 0 ∧ (rd_T51 l b).f1 ≥ size)) → bestSlot l size d i b < 0 ∨ ((rd_T51 l (bestSlot l size d i b)).f2 = 0 ∧ (rd_T51 l (bestSlot l size d i b)).f1 ≥ size)
  | 0, i, b, h => h
  | d + 1, i, b, h => by
    simp only [bestSlot]
    refine best_free l size d (i + 1) _ ?_
    split
    · rename_i hc
      exact .inr ⟨hc.1, hc.2.1⟩
    · exact h
theorem put_ok {l : List S51} (h : areSlots l = true) (j : Nat) (hj : j < l.length) (t : Int) (ht : 0 ≤ t ∧ t ≤ 999) (hf : t = 0 ∨ ∀ q : Nat, q < l.length → q ≠ j → (rd_T51 l (q : Int)).f2 ≠ t) : areSlots (putIn l j t) = true := by
  have h1 := areSlots_ok h
  have r0 : ∀ q : Nat, (rd_T51 (putIn l j t) (q : Int)).f0 = (rd_T51 l (q : Int)).f0 := fun q => by
    rw [putIn_rd]; split
    · rename_i e; rw [e.1]
    · rfl
  have r1 : ∀ q : Nat, (rd_T51 (putIn l j t) (q : Int)).f1 = (rd_T51 l (q : Int)).f1 := fun q => by
    rw [putIn_rd]; split
    · rename_i e; rw [e.1]
    · rfl
  have r2 : ∀ q : Nat, (rd_T51 (putIn l j t) (q : Int)).f2 = if q = j then t else (rd_T51 l (q : Int)).f2 := fun q => by
    rw [putIn_rd]
    by_cases e : q = j
    · rw [if_pos ⟨e, hj⟩, if_pos e]
    · rw [if_neg (fun hh => e hh.1), if_neg e]
  unfold areSlots
  rw [Bool.and_eq_true, allF_all, decide_eq_true_iff, putIn_len]
  refine ⟨fun i hi => ?_, by have := h1.2; omega⟩
  obtain ⟨k0, k1, k2, k3, k4⟩ := h1.1 i hi
  refine ⟨by rw [r0]; exact k0, fun hp => ?_, by rw [r1]; exact k2, ?_, ?_⟩
  · have e : (i : Int) - 1 = ((i - 1 : Nat) : Int) := by omega
    have := k1 hp
    rw [e] at this ⊢
    rw [r0, r0]
    exact this
  · rw [r2]
    split
    · exact inR_iff.2 ht
    · exact k3
  · unfold freshB
    rw [Bool.or_eq_true, decide_eq_true_iff, allF_all]
    by_cases hz : (rd_T51 (putIn l j t) (i : Int)).f2 = 0
    · exact .inl hz
    · refine .inr (fun q hq => ?_)
      rw [r2] at hz
      rw [r2, r2]
      by_cases ei : i = j
      · rw [if_pos ei] at hz
        rw [if_pos ei, if_neg (by omega)]
        rcases hf with hf | hf
        · exact absurd hf hz
        · exact hf q (by omega) (by omega)
      · rw [if_neg ei] at hz
        rw [if_neg ei]
        by_cases eq : q = j
        · rw [if_pos eq]
          rcases hf with hf | hf
          · rw [hf]; exact fun hh => hz hh.symm
          · exact fun hh => hf i hi ei hh.symm
        · rw [if_neg eq]
          exact slots_once2 h (by omega) hi (by omega) hz
def one0 (x : S51) : Int := if x.f2 = 0 then 1 else 0
theorem free_set : ∀ (l : List S51) (j : Nat) (v : S51), j < l.length → freeSlots (l.set j v) = freeSlots l - one0 (l.getD j z51) + one0 v
  | [], j, v, h => absurd h (Nat.not_lt_zero _)
  | x :: r, 0, v, h => by
    simp only [List.set_cons_zero, freeSlots, List.getD_cons_zero, one0]
    omega
  | x :: r, j + 1, v, h => by
    have ih := free_set r j v (by simpa using h)
    simp only [List.set_cons_succ, freeSlots, List.getD_cons_succ, ih]
    omega
theorem free_put (l : List S51) (j : Nat) (t : Int) (hj : j < l.length) : freeSlots (putIn l j t) = freeSlots l - (if (rd_T51 l (j : Int)).f2 = 0 then 1 else 0) + (if t = 0 then 1 else 0) := by
  rw [putIn, free_set l j _ hj, rdSlot_at]
  rfl
theorem put_back (l : List S51) (j : Nat) (t : Int) (hj : j < l.length) (h0 : (rd_T51 l (j : Int)).f2 = 0) : putIn (putIn l j t) j 0 = l := by
  have e := putIn_rd l j t j
  rw [if_pos ⟨rfl, hj⟩] at e
  have e1 : putIn (putIn l j t) j 0 = (putIn l j t).set j ⟨(rd_T51 l (j : Int)).f0, (rd_T51 l (j : Int)).f1, 0⟩ := by
    conv => lhs; unfold putIn
    rw [show ((rd_T51 (l.set j ⟨(rd_T51 l (j : Int)).f0, (rd_T51 l (j : Int)).f1, t⟩) (j : Int))) = ⟨(rd_T51 l (j : Int)).f0, (rd_T51 l (j : Int)).f1, t⟩ from e]
    rfl
  rw [e1, putIn, List.set_set]
  have e2 : (⟨(rd_T51 l (j : Int)).f0, (rd_T51 l (j : Int)).f1, 0⟩ : S51) = l[j] := by
    have e3 : rd_T51 l (j : Int) = l[j] := by rw [rdSlot_at, getD_get l j _ hj]
    rw [← e3, ← h0]
  rw [e2, List.set_getElem_self]
theorem mem_rd {l : List S51} {x : S51} (hx : x ∈ l) : ∃ q : Nat, q < l.length ∧ rd_T51 l (q : Int) = x := by
  obtain ⟨q, hq, e⟩ := List.getElem_of_mem hx
  exact ⟨q, hq, by rw [rdSlot_at, getD_get l q _ hq, e]⟩
theorem rd_mem {l : List S51} (q : Nat) (hq : q < l.length) : rd_T51 l (q : Int) ∈ l := by
  rw [rdSlot_at, getD_get l q _ hq]
  exact List.getElem_mem _
theorem at_put {l : List S51} (j : Nat) (hj : j < l.length) (t : Int) (h0 : t ≠ 0) (hf : ∀ q : Nat, q < l.length → (rd_T51 l (q : Int)).f2 ≠ t) : slotAt (putIn l j t) t = (j : Int) := by
  rcases slotAt_cases (putIn l j t) t with ⟨_, h1⟩ | ⟨_, q, h1, h2, h3, _⟩
  · exfalso
    rcases h1 with h1 | h1
    · exact h0 h1
    · have := h1 _ (rd_mem (l := putIn l j t) j (by rw [putIn_len]; exact hj))
      rw [putIn_rd, if_pos ⟨rfl, hj⟩] at this
      exact this rfl
  · rw [putIn_len] at h1
    rw [putIn_rd] at h3
    by_cases e : q = j
    · rw [h2, e]
    · rw [if_neg (fun hh => e hh.1)] at h3
      exact absurd h3 (hf q h1)
theorem slotOf_put {l : List S51} (j : Nat) (hj : j < l.length) (t : Int) (h0 : t ≠ 0) (hf : ∀ q : Nat, q < l.length → (rd_T51 l (q : Int)).f2 ≠ t) : slotOf (putIn l j t) t = (rd_T51 l (j : Int)).f0 := by
  rw [← slotOf_slotAt, at_put j hj t h0 hf, if_neg (by omega), putIn_rd, if_pos ⟨rfl, hj⟩]

theorem at_keep (l : List S51) (x a b c d e : Int) (h : 0 ≤ slotAt l x) : 0 ≤ slotAt (putAway l a b c d e).1 x := by
  unfold putAway
  by_cases hc : areSlots l = true ∧ isThing a b c d e = true ∧ 0 ≤ bestSlot l d l.length 0 (-1) ∧ slotAt l a < 0
  · rw [if_pos hc]
    dsimp only
    have hbd := bestSlot_bd l d l.length 0 (-1) (by omega) (by omega) (by omega)
    have hfree := best_free l d l.length 0 (-1) (.inl (by omega))
    obtain ⟨j, hjj⟩ : ∃ j : Nat, bestSlot l d l.length 0 (-1) = (j : Int) := ⟨(bestSlot l d l.length 0 (-1)).toNat, by omega⟩
    rw [hjj] at hbd hfree ⊢
    rw [Int.toNat_natCast]
    have hfr := hfree.resolve_left (by omega)
    rcases slotAt_cases l x with ⟨h1, _⟩ | ⟨h0, q, hq, h1, h2, _⟩
    · omega
    · have hne : q ≠ j := by
        intro e1
        rw [e1, hfr.1] at h2
        exact h0 h2.symm
      rcases slotAt_cases (putIn l j a) x with ⟨_, h4⟩ | ⟨_, q2, _, h4, _, _⟩
      · exfalso
        rcases h4 with h4 | h4
        · exact h0 h4
        · have := h4 _ (rd_mem (l := putIn l j a) q (by rw [putIn_len]; exact hq))
          rw [putIn_rd, if_neg (fun hh => hne hh.1)] at this
          exact this h2
      · omega
  · rw [if_neg hc]
    exact h
theorem putF_held : ∀ (ys : List S47) (out : List S51) (x : S47), x ∈ ys → 0 ≤ slotAt out x.f0 → (putF ys out).2 ≠ []
  | [], _, _, hx, _ => absurd hx List.not_mem_nil
  | y :: r, out, x, hx, h => by
    rw [putF]
    dsimp only
    by_cases c : (putAway out y.f0 y.f1 y.f2 y.f3 y.f4).2 = true
    · rw [if_pos c]
      rcases List.mem_cons.1 hx with e | hx
      · exfalso
        subst e
        unfold putAway at c
        rw [if_neg (fun hh => by have := hh.2.2.2; omega)] at c
        cases c
      · exact putF_held r _ x hx (at_keep _ _ _ _ _ _ _ h)
    · rw [if_neg c]
      exact List.cons_ne_nil _ _
theorem stabL_mem (l : List S47) (x : S47) : x ∈ stabL l ↔ x ∈ l := by
  have := foldD_perm l []
  rw [List.append_nil] at this
  rw [stabL_is]
  exact this.mem_iff
open Classical in
noncomputable def canHold (l : List S51) (t : List S47) : Bool := if areSlots l = true ∧ areThings t = true then ((allPut l t).2.length : Int) == 0 else false
theorem canHold_no (l : List S51) (t : List S47) (x : S47) (hx : x ∈ t) (h : slotOf l x.f0 ≠ 0) : canHold l t = false := by
  unfold canHold
  by_cases hc : areSlots l = true ∧ areThings t = true
  · rw [if_pos hc]
    have e := slotOf_slotAt l x.f0
    have h0 : 0 ≤ slotAt l x.f0 := by
      by_cases c : slotAt l x.f0 < 0
      · rw [if_pos c] at e; exact absurd e.symm h
      · omega
    have h1 := putF_held (stabL t) l x ((stabL_mem t x).2 hx) h0
    have h2 : (putF (stabL t) l).2.foldl putA [] ≠ [] := by
      obtain ⟨z, r, e2⟩ := List.exists_cons_of_ne_nil h1
      have : z ∈ (putF (stabL t) l).2.foldl putA [] := (foldP_mem z _ _).2 (.inr (by rw [e2]; simp))
      exact List.ne_nil_of_mem this
    have h3 := List.length_pos_iff.2 h2
    unfold allPut
    rw [if_pos hc]
    dsimp only
    simp only [beq_eq_false_iff_ne]
    omega
  · rw [if_neg hc]
theorem rdT_mem {l : List S47} (q : Nat) (hq : q < l.length) : rd_T47 l (q : Int) ∈ l := by
  rw [rdThing_at, getD_get l q _ hq]
  exact List.getElem_mem _

theorem spec_SlotOf_l0 (l : List S51) (t : Int) (hn : l.length ≤ 1048576) : ∀ (d i : Nat), i + d = l.length → spec_SlotOf.L0 l t (i : Int) = some (slotOf (l.drop i) t)
  | 0, i, h => by rw [spec_SlotOf.L0_eq, if_neg (by omega), List.drop_of_length_le (by omega)]; rfl
  | d + 1, i, h => by
    rw [spec_SlotOf.L0_eq, if_pos (by omega), wrap_succ i (by omega), spec_SlotOf_l0 l t hn d (i + 1) (by omega), dropSlot l i (by omega)]
    simp only [slotOf]
    by_cases c0 : t = 0
    · rw [if_pos c0, if_neg (fun hh => hh.1 c0)]
    · rw [if_neg c0, if_pos (by omega)]
      by_cases c : (rd_T51 l (i : Int)).f2 = t
      · rw [if_pos c, if_pos ⟨c0, c⟩]
      · rw [if_neg c, if_neg (fun hh => c hh.2)]
theorem spec_SlotOf_is (l : List S51) (t : Int) (hn : l.length ≤ 1048576) : spec_SlotOf.F l t = some (slotOf l t) := by
  rw [spec_SlotOf.F_eq]
  exact spec_SlotOf_l0 l t hn l.length 0 (by omega)

theorem spec_AreSlots_l1 (l : List S51) (hn : l.length ≤ 1048576) (i : Nat) (hi : i < l.length) : ∀ (d m : Nat), m + d = i → spec_AreSlots.L1 l (i : Int) (m : Int) = if (decide ((rd_T51 l i).f2 = 0) || allF (fun q : Nat => (rd_T51 l q).f2 ≠ (rd_T51 l i).f2) i m) = true then spec_AreSlots.L0 l ((i + 1 : Nat) : Int) else some false
  | 0, m, h => by
    rw [spec_AreSlots.L1_eq, if_neg (by omega), allF_end (by omega), Bool.or_true, if_pos rfl, wrap_succ i (by omega)]
  | d + 1, m, h => by
    have hm : m < i := by omega
    rw [spec_AreSlots.L1_eq, if_pos (by omega), if_pos (by omega), if_pos (by omega), wrap_succ m (by omega), spec_AreSlots_l1 l hn i hi d (m + 1) (by omega)]
    by_cases c0 : (rd_T51 l (i : Int)).f2 = 0
    · rw [if_pos c0, decide_eq_true c0, Bool.true_or, Bool.true_or]
    · rw [if_neg c0, decide_eq_false c0, Bool.false_or, Bool.false_or, if_pos (by omega), if_pos (by omega)]
      by_cases c : (rd_T51 l (m : Int)).f2 = (rd_T51 l (i : Int)).f2
      · rw [if_pos c, allF_no hm (fun hh => hh c), if_neg (by decide)]
      · rw [if_neg c, allF_yes (p := fun q : Nat => (rd_T51 l q).f2 ≠ (rd_T51 l i).f2) (n := i) (i := m) c]
theorem spec_AreSlots_l0 (l : List S51) (hn : l.length ≤ 1048576) : ∀ (d i : Nat), i + d = l.length → spec_AreSlots.L0 l (i : Int) = some (allF (okSlot l) l.length i && decide ((l.length : Int) ≤ 30))
  | 0, i, h => by rw [spec_AreSlots.L0_eq, if_neg (by omega), allF_end (by omega)]; rfl
  | d + 1, i, h => by
    have hi : i < l.length := by omega
    have ih := spec_AreSlots_l0 l hn d (i + 1) (by omega)
    have h1 := spec_AreSlots_l1 l hn i hi i 0 (by omega)
    have h1' : spec_AreSlots.L1 l (i : Int) 0 = if freshB l i = true then spec_AreSlots.L0 l ((i + 1 : Nat) : Int) else some false := h1
    rw [spec_AreSlots.L0_eq]
    simp only [wrap_pred i (by omega), l1In, Option.bind_some, spec_AreSlots.J1_eq, h1', ih, decide_eq_true_eq, Bool.false_eq_true, if_false, if_true]
    by_cases hp_ : okSlot l i
    · rw [allF_yes hp_]
      simp only [okSlot] at hp_
      obtain ⟨h1_, h2_, h3_, h4_, h5_⟩ := hp_
      repeat' split
      all_goals first
        | rfl
        | (exfalso; first | contradiction | omega)
    · rw [allF_no hi hp_]
      repeat' split
      all_goals first
        | rfl
        | (simp; done)
        | (exfalso; first | contradiction | omega)
        | (exfalso; apply hp_; simp only [okSlot]; (repeat' constructor) <;> first | assumption | (intro _; omega) | omega)
theorem spec_AreSlots_is (l : List S51) (hn : l.length ≤ 1048576) : spec_AreSlots.F l = some (areSlots l) := by
  rw [spec_AreSlots.F_eq, areSlots]
  exact spec_AreSlots_l0 l hn l.length 0 (by omega)

theorem spec_SmallestFree_l0 (l : List S51) (size : Int) (hn : l.length ≤ 1048576) : ∀ (d i : Nat) (b : Int), i + d = l.length → b < i → -1 ≤ b → spec_SmallestFree.L0 l size b (i : Int) = some (freeId l (bestSlot l size d i b))
  | 0, i, b, h, h1, h2 => by
    rw [spec_SmallestFree.L0_eq, if_neg (by omega)]
    show _ = some (freeId l b)
    unfold freeId
    by_cases c : b < 0
    · rw [if_pos c, if_pos c]
    · rw [if_neg c, if_neg c, if_pos (by omega), if_pos (by omega)]
  | d + 1, i, b, h, h1, h2 => by
    have hi : i < l.length := by omega
    rw [spec_SmallestFree.L0_eq, if_pos (by omega), if_pos (by omega)]
    simp only [wrap_succ i (by omega), bestSlot]
    by_cases c1 : (rd_T51 l (i : Int)).f2 = 0
    · by_cases c2 : (rd_T51 l (i : Int)).f1 ≥ size
      · by_cases c3 : b < 0
        · rw [if_pos c1, if_pos c2, if_pos c3, if_pos ⟨c1, c2, .inl c3⟩]
          exact spec_SmallestFree_l0 l size hn d (i + 1) _ (by omega) (by omega) (by omega)
        · by_cases c4 : (rd_T51 l (i : Int)).f1 < (rd_T51 l b).f1
          · rw [if_pos c1, if_pos c2, if_neg c3, if_pos (by omega), if_pos (by omega), if_pos c4, if_pos ⟨c1, c2, .inr c4⟩]
            exact spec_SmallestFree_l0 l size hn d (i + 1) _ (by omega) (by omega) (by omega)
          · rw [if_pos c1, if_pos c2, if_neg c3, if_pos (by omega), if_pos (by omega), if_neg c4, if_neg (fun h => h.2.2.elim c3 c4)]
            exact spec_SmallestFree_l0 l size hn d (i + 1) _ (by omega) (by omega) (by omega)
      · rw [if_pos c1, if_neg c2, if_neg (fun h => c2 h.2.1)]
        exact spec_SmallestFree_l0 l size hn d (i + 1) _ (by omega) (by omega) (by omega)
    · rw [if_neg c1, if_neg (fun h => c1 h.1)]
      exact spec_SmallestFree_l0 l size hn d (i + 1) _ (by omega) (by omega) (by omega)
theorem spec_SmallestFree_is (l : List S51) (size : Int) (hn : l.length ≤ 1048576) : spec_SmallestFree.F l size = some (smallestFree l size) := by
  rw [spec_SmallestFree.F_eq]
  exact spec_SmallestFree_l0 l size hn l.length 0 (-1) (by omega) (by omega) (by omega)

theorem spec_PutAway_l0 (s : Int) (j : Nat) (a b c d e : Int) : ∀ (n i : Nat) (m : List S51), m.length ≤ 1048576 → i + n = m.length → j < m.length → (∀ q : Nat, q < m.length → ((rd_T51 m (q : Int)).f0 = s ↔ q = j)) → spec_PutAway.L0 m s (i : Int) a b c d e = some (if i ≤ j then putIn m j a else m, true)
  | 0, i, m, hn, h, hj, hq => by rw [spec_PutAway.L0_eq, if_neg (by omega), if_neg (by omega)]
  | n + 1, i, m, hn, h, hj, hq => by
    rw [spec_PutAway.L0_eq, if_pos (by omega), if_pos (by omega), wrap_succ i (by omega), Int.toNat_natCast]
    by_cases cc : (rd_T51 m (i : Int)).f0 = s
    · have e0 := (hq i (by omega)).1 cc
      subst e0
      rw [if_pos cc, if_pos (Nat.le_refl _)]
      have := spec_PutAway_l0 s i a b c d e n (i + 1) (putIn m i a) (by rw [putIn_len]; exact hn) (by rw [putIn_len]; omega) (by rw [putIn_len]; exact hj) (fun q hqq => by
        rw [putIn_len] at hqq
        rw [putIn_rd]
        by_cases e2 : q = i ∧ i < m.length
        · rw [if_pos e2]
          exact ⟨fun _ => e2.1, fun _ => cc⟩
        · rw [if_neg e2]
          exact hq q hqq)
      rw [if_neg (by omega)] at this
      exact this
    · have e0 : i ≠ j := fun e0 => cc ((hq i (by omega)).2 e0)
      rw [if_neg cc, spec_PutAway_l0 s j a b c d e n (i + 1) m hn (by omega) hj hq]
      by_cases e2 : i ≤ j
      · rw [if_pos e2, if_pos (by omega)]
      · rw [if_neg e2, if_neg (by omega)]
theorem spec_PutAway_is (l : List S51) (a b c d e : Int) (hn : l.length ≤ 1048576) : spec_PutAway.F l a b c d e = some (putAway l a b c d e) := by
  have hb := bestSlot_bd l d l.length 0 (-1) (by omega) (by omega) (by omega)
  have ht : spec_IsThing.f a b c d e = some (isThing a b c d e) := spec_IsThing_is ..
  have hf : smallestFree l d = if bestSlot l d l.length 0 (-1) < 0 then 0 else (rd_T51 l (bestSlot l d l.length 0 (-1))).f0 := rfl
  rw [spec_PutAway.F_eq, Option.bind_some, if_pos (by simp only [List.length_nil]; omega), List.nil_append, Option.bind_some, spec_SmallestFree_is l d hn, Option.bind_some, spec_AreSlots_is l hn, Option.bind_some, putAway, ht, Option.bind_some]
  by_cases h : areSlots l = true
  · rw [if_pos h]
    by_cases h1 : isThing a b c d e = true
    · rw [if_pos h1]
      by_cases h2 : bestSlot l d l.length 0 (-1) < 0
      · rw [if_pos h2] at hf
        rw [hf, if_pos rfl, spec_PutAway.J0_eq, if_pos rfl, if_neg (fun hh => by omega)]
      · obtain ⟨j, hj⟩ : ∃ j : Nat, bestSlot l d l.length 0 (-1) = (j : Int) := ⟨(bestSlot l d l.length 0 (-1)).toNat, by omega⟩
        rw [if_neg h2, hj] at hf
        have hjl : j < l.length := by omega
        have hid := slots_id h j hjl
        have es := slotOf_slotAt l a
        rw [hf, if_neg (by omega), spec_SlotOf_is l a hn, Option.bind_some, spec_PutAway.J0_eq]
        rcases slotAt_cases l a with ⟨h3, h4⟩ | ⟨h0, j', h3, h4, h5, h6⟩
        · have e0 : slotOf l a = 0 := by rw [← es, h3]; rfl
          rw [e0, if_neg (by decide), if_pos ⟨h, h1, by omega, by omega⟩, hj, Int.toNat_natCast]
          have := spec_PutAway_l0 (rd_T51 l (j : Int)).f0 j a b c d e l.length 0 l hn (by omega) hjl (fun q hq => slots_inj h q j hq hjl)
          rw [if_pos (Nat.zero_le _)] at this
          exact this
        · have hid' := slots_id h j' h3
          have e0 : slotOf l a = (rd_T51 l (j' : Int)).f0 := by rw [← es, h4, if_neg (by omega)]
          rw [e0, if_pos (by simp; omega), if_neg (fun hh => by omega)]
    · rw [if_neg h1, if_neg (fun hh => h1 hh.2.1), spec_PutAway.J0_eq, if_pos rfl]
  · rw [if_neg h, if_neg (fun hh => h hh.1), spec_PutAway.J0_eq, if_pos rfl]

theorem rdInt_at (l : List Int) (i : Nat) : rd l (i : Int) = l.getD i 0 := by simp [rd]
theorem dropInt (l : List Int) (i : Nat) (h : i < l.length) : l.drop i = rd l (i : Int) :: l.drop (i + 1) := by
  rw [rdInt_at, getD_get l i _ h]
  exact List.drop_eq_getElem_cons h

theorem spec_l9Put_l0 (l : List Int) (n : Int) (hl : l.length ≤ 2000000) : ∀ (d i : Nat), i + d = l.length → spec_l9Put.L0 l n (i : Int) = some (l.take i ++ putA (l.drop i) n)
  | 0, i, h => by
    have ht := List.length_take (i := i) (l := l)
    have hd := List.length_drop (i := i) (l := l)
    rw [spec_l9Put.L0_eq, if_neg (by omega), Option.bind_some, if_pos (by omega), if_pos (by omega), Int.toNat_natCast, List.nil_append, if_pos (by simp; omega), Option.bind_some, Option.bind_some, if_pos (by simp; omega), Option.bind_some, if_pos (by simp; omega), List.drop_of_length_le (by omega)]
    simp [putA]
  | d + 1, i, h => by
    rw [spec_l9Put.L0_eq, if_pos (by omega), if_pos (by omega), wrap_succ i (by omega), spec_l9Put_l0 l n hl d (i + 1) (by omega)]
    have e := dropInt l i (by omega)
    have e2 : l.take (i + 1) = l.take i ++ [rd l (i : Int)] := by
      rw [List.take_succ_eq_append_getElem (by omega)]
      congr 2
      simp [rd, show i < l.length by omega]
    by_cases h1 : rd l (i : Int) < n
    · rw [if_pos h1, e, putA, if_pos h1, e2]
      simp
    · rw [if_neg h1]
      by_cases h2 : rd l (i : Int) = n
      · rw [if_pos h2, Option.bind_some, if_pos (by simp; omega), e, putA, if_neg h1, if_pos h2, ← e, List.take_append_drop, List.nil_append]
      · rw [if_neg h2, Option.bind_some, if_pos (by omega), Int.toNat_natCast, List.nil_append, if_pos (by simp; omega), Option.bind_some, Option.bind_some, if_pos (by simp; omega), Option.bind_some, if_pos (by simp; omega), e, putA, if_neg h1, if_neg h2]
        simp
theorem spec_l9Put_is (l : List Int) (n : Int) (hl : l.length ≤ 2000000) : spec_l9Put.F l n = some (putA l n) := by
  have := spec_l9Put_l0 l n hl l.length 0 (by omega)
  rw [spec_l9Put.F_eq]
  simpa using this

theorem spec_PutAll_l0 (l : List S51) (t : List S47) (hl : areSlots l = true) (ht : areThings t = true) (hln : l.length ≤ 1048576) (htn : t.length ≤ 1048576) (x : List S47) (hx : x.length ≤ 1000) : ∀ (d i : Nat) (out : List S51) (left : List Int), i + d = x.length → out.length ≤ 1048576 → left.length ≤ i →
    spec_PutAll.L0 l t out left x (i : Int) = some ((putF (x.drop i) out).1, (putF (x.drop i) out).2.foldl putA left)
  | 0, i, out, left, h, ho, hle => by
    rw [spec_PutAll.L0_eq, if_neg (by omega), spec_PutAll.J1_eq, if_neg (by decide), List.drop_of_length_le (by omega)]
    rfl
  | d + 1, i, out, left, h, ho, hle => by
    have hp := putA_len (rd_T47 x (i : Int)).f0 left
    rw [spec_PutAll.L0_eq, if_pos (by omega), spec_AreSlots_is l hln, Option.bind_some, if_pos hl, spec_AreThings_is t htn, Option.bind_some, ht, spec_PutAll.J1_eq, if_pos rfl, if_pos (by omega), if_pos (by omega), spec_PutAway_is out _ _ _ _ _ ho, Option.bind_some, dropThing x i (by omega), putF, wrap_succ i (by omega)]
    generalize hA : putAway out (rd_T47 x (i : Int)).f0 (rd_T47 x (i : Int)).f1 (rd_T47 x (i : Int)).f2 (rd_T47 x (i : Int)).f3 (rd_T47 x (i : Int)).f4 = A
    have hAl : A.1.length ≤ 1048576 := by rw [← hA, putAway_len]; exact ho
    by_cases c : A.2 = true
    · rw [if_pos c, spec_PutAll_l0 l t hl ht hln htn x hx d (i + 1) A.1 left (by omega) hAl (by omega), if_pos c]
    · rw [if_neg c, spec_l9Put_is _ _ (by omega), Option.bind_some, spec_PutAll_l0 l t hl ht hln htn x hx d (i + 1) A.1 _ (by omega) hAl (by omega), if_neg c, List.foldl_cons]
theorem spec_PutAll_is (l : List S51) (t : List S47) (hln : l.length ≤ 1048576) (htn : t.length ≤ 1048576) : spec_PutAll.F l t = some (allPut l t) := by
  have hs : spec_l15Sorted.f t = some (stabL t) := by
    unfold spec_l15Sorted.f
    rw [if_pos (by omega), stabL_is]
  rw [spec_PutAll.F_eq, Option.bind_some, if_pos (by simp only [List.length_nil]; omega), List.nil_append, hs, Option.bind_some]
  unfold allPut
  by_cases hl : areSlots l = true
  · by_cases ht : areThings t = true
    · rw [if_pos ⟨hl, ht⟩]
      have h20 := things_len ht
      have hsl := stabL_len t
      exact spec_PutAll_l0 l t hl ht hln htn (stabL t) (by omega) (stabL t).length 0 l [] (by omega) hln (Nat.zero_le _)
    · rw [if_neg (fun hh => ht hh.2), spec_PutAll.L0_eq]
      have e : spec_PutAll.J1 l t l [] (stabL t) 0 false = some (l, []) := by rw [spec_PutAll.J1_eq, if_neg (by decide)]
      split
      · rw [spec_AreSlots_is l hln, Option.bind_some, if_pos hl, spec_AreThings_is t htn, Option.bind_some, Bool.eq_false_iff.2 ht]
        exact e
      · exact e
  · rw [if_neg (fun hh => hl hh.1), spec_PutAll.L0_eq]
    have e : spec_PutAll.J1 l t l [] (stabL t) 0 false = some (l, []) := by rw [spec_PutAll.J1_eq, if_neg (by decide)]
    split
    · rw [spec_AreSlots_is l hln, Option.bind_some, if_neg hl]
      exact e
    · exact e

theorem spec_CanHold_l0 (l : List S51) (t : List S47) (hl : l.length ≤ 1048576) (ht : t.length ≤ 1048576) : ∀ (d i : Nat), i + d = t.length → spec_CanHold.L0 l t (i : Int) = some (canHold l t)
  | 0, i, h => by
    rw [spec_CanHold.L0_eq, if_neg (by omega), spec_PutAll_is l t hl ht, Option.bind_some, spec_AreSlots_is l hl, Option.bind_some, spec_AreThings_is t ht]
    unfold canHold
    by_cases h1 : areSlots l = true
    · rw [if_pos h1, Option.bind_some]
      by_cases h2 : areThings t = true
      · rw [if_pos h2, if_pos ⟨h1, h2⟩]
      · rw [if_neg h2, if_neg (fun hh => h2 hh.2)]
    · rw [if_neg h1, if_neg (fun hh => h1 hh.1)]
  | d + 1, i, h => by
    rw [spec_CanHold.L0_eq, if_pos (by omega), if_pos (by omega), spec_SlotOf_is l _ hl, Option.bind_some, wrap_succ i (by omega), spec_CanHold_l0 l t hl ht d (i + 1) (by omega)]
    by_cases c : slotOf l (rd_T47 t (i : Int)).f0 = 0
    · rw [if_pos c]
    · rw [if_neg c, canHold_no l t _ (rdT_mem i (by omega)) c]
theorem spec_CanHold_is (l : List S51) (t : List S47) (hl : l.length ≤ 1048576) (ht : t.length ≤ 1048576) : spec_CanHold.F l t = some (canHold l t) := by
  rw [spec_CanHold.F_eq]
  exact spec_CanHold_l0 l t hl ht t.length 0 (by omega)

theorem cloneSlot_is (l : List S51) (hn : l.length ≤ 4194304) : impl_Slot_68.f l = some l := by
  unfold impl_Slot_68.f
  rw [Option.bind_some, if_pos (by simp only [List.length_nil]; omega)]
  rfl

theorem impl_slotWith_is (l : List S51) (t : Int) : impl_slotWith.f l t = some (slotAt l t) := rfl

theorem impl_SlotOf_is (l : List S51) (t : Int) (hn : l.length ≤ 1048576) : impl_SlotOf.f l t = some (slotOf l t) := by
  unfold impl_SlotOf.f
  rw [impl_slotWith_is, Option.bind_some, ← slotOf_slotAt]
  rcases slotAt_cases l t with ⟨h, h1⟩ | ⟨h0, j, h1, h2, h3, h4⟩
  · rw [h, if_pos (by omega), if_pos (by omega)]
  · rw [h2, if_neg (by omega), if_pos (by omega), if_pos (by omega), if_neg (by omega)]

theorem inRange (a b c : Int) : impl_InRange.f a b c = some (inR a b c) := by
  unfold impl_InRange.f inR
  by_cases h : b ≤ a <;> simp [h]

theorem impl_AreSlots_l0 (l : List S51) (hn : l.length ≤ 1048576) : ∀ (d i : Nat), i + d = l.length → (∀ j, j < i → okSlot l j) → impl_AreSlots.L0 l l (l.length : Int) (i : Int) = some (allF (okSlot l) l.length i)
  | 0, i, h, hpre => by rw [impl_AreSlots.L0_eq, if_neg (by omega), allF_end (by omega)]
  | d + 1, i, h, hpre => by
    have hi : i < l.length := by omega
    have hf := fresh_iff l i (by omega) hpre
    have htl : (l.take i).length ≤ 1048576 := by rw [List.length_take]; omega
    rw [impl_AreSlots.L0_eq]
    simp only [wrap_succ i (by omega), wrap_pred i (by omega), inRange, Int.toNat_natCast, impl_SlotOf_is _ _ htl, Option.bind_some, hf]
    have ih : okSlot l i → impl_AreSlots.L0 l l (l.length : Int) ((i + 1 : Nat) : Int) = some (allF (okSlot l) l.length (i + 1)) := fun hp_ => impl_AreSlots_l0 l hn d (i + 1) (by omega) (fun j hj => by
        by_cases e : j = i
        · rw [e]; exact hp_
        · exact hpre j (by omega))
    have e1 : (i : Int) < (l.length : Int) := by omega
    have e2 : (0 : Int) ≤ (i : Int) := by omega
    have e3 : (i : Int) ≤ (l.length : Int) := by omega
    by_cases c0 : (i : Int) > 0
    · have e4 : (0 : Int) ≤ (i : Int) - 1 := by omega
      have e5 : (i : Int) - 1 < (l.length : Int) := by omega
      simp only [if_pos e1, if_pos e2, if_pos e3, if_pos c0, if_pos e4, if_pos e5]
      by_cases c1 : inR (rd_T51 l (i : Int)).f0 1 99 = true
      · rw [if_pos c1]
        by_cases c2 : (rd_T51 l (i : Int)).f0 ≤ (rd_T51 l ((i : Int) - 1)).f0
        · rw [if_pos c2, allF_no hi (fun h => absurd (h.2.1 c0) (by omega))]
          first | done | rfl | simp
        · rw [if_neg c2]
          by_cases c3 : inR (rd_T51 l (i : Int)).f1 1 50 = true
          · rw [if_pos c3]
            by_cases c4 : inR (rd_T51 l (i : Int)).f2 0 999 = true
            · rw [if_pos c4]
              by_cases c5 : freshB l i = true
              · rw [if_pos c5]
                have hp_ : okSlot l i := ⟨c1, fun _ => by omega, c3, c4, c5⟩
                rw [ih hp_, allF_yes hp_]
              · rw [if_neg c5, allF_no hi (fun h => c5 h.2.2.2.2)]
                first | done | rfl | simp
            · rw [if_neg c4, allF_no hi (fun h => c4 h.2.2.2.1)]
              first | done | rfl | simp
          · rw [if_neg c3, allF_no hi (fun h => c3 h.2.2.1)]
            first | done | rfl | simp
      · rw [if_neg c1, allF_no hi (fun h => c1 h.1)]
        first | done | rfl | simp
    · simp only [if_pos e1, if_pos e2, if_pos e3, if_neg c0]
      by_cases c1 : inR (rd_T51 l (i : Int)).f0 1 99 = true
      · rw [if_pos c1]
        by_cases c2 : inR (rd_T51 l (i : Int)).f1 1 50 = true
        · rw [if_pos c2]
          by_cases c3 : inR (rd_T51 l (i : Int)).f2 0 999 = true
          · rw [if_pos c3]
            by_cases c4 : freshB l i = true
            · rw [if_pos c4]
              have hp_ : okSlot l i := ⟨c1, fun hh => absurd hh c0, c2, c3, c4⟩
              rw [ih hp_, allF_yes hp_]
            · rw [if_neg c4, allF_no hi (fun h => c4 h.2.2.2.2)]
              first | done | rfl | simp
          · rw [if_neg c3, allF_no hi (fun h => c3 h.2.2.2.1)]
            first | done | rfl | simp
        · rw [if_neg c2, allF_no hi (fun h => c2 h.2.2.1)]
          first | done | rfl | simp
      · rw [if_neg c1, allF_no hi (fun h => c1 h.1)]
        first | done | rfl | simp
theorem impl_AreSlots_is (l : List S51) (hn : l.length ≤ 1048576) : impl_AreSlots.F l = some (areSlots l) := by
  rw [impl_AreSlots.F_eq, areSlots]
  by_cases h : (l.length : Int) > 30
  · rw [if_pos h, decide_eq_false (by omega), Bool.and_false]
  · rw [if_neg h, decide_eq_true (by omega), Bool.and_true]
    exact impl_AreSlots_l0 l hn l.length 0 (by omega) (fun j hj => absurd hj (by omega))

theorem impl_freeFor_l0 (l : List S51) (size : Int) (hn : l.length ≤ 1048576) : ∀ (d i : Nat) (b : Int), i + d = l.length → b < i → -1 ≤ b → impl_freeFor.L0 l size b l (l.length : Int) (i : Int) = some (bestSlot l size d i b)
  | 0, i, b, h, h1, h2 => by rw [impl_freeFor.L0_eq, if_neg (by omega)]; rfl
  | d + 1, i, b, h, h1, h2 => by
    have hi : i < l.length := by omega
    rw [impl_freeFor.L0_eq, if_pos (by omega), if_pos (by omega), if_pos (by omega)]
    simp only [wrap_succ i (by omega), bestSlot]
    by_cases c1 : (rd_T51 l (i : Int)).f2 = 0
    · by_cases c2 : (rd_T51 l (i : Int)).f1 ≥ size
      · by_cases c3 : b < 0
        · rw [if_pos c1, if_pos c2, if_pos c3, if_pos ⟨c1, c2, .inl c3⟩]
          exact impl_freeFor_l0 l size hn d (i + 1) _ (by omega) (by omega) (by omega)
        · by_cases c4 : (rd_T51 l (i : Int)).f1 < (rd_T51 l b).f1
          · rw [if_pos c1, if_pos c2, if_neg c3, if_pos (by omega), if_pos (by omega), if_pos c4, if_pos ⟨c1, c2, .inr c4⟩]
            exact impl_freeFor_l0 l size hn d (i + 1) _ (by omega) (by omega) (by omega)
          · rw [if_pos c1, if_pos c2, if_neg c3, if_pos (by omega), if_pos (by omega), if_neg c4, if_neg (fun h => h.2.2.elim c3 c4)]
            exact impl_freeFor_l0 l size hn d (i + 1) _ (by omega) (by omega) (by omega)
      · rw [if_pos c1, if_neg c2, if_neg (fun h => c2 h.2.1)]
        exact impl_freeFor_l0 l size hn d (i + 1) _ (by omega) (by omega) (by omega)
    · rw [if_neg c1, if_neg (fun h => c1 h.1)]
      exact impl_freeFor_l0 l size hn d (i + 1) _ (by omega) (by omega) (by omega)
theorem impl_freeFor_is (l : List S51) (size : Int) (hn : l.length ≤ 1048576) : impl_freeFor.F l size = some (bestSlot l size l.length 0 (-1)) := by
  rw [impl_freeFor.F_eq]
  exact impl_freeFor_l0 l size hn l.length 0 (-1) (by omega) (by omega) (by omega)

theorem impl_IsThing_is (a b c d e : Int) : impl_IsThing.f a b c d e = some (inR a 1 999 && inR b 1 8 && inR c 0 7 && inR d 1 50 && inR e 0 10000000) := by
  unfold impl_IsThing.f
  simp only [inRange, Option.bind_some]
  cases inR a 1 999 <;> cases inR b 1 8 <;> cases inR c 0 7 <;> cases inR d 1 50 <;> simp

theorem impl_PutAway_is (l : List S51) (a b c d e : Int) (hn : l.length ≤ 1048576) : impl_PutAway.F l a b c d e = some (putAway l a b c d e) := by
  have hb := bestSlot_bd l d l.length 0 (-1) (by omega) (by omega) (by omega)
  rw [impl_PutAway.F_eq, cloneSlot_is l (by omega), Option.bind_some, impl_freeFor_is l d hn, Option.bind_some, impl_AreSlots_is l hn, Option.bind_some, putAway]
  have ht : impl_IsThing.f a b c d e = some (isThing a b c d e) := impl_IsThing_is ..
  rw [ht]
  simp only [Option.bind_some, impl_slotWith_is]
  by_cases h : areSlots l = true
  · rw [if_pos h]
    by_cases h1 : isThing a b c d e = true
    · rw [if_pos h1]
      by_cases h2 : bestSlot l d l.length 0 (-1) < 0
      · rw [if_pos h2, if_neg (fun hh => by omega)]
      · rw [if_neg h2]
        by_cases h3 : slotAt l a ≥ 0
        · rw [if_pos h3, if_neg (fun hh => by omega)]
        · rw [if_neg h3, if_pos (by omega), if_pos (by omega), if_pos ⟨h, h1, by omega, by omega⟩]
          unfold putIn
          rw [Int.toNat_of_nonneg (by omega)]
    · rw [if_neg h1, if_neg (fun hh => h1 hh.2.1)]
  · rw [if_neg h, if_neg (fun hh => h hh.1)]

theorem impl_AreThings_l0 (l : List S47) (hn : l.length ≤ 1048576) : ∀ (d i : Nat), i + d = l.length → impl_AreThings.L0 l l (l.length : Int) (i : Int) = some (allF (okThing l) l.length i)
  | 0, i, h => by rw [impl_AreThings.L0_eq, if_neg (by omega), allF_end (by omega)]
  | d + 1, i, h => by
    have hi : i < l.length := by omega
    have ih := impl_AreThings_l0 l hn d (i + 1) (by omega)
    have ht : impl_IsThing.f (rd_T47 l (i : Int)).f0 (rd_T47 l (i : Int)).f1 (rd_T47 l (i : Int)).f2 (rd_T47 l (i : Int)).f3 (rd_T47 l (i : Int)).f4 = some (isThingW (rd_T47 l (i : Int))) := impl_IsThing_is ..
    rw [impl_AreThings.L0_eq, if_pos (by omega), if_pos (by omega), if_pos (by omega), ht, Option.bind_some, wrap_pred i (by omega), wrap_succ i (by omega), ih]
    by_cases c1 : isThingW (rd_T47 l (i : Int)) = true
    · rw [if_pos c1]
      by_cases c0 : (i : Int) > 0
      · rw [if_pos c0, if_pos (by omega), if_pos (by omega)]
        by_cases c2 : (rd_T47 l (i : Int)).f0 ≤ (rd_T47 l ((i : Int) - 1)).f0
        · rw [if_pos c2, allF_no hi (fun h => absurd (h.2 c0) (by omega))]
        · have hp : okThing l i := ⟨c1, fun _ => by omega⟩
          rw [if_neg c2, allF_yes hp]
      · have hp : okThing l i := ⟨c1, fun hh => absurd hh c0⟩
        rw [if_neg c0, allF_yes hp]
    · rw [if_neg c1, allF_no hi (fun h => c1 h.1)]
theorem impl_AreThings_is (l : List S47) (hn : l.length ≤ 1048576) : impl_AreThings.F l = some (areThings l) := by
  rw [impl_AreThings.F_eq, areThings]
  by_cases h : (l.length : Int) > 20
  · rw [if_pos h, decide_eq_false (by omega), Bool.and_false]
  · rw [if_neg h, decide_eq_true (by omega), Bool.and_true]
    exact impl_AreThings_l0 l hn l.length 0 (by omega)

theorem cloneThing_is (l : List S47) (hn : l.length ≤ 4194304) : impl_Thing_69.f l = some l := by
  unfold impl_Thing_69.f
  rw [Option.bind_some, if_pos (by simp only [List.length_nil]; omega)]
  rfl

theorem impl_PutAll_l0 (x : List S47) (hx : x.length ≤ 1000) : ∀ (d i : Nat) (out : List S51) (fl : List Int), i + d = x.length → out.length ≤ 1048576 → fl.length ≤ i →
    impl_PutAll.L0 out fl x (x.length : Int) (i : Int) = some ((putF (x.drop i) out).1, Srt.sorted (fl ++ (putF (x.drop i) out).2))
  | 0, i, out, fl, h, ho, hf => by
    rw [impl_PutAll.L0_eq, if_neg (by omega), slices_Sort_int_int.f, if_pos (by omega), Option.bind_some, List.drop_of_length_le (by omega), putF, List.append_nil]
  | d + 1, i, out, fl, h, ho, hf => by
    rw [impl_PutAll.L0_eq, if_pos (by omega), if_pos (by omega), if_pos (by omega), impl_PutAway_is out _ _ _ _ _ ho, Option.bind_some, dropThing x i (by omega), putF, wrap_succ i (by omega)]
    generalize hA : putAway out (rd_T47 x (i : Int)).f0 (rd_T47 x (i : Int)).f1 (rd_T47 x (i : Int)).f2 (rd_T47 x (i : Int)).f3 (rd_T47 x (i : Int)).f4 = A
    have hAl : A.1.length ≤ 1048576 := by rw [← hA, putAway_len]; exact ho
    by_cases c : A.2 = true
    · rw [if_pos c, impl_PutAll_l0 x hx d (i + 1) A.1 fl (by omega) hAl (by omega), if_pos c]
    · rw [if_neg c, if_pos (by omega), impl_PutAll_l0 x hx d (i + 1) A.1 _ (by omega) hAl (by rw [List.length_append, List.length_singleton]; omega), if_neg c, List.append_assoc]
      rfl
theorem impl_PutAll_is (l : List S51) (t : List S47) (hln : l.length ≤ 1048576) (htn : t.length ≤ 1048576) : impl_PutAll.F l t = some (allPut l t) := by
  rw [impl_PutAll.F_eq, cloneSlot_is l (by omega), Option.bind_some, Option.bind_some, impl_AreSlots_is l hln, Option.bind_some]
  unfold allPut
  by_cases hl : areSlots l = true
  · rw [if_pos hl, impl_AreThings_is t htn, Option.bind_some, impl_PutAll.J0_eq]
    by_cases ht : areThings t = true
    · have h20 := things_len ht
      have hsl := stabL_len t
      have hs : impl_Thing_70.f t 777777 = some (stabL t) := by
        unfold impl_Thing_70.f
        rw [if_pos h20]
      have h := impl_PutAll_l0 (stabL t) (by omega) (stabL t).length 0 l [] (by omega) hln (Nat.zero_le _)
      rw [ht, if_neg (by decide), cloneThing_is t (by omega), Option.bind_some, hs, Option.bind_some, if_pos ⟨hl, rfl⟩]
      rw [hsl] at h
      refine Eq.trans h ?_
      rw [List.nil_append, List.drop_zero, sorted_fold _ (failed_nodup ht l)]
    · rw [if_pos (by rw [Bool.eq_false_iff.2 ht]; rfl), if_neg (fun hh => ht hh.2)]
  · rw [if_neg hl, impl_PutAll.J0_eq, if_pos rfl, if_neg (fun hh => hl hh.1)]

theorem impl_CanHold_is (l : List S51) (t : List S47) (hl : l.length ≤ 1048576) (ht : t.length ≤ 1048576) : impl_CanHold.F l t = some (canHold l t) := by
  rw [impl_CanHold.F_eq, impl_AreSlots_is l hl, Option.bind_some]
  unfold canHold
  by_cases h1 : areSlots l = true
  · rw [if_pos h1, impl_AreThings_is t ht, Option.bind_some]
    by_cases h2 : areThings t = true
    · rw [if_pos h2, impl_PutAll_is l t hl ht, Option.bind_some, if_pos ⟨h1, h2⟩]
    · rw [if_neg h2, if_neg (fun hh => h2 hh.2)]
  · rw [if_neg h1, if_neg (fun hh => h1 hh.1)]

theorem law_FnExactCanHold (l0 : List S91) (hm0 : l0.length ≤ maxLen) (hw0 : ∀ y ∈ l0, ok91 y) (l1 : List S55) (hm1 : l1.length ≤ maxLen) (hw1 : ∀ y ∈ l1, ok55 y) : laws_FnExactCanHold.F l0 l1 = some true := by
  rw [laws_FnExactCanHold.F_eq, szSlotS l0 1048576 (by omega) hm0]
  simp only [Option.bind_some]
  by_cases h : (1048576 : Int) < (l0.length : Int)
  · rw [if_pos h]; rfl
  · have hn : l0.length ≤ 1048576 := by omega
    have hn' : (l0.map cvSlot).length ≤ 1048576 := by rw [List.length_map]; exact hn
    rw [if_neg h, if_neg (by omega), szThingS l1 (1048576 - (l0.length : Int)) (by omega) hm1]
    simp only [Option.bind_some]
    by_cases h2 : (1048576 : Int) - (l0.length : Int) < (l1.length : Int)
    · rw [if_pos h2]; rfl
    · have hx : l1.length ≤ 1048576 := by omega
      have hx' : (l1.map cvThing).length ≤ 1048576 := by rw [List.length_map]; exact hx
      rw [if_neg h2, if_neg (by omega)]
      simp only [toSlotS l0 hn, toThingS l1 hx, spec_CanHold_is _ _ hn' hx', impl_CanHold_is _ _ hn' hx', eqSlotS _ hn', eqThingS _ hx', Option.bind_some, bne_self_eq_false, if_true, Bool.false_eq_true, if_false]

theorem FnExactCanHold (l0 : List S91) (hm0 : l0.length ≤ maxLen) (hw0 : ∀ y ∈ l0, ok91 y) (l1 : List S55) (hm1 : l1.length ≤ maxLen) (hw1 : ∀ y ∈ l1, ok55 y) : ∃ k, laws_FnExactCanHold.f k l0 l1 = some true :=
  (laws_FnExactCanHold.F_co l0 l1).rounds (law_FnExactCanHold l0 hm0 hw0 l1 hm1 hw1)
end Go.Proofs.Ytbacepkkamfeoaa.PFnExactCanHold.Pure
