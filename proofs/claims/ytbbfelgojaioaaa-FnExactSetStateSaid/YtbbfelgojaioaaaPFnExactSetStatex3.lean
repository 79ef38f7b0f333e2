-- The printed functions of one law and their contracts, over contracts of this session's own (hand.py).
import Derived.Test.YtbbfelgojaioaaaPFnExactSetStatex0
import Derived.Test.YtbbfelgojaioaaaPFnExactSetStatex1
import Derived.Test.YtbbfelgojaioaaaPFnExactSetStatex2
namespace Go.Proofs.Ytbbfelgojaioaaa.PFnExactSetState
open Go.RowKit Go.Proofs.YtbbfelgojaioaaaW.PrintWords Go.Proofs.YtbbfelgojaioaaaW.PrintLast Go.Proofs.YtbbfelgojaioaaaW.PrintMore Go.Proofs.Ytbbfelgojaioaaa.Short
attribute [local go_sem] max2_int min2_int max_two min_two max_three min_three max_four min_four   -- for this text's walks alone
set_option linter.unusedVariables false
set_option linter.unusedSimpArgs false

/-! ### spec_SetState: function 34 -/
def spec_SetState.j0 : Nat → List (S121) → Int → List (S121) → Int → Bool → Option ((List (S121)) × Bool)
 | 0, _, _, _, _, _ => none
 | k + 1, x0, x2, x8, x9, x24 => if x24 = true then (some (x8, false)) else (if 0 ≤ x9 then (if x9 < (x0.length : Int) then (if ((rd_T121 x0 x9).f4) = 0 then (if x2 = 1 then (if x9 < (x8.length : Int) then ((some (x8.set (x9 : Int).toNat (⟨(rd_T121 x8 x9).f0, (rd_T121 x8 x9).f1, (rd_T121 x8 x9).f2, (rd_T121 x8 x9).f3, x2⟩ : S121) : List (S121))).bind fun y121 => ((spec_AreClaims.f k y121).bind fun t122 => (if t122 = true then (some (y121, true)) else ((some (([] : List (S121)) : List (S121))).bind fun y123 => (if y123.length + x0.length < 3518437208883 then (some ((y123 ++ x0), false)) else (none)))))) else (none)) else (if x2 = 2 then (if x9 < (x8.length : Int) then ((some (x8.set (x9 : Int).toNat (⟨(rd_T121 x8 x9).f0, (rd_T121 x8 x9).f1, (rd_T121 x8 x9).f2, (rd_T121 x8 x9).f3, x2⟩ : S121) : List (S121))).bind fun y129 => ((spec_AreClaims.f k y129).bind fun t130 => (if t130 = true then (some (y129, true)) else ((some (([] : List (S121)) : List (S121))).bind fun y131 => (if y131.length + x0.length < 3518437208883 then (some ((y131 ++ x0), false)) else (none)))))) else (none)) else (if ((rd_T121 x0 x9).f4) = 1 then (if x9 < (x8.length : Int) then ((some (x8.set (x9 : Int).toNat (⟨(rd_T121 x8 x9).f0, (rd_T121 x8 x9).f1, (rd_T121 x8 x9).f2, (rd_T121 x8 x9).f3, x2⟩ : S121) : List (S121))).bind fun y137 => (if x2 = 3 then ((spec_AreClaims.f k y137).bind fun t138 => (if t138 = true then (some (y137, true)) else ((some (([] : List (S121)) : List (S121))).bind fun y139 => (if y139.length + x0.length < 3518437208883 then (some ((y139 ++ x0), false)) else (none))))) else ((some (([] : List (S121)) : List (S121))).bind fun y145 => (if y145.length + x0.length < 3518437208883 then (some ((y145 ++ x0), false)) else (none))))) else (none)) else (if x9 < (x8.length : Int) then ((some (([] : List (S121)) : List (S121))).bind fun y152 => (if y152.length + x0.length < 3518437208883 then (some ((y152 ++ x0), false)) else (none))) else (none))))) else (if ((rd_T121 x0 x9).f4) = 1 then (if x9 < (x8.length : Int) then ((some (x8.set (x9 : Int).toNat (⟨(rd_T121 x8 x9).f0, (rd_T121 x8 x9).f1, (rd_T121 x8 x9).f2, (rd_T121 x8 x9).f3, x2⟩ : S121) : List (S121))).bind fun y158 => (if x2 = 3 then ((spec_AreClaims.f k y158).bind fun t159 => (if t159 = true then (some (y158, true)) else ((some (([] : List (S121)) : List (S121))).bind fun y160 => (if y160.length + x0.length < 3518437208883 then (some ((y160 ++ x0), false)) else (none))))) else ((some (([] : List (S121)) : List (S121))).bind fun y166 => (if y166.length + x0.length < 3518437208883 then (some ((y166 ++ x0), false)) else (none))))) else (none)) else (if x9 < (x8.length : Int) then ((some (([] : List (S121)) : List (S121))).bind fun y173 => (if y173.length + x0.length < 3518437208883 then (some ((y173 ++ x0), false)) else (none))) else (none)))) else (none)) else (none))
def spec_SetState.f (k : Nat) (l0 : List (S121)) (a1 : Int) (a2 : Int) : Option ((List (S121)) × Bool) := (some (([] : List (S121)) : List (S121))).bind fun y112 => (if y112.length + l0.length < 3518437208883 then ((some (y112 ++ l0 : List (S121))).bind fun y115 => ((spec_FindClaim.f k l0 a1).bind fun t118 => (if t118 < 0 then (spec_SetState.j0 k l0 a2 y115 t118 true) else ((spec_AreClaims.f k l0).bind fun t119 => (spec_SetState.j0 k l0 a2 y115 t118 (!t119)))))) else (none))
theorem spec_SetState.mono_l : ∀ k, (∀ y0 y1 y2 y3 y4, LeO (spec_SetState.j0 k y0 y1 y2 y3 y4) (spec_SetState.j0 (k + 1) y0 y1 y2 y3 y4))
 | 0 => fun _ _ _ _ _ r h => by simp [spec_SetState.j0] at h
 | k + 1 => by
  have ih0 := spec_SetState.mono_l k
  ·intro y0 y1 y2 y3 y4
   unfold spec_SetState.j0
   repeat' first
   | (with_reducible exact ih0 _ _ _ _ _)
   | (with_reducible exact spec_AreClaims.mono _ _)
   | (with_reducible exact spec_FindClaim.mono _ _ _)
   | (with_reducible exact LeO.refl _)
   | (with_reducible exact LeO.none _)
   | (with_reducible refine LeO.ite ?_ ?_)
   | (with_reducible refine LeO.bind ?_ (fun _ => ?_))
   | exact ih0 _ _ _ _ _
   | exact spec_AreClaims.mono _ _
   | exact spec_FindClaim.mono _ _ _
   | exact LeO.none _
   | refine LeO.ite ?_ ?_
   | refine LeO.bind ?_ (fun _ => ?_)
theorem spec_SetState.mono : ∀ a0 a1 a2 k, LeO (spec_SetState.f k a0 a1 a2) (spec_SetState.f (k + 1) a0 a1 a2) := by
 intro a0 a1 a2 k
 have ih0 := spec_SetState.mono_l k
 unfold spec_SetState.f
 repeat' first
   | (with_reducible exact ih0 _ _ _ _ _)
   | (with_reducible exact spec_AreClaims.mono _ _)
   | (with_reducible exact spec_FindClaim.mono _ _ _)
   | (with_reducible exact LeO.refl _)
   | (with_reducible exact LeO.none _)
   | (with_reducible refine LeO.ite ?_ ?_)
   | (with_reducible refine LeO.bind ?_ (fun _ => ?_))
   | exact ih0 _ _ _ _ _
   | exact spec_AreClaims.mono _ _
   | exact spec_FindClaim.mono _ _ _
   | exact LeO.none _
   | refine LeO.ite ?_ ?_
   | refine LeO.bind ?_ (fun _ => ?_)
set_option maxHeartbeats 8000000 in
set_option maxRecDepth 100000 in
theorem spec_SetState.calls (k : Nat) (A0 : Option Addr) (c0 : Nat) (l0 : List (S121)) (a1 : Int) (a2 : Int) (r1 : List (S121)) (r2 : Bool) (w : World) (hr0 : Kd.C k121 w A0 l0.length l0) (hc0 : l0.length ≤ c0) (h : spec_SetState.f k l0 a1 a2 = some (r1, r2)) :
  Calls Try.prog 34 #[.slice A0 l0.length c0, .int .i64 a1, .int .i64 a2] w fun e w' => ∃ v0_ : Value, e = .returned (.tuple #[v0_, .bool r2]) ∧ Kd.R k121 121 w' w.heap.size (fun _ => True) v0_ r1 ∧ Below w.heap.size w w' := by
 have HR0 := Aside0.mk hr0
 have HC0 := Aside0.mk hc0
 clear hr0 hc0
 have HB := Aside0.mk (Below.refl w.heap.size w)
 have H : ((some (([] : List (S121)) : List (S121))).bind fun y112 => (if y112.length + l0.length < 3518437208883 then ((some (y112 ++ l0 : List (S121))).bind fun y115 => ((spec_FindClaim.f k l0 a1).bind fun t118 => (if t118 < 0 then (spec_SetState.j0 k l0 a2 y115 t118 true) else ((spec_AreClaims.f k l0).bind fun t119 => (spec_SetState.j0 k l0 a2 y115 t118 (!t119)))))) else (none))) = some (r1, r2) := h
 clear h
 obtain ⟨y112, hy112⟩ : ∃ y_ : List (S121), y_ = (([] : List (S121))) := ⟨_, rfl⟩
 replace H : (if y112.length + l0.length < 3518437208883 then ((some (y112 ++ l0 : List (S121))).bind fun y115 => ((spec_FindClaim.f k l0 a1).bind fun t118 => (if t118 < 0 then (spec_SetState.j0 k l0 a2 y115 t118 true) else ((spec_AreClaims.f k l0).bind fun t119 => (spec_SetState.j0 k l0 a2 y115 t118 (!t119)))))) else (none)) = some (r1, r2) := by first | (rw [hy112]; with_reducible exact H) | (have H2_ := (Option.bind_some _ _).symm.trans H; rw [hy112]; with_reducible exact H2_) | (have H2_ := (Option.bind_some _ _).symm.trans H; with_reducible exact H2_) | with_reducible exact H | (rw [hy112]; exact H) | exact H
 have Ny112 := Aside0.mk hy112
 clear hy112
 by_cases c4 : y112.length + l0.length < 3518437208883
 ·rw [if_pos c4] at H
  have LMc4 := Aside0.mk c4
  clear c4
  obtain ⟨y115, hy115⟩ : ∃ y_ : List (S121), y_ = (y112 ++ l0) := ⟨_, rfl⟩
  replace H : ((spec_FindClaim.f k l0 a1).bind fun t118 => (if t118 < 0 then (spec_SetState.j0 k l0 a2 y115 t118 true) else ((spec_AreClaims.f k l0).bind fun t119 => (spec_SetState.j0 k l0 a2 y115 t118 (!t119))))) = some (r1, r2) := by first | (rw [hy115]; with_reducible exact H) | (have H2_ := (Option.bind_some _ _).symm.trans H; rw [hy115]; with_reducible exact H2_) | (have H2_ := (Option.bind_some _ _).symm.trans H; with_reducible exact H2_) | with_reducible exact H | (rw [hy115]; exact H) | exact H
  have Ny115 := Aside0.mk hy115
  clear hy115
  replace H := Option.bind_eq_some_iff.mp H
  obtain ⟨t118, A50, H⟩ := H
  replace H : (if t118 < 0 then (spec_SetState.j0 k l0 a2 y115 t118 true) else ((spec_AreClaims.f k l0).bind fun t119 => (spec_SetState.j0 k l0 a2 y115 t118 (!t119)))) = some (r1, r2) := H
  have A5 := Aside0.mk A50
  clear A50
  have HC6 := Aside0.mk H
  clear H
  go_enter Try.func34, Try.ntmps34
  go_upto_region 3 with (first | ((with_reducible refine gate_dst (N := 12) rfl ?_); refine Kd.R_lit k121 _ 121 ?hg (N := 12) ?hd (xs := ([] : List (S121))) (inner := []) (ok := fun _ => True) (okp := fun _ => True) ?hr ?hp (fun _ hk => hk) trivial (Below.refl _ _) (Nat.le_refl _) (by simp) ?_; (case hd => rfl); (case hg => rfl); (case hr => first | (go_simp; done) | (go_simp; rfl)); (case hp => exact (Reps.none _ _)); intro v113 w7 ho8 hb hg_ hnew_; clear hg_ hnew_; (first | rw [← Ny112.out] at ho8 | (simp only [Int.reduceToNat] at ho8; rw [← Ny112.out] at ho8)); have n0_ := Aside0.mk (Kd.R_lower ho8 (below_size (by repeat (first | (with_reducible first | exact HB.out | apply below_alloc | apply pw_below_drewN | apply below_drew1) | exact HB.out)))); have n1_ := Aside0.mk (below_step (by repeat (first | (with_reducible first | exact HB.out | apply below_alloc | apply pw_below_drewN | apply below_drew1) | exact HB.out)) hb); clear HB; have HO114 := n0_; have HB := n1_; clear n0_ n1_; clear hb ho8) | ((with_reducible refine gate_builtin (b := .append) (xs := #[.tmp 12, .tmp 13]) rfl ?_); at_builtin; refine Kd.R_append_rows k121 (w0 := w) w.heap.size rfl (.tmp 12) (.tmp 13) 56 121 (.agg #[(.int .i64 0), (.int .i64 0), (.int .i64 0), (.int .i64 0), (.int .i64 0)]) 40 rfl Try.underlying56 info121 rfl (by decide) (by omega) v113 y112 l0 _ _ _ (fun _ => True) (fun _ => False) rfl rfl ?aO ?aR (fun _ _ h => h) (fun _ h => h.elim) ?aF ?aB ?aS ?aL ?_; (case aR => repeat (first | exact (Kd.C_below HR0.out HB.out) | (with_reducible refine Kd.C_alloc ?_ _) | (with_reducible refine Kd.C_drewN ?_ _) | (with_reducible refine Kd.C_drew ?_))); (case aB => exact (by repeat (first | (with_reducible first | exact HB.out | apply below_alloc | apply pw_below_drewN | apply below_drew1) | exact HB.out))); (case aF => exact (fun _ _ => trivial)); (case aO => exact (by (with_reducible repeat (first | apply Kd.R_alloc | apply Kd.R_drewN | apply Kd.R_drew)); exact HO114.out)); (case aS => exact (below_size (by repeat (first | (with_reducible first | exact HB.out | apply below_alloc | apply pw_below_drewN | apply below_drew1) | exact HB.out)))); (case aL => have := LMc4.out; omega); intro v116 w9 ho hb hg hat; rw [← Ny115.out] at ho; have n0_ := Aside0.mk (hb); have n1_ := Aside0.mk (ho); clear HB; clear HO114; have HB := n0_; have HO117 := n1_; clear n0_ n1_; clear ho hb hg hat) | ((with_reducible refine gate_callee (f := 90) rfl ?_); refine goesL_ (some 17) rfl rfl Try.func90 (by kernel_rfl) rfl #[.slice A0 l0.length c0, .int .i64 a1] rfl (by (try simp only [mA, mC, mN]); first | done | rfl | (simp only [lD, lT]; rfl)) ?_; (with_reducible refine (spec_FindClaim.calls k _ _ l0 a1 t118 _ ?side1 ?side2 A5.out).mono ?_); (case side1 => repeat (first | exact (Kd.C_below HR0.out HB.out) | (with_reducible refine Kd.C_alloc ?_ _) | (with_reducible refine Kd.C_drewN ?_ _) | (with_reducible refine Kd.C_drew ?_))); (case side2 => exact HC0.out); rintro e w' ⟨rfl, ⟨nd, rfl⟩⟩; refine ⟨_, rfl, ?_⟩))
  (try simp only [Act.put, sA, sZ, sS])
  go_cut [24] (fun v24 wc => ∃ (kq : Nat) (x24_5 : Bool), v24 = .bool x24_5 ∧ Aside0 (spec_SetState.j0 kq l0 a2 y115 t118 x24_5 = some (r1, r2)) ∧ Aside0 (kq ≤ k) ∧ Aside0 (Kd.R k121 121 wc w.heap.size (fun _ => True) v116 y115) ∧ Aside0 (Below w.heap.size w wc))
  case first =>
   have H := HC6.out
   clear HC6
   by_cases c10 : t118 < 0
   ·rw [if_pos c10] at H
    have c10b0 : decide (t118 < 0) = true := decide_eq_true c10
    clear c10
    (first | rw [c10b0] | (simp only [i64_w, i32_w]; rw [c10b0]) | skip)
    have H' := Aside0.mk H
    clear H
    go_wp2
    go_meet
    case rel => exact ⟨_, (true), (by first | rfl | (simp; done) | (simp [*]; done)), H', ⟨by first | omega | exact Nat.le_refl _⟩, ⟨by (with_reducible repeat (first | apply Kd.R_alloc | apply Kd.R_drewN | apply Kd.R_drew)); exact HO117.out⟩, ⟨by repeat (first | (with_reducible first | exact HB.out | apply below_alloc | apply pw_below_drewN | apply below_drew1) | exact HB.out)⟩⟩
   ·rw [if_neg c10] at H
    have c10b0 : decide (t118 < 0) = false := decide_eq_false c10
    clear c10
    (first | rw [c10b0] | (simp only [i64_w, i32_w]; rw [c10b0]) | skip)
    replace H := Option.bind_eq_some_iff.mp H
    obtain ⟨t119, A110, H⟩ := H
    replace H : (spec_SetState.j0 k l0 a2 y115 t118 (!t119)) = some (r1, r2) := H
    have A11 := Aside0.mk A110
    clear A110
    have H' := Aside0.mk H
    clear H
    go_wp2_with (first | (go_at_call 91; (with_reducible refine (spec_AreClaims.calls k _ _ l0 t119 _ ?side1 ?side2 A11.out).mono ?_); (case side1 => repeat (first | exact (Kd.C_below HR0.out HB.out) | (with_reducible refine Kd.C_alloc ?_ _) | (with_reducible refine Kd.C_drewN ?_ _) | (with_reducible refine Kd.C_drew ?_))); (case side2 => exact HC0.out); rintro e w12 ⟨rfl, hb⟩; have n0_ := Aside0.mk (Kd.R_below (by (with_reducible repeat (first | apply Kd.R_alloc | apply Kd.R_drewN | apply Kd.R_drew)); exact HO117.out) hb); have n1_ := Aside0.mk (below_step (by repeat (first | (with_reducible first | exact HB.out | apply below_alloc | apply pw_below_drewN | apply below_drew1) | exact HB.out)) hb); clear HO117; clear HB; have HO117 := n0_; have HB := n1_; clear n0_ n1_; (try clear hb); (try clear hb2); (try clear hk); (try clear hi)))
    go_meet
    case rel => exact ⟨_, (!t119), (by first | rfl | (simp; done) | (simp [*]; done)), H', ⟨by first | omega | exact Nat.le_refl _⟩, ⟨by (with_reducible repeat (first | apply Kd.R_alloc | apply Kd.R_drewN | apply Kd.R_drew)); exact HO117.out⟩, ⟨by repeat (first | (with_reducible first | exact HB.out | apply below_alloc | apply pw_below_drewN | apply below_drew1) | exact HB.out)⟩⟩
  case rest =>
   clear HC6
   try clear c1
   try clear p2
   try clear c3
   try clear c4
   try clear c9
   try clear c10
   try clear c10b0
   obtain ⟨kq, x24_5, rfl, HA, HJ5, HO_8, HB⟩ := hcut
   cases kq with
   | zero => exact absurd HA.out (by simp [spec_SetState.j0])
   | succ kj5 =>
    have H := HA.out
    clear HA
    simp only [spec_SetState.j0] at H
    by_cases c13 : x24_5 = true
    ·subst c13
     have H1 : (some (y115, false)) = some (r1, r2) := by rw [if_pos rfl] at H; exact H
     clear H
     have H := H1
     clear H1
     simp only [Option.some.injEq, Prod.mk.injEq] at H
     obtain ⟨rfl, rfl⟩ := H
     go_wp2
     go_ret2
     exact ⟨_, by first | rfl | (simp [errW_none, errW_some] <;> rfl) | (simp [*, errW_none, errW_some] <;> rfl), by (with_reducible repeat (first | apply Kd.R_alloc | apply Kd.R_drewN | apply Kd.R_drew)); exact HO_8.out, by repeat (first | (with_reducible first | exact HB.out | apply below_alloc | apply pw_below_drewN | apply below_drew1) | exact HB.out)⟩
    ·replace c13 := Bool.eq_false_iff.mpr c13
     subst c13
     have H1 : (if 0 ≤ t118 then (if t118 < (l0.length : Int) then (if ((rd_T121 l0 t118).f4) = 0 then (if a2 = 1 then (if t118 < (y115.length : Int) then ((some (y115.set (t118 : Int).toNat (⟨(rd_T121 y115 t118).f0, (rd_T121 y115 t118).f1, (rd_T121 y115 t118).f2, (rd_T121 y115 t118).f3, a2⟩ : S121) : List (S121))).bind fun y121 => ((spec_AreClaims.f kj5 y121).bind fun t122 => (if t122 = true then (some (y121, true)) else ((some (([] : List (S121)) : List (S121))).bind fun y123 => (if y123.length + l0.length < 3518437208883 then (some ((y123 ++ l0), false)) else (none)))))) else (none)) else (if a2 = 2 then (if t118 < (y115.length : Int) then ((some (y115.set (t118 : Int).toNat (⟨(rd_T121 y115 t118).f0, (rd_T121 y115 t118).f1, (rd_T121 y115 t118).f2, (rd_T121 y115 t118).f3, a2⟩ : S121) : List (S121))).bind fun y129 => ((spec_AreClaims.f kj5 y129).bind fun t130 => (if t130 = true then (some (y129, true)) else ((some (([] : List (S121)) : List (S121))).bind fun y131 => (if y131.length + l0.length < 3518437208883 then (some ((y131 ++ l0), false)) else (none)))))) else (none)) else (if ((rd_T121 l0 t118).f4) = 1 then (if t118 < (y115.length : Int) then ((some (y115.set (t118 : Int).toNat (⟨(rd_T121 y115 t118).f0, (rd_T121 y115 t118).f1, (rd_T121 y115 t118).f2, (rd_T121 y115 t118).f3, a2⟩ : S121) : List (S121))).bind fun y137 => (if a2 = 3 then ((spec_AreClaims.f kj5 y137).bind fun t138 => (if t138 = true then (some (y137, true)) else ((some (([] : List (S121)) : List (S121))).bind fun y139 => (if y139.length + l0.length < 3518437208883 then (some ((y139 ++ l0), false)) else (none))))) else ((some (([] : List (S121)) : List (S121))).bind fun y145 => (if y145.length + l0.length < 3518437208883 then (some ((y145 ++ l0), false)) else (none))))) else (none)) else (if t118 < (y115.length : Int) then ((some (([] : List (S121)) : List (S121))).bind fun y152 => (if y152.length + l0.length < 3518437208883 then (some ((y152 ++ l0), false)) else (none))) else (none))))) else (if ((rd_T121 l0 t118).f4) = 1 then (if t118 < (y115.length : Int) then ((some (y115.set (t118 : Int).toNat (⟨(rd_T121 y115 t118).f0, (rd_T121 y115 t118).f1, (rd_T121 y115 t118).f2, (rd_T121 y115 t118).f3, a2⟩ : S121) : List (S121))).bind fun y158 => (if a2 = 3 then ((spec_AreClaims.f kj5 y158).bind fun t159 => (if t159 = true then (some (y158, true)) else ((some (([] : List (S121)) : List (S121))).bind fun y160 => (if y160.length + l0.length < 3518437208883 then (some ((y160 ++ l0), false)) else (none))))) else ((some (([] : List (S121)) : List (S121))).bind fun y166 => (if y166.length + l0.length < 3518437208883 then (some ((y166 ++ l0), false)) else (none))))) else (none)) else (if t118 < (y115.length : Int) then ((some (([] : List (S121)) : List (S121))).bind fun y173 => (if y173.length + l0.length < 3518437208883 then (some ((y173 ++ l0), false)) else (none))) else (none)))) else (none)) else (none)) = some (r1, r2) := by rw [if_neg (show ¬ (false = true) by decide)] at H; exact H
     clear H
     have H := H1
     clear H1
     by_cases c14 : 0 ≤ t118
     ·rw [if_pos c14] at H
      have c14b0 : decide (0 ≤ t118) = true := decide_eq_true c14
      clear c14
      by_cases c15 : t118 < (l0.length : Int)
      ·rw [if_pos c15] at H
       have c15b0 : decide (t118 < (l0.length : Int)) = true := decide_eq_true c15
       clear c15
       by_cases c16 : ((rd_T121 l0 t118).f4) = 0
       ·rw [if_pos c16] at H
        have c16b0 : (((rd_T121 l0 t118).f4) == 0) = true := beq_iff_eq.mpr c16
        have c16b1 : (((rd_T121 l0 t118).f4) != 0) = false := bne_eq_false_iff_eq.mpr c16
        clear c16
        by_cases c17 : a2 = 1
        ·rw [if_pos c17] at H
         have c17b0 : (a2 == 1) = true := beq_iff_eq.mpr c17
         have c17b1 : (a2 != 1) = false := bne_eq_false_iff_eq.mpr c17
         clear c17
         by_cases c18 : t118 < (y115.length : Int)
         ·rw [if_pos c18] at H
          have c18b0 : decide (t118 < (y115.length : Int)) = true := decide_eq_true c18
          clear c18
          obtain ⟨y121, hy121⟩ : ∃ y_ : List (S121), y_ = (y115.set (t118 : Int).toNat (⟨(rd_T121 y115 t118).f0, (rd_T121 y115 t118).f1, (rd_T121 y115 t118).f2, (rd_T121 y115 t118).f3, a2⟩ : S121)) := ⟨_, rfl⟩
          replace H : ((spec_AreClaims.f kj5 y121).bind fun t122 => (if t122 = true then (some (y121, true)) else ((some (([] : List (S121)) : List (S121))).bind fun y123 => (if y123.length + l0.length < 3518437208883 then (some ((y123 ++ l0), false)) else (none))))) = some (r1, r2) := by first | (rw [hy121]; with_reducible exact H) | (have H2_ := (Option.bind_some _ _).symm.trans H; rw [hy121]; with_reducible exact H2_) | (have H2_ := (Option.bind_some _ _).symm.trans H; with_reducible exact H2_) | with_reducible exact H | (rw [hy121]; exact H) | exact H
          have Ny121 := Aside0.mk hy121
          clear hy121
          replace H := Option.bind_eq_some_iff.mp H
          obtain ⟨t122, A200, H⟩ := H
          replace H : (if t122 = true then (some (y121, true)) else ((some (([] : List (S121)) : List (S121))).bind fun y123 => (if y123.length + l0.length < 3518437208883 then (some ((y123 ++ l0), false)) else (none)))) = some (r1, r2) := H
          have A20 := Aside0.mk A200
          clear A200
          by_cases c21 : t122 = true
          ·subst c21
           have H1 : (some (y121, true)) = some (r1, r2) := by rw [if_pos rfl] at H; exact H
           clear H
           have H := H1
           clear H1
           simp only [Option.some.injEq, Prod.mk.injEq] at H
           obtain ⟨rfl, rfl⟩ := H
           have p120 : 0 ≤ (t118 : Int) := of_decide_eq_true ‹_›
           have q120 : t118 < (l0.length : Int) := of_decide_eq_true ‹_›
           obtain ⟨ad120, e120, hx120_0, hx120_1, hx120_2, hx120_3, hx120_4⟩ := at_T121 HR0.out t118 p120 q120
           cases e120
           replace hx120_0 := (HB.out.cell (World.block_lt_of_cell? w _ hx120_0)).trans hx120_0
           replace hx120_1 := (HB.out.cell (World.block_lt_of_cell? w _ hx120_1)).trans hx120_1
           replace hx120_2 := (HB.out.cell (World.block_lt_of_cell? w _ hx120_2)).trans hx120_2
           replace hx120_3 := (HB.out.cell (World.block_lt_of_cell? w _ hx120_3)).trans hx120_3
           replace hx120_4 := (HB.out.cell (World.block_lt_of_cell? w _ hx120_4)).trans hx120_4
           replace p120 := eq_true p120
           replace q120 := eq_true q120
           have p19 : 0 ≤ (t118 : Int) := of_decide_eq_true ‹_›
           have q19 : (t118 : Int) < ((y115.length : Int) : Int) := of_decide_eq_true ‹_›
           obtain ⟨go19, co19, eo19, gb19, gl19, cl19, HG19⟩ := Kd.R_form HO_8.out (by omega)
           (first | cases eo19 | (injection eo19 with ea_ en_ ec_; (first | subst ea_ | (injection ea_ with ea_; subst ea_)); subst ec_; clear en_))
           have GB19 := Aside0.mk gb19
           have GG19 := Aside0.mk HG19
           clear gb19 gl19 HG19
           obtain ⟨ce19, hcl19, hM19, hcc19, hfr19⟩ := Kd.R_elem HO_8.out z121 (t118 : Int) p19 q19
           obtain rfl := k121_openM hM19
           have hx19_0 : wc.cell? ⟨go19, (t118 : Int).toNat * 5, none⟩ = some (.int .i64 ((rd_T121 y115 t118).f0)) := hcc19 0 _ rfl
           have hx19_1 : wc.cell? ⟨go19, (t118 : Int).toNat * 5 + 1, none⟩ = some (.int .i64 ((rd_T121 y115 t118).f1)) := hcc19 1 _ rfl
           have hx19_2 : wc.cell? ⟨go19, (t118 : Int).toNat * 5 + 2, none⟩ = some (.int .i64 ((rd_T121 y115 t118).f2)) := hcc19 2 _ rfl
           have hx19_3 : wc.cell? ⟨go19, (t118 : Int).toNat * 5 + 3, none⟩ = some (.int .i64 ((rd_T121 y115 t118).f3)) := hcc19 3 _ rfl
           have hx19_4 : wc.cell? ⟨go19, (t118 : Int).toNat * 5 + 4, none⟩ = some (.int .i64 ((rd_T121 y115 t118).f4)) := hcc19 4 _ rfl
           have hf19_0 : wc.frozen? ⟨go19, (t118 : Int).toNat * 5, none⟩ = false := hfr19 0
           have hf19_1 : wc.frozen? ⟨go19, (t118 : Int).toNat * 5 + 1, none⟩ = false := hfr19 1
           have hf19_2 : wc.frozen? ⟨go19, (t118 : Int).toNat * 5 + 2, none⟩ = false := hfr19 2
           have hf19_3 : wc.frozen? ⟨go19, (t118 : Int).toNat * 5 + 3, none⟩ = false := hfr19 3
           have hf19_4 : wc.frozen? ⟨go19, (t118 : Int).toNat * 5 + 4, none⟩ = false := hfr19 4
           clear hcl19 hcc19 hfr19 hM19
           replace p19 := eq_true p19
           replace q19 := eq_true q19
           have HX22 := Aside0.mk (show Kd.R k121 121 wc w.heap.size (fun _ => True) (.slice (some ⟨go19, 0, none⟩) y115.length co19) y115 from (by (with_reducible repeat (first | apply Kd.R_alloc | apply Kd.R_drewN | apply Kd.R_drew)); exact HO_8.out))
           obtain ⟨ce22, hcl22, hM22, hcc22, hfr22⟩ := Kd.R_elem HX22.out z121 (t118 : Int) (of_decide_eq_true ‹_›) (by have h_ : (t118 : Int) < ((y115.length : Int) : Int) := of_decide_eq_true ‹_›; first | exact h_ | (have e_ := (Kd.R_reads' HO_8.out).1; omega) | simpa using h_)
           obtain rfl := k121_openM hM22
           have HP22 := Kd.R_seg HX22.out (t118 : Int) (of_decide_eq_true ‹_›) (by have h_ : (t118 : Int) < ((y115.length : Int) : Int) := of_decide_eq_true ‹_›; first | exact h_ | (have e_ := (Kd.R_reads' HO_8.out).1; omega) | simpa using h_) (seg := [.int .i64 a2]) (j := 4) hcl22 hcc22 (show 5 ≤ 5 from by decide) (x' := (⟨(rd_T121 y115 t118).f0, (rd_T121 y115 t118).f1, (rd_T121 y115 t118).f2, (rd_T121 y115 t118).f3, a2⟩ : S121)) (k121_mkM _ _ _ (⟨(rd_T121 y115 t118).f0, (rd_T121 y115 t118).f1, (rd_T121 y115 t118).f2, (rd_T121 y115 t118).f3, a2⟩ : S121) ) (fun _ hk => hk)
           have hx22_4 := hcc22 4 _ rfl
           (try simp only [show (k121).sz = 5 from rfl, Nat.mul_one, Nat.add_zero] at hx22_4)
           have hf22_4 := hfr22 4
           (try simp only [show (k121).sz = 5 from rfl, Nat.mul_one, Nat.add_zero] at hf22_4)
           clear hcl22 hcc22 hfr22 hM22
           go_wp2_with (first | ((with_reducible refine gate_store (t := 3) (p := 53) rfl ?_); refine store_event (t := 3) (p := 53) (v := ?vo_w23) (w1 := (wc.setCell ⟨go19, (t118 : Int).toNat * 5 + 4, none⟩ (.int .i64 a2))) ?hg ?ho ?hn ?hr ?_; (case ho => rfl); (case hg => rfl); (case hn => rfl); (case hr => first | (go_simp; done) | (go_simp; rfl)); intro w23 hw; have hg : wc.grownBy w23 (some go19) := (by rw [hw]; exact HP22.2); have hp_ : Kd.R k121 121 w23 w.heap.size (fun _ => True) (.slice (some ⟨go19, 0, none⟩) y115.length co19) y121 := (by rw [hw, Ny121.out]; exact HP22.1); clear HP22; have n0_ := Aside0.mk (hp_); have n1_ := Aside0.mk ((by rw [hw]; exact below_set (HB.out) GB19.out : Below w.heap.size w w23)); clear HO_8; clear HB; have HO_8 := n0_; have HB := n1_; clear n0_ n1_; clear hg hw hp_) | (go_at_call 91; refine calls_of_args (args' := #[.slice (some ⟨go19, 0, none⟩) y121.length co19]) (by first | (rw [show y121.length = y115.length from (Kd.R_reads' HO_8.out).1.symm] <;> rfl) | rfl) ?_; (with_reducible refine (spec_AreClaims.calls kj5 _ _ y121 true _ ?side1 ?side2 A20.out).mono ?_); (case side1 => repeat (first | exact (Kd.R_reads' HO_8.out).2.2 | (with_reducible refine Kd.C_alloc ?_ _) | (with_reducible refine Kd.C_drewN ?_ _) | (with_reducible refine Kd.C_drew ?_))); (case side2 => rw [show y121.length = y115.length from (Kd.R_reads' HO_8.out).1.symm]; exact (Kd.R_reads' HO_8.out).2.1); rintro e w24 ⟨rfl, hb⟩; have n0_ := Aside0.mk (Kd.R_below (by (with_reducible repeat (first | apply Kd.R_alloc | apply Kd.R_drewN | apply Kd.R_drew)); exact HO_8.out) hb); have n1_ := Aside0.mk (below_step (by repeat (first | (with_reducible first | exact HB.out | apply below_alloc | apply pw_below_drewN | apply below_drew1) | exact HB.out)) hb); clear HO_8; clear HB; have HO_8 := n0_; have HB := n1_; clear n0_ n1_; (try clear hb); (try clear hb2); (try clear hk); (try clear hi)))
           go_ret2
           exact ⟨_, by first | rfl | (simp [errW_none, errW_some] <;> rfl) | (simp [*, errW_none, errW_some] <;> rfl), by (with_reducible repeat (first | apply Kd.R_alloc | apply Kd.R_drewN | apply Kd.R_drew)); exact HO_8.out, by repeat (first | (with_reducible first | exact HB.out | apply below_alloc | apply pw_below_drewN | apply below_drew1) | exact HB.out)⟩
          ·replace c21 := Bool.eq_false_iff.mpr c21
           subst c21
           have H1 : ((some (([] : List (S121)) : List (S121))).bind fun y123 => (if y123.length + l0.length < 3518437208883 then (some ((y123 ++ l0), false)) else (none))) = some (r1, r2) := by rw [if_neg (show ¬ (false = true) by decide)] at H; exact H
           clear H
           have H := H1
           clear H1
           obtain ⟨y123, hy123⟩ : ∃ y_ : List (S121), y_ = (([] : List (S121))) := ⟨_, rfl⟩
           replace H : (if y123.length + l0.length < 3518437208883 then (some ((y123 ++ l0), false)) else (none)) = some (r1, r2) := by first | (rw [hy123]; with_reducible exact H) | (have H2_ := (Option.bind_some _ _).symm.trans H; rw [hy123]; with_reducible exact H2_) | (have H2_ := (Option.bind_some _ _).symm.trans H; with_reducible exact H2_) | with_reducible exact H | (rw [hy123]; exact H) | exact H
           have Ny123 := Aside0.mk hy123
           clear hy123
           by_cases c25 : y123.length + l0.length < 3518437208883
           ·rw [if_pos c25] at H
            have LMc25 := Aside0.mk c25
            clear c25
            obtain ⟨y126, hy126⟩ : ∃ y_ : List (S121), y_ = (y123 ++ l0) := ⟨_, rfl⟩
            replace H : (some (y126, false)) = some (r1, r2) := by first | (rw [hy126]; with_reducible exact H) | (have H2_ := (Option.bind_some _ _).symm.trans H; rw [hy126]; with_reducible exact H2_) | (have H2_ := (Option.bind_some _ _).symm.trans H; with_reducible exact H2_) | with_reducible exact H | (rw [hy126]; exact H) | exact H
            have Ny126 := Aside0.mk hy126
            clear hy126
            simp only [Option.some.injEq, Prod.mk.injEq] at H
            obtain ⟨rfl, rfl⟩ := H
            have p120 : 0 ≤ (t118 : Int) := of_decide_eq_true ‹_›
            have q120 : t118 < (l0.length : Int) := of_decide_eq_true ‹_›
            obtain ⟨ad120, e120, hx120_0, hx120_1, hx120_2, hx120_3, hx120_4⟩ := at_T121 HR0.out t118 p120 q120
            cases e120
            replace hx120_0 := (HB.out.cell (World.block_lt_of_cell? w _ hx120_0)).trans hx120_0
            replace hx120_1 := (HB.out.cell (World.block_lt_of_cell? w _ hx120_1)).trans hx120_1
            replace hx120_2 := (HB.out.cell (World.block_lt_of_cell? w _ hx120_2)).trans hx120_2
            replace hx120_3 := (HB.out.cell (World.block_lt_of_cell? w _ hx120_3)).trans hx120_3
            replace hx120_4 := (HB.out.cell (World.block_lt_of_cell? w _ hx120_4)).trans hx120_4
            replace p120 := eq_true p120
            replace q120 := eq_true q120
            have p19 : 0 ≤ (t118 : Int) := of_decide_eq_true ‹_›
            have q19 : (t118 : Int) < ((y115.length : Int) : Int) := of_decide_eq_true ‹_›
            obtain ⟨go19, co19, eo19, gb19, gl19, cl19, HG19⟩ := Kd.R_form HO_8.out (by omega)
            (first | cases eo19 | (injection eo19 with ea_ en_ ec_; (first | subst ea_ | (injection ea_ with ea_; subst ea_)); subst ec_; clear en_))
            have GB19 := Aside0.mk gb19
            have GG19 := Aside0.mk HG19
            clear gb19 gl19 HG19
            obtain ⟨ce19, hcl19, hM19, hcc19, hfr19⟩ := Kd.R_elem HO_8.out z121 (t118 : Int) p19 q19
            obtain rfl := k121_openM hM19
            have hx19_0 : wc.cell? ⟨go19, (t118 : Int).toNat * 5, none⟩ = some (.int .i64 ((rd_T121 y115 t118).f0)) := hcc19 0 _ rfl
            have hx19_1 : wc.cell? ⟨go19, (t118 : Int).toNat * 5 + 1, none⟩ = some (.int .i64 ((rd_T121 y115 t118).f1)) := hcc19 1 _ rfl
            have hx19_2 : wc.cell? ⟨go19, (t118 : Int).toNat * 5 + 2, none⟩ = some (.int .i64 ((rd_T121 y115 t118).f2)) := hcc19 2 _ rfl
            have hx19_3 : wc.cell? ⟨go19, (t118 : Int).toNat * 5 + 3, none⟩ = some (.int .i64 ((rd_T121 y115 t118).f3)) := hcc19 3 _ rfl
            have hx19_4 : wc.cell? ⟨go19, (t118 : Int).toNat * 5 + 4, none⟩ = some (.int .i64 ((rd_T121 y115 t118).f4)) := hcc19 4 _ rfl
            have hf19_0 : wc.frozen? ⟨go19, (t118 : Int).toNat * 5, none⟩ = false := hfr19 0
            have hf19_1 : wc.frozen? ⟨go19, (t118 : Int).toNat * 5 + 1, none⟩ = false := hfr19 1
            have hf19_2 : wc.frozen? ⟨go19, (t118 : Int).toNat * 5 + 2, none⟩ = false := hfr19 2
            have hf19_3 : wc.frozen? ⟨go19, (t118 : Int).toNat * 5 + 3, none⟩ = false := hfr19 3
            have hf19_4 : wc.frozen? ⟨go19, (t118 : Int).toNat * 5 + 4, none⟩ = false := hfr19 4
            clear hcl19 hcc19 hfr19 hM19
            replace p19 := eq_true p19
            replace q19 := eq_true q19
            have HX26 := Aside0.mk (show Kd.R k121 121 wc w.heap.size (fun _ => True) (.slice (some ⟨go19, 0, none⟩) y115.length co19) y115 from (by (with_reducible repeat (first | apply Kd.R_alloc | apply Kd.R_drewN | apply Kd.R_drew)); exact HO_8.out))
            obtain ⟨ce26, hcl26, hM26, hcc26, hfr26⟩ := Kd.R_elem HX26.out z121 (t118 : Int) (of_decide_eq_true ‹_›) (by have h_ : (t118 : Int) < ((y115.length : Int) : Int) := of_decide_eq_true ‹_›; first | exact h_ | (have e_ := (Kd.R_reads' HO_8.out).1; omega) | simpa using h_)
            obtain rfl := k121_openM hM26
            have HP26 := Kd.R_seg HX26.out (t118 : Int) (of_decide_eq_true ‹_›) (by have h_ : (t118 : Int) < ((y115.length : Int) : Int) := of_decide_eq_true ‹_›; first | exact h_ | (have e_ := (Kd.R_reads' HO_8.out).1; omega) | simpa using h_) (seg := [.int .i64 a2]) (j := 4) hcl26 hcc26 (show 5 ≤ 5 from by decide) (x' := (⟨(rd_T121 y115 t118).f0, (rd_T121 y115 t118).f1, (rd_T121 y115 t118).f2, (rd_T121 y115 t118).f3, a2⟩ : S121)) (k121_mkM _ _ _ (⟨(rd_T121 y115 t118).f0, (rd_T121 y115 t118).f1, (rd_T121 y115 t118).f2, (rd_T121 y115 t118).f3, a2⟩ : S121) ) (fun _ hk => hk)
            have hx26_4 := hcc26 4 _ rfl
            (try simp only [show (k121).sz = 5 from rfl, Nat.mul_one, Nat.add_zero] at hx26_4)
            have hf26_4 := hfr26 4
            (try simp only [show (k121).sz = 5 from rfl, Nat.mul_one, Nat.add_zero] at hf26_4)
            clear hcl26 hcc26 hfr26 hM26
            go_wp2_with (first | ((with_reducible refine gate_store (t := 3) (p := 53) rfl ?_); refine store_event (t := 3) (p := 53) (v := ?vo_w27) (w1 := (wc.setCell ⟨go19, (t118 : Int).toNat * 5 + 4, none⟩ (.int .i64 a2))) ?hg ?ho ?hn ?hr ?_; (case ho => rfl); (case hg => rfl); (case hn => rfl); (case hr => first | (go_simp; done) | (go_simp; rfl)); intro w27 hw; have hg : wc.grownBy w27 (some go19) := (by rw [hw]; exact HP26.2); have hp_ : Kd.R k121 121 w27 w.heap.size (fun _ => True) (.slice (some ⟨go19, 0, none⟩) y115.length co19) y121 := (by rw [hw, Ny121.out]; exact HP26.1); clear HP26; have n0_ := Aside0.mk (hp_); have n1_ := Aside0.mk ((by rw [hw]; exact below_set (HB.out) GB19.out : Below w.heap.size w w27)); clear HO_8; clear HB; have HO_8 := n0_; have HB := n1_; clear n0_ n1_; clear hg hw hp_) | (go_at_call 91; refine calls_of_args (args' := #[.slice (some ⟨go19, 0, none⟩) y121.length co19]) (by first | (rw [show y121.length = y115.length from (Kd.R_reads' HO_8.out).1.symm] <;> rfl) | rfl) ?_; (with_reducible refine (spec_AreClaims.calls kj5 _ _ y121 false _ ?side1 ?side2 A20.out).mono ?_); (case side1 => repeat (first | exact (Kd.R_reads' HO_8.out).2.2 | (with_reducible refine Kd.C_alloc ?_ _) | (with_reducible refine Kd.C_drewN ?_ _) | (with_reducible refine Kd.C_drew ?_))); (case side2 => rw [show y121.length = y115.length from (Kd.R_reads' HO_8.out).1.symm]; exact (Kd.R_reads' HO_8.out).2.1); rintro e w28 ⟨rfl, hb⟩; have n0_ := Aside0.mk (Kd.R_below (by (with_reducible repeat (first | apply Kd.R_alloc | apply Kd.R_drewN | apply Kd.R_drew)); exact HO_8.out) hb); have n1_ := Aside0.mk (below_step (by repeat (first | (with_reducible first | exact HB.out | apply below_alloc | apply pw_below_drewN | apply below_drew1) | exact HB.out)) hb); clear HO_8; clear HB; have HO_8 := n0_; have HB := n1_; clear n0_ n1_; (try clear hb); (try clear hb2); (try clear hk); (try clear hi)) | ((with_reducible refine gate_dst (N := 61) rfl ?_); refine Kd.R_lit k121 _ 121 ?hg (N := 61) ?hd (xs := ([] : List (S121))) (inner := []) (ok := fun _ => True) (okp := fun _ => True) ?hr ?hp (fun _ hk => hk) trivial (Below.refl _ _) (Nat.le_refl _) (by simp) ?_; (case hd => rfl); (case hg => rfl); (case hr => first | (go_simp; done) | (go_simp; rfl)); (case hp => exact (Reps.none _ _)); intro v124 w29 ho30 hb hg_ hnew_; clear hg_ hnew_; (first | rw [← Ny123.out] at ho30 | (simp only [Int.reduceToNat] at ho30; rw [← Ny123.out] at ho30)); have n0_ := Aside0.mk (Kd.R_elder' (by (with_reducible repeat (first | apply Kd.R_alloc | apply Kd.R_drewN | apply Kd.R_drew)); exact HO_8.out) (Kd.R_base ho30) hb); have n1_ := Aside0.mk (Kd.R_lower (Kd.R_new' ho30 (Kd.R_lt (by (with_reducible repeat (first | apply Kd.R_alloc | apply Kd.R_drewN | apply Kd.R_drew)); exact HO_8.out))) (below_size (by repeat (first | (with_reducible first | exact HB.out | apply below_alloc | apply pw_below_drewN | apply below_drew1) | exact HB.out)))); have n2_ := Aside0.mk (below_step (by repeat (first | (with_reducible first | exact HB.out | apply below_alloc | apply pw_below_drewN | apply below_drew1) | exact HB.out)) hb); clear HO_8; clear HB; have HO_8 := n0_; have HO125 := n1_; have HB := n2_; clear n0_ n1_ n2_; clear hb ho30) | ((with_reducible refine gate_builtin (b := .append) (xs := #[.tmp 61, .tmp 62]) rfl ?_); at_builtin; refine Kd.R_append_rows k121 (w0 := w) w.heap.size rfl (.tmp 61) (.tmp 62) 56 121 (.agg #[(.int .i64 0), (.int .i64 0), (.int .i64 0), (.int .i64 0), (.int .i64 0)]) 40 rfl Try.underlying56 info121 rfl (by decide) (by omega) v124 y123 l0 _ _ _ (fun k_ => some k_ ≠ (.slice (some ⟨go19, 0, none⟩) y115.length co19 : Value).ownBlock) (fun _ => False) rfl rfl ?aO ?aR (fun _ _ h => h) (fun _ h => h.elim) ?aF ?aB ?aS ?aL ?_; (case aR => repeat (first | exact (Kd.C_below HR0.out HB.out) | (with_reducible refine Kd.C_alloc ?_ _) | (with_reducible refine Kd.C_drewN ?_ _) | (with_reducible refine Kd.C_drew ?_))); (case aB => exact (by repeat (first | (with_reducible first | exact HB.out | apply below_alloc | apply pw_below_drewN | apply below_drew1) | exact HB.out))); (case aF => exact (fun k_ hk => Kd.fresh' (Kd.R_lt (by (with_reducible repeat (first | apply Kd.R_alloc | apply Kd.R_drewN | apply Kd.R_drew)); exact HO_8.out)) k_ hk)); (case aO => exact (by (with_reducible repeat (first | apply Kd.R_alloc | apply Kd.R_drewN | apply Kd.R_drew)); exact Kd.R_mono HO125.out (fun _ hk => hk.2))); (case aS => exact (below_size (by repeat (first | (with_reducible first | exact HB.out | apply below_alloc | apply pw_below_drewN | apply below_drew1) | exact HB.out)))); (case aL => have := LMc25.out; omega); intro v127 w31 ho hb hg hat; rw [← Ny126.out] at ho; have n0_ := Aside0.mk (Kd.R_after (ok := (fun _ => True)) (by (with_reducible repeat (first | apply Kd.R_alloc | apply Kd.R_drewN | apply Kd.R_drew)); exact HO_8.out) hg hat); have n1_ := Aside0.mk (hb); have n2_ := Aside0.mk (ho); clear HO_8; clear HB; clear HO125; have HO_8 := n0_; have HB := n1_; have HO128 := n2_; clear n0_ n1_ n2_; clear ho hb hg hat))
            go_ret2
            exact ⟨_, by first | rfl | (simp [errW_none, errW_some] <;> rfl) | (simp [*, errW_none, errW_some] <;> rfl), by (with_reducible repeat (first | apply Kd.R_alloc | apply Kd.R_drewN | apply Kd.R_drew)); exact Kd.R_mono HO128.out (fun _ hk => trivial), by repeat (first | (with_reducible first | exact HB.out | apply below_alloc | apply pw_below_drewN | apply below_drew1) | exact HB.out)⟩
           ·rw [if_neg c25] at H
            exact absurd H (by simp)
         ·rw [if_neg c18] at H
          exact absurd H (by simp)
        ·rw [if_neg c17] at H
         have c17b0 : (a2 == 1) = false := beq_eq_false_iff_ne.mpr c17
         have c17b1 : (a2 != 1) = true := bne_iff_ne.mpr c17
         by_cases c32 : a2 = 2
         ·rw [if_pos c32] at H
          have c32b0 : (a2 == 2) = true := beq_iff_eq.mpr c32
          have c32b1 : (a2 != 2) = false := bne_eq_false_iff_eq.mpr c32
          clear c32
          by_cases c33 : t118 < (y115.length : Int)
          ·rw [if_pos c33] at H
           have c33b0 : decide (t118 < (y115.length : Int)) = true := decide_eq_true c33
           clear c33
           obtain ⟨y129, hy129⟩ : ∃ y_ : List (S121), y_ = (y115.set (t118 : Int).toNat (⟨(rd_T121 y115 t118).f0, (rd_T121 y115 t118).f1, (rd_T121 y115 t118).f2, (rd_T121 y115 t118).f3, a2⟩ : S121)) := ⟨_, rfl⟩
           replace H : ((spec_AreClaims.f kj5 y129).bind fun t130 => (if t130 = true then (some (y129, true)) else ((some (([] : List (S121)) : List (S121))).bind fun y131 => (if y131.length + l0.length < 3518437208883 then (some ((y131 ++ l0), false)) else (none))))) = some (r1, r2) := by first | (rw [hy129]; with_reducible exact H) | (have H2_ := (Option.bind_some _ _).symm.trans H; rw [hy129]; with_reducible exact H2_) | (have H2_ := (Option.bind_some _ _).symm.trans H; with_reducible exact H2_) | with_reducible exact H | (rw [hy129]; exact H) | exact H
           have Ny129 := Aside0.mk hy129
           clear hy129
           replace H := Option.bind_eq_some_iff.mp H
           obtain ⟨t130, A350, H⟩ := H
           replace H : (if t130 = true then (some (y129, true)) else ((some (([] : List (S121)) : List (S121))).bind fun y131 => (if y131.length + l0.length < 3518437208883 then (some ((y131 ++ l0), false)) else (none)))) = some (r1, r2) := H
           have A35 := Aside0.mk A350
           clear A350
           by_cases c36 : t130 = true
           ·subst c36
            have H1 : (some (y129, true)) = some (r1, r2) := by rw [if_pos rfl] at H; exact H
            clear H
            have H := H1
            clear H1
            simp only [Option.some.injEq, Prod.mk.injEq] at H
            obtain ⟨rfl, rfl⟩ := H
            have p120 : 0 ≤ (t118 : Int) := of_decide_eq_true ‹_›
            have q120 : t118 < (l0.length : Int) := of_decide_eq_true ‹_›
            obtain ⟨ad120, e120, hx120_0, hx120_1, hx120_2, hx120_3, hx120_4⟩ := at_T121 HR0.out t118 p120 q120
            cases e120
            replace hx120_0 := (HB.out.cell (World.block_lt_of_cell? w _ hx120_0)).trans hx120_0
            replace hx120_1 := (HB.out.cell (World.block_lt_of_cell? w _ hx120_1)).trans hx120_1
            replace hx120_2 := (HB.out.cell (World.block_lt_of_cell? w _ hx120_2)).trans hx120_2
            replace hx120_3 := (HB.out.cell (World.block_lt_of_cell? w _ hx120_3)).trans hx120_3
            replace hx120_4 := (HB.out.cell (World.block_lt_of_cell? w _ hx120_4)).trans hx120_4
            replace p120 := eq_true p120
            replace q120 := eq_true q120
            have p34 : 0 ≤ (t118 : Int) := of_decide_eq_true ‹_›
            have q34 : (t118 : Int) < ((y115.length : Int) : Int) := of_decide_eq_true ‹_›
            obtain ⟨go34, co34, eo34, gb34, gl34, cl34, HG34⟩ := Kd.R_form HO_8.out (by omega)
            (first | cases eo34 | (injection eo34 with ea_ en_ ec_; (first | subst ea_ | (injection ea_ with ea_; subst ea_)); subst ec_; clear en_))
            have GB34 := Aside0.mk gb34
            have GG34 := Aside0.mk HG34
            clear gb34 gl34 HG34
            obtain ⟨ce34, hcl34, hM34, hcc34, hfr34⟩ := Kd.R_elem HO_8.out z121 (t118 : Int) p34 q34
            obtain rfl := k121_openM hM34
            have hx34_0 : wc.cell? ⟨go34, (t118 : Int).toNat * 5, none⟩ = some (.int .i64 ((rd_T121 y115 t118).f0)) := hcc34 0 _ rfl
            have hx34_1 : wc.cell? ⟨go34, (t118 : Int).toNat * 5 + 1, none⟩ = some (.int .i64 ((rd_T121 y115 t118).f1)) := hcc34 1 _ rfl
            have hx34_2 : wc.cell? ⟨go34, (t118 : Int).toNat * 5 + 2, none⟩ = some (.int .i64 ((rd_T121 y115 t118).f2)) := hcc34 2 _ rfl
            have hx34_3 : wc.cell? ⟨go34, (t118 : Int).toNat * 5 + 3, none⟩ = some (.int .i64 ((rd_T121 y115 t118).f3)) := hcc34 3 _ rfl
            have hx34_4 : wc.cell? ⟨go34, (t118 : Int).toNat * 5 + 4, none⟩ = some (.int .i64 ((rd_T121 y115 t118).f4)) := hcc34 4 _ rfl
            have hf34_0 : wc.frozen? ⟨go34, (t118 : Int).toNat * 5, none⟩ = false := hfr34 0
            have hf34_1 : wc.frozen? ⟨go34, (t118 : Int).toNat * 5 + 1, none⟩ = false := hfr34 1
            have hf34_2 : wc.frozen? ⟨go34, (t118 : Int).toNat * 5 + 2, none⟩ = false := hfr34 2
            have hf34_3 : wc.frozen? ⟨go34, (t118 : Int).toNat * 5 + 3, none⟩ = false := hfr34 3
            have hf34_4 : wc.frozen? ⟨go34, (t118 : Int).toNat * 5 + 4, none⟩ = false := hfr34 4
            clear hcl34 hcc34 hfr34 hM34
            replace p34 := eq_true p34
            replace q34 := eq_true q34
            have HX37 := Aside0.mk (show Kd.R k121 121 wc w.heap.size (fun _ => True) (.slice (some ⟨go34, 0, none⟩) y115.length co34) y115 from (by (with_reducible repeat (first | apply Kd.R_alloc | apply Kd.R_drewN | apply Kd.R_drew)); exact HO_8.out))
            obtain ⟨ce37, hcl37, hM37, hcc37, hfr37⟩ := Kd.R_elem HX37.out z121 (t118 : Int) (of_decide_eq_true ‹_›) (by have h_ : (t118 : Int) < ((y115.length : Int) : Int) := of_decide_eq_true ‹_›; first | exact h_ | (have e_ := (Kd.R_reads' HO_8.out).1; omega) | simpa using h_)
            obtain rfl := k121_openM hM37
            have HP37 := Kd.R_seg HX37.out (t118 : Int) (of_decide_eq_true ‹_›) (by have h_ : (t118 : Int) < ((y115.length : Int) : Int) := of_decide_eq_true ‹_›; first | exact h_ | (have e_ := (Kd.R_reads' HO_8.out).1; omega) | simpa using h_) (seg := [.int .i64 a2]) (j := 4) hcl37 hcc37 (show 5 ≤ 5 from by decide) (x' := (⟨(rd_T121 y115 t118).f0, (rd_T121 y115 t118).f1, (rd_T121 y115 t118).f2, (rd_T121 y115 t118).f3, a2⟩ : S121)) (k121_mkM _ _ _ (⟨(rd_T121 y115 t118).f0, (rd_T121 y115 t118).f1, (rd_T121 y115 t118).f2, (rd_T121 y115 t118).f3, a2⟩ : S121) ) (fun _ hk => hk)
            have hx37_4 := hcc37 4 _ rfl
            (try simp only [show (k121).sz = 5 from rfl, Nat.mul_one, Nat.add_zero] at hx37_4)
            have hf37_4 := hfr37 4
            (try simp only [show (k121).sz = 5 from rfl, Nat.mul_one, Nat.add_zero] at hf37_4)
            clear hcl37 hcc37 hfr37 hM37
            go_wp2_with (first | ((with_reducible refine gate_store (t := 3) (p := 53) rfl ?_); refine store_event (t := 3) (p := 53) (v := ?vo_w38) (w1 := (wc.setCell ⟨go34, (t118 : Int).toNat * 5 + 4, none⟩ (.int .i64 a2))) ?hg ?ho ?hn ?hr ?_; (case ho => rfl); (case hg => rfl); (case hn => rfl); (case hr => first | (go_simp; done) | (go_simp; rfl)); intro w38 hw; have hg : wc.grownBy w38 (some go34) := (by rw [hw]; exact HP37.2); have hp_ : Kd.R k121 121 w38 w.heap.size (fun _ => True) (.slice (some ⟨go34, 0, none⟩) y115.length co34) y129 := (by rw [hw, Ny129.out]; exact HP37.1); clear HP37; have n0_ := Aside0.mk (hp_); have n1_ := Aside0.mk ((by rw [hw]; exact below_set (HB.out) GB34.out : Below w.heap.size w w38)); clear HO_8; clear HB; have HO_8 := n0_; have HB := n1_; clear n0_ n1_; clear hg hw hp_) | (go_at_call 91; refine calls_of_args (args' := #[.slice (some ⟨go34, 0, none⟩) y129.length co34]) (by first | (rw [show y129.length = y115.length from (Kd.R_reads' HO_8.out).1.symm] <;> rfl) | rfl) ?_; (with_reducible refine (spec_AreClaims.calls kj5 _ _ y129 true _ ?side1 ?side2 A35.out).mono ?_); (case side1 => repeat (first | exact (Kd.R_reads' HO_8.out).2.2 | (with_reducible refine Kd.C_alloc ?_ _) | (with_reducible refine Kd.C_drewN ?_ _) | (with_reducible refine Kd.C_drew ?_))); (case side2 => rw [show y129.length = y115.length from (Kd.R_reads' HO_8.out).1.symm]; exact (Kd.R_reads' HO_8.out).2.1); rintro e w39 ⟨rfl, hb⟩; have n0_ := Aside0.mk (Kd.R_below (by (with_reducible repeat (first | apply Kd.R_alloc | apply Kd.R_drewN | apply Kd.R_drew)); exact HO_8.out) hb); have n1_ := Aside0.mk (below_step (by repeat (first | (with_reducible first | exact HB.out | apply below_alloc | apply pw_below_drewN | apply below_drew1) | exact HB.out)) hb); clear HO_8; clear HB; have HO_8 := n0_; have HB := n1_; clear n0_ n1_; (try clear hb); (try clear hb2); (try clear hk); (try clear hi)))
            go_ret2
            exact ⟨_, by first | rfl | (simp [errW_none, errW_some] <;> rfl) | (simp [*, errW_none, errW_some] <;> rfl), by (with_reducible repeat (first | apply Kd.R_alloc | apply Kd.R_drewN | apply Kd.R_drew)); exact HO_8.out, by repeat (first | (with_reducible first | exact HB.out | apply below_alloc | apply pw_below_drewN | apply below_drew1) | exact HB.out)⟩
           ·replace c36 := Bool.eq_false_iff.mpr c36
            subst c36
            have H1 : ((some (([] : List (S121)) : List (S121))).bind fun y131 => (if y131.length + l0.length < 3518437208883 then (some ((y131 ++ l0), false)) else (none))) = some (r1, r2) := by rw [if_neg (show ¬ (false = true) by decide)] at H; exact H
            clear H
            have H := H1
            clear H1
            obtain ⟨y131, hy131⟩ : ∃ y_ : List (S121), y_ = (([] : List (S121))) := ⟨_, rfl⟩
            replace H : (if y131.length + l0.length < 3518437208883 then (some ((y131 ++ l0), false)) else (none)) = some (r1, r2) := by first | (rw [hy131]; with_reducible exact H) | (have H2_ := (Option.bind_some _ _).symm.trans H; rw [hy131]; with_reducible exact H2_) | (have H2_ := (Option.bind_some _ _).symm.trans H; with_reducible exact H2_) | with_reducible exact H | (rw [hy131]; exact H) | exact H
            have Ny131 := Aside0.mk hy131
            clear hy131
            by_cases c40 : y131.length + l0.length < 3518437208883
            ·rw [if_pos c40] at H
             have LMc40 := Aside0.mk c40
             clear c40
             obtain ⟨y134, hy134⟩ : ∃ y_ : List (S121), y_ = (y131 ++ l0) := ⟨_, rfl⟩
             replace H : (some (y134, false)) = some (r1, r2) := by first | (rw [hy134]; with_reducible exact H) | (have H2_ := (Option.bind_some _ _).symm.trans H; rw [hy134]; with_reducible exact H2_) | (have H2_ := (Option.bind_some _ _).symm.trans H; with_reducible exact H2_) | with_reducible exact H | (rw [hy134]; exact H) | exact H
             have Ny134 := Aside0.mk hy134
             clear hy134
             simp only [Option.some.injEq, Prod.mk.injEq] at H
             obtain ⟨rfl, rfl⟩ := H
             have p120 : 0 ≤ (t118 : Int) := of_decide_eq_true ‹_›
             have q120 : t118 < (l0.length : Int) := of_decide_eq_true ‹_›
             obtain ⟨ad120, e120, hx120_0, hx120_1, hx120_2, hx120_3, hx120_4⟩ := at_T121 HR0.out t118 p120 q120
             cases e120
             replace hx120_0 := (HB.out.cell (World.block_lt_of_cell? w _ hx120_0)).trans hx120_0
             replace hx120_1 := (HB.out.cell (World.block_lt_of_cell? w _ hx120_1)).trans hx120_1
             replace hx120_2 := (HB.out.cell (World.block_lt_of_cell? w _ hx120_2)).trans hx120_2
             replace hx120_3 := (HB.out.cell (World.block_lt_of_cell? w _ hx120_3)).trans hx120_3
             replace hx120_4 := (HB.out.cell (World.block_lt_of_cell? w _ hx120_4)).trans hx120_4
             replace p120 := eq_true p120
             replace q120 := eq_true q120
             have p34 : 0 ≤ (t118 : Int) := of_decide_eq_true ‹_›
             have q34 : (t118 : Int) < ((y115.length : Int) : Int) := of_decide_eq_true ‹_›
             obtain ⟨go34, co34, eo34, gb34, gl34, cl34, HG34⟩ := Kd.R_form HO_8.out (by omega)
             (first | cases eo34 | (injection eo34 with ea_ en_ ec_; (first | subst ea_ | (injection ea_ with ea_; subst ea_)); subst ec_; clear en_))
             have GB34 := Aside0.mk gb34
             have GG34 := Aside0.mk HG34
             clear gb34 gl34 HG34
             obtain ⟨ce34, hcl34, hM34, hcc34, hfr34⟩ := Kd.R_elem HO_8.out z121 (t118 : Int) p34 q34
             obtain rfl := k121_openM hM34
             have hx34_0 : wc.cell? ⟨go34, (t118 : Int).toNat * 5, none⟩ = some (.int .i64 ((rd_T121 y115 t118).f0)) := hcc34 0 _ rfl
             have hx34_1 : wc.cell? ⟨go34, (t118 : Int).toNat * 5 + 1, none⟩ = some (.int .i64 ((rd_T121 y115 t118).f1)) := hcc34 1 _ rfl
             have hx34_2 : wc.cell? ⟨go34, (t118 : Int).toNat * 5 + 2, none⟩ = some (.int .i64 ((rd_T121 y115 t118).f2)) := hcc34 2 _ rfl
             have hx34_3 : wc.cell? ⟨go34, (t118 : Int).toNat * 5 + 3, none⟩ = some (.int .i64 ((rd_T121 y115 t118).f3)) := hcc34 3 _ rfl
             have hx34_4 : wc.cell? ⟨go34, (t118 : Int).toNat * 5 + 4, none⟩ = some (.int .i64 ((rd_T121 y115 t118).f4)) := hcc34 4 _ rfl
             have hf34_0 : wc.frozen? ⟨go34, (t118 : Int).toNat * 5, none⟩ = false := hfr34 0
             have hf34_1 : wc.frozen? ⟨go34, (t118 : Int).toNat * 5 + 1, none⟩ = false := hfr34 1
             have hf34_2 : wc.frozen? ⟨go34, (t118 : Int).toNat * 5 + 2, none⟩ = false := hfr34 2
             have hf34_3 : wc.frozen? ⟨go34, (t118 : Int).toNat * 5 + 3, none⟩ = false := hfr34 3
             have hf34_4 : wc.frozen? ⟨go34, (t118 : Int).toNat * 5 + 4, none⟩ = false := hfr34 4
             clear hcl34 hcc34 hfr34 hM34
             replace p34 := eq_true p34
             replace q34 := eq_true q34
             have HX41 := Aside0.mk (show Kd.R k121 121 wc w.heap.size (fun _ => True) (.slice (some ⟨go34, 0, none⟩) y115.length co34) y115 from (by (with_reducible repeat (first | apply Kd.R_alloc | apply Kd.R_drewN | apply Kd.R_drew)); exact HO_8.out))
             obtain ⟨ce41, hcl41, hM41, hcc41, hfr41⟩ := Kd.R_elem HX41.out z121 (t118 : Int) (of_decide_eq_true ‹_›) (by have h_ : (t118 : Int) < ((y115.length : Int) : Int) := of_decide_eq_true ‹_›; first | exact h_ | (have e_ := (Kd.R_reads' HO_8.out).1; omega) | simpa using h_)
             obtain rfl := k121_openM hM41
             have HP41 := Kd.R_seg HX41.out (t118 : Int) (of_decide_eq_true ‹_›) (by have h_ : (t118 : Int) < ((y115.length : Int) : Int) := of_decide_eq_true ‹_›; first | exact h_ | (have e_ := (Kd.R_reads' HO_8.out).1; omega) | simpa using h_) (seg := [.int .i64 a2]) (j := 4) hcl41 hcc41 (show 5 ≤ 5 from by decide) (x' := (⟨(rd_T121 y115 t118).f0, (rd_T121 y115 t118).f1, (rd_T121 y115 t118).f2, (rd_T121 y115 t118).f3, a2⟩ : S121)) (k121_mkM _ _ _ (⟨(rd_T121 y115 t118).f0, (rd_T121 y115 t118).f1, (rd_T121 y115 t118).f2, (rd_T121 y115 t118).f3, a2⟩ : S121) ) (fun _ hk => hk)
             have hx41_4 := hcc41 4 _ rfl
             (try simp only [show (k121).sz = 5 from rfl, Nat.mul_one, Nat.add_zero] at hx41_4)
             have hf41_4 := hfr41 4
             (try simp only [show (k121).sz = 5 from rfl, Nat.mul_one, Nat.add_zero] at hf41_4)
             clear hcl41 hcc41 hfr41 hM41
             go_wp2_with (first | ((with_reducible refine gate_store (t := 3) (p := 53) rfl ?_); refine store_event (t := 3) (p := 53) (v := ?vo_w42) (w1 := (wc.setCell ⟨go34, (t118 : Int).toNat * 5 + 4, none⟩ (.int .i64 a2))) ?hg ?ho ?hn ?hr ?_; (case ho => rfl); (case hg => rfl); (case hn => rfl); (case hr => first | (go_simp; done) | (go_simp; rfl)); intro w42 hw; have hg : wc.grownBy w42 (some go34) := (by rw [hw]; exact HP41.2); have hp_ : Kd.R k121 121 w42 w.heap.size (fun _ => True) (.slice (some ⟨go34, 0, none⟩) y115.length co34) y129 := (by rw [hw, Ny129.out]; exact HP41.1); clear HP41; have n0_ := Aside0.mk (hp_); have n1_ := Aside0.mk ((by rw [hw]; exact below_set (HB.out) GB34.out : Below w.heap.size w w42)); clear HO_8; clear HB; have HO_8 := n0_; have HB := n1_; clear n0_ n1_; clear hg hw hp_) | (go_at_call 91; refine calls_of_args (args' := #[.slice (some ⟨go34, 0, none⟩) y129.length co34]) (by first | (rw [show y129.length = y115.length from (Kd.R_reads' HO_8.out).1.symm] <;> rfl) | rfl) ?_; (with_reducible refine (spec_AreClaims.calls kj5 _ _ y129 false _ ?side1 ?side2 A35.out).mono ?_); (case side1 => repeat (first | exact (Kd.R_reads' HO_8.out).2.2 | (with_reducible refine Kd.C_alloc ?_ _) | (with_reducible refine Kd.C_drewN ?_ _) | (with_reducible refine Kd.C_drew ?_))); (case side2 => rw [show y129.length = y115.length from (Kd.R_reads' HO_8.out).1.symm]; exact (Kd.R_reads' HO_8.out).2.1); rintro e w43 ⟨rfl, hb⟩; have n0_ := Aside0.mk (Kd.R_below (by (with_reducible repeat (first | apply Kd.R_alloc | apply Kd.R_drewN | apply Kd.R_drew)); exact HO_8.out) hb); have n1_ := Aside0.mk (below_step (by repeat (first | (with_reducible first | exact HB.out | apply below_alloc | apply pw_below_drewN | apply below_drew1) | exact HB.out)) hb); clear HO_8; clear HB; have HO_8 := n0_; have HB := n1_; clear n0_ n1_; (try clear hb); (try clear hb2); (try clear hk); (try clear hi)) | ((with_reducible refine gate_dst (N := 61) rfl ?_); refine Kd.R_lit k121 _ 121 ?hg (N := 61) ?hd (xs := ([] : List (S121))) (inner := []) (ok := fun _ => True) (okp := fun _ => True) ?hr ?hp (fun _ hk => hk) trivial (Below.refl _ _) (Nat.le_refl _) (by simp) ?_; (case hd => rfl); (case hg => rfl); (case hr => first | (go_simp; done) | (go_simp; rfl)); (case hp => exact (Reps.none _ _)); intro v132 w44 ho45 hb hg_ hnew_; clear hg_ hnew_; (first | rw [← Ny131.out] at ho45 | (simp only [Int.reduceToNat] at ho45; rw [← Ny131.out] at ho45)); have n0_ := Aside0.mk (Kd.R_elder' (by (with_reducible repeat (first | apply Kd.R_alloc | apply Kd.R_drewN | apply Kd.R_drew)); exact HO_8.out) (Kd.R_base ho45) hb); have n1_ := Aside0.mk (Kd.R_lower (Kd.R_new' ho45 (Kd.R_lt (by (with_reducible repeat (first | apply Kd.R_alloc | apply Kd.R_drewN | apply Kd.R_drew)); exact HO_8.out))) (below_size (by repeat (first | (with_reducible first | exact HB.out | apply below_alloc | apply pw_below_drewN | apply below_drew1) | exact HB.out)))); have n2_ := Aside0.mk (below_step (by repeat (first | (with_reducible first | exact HB.out | apply below_alloc | apply pw_below_drewN | apply below_drew1) | exact HB.out)) hb); clear HO_8; clear HB; have HO_8 := n0_; have HO133 := n1_; have HB := n2_; clear n0_ n1_ n2_; clear hb ho45) | ((with_reducible refine gate_builtin (b := .append) (xs := #[.tmp 61, .tmp 62]) rfl ?_); at_builtin; refine Kd.R_append_rows k121 (w0 := w) w.heap.size rfl (.tmp 61) (.tmp 62) 56 121 (.agg #[(.int .i64 0), (.int .i64 0), (.int .i64 0), (.int .i64 0), (.int .i64 0)]) 40 rfl Try.underlying56 info121 rfl (by decide) (by omega) v132 y131 l0 _ _ _ (fun k_ => some k_ ≠ (.slice (some ⟨go34, 0, none⟩) y115.length co34 : Value).ownBlock) (fun _ => False) rfl rfl ?aO ?aR (fun _ _ h => h) (fun _ h => h.elim) ?aF ?aB ?aS ?aL ?_; (case aR => repeat (first | exact (Kd.C_below HR0.out HB.out) | (with_reducible refine Kd.C_alloc ?_ _) | (with_reducible refine Kd.C_drewN ?_ _) | (with_reducible refine Kd.C_drew ?_))); (case aB => exact (by repeat (first | (with_reducible first | exact HB.out | apply below_alloc | apply pw_below_drewN | apply below_drew1) | exact HB.out))); (case aF => exact (fun k_ hk => Kd.fresh' (Kd.R_lt (by (with_reducible repeat (first | apply Kd.R_alloc | apply Kd.R_drewN | apply Kd.R_drew)); exact HO_8.out)) k_ hk)); (case aO => exact (by (with_reducible repeat (first | apply Kd.R_alloc | apply Kd.R_drewN | apply Kd.R_drew)); exact Kd.R_mono HO133.out (fun _ hk => hk.2))); (case aS => exact (below_size (by repeat (first | (with_reducible first | exact HB.out | apply below_alloc | apply pw_below_drewN | apply below_drew1) | exact HB.out)))); (case aL => have := LMc40.out; omega); intro v135 w46 ho hb hg hat; rw [← Ny134.out] at ho; have n0_ := Aside0.mk (Kd.R_after (ok := (fun _ => True)) (by (with_reducible repeat (first | apply Kd.R_alloc | apply Kd.R_drewN | apply Kd.R_drew)); exact HO_8.out) hg hat); have n1_ := Aside0.mk (hb); have n2_ := Aside0.mk (ho); clear HO_8; clear HB; clear HO133; have HO_8 := n0_; have HB := n1_; have HO136 := n2_; clear n0_ n1_ n2_; clear ho hb hg hat))
             go_ret2
             exact ⟨_, by first | rfl | (simp [errW_none, errW_some] <;> rfl) | (simp [*, errW_none, errW_some] <;> rfl), by (with_reducible repeat (first | apply Kd.R_alloc | apply Kd.R_drewN | apply Kd.R_drew)); exact Kd.R_mono HO136.out (fun _ hk => trivial), by repeat (first | (with_reducible first | exact HB.out | apply below_alloc | apply pw_below_drewN | apply below_drew1) | exact HB.out)⟩
            ·rw [if_neg c40] at H
             exact absurd H (by simp)
          ·rw [if_neg c33] at H
           exact absurd H (by simp)
         ·rw [if_neg c32] at H
          have c32b0 : (a2 == 2) = false := beq_eq_false_iff_ne.mpr c32
          have c32b1 : (a2 != 2) = true := bne_iff_ne.mpr c32
          by_cases c47 : ((rd_T121 l0 t118).f4) = 1
          ·rw [if_pos c47] at H
           have c47b0 : (((rd_T121 l0 t118).f4) == 1) = true := beq_iff_eq.mpr c47
           have c47b1 : (((rd_T121 l0 t118).f4) != 1) = false := bne_eq_false_iff_eq.mpr c47
           clear c47
           by_cases c48 : t118 < (y115.length : Int)
           ·rw [if_pos c48] at H
            have c48b0 : decide (t118 < (y115.length : Int)) = true := decide_eq_true c48
            clear c48
            obtain ⟨y137, hy137⟩ : ∃ y_ : List (S121), y_ = (y115.set (t118 : Int).toNat (⟨(rd_T121 y115 t118).f0, (rd_T121 y115 t118).f1, (rd_T121 y115 t118).f2, (rd_T121 y115 t118).f3, a2⟩ : S121)) := ⟨_, rfl⟩
            replace H : (if a2 = 3 then ((spec_AreClaims.f kj5 y137).bind fun t138 => (if t138 = true then (some (y137, true)) else ((some (([] : List (S121)) : List (S121))).bind fun y139 => (if y139.length + l0.length < 3518437208883 then (some ((y139 ++ l0), false)) else (none))))) else ((some (([] : List (S121)) : List (S121))).bind fun y145 => (if y145.length + l0.length < 3518437208883 then (some ((y145 ++ l0), false)) else (none)))) = some (r1, r2) := by first | (rw [hy137]; with_reducible exact H) | (have H2_ := (Option.bind_some _ _).symm.trans H; rw [hy137]; with_reducible exact H2_) | (have H2_ := (Option.bind_some _ _).symm.trans H; with_reducible exact H2_) | with_reducible exact H | (rw [hy137]; exact H) | exact H
            have Ny137 := Aside0.mk hy137
            clear hy137
            by_cases c50 : a2 = 3
            ·rw [if_pos c50] at H
             have c50b0 : (a2 == 3) = true := beq_iff_eq.mpr c50
             have c50b1 : (a2 != 3) = false := bne_eq_false_iff_eq.mpr c50
             clear c50
             replace H := Option.bind_eq_some_iff.mp H
             obtain ⟨t138, A510, H⟩ := H
             replace H : (if t138 = true then (some (y137, true)) else ((some (([] : List (S121)) : List (S121))).bind fun y139 => (if y139.length + l0.length < 3518437208883 then (some ((y139 ++ l0), false)) else (none)))) = some (r1, r2) := H
             have A51 := Aside0.mk A510
             clear A510
             by_cases c52 : t138 = true
             ·subst c52
              have H1 : (some (y137, true)) = some (r1, r2) := by rw [if_pos rfl] at H; exact H
              clear H
              have H := H1
              clear H1
              simp only [Option.some.injEq, Prod.mk.injEq] at H
              obtain ⟨rfl, rfl⟩ := H
              have p120 : 0 ≤ (t118 : Int) := of_decide_eq_true ‹_›
              have q120 : t118 < (l0.length : Int) := of_decide_eq_true ‹_›
              obtain ⟨ad120, e120, hx120_0, hx120_1, hx120_2, hx120_3, hx120_4⟩ := at_T121 HR0.out t118 p120 q120
              cases e120
              replace hx120_0 := (HB.out.cell (World.block_lt_of_cell? w _ hx120_0)).trans hx120_0
              replace hx120_1 := (HB.out.cell (World.block_lt_of_cell? w _ hx120_1)).trans hx120_1
              replace hx120_2 := (HB.out.cell (World.block_lt_of_cell? w _ hx120_2)).trans hx120_2
              replace hx120_3 := (HB.out.cell (World.block_lt_of_cell? w _ hx120_3)).trans hx120_3
              replace hx120_4 := (HB.out.cell (World.block_lt_of_cell? w _ hx120_4)).trans hx120_4
              replace p120 := eq_true p120
              replace q120 := eq_true q120
              have p49 : 0 ≤ (t118 : Int) := of_decide_eq_true ‹_›
              have q49 : (t118 : Int) < ((y115.length : Int) : Int) := of_decide_eq_true ‹_›
              obtain ⟨go49, co49, eo49, gb49, gl49, cl49, HG49⟩ := Kd.R_form HO_8.out (by omega)
              (first | cases eo49 | (injection eo49 with ea_ en_ ec_; (first | subst ea_ | (injection ea_ with ea_; subst ea_)); subst ec_; clear en_))
              have GB49 := Aside0.mk gb49
              have GG49 := Aside0.mk HG49
              clear gb49 gl49 HG49
              obtain ⟨ce49, hcl49, hM49, hcc49, hfr49⟩ := Kd.R_elem HO_8.out z121 (t118 : Int) p49 q49
              obtain rfl := k121_openM hM49
              have hx49_0 : wc.cell? ⟨go49, (t118 : Int).toNat * 5, none⟩ = some (.int .i64 ((rd_T121 y115 t118).f0)) := hcc49 0 _ rfl
              have hx49_1 : wc.cell? ⟨go49, (t118 : Int).toNat * 5 + 1, none⟩ = some (.int .i64 ((rd_T121 y115 t118).f1)) := hcc49 1 _ rfl
              have hx49_2 : wc.cell? ⟨go49, (t118 : Int).toNat * 5 + 2, none⟩ = some (.int .i64 ((rd_T121 y115 t118).f2)) := hcc49 2 _ rfl
              have hx49_3 : wc.cell? ⟨go49, (t118 : Int).toNat * 5 + 3, none⟩ = some (.int .i64 ((rd_T121 y115 t118).f3)) := hcc49 3 _ rfl
              have hx49_4 : wc.cell? ⟨go49, (t118 : Int).toNat * 5 + 4, none⟩ = some (.int .i64 ((rd_T121 y115 t118).f4)) := hcc49 4 _ rfl
              have hf49_0 : wc.frozen? ⟨go49, (t118 : Int).toNat * 5, none⟩ = false := hfr49 0
              have hf49_1 : wc.frozen? ⟨go49, (t118 : Int).toNat * 5 + 1, none⟩ = false := hfr49 1
              have hf49_2 : wc.frozen? ⟨go49, (t118 : Int).toNat * 5 + 2, none⟩ = false := hfr49 2
              have hf49_3 : wc.frozen? ⟨go49, (t118 : Int).toNat * 5 + 3, none⟩ = false := hfr49 3
              have hf49_4 : wc.frozen? ⟨go49, (t118 : Int).toNat * 5 + 4, none⟩ = false := hfr49 4
              clear hcl49 hcc49 hfr49 hM49
              replace p49 := eq_true p49
              replace q49 := eq_true q49
              have HX53 := Aside0.mk (show Kd.R k121 121 wc w.heap.size (fun _ => True) (.slice (some ⟨go49, 0, none⟩) y115.length co49) y115 from (by (with_reducible repeat (first | apply Kd.R_alloc | apply Kd.R_drewN | apply Kd.R_drew)); exact HO_8.out))
              obtain ⟨ce53, hcl53, hM53, hcc53, hfr53⟩ := Kd.R_elem HX53.out z121 (t118 : Int) (of_decide_eq_true ‹_›) (by have h_ : (t118 : Int) < ((y115.length : Int) : Int) := of_decide_eq_true ‹_›; first | exact h_ | (have e_ := (Kd.R_reads' HO_8.out).1; omega) | simpa using h_)
              obtain rfl := k121_openM hM53
              have HP53 := Kd.R_seg HX53.out (t118 : Int) (of_decide_eq_true ‹_›) (by have h_ : (t118 : Int) < ((y115.length : Int) : Int) := of_decide_eq_true ‹_›; first | exact h_ | (have e_ := (Kd.R_reads' HO_8.out).1; omega) | simpa using h_) (seg := [.int .i64 a2]) (j := 4) hcl53 hcc53 (show 5 ≤ 5 from by decide) (x' := (⟨(rd_T121 y115 t118).f0, (rd_T121 y115 t118).f1, (rd_T121 y115 t118).f2, (rd_T121 y115 t118).f3, a2⟩ : S121)) (k121_mkM _ _ _ (⟨(rd_T121 y115 t118).f0, (rd_T121 y115 t118).f1, (rd_T121 y115 t118).f2, (rd_T121 y115 t118).f3, a2⟩ : S121) ) (fun _ hk => hk)
              have hx53_4 := hcc53 4 _ rfl
              (try simp only [show (k121).sz = 5 from rfl, Nat.mul_one, Nat.add_zero] at hx53_4)
              have hf53_4 := hfr53 4
              (try simp only [show (k121).sz = 5 from rfl, Nat.mul_one, Nat.add_zero] at hf53_4)
              clear hcl53 hcc53 hfr53 hM53
              go_wp2_with (first | ((with_reducible refine gate_store (t := 3) (p := 53) rfl ?_); refine store_event (t := 3) (p := 53) (v := ?vo_w54) (w1 := (wc.setCell ⟨go49, (t118 : Int).toNat * 5 + 4, none⟩ (.int .i64 a2))) ?hg ?ho ?hn ?hr ?_; (case ho => rfl); (case hg => rfl); (case hn => rfl); (case hr => first | (go_simp; done) | (go_simp; rfl)); intro w54 hw; have hg : wc.grownBy w54 (some go49) := (by rw [hw]; exact HP53.2); have hp_ : Kd.R k121 121 w54 w.heap.size (fun _ => True) (.slice (some ⟨go49, 0, none⟩) y115.length co49) y137 := (by rw [hw, Ny137.out]; exact HP53.1); clear HP53; have n0_ := Aside0.mk (hp_); have n1_ := Aside0.mk ((by rw [hw]; exact below_set (HB.out) GB49.out : Below w.heap.size w w54)); clear HO_8; clear HB; have HO_8 := n0_; have HB := n1_; clear n0_ n1_; clear hg hw hp_) | (go_at_call 91; refine calls_of_args (args' := #[.slice (some ⟨go49, 0, none⟩) y137.length co49]) (by first | (rw [show y137.length = y115.length from (Kd.R_reads' HO_8.out).1.symm] <;> rfl) | rfl) ?_; (with_reducible refine (spec_AreClaims.calls kj5 _ _ y137 true _ ?side1 ?side2 A51.out).mono ?_); (case side1 => repeat (first | exact (Kd.R_reads' HO_8.out).2.2 | (with_reducible refine Kd.C_alloc ?_ _) | (with_reducible refine Kd.C_drewN ?_ _) | (with_reducible refine Kd.C_drew ?_))); (case side2 => rw [show y137.length = y115.length from (Kd.R_reads' HO_8.out).1.symm]; exact (Kd.R_reads' HO_8.out).2.1); rintro e w55 ⟨rfl, hb⟩; have n0_ := Aside0.mk (Kd.R_below (by (with_reducible repeat (first | apply Kd.R_alloc | apply Kd.R_drewN | apply Kd.R_drew)); exact HO_8.out) hb); have n1_ := Aside0.mk (below_step (by repeat (first | (with_reducible first | exact HB.out | apply below_alloc | apply pw_below_drewN | apply below_drew1) | exact HB.out)) hb); clear HO_8; clear HB; have HO_8 := n0_; have HB := n1_; clear n0_ n1_; (try clear hb); (try clear hb2); (try clear hk); (try clear hi)))
              go_ret2
              exact ⟨_, by first | rfl | (simp [errW_none, errW_some] <;> rfl) | (simp [*, errW_none, errW_some] <;> rfl), by (with_reducible repeat (first | apply Kd.R_alloc | apply Kd.R_drewN | apply Kd.R_drew)); exact HO_8.out, by repeat (first | (with_reducible first | exact HB.out | apply below_alloc | apply pw_below_drewN | apply below_drew1) | exact HB.out)⟩
             ·replace c52 := Bool.eq_false_iff.mpr c52
              subst c52
              have H1 : ((some (([] : List (S121)) : List (S121))).bind fun y139 => (if y139.length + l0.length < 3518437208883 then (some ((y139 ++ l0), false)) else (none))) = some (r1, r2) := by rw [if_neg (show ¬ (false = true) by decide)] at H; exact H
              clear H
              have H := H1
              clear H1
              obtain ⟨y139, hy139⟩ : ∃ y_ : List (S121), y_ = (([] : List (S121))) := ⟨_, rfl⟩
              replace H : (if y139.length + l0.length < 3518437208883 then (some ((y139 ++ l0), false)) else (none)) = some (r1, r2) := by first | (rw [hy139]; with_reducible exact H) | (have H2_ := (Option.bind_some _ _).symm.trans H; rw [hy139]; with_reducible exact H2_) | (have H2_ := (Option.bind_some _ _).symm.trans H; with_reducible exact H2_) | with_reducible exact H | (rw [hy139]; exact H) | exact H
              have Ny139 := Aside0.mk hy139
              clear hy139
              by_cases c56 : y139.length + l0.length < 3518437208883
              ·rw [if_pos c56] at H
               have LMc56 := Aside0.mk c56
               clear c56
               obtain ⟨y142, hy142⟩ : ∃ y_ : List (S121), y_ = (y139 ++ l0) := ⟨_, rfl⟩
               replace H : (some (y142, false)) = some (r1, r2) := by first | (rw [hy142]; with_reducible exact H) | (have H2_ := (Option.bind_some _ _).symm.trans H; rw [hy142]; with_reducible exact H2_) | (have H2_ := (Option.bind_some _ _).symm.trans H; with_reducible exact H2_) | with_reducible exact H | (rw [hy142]; exact H) | exact H
               have Ny142 := Aside0.mk hy142
               clear hy142
               simp only [Option.some.injEq, Prod.mk.injEq] at H
               obtain ⟨rfl, rfl⟩ := H
               have p120 : 0 ≤ (t118 : Int) := of_decide_eq_true ‹_›
               have q120 : t118 < (l0.length : Int) := of_decide_eq_true ‹_›
               obtain ⟨ad120, e120, hx120_0, hx120_1, hx120_2, hx120_3, hx120_4⟩ := at_T121 HR0.out t118 p120 q120
               cases e120
               replace hx120_0 := (HB.out.cell (World.block_lt_of_cell? w _ hx120_0)).trans hx120_0
               replace hx120_1 := (HB.out.cell (World.block_lt_of_cell? w _ hx120_1)).trans hx120_1
               replace hx120_2 := (HB.out.cell (World.block_lt_of_cell? w _ hx120_2)).trans hx120_2
               replace hx120_3 := (HB.out.cell (World.block_lt_of_cell? w _ hx120_3)).trans hx120_3
               replace hx120_4 := (HB.out.cell (World.block_lt_of_cell? w _ hx120_4)).trans hx120_4
               replace p120 := eq_true p120
               replace q120 := eq_true q120
               have p49 : 0 ≤ (t118 : Int) := of_decide_eq_true ‹_›
               have q49 : (t118 : Int) < ((y115.length : Int) : Int) := of_decide_eq_true ‹_›
               obtain ⟨go49, co49, eo49, gb49, gl49, cl49, HG49⟩ := Kd.R_form HO_8.out (by omega)
               (first | cases eo49 | (injection eo49 with ea_ en_ ec_; (first | subst ea_ | (injection ea_ with ea_; subst ea_)); subst ec_; clear en_))
               have GB49 := Aside0.mk gb49
               have GG49 := Aside0.mk HG49
               clear gb49 gl49 HG49
               obtain ⟨ce49, hcl49, hM49, hcc49, hfr49⟩ := Kd.R_elem HO_8.out z121 (t118 : Int) p49 q49
               obtain rfl := k121_openM hM49
               have hx49_0 : wc.cell? ⟨go49, (t118 : Int).toNat * 5, none⟩ = some (.int .i64 ((rd_T121 y115 t118).f0)) := hcc49 0 _ rfl
               have hx49_1 : wc.cell? ⟨go49, (t118 : Int).toNat * 5 + 1, none⟩ = some (.int .i64 ((rd_T121 y115 t118).f1)) := hcc49 1 _ rfl
               have hx49_2 : wc.cell? ⟨go49, (t118 : Int).toNat * 5 + 2, none⟩ = some (.int .i64 ((rd_T121 y115 t118).f2)) := hcc49 2 _ rfl
               have hx49_3 : wc.cell? ⟨go49, (t118 : Int).toNat * 5 + 3, none⟩ = some (.int .i64 ((rd_T121 y115 t118).f3)) := hcc49 3 _ rfl
               have hx49_4 : wc.cell? ⟨go49, (t118 : Int).toNat * 5 + 4, none⟩ = some (.int .i64 ((rd_T121 y115 t118).f4)) := hcc49 4 _ rfl
               have hf49_0 : wc.frozen? ⟨go49, (t118 : Int).toNat * 5, none⟩ = false := hfr49 0
               have hf49_1 : wc.frozen? ⟨go49, (t118 : Int).toNat * 5 + 1, none⟩ = false := hfr49 1
               have hf49_2 : wc.frozen? ⟨go49, (t118 : Int).toNat * 5 + 2, none⟩ = false := hfr49 2
               have hf49_3 : wc.frozen? ⟨go49, (t118 : Int).toNat * 5 + 3, none⟩ = false := hfr49 3
               have hf49_4 : wc.frozen? ⟨go49, (t118 : Int).toNat * 5 + 4, none⟩ = false := hfr49 4
               clear hcl49 hcc49 hfr49 hM49
               replace p49 := eq_true p49
               replace q49 := eq_true q49
               have HX57 := Aside0.mk (show Kd.R k121 121 wc w.heap.size (fun _ => True) (.slice (some ⟨go49, 0, none⟩) y115.length co49) y115 from (by (with_reducible repeat (first | apply Kd.R_alloc | apply Kd.R_drewN | apply Kd.R_drew)); exact HO_8.out))
               obtain ⟨ce57, hcl57, hM57, hcc57, hfr57⟩ := Kd.R_elem HX57.out z121 (t118 : Int) (of_decide_eq_true ‹_›) (by have h_ : (t118 : Int) < ((y115.length : Int) : Int) := of_decide_eq_true ‹_›; first | exact h_ | (have e_ := (Kd.R_reads' HO_8.out).1; omega) | simpa using h_)
               obtain rfl := k121_openM hM57
               have HP57 := Kd.R_seg HX57.out (t118 : Int) (of_decide_eq_true ‹_›) (by have h_ : (t118 : Int) < ((y115.length : Int) : Int) := of_decide_eq_true ‹_›; first | exact h_ | (have e_ := (Kd.R_reads' HO_8.out).1; omega) | simpa using h_) (seg := [.int .i64 a2]) (j := 4) hcl57 hcc57 (show 5 ≤ 5 from by decide) (x' := (⟨(rd_T121 y115 t118).f0, (rd_T121 y115 t118).f1, (rd_T121 y115 t118).f2, (rd_T121 y115 t118).f3, a2⟩ : S121)) (k121_mkM _ _ _ (⟨(rd_T121 y115 t118).f0, (rd_T121 y115 t118).f1, (rd_T121 y115 t118).f2, (rd_T121 y115 t118).f3, a2⟩ : S121) ) (fun _ hk => hk)
               have hx57_4 := hcc57 4 _ rfl
               (try simp only [show (k121).sz = 5 from rfl, Nat.mul_one, Nat.add_zero] at hx57_4)
               have hf57_4 := hfr57 4
               (try simp only [show (k121).sz = 5 from rfl, Nat.mul_one, Nat.add_zero] at hf57_4)
               clear hcl57 hcc57 hfr57 hM57
               go_wp2_with (first | ((with_reducible refine gate_store (t := 3) (p := 53) rfl ?_); refine store_event (t := 3) (p := 53) (v := ?vo_w58) (w1 := (wc.setCell ⟨go49, (t118 : Int).toNat * 5 + 4, none⟩ (.int .i64 a2))) ?hg ?ho ?hn ?hr ?_; (case ho => rfl); (case hg => rfl); (case hn => rfl); (case hr => first | (go_simp; done) | (go_simp; rfl)); intro w58 hw; have hg : wc.grownBy w58 (some go49) := (by rw [hw]; exact HP57.2); have hp_ : Kd.R k121 121 w58 w.heap.size (fun _ => True) (.slice (some ⟨go49, 0, none⟩) y115.length co49) y137 := (by rw [hw, Ny137.out]; exact HP57.1); clear HP57; have n0_ := Aside0.mk (hp_); have n1_ := Aside0.mk ((by rw [hw]; exact below_set (HB.out) GB49.out : Below w.heap.size w w58)); clear HO_8; clear HB; have HO_8 := n0_; have HB := n1_; clear n0_ n1_; clear hg hw hp_) | (go_at_call 91; refine calls_of_args (args' := #[.slice (some ⟨go49, 0, none⟩) y137.length co49]) (by first | (rw [show y137.length = y115.length from (Kd.R_reads' HO_8.out).1.symm] <;> rfl) | rfl) ?_; (with_reducible refine (spec_AreClaims.calls kj5 _ _ y137 false _ ?side1 ?side2 A51.out).mono ?_); (case side1 => repeat (first | exact (Kd.R_reads' HO_8.out).2.2 | (with_reducible refine Kd.C_alloc ?_ _) | (with_reducible refine Kd.C_drewN ?_ _) | (with_reducible refine Kd.C_drew ?_))); (case side2 => rw [show y137.length = y115.length from (Kd.R_reads' HO_8.out).1.symm]; exact (Kd.R_reads' HO_8.out).2.1); rintro e w59 ⟨rfl, hb⟩; have n0_ := Aside0.mk (Kd.R_below (by (with_reducible repeat (first | apply Kd.R_alloc | apply Kd.R_drewN | apply Kd.R_drew)); exact HO_8.out) hb); have n1_ := Aside0.mk (below_step (by repeat (first | (with_reducible first | exact HB.out | apply below_alloc | apply pw_below_drewN | apply below_drew1) | exact HB.out)) hb); clear HO_8; clear HB; have HO_8 := n0_; have HB := n1_; clear n0_ n1_; (try clear hb); (try clear hb2); (try clear hk); (try clear hi)) | ((with_reducible refine gate_dst (N := 61) rfl ?_); refine Kd.R_lit k121 _ 121 ?hg (N := 61) ?hd (xs := ([] : List (S121))) (inner := []) (ok := fun _ => True) (okp := fun _ => True) ?hr ?hp (fun _ hk => hk) trivial (Below.refl _ _) (Nat.le_refl _) (by simp) ?_; (case hd => rfl); (case hg => rfl); (case hr => first | (go_simp; done) | (go_simp; rfl)); (case hp => exact (Reps.none _ _)); intro v140 w60 ho61 hb hg_ hnew_; clear hg_ hnew_; (first | rw [← Ny139.out] at ho61 | (simp only [Int.reduceToNat] at ho61; rw [← Ny139.out] at ho61)); have n0_ := Aside0.mk (Kd.R_elder' (by (with_reducible repeat (first | apply Kd.R_alloc | apply Kd.R_drewN | apply Kd.R_drew)); exact HO_8.out) (Kd.R_base ho61) hb); have n1_ := Aside0.mk (Kd.R_lower (Kd.R_new' ho61 (Kd.R_lt (by (with_reducible repeat (first | apply Kd.R_alloc | apply Kd.R_drewN | apply Kd.R_drew)); exact HO_8.out))) (below_size (by repeat (first | (with_reducible first | exact HB.out | apply below_alloc | apply pw_below_drewN | apply below_drew1) | exact HB.out)))); have n2_ := Aside0.mk (below_step (by repeat (first | (with_reducible first | exact HB.out | apply below_alloc | apply pw_below_drewN | apply below_drew1) | exact HB.out)) hb); clear HO_8; clear HB; have HO_8 := n0_; have HO141 := n1_; have HB := n2_; clear n0_ n1_ n2_; clear hb ho61) | ((with_reducible refine gate_builtin (b := .append) (xs := #[.tmp 61, .tmp 62]) rfl ?_); at_builtin; refine Kd.R_append_rows k121 (w0 := w) w.heap.size rfl (.tmp 61) (.tmp 62) 56 121 (.agg #[(.int .i64 0), (.int .i64 0), (.int .i64 0), (.int .i64 0), (.int .i64 0)]) 40 rfl Try.underlying56 info121 rfl (by decide) (by omega) v140 y139 l0 _ _ _ (fun k_ => some k_ ≠ (.slice (some ⟨go49, 0, none⟩) y115.length co49 : Value).ownBlock) (fun _ => False) rfl rfl ?aO ?aR (fun _ _ h => h) (fun _ h => h.elim) ?aF ?aB ?aS ?aL ?_; (case aR => repeat (first | exact (Kd.C_below HR0.out HB.out) | (with_reducible refine Kd.C_alloc ?_ _) | (with_reducible refine Kd.C_drewN ?_ _) | (with_reducible refine Kd.C_drew ?_))); (case aB => exact (by repeat (first | (with_reducible first | exact HB.out | apply below_alloc | apply pw_below_drewN | apply below_drew1) | exact HB.out))); (case aF => exact (fun k_ hk => Kd.fresh' (Kd.R_lt (by (with_reducible repeat (first | apply Kd.R_alloc | apply Kd.R_drewN | apply Kd.R_drew)); exact HO_8.out)) k_ hk)); (case aO => exact (by (with_reducible repeat (first | apply Kd.R_alloc | apply Kd.R_drewN | apply Kd.R_drew)); exact Kd.R_mono HO141.out (fun _ hk => hk.2))); (case aS => exact (below_size (by repeat (first | (with_reducible first | exact HB.out | apply below_alloc | apply pw_below_drewN | apply below_drew1) | exact HB.out)))); (case aL => have := LMc56.out; omega); intro v143 w62 ho hb hg hat; rw [← Ny142.out] at ho; have n0_ := Aside0.mk (Kd.R_after (ok := (fun _ => True)) (by (with_reducible repeat (first | apply Kd.R_alloc | apply Kd.R_drewN | apply Kd.R_drew)); exact HO_8.out) hg hat); have n1_ := Aside0.mk (hb); have n2_ := Aside0.mk (ho); clear HO_8; clear HB; clear HO141; have HO_8 := n0_; have HB := n1_; have HO144 := n2_; clear n0_ n1_ n2_; clear ho hb hg hat))
               go_ret2
               exact ⟨_, by first | rfl | (simp [errW_none, errW_some] <;> rfl) | (simp [*, errW_none, errW_some] <;> rfl), by (with_reducible repeat (first | apply Kd.R_alloc | apply Kd.R_drewN | apply Kd.R_drew)); exact Kd.R_mono HO144.out (fun _ hk => trivial), by repeat (first | (with_reducible first | exact HB.out | apply below_alloc | apply pw_below_drewN | apply below_drew1) | exact HB.out)⟩
              ·rw [if_neg c56] at H
               exact absurd H (by simp)
            ·rw [if_neg c50] at H
             have c50b0 : (a2 == 3) = false := beq_eq_false_iff_ne.mpr c50
             have c50b1 : (a2 != 3) = true := bne_iff_ne.mpr c50
             obtain ⟨y145, hy145⟩ : ∃ y_ : List (S121), y_ = (([] : List (S121))) := ⟨_, rfl⟩
             replace H : (if y145.length + l0.length < 3518437208883 then (some ((y145 ++ l0), false)) else (none)) = some (r1, r2) := by first | (rw [hy145]; with_reducible exact H) | (have H2_ := (Option.bind_some _ _).symm.trans H; rw [hy145]; with_reducible exact H2_) | (have H2_ := (Option.bind_some _ _).symm.trans H; with_reducible exact H2_) | with_reducible exact H | (rw [hy145]; exact H) | exact H
             have Ny145 := Aside0.mk hy145
             clear hy145
             by_cases c63 : y145.length + l0.length < 3518437208883
             ·rw [if_pos c63] at H
              have LMc63 := Aside0.mk c63
              clear c63
              obtain ⟨y148, hy148⟩ : ∃ y_ : List (S121), y_ = (y145 ++ l0) := ⟨_, rfl⟩
              replace H : (some (y148, false)) = some (r1, r2) := by first | (rw [hy148]; with_reducible exact H) | (have H2_ := (Option.bind_some _ _).symm.trans H; rw [hy148]; with_reducible exact H2_) | (have H2_ := (Option.bind_some _ _).symm.trans H; with_reducible exact H2_) | with_reducible exact H | (rw [hy148]; exact H) | exact H
              have Ny148 := Aside0.mk hy148
              clear hy148
              simp only [Option.some.injEq, Prod.mk.injEq] at H
              obtain ⟨rfl, rfl⟩ := H
              have p120 : 0 ≤ (t118 : Int) := of_decide_eq_true ‹_›
              have q120 : t118 < (l0.length : Int) := of_decide_eq_true ‹_›
              obtain ⟨ad120, e120, hx120_0, hx120_1, hx120_2, hx120_3, hx120_4⟩ := at_T121 HR0.out t118 p120 q120
              cases e120
              replace hx120_0 := (HB.out.cell (World.block_lt_of_cell? w _ hx120_0)).trans hx120_0
              replace hx120_1 := (HB.out.cell (World.block_lt_of_cell? w _ hx120_1)).trans hx120_1
              replace hx120_2 := (HB.out.cell (World.block_lt_of_cell? w _ hx120_2)).trans hx120_2
              replace hx120_3 := (HB.out.cell (World.block_lt_of_cell? w _ hx120_3)).trans hx120_3
              replace hx120_4 := (HB.out.cell (World.block_lt_of_cell? w _ hx120_4)).trans hx120_4
              replace p120 := eq_true p120
              replace q120 := eq_true q120
              have p49 : 0 ≤ (t118 : Int) := of_decide_eq_true ‹_›
              have q49 : (t118 : Int) < ((y115.length : Int) : Int) := of_decide_eq_true ‹_›
              obtain ⟨go49, co49, eo49, gb49, gl49, cl49, HG49⟩ := Kd.R_form HO_8.out (by omega)
              (first | cases eo49 | (injection eo49 with ea_ en_ ec_; (first | subst ea_ | (injection ea_ with ea_; subst ea_)); subst ec_; clear en_))
              have GB49 := Aside0.mk gb49
              have GG49 := Aside0.mk HG49
              clear gb49 gl49 HG49
              obtain ⟨ce49, hcl49, hM49, hcc49, hfr49⟩ := Kd.R_elem HO_8.out z121 (t118 : Int) p49 q49
              obtain rfl := k121_openM hM49
              have hx49_0 : wc.cell? ⟨go49, (t118 : Int).toNat * 5, none⟩ = some (.int .i64 ((rd_T121 y115 t118).f0)) := hcc49 0 _ rfl
              have hx49_1 : wc.cell? ⟨go49, (t118 : Int).toNat * 5 + 1, none⟩ = some (.int .i64 ((rd_T121 y115 t118).f1)) := hcc49 1 _ rfl
              have hx49_2 : wc.cell? ⟨go49, (t118 : Int).toNat * 5 + 2, none⟩ = some (.int .i64 ((rd_T121 y115 t118).f2)) := hcc49 2 _ rfl
              have hx49_3 : wc.cell? ⟨go49, (t118 : Int).toNat * 5 + 3, none⟩ = some (.int .i64 ((rd_T121 y115 t118).f3)) := hcc49 3 _ rfl
              have hx49_4 : wc.cell? ⟨go49, (t118 : Int).toNat * 5 + 4, none⟩ = some (.int .i64 ((rd_T121 y115 t118).f4)) := hcc49 4 _ rfl
              have hf49_0 : wc.frozen? ⟨go49, (t118 : Int).toNat * 5, none⟩ = false := hfr49 0
              have hf49_1 : wc.frozen? ⟨go49, (t118 : Int).toNat * 5 + 1, none⟩ = false := hfr49 1
              have hf49_2 : wc.frozen? ⟨go49, (t118 : Int).toNat * 5 + 2, none⟩ = false := hfr49 2
              have hf49_3 : wc.frozen? ⟨go49, (t118 : Int).toNat * 5 + 3, none⟩ = false := hfr49 3
              have hf49_4 : wc.frozen? ⟨go49, (t118 : Int).toNat * 5 + 4, none⟩ = false := hfr49 4
              clear hcl49 hcc49 hfr49 hM49
              replace p49 := eq_true p49
              replace q49 := eq_true q49
              have HX64 := Aside0.mk (show Kd.R k121 121 wc w.heap.size (fun _ => True) (.slice (some ⟨go49, 0, none⟩) y115.length co49) y115 from (by (with_reducible repeat (first | apply Kd.R_alloc | apply Kd.R_drewN | apply Kd.R_drew)); exact HO_8.out))
              obtain ⟨ce64, hcl64, hM64, hcc64, hfr64⟩ := Kd.R_elem HX64.out z121 (t118 : Int) (of_decide_eq_true ‹_›) (by have h_ : (t118 : Int) < ((y115.length : Int) : Int) := of_decide_eq_true ‹_›; first | exact h_ | (have e_ := (Kd.R_reads' HO_8.out).1; omega) | simpa using h_)
              obtain rfl := k121_openM hM64
              have HP64 := Kd.R_seg HX64.out (t118 : Int) (of_decide_eq_true ‹_›) (by have h_ : (t118 : Int) < ((y115.length : Int) : Int) := of_decide_eq_true ‹_›; first | exact h_ | (have e_ := (Kd.R_reads' HO_8.out).1; omega) | simpa using h_) (seg := [.int .i64 a2]) (j := 4) hcl64 hcc64 (show 5 ≤ 5 from by decide) (x' := (⟨(rd_T121 y115 t118).f0, (rd_T121 y115 t118).f1, (rd_T121 y115 t118).f2, (rd_T121 y115 t118).f3, a2⟩ : S121)) (k121_mkM _ _ _ (⟨(rd_T121 y115 t118).f0, (rd_T121 y115 t118).f1, (rd_T121 y115 t118).f2, (rd_T121 y115 t118).f3, a2⟩ : S121) ) (fun _ hk => hk)
              have hx64_4 := hcc64 4 _ rfl
              (try simp only [show (k121).sz = 5 from rfl, Nat.mul_one, Nat.add_zero] at hx64_4)
              have hf64_4 := hfr64 4
              (try simp only [show (k121).sz = 5 from rfl, Nat.mul_one, Nat.add_zero] at hf64_4)
              clear hcl64 hcc64 hfr64 hM64
              go_wp2_with (first | ((with_reducible refine gate_store (t := 3) (p := 53) rfl ?_); refine store_event (t := 3) (p := 53) (v := ?vo_w65) (w1 := (wc.setCell ⟨go49, (t118 : Int).toNat * 5 + 4, none⟩ (.int .i64 a2))) ?hg ?ho ?hn ?hr ?_; (case ho => rfl); (case hg => rfl); (case hn => rfl); (case hr => first | (go_simp; done) | (go_simp; rfl)); intro w65 hw; have hg : wc.grownBy w65 (some go49) := (by rw [hw]; exact HP64.2); have hp_ : Kd.R k121 121 w65 w.heap.size (fun _ => True) (.slice (some ⟨go49, 0, none⟩) y115.length co49) y137 := (by rw [hw, Ny137.out]; exact HP64.1); clear HP64; have n0_ := Aside0.mk (hp_); have n1_ := Aside0.mk ((by rw [hw]; exact below_set (HB.out) GB49.out : Below w.heap.size w w65)); clear HO_8; clear HB; have HO_8 := n0_; have HB := n1_; clear n0_ n1_; clear hg hw hp_) | ((with_reducible refine gate_dst (N := 61) rfl ?_); refine Kd.R_lit k121 _ 121 ?hg (N := 61) ?hd (xs := ([] : List (S121))) (inner := []) (ok := fun _ => True) (okp := fun _ => True) ?hr ?hp (fun _ hk => hk) trivial (Below.refl _ _) (Nat.le_refl _) (by simp) ?_; (case hd => rfl); (case hg => rfl); (case hr => first | (go_simp; done) | (go_simp; rfl)); (case hp => exact (Reps.none _ _)); intro v146 w66 ho67 hb hg_ hnew_; clear hg_ hnew_; (first | rw [← Ny145.out] at ho67 | (simp only [Int.reduceToNat] at ho67; rw [← Ny145.out] at ho67)); have n0_ := Aside0.mk (Kd.R_elder' (by (with_reducible repeat (first | apply Kd.R_alloc | apply Kd.R_drewN | apply Kd.R_drew)); exact HO_8.out) (Kd.R_base ho67) hb); have n1_ := Aside0.mk (Kd.R_lower (Kd.R_new' ho67 (Kd.R_lt (by (with_reducible repeat (first | apply Kd.R_alloc | apply Kd.R_drewN | apply Kd.R_drew)); exact HO_8.out))) (below_size (by repeat (first | (with_reducible first | exact HB.out | apply below_alloc | apply pw_below_drewN | apply below_drew1) | exact HB.out)))); have n2_ := Aside0.mk (below_step (by repeat (first | (with_reducible first | exact HB.out | apply below_alloc | apply pw_below_drewN | apply below_drew1) | exact HB.out)) hb); clear HO_8; clear HB; have HO_8 := n0_; have HO147 := n1_; have HB := n2_; clear n0_ n1_ n2_; clear hb ho67) | ((with_reducible refine gate_builtin (b := .append) (xs := #[.tmp 61, .tmp 62]) rfl ?_); at_builtin; refine Kd.R_append_rows k121 (w0 := w) w.heap.size rfl (.tmp 61) (.tmp 62) 56 121 (.agg #[(.int .i64 0), (.int .i64 0), (.int .i64 0), (.int .i64 0), (.int .i64 0)]) 40 rfl Try.underlying56 info121 rfl (by decide) (by omega) v146 y145 l0 _ _ _ (fun k_ => some k_ ≠ (.slice (some ⟨go49, 0, none⟩) y115.length co49 : Value).ownBlock) (fun _ => False) rfl rfl ?aO ?aR (fun _ _ h => h) (fun _ h => h.elim) ?aF ?aB ?aS ?aL ?_; (case aR => repeat (first | exact (Kd.C_below HR0.out HB.out) | (with_reducible refine Kd.C_alloc ?_ _) | (with_reducible refine Kd.C_drewN ?_ _) | (with_reducible refine Kd.C_drew ?_))); (case aB => exact (by repeat (first | (with_reducible first | exact HB.out | apply below_alloc | apply pw_below_drewN | apply below_drew1) | exact HB.out))); (case aF => exact (fun k_ hk => Kd.fresh' (Kd.R_lt (by (with_reducible repeat (first | apply Kd.R_alloc | apply Kd.R_drewN | apply Kd.R_drew)); exact HO_8.out)) k_ hk)); (case aO => exact (by (with_reducible repeat (first | apply Kd.R_alloc | apply Kd.R_drewN | apply Kd.R_drew)); exact Kd.R_mono HO147.out (fun _ hk => hk.2))); (case aS => exact (below_size (by repeat (first | (with_reducible first | exact HB.out | apply below_alloc | apply pw_below_drewN | apply below_drew1) | exact HB.out)))); (case aL => have := LMc63.out; omega); intro v149 w68 ho hb hg hat; rw [← Ny148.out] at ho; have n0_ := Aside0.mk (Kd.R_after (ok := (fun _ => True)) (by (with_reducible repeat (first | apply Kd.R_alloc | apply Kd.R_drewN | apply Kd.R_drew)); exact HO_8.out) hg hat); have n1_ := Aside0.mk (hb); have n2_ := Aside0.mk (ho); clear HO_8; clear HB; clear HO147; have HO_8 := n0_; have HB := n1_; have HO150 := n2_; clear n0_ n1_ n2_; clear ho hb hg hat))
              go_ret2
              exact ⟨_, by first | rfl | (simp [errW_none, errW_some] <;> rfl) | (simp [*, errW_none, errW_some] <;> rfl), by (with_reducible repeat (first | apply Kd.R_alloc | apply Kd.R_drewN | apply Kd.R_drew)); exact Kd.R_mono HO150.out (fun _ hk => trivial), by repeat (first | (with_reducible first | exact HB.out | apply below_alloc | apply pw_below_drewN | apply below_drew1) | exact HB.out)⟩
             ·rw [if_neg c63] at H
              exact absurd H (by simp)
           ·rw [if_neg c48] at H
            exact absurd H (by simp)
          ·rw [if_neg c47] at H
           have c47b0 : (((rd_T121 l0 t118).f4) == 1) = false := beq_eq_false_iff_ne.mpr c47
           have c47b1 : (((rd_T121 l0 t118).f4) != 1) = true := bne_iff_ne.mpr c47
           by_cases c69 : t118 < (y115.length : Int)
           ·rw [if_pos c69] at H
            have c69b0 : decide (t118 < (y115.length : Int)) = true := decide_eq_true c69
            clear c69
            obtain ⟨y151, hy151⟩ : ∃ y_ : List (S121), y_ = (y115.set (t118 : Int).toNat (⟨(rd_T121 y115 t118).f0, (rd_T121 y115 t118).f1, (rd_T121 y115 t118).f2, (rd_T121 y115 t118).f3, a2⟩ : S121)) := ⟨_, rfl⟩
            replace H : ((some (([] : List (S121)) : List (S121))).bind fun y152 => (if y152.length + l0.length < 3518437208883 then (some ((y152 ++ l0), false)) else (none))) = some (r1, r2) := by first | (rw [hy151]; with_reducible exact H) | (have H2_ := (Option.bind_some _ _).symm.trans H; rw [hy151]; with_reducible exact H2_) | (have H2_ := (Option.bind_some _ _).symm.trans H; with_reducible exact H2_) | with_reducible exact H | (rw [hy151]; exact H) | exact H
            have Ny151 := Aside0.mk hy151
            clear hy151
            obtain ⟨y152, hy152⟩ : ∃ y_ : List (S121), y_ = (([] : List (S121))) := ⟨_, rfl⟩
            replace H : (if y152.length + l0.length < 3518437208883 then (some ((y152 ++ l0), false)) else (none)) = some (r1, r2) := by first | (rw [hy152]; with_reducible exact H) | (have H2_ := (Option.bind_some _ _).symm.trans H; rw [hy152]; with_reducible exact H2_) | (have H2_ := (Option.bind_some _ _).symm.trans H; with_reducible exact H2_) | with_reducible exact H | (rw [hy152]; exact H) | exact H
            have Ny152 := Aside0.mk hy152
            clear hy152
            by_cases c71 : y152.length + l0.length < 3518437208883
            ·rw [if_pos c71] at H
             have LMc71 := Aside0.mk c71
             clear c71
             obtain ⟨y155, hy155⟩ : ∃ y_ : List (S121), y_ = (y152 ++ l0) := ⟨_, rfl⟩
             replace H : (some (y155, false)) = some (r1, r2) := by first | (rw [hy155]; with_reducible exact H) | (have H2_ := (Option.bind_some _ _).symm.trans H; rw [hy155]; with_reducible exact H2_) | (have H2_ := (Option.bind_some _ _).symm.trans H; with_reducible exact H2_) | with_reducible exact H | (rw [hy155]; exact H) | exact H
             have Ny155 := Aside0.mk hy155
             clear hy155
             simp only [Option.some.injEq, Prod.mk.injEq] at H
             obtain ⟨rfl, rfl⟩ := H
             have p120 : 0 ≤ (t118 : Int) := of_decide_eq_true ‹_›
             have q120 : t118 < (l0.length : Int) := of_decide_eq_true ‹_›
             obtain ⟨ad120, e120, hx120_0, hx120_1, hx120_2, hx120_3, hx120_4⟩ := at_T121 HR0.out t118 p120 q120
             cases e120
             replace hx120_0 := (HB.out.cell (World.block_lt_of_cell? w _ hx120_0)).trans hx120_0
             replace hx120_1 := (HB.out.cell (World.block_lt_of_cell? w _ hx120_1)).trans hx120_1
             replace hx120_2 := (HB.out.cell (World.block_lt_of_cell? w _ hx120_2)).trans hx120_2
             replace hx120_3 := (HB.out.cell (World.block_lt_of_cell? w _ hx120_3)).trans hx120_3
             replace hx120_4 := (HB.out.cell (World.block_lt_of_cell? w _ hx120_4)).trans hx120_4
             replace p120 := eq_true p120
             replace q120 := eq_true q120
             have p70 : 0 ≤ (t118 : Int) := of_decide_eq_true ‹_›
             have q70 : (t118 : Int) < ((y115.length : Int) : Int) := of_decide_eq_true ‹_›
             obtain ⟨go70, co70, eo70, gb70, gl70, cl70, HG70⟩ := Kd.R_form HO_8.out (by omega)
             (first | cases eo70 | (injection eo70 with ea_ en_ ec_; (first | subst ea_ | (injection ea_ with ea_; subst ea_)); subst ec_; clear en_))
             have GB70 := Aside0.mk gb70
             have GG70 := Aside0.mk HG70
             clear gb70 gl70 HG70
             obtain ⟨ce70, hcl70, hM70, hcc70, hfr70⟩ := Kd.R_elem HO_8.out z121 (t118 : Int) p70 q70
             obtain rfl := k121_openM hM70
             have hx70_0 : wc.cell? ⟨go70, (t118 : Int).toNat * 5, none⟩ = some (.int .i64 ((rd_T121 y115 t118).f0)) := hcc70 0 _ rfl
             have hx70_1 : wc.cell? ⟨go70, (t118 : Int).toNat * 5 + 1, none⟩ = some (.int .i64 ((rd_T121 y115 t118).f1)) := hcc70 1 _ rfl
             have hx70_2 : wc.cell? ⟨go70, (t118 : Int).toNat * 5 + 2, none⟩ = some (.int .i64 ((rd_T121 y115 t118).f2)) := hcc70 2 _ rfl
             have hx70_3 : wc.cell? ⟨go70, (t118 : Int).toNat * 5 + 3, none⟩ = some (.int .i64 ((rd_T121 y115 t118).f3)) := hcc70 3 _ rfl
             have hx70_4 : wc.cell? ⟨go70, (t118 : Int).toNat * 5 + 4, none⟩ = some (.int .i64 ((rd_T121 y115 t118).f4)) := hcc70 4 _ rfl
             have hf70_0 : wc.frozen? ⟨go70, (t118 : Int).toNat * 5, none⟩ = false := hfr70 0
             have hf70_1 : wc.frozen? ⟨go70, (t118 : Int).toNat * 5 + 1, none⟩ = false := hfr70 1
             have hf70_2 : wc.frozen? ⟨go70, (t118 : Int).toNat * 5 + 2, none⟩ = false := hfr70 2
             have hf70_3 : wc.frozen? ⟨go70, (t118 : Int).toNat * 5 + 3, none⟩ = false := hfr70 3
             have hf70_4 : wc.frozen? ⟨go70, (t118 : Int).toNat * 5 + 4, none⟩ = false := hfr70 4
             clear hcl70 hcc70 hfr70 hM70
             replace p70 := eq_true p70
             replace q70 := eq_true q70
             have HX72 := Aside0.mk (show Kd.R k121 121 wc w.heap.size (fun _ => True) (.slice (some ⟨go70, 0, none⟩) y115.length co70) y115 from (by (with_reducible repeat (first | apply Kd.R_alloc | apply Kd.R_drewN | apply Kd.R_drew)); exact HO_8.out))
             obtain ⟨ce72, hcl72, hM72, hcc72, hfr72⟩ := Kd.R_elem HX72.out z121 (t118 : Int) (of_decide_eq_true ‹_›) (by have h_ : (t118 : Int) < ((y115.length : Int) : Int) := of_decide_eq_true ‹_›; first | exact h_ | (have e_ := (Kd.R_reads' HO_8.out).1; omega) | simpa using h_)
             obtain rfl := k121_openM hM72
             have HP72 := Kd.R_seg HX72.out (t118 : Int) (of_decide_eq_true ‹_›) (by have h_ : (t118 : Int) < ((y115.length : Int) : Int) := of_decide_eq_true ‹_›; first | exact h_ | (have e_ := (Kd.R_reads' HO_8.out).1; omega) | simpa using h_) (seg := [.int .i64 a2]) (j := 4) hcl72 hcc72 (show 5 ≤ 5 from by decide) (x' := (⟨(rd_T121 y115 t118).f0, (rd_T121 y115 t118).f1, (rd_T121 y115 t118).f2, (rd_T121 y115 t118).f3, a2⟩ : S121)) (k121_mkM _ _ _ (⟨(rd_T121 y115 t118).f0, (rd_T121 y115 t118).f1, (rd_T121 y115 t118).f2, (rd_T121 y115 t118).f3, a2⟩ : S121) ) (fun _ hk => hk)
             have hx72_4 := hcc72 4 _ rfl
             (try simp only [show (k121).sz = 5 from rfl, Nat.mul_one, Nat.add_zero] at hx72_4)
             have hf72_4 := hfr72 4
             (try simp only [show (k121).sz = 5 from rfl, Nat.mul_one, Nat.add_zero] at hf72_4)
             clear hcl72 hcc72 hfr72 hM72
             go_wp2_with (first | ((with_reducible refine gate_store (t := 3) (p := 53) rfl ?_); refine store_event (t := 3) (p := 53) (v := ?vo_w73) (w1 := (wc.setCell ⟨go70, (t118 : Int).toNat * 5 + 4, none⟩ (.int .i64 a2))) ?hg ?ho ?hn ?hr ?_; (case ho => rfl); (case hg => rfl); (case hn => rfl); (case hr => first | (go_simp; done) | (go_simp; rfl)); intro w73 hw; have hg : wc.grownBy w73 (some go70) := (by rw [hw]; exact HP72.2); have hp_ : Kd.R k121 121 w73 w.heap.size (fun _ => True) (.slice (some ⟨go70, 0, none⟩) y115.length co70) y151 := (by rw [hw, Ny151.out]; exact HP72.1); clear HP72; have n0_ := Aside0.mk (hp_); have n1_ := Aside0.mk ((by rw [hw]; exact below_set (HB.out) GB70.out : Below w.heap.size w w73)); clear HO_8; clear HB; have HO_8 := n0_; have HB := n1_; clear n0_ n1_; clear hg hw hp_) | ((with_reducible refine gate_dst (N := 61) rfl ?_); refine Kd.R_lit k121 _ 121 ?hg (N := 61) ?hd (xs := ([] : List (S121))) (inner := []) (ok := fun _ => True) (okp := fun _ => True) ?hr ?hp (fun _ hk => hk) trivial (Below.refl _ _) (Nat.le_refl _) (by simp) ?_; (case hd => rfl); (case hg => rfl); (case hr => first | (go_simp; done) | (go_simp; rfl)); (case hp => exact (Reps.none _ _)); intro v153 w74 ho75 hb hg_ hnew_; clear hg_ hnew_; (first | rw [← Ny152.out] at ho75 | (simp only [Int.reduceToNat] at ho75; rw [← Ny152.out] at ho75)); have n0_ := Aside0.mk (Kd.R_elder' (by (with_reducible repeat (first | apply Kd.R_alloc | apply Kd.R_drewN | apply Kd.R_drew)); exact HO_8.out) (Kd.R_base ho75) hb); have n1_ := Aside0.mk (Kd.R_lower (Kd.R_new' ho75 (Kd.R_lt (by (with_reducible repeat (first | apply Kd.R_alloc | apply Kd.R_drewN | apply Kd.R_drew)); exact HO_8.out))) (below_size (by repeat (first | (with_reducible first | exact HB.out | apply below_alloc | apply pw_below_drewN | apply below_drew1) | exact HB.out)))); have n2_ := Aside0.mk (below_step (by repeat (first | (with_reducible first | exact HB.out | apply below_alloc | apply pw_below_drewN | apply below_drew1) | exact HB.out)) hb); clear HO_8; clear HB; have HO_8 := n0_; have HO154 := n1_; have HB := n2_; clear n0_ n1_ n2_; clear hb ho75) | ((with_reducible refine gate_builtin (b := .append) (xs := #[.tmp 61, .tmp 62]) rfl ?_); at_builtin; refine Kd.R_append_rows k121 (w0 := w) w.heap.size rfl (.tmp 61) (.tmp 62) 56 121 (.agg #[(.int .i64 0), (.int .i64 0), (.int .i64 0), (.int .i64 0), (.int .i64 0)]) 40 rfl Try.underlying56 info121 rfl (by decide) (by omega) v153 y152 l0 _ _ _ (fun k_ => some k_ ≠ (.slice (some ⟨go70, 0, none⟩) y115.length co70 : Value).ownBlock) (fun _ => False) rfl rfl ?aO ?aR (fun _ _ h => h) (fun _ h => h.elim) ?aF ?aB ?aS ?aL ?_; (case aR => repeat (first | exact (Kd.C_below HR0.out HB.out) | (with_reducible refine Kd.C_alloc ?_ _) | (with_reducible refine Kd.C_drewN ?_ _) | (with_reducible refine Kd.C_drew ?_))); (case aB => exact (by repeat (first | (with_reducible first | exact HB.out | apply below_alloc | apply pw_below_drewN | apply below_drew1) | exact HB.out))); (case aF => exact (fun k_ hk => Kd.fresh' (Kd.R_lt (by (with_reducible repeat (first | apply Kd.R_alloc | apply Kd.R_drewN | apply Kd.R_drew)); exact HO_8.out)) k_ hk)); (case aO => exact (by (with_reducible repeat (first | apply Kd.R_alloc | apply Kd.R_drewN | apply Kd.R_drew)); exact Kd.R_mono HO154.out (fun _ hk => hk.2))); (case aS => exact (below_size (by repeat (first | (with_reducible first | exact HB.out | apply below_alloc | apply pw_below_drewN | apply below_drew1) | exact HB.out)))); (case aL => have := LMc71.out; omega); intro v156 w76 ho hb hg hat; rw [← Ny155.out] at ho; have n0_ := Aside0.mk (Kd.R_after (ok := (fun _ => True)) (by (with_reducible repeat (first | apply Kd.R_alloc | apply Kd.R_drewN | apply Kd.R_drew)); exact HO_8.out) hg hat); have n1_ := Aside0.mk (hb); have n2_ := Aside0.mk (ho); clear HO_8; clear HB; clear HO154; have HO_8 := n0_; have HB := n1_; have HO157 := n2_; clear n0_ n1_ n2_; clear ho hb hg hat))
             go_ret2
             exact ⟨_, by first | rfl | (simp [errW_none, errW_some] <;> rfl) | (simp [*, errW_none, errW_some] <;> rfl), by (with_reducible repeat (first | apply Kd.R_alloc | apply Kd.R_drewN | apply Kd.R_drew)); exact Kd.R_mono HO157.out (fun _ hk => trivial), by repeat (first | (with_reducible first | exact HB.out | apply below_alloc | apply pw_below_drewN | apply below_drew1) | exact HB.out)⟩
            ·rw [if_neg c71] at H
             exact absurd H (by simp)
           ·rw [if_neg c69] at H
            exact absurd H (by simp)
       ·rw [if_neg c16] at H
        have c16b0 : (((rd_T121 l0 t118).f4) == 0) = false := beq_eq_false_iff_ne.mpr c16
        have c16b1 : (((rd_T121 l0 t118).f4) != 0) = true := bne_iff_ne.mpr c16
        by_cases c77 : ((rd_T121 l0 t118).f4) = 1
        ·rw [if_pos c77] at H
         have c77b0 : (((rd_T121 l0 t118).f4) == 1) = true := beq_iff_eq.mpr c77
         have c77b1 : (((rd_T121 l0 t118).f4) != 1) = false := bne_eq_false_iff_eq.mpr c77
         clear c77
         by_cases c78 : t118 < (y115.length : Int)
         ·rw [if_pos c78] at H
          have c78b0 : decide (t118 < (y115.length : Int)) = true := decide_eq_true c78
          clear c78
          obtain ⟨y158, hy158⟩ : ∃ y_ : List (S121), y_ = (y115.set (t118 : Int).toNat (⟨(rd_T121 y115 t118).f0, (rd_T121 y115 t118).f1, (rd_T121 y115 t118).f2, (rd_T121 y115 t118).f3, a2⟩ : S121)) := ⟨_, rfl⟩
          replace H : (if a2 = 3 then ((spec_AreClaims.f kj5 y158).bind fun t159 => (if t159 = true then (some (y158, true)) else ((some (([] : List (S121)) : List (S121))).bind fun y160 => (if y160.length + l0.length < 3518437208883 then (some ((y160 ++ l0), false)) else (none))))) else ((some (([] : List (S121)) : List (S121))).bind fun y166 => (if y166.length + l0.length < 3518437208883 then (some ((y166 ++ l0), false)) else (none)))) = some (r1, r2) := by first | (rw [hy158]; with_reducible exact H) | (have H2_ := (Option.bind_some _ _).symm.trans H; rw [hy158]; with_reducible exact H2_) | (have H2_ := (Option.bind_some _ _).symm.trans H; with_reducible exact H2_) | with_reducible exact H | (rw [hy158]; exact H) | exact H
          have Ny158 := Aside0.mk hy158
          clear hy158
          by_cases c80 : a2 = 3
          ·rw [if_pos c80] at H
           have c80b0 : (a2 == 3) = true := beq_iff_eq.mpr c80
           have c80b1 : (a2 != 3) = false := bne_eq_false_iff_eq.mpr c80
           clear c80
           replace H := Option.bind_eq_some_iff.mp H
           obtain ⟨t159, A810, H⟩ := H
           replace H : (if t159 = true then (some (y158, true)) else ((some (([] : List (S121)) : List (S121))).bind fun y160 => (if y160.length + l0.length < 3518437208883 then (some ((y160 ++ l0), false)) else (none)))) = some (r1, r2) := H
           have A81 := Aside0.mk A810
           clear A810
           by_cases c82 : t159 = true
           ·subst c82
            have H1 : (some (y158, true)) = some (r1, r2) := by rw [if_pos rfl] at H; exact H
            clear H
            have H := H1
            clear H1
            simp only [Option.some.injEq, Prod.mk.injEq] at H
            obtain ⟨rfl, rfl⟩ := H
            have p120 : 0 ≤ (t118 : Int) := of_decide_eq_true ‹_›
            have q120 : t118 < (l0.length : Int) := of_decide_eq_true ‹_›
            obtain ⟨ad120, e120, hx120_0, hx120_1, hx120_2, hx120_3, hx120_4⟩ := at_T121 HR0.out t118 p120 q120
            cases e120
            replace hx120_0 := (HB.out.cell (World.block_lt_of_cell? w _ hx120_0)).trans hx120_0
            replace hx120_1 := (HB.out.cell (World.block_lt_of_cell? w _ hx120_1)).trans hx120_1
            replace hx120_2 := (HB.out.cell (World.block_lt_of_cell? w _ hx120_2)).trans hx120_2
            replace hx120_3 := (HB.out.cell (World.block_lt_of_cell? w _ hx120_3)).trans hx120_3
            replace hx120_4 := (HB.out.cell (World.block_lt_of_cell? w _ hx120_4)).trans hx120_4
            replace p120 := eq_true p120
            replace q120 := eq_true q120
            have p79 : 0 ≤ (t118 : Int) := of_decide_eq_true ‹_›
            have q79 : (t118 : Int) < ((y115.length : Int) : Int) := of_decide_eq_true ‹_›
            obtain ⟨go79, co79, eo79, gb79, gl79, cl79, HG79⟩ := Kd.R_form HO_8.out (by omega)
            (first | cases eo79 | (injection eo79 with ea_ en_ ec_; (first | subst ea_ | (injection ea_ with ea_; subst ea_)); subst ec_; clear en_))
            have GB79 := Aside0.mk gb79
            have GG79 := Aside0.mk HG79
            clear gb79 gl79 HG79
            obtain ⟨ce79, hcl79, hM79, hcc79, hfr79⟩ := Kd.R_elem HO_8.out z121 (t118 : Int) p79 q79
            obtain rfl := k121_openM hM79
            have hx79_0 : wc.cell? ⟨go79, (t118 : Int).toNat * 5, none⟩ = some (.int .i64 ((rd_T121 y115 t118).f0)) := hcc79 0 _ rfl
            have hx79_1 : wc.cell? ⟨go79, (t118 : Int).toNat * 5 + 1, none⟩ = some (.int .i64 ((rd_T121 y115 t118).f1)) := hcc79 1 _ rfl
            have hx79_2 : wc.cell? ⟨go79, (t118 : Int).toNat * 5 + 2, none⟩ = some (.int .i64 ((rd_T121 y115 t118).f2)) := hcc79 2 _ rfl
            have hx79_3 : wc.cell? ⟨go79, (t118 : Int).toNat * 5 + 3, none⟩ = some (.int .i64 ((rd_T121 y115 t118).f3)) := hcc79 3 _ rfl
            have hx79_4 : wc.cell? ⟨go79, (t118 : Int).toNat * 5 + 4, none⟩ = some (.int .i64 ((rd_T121 y115 t118).f4)) := hcc79 4 _ rfl
            have hf79_0 : wc.frozen? ⟨go79, (t118 : Int).toNat * 5, none⟩ = false := hfr79 0
            have hf79_1 : wc.frozen? ⟨go79, (t118 : Int).toNat * 5 + 1, none⟩ = false := hfr79 1
            have hf79_2 : wc.frozen? ⟨go79, (t118 : Int).toNat * 5 + 2, none⟩ = false := hfr79 2
            have hf79_3 : wc.frozen? ⟨go79, (t118 : Int).toNat * 5 + 3, none⟩ = false := hfr79 3
            have hf79_4 : wc.frozen? ⟨go79, (t118 : Int).toNat * 5 + 4, none⟩ = false := hfr79 4
            clear hcl79 hcc79 hfr79 hM79
            replace p79 := eq_true p79
            replace q79 := eq_true q79
            have HX83 := Aside0.mk (show Kd.R k121 121 wc w.heap.size (fun _ => True) (.slice (some ⟨go79, 0, none⟩) y115.length co79) y115 from (by (with_reducible repeat (first | apply Kd.R_alloc | apply Kd.R_drewN | apply Kd.R_drew)); exact HO_8.out))
            obtain ⟨ce83, hcl83, hM83, hcc83, hfr83⟩ := Kd.R_elem HX83.out z121 (t118 : Int) (of_decide_eq_true ‹_›) (by have h_ : (t118 : Int) < ((y115.length : Int) : Int) := of_decide_eq_true ‹_›; first | exact h_ | (have e_ := (Kd.R_reads' HO_8.out).1; omega) | simpa using h_)
            obtain rfl := k121_openM hM83
            have HP83 := Kd.R_seg HX83.out (t118 : Int) (of_decide_eq_true ‹_›) (by have h_ : (t118 : Int) < ((y115.length : Int) : Int) := of_decide_eq_true ‹_›; first | exact h_ | (have e_ := (Kd.R_reads' HO_8.out).1; omega) | simpa using h_) (seg := [.int .i64 a2]) (j := 4) hcl83 hcc83 (show 5 ≤ 5 from by decide) (x' := (⟨(rd_T121 y115 t118).f0, (rd_T121 y115 t118).f1, (rd_T121 y115 t118).f2, (rd_T121 y115 t118).f3, a2⟩ : S121)) (k121_mkM _ _ _ (⟨(rd_T121 y115 t118).f0, (rd_T121 y115 t118).f1, (rd_T121 y115 t118).f2, (rd_T121 y115 t118).f3, a2⟩ : S121) ) (fun _ hk => hk)
            have hx83_4 := hcc83 4 _ rfl
            (try simp only [show (k121).sz = 5 from rfl, Nat.mul_one, Nat.add_zero] at hx83_4)
            have hf83_4 := hfr83 4
            (try simp only [show (k121).sz = 5 from rfl, Nat.mul_one, Nat.add_zero] at hf83_4)
            clear hcl83 hcc83 hfr83 hM83
            go_wp2_with (first | ((with_reducible refine gate_store (t := 3) (p := 53) rfl ?_); refine store_event (t := 3) (p := 53) (v := ?vo_w84) (w1 := (wc.setCell ⟨go79, (t118 : Int).toNat * 5 + 4, none⟩ (.int .i64 a2))) ?hg ?ho ?hn ?hr ?_; (case ho => rfl); (case hg => rfl); (case hn => rfl); (case hr => first | (go_simp; done) | (go_simp; rfl)); intro w84 hw; have hg : wc.grownBy w84 (some go79) := (by rw [hw]; exact HP83.2); have hp_ : Kd.R k121 121 w84 w.heap.size (fun _ => True) (.slice (some ⟨go79, 0, none⟩) y115.length co79) y158 := (by rw [hw, Ny158.out]; exact HP83.1); clear HP83; have n0_ := Aside0.mk (hp_); have n1_ := Aside0.mk ((by rw [hw]; exact below_set (HB.out) GB79.out : Below w.heap.size w w84)); clear HO_8; clear HB; have HO_8 := n0_; have HB := n1_; clear n0_ n1_; clear hg hw hp_) | (go_at_call 91; refine calls_of_args (args' := #[.slice (some ⟨go79, 0, none⟩) y158.length co79]) (by first | (rw [show y158.length = y115.length from (Kd.R_reads' HO_8.out).1.symm] <;> rfl) | rfl) ?_; (with_reducible refine (spec_AreClaims.calls kj5 _ _ y158 true _ ?side1 ?side2 A81.out).mono ?_); (case side1 => repeat (first | exact (Kd.R_reads' HO_8.out).2.2 | (with_reducible refine Kd.C_alloc ?_ _) | (with_reducible refine Kd.C_drewN ?_ _) | (with_reducible refine Kd.C_drew ?_))); (case side2 => rw [show y158.length = y115.length from (Kd.R_reads' HO_8.out).1.symm]; exact (Kd.R_reads' HO_8.out).2.1); rintro e w85 ⟨rfl, hb⟩; have n0_ := Aside0.mk (Kd.R_below (by (with_reducible repeat (first | apply Kd.R_alloc | apply Kd.R_drewN | apply Kd.R_drew)); exact HO_8.out) hb); have n1_ := Aside0.mk (below_step (by repeat (first | (with_reducible first | exact HB.out | apply below_alloc | apply pw_below_drewN | apply below_drew1) | exact HB.out)) hb); clear HO_8; clear HB; have HO_8 := n0_; have HB := n1_; clear n0_ n1_; (try clear hb); (try clear hb2); (try clear hk); (try clear hi)))
            go_ret2
            exact ⟨_, by first | rfl | (simp [errW_none, errW_some] <;> rfl) | (simp [*, errW_none, errW_some] <;> rfl), by (with_reducible repeat (first | apply Kd.R_alloc | apply Kd.R_drewN | apply Kd.R_drew)); exact HO_8.out, by repeat (first | (with_reducible first | exact HB.out | apply below_alloc | apply pw_below_drewN | apply below_drew1) | exact HB.out)⟩
           ·replace c82 := Bool.eq_false_iff.mpr c82
            subst c82
            have H1 : ((some (([] : List (S121)) : List (S121))).bind fun y160 => (if y160.length + l0.length < 3518437208883 then (some ((y160 ++ l0), false)) else (none))) = some (r1, r2) := by rw [if_neg (show ¬ (false = true) by decide)] at H; exact H
            clear H
            have H := H1
            clear H1
            obtain ⟨y160, hy160⟩ : ∃ y_ : List (S121), y_ = (([] : List (S121))) := ⟨_, rfl⟩
            replace H : (if y160.length + l0.length < 3518437208883 then (some ((y160 ++ l0), false)) else (none)) = some (r1, r2) := by first | (rw [hy160]; with_reducible exact H) | (have H2_ := (Option.bind_some _ _).symm.trans H; rw [hy160]; with_reducible exact H2_) | (have H2_ := (Option.bind_some _ _).symm.trans H; with_reducible exact H2_) | with_reducible exact H | (rw [hy160]; exact H) | exact H
            have Ny160 := Aside0.mk hy160
            clear hy160
            by_cases c86 : y160.length + l0.length < 3518437208883
            ·rw [if_pos c86] at H
             have LMc86 := Aside0.mk c86
             clear c86
             obtain ⟨y163, hy163⟩ : ∃ y_ : List (S121), y_ = (y160 ++ l0) := ⟨_, rfl⟩
             replace H : (some (y163, false)) = some (r1, r2) := by first | (rw [hy163]; with_reducible exact H) | (have H2_ := (Option.bind_some _ _).symm.trans H; rw [hy163]; with_reducible exact H2_) | (have H2_ := (Option.bind_some _ _).symm.trans H; with_reducible exact H2_) | with_reducible exact H | (rw [hy163]; exact H) | exact H
             have Ny163 := Aside0.mk hy163
             clear hy163
             simp only [Option.some.injEq, Prod.mk.injEq] at H
             obtain ⟨rfl, rfl⟩ := H
             have p120 : 0 ≤ (t118 : Int) := of_decide_eq_true ‹_›
             have q120 : t118 < (l0.length : Int) := of_decide_eq_true ‹_›
             obtain ⟨ad120, e120, hx120_0, hx120_1, hx120_2, hx120_3, hx120_4⟩ := at_T121 HR0.out t118 p120 q120
             cases e120
             replace hx120_0 := (HB.out.cell (World.block_lt_of_cell? w _ hx120_0)).trans hx120_0
             replace hx120_1 := (HB.out.cell (World.block_lt_of_cell? w _ hx120_1)).trans hx120_1
             replace hx120_2 := (HB.out.cell (World.block_lt_of_cell? w _ hx120_2)).trans hx120_2
             replace hx120_3 := (HB.out.cell (World.block_lt_of_cell? w _ hx120_3)).trans hx120_3
             replace hx120_4 := (HB.out.cell (World.block_lt_of_cell? w _ hx120_4)).trans hx120_4
             replace p120 := eq_true p120
             replace q120 := eq_true q120
             have p79 : 0 ≤ (t118 : Int) := of_decide_eq_true ‹_›
             have q79 : (t118 : Int) < ((y115.length : Int) : Int) := of_decide_eq_true ‹_›
             obtain ⟨go79, co79, eo79, gb79, gl79, cl79, HG79⟩ := Kd.R_form HO_8.out (by omega)
             (first | cases eo79 | (injection eo79 with ea_ en_ ec_; (first | subst ea_ | (injection ea_ with ea_; subst ea_)); subst ec_; clear en_))
             have GB79 := Aside0.mk gb79
             have GG79 := Aside0.mk HG79
             clear gb79 gl79 HG79
             obtain ⟨ce79, hcl79, hM79, hcc79, hfr79⟩ := Kd.R_elem HO_8.out z121 (t118 : Int) p79 q79
             obtain rfl := k121_openM hM79
             have hx79_0 : wc.cell? ⟨go79, (t118 : Int).toNat * 5, none⟩ = some (.int .i64 ((rd_T121 y115 t118).f0)) := hcc79 0 _ rfl
             have hx79_1 : wc.cell? ⟨go79, (t118 : Int).toNat * 5 + 1, none⟩ = some (.int .i64 ((rd_T121 y115 t118).f1)) := hcc79 1 _ rfl
             have hx79_2 : wc.cell? ⟨go79, (t118 : Int).toNat * 5 + 2, none⟩ = some (.int .i64 ((rd_T121 y115 t118).f2)) := hcc79 2 _ rfl
             have hx79_3 : wc.cell? ⟨go79, (t118 : Int).toNat * 5 + 3, none⟩ = some (.int .i64 ((rd_T121 y115 t118).f3)) := hcc79 3 _ rfl
             have hx79_4 : wc.cell? ⟨go79, (t118 : Int).toNat * 5 + 4, none⟩ = some (.int .i64 ((rd_T121 y115 t118).f4)) := hcc79 4 _ rfl
             have hf79_0 : wc.frozen? ⟨go79, (t118 : Int).toNat * 5, none⟩ = false := hfr79 0
             have hf79_1 : wc.frozen? ⟨go79, (t118 : Int).toNat * 5 + 1, none⟩ = false := hfr79 1
             have hf79_2 : wc.frozen? ⟨go79, (t118 : Int).toNat * 5 + 2, none⟩ = false := hfr79 2
             have hf79_3 : wc.frozen? ⟨go79, (t118 : Int).toNat * 5 + 3, none⟩ = false := hfr79 3
             have hf79_4 : wc.frozen? ⟨go79, (t118 : Int).toNat * 5 + 4, none⟩ = false := hfr79 4
             clear hcl79 hcc79 hfr79 hM79
             replace p79 := eq_true p79
             replace q79 := eq_true q79
             have HX87 := Aside0.mk (show Kd.R k121 121 wc w.heap.size (fun _ => True) (.slice (some ⟨go79, 0, none⟩) y115.length co79) y115 from (by (with_reducible repeat (first | apply Kd.R_alloc | apply Kd.R_drewN | apply Kd.R_drew)); exact HO_8.out))
             obtain ⟨ce87, hcl87, hM87, hcc87, hfr87⟩ := Kd.R_elem HX87.out z121 (t118 : Int) (of_decide_eq_true ‹_›) (by have h_ : (t118 : Int) < ((y115.length : Int) : Int) := of_decide_eq_true ‹_›; first | exact h_ | (have e_ := (Kd.R_reads' HO_8.out).1; omega) | simpa using h_)
             obtain rfl := k121_openM hM87
             have HP87 := Kd.R_seg HX87.out (t118 : Int) (of_decide_eq_true ‹_›) (by have h_ : (t118 : Int) < ((y115.length : Int) : Int) := of_decide_eq_true ‹_›; first | exact h_ | (have e_ := (Kd.R_reads' HO_8.out).1; omega) | simpa using h_) (seg := [.int .i64 a2]) (j := 4) hcl87 hcc87 (show 5 ≤ 5 from by decide) (x' := (⟨(rd_T121 y115 t118).f0, (rd_T121 y115 t118).f1, (rd_T121 y115 t118).f2, (rd_T121 y115 t118).f3, a2⟩ : S121)) (k121_mkM _ _ _ (⟨(rd_T121 y115 t118).f0, (rd_T121 y115 t118).f1, (rd_T121 y115 t118).f2, (rd_T121 y115 t118).f3, a2⟩ : S121) ) (fun _ hk => hk)
             have hx87_4 := hcc87 4 _ rfl
             (try simp only [show (k121).sz = 5 from rfl, Nat.mul_one, Nat.add_zero] at hx87_4)
             have hf87_4 := hfr87 4
             (try simp only [show (k121).sz = 5 from rfl, Nat.mul_one, Nat.add_zero] at hf87_4)
             clear hcl87 hcc87 hfr87 hM87
             go_wp2_with (first | ((with_reducible refine gate_store (t := 3) (p := 53) rfl ?_); refine store_event (t := 3) (p := 53) (v := ?vo_w88) (w1 := (wc.setCell ⟨go79, (t118 : Int).toNat * 5 + 4, none⟩ (.int .i64 a2))) ?hg ?ho ?hn ?hr ?_; (case ho => rfl); (case hg => rfl); (case hn => rfl); (case hr => first | (go_simp; done) | (go_simp; rfl)); intro w88 hw; have hg : wc.grownBy w88 (some go79) := (by rw [hw]; exact HP87.2); have hp_ : Kd.R k121 121 w88 w.heap.size (fun _ => True) (.slice (some ⟨go79, 0, none⟩) y115.length co79) y158 := (by rw [hw, Ny158.out]; exact HP87.1); clear HP87; have n0_ := Aside0.mk (hp_); have n1_ := Aside0.mk ((by rw [hw]; exact below_set (HB.out) GB79.out : Below w.heap.size w w88)); clear HO_8; clear HB; have HO_8 := n0_; have HB := n1_; clear n0_ n1_; clear hg hw hp_) | (go_at_call 91; refine calls_of_args (args' := #[.slice (some ⟨go79, 0, none⟩) y158.length co79]) (by first | (rw [show y158.length = y115.length from (Kd.R_reads' HO_8.out).1.symm] <;> rfl) | rfl) ?_; (with_reducible refine (spec_AreClaims.calls kj5 _ _ y158 false _ ?side1 ?side2 A81.out).mono ?_); (case side1 => repeat (first | exact (Kd.R_reads' HO_8.out).2.2 | (with_reducible refine Kd.C_alloc ?_ _) | (with_reducible refine Kd.C_drewN ?_ _) | (with_reducible refine Kd.C_drew ?_))); (case side2 => rw [show y158.length = y115.length from (Kd.R_reads' HO_8.out).1.symm]; exact (Kd.R_reads' HO_8.out).2.1); rintro e w89 ⟨rfl, hb⟩; have n0_ := Aside0.mk (Kd.R_below (by (with_reducible repeat (first | apply Kd.R_alloc | apply Kd.R_drewN | apply Kd.R_drew)); exact HO_8.out) hb); have n1_ := Aside0.mk (below_step (by repeat (first | (with_reducible first | exact HB.out | apply below_alloc | apply pw_below_drewN | apply below_drew1) | exact HB.out)) hb); clear HO_8; clear HB; have HO_8 := n0_; have HB := n1_; clear n0_ n1_; (try clear hb); (try clear hb2); (try clear hk); (try clear hi)) | ((with_reducible refine gate_dst (N := 61) rfl ?_); refine Kd.R_lit k121 _ 121 ?hg (N := 61) ?hd (xs := ([] : List (S121))) (inner := []) (ok := fun _ => True) (okp := fun _ => True) ?hr ?hp (fun _ hk => hk) trivial (Below.refl _ _) (Nat.le_refl _) (by simp) ?_; (case hd => rfl); (case hg => rfl); (case hr => first | (go_simp; done) | (go_simp; rfl)); (case hp => exact (Reps.none _ _)); intro v161 w90 ho91 hb hg_ hnew_; clear hg_ hnew_; (first | rw [← Ny160.out] at ho91 | (simp only [Int.reduceToNat] at ho91; rw [← Ny160.out] at ho91)); have n0_ := Aside0.mk (Kd.R_elder' (by (with_reducible repeat (first | apply Kd.R_alloc | apply Kd.R_drewN | apply Kd.R_drew)); exact HO_8.out) (Kd.R_base ho91) hb); have n1_ := Aside0.mk (Kd.R_lower (Kd.R_new' ho91 (Kd.R_lt (by (with_reducible repeat (first | apply Kd.R_alloc | apply Kd.R_drewN | apply Kd.R_drew)); exact HO_8.out))) (below_size (by repeat (first | (with_reducible first | exact HB.out | apply below_alloc | apply pw_below_drewN | apply below_drew1) | exact HB.out)))); have n2_ := Aside0.mk (below_step (by repeat (first | (with_reducible first | exact HB.out | apply below_alloc | apply pw_below_drewN | apply below_drew1) | exact HB.out)) hb); clear HO_8; clear HB; have HO_8 := n0_; have HO162 := n1_; have HB := n2_; clear n0_ n1_ n2_; clear hb ho91) | ((with_reducible refine gate_builtin (b := .append) (xs := #[.tmp 61, .tmp 62]) rfl ?_); at_builtin; refine Kd.R_append_rows k121 (w0 := w) w.heap.size rfl (.tmp 61) (.tmp 62) 56 121 (.agg #[(.int .i64 0), (.int .i64 0), (.int .i64 0), (.int .i64 0), (.int .i64 0)]) 40 rfl Try.underlying56 info121 rfl (by decide) (by omega) v161 y160 l0 _ _ _ (fun k_ => some k_ ≠ (.slice (some ⟨go79, 0, none⟩) y115.length co79 : Value).ownBlock) (fun _ => False) rfl rfl ?aO ?aR (fun _ _ h => h) (fun _ h => h.elim) ?aF ?aB ?aS ?aL ?_; (case aR => repeat (first | exact (Kd.C_below HR0.out HB.out) | (with_reducible refine Kd.C_alloc ?_ _) | (with_reducible refine Kd.C_drewN ?_ _) | (with_reducible refine Kd.C_drew ?_))); (case aB => exact (by repeat (first | (with_reducible first | exact HB.out | apply below_alloc | apply pw_below_drewN | apply below_drew1) | exact HB.out))); (case aF => exact (fun k_ hk => Kd.fresh' (Kd.R_lt (by (with_reducible repeat (first | apply Kd.R_alloc | apply Kd.R_drewN | apply Kd.R_drew)); exact HO_8.out)) k_ hk)); (case aO => exact (by (with_reducible repeat (first | apply Kd.R_alloc | apply Kd.R_drewN | apply Kd.R_drew)); exact Kd.R_mono HO162.out (fun _ hk => hk.2))); (case aS => exact (below_size (by repeat (first | (with_reducible first | exact HB.out | apply below_alloc | apply pw_below_drewN | apply below_drew1) | exact HB.out)))); (case aL => have := LMc86.out; omega); intro v164 w92 ho hb hg hat; rw [← Ny163.out] at ho; have n0_ := Aside0.mk (Kd.R_after (ok := (fun _ => True)) (by (with_reducible repeat (first | apply Kd.R_alloc | apply Kd.R_drewN | apply Kd.R_drew)); exact HO_8.out) hg hat); have n1_ := Aside0.mk (hb); have n2_ := Aside0.mk (ho); clear HO_8; clear HB; clear HO162; have HO_8 := n0_; have HB := n1_; have HO165 := n2_; clear n0_ n1_ n2_; clear ho hb hg hat))
             go_ret2
             exact ⟨_, by first | rfl | (simp [errW_none, errW_some] <;> rfl) | (simp [*, errW_none, errW_some] <;> rfl), by (with_reducible repeat (first | apply Kd.R_alloc | apply Kd.R_drewN | apply Kd.R_drew)); exact Kd.R_mono HO165.out (fun _ hk => trivial), by repeat (first | (with_reducible first | exact HB.out | apply below_alloc | apply pw_below_drewN | apply below_drew1) | exact HB.out)⟩
            ·rw [if_neg c86] at H
             exact absurd H (by simp)
          ·rw [if_neg c80] at H
           have c80b0 : (a2 == 3) = false := beq_eq_false_iff_ne.mpr c80
           have c80b1 : (a2 != 3) = true := bne_iff_ne.mpr c80
           obtain ⟨y166, hy166⟩ : ∃ y_ : List (S121), y_ = (([] : List (S121))) := ⟨_, rfl⟩
           replace H : (if y166.length + l0.length < 3518437208883 then (some ((y166 ++ l0), false)) else (none)) = some (r1, r2) := by first | (rw [hy166]; with_reducible exact H) | (have H2_ := (Option.bind_some _ _).symm.trans H; rw [hy166]; with_reducible exact H2_) | (have H2_ := (Option.bind_some _ _).symm.trans H; with_reducible exact H2_) | with_reducible exact H | (rw [hy166]; exact H) | exact H
           have Ny166 := Aside0.mk hy166
           clear hy166
           by_cases c93 : y166.length + l0.length < 3518437208883
           ·rw [if_pos c93] at H
            have LMc93 := Aside0.mk c93
            clear c93
            obtain ⟨y169, hy169⟩ : ∃ y_ : List (S121), y_ = (y166 ++ l0) := ⟨_, rfl⟩
            replace H : (some (y169, false)) = some (r1, r2) := by first | (rw [hy169]; with_reducible exact H) | (have H2_ := (Option.bind_some _ _).symm.trans H; rw [hy169]; with_reducible exact H2_) | (have H2_ := (Option.bind_some _ _).symm.trans H; with_reducible exact H2_) | with_reducible exact H | (rw [hy169]; exact H) | exact H
            have Ny169 := Aside0.mk hy169
            clear hy169
            simp only [Option.some.injEq, Prod.mk.injEq] at H
            obtain ⟨rfl, rfl⟩ := H
            have p120 : 0 ≤ (t118 : Int) := of_decide_eq_true ‹_›
            have q120 : t118 < (l0.length : Int) := of_decide_eq_true ‹_›
            obtain ⟨ad120, e120, hx120_0, hx120_1, hx120_2, hx120_3, hx120_4⟩ := at_T121 HR0.out t118 p120 q120
            cases e120
            replace hx120_0 := (HB.out.cell (World.block_lt_of_cell? w _ hx120_0)).trans hx120_0
            replace hx120_1 := (HB.out.cell (World.block_lt_of_cell? w _ hx120_1)).trans hx120_1
            replace hx120_2 := (HB.out.cell (World.block_lt_of_cell? w _ hx120_2)).trans hx120_2
            replace hx120_3 := (HB.out.cell (World.block_lt_of_cell? w _ hx120_3)).trans hx120_3
            replace hx120_4 := (HB.out.cell (World.block_lt_of_cell? w _ hx120_4)).trans hx120_4
            replace p120 := eq_true p120
            replace q120 := eq_true q120
            have p79 : 0 ≤ (t118 : Int) := of_decide_eq_true ‹_›
            have q79 : (t118 : Int) < ((y115.length : Int) : Int) := of_decide_eq_true ‹_›
            obtain ⟨go79, co79, eo79, gb79, gl79, cl79, HG79⟩ := Kd.R_form HO_8.out (by omega)
            (first | cases eo79 | (injection eo79 with ea_ en_ ec_; (first | subst ea_ | (injection ea_ with ea_; subst ea_)); subst ec_; clear en_))
            have GB79 := Aside0.mk gb79
            have GG79 := Aside0.mk HG79
            clear gb79 gl79 HG79
            obtain ⟨ce79, hcl79, hM79, hcc79, hfr79⟩ := Kd.R_elem HO_8.out z121 (t118 : Int) p79 q79
            obtain rfl := k121_openM hM79
            have hx79_0 : wc.cell? ⟨go79, (t118 : Int).toNat * 5, none⟩ = some (.int .i64 ((rd_T121 y115 t118).f0)) := hcc79 0 _ rfl
            have hx79_1 : wc.cell? ⟨go79, (t118 : Int).toNat * 5 + 1, none⟩ = some (.int .i64 ((rd_T121 y115 t118).f1)) := hcc79 1 _ rfl
            have hx79_2 : wc.cell? ⟨go79, (t118 : Int).toNat * 5 + 2, none⟩ = some (.int .i64 ((rd_T121 y115 t118).f2)) := hcc79 2 _ rfl
            have hx79_3 : wc.cell? ⟨go79, (t118 : Int).toNat * 5 + 3, none⟩ = some (.int .i64 ((rd_T121 y115 t118).f3)) := hcc79 3 _ rfl
            have hx79_4 : wc.cell? ⟨go79, (t118 : Int).toNat * 5 + 4, none⟩ = some (.int .i64 ((rd_T121 y115 t118).f4)) := hcc79 4 _ rfl
            have hf79_0 : wc.frozen? ⟨go79, (t118 : Int).toNat * 5, none⟩ = false := hfr79 0
            have hf79_1 : wc.frozen? ⟨go79, (t118 : Int).toNat * 5 + 1, none⟩ = false := hfr79 1
            have hf79_2 : wc.frozen? ⟨go79, (t118 : Int).toNat * 5 + 2, none⟩ = false := hfr79 2
            have hf79_3 : wc.frozen? ⟨go79, (t118 : Int).toNat * 5 + 3, none⟩ = false := hfr79 3
            have hf79_4 : wc.frozen? ⟨go79, (t118 : Int).toNat * 5 + 4, none⟩ = false := hfr79 4
            clear hcl79 hcc79 hfr79 hM79
            replace p79 := eq_true p79
            replace q79 := eq_true q79
            have HX94 := Aside0.mk (show Kd.R k121 121 wc w.heap.size (fun _ => True) (.slice (some ⟨go79, 0, none⟩) y115.length co79) y115 from (by (with_reducible repeat (first | apply Kd.R_alloc | apply Kd.R_drewN | apply Kd.R_drew)); exact HO_8.out))
            obtain ⟨ce94, hcl94, hM94, hcc94, hfr94⟩ := Kd.R_elem HX94.out z121 (t118 : Int) (of_decide_eq_true ‹_›) (by have h_ : (t118 : Int) < ((y115.length : Int) : Int) := of_decide_eq_true ‹_›; first | exact h_ | (have e_ := (Kd.R_reads' HO_8.out).1; omega) | simpa using h_)
            obtain rfl := k121_openM hM94
            have HP94 := Kd.R_seg HX94.out (t118 : Int) (of_decide_eq_true ‹_›) (by have h_ : (t118 : Int) < ((y115.length : Int) : Int) := of_decide_eq_true ‹_›; first | exact h_ | (have e_ := (Kd.R_reads' HO_8.out).1; omega) | simpa using h_) (seg := [.int .i64 a2]) (j := 4) hcl94 hcc94 (show 5 ≤ 5 from by decide) (x' := (⟨(rd_T121 y115 t118).f0, (rd_T121 y115 t118).f1, (rd_T121 y115 t118).f2, (rd_T121 y115 t118).f3, a2⟩ : S121)) (k121_mkM _ _ _ (⟨(rd_T121 y115 t118).f0, (rd_T121 y115 t118).f1, (rd_T121 y115 t118).f2, (rd_T121 y115 t118).f3, a2⟩ : S121) ) (fun _ hk => hk)
            have hx94_4 := hcc94 4 _ rfl
            (try simp only [show (k121).sz = 5 from rfl, Nat.mul_one, Nat.add_zero] at hx94_4)
            have hf94_4 := hfr94 4
            (try simp only [show (k121).sz = 5 from rfl, Nat.mul_one, Nat.add_zero] at hf94_4)
            clear hcl94 hcc94 hfr94 hM94
            go_wp2_with (first | ((with_reducible refine gate_store (t := 3) (p := 53) rfl ?_); refine store_event (t := 3) (p := 53) (v := ?vo_w95) (w1 := (wc.setCell ⟨go79, (t118 : Int).toNat * 5 + 4, none⟩ (.int .i64 a2))) ?hg ?ho ?hn ?hr ?_; (case ho => rfl); (case hg => rfl); (case hn => rfl); (case hr => first | (go_simp; done) | (go_simp; rfl)); intro w95 hw; have hg : wc.grownBy w95 (some go79) := (by rw [hw]; exact HP94.2); have hp_ : Kd.R k121 121 w95 w.heap.size (fun _ => True) (.slice (some ⟨go79, 0, none⟩) y115.length co79) y158 := (by rw [hw, Ny158.out]; exact HP94.1); clear HP94; have n0_ := Aside0.mk (hp_); have n1_ := Aside0.mk ((by rw [hw]; exact below_set (HB.out) GB79.out : Below w.heap.size w w95)); clear HO_8; clear HB; have HO_8 := n0_; have HB := n1_; clear n0_ n1_; clear hg hw hp_) | ((with_reducible refine gate_dst (N := 61) rfl ?_); refine Kd.R_lit k121 _ 121 ?hg (N := 61) ?hd (xs := ([] : List (S121))) (inner := []) (ok := fun _ => True) (okp := fun _ => True) ?hr ?hp (fun _ hk => hk) trivial (Below.refl _ _) (Nat.le_refl _) (by simp) ?_; (case hd => rfl); (case hg => rfl); (case hr => first | (go_simp; done) | (go_simp; rfl)); (case hp => exact (Reps.none _ _)); intro v167 w96 ho97 hb hg_ hnew_; clear hg_ hnew_; (first | rw [← Ny166.out] at ho97 | (simp only [Int.reduceToNat] at ho97; rw [← Ny166.out] at ho97)); have n0_ := Aside0.mk (Kd.R_elder' (by (with_reducible repeat (first | apply Kd.R_alloc | apply Kd.R_drewN | apply Kd.R_drew)); exact HO_8.out) (Kd.R_base ho97) hb); have n1_ := Aside0.mk (Kd.R_lower (Kd.R_new' ho97 (Kd.R_lt (by (with_reducible repeat (first | apply Kd.R_alloc | apply Kd.R_drewN | apply Kd.R_drew)); exact HO_8.out))) (below_size (by repeat (first | (with_reducible first | exact HB.out | apply below_alloc | apply pw_below_drewN | apply below_drew1) | exact HB.out)))); have n2_ := Aside0.mk (below_step (by repeat (first | (with_reducible first | exact HB.out | apply below_alloc | apply pw_below_drewN | apply below_drew1) | exact HB.out)) hb); clear HO_8; clear HB; have HO_8 := n0_; have HO168 := n1_; have HB := n2_; clear n0_ n1_ n2_; clear hb ho97) | ((with_reducible refine gate_builtin (b := .append) (xs := #[.tmp 61, .tmp 62]) rfl ?_); at_builtin; refine Kd.R_append_rows k121 (w0 := w) w.heap.size rfl (.tmp 61) (.tmp 62) 56 121 (.agg #[(.int .i64 0), (.int .i64 0), (.int .i64 0), (.int .i64 0), (.int .i64 0)]) 40 rfl Try.underlying56 info121 rfl (by decide) (by omega) v167 y166 l0 _ _ _ (fun k_ => some k_ ≠ (.slice (some ⟨go79, 0, none⟩) y115.length co79 : Value).ownBlock) (fun _ => False) rfl rfl ?aO ?aR (fun _ _ h => h) (fun _ h => h.elim) ?aF ?aB ?aS ?aL ?_; (case aR => repeat (first | exact (Kd.C_below HR0.out HB.out) | (with_reducible refine Kd.C_alloc ?_ _) | (with_reducible refine Kd.C_drewN ?_ _) | (with_reducible refine Kd.C_drew ?_))); (case aB => exact (by repeat (first | (with_reducible first | exact HB.out | apply below_alloc | apply pw_below_drewN | apply below_drew1) | exact HB.out))); (case aF => exact (fun k_ hk => Kd.fresh' (Kd.R_lt (by (with_reducible repeat (first | apply Kd.R_alloc | apply Kd.R_drewN | apply Kd.R_drew)); exact HO_8.out)) k_ hk)); (case aO => exact (by (with_reducible repeat (first | apply Kd.R_alloc | apply Kd.R_drewN | apply Kd.R_drew)); exact Kd.R_mono HO168.out (fun _ hk => hk.2))); (case aS => exact (below_size (by repeat (first | (with_reducible first | exact HB.out | apply below_alloc | apply pw_below_drewN | apply below_drew1) | exact HB.out)))); (case aL => have := LMc93.out; omega); intro v170 w98 ho hb hg hat; rw [← Ny169.out] at ho; have n0_ := Aside0.mk (Kd.R_after (ok := (fun _ => True)) (by (with_reducible repeat (first | apply Kd.R_alloc | apply Kd.R_drewN | apply Kd.R_drew)); exact HO_8.out) hg hat); have n1_ := Aside0.mk (hb); have n2_ := Aside0.mk (ho); clear HO_8; clear HB; clear HO168; have HO_8 := n0_; have HB := n1_; have HO171 := n2_; clear n0_ n1_ n2_; clear ho hb hg hat))
            go_ret2
            exact ⟨_, by first | rfl | (simp [errW_none, errW_some] <;> rfl) | (simp [*, errW_none, errW_some] <;> rfl), by (with_reducible repeat (first | apply Kd.R_alloc | apply Kd.R_drewN | apply Kd.R_drew)); exact Kd.R_mono HO171.out (fun _ hk => trivial), by repeat (first | (with_reducible first | exact HB.out | apply below_alloc | apply pw_below_drewN | apply below_drew1) | exact HB.out)⟩
           ·rw [if_neg c93] at H
            exact absurd H (by simp)
         ·rw [if_neg c78] at H
          exact absurd H (by simp)
        ·rw [if_neg c77] at H
         have c77b0 : (((rd_T121 l0 t118).f4) == 1) = false := beq_eq_false_iff_ne.mpr c77
         have c77b1 : (((rd_T121 l0 t118).f4) != 1) = true := bne_iff_ne.mpr c77
         by_cases c99 : t118 < (y115.length : Int)
         ·rw [if_pos c99] at H
          have c99b0 : decide (t118 < (y115.length : Int)) = true := decide_eq_true c99
          clear c99
          obtain ⟨y172, hy172⟩ : ∃ y_ : List (S121), y_ = (y115.set (t118 : Int).toNat (⟨(rd_T121 y115 t118).f0, (rd_T121 y115 t118).f1, (rd_T121 y115 t118).f2, (rd_T121 y115 t118).f3, a2⟩ : S121)) := ⟨_, rfl⟩
          replace H : ((some (([] : List (S121)) : List (S121))).bind fun y173 => (if y173.length + l0.length < 3518437208883 then (some ((y173 ++ l0), false)) else (none))) = some (r1, r2) := by first | (rw [hy172]; with_reducible exact H) | (have H2_ := (Option.bind_some _ _).symm.trans H; rw [hy172]; with_reducible exact H2_) | (have H2_ := (Option.bind_some _ _).symm.trans H; with_reducible exact H2_) | with_reducible exact H | (rw [hy172]; exact H) | exact H
          have Ny172 := Aside0.mk hy172
          clear hy172
          obtain ⟨y173, hy173⟩ : ∃ y_ : List (S121), y_ = (([] : List (S121))) := ⟨_, rfl⟩
          replace H : (if y173.length + l0.length < 3518437208883 then (some ((y173 ++ l0), false)) else (none)) = some (r1, r2) := by first | (rw [hy173]; with_reducible exact H) | (have H2_ := (Option.bind_some _ _).symm.trans H; rw [hy173]; with_reducible exact H2_) | (have H2_ := (Option.bind_some _ _).symm.trans H; with_reducible exact H2_) | with_reducible exact H | (rw [hy173]; exact H) | exact H
          have Ny173 := Aside0.mk hy173
          clear hy173
          by_cases c101 : y173.length + l0.length < 3518437208883
          ·rw [if_pos c101] at H
           have LMc101 := Aside0.mk c101
           clear c101
           obtain ⟨y176, hy176⟩ : ∃ y_ : List (S121), y_ = (y173 ++ l0) := ⟨_, rfl⟩
           replace H : (some (y176, false)) = some (r1, r2) := by first | (rw [hy176]; with_reducible exact H) | (have H2_ := (Option.bind_some _ _).symm.trans H; rw [hy176]; with_reducible exact H2_) | (have H2_ := (Option.bind_some _ _).symm.trans H; with_reducible exact H2_) | with_reducible exact H | (rw [hy176]; exact H) | exact H
           have Ny176 := Aside0.mk hy176
           clear hy176
           simp only [Option.some.injEq, Prod.mk.injEq] at H
           obtain ⟨rfl, rfl⟩ := H
           have p120 : 0 ≤ (t118 : Int) := of_decide_eq_true ‹_›
           have q120 : t118 < (l0.length : Int) := of_decide_eq_true ‹_›
           obtain ⟨ad120, e120, hx120_0, hx120_1, hx120_2, hx120_3, hx120_4⟩ := at_T121 HR0.out t118 p120 q120
           cases e120
           replace hx120_0 := (HB.out.cell (World.block_lt_of_cell? w _ hx120_0)).trans hx120_0
           replace hx120_1 := (HB.out.cell (World.block_lt_of_cell? w _ hx120_1)).trans hx120_1
           replace hx120_2 := (HB.out.cell (World.block_lt_of_cell? w _ hx120_2)).trans hx120_2
           replace hx120_3 := (HB.out.cell (World.block_lt_of_cell? w _ hx120_3)).trans hx120_3
           replace hx120_4 := (HB.out.cell (World.block_lt_of_cell? w _ hx120_4)).trans hx120_4
           replace p120 := eq_true p120
           replace q120 := eq_true q120
           have p100 : 0 ≤ (t118 : Int) := of_decide_eq_true ‹_›
           have q100 : (t118 : Int) < ((y115.length : Int) : Int) := of_decide_eq_true ‹_›
           obtain ⟨go100, co100, eo100, gb100, gl100, cl100, HG100⟩ := Kd.R_form HO_8.out (by omega)
           (first | cases eo100 | (injection eo100 with ea_ en_ ec_; (first | subst ea_ | (injection ea_ with ea_; subst ea_)); subst ec_; clear en_))
           have GB100 := Aside0.mk gb100
           have GG100 := Aside0.mk HG100
           clear gb100 gl100 HG100
           obtain ⟨ce100, hcl100, hM100, hcc100, hfr100⟩ := Kd.R_elem HO_8.out z121 (t118 : Int) p100 q100
           obtain rfl := k121_openM hM100
           have hx100_0 : wc.cell? ⟨go100, (t118 : Int).toNat * 5, none⟩ = some (.int .i64 ((rd_T121 y115 t118).f0)) := hcc100 0 _ rfl
           have hx100_1 : wc.cell? ⟨go100, (t118 : Int).toNat * 5 + 1, none⟩ = some (.int .i64 ((rd_T121 y115 t118).f1)) := hcc100 1 _ rfl
           have hx100_2 : wc.cell? ⟨go100, (t118 : Int).toNat * 5 + 2, none⟩ = some (.int .i64 ((rd_T121 y115 t118).f2)) := hcc100 2 _ rfl
           have hx100_3 : wc.cell? ⟨go100, (t118 : Int).toNat * 5 + 3, none⟩ = some (.int .i64 ((rd_T121 y115 t118).f3)) := hcc100 3 _ rfl
           have hx100_4 : wc.cell? ⟨go100, (t118 : Int).toNat * 5 + 4, none⟩ = some (.int .i64 ((rd_T121 y115 t118).f4)) := hcc100 4 _ rfl
           have hf100_0 : wc.frozen? ⟨go100, (t118 : Int).toNat * 5, none⟩ = false := hfr100 0
           have hf100_1 : wc.frozen? ⟨go100, (t118 : Int).toNat * 5 + 1, none⟩ = false := hfr100 1
           have hf100_2 : wc.frozen? ⟨go100, (t118 : Int).toNat * 5 + 2, none⟩ = false := hfr100 2
           have hf100_3 : wc.frozen? ⟨go100, (t118 : Int).toNat * 5 + 3, none⟩ = false := hfr100 3
           have hf100_4 : wc.frozen? ⟨go100, (t118 : Int).toNat * 5 + 4, none⟩ = false := hfr100 4
           clear hcl100 hcc100 hfr100 hM100
           replace p100 := eq_true p100
           replace q100 := eq_true q100
           have HX102 := Aside0.mk (show Kd.R k121 121 wc w.heap.size (fun _ => True) (.slice (some ⟨go100, 0, none⟩) y115.length co100) y115 from (by (with_reducible repeat (first | apply Kd.R_alloc | apply Kd.R_drewN | apply Kd.R_drew)); exact HO_8.out))
           obtain ⟨ce102, hcl102, hM102, hcc102, hfr102⟩ := Kd.R_elem HX102.out z121 (t118 : Int) (of_decide_eq_true ‹_›) (by have h_ : (t118 : Int) < ((y115.length : Int) : Int) := of_decide_eq_true ‹_›; first | exact h_ | (have e_ := (Kd.R_reads' HO_8.out).1; omega) | simpa using h_)
           obtain rfl := k121_openM hM102
           have HP102 := Kd.R_seg HX102.out (t118 : Int) (of_decide_eq_true ‹_›) (by have h_ : (t118 : Int) < ((y115.length : Int) : Int) := of_decide_eq_true ‹_›; first | exact h_ | (have e_ := (Kd.R_reads' HO_8.out).1; omega) | simpa using h_) (seg := [.int .i64 a2]) (j := 4) hcl102 hcc102 (show 5 ≤ 5 from by decide) (x' := (⟨(rd_T121 y115 t118).f0, (rd_T121 y115 t118).f1, (rd_T121 y115 t118).f2, (rd_T121 y115 t118).f3, a2⟩ : S121)) (k121_mkM _ _ _ (⟨(rd_T121 y115 t118).f0, (rd_T121 y115 t118).f1, (rd_T121 y115 t118).f2, (rd_T121 y115 t118).f3, a2⟩ : S121) ) (fun _ hk => hk)
           have hx102_4 := hcc102 4 _ rfl
           (try simp only [show (k121).sz = 5 from rfl, Nat.mul_one, Nat.add_zero] at hx102_4)
           have hf102_4 := hfr102 4
           (try simp only [show (k121).sz = 5 from rfl, Nat.mul_one, Nat.add_zero] at hf102_4)
           clear hcl102 hcc102 hfr102 hM102
           go_wp2_with (first | ((with_reducible refine gate_store (t := 3) (p := 53) rfl ?_); refine store_event (t := 3) (p := 53) (v := ?vo_w103) (w1 := (wc.setCell ⟨go100, (t118 : Int).toNat * 5 + 4, none⟩ (.int .i64 a2))) ?hg ?ho ?hn ?hr ?_; (case ho => rfl); (case hg => rfl); (case hn => rfl); (case hr => first | (go_simp; done) | (go_simp; rfl)); intro w103 hw; have hg : wc.grownBy w103 (some go100) := (by rw [hw]; exact HP102.2); have hp_ : Kd.R k121 121 w103 w.heap.size (fun _ => True) (.slice (some ⟨go100, 0, none⟩) y115.length co100) y172 := (by rw [hw, Ny172.out]; exact HP102.1); clear HP102; have n0_ := Aside0.mk (hp_); have n1_ := Aside0.mk ((by rw [hw]; exact below_set (HB.out) GB100.out : Below w.heap.size w w103)); clear HO_8; clear HB; have HO_8 := n0_; have HB := n1_; clear n0_ n1_; clear hg hw hp_) | ((with_reducible refine gate_dst (N := 61) rfl ?_); refine Kd.R_lit k121 _ 121 ?hg (N := 61) ?hd (xs := ([] : List (S121))) (inner := []) (ok := fun _ => True) (okp := fun _ => True) ?hr ?hp (fun _ hk => hk) trivial (Below.refl _ _) (Nat.le_refl _) (by simp) ?_; (case hd => rfl); (case hg => rfl); (case hr => first | (go_simp; done) | (go_simp; rfl)); (case hp => exact (Reps.none _ _)); intro v174 w104 ho105 hb hg_ hnew_; clear hg_ hnew_; (first | rw [← Ny173.out] at ho105 | (simp only [Int.reduceToNat] at ho105; rw [← Ny173.out] at ho105)); have n0_ := Aside0.mk (Kd.R_elder' (by (with_reducible repeat (first | apply Kd.R_alloc | apply Kd.R_drewN | apply Kd.R_drew)); exact HO_8.out) (Kd.R_base ho105) hb); have n1_ := Aside0.mk (Kd.R_lower (Kd.R_new' ho105 (Kd.R_lt (by (with_reducible repeat (first | apply Kd.R_alloc | apply Kd.R_drewN | apply Kd.R_drew)); exact HO_8.out))) (below_size (by repeat (first | (with_reducible first | exact HB.out | apply below_alloc | apply pw_below_drewN | apply below_drew1) | exact HB.out)))); have n2_ := Aside0.mk (below_step (by repeat (first | (with_reducible first | exact HB.out | apply below_alloc | apply pw_below_drewN | apply below_drew1) | exact HB.out)) hb); clear HO_8; clear HB; have HO_8 := n0_; have HO175 := n1_; have HB := n2_; clear n0_ n1_ n2_; clear hb ho105) | ((with_reducible refine gate_builtin (b := .append) (xs := #[.tmp 61, .tmp 62]) rfl ?_); at_builtin; refine Kd.R_append_rows k121 (w0 := w) w.heap.size rfl (.tmp 61) (.tmp 62) 56 121 (.agg #[(.int .i64 0), (.int .i64 0), (.int .i64 0), (.int .i64 0), (.int .i64 0)]) 40 rfl Try.underlying56 info121 rfl (by decide) (by omega) v174 y173 l0 _ _ _ (fun k_ => some k_ ≠ (.slice (some ⟨go100, 0, none⟩) y115.length co100 : Value).ownBlock) (fun _ => False) rfl rfl ?aO ?aR (fun _ _ h => h) (fun _ h => h.elim) ?aF ?aB ?aS ?aL ?_; (case aR => repeat (first | exact (Kd.C_below HR0.out HB.out) | (with_reducible refine Kd.C_alloc ?_ _) | (with_reducible refine Kd.C_drewN ?_ _) | (with_reducible refine Kd.C_drew ?_))); (case aB => exact (by repeat (first | (with_reducible first | exact HB.out | apply below_alloc | apply pw_below_drewN | apply below_drew1) | exact HB.out))); (case aF => exact (fun k_ hk => Kd.fresh' (Kd.R_lt (by (with_reducible repeat (first | apply Kd.R_alloc | apply Kd.R_drewN | apply Kd.R_drew)); exact HO_8.out)) k_ hk)); (case aO => exact (by (with_reducible repeat (first | apply Kd.R_alloc | apply Kd.R_drewN | apply Kd.R_drew)); exact Kd.R_mono HO175.out (fun _ hk => hk.2))); (case aS => exact (below_size (by repeat (first | (with_reducible first | exact HB.out | apply below_alloc | apply pw_below_drewN | apply below_drew1) | exact HB.out)))); (case aL => have := LMc101.out; omega); intro v177 w106 ho hb hg hat; rw [← Ny176.out] at ho; have n0_ := Aside0.mk (Kd.R_after (ok := (fun _ => True)) (by (with_reducible repeat (first | apply Kd.R_alloc | apply Kd.R_drewN | apply Kd.R_drew)); exact HO_8.out) hg hat); have n1_ := Aside0.mk (hb); have n2_ := Aside0.mk (ho); clear HO_8; clear HB; clear HO175; have HO_8 := n0_; have HB := n1_; have HO178 := n2_; clear n0_ n1_ n2_; clear ho hb hg hat))
           go_ret2
           exact ⟨_, by first | rfl | (simp [errW_none, errW_some] <;> rfl) | (simp [*, errW_none, errW_some] <;> rfl), by (with_reducible repeat (first | apply Kd.R_alloc | apply Kd.R_drewN | apply Kd.R_drew)); exact Kd.R_mono HO178.out (fun _ hk => trivial), by repeat (first | (with_reducible first | exact HB.out | apply below_alloc | apply pw_below_drewN | apply below_drew1) | exact HB.out)⟩
          ·rw [if_neg c101] at H
           exact absurd H (by simp)
         ·rw [if_neg c99] at H
          exact absurd H (by simp)
      ·rw [if_neg c15] at H
       exact absurd H (by simp)
     ·rw [if_neg c14] at H
      exact absurd H (by simp)
 ·rw [if_neg c4] at H
  exact absurd H (by simp)

end Go.Proofs.Ytbbfelgojaioaaa.PFnExactSetState
