-- The printed functions of one law and their contracts, over contracts of this session's own (hand.py).
import Derived.Test.YtppgealmedaihaaPFnTrialsx0
import Derived.Test.YtppgealmedaihaaPFnTrialsx4
import Derived.Test.YtppgealmedaihaaPFnTrialsx5
import Derived.Test.YtppgealmedaihaaPFnTrialsx6
namespace Go.Proofs.Ytppgealmedaihaa.PFnTrials
open Go.RowKit Go.Proofs.YtppgealmedaihaaW.PrintWords Go.Proofs.YtppgealmedaihaaW.PrintLast Go.Proofs.YtppgealmedaihaaW.PrintMore Go.Proofs.Ytppgealmedaihaa.Short
attribute [local go_sem] max2_int min2_int max_two min_two max_three min_three max_four min_four   -- for this text's walks alone
set_option linter.unusedVariables false
set_option linter.unusedSimpArgs false

/-! ### spec_l11Draw: function 165 -/
def spec_l11Draw.l0 : Nat → List (S62) → Int → List Int → Int → Int → Option ((List (S62)) × Int × Int)
 | 0, _, _, _, _, _ => none
 | k + 1, x3, x4, x1000, x1001, x1002 => if x4 > 0 then ((spec_l1Below.f x1000 x1001 x1002 8).bind fun bt237 => ((spec_l1Below.f x1000 bt237.2.1 bt237.2.2 9).bind fun bt240 => ((spec_PutMark.f k x3 (wrap64 (1 + bt237.1)) bt240.1).bind fun bt243 => (spec_l11Draw.l0 k bt243.1 (wrap64 (x4 - 1)) x1000 bt240.2.1 bt240.2.2)))) else (some (x3, x1001, x1002))
def spec_l11Draw.f (k : Nat) (s0_0 : List Int) (s0_1 : Int) (s0_2 : Int) : Option ((List (S62)) × Int × Int) := (spec_l1Below.f s0_0 s0_1 s0_2 6).bind fun bt234 => (spec_l11Draw.l0 k (([] : List (S62))) bt234.1 s0_0 bt234.2.1 bt234.2.2)
theorem spec_l11Draw.mono_l : ∀ k, (∀ y0 y1 y2 y3 y4, LeO (spec_l11Draw.l0 k y0 y1 y2 y3 y4) (spec_l11Draw.l0 (k + 1) y0 y1 y2 y3 y4))
 | 0 => fun _ _ _ _ _ r h => by simp [spec_l11Draw.l0] at h
 | k + 1 => by
  have ih0 := spec_l11Draw.mono_l k
  ·intro y0 y1 y2 y3 y4
   unfold spec_l11Draw.l0
   repeat' first
   | (with_reducible exact ih0 _ _ _ _ _)
   | (with_reducible exact spec_PutMark.mono _ _ _ _)
   | (with_reducible exact LeO.refl _)
   | (with_reducible exact LeO.none _)
   | (with_reducible refine LeO.ite ?_ ?_)
   | (with_reducible refine LeO.bind ?_ (fun _ => ?_))
   | exact ih0 _ _ _ _ _
   | exact spec_PutMark.mono _ _ _ _
   | exact LeO.none _
   | refine LeO.ite ?_ ?_
   | refine LeO.bind ?_ (fun _ => ?_)
theorem spec_l11Draw.mono : ∀ a0 a1 a2 k, LeO (spec_l11Draw.f k a0 a1 a2) (spec_l11Draw.f (k + 1) a0 a1 a2) := by
 intro a0 a1 a2 k
 have ih0 := spec_l11Draw.mono_l k
 unfold spec_l11Draw.f
 repeat' first
   | (with_reducible exact ih0 _ _ _ _ _)
   | (with_reducible exact spec_PutMark.mono _ _ _ _)
   | (with_reducible exact LeO.refl _)
   | (with_reducible exact LeO.none _)
   | (with_reducible refine LeO.ite ?_ ?_)
   | (with_reducible refine LeO.bind ?_ (fun _ => ?_))
   | exact ih0 _ _ _ _ _
   | exact spec_PutMark.mono _ _ _ _
   | exact LeO.none _
   | refine LeO.ite ?_ ?_
   | refine LeO.bind ?_ (fun _ => ?_)
set_option maxHeartbeats 8000000 in
set_option maxRecDepth 100000 in
theorem spec_l11Draw.calls (k : Nat) (g : Nat) (s0_0 : List Int) (s0_1 : Int) (s0_2 : Int) (r1 : List (S62)) (r2 : Int) (r3 : Int) (w0 w : World) (hI : IsS189 w0 w g s0_0 s0_1 s0_2) (hB : Below w0.heap.size w0 w) (h : spec_l11Draw.f k s0_0 s0_1 s0_2 = some (r1, r2, r3)) :
  Calls Try.prog 165 #[.pointer (some ⟨g, 0, none⟩)] w fun e w' => ∃ v0_ : Value, e = .returned (v0_) ∧ Kd.R k62 62 w' w.heap.size (fun _ => True) v0_ r1 ∧ IsS189 w0 w' g s0_0 r2 r3 ∧ Below w0.heap.size w0 w' ∧ KeepBut w w' g none := by
 have hu62 := Try.underlying62
 have HI0 := Aside0.mk hI
 have HK := Aside0.mk (KeepBut.refl w g none)
 have HL := Aside0.mk hB.size
 clear hI
 have HW0 := Aside0.mk hB.size
 have HB := Aside0.mk hB
 clear hB
 have H : ((spec_l1Below.f s0_0 s0_1 s0_2 6).bind fun bt234 => (spec_l11Draw.l0 k (([] : List (S62))) bt234.1 s0_0 bt234.2.1 bt234.2.2)) = some (r1, r2, r3) := h
 clear h
 obtain ⟨y231, hy231⟩ : ∃ y_ : List (S62), y_ = (([] : List (S62))) := ⟨_, rfl⟩
 replace H : ((spec_l1Below.f s0_0 s0_1 s0_2 6).bind fun bt234 => (spec_l11Draw.l0 k y231 bt234.1 s0_0 bt234.2.1 bt234.2.2)) = some (r1, r2, r3) := by first | (rw [hy231]; with_reducible exact H) | (have H2_ := (Option.bind_some _ _).symm.trans H; rw [hy231]; with_reducible exact H2_) | (have H2_ := (Option.bind_some _ _).symm.trans H; with_reducible exact H2_) | with_reducible exact H | (rw [hy231]; exact H) | exact H
 have Ny231 := Aside0.mk hy231
 clear hy231
 replace H := Option.bind_eq_some_iff.mp H
 obtain ⟨⟨t234, t235, t236⟩, A20, H⟩ := H
 replace H : (spec_l11Draw.l0 k y231 t234 s0_0 t235 t236) = some (r1, r2, r3) := H
 have A2 := Aside0.mk A20
 clear A20
 have H' := Aside0.mk H
 clear H
 go_enter Try.func165, Try.ntmps165
 go_wp2_with (first | ((with_reducible refine gate_dst (N := 5) rfl ?_); refine Kd.R_lit k62 _ 62 ?hg (N := 5) ?hd (xs := ([] : List (S62))) (inner := []) (ok := fun _ => True) (okp := fun _ => True) ?hr ?hp (fun _ hk => hk) trivial (Below.refl _ _) (Nat.le_refl _) (by simp) ?_; (case hd => rfl); (case hg => rfl); (case hr => first | (go_simp; done) | (go_simp; rfl)); (case hp => exact (Reps.none _ _)); intro v232 w3 ho4 hb hg_ hnew_; clear hg_ hnew_; (first | rw [← Ny231.out] at ho4 | (simp only [Int.reduceToNat] at ho4; rw [← Ny231.out] at ho4)); have n0_ := Aside0.mk (Kd.R_lower ho4 (keep_size (w := w) (g := g) (row := none) (by repeat (first | (with_reducible first | exact HK.out | apply KeepBut.set_ | apply keep_drewN | apply keep_drew | apply keep_alloc) | exact HK.out)))); have n1_ := Aside0.mk (IsS189.below (by repeat (first | (with_reducible first | exact HI0.out | apply IsS189.alloc | apply IsS189.drewN | apply IsS189.drew | apply IsS189.set_1 | apply IsS189.set_2) | exact HI0.out)) hb); have n2_ := Aside0.mk (KeepBut.trans (by repeat (first | (with_reducible first | exact HK.out | apply KeepBut.set_ | apply keep_drewN | apply keep_drew | apply keep_alloc) | exact HK.out)) (KeepBut.of_below hb g none) (.inl rfl)); have n3_ := Aside0.mk (below_step (by repeat (first | (with_reducible first | exact HB.out | apply bA | apply bN | apply bD | refine bS ?_ (IsS189.ge HI0.out)) | exact HB.out)) hb); clear HI0; clear HK; clear HB; have HO233 := n0_; have HI0 := n1_; have HK := n2_; have HB := n3_; clear n0_ n1_ n2_ n3_; clear hb ho4) | ((with_reducible refine gate_callee (f := 112) rfl ?_); refine goesL_ (some 7) rfl rfl Try.func112 (by kernel_rfl) rfl #[.pointer (some ⟨g, 0, none⟩), .int .i64 6] rfl (by (try simp only [mA, mC, mN]); first | done | rfl | (simp only [lD, lT]; rfl)) ?_; (with_reducible refine (spec_l1Below.calls g s0_0 s0_1 s0_2 6 t234 t235 t236 w0 _ ?side1 ?side2 A2.out).mono ?_); (case side1 => repeat (first | (with_reducible first | exact HI0.out | apply IsS189.alloc | apply IsS189.drewN | apply IsS189.drew | apply IsS189.set_1 | apply IsS189.set_2) | exact HI0.out)); (case side2 => repeat (first | (with_reducible first | exact HB.out | apply bA | apply bN | apply bD | refine bS ?_ (IsS189.ge HI0.out)) | exact HB.out)); rintro e w5 ⟨rfl, hi, hb, hk⟩; refine ⟨_, rfl, ?_⟩; have n0_ := Aside0.mk (Kd.R_mono (Kd.R_keep (IsS189.apart (show IsS189 w0 _ g s0_0 s0_1 s0_2 from by repeat (first | (with_reducible first | exact HI0.out | apply IsS189.alloc | apply IsS189.drewN | apply IsS189.drew | apply IsS189.set_1 | apply IsS189.set_2) | exact HI0.out)) (qR HO233) (by decide)) hk (fun _ h => h.2)) (fun _ h => h.1)); have n1_ := Aside0.mk (KeepBut.trans (by repeat (first | (with_reducible first | exact HK.out | apply KeepBut.set_ | apply keep_drewN | apply keep_drew | apply keep_alloc) | exact HK.out)) hk (.inl rfl)); have n2_ := Aside0.mk (hb); have n3_ := Aside0.mk (hi); clear HO233; clear HK; clear HB; clear HI0; have HO233 := n0_; have HK := n1_; have HB := n2_; have HI0 := n3_; clear n0_ n1_ n2_ n3_; (try clear hb); (try clear hb2); (try clear hk); (try clear hi)))
 go_loopg [3, 4] k (fun kq v3 v4 w' => ∃ (x3_1 : List (S62)) (x4_1 : Int) (x1001_1 : Int) (x1002_1 : Int), v4 = .int .i64 x4_1 ∧ Aside0 (spec_l11Draw.l0 kq x3_1 x4_1 s0_0 x1001_1 x1002_1 = some (r1, r2, r3)) ∧ Aside0 (kq ≤ k) ∧ Aside0 (Kd.R k62 62 w' w.heap.size (fun _ => True) v3 x3_1) ∧ Aside0 (IsS189 w0 w' g s0_0 x1001_1 x1002_1) ∧ Aside0 (KeepBut w w' g none) ∧ Aside0 (Below w0.heap.size w0 w'))
 case atStart => exact ⟨(y231), (t234), (t235), (t236), (by first | rfl | (simp; done) | (simp [*]; done)), H', ⟨Nat.le_refl _⟩, ⟨by (with_reducible repeat first | apply rA | apply rN | apply rD); exact HO233.out⟩, ⟨by repeat (first | (with_reducible first | exact HI0.out | apply IsS189.alloc | apply IsS189.drewN | apply IsS189.drew | apply IsS189.set_1 | apply IsS189.set_2) | exact HI0.out)⟩, ⟨by repeat (first | (with_reducible first | exact HK.out | apply KeepBut.set_ | apply keep_drewN | apply keep_drew | apply keep_alloc) | exact HK.out)⟩, ⟨by repeat (first | (with_reducible first | exact HB.out | apply bA | apply bN | apply bD | refine bS ?_ (IsS189.ge HI0.out)) | exact HB.out)⟩⟩
 case round =>
  clear H'
  try clear c1
  try clear p2
  obtain ⟨x3_1, x4_1, x1001_1, x1002_1, rfl, HA, HK1, HO_3, HI0, HK, HB⟩ := hrel
  cases gk with
  | zero => exact absurd HA.out (by simp [spec_l11Draw.l0])
  | succ k1 =>
   have H := HA.out
   clear HA
   simp only [spec_l11Draw.l0] at H
   by_cases c6 : x4_1 > 0
   ·rw [if_pos c6] at H
    have c6b0 : decide (0 < x4_1) = true := decide_eq_true c6
    clear c6
    replace H := Option.bind_eq_some_iff.mp H
    obtain ⟨⟨t237, t238, t239⟩, A70, H⟩ := H
    replace H : ((spec_l1Below.f s0_0 t238 t239 9).bind fun bt240 => ((spec_PutMark.f k1 x3_1 (wrap64 (1 + t237)) bt240.1).bind fun bt243 => (spec_l11Draw.l0 k1 bt243.1 (wrap64 (x4_1 - 1)) s0_0 bt240.2.1 bt240.2.2))) = some (r1, r2, r3) := H
    have A7 := Aside0.mk A70
    clear A70
    replace H := Option.bind_eq_some_iff.mp H
    obtain ⟨⟨t240, t241, t242⟩, A80, H⟩ := H
    replace H : ((spec_PutMark.f k1 x3_1 (wrap64 (1 + t237)) t240).bind fun bt243 => (spec_l11Draw.l0 k1 bt243.1 (wrap64 (x4_1 - 1)) s0_0 t241 t242)) = some (r1, r2, r3) := H
    have A8 := Aside0.mk A80
    clear A80
    replace H := Option.bind_eq_some_iff.mp H
    obtain ⟨⟨t243, t246⟩, A90, H⟩ := H
    replace H : (spec_l11Draw.l0 k1 t243 (wrap64 (x4_1 - 1)) s0_0 t241 t242) = some (r1, r2, r3) := H
    have A9 := Aside0.mk A90
    clear A90
    have H' := Aside0.mk H
    clear H
    go_wp2_with (first | ((with_reducible refine gate_callee (f := 112) rfl ?_); refine goesL_ (some 15) rfl rfl Try.func112 (by kernel_rfl) rfl #[.pointer (some ⟨g, 0, none⟩), .int .i64 8] rfl (by (try simp only [mA, mC, mN]); first | done | rfl | (simp only [lD, lT]; rfl)) ?_; (with_reducible refine (spec_l1Below.calls g s0_0 x1001_1 x1002_1 8 t237 t238 t239 w0 _ ?side1 ?side2 A7.out).mono ?_); (case side1 => repeat (first | (with_reducible first | exact HI0.out | apply IsS189.alloc | apply IsS189.drewN | apply IsS189.drew | apply IsS189.set_1 | apply IsS189.set_2) | exact HI0.out)); (case side2 => repeat (first | (with_reducible first | exact HB.out | apply bA | apply bN | apply bD | refine bS ?_ (IsS189.ge HI0.out)) | exact HB.out)); rintro e w10 ⟨rfl, hi, hb, hk⟩; refine ⟨_, rfl, ?_⟩; have n0_ := Aside0.mk (Kd.R_mono (Kd.R_keep (IsS189.apart (show IsS189 w0 _ g s0_0 x1001_1 x1002_1 from by repeat (first | (with_reducible first | exact HI0.out | apply IsS189.alloc | apply IsS189.drewN | apply IsS189.drew | apply IsS189.set_1 | apply IsS189.set_2) | exact HI0.out)) (qR HO_3) (by decide)) hk (fun _ h => h.2)) (fun _ h => h.1)); have n1_ := Aside0.mk (KeepBut.trans (by repeat (first | (with_reducible first | exact HK.out | apply KeepBut.set_ | apply keep_drewN | apply keep_drew | apply keep_alloc) | exact HK.out)) hk (.inl rfl)); have n2_ := Aside0.mk (hb); have n3_ := Aside0.mk (hi); clear HO_3; clear HK; clear HB; clear HI0; have HO_3 := n0_; have HK := n1_; have HB := n2_; have HI0 := n3_; clear n0_ n1_ n2_ n3_; (try clear hb); (try clear hb2); (try clear hk); (try clear hi)) | ((with_reducible refine gate_callee (f := 112) rfl ?_); refine goesL_ (some 18) rfl rfl Try.func112 (by kernel_rfl) rfl #[.pointer (some ⟨g, 0, none⟩), .int .i64 9] rfl (by (try simp only [mA, mC, mN]); first | done | rfl | (simp only [lD, lT]; rfl)) ?_; (with_reducible refine (spec_l1Below.calls g s0_0 t238 t239 9 t240 t241 t242 w0 _ ?side1 ?side2 A8.out).mono ?_); (case side1 => repeat (first | (with_reducible first | exact HI0.out | apply IsS189.alloc | apply IsS189.drewN | apply IsS189.drew | apply IsS189.set_1 | apply IsS189.set_2) | exact HI0.out)); (case side2 => repeat (first | (with_reducible first | exact HB.out | apply bA | apply bN | apply bD | refine bS ?_ (IsS189.ge HI0.out)) | exact HB.out)); rintro e w11 ⟨rfl, hi, hb, hk⟩; refine ⟨_, rfl, ?_⟩; have n0_ := Aside0.mk (Kd.R_mono (Kd.R_keep (IsS189.apart (show IsS189 w0 _ g s0_0 t238 t239 from by repeat (first | (with_reducible first | exact HI0.out | apply IsS189.alloc | apply IsS189.drewN | apply IsS189.drew | apply IsS189.set_1 | apply IsS189.set_2) | exact HI0.out)) (qR HO_3) (by decide)) hk (fun _ h => h.2)) (fun _ h => h.1)); have n1_ := Aside0.mk (KeepBut.trans (by repeat (first | (with_reducible first | exact HK.out | apply KeepBut.set_ | apply keep_drewN | apply keep_drew | apply keep_alloc) | exact HK.out)) hk (.inl rfl)); have n2_ := Aside0.mk (hb); have n3_ := Aside0.mk (hi); clear HO_3; clear HK; clear HB; clear HI0; have HO_3 := n0_; have HK := n1_; have HB := n2_; have HI0 := n3_; clear n0_ n1_ n2_ n3_; (try clear hb); (try clear hb2); (try clear hk); (try clear hi); obtain ⟨Ao12, co12, eo12⟩ := Kd.R_slice HO_3.out; subst eo12) | ((with_reducible refine gate_callee (f := 189) rfl ?_); refine goesL_ (some 20) rfl rfl Try.func189 (by kernel_rfl) rfl #[.slice Ao12 x3_1.length co12, .agg #[.int .i64 (wrap64 (1 + t237)), .int .i64 t240]] rfl (by (try simp only [mA, mC, mN]); first | done | rfl | (simp only [lD, lT]; rfl)) ?_; (with_reducible refine (spec_PutMark.calls k1 _ _ x3_1 (wrap64 (1 + t237)) t240 t243 t246 _ ?side1 ?side2 A9.out).mono ?_); (case side1 => repeat (first | exact (Kd.R_reads' HO_3.out).2.2 | (with_reducible refine Kd.C_alloc ?_ _) | (with_reducible refine Kd.C_drewN ?_ _) | (with_reducible refine Kd.C_drew ?_))); (case side2 => exact (Kd.R_reads' HO_3.out).2.1); rintro e w13 ⟨v244, rfl, ho0, hb⟩; refine ⟨_, rfl, ?_⟩; have n0_ := Aside0.mk (Kd.R_elder' (qR HO_3) (Kd.R_base ho0) hb); have n1_ := Aside0.mk (Kd.R_lower (Kd.R_new' ho0 (Kd.R_lt (qR HO_3))) (keep_size (w := w) (g := g) (row := none) (by repeat (first | (with_reducible first | exact HK.out | apply KeepBut.set_ | apply keep_drewN | apply keep_drew | apply keep_alloc) | exact HK.out)))); have n2_ := Aside0.mk (IsS189.below (by repeat (first | (with_reducible first | exact HI0.out | apply IsS189.alloc | apply IsS189.drewN | apply IsS189.drew | apply IsS189.set_1 | apply IsS189.set_2) | exact HI0.out)) hb); have n3_ := Aside0.mk (KeepBut.trans (by repeat (first | (with_reducible first | exact HK.out | apply KeepBut.set_ | apply keep_drewN | apply keep_drew | apply keep_alloc) | exact HK.out)) (KeepBut.of_below hb g none) (.inl rfl)); have n4_ := Aside0.mk (below_step (by repeat (first | (with_reducible first | exact HB.out | apply bA | apply bN | apply bD | refine bS ?_ (IsS189.ge HI0.out)) | exact HB.out)) hb); clear HO_3; clear HI0; clear HK; clear HB; have HO_3 := n0_; have HO245 := n1_; have HI0 := n2_; have HK := n3_; have HB := n4_; clear n0_ n1_ n2_ n3_ n4_; (try clear hb); (try clear hb2); (try clear hk); (try clear hi); (try clear ho0)))
    go_roundg k1
    case measure => have := HK1.out; omega
    case rel => exact ⟨(t243), (wrap64 (x4_1 - 1)), (t241), (t242), (by first | rfl | (simp; done) | (simp [*]; done)), H', ⟨by have := HK1.out; omega⟩, ⟨by (with_reducible repeat first | apply rA | apply rN | apply rD); exact Kd.R_mono HO245.out (fun _ hk => trivial)⟩, ⟨by repeat (first | (with_reducible first | exact HI0.out | apply IsS189.alloc | apply IsS189.drewN | apply IsS189.drew | apply IsS189.set_1 | apply IsS189.set_2) | exact HI0.out)⟩, ⟨by repeat (first | (with_reducible first | exact HK.out | apply KeepBut.set_ | apply keep_drewN | apply keep_drew | apply keep_alloc) | exact HK.out)⟩, ⟨by repeat (first | (with_reducible first | exact HB.out | apply bA | apply bN | apply bD | refine bS ?_ (IsS189.ge HI0.out)) | exact HB.out)⟩⟩
   ·rw [if_neg c6] at H
    have c6b0 : decide (0 < x4_1) = false := decide_eq_false c6
    clear c6
    simp only [Option.some.injEq, Prod.mk.injEq] at H
    obtain ⟨rfl, rfl, rfl⟩ := H
    go_wp2
    go_ret
    exact ⟨_, by first | rfl | (simp [errW_none, errW_some] <;> rfl) | (simp [*, errW_none, errW_some] <;> rfl), by (with_reducible repeat first | apply rA | apply rN | apply rD); exact HO_3.out, by repeat (first | (with_reducible first | exact HI0.out | apply IsS189.alloc | apply IsS189.drewN | apply IsS189.drew | apply IsS189.set_1 | apply IsS189.set_2) | exact HI0.out), by repeat (first | (with_reducible first | exact HB.out | apply bA | apply bN | apply bD | refine bS ?_ (IsS189.ge HI0.out)) | exact HB.out), by repeat (first | (with_reducible first | exact HK.out | apply KeepBut.set_ | apply keep_drewN | apply keep_drew | apply keep_alloc) | exact HK.out)⟩

/-! ### spec_l11Any: function 111 -/
def spec_l11Any.f (k : Nat) (s0_0 : List Int) (s0_1 : Int) (s0_2 : Int) : Option ((List (S62)) × Int × Int) := (spec_l11Draw.f k s0_0 s0_1 s0_2).bind fun bt247 => (if (bt247.1.length : Int) = 0 then (some (bt247.1, bt247.2.1, bt247.2.2)) else ((spec_l1Below.f s0_0 bt247.2.1 bt247.2.2 (bt247.1.length : Int)).bind fun bt252 => ((spec_l1Below.f s0_0 bt252.2.1 bt252.2.2 9).bind fun bt255 => (if bt255.1 = 0 then ((spec_l1Int.f s0_0 bt255.2.1 bt255.2.2 (([0, 20, 21] : List Int))).bind fun bt261 => (if 0 ≤ bt252.1 then (if bt252.1 < (bt247.1.length : Int) then (some ((bt247.1.set (bt252.1 : Int).toNat (⟨bt261.1, (rd_T62 bt247.1 bt252.1).f1⟩ : S62)), bt261.2.1, bt261.2.2)) else (none)) else (none))) else (if bt255.1 = 1 then ((spec_l1Int.f s0_0 bt255.2.1 bt255.2.2 (([(-1), 99, 100] : List Int))).bind fun bt268 => (if 0 ≤ bt252.1 then (if bt252.1 < (bt247.1.length : Int) then (some ((bt247.1.set (bt252.1 : Int).toNat (⟨(rd_T62 bt247.1 bt252.1).f0, bt268.1⟩ : S62)), bt268.2.1, bt268.2.2)) else (none)) else (none))) else (some (bt247.1, bt255.2.1, bt255.2.2)))))))
theorem spec_l11Any.mono : ∀ a0 a1 a2 k, LeO (spec_l11Any.f k a0 a1 a2) (spec_l11Any.f (k + 1) a0 a1 a2) := by
 intro a0 a1 a2 k
 unfold spec_l11Any.f
 repeat' first
   | (with_reducible exact spec_l11Draw.mono _ _ _ _)
   | (with_reducible exact LeO.refl _)
   | (with_reducible exact LeO.none _)
   | (with_reducible refine LeO.ite ?_ ?_)
   | (with_reducible refine LeO.bind ?_ (fun _ => ?_))
   | exact spec_l11Draw.mono _ _ _ _
   | exact LeO.none _
   | refine LeO.ite ?_ ?_
   | refine LeO.bind ?_ (fun _ => ?_)
set_option maxHeartbeats 8000000 in
set_option maxRecDepth 100000 in
theorem spec_l11Any.calls (k : Nat) (g : Nat) (s0_0 : List Int) (s0_1 : Int) (s0_2 : Int) (r1 : List (S62)) (r2 : Int) (r3 : Int) (w0 w : World) (hI : IsS189 w0 w g s0_0 s0_1 s0_2) (hB : Below w0.heap.size w0 w) (h : spec_l11Any.f k s0_0 s0_1 s0_2 = some (r1, r2, r3)) :
  Calls Try.prog 111 #[.pointer (some ⟨g, 0, none⟩)] w fun e w' => ∃ v0_ : Value, e = .returned (v0_) ∧ Kd.R k62 62 w' w.heap.size (fun _ => True) v0_ r1 ∧ IsS189 w0 w' g s0_0 r2 r3 ∧ Below w0.heap.size w0 w' ∧ KeepBut w w' g none := by
 have HI0 := Aside0.mk hI
 have HK := Aside0.mk (KeepBut.refl w g none)
 have HL := Aside0.mk hB.size
 clear hI
 have HW0 := Aside0.mk hB.size
 have HB := Aside0.mk hB
 clear hB
 have H : ((spec_l11Draw.f k s0_0 s0_1 s0_2).bind fun bt247 => (if (bt247.1.length : Int) = 0 then (some (bt247.1, bt247.2.1, bt247.2.2)) else ((spec_l1Below.f s0_0 bt247.2.1 bt247.2.2 (bt247.1.length : Int)).bind fun bt252 => ((spec_l1Below.f s0_0 bt252.2.1 bt252.2.2 9).bind fun bt255 => (if bt255.1 = 0 then ((spec_l1Int.f s0_0 bt255.2.1 bt255.2.2 (([0, 20, 21] : List Int))).bind fun bt261 => (if 0 ≤ bt252.1 then (if bt252.1 < (bt247.1.length : Int) then (some ((bt247.1.set (bt252.1 : Int).toNat (⟨bt261.1, (rd_T62 bt247.1 bt252.1).f1⟩ : S62)), bt261.2.1, bt261.2.2)) else (none)) else (none))) else (if bt255.1 = 1 then ((spec_l1Int.f s0_0 bt255.2.1 bt255.2.2 (([(-1), 99, 100] : List Int))).bind fun bt268 => (if 0 ≤ bt252.1 then (if bt252.1 < (bt247.1.length : Int) then (some ((bt247.1.set (bt252.1 : Int).toNat (⟨(rd_T62 bt247.1 bt252.1).f0, bt268.1⟩ : S62)), bt268.2.1, bt268.2.2)) else (none)) else (none))) else (some (bt247.1, bt255.2.1, bt255.2.2)))))))) = some (r1, r2, r3) := h
 clear h
 replace H := Option.bind_eq_some_iff.mp H
 obtain ⟨⟨t247, t250, t251⟩, A20, H⟩ := H
 replace H : (if (t247.length : Int) = 0 then (some (t247, t250, t251)) else ((spec_l1Below.f s0_0 t250 t251 (t247.length : Int)).bind fun bt252 => ((spec_l1Below.f s0_0 bt252.2.1 bt252.2.2 9).bind fun bt255 => (if bt255.1 = 0 then ((spec_l1Int.f s0_0 bt255.2.1 bt255.2.2 (([0, 20, 21] : List Int))).bind fun bt261 => (if 0 ≤ bt252.1 then (if bt252.1 < (t247.length : Int) then (some ((t247.set (bt252.1 : Int).toNat (⟨bt261.1, (rd_T62 t247 bt252.1).f1⟩ : S62)), bt261.2.1, bt261.2.2)) else (none)) else (none))) else (if bt255.1 = 1 then ((spec_l1Int.f s0_0 bt255.2.1 bt255.2.2 (([(-1), 99, 100] : List Int))).bind fun bt268 => (if 0 ≤ bt252.1 then (if bt252.1 < (t247.length : Int) then (some ((t247.set (bt252.1 : Int).toNat (⟨(rd_T62 t247 bt252.1).f0, bt268.1⟩ : S62)), bt268.2.1, bt268.2.2)) else (none)) else (none))) else (some (t247, bt255.2.1, bt255.2.2))))))) = some (r1, r2, r3) := H
 have A2 := Aside0.mk A20
 clear A20
 by_cases c3 : (t247.length : Int) = 0
 ·rw [if_pos c3] at H
  have c3b0 : ((t247.length : Int) == 0) = true := beq_iff_eq.mpr c3
  have c3b1 : ((t247.length : Int) != 0) = false := bne_eq_false_iff_eq.mpr c3
  clear c3
  simp only [Option.some.injEq, Prod.mk.injEq] at H
  obtain ⟨rfl, rfl, rfl⟩ := H
  go_enter Try.func111, Try.ntmps111
  go_wp2_with (first | ((with_reducible refine gate_callee (f := 165) rfl ?_); refine goesL_ (some 6) rfl rfl Try.func165 (by kernel_rfl) rfl #[.pointer (some ⟨g, 0, none⟩)] rfl (by (try simp only [mA, mC, mN]); first | done | rfl | (simp only [lD, lT]; rfl)) ?_; (with_reducible refine (spec_l11Draw.calls k g s0_0 s0_1 s0_2 t247 t250 t251 w0 _ ?side1 ?side2 A2.out).mono ?_); (case side1 => repeat (first | (with_reducible first | exact HI0.out | apply IsS189.alloc | apply IsS189.drewN | apply IsS189.drew | apply IsS189.set_1 | apply IsS189.set_2) | exact HI0.out)); (case side2 => repeat (first | (with_reducible first | exact HB.out | apply bA | apply bN | apply bD | refine bS ?_ (IsS189.ge HI0.out)) | exact HB.out)); rintro e w4 ⟨v248, rfl, ho0, hi, hb, hk⟩; refine ⟨_, rfl, ?_⟩; have n0_ := Aside0.mk (Kd.R_lower ho0 (keep_size (w := w) (g := g) (row := none) (by repeat (first | (with_reducible first | exact HK.out | apply KeepBut.set_ | apply keep_drewN | apply keep_drew | apply keep_alloc) | exact HK.out)))); have n1_ := Aside0.mk (KeepBut.trans (by repeat (first | (with_reducible first | exact HK.out | apply KeepBut.set_ | apply keep_drewN | apply keep_drew | apply keep_alloc) | exact HK.out)) hk (.inl rfl)); have n2_ := Aside0.mk (hb); have n3_ := Aside0.mk (hi); clear HK; clear HB; clear HI0; have HO249 := n0_; have HK := n1_; have HB := n2_; have HI0 := n3_; clear n0_ n1_ n2_ n3_; (try clear hb); (try clear hb2); (try clear hk); (try clear hi); (try clear ho0); obtain ⟨Ao5, co5, eo5⟩ := Kd.R_slice HO249.out; subst eo5))
  go_ret
  exact ⟨_, by first | rfl | (simp [errW_none, errW_some] <;> rfl) | (simp [*, errW_none, errW_some] <;> rfl), by (with_reducible repeat first | apply rA | apply rN | apply rD); exact HO249.out, by repeat (first | (with_reducible first | exact HI0.out | apply IsS189.alloc | apply IsS189.drewN | apply IsS189.drew | apply IsS189.set_1 | apply IsS189.set_2) | exact HI0.out), by repeat (first | (with_reducible first | exact HB.out | apply bA | apply bN | apply bD | refine bS ?_ (IsS189.ge HI0.out)) | exact HB.out), by repeat (first | (with_reducible first | exact HK.out | apply KeepBut.set_ | apply keep_drewN | apply keep_drew | apply keep_alloc) | exact HK.out)⟩
 ·rw [if_neg c3] at H
  have c3b0 : ((t247.length : Int) == 0) = false := beq_eq_false_iff_ne.mpr c3
  have c3b1 : ((t247.length : Int) != 0) = true := bne_iff_ne.mpr c3
  have c3b2 : ¬ (t247 = []) := fun h_ => c3 (by rw [h_]; rfl)
  replace H := Option.bind_eq_some_iff.mp H
  obtain ⟨⟨t252, t253, t254⟩, A60, H⟩ := H
  replace H : ((spec_l1Below.f s0_0 t253 t254 9).bind fun bt255 => (if bt255.1 = 0 then ((spec_l1Int.f s0_0 bt255.2.1 bt255.2.2 (([0, 20, 21] : List Int))).bind fun bt261 => (if 0 ≤ t252 then (if t252 < (t247.length : Int) then (some ((t247.set (t252 : Int).toNat (⟨bt261.1, (rd_T62 t247 t252).f1⟩ : S62)), bt261.2.1, bt261.2.2)) else (none)) else (none))) else (if bt255.1 = 1 then ((spec_l1Int.f s0_0 bt255.2.1 bt255.2.2 (([(-1), 99, 100] : List Int))).bind fun bt268 => (if 0 ≤ t252 then (if t252 < (t247.length : Int) then (some ((t247.set (t252 : Int).toNat (⟨(rd_T62 t247 t252).f0, bt268.1⟩ : S62)), bt268.2.1, bt268.2.2)) else (none)) else (none))) else (some (t247, bt255.2.1, bt255.2.2))))) = some (r1, r2, r3) := H
  have A6 := Aside0.mk A60
  clear A60
  replace H := Option.bind_eq_some_iff.mp H
  obtain ⟨⟨t255, t256, t257⟩, A70, H⟩ := H
  replace H : (if t255 = 0 then ((spec_l1Int.f s0_0 t256 t257 (([0, 20, 21] : List Int))).bind fun bt261 => (if 0 ≤ t252 then (if t252 < (t247.length : Int) then (some ((t247.set (t252 : Int).toNat (⟨bt261.1, (rd_T62 t247 t252).f1⟩ : S62)), bt261.2.1, bt261.2.2)) else (none)) else (none))) else (if t255 = 1 then ((spec_l1Int.f s0_0 t256 t257 (([(-1), 99, 100] : List Int))).bind fun bt268 => (if 0 ≤ t252 then (if t252 < (t247.length : Int) then (some ((t247.set (t252 : Int).toNat (⟨(rd_T62 t247 t252).f0, bt268.1⟩ : S62)), bt268.2.1, bt268.2.2)) else (none)) else (none))) else (some (t247, t256, t257)))) = some (r1, r2, r3) := H
  have A7 := Aside0.mk A70
  clear A70
  by_cases c8 : t255 = 0
  ·rw [if_pos c8] at H
   have c8b0 : (t255 == 0) = true := beq_iff_eq.mpr c8
   have c8b1 : (t255 != 0) = false := bne_eq_false_iff_eq.mpr c8
   clear c8
   obtain ⟨y258, hy258⟩ : ∃ y_ : List Int, y_ = (([0, 20, 21] : List Int)) := ⟨_, rfl⟩
   replace H : ((spec_l1Int.f s0_0 t256 t257 y258).bind fun bt261 => (if 0 ≤ t252 then (if t252 < (t247.length : Int) then (some ((t247.set (t252 : Int).toNat (⟨bt261.1, (rd_T62 t247 t252).f1⟩ : S62)), bt261.2.1, bt261.2.2)) else (none)) else (none))) = some (r1, r2, r3) := by first | (rw [hy258]; with_reducible exact H) | (have H2_ := (Option.bind_some _ _).symm.trans H; rw [hy258]; with_reducible exact H2_) | (have H2_ := (Option.bind_some _ _).symm.trans H; with_reducible exact H2_) | with_reducible exact H | (rw [hy258]; exact H) | exact H
   have Ny258 := Aside0.mk hy258
   clear hy258
   replace H := Option.bind_eq_some_iff.mp H
   obtain ⟨⟨t261, t262, t263⟩, A90, H⟩ := H
   replace H : (if 0 ≤ t252 then (if t252 < (t247.length : Int) then (some ((t247.set (t252 : Int).toNat (⟨t261, (rd_T62 t247 t252).f1⟩ : S62)), t262, t263)) else (none)) else (none)) = some (r1, r2, r3) := H
   have A9 := Aside0.mk A90
   clear A90
   by_cases c10 : 0 ≤ t252
   ·rw [if_pos c10] at H
    have c10b0 : decide (0 ≤ t252) = true := decide_eq_true c10
    clear c10
    by_cases c11 : t252 < (t247.length : Int)
    ·rw [if_pos c11] at H
     have c11b0 : decide (t252 < (t247.length : Int)) = true := decide_eq_true c11
     clear c11
     obtain ⟨y264, hy264⟩ : ∃ y_ : List (S62), y_ = (t247.set (t252 : Int).toNat (⟨t261, (rd_T62 t247 t252).f1⟩ : S62)) := ⟨_, rfl⟩
     replace H : (some (y264, t262, t263)) = some (r1, r2, r3) := by first | (rw [hy264]; with_reducible exact H) | (have H2_ := (Option.bind_some _ _).symm.trans H; rw [hy264]; with_reducible exact H2_) | (have H2_ := (Option.bind_some _ _).symm.trans H; with_reducible exact H2_) | with_reducible exact H | (rw [hy264]; exact H) | exact H
     have Ny264 := Aside0.mk hy264
     clear hy264
     simp only [Option.some.injEq, Prod.mk.injEq] at H
     obtain ⟨rfl, rfl, rfl⟩ := H
     go_enter Try.func111, Try.ntmps111
     go_wp2_with (first | ((with_reducible refine gate_callee (f := 165) rfl ?_); refine goesL_ (some 6) rfl rfl Try.func165 (by kernel_rfl) rfl #[.pointer (some ⟨g, 0, none⟩)] rfl (by (try simp only [mA, mC, mN]); first | done | rfl | (simp only [lD, lT]; rfl)) ?_; (with_reducible refine (spec_l11Draw.calls k g s0_0 s0_1 s0_2 t247 t250 t251 w0 _ ?side1 ?side2 A2.out).mono ?_); (case side1 => repeat (first | (with_reducible first | exact HI0.out | apply IsS189.alloc | apply IsS189.drewN | apply IsS189.drew | apply IsS189.set_1 | apply IsS189.set_2) | exact HI0.out)); (case side2 => repeat (first | (with_reducible first | exact HB.out | apply bA | apply bN | apply bD | refine bS ?_ (IsS189.ge HI0.out)) | exact HB.out)); rintro e w13 ⟨v248, rfl, ho0, hi, hb, hk⟩; refine ⟨_, rfl, ?_⟩; have n0_ := Aside0.mk (Kd.R_lower ho0 (keep_size (w := w) (g := g) (row := none) (by repeat (first | (with_reducible first | exact HK.out | apply KeepBut.set_ | apply keep_drewN | apply keep_drew | apply keep_alloc) | exact HK.out)))); have n1_ := Aside0.mk (KeepBut.trans (by repeat (first | (with_reducible first | exact HK.out | apply KeepBut.set_ | apply keep_drewN | apply keep_drew | apply keep_alloc) | exact HK.out)) hk (.inl rfl)); have n2_ := Aside0.mk (hb); have n3_ := Aside0.mk (hi); clear HK; clear HB; clear HI0; have HO249 := n0_; have HK := n1_; have HB := n2_; have HI0 := n3_; clear n0_ n1_ n2_ n3_; (try clear hb); (try clear hb2); (try clear hk); (try clear hi); (try clear ho0); obtain ⟨Ao14, co14, eo14⟩ := Kd.R_slice HO249.out; subst eo14) | ((with_reducible refine gate_callee (f := 112) rfl ?_); refine goesL_ (some 14) rfl rfl Try.func112 (by kernel_rfl) rfl #[.pointer (some ⟨g, 0, none⟩), .int .i64 (t247.length : Int)] rfl (by (try simp only [mA, mC, mN]); first | done | rfl | (simp only [lD, lT]; rfl)) ?_; (with_reducible refine (spec_l1Below.calls g s0_0 t250 t251 (t247.length : Int) t252 t253 t254 w0 _ ?side1 ?side2 A6.out).mono ?_); (case side1 => repeat (first | (with_reducible first | exact HI0.out | apply IsS189.alloc | apply IsS189.drewN | apply IsS189.drew | apply IsS189.set_1 | apply IsS189.set_2) | exact HI0.out)); (case side2 => repeat (first | (with_reducible first | exact HB.out | apply bA | apply bN | apply bD | refine bS ?_ (IsS189.ge HI0.out)) | exact HB.out)); rintro e w15 ⟨rfl, hi, hb, hk⟩; refine ⟨_, rfl, ?_⟩; have n0_ := Aside0.mk (Kd.R_mono (Kd.R_keep (IsS189.apart (show IsS189 w0 _ g s0_0 t250 t251 from by repeat (first | (with_reducible first | exact HI0.out | apply IsS189.alloc | apply IsS189.drewN | apply IsS189.drew | apply IsS189.set_1 | apply IsS189.set_2) | exact HI0.out)) (qR HO249) (by decide)) hk (fun _ h => h.2)) (fun _ h => h.1)); have n1_ := Aside0.mk (KeepBut.trans (by repeat (first | (with_reducible first | exact HK.out | apply KeepBut.set_ | apply keep_drewN | apply keep_drew | apply keep_alloc) | exact HK.out)) hk (.inl rfl)); have n2_ := Aside0.mk (hb); have n3_ := Aside0.mk (hi); clear HO249; clear HK; clear HB; clear HI0; have HO249 := n0_; have HK := n1_; have HB := n2_; have HI0 := n3_; clear n0_ n1_ n2_ n3_; (try clear hb); (try clear hb2); (try clear hk); (try clear hi)) | ((with_reducible refine gate_callee (f := 112) rfl ?_); refine goesL_ (some 16) rfl rfl Try.func112 (by kernel_rfl) rfl #[.pointer (some ⟨g, 0, none⟩), .int .i64 9] rfl (by (try simp only [mA, mC, mN]); first | done | rfl | (simp only [lD, lT]; rfl)) ?_; (with_reducible refine (spec_l1Below.calls g s0_0 t253 t254 9 t255 t256 t257 w0 _ ?side1 ?side2 A7.out).mono ?_); (case side1 => repeat (first | (with_reducible first | exact HI0.out | apply IsS189.alloc | apply IsS189.drewN | apply IsS189.drew | apply IsS189.set_1 | apply IsS189.set_2) | exact HI0.out)); (case side2 => repeat (first | (with_reducible first | exact HB.out | apply bA | apply bN | apply bD | refine bS ?_ (IsS189.ge HI0.out)) | exact HB.out)); rintro e w16 ⟨rfl, hi, hb, hk⟩; refine ⟨_, rfl, ?_⟩; have n0_ := Aside0.mk (Kd.R_mono (Kd.R_keep (IsS189.apart (show IsS189 w0 _ g s0_0 t253 t254 from by repeat (first | (with_reducible first | exact HI0.out | apply IsS189.alloc | apply IsS189.drewN | apply IsS189.drew | apply IsS189.set_1 | apply IsS189.set_2) | exact HI0.out)) (qR HO249) (by decide)) hk (fun _ h => h.2)) (fun _ h => h.1)); have n1_ := Aside0.mk (KeepBut.trans (by repeat (first | (with_reducible first | exact HK.out | apply KeepBut.set_ | apply keep_drewN | apply keep_drew | apply keep_alloc) | exact HK.out)) hk (.inl rfl)); have n2_ := Aside0.mk (hb); have n3_ := Aside0.mk (hi); clear HO249; clear HK; clear HB; clear HI0; have HO249 := n0_; have HK := n1_; have HB := n2_; have HI0 := n3_; clear n0_ n1_ n2_ n3_; (try clear hb); (try clear hb2); (try clear hk); (try clear hi)) | ((with_reducible refine gate_dst (N := 22) rfl ?_); refine Kd.R_lit (Kd.int .i64) _ 3 ?hg (N := 22) ?hd (xs := ([0, 20, 21] : List Int)) (inner := [.int .i64 0, .int .i64 20, .int .i64 21]) (ok := fun _ => True) (okp := fun _ => True) ?hr ?hp (fun _ hk => hk) trivial (Below.refl _ _) (Nat.le_refl _) (by simp) ?_; (case hd => rfl); (case hg => rfl); (case hr => first | (go_simp; done) | (go_simp; rfl)); (case hp => exact (Reps.one (show Kd.M (Kd.int .i64) _ _ _ 0 [.int .i64 0] from rfl) (Reps.one (show Kd.M (Kd.int .i64) _ _ _ 20 [.int .i64 20] from rfl) (Reps.one (show Kd.M (Kd.int .i64) _ _ _ 21 [.int .i64 21] from rfl) (Reps.none _ _))))); intro v259 w17 ho18 hb hg_ hnew_; clear hg_ hnew_; (first | rw [← Ny258.out] at ho18 | (simp only [Int.reduceToNat] at ho18; rw [← Ny258.out] at ho18)); have n0_ := Aside0.mk (Kd.R_below (qR HO249) hb); have n1_ := Aside0.mk (Kd.R_lower ho18 (keep_size (w := w) (g := g) (row := none) (by repeat (first | (with_reducible first | exact HK.out | apply KeepBut.set_ | apply keep_drewN | apply keep_drew | apply keep_alloc) | exact HK.out)))); have n2_ := Aside0.mk (IsS189.below (by repeat (first | (with_reducible first | exact HI0.out | apply IsS189.alloc | apply IsS189.drewN | apply IsS189.drew | apply IsS189.set_1 | apply IsS189.set_2) | exact HI0.out)) hb); have n3_ := Aside0.mk (KeepBut.trans (by repeat (first | (with_reducible first | exact HK.out | apply KeepBut.set_ | apply keep_drewN | apply keep_drew | apply keep_alloc) | exact HK.out)) (KeepBut.of_below hb g none) (.inl rfl)); have n4_ := Aside0.mk (below_step (by repeat (first | (with_reducible first | exact HB.out | apply bA | apply bN | apply bD | refine bS ?_ (IsS189.ge HI0.out)) | exact HB.out)) hb); clear HO249; clear HI0; clear HK; clear HB; have HO249 := n0_; have HO260 := n1_; have HI0 := n2_; have HK := n3_; have HB := n4_; clear n0_ n1_ n2_ n3_ n4_; clear hb ho18; obtain ⟨Ao19, co19, eo19⟩ := Kd.R_slice HO260.out; subst eo19) | ((with_reducible refine gate_callee (f := 115) rfl ?_); refine goesL_ (some 23) rfl rfl Try.func115 (by kernel_rfl) rfl #[.pointer (some ⟨g, 0, none⟩), .slice Ao19 y258.length co19] rfl (by (try simp only [mA, mC, mN]); first | done | rfl | (simp only [lD, lT]; rfl)) ?_; (with_reducible refine (spec_l1Int.calls g s0_0 t256 t257 _ _ y258 t261 t262 t263 w0 _ ?side1 ?side2 ?side3 ?side4 ?side5 A9.out).mono ?_); (case side1 => repeat (first | (with_reducible first | exact HI0.out | apply IsS189.alloc | apply IsS189.drewN | apply IsS189.drew | apply IsS189.set_1 | apply IsS189.set_2) | exact HI0.out)); (case side2 => repeat (first | (with_reducible first | exact HB.out | apply bA | apply bN | apply bD | refine bS ?_ (IsS189.ge HI0.out)) | exact HB.out)); (case side3 => repeat (first | exact (Kd.R_reads' HO260.out).2.2 | (with_reducible refine Kd.C_alloc ?_ _) | (with_reducible refine Kd.C_drewN ?_ _) | (with_reducible refine Kd.C_drew ?_))); (case side4 => exact (Kd.R_reads' HO260.out).2.1); (case side5 => exact far_slice (IsS189.own_ne HI0.out HO260.out (by decide))); rintro e w20 ⟨rfl, hi, hb, hk⟩; refine ⟨_, rfl, ?_⟩; have n0_ := Aside0.mk (Kd.R_mono (Kd.R_keep (IsS189.apart (show IsS189 w0 _ g s0_0 t256 t257 from by repeat (first | (with_reducible first | exact HI0.out | apply IsS189.alloc | apply IsS189.drewN | apply IsS189.drew | apply IsS189.set_1 | apply IsS189.set_2) | exact HI0.out)) (qR HO249) (by decide)) hk (fun _ h => h.2)) (fun _ h => h.1)); have n1_ := Aside0.mk (Kd.R_mono (Kd.R_keep (IsS189.apart (show IsS189 w0 _ g s0_0 t256 t257 from by repeat (first | (with_reducible first | exact HI0.out | apply IsS189.alloc | apply IsS189.drewN | apply IsS189.drew | apply IsS189.set_1 | apply IsS189.set_2) | exact HI0.out)) (qR HO260) (by decide)) hk (fun _ h => h.2)) (fun _ h => h.1)); have n2_ := Aside0.mk (KeepBut.trans (by repeat (first | (with_reducible first | exact HK.out | apply KeepBut.set_ | apply keep_drewN | apply keep_drew | apply keep_alloc) | exact HK.out)) hk (.inl rfl)); have n3_ := Aside0.mk (hb); have n4_ := Aside0.mk (hi); clear HO249; clear HO260; clear HK; clear HB; clear HI0; have HO249 := n0_; have HO260 := n1_; have HK := n2_; have HB := n3_; have HI0 := n4_; clear n0_ n1_ n2_ n3_ n4_; (try clear hb); (try clear hb2); (try clear hk); (try clear hi); have p12 : 0 ≤ (t252 : Int) := of_decide_eq_true ‹_›; have q12 : (t252 : Int) < ((t247.length : Int) : Int) := of_decide_eq_true ‹_›; obtain ⟨go12, co12, eo12, gb12, gl12, cl12, HG12⟩ := Kd.R_form HO249.out (by omega); (first | cases eo12 | (injection eo12 with ea_ en_ ec_; (first | subst ea_ | (injection ea_ with ea_; subst ea_)); subst ec_; clear en_)); have GB12 := Aside0.mk gb12; have GG12 := Aside0.mk HG12; clear gb12 gl12 HG12; obtain ⟨ce12, hcl12, hM12, hcc12, hfr12⟩ := Kd.R_elem HO249.out z62 (t252 : Int) p12 q12; obtain rfl := k62_openM hM12; have hx12_0 : w20.cell? ⟨go12, (t252 : Int).toNat * 2, none⟩ = some (.int .i64 ((rd_T62 t247 t252).f0)) := hcc12 0 _ rfl; have hx12_1 : w20.cell? ⟨go12, (t252 : Int).toNat * 2 + 1, none⟩ = some (.int .i64 ((rd_T62 t247 t252).f1)) := hcc12 1 _ rfl; have hf12_0 : w20.frozen? ⟨go12, (t252 : Int).toNat * 2, none⟩ = false := hfr12 0; have hf12_1 : w20.frozen? ⟨go12, (t252 : Int).toNat * 2 + 1, none⟩ = false := hfr12 1; clear hcl12 hcc12 hfr12 hM12; replace p12 := eq_true p12; replace q12 := eq_true q12; have HX21 := Aside0.mk (show Kd.R k62 62 w20 w.heap.size (fun _ => True) (.slice (some ⟨go12, 0, none⟩) t247.length co14) t247 from (qR HO249)); obtain ⟨ce21, hcl21, hM21, hcc21, hfr21⟩ := Kd.R_elem HX21.out z62 (t252 : Int) (of_decide_eq_true ‹_›) (by have h_ : (t252 : Int) < ((t247.length : Int) : Int) := of_decide_eq_true ‹_›; first | exact h_ | (have e_ := (Kd.R_reads' HO249.out).1; omega) | simpa using h_); obtain rfl := k62_openM hM21; have HP21 := Kd.R_seg HX21.out (t252 : Int) (of_decide_eq_true ‹_›) (by have h_ : (t252 : Int) < ((t247.length : Int) : Int) := of_decide_eq_true ‹_›; first | exact h_ | (have e_ := (Kd.R_reads' HO249.out).1; omega) | simpa using h_) (seg := [.int .i64 t261]) (j := 0) hcl21 hcc21 (show 1 ≤ 2 from by decide) (x' := (⟨t261, (rd_T62 t247 t252).f1⟩ : S62)) (k62_mkM _ _ _ (⟨t261, (rd_T62 t247 t252).f1⟩ : S62) ) (fun _ hk => hk); have hx21_0 := hcc21 0 _ rfl; (try simp only [show (k62).sz = 2 from rfl, Nat.mul_one, Nat.add_zero] at hx21_0); have hf21_0 := hfr21 0; (try simp only [show (k62).sz = 2 from rfl, Nat.mul_one, Nat.add_zero] at hf21_0); clear hcl21 hcc21 hfr21 hM21) | ((with_reducible refine gate_store (t := 3) (p := 25) rfl ?_); refine store_event (t := 3) (p := 25) (v := ?vo_w22) (w1 := (w20.setCell ⟨go12, (t252 : Int).toNat * 2, none⟩ (.int .i64 t261))) ?hg ?ho ?hn ?hr ?_; (case ho => rfl); (case hg => rfl); (case hn => rfl); (case hr => first | (go_simp; done) | (go_simp; rfl)); intro w22 hw; have hg : w20.grownBy w22 (some go12) := (by rw [hw]; exact HP21.2); have hp_ : Kd.R k62 62 w22 w.heap.size (fun _ => True) (.slice (some ⟨go12, 0, none⟩) t247.length co14) y264 := (by rw [hw, Ny264.out]; exact HP21.1); clear HP21; have n0_ := Aside0.mk (IsS189.grown (by repeat (first | (with_reducible first | exact HI0.out | apply IsS189.alloc | apply IsS189.drewN | apply IsS189.drew | apply IsS189.set_1 | apply IsS189.set_2) | exact HI0.out)) hg (IsS189.own_ne HI0.out HO249.out (by decide))); have n1_ := Aside0.mk (hp_); have n2_ := Aside0.mk (Kd.R_over' (v := (.slice (some ⟨go12, 0, none⟩) t247.length co14)) (qR HO260) (Kd.R_typed HO249.out) (by decide) hg); have n3_ := Aside0.mk ((by rw [hw]; exact below_set (HB.out) (Nat.le_trans HL.out GB12.out) : Below w0.heap.size w0 w22)); have n4_ := Aside0.mk (KeepBut.trans (by repeat (first | (with_reducible first | exact HK.out | apply KeepBut.set_ | apply keep_drewN | apply keep_drew | apply keep_alloc) | exact HK.out)) (KeepBut.of_grown hg g) (Kd.R_base2 HO249.out)); clear HI0; clear HO249; clear HO260; clear HB; clear HK; have HI0 := n0_; have HO249 := n1_; have HO260 := n2_; have HB := n3_; have HK := n4_; clear n0_ n1_ n2_ n3_ n4_; clear hg hw hp_))
     go_ret
     exact ⟨_, by first | rfl | (simp [errW_none, errW_some] <;> rfl) | (simp [*, errW_none, errW_some] <;> rfl), by (with_reducible repeat first | apply rA | apply rN | apply rD); exact HO249.out, by repeat (first | (with_reducible first | exact HI0.out | apply IsS189.alloc | apply IsS189.drewN | apply IsS189.drew | apply IsS189.set_1 | apply IsS189.set_2) | exact HI0.out), by repeat (first | (with_reducible first | exact HB.out | apply bA | apply bN | apply bD | refine bS ?_ (IsS189.ge HI0.out)) | exact HB.out), by repeat (first | (with_reducible first | exact HK.out | apply KeepBut.set_ | apply keep_drewN | apply keep_drew | apply keep_alloc) | exact HK.out)⟩
    ·rw [if_neg c11] at H
     exact absurd H (by simp)
   ·rw [if_neg c10] at H
    exact absurd H (by simp)
  ·rw [if_neg c8] at H
   have c8b0 : (t255 == 0) = false := beq_eq_false_iff_ne.mpr c8
   have c8b1 : (t255 != 0) = true := bne_iff_ne.mpr c8
   by_cases c23 : t255 = 1
   ·rw [if_pos c23] at H
    have c23b0 : (t255 == 1) = true := beq_iff_eq.mpr c23
    have c23b1 : (t255 != 1) = false := bne_eq_false_iff_eq.mpr c23
    clear c23
    obtain ⟨y265, hy265⟩ : ∃ y_ : List Int, y_ = (([(-1), 99, 100] : List Int)) := ⟨_, rfl⟩
    replace H : ((spec_l1Int.f s0_0 t256 t257 y265).bind fun bt268 => (if 0 ≤ t252 then (if t252 < (t247.length : Int) then (some ((t247.set (t252 : Int).toNat (⟨(rd_T62 t247 t252).f0, bt268.1⟩ : S62)), bt268.2.1, bt268.2.2)) else (none)) else (none))) = some (r1, r2, r3) := by first | (rw [hy265]; with_reducible exact H) | (have H2_ := (Option.bind_some _ _).symm.trans H; rw [hy265]; with_reducible exact H2_) | (have H2_ := (Option.bind_some _ _).symm.trans H; with_reducible exact H2_) | with_reducible exact H | (rw [hy265]; exact H) | exact H
    have Ny265 := Aside0.mk hy265
    clear hy265
    replace H := Option.bind_eq_some_iff.mp H
    obtain ⟨⟨t268, t269, t270⟩, A240, H⟩ := H
    replace H : (if 0 ≤ t252 then (if t252 < (t247.length : Int) then (some ((t247.set (t252 : Int).toNat (⟨(rd_T62 t247 t252).f0, t268⟩ : S62)), t269, t270)) else (none)) else (none)) = some (r1, r2, r3) := H
    have A24 := Aside0.mk A240
    clear A240
    by_cases c25 : 0 ≤ t252
    ·rw [if_pos c25] at H
     have c25b0 : decide (0 ≤ t252) = true := decide_eq_true c25
     clear c25
     by_cases c26 : t252 < (t247.length : Int)
     ·rw [if_pos c26] at H
      have c26b0 : decide (t252 < (t247.length : Int)) = true := decide_eq_true c26
      clear c26
      obtain ⟨y271, hy271⟩ : ∃ y_ : List (S62), y_ = (t247.set (t252 : Int).toNat (⟨(rd_T62 t247 t252).f0, t268⟩ : S62)) := ⟨_, rfl⟩
      replace H : (some (y271, t269, t270)) = some (r1, r2, r3) := by first | (rw [hy271]; with_reducible exact H) | (have H2_ := (Option.bind_some _ _).symm.trans H; rw [hy271]; with_reducible exact H2_) | (have H2_ := (Option.bind_some _ _).symm.trans H; with_reducible exact H2_) | with_reducible exact H | (rw [hy271]; exact H) | exact H
      have Ny271 := Aside0.mk hy271
      clear hy271
      simp only [Option.some.injEq, Prod.mk.injEq] at H
      obtain ⟨rfl, rfl, rfl⟩ := H
      go_enter Try.func111, Try.ntmps111
      go_wp2_with (first | ((with_reducible refine gate_callee (f := 165) rfl ?_); refine goesL_ (some 6) rfl rfl Try.func165 (by kernel_rfl) rfl #[.pointer (some ⟨g, 0, none⟩)] rfl (by (try simp only [mA, mC, mN]); first | done | rfl | (simp only [lD, lT]; rfl)) ?_; (with_reducible refine (spec_l11Draw.calls k g s0_0 s0_1 s0_2 t247 t250 t251 w0 _ ?side1 ?side2 A2.out).mono ?_); (case side1 => repeat (first | (with_reducible first | exact HI0.out | apply IsS189.alloc | apply IsS189.drewN | apply IsS189.drew | apply IsS189.set_1 | apply IsS189.set_2) | exact HI0.out)); (case side2 => repeat (first | (with_reducible first | exact HB.out | apply bA | apply bN | apply bD | refine bS ?_ (IsS189.ge HI0.out)) | exact HB.out)); rintro e w28 ⟨v248, rfl, ho0, hi, hb, hk⟩; refine ⟨_, rfl, ?_⟩; have n0_ := Aside0.mk (Kd.R_lower ho0 (keep_size (w := w) (g := g) (row := none) (by repeat (first | (with_reducible first | exact HK.out | apply KeepBut.set_ | apply keep_drewN | apply keep_drew | apply keep_alloc) | exact HK.out)))); have n1_ := Aside0.mk (KeepBut.trans (by repeat (first | (with_reducible first | exact HK.out | apply KeepBut.set_ | apply keep_drewN | apply keep_drew | apply keep_alloc) | exact HK.out)) hk (.inl rfl)); have n2_ := Aside0.mk (hb); have n3_ := Aside0.mk (hi); clear HK; clear HB; clear HI0; have HO249 := n0_; have HK := n1_; have HB := n2_; have HI0 := n3_; clear n0_ n1_ n2_ n3_; (try clear hb); (try clear hb2); (try clear hk); (try clear hi); (try clear ho0); obtain ⟨Ao29, co29, eo29⟩ := Kd.R_slice HO249.out; subst eo29) | ((with_reducible refine gate_callee (f := 112) rfl ?_); refine goesL_ (some 14) rfl rfl Try.func112 (by kernel_rfl) rfl #[.pointer (some ⟨g, 0, none⟩), .int .i64 (t247.length : Int)] rfl (by (try simp only [mA, mC, mN]); first | done | rfl | (simp only [lD, lT]; rfl)) ?_; (with_reducible refine (spec_l1Below.calls g s0_0 t250 t251 (t247.length : Int) t252 t253 t254 w0 _ ?side1 ?side2 A6.out).mono ?_); (case side1 => repeat (first | (with_reducible first | exact HI0.out | apply IsS189.alloc | apply IsS189.drewN | apply IsS189.drew | apply IsS189.set_1 | apply IsS189.set_2) | exact HI0.out)); (case side2 => repeat (first | (with_reducible first | exact HB.out | apply bA | apply bN | apply bD | refine bS ?_ (IsS189.ge HI0.out)) | exact HB.out)); rintro e w30 ⟨rfl, hi, hb, hk⟩; refine ⟨_, rfl, ?_⟩; have n0_ := Aside0.mk (Kd.R_mono (Kd.R_keep (IsS189.apart (show IsS189 w0 _ g s0_0 t250 t251 from by repeat (first | (with_reducible first | exact HI0.out | apply IsS189.alloc | apply IsS189.drewN | apply IsS189.drew | apply IsS189.set_1 | apply IsS189.set_2) | exact HI0.out)) (qR HO249) (by decide)) hk (fun _ h => h.2)) (fun _ h => h.1)); have n1_ := Aside0.mk (KeepBut.trans (by repeat (first | (with_reducible first | exact HK.out | apply KeepBut.set_ | apply keep_drewN | apply keep_drew | apply keep_alloc) | exact HK.out)) hk (.inl rfl)); have n2_ := Aside0.mk (hb); have n3_ := Aside0.mk (hi); clear HO249; clear HK; clear HB; clear HI0; have HO249 := n0_; have HK := n1_; have HB := n2_; have HI0 := n3_; clear n0_ n1_ n2_ n3_; (try clear hb); (try clear hb2); (try clear hk); (try clear hi)) | ((with_reducible refine gate_callee (f := 112) rfl ?_); refine goesL_ (some 16) rfl rfl Try.func112 (by kernel_rfl) rfl #[.pointer (some ⟨g, 0, none⟩), .int .i64 9] rfl (by (try simp only [mA, mC, mN]); first | done | rfl | (simp only [lD, lT]; rfl)) ?_; (with_reducible refine (spec_l1Below.calls g s0_0 t253 t254 9 t255 t256 t257 w0 _ ?side1 ?side2 A7.out).mono ?_); (case side1 => repeat (first | (with_reducible first | exact HI0.out | apply IsS189.alloc | apply IsS189.drewN | apply IsS189.drew | apply IsS189.set_1 | apply IsS189.set_2) | exact HI0.out)); (case side2 => repeat (first | (with_reducible first | exact HB.out | apply bA | apply bN | apply bD | refine bS ?_ (IsS189.ge HI0.out)) | exact HB.out)); rintro e w31 ⟨rfl, hi, hb, hk⟩; refine ⟨_, rfl, ?_⟩; have n0_ := Aside0.mk (Kd.R_mono (Kd.R_keep (IsS189.apart (show IsS189 w0 _ g s0_0 t253 t254 from by repeat (first | (with_reducible first | exact HI0.out | apply IsS189.alloc | apply IsS189.drewN | apply IsS189.drew | apply IsS189.set_1 | apply IsS189.set_2) | exact HI0.out)) (qR HO249) (by decide)) hk (fun _ h => h.2)) (fun _ h => h.1)); have n1_ := Aside0.mk (KeepBut.trans (by repeat (first | (with_reducible first | exact HK.out | apply KeepBut.set_ | apply keep_drewN | apply keep_drew | apply keep_alloc) | exact HK.out)) hk (.inl rfl)); have n2_ := Aside0.mk (hb); have n3_ := Aside0.mk (hi); clear HO249; clear HK; clear HB; clear HI0; have HO249 := n0_; have HK := n1_; have HB := n2_; have HI0 := n3_; clear n0_ n1_ n2_ n3_; (try clear hb); (try clear hb2); (try clear hk); (try clear hi)) | ((with_reducible refine gate_dst (N := 31) rfl ?_); refine Kd.R_lit (Kd.int .i64) _ 3 ?hg (N := 31) ?hd (xs := ([(-1), 99, 100] : List Int)) (inner := [.int .i64 (-1), .int .i64 99, .int .i64 100]) (ok := fun _ => True) (okp := fun _ => True) ?hr ?hp (fun _ hk => hk) trivial (Below.refl _ _) (Nat.le_refl _) (by simp) ?_; (case hd => rfl); (case hg => rfl); (case hr => first | (go_simp; done) | (go_simp; rfl)); (case hp => exact (Reps.one (show Kd.M (Kd.int .i64) _ _ _ (-1) [.int .i64 (-1)] from rfl) (Reps.one (show Kd.M (Kd.int .i64) _ _ _ 99 [.int .i64 99] from rfl) (Reps.one (show Kd.M (Kd.int .i64) _ _ _ 100 [.int .i64 100] from rfl) (Reps.none _ _))))); intro v266 w32 ho33 hb hg_ hnew_; clear hg_ hnew_; (first | rw [← Ny265.out] at ho33 | (simp only [Int.reduceToNat] at ho33; rw [← Ny265.out] at ho33)); have n0_ := Aside0.mk (Kd.R_below (qR HO249) hb); have n1_ := Aside0.mk (Kd.R_lower ho33 (keep_size (w := w) (g := g) (row := none) (by repeat (first | (with_reducible first | exact HK.out | apply KeepBut.set_ | apply keep_drewN | apply keep_drew | apply keep_alloc) | exact HK.out)))); have n2_ := Aside0.mk (IsS189.below (by repeat (first | (with_reducible first | exact HI0.out | apply IsS189.alloc | apply IsS189.drewN | apply IsS189.drew | apply IsS189.set_1 | apply IsS189.set_2) | exact HI0.out)) hb); have n3_ := Aside0.mk (KeepBut.trans (by repeat (first | (with_reducible first | exact HK.out | apply KeepBut.set_ | apply keep_drewN | apply keep_drew | apply keep_alloc) | exact HK.out)) (KeepBut.of_below hb g none) (.inl rfl)); have n4_ := Aside0.mk (below_step (by repeat (first | (with_reducible first | exact HB.out | apply bA | apply bN | apply bD | refine bS ?_ (IsS189.ge HI0.out)) | exact HB.out)) hb); clear HO249; clear HI0; clear HK; clear HB; have HO249 := n0_; have HO267 := n1_; have HI0 := n2_; have HK := n3_; have HB := n4_; clear n0_ n1_ n2_ n3_ n4_; clear hb ho33; obtain ⟨Ao34, co34, eo34⟩ := Kd.R_slice HO267.out; subst eo34) | ((with_reducible refine gate_callee (f := 115) rfl ?_); refine goesL_ (some 32) rfl rfl Try.func115 (by kernel_rfl) rfl #[.pointer (some ⟨g, 0, none⟩), .slice Ao34 y265.length co34] rfl (by (try simp only [mA, mC, mN]); first | done | rfl | (simp only [lD, lT]; rfl)) ?_; (with_reducible refine (spec_l1Int.calls g s0_0 t256 t257 _ _ y265 t268 t269 t270 w0 _ ?side1 ?side2 ?side3 ?side4 ?side5 A24.out).mono ?_); (case side1 => repeat (first | (with_reducible first | exact HI0.out | apply IsS189.alloc | apply IsS189.drewN | apply IsS189.drew | apply IsS189.set_1 | apply IsS189.set_2) | exact HI0.out)); (case side2 => repeat (first | (with_reducible first | exact HB.out | apply bA | apply bN | apply bD | refine bS ?_ (IsS189.ge HI0.out)) | exact HB.out)); (case side3 => repeat (first | exact (Kd.R_reads' HO267.out).2.2 | (with_reducible refine Kd.C_alloc ?_ _) | (with_reducible refine Kd.C_drewN ?_ _) | (with_reducible refine Kd.C_drew ?_))); (case side4 => exact (Kd.R_reads' HO267.out).2.1); (case side5 => exact far_slice (IsS189.own_ne HI0.out HO267.out (by decide))); rintro e w35 ⟨rfl, hi, hb, hk⟩; refine ⟨_, rfl, ?_⟩; have n0_ := Aside0.mk (Kd.R_mono (Kd.R_keep (IsS189.apart (show IsS189 w0 _ g s0_0 t256 t257 from by repeat (first | (with_reducible first | exact HI0.out | apply IsS189.alloc | apply IsS189.drewN | apply IsS189.drew | apply IsS189.set_1 | apply IsS189.set_2) | exact HI0.out)) (qR HO249) (by decide)) hk (fun _ h => h.2)) (fun _ h => h.1)); have n1_ := Aside0.mk (Kd.R_mono (Kd.R_keep (IsS189.apart (show IsS189 w0 _ g s0_0 t256 t257 from by repeat (first | (with_reducible first | exact HI0.out | apply IsS189.alloc | apply IsS189.drewN | apply IsS189.drew | apply IsS189.set_1 | apply IsS189.set_2) | exact HI0.out)) (qR HO267) (by decide)) hk (fun _ h => h.2)) (fun _ h => h.1)); have n2_ := Aside0.mk (KeepBut.trans (by repeat (first | (with_reducible first | exact HK.out | apply KeepBut.set_ | apply keep_drewN | apply keep_drew | apply keep_alloc) | exact HK.out)) hk (.inl rfl)); have n3_ := Aside0.mk (hb); have n4_ := Aside0.mk (hi); clear HO249; clear HO267; clear HK; clear HB; clear HI0; have HO249 := n0_; have HO267 := n1_; have HK := n2_; have HB := n3_; have HI0 := n4_; clear n0_ n1_ n2_ n3_ n4_; (try clear hb); (try clear hb2); (try clear hk); (try clear hi); have p27 : 0 ≤ (t252 : Int) := of_decide_eq_true ‹_›; have q27 : (t252 : Int) < ((t247.length : Int) : Int) := of_decide_eq_true ‹_›; obtain ⟨go27, co27, eo27, gb27, gl27, cl27, HG27⟩ := Kd.R_form HO249.out (by omega); (first | cases eo27 | (injection eo27 with ea_ en_ ec_; (first | subst ea_ | (injection ea_ with ea_; subst ea_)); subst ec_; clear en_)); have GB27 := Aside0.mk gb27; have GG27 := Aside0.mk HG27; clear gb27 gl27 HG27; obtain ⟨ce27, hcl27, hM27, hcc27, hfr27⟩ := Kd.R_elem HO249.out z62 (t252 : Int) p27 q27; obtain rfl := k62_openM hM27; have hx27_0 : w35.cell? ⟨go27, (t252 : Int).toNat * 2, none⟩ = some (.int .i64 ((rd_T62 t247 t252).f0)) := hcc27 0 _ rfl; have hx27_1 : w35.cell? ⟨go27, (t252 : Int).toNat * 2 + 1, none⟩ = some (.int .i64 ((rd_T62 t247 t252).f1)) := hcc27 1 _ rfl; have hf27_0 : w35.frozen? ⟨go27, (t252 : Int).toNat * 2, none⟩ = false := hfr27 0; have hf27_1 : w35.frozen? ⟨go27, (t252 : Int).toNat * 2 + 1, none⟩ = false := hfr27 1; clear hcl27 hcc27 hfr27 hM27; replace p27 := eq_true p27; replace q27 := eq_true q27; have HX36 := Aside0.mk (show Kd.R k62 62 w35 w.heap.size (fun _ => True) (.slice (some ⟨go27, 0, none⟩) t247.length co29) t247 from (qR HO249)); obtain ⟨ce36, hcl36, hM36, hcc36, hfr36⟩ := Kd.R_elem HX36.out z62 (t252 : Int) (of_decide_eq_true ‹_›) (by have h_ : (t252 : Int) < ((t247.length : Int) : Int) := of_decide_eq_true ‹_›; first | exact h_ | (have e_ := (Kd.R_reads' HO249.out).1; omega) | simpa using h_); obtain rfl := k62_openM hM36; have HP36 := Kd.R_seg HX36.out (t252 : Int) (of_decide_eq_true ‹_›) (by have h_ : (t252 : Int) < ((t247.length : Int) : Int) := of_decide_eq_true ‹_›; first | exact h_ | (have e_ := (Kd.R_reads' HO249.out).1; omega) | simpa using h_) (seg := [.int .i64 t268]) (j := 1) hcl36 hcc36 (show 2 ≤ 2 from by decide) (x' := (⟨(rd_T62 t247 t252).f0, t268⟩ : S62)) (k62_mkM _ _ _ (⟨(rd_T62 t247 t252).f0, t268⟩ : S62) ) (fun _ hk => hk); have hx36_1 := hcc36 1 _ rfl; (try simp only [show (k62).sz = 2 from rfl, Nat.mul_one, Nat.add_zero] at hx36_1); have hf36_1 := hfr36 1; (try simp only [show (k62).sz = 2 from rfl, Nat.mul_one, Nat.add_zero] at hf36_1); clear hcl36 hcc36 hfr36 hM36) | ((with_reducible refine gate_store (t := 3) (p := 34) rfl ?_); refine store_event (t := 3) (p := 34) (v := ?vo_w37) (w1 := (w35.setCell ⟨go27, (t252 : Int).toNat * 2 + 1, none⟩ (.int .i64 t268))) ?hg ?ho ?hn ?hr ?_; (case ho => rfl); (case hg => rfl); (case hn => rfl); (case hr => first | (go_simp; done) | (go_simp; rfl)); intro w37 hw; have hg : w35.grownBy w37 (some go27) := (by rw [hw]; exact HP36.2); have hp_ : Kd.R k62 62 w37 w.heap.size (fun _ => True) (.slice (some ⟨go27, 0, none⟩) t247.length co29) y271 := (by rw [hw, Ny271.out]; exact HP36.1); clear HP36; have n0_ := Aside0.mk (IsS189.grown (by repeat (first | (with_reducible first | exact HI0.out | apply IsS189.alloc | apply IsS189.drewN | apply IsS189.drew | apply IsS189.set_1 | apply IsS189.set_2) | exact HI0.out)) hg (IsS189.own_ne HI0.out HO249.out (by decide))); have n1_ := Aside0.mk (hp_); have n2_ := Aside0.mk (Kd.R_over' (v := (.slice (some ⟨go27, 0, none⟩) t247.length co29)) (qR HO267) (Kd.R_typed HO249.out) (by decide) hg); have n3_ := Aside0.mk ((by rw [hw]; exact below_set (HB.out) (Nat.le_trans HL.out GB27.out) : Below w0.heap.size w0 w37)); have n4_ := Aside0.mk (KeepBut.trans (by repeat (first | (with_reducible first | exact HK.out | apply KeepBut.set_ | apply keep_drewN | apply keep_drew | apply keep_alloc) | exact HK.out)) (KeepBut.of_grown hg g) (Kd.R_base2 HO249.out)); clear HI0; clear HO249; clear HO267; clear HB; clear HK; have HI0 := n0_; have HO249 := n1_; have HO267 := n2_; have HB := n3_; have HK := n4_; clear n0_ n1_ n2_ n3_ n4_; clear hg hw hp_))
      go_ret
      exact ⟨_, by first | rfl | (simp [errW_none, errW_some] <;> rfl) | (simp [*, errW_none, errW_some] <;> rfl), by (with_reducible repeat first | apply rA | apply rN | apply rD); exact HO249.out, by repeat (first | (with_reducible first | exact HI0.out | apply IsS189.alloc | apply IsS189.drewN | apply IsS189.drew | apply IsS189.set_1 | apply IsS189.set_2) | exact HI0.out), by repeat (first | (with_reducible first | exact HB.out | apply bA | apply bN | apply bD | refine bS ?_ (IsS189.ge HI0.out)) | exact HB.out), by repeat (first | (with_reducible first | exact HK.out | apply KeepBut.set_ | apply keep_drewN | apply keep_drew | apply keep_alloc) | exact HK.out)⟩
     ·rw [if_neg c26] at H
      exact absurd H (by simp)
    ·rw [if_neg c25] at H
     exact absurd H (by simp)
   ·rw [if_neg c23] at H
    have c23b0 : (t255 == 1) = false := beq_eq_false_iff_ne.mpr c23
    have c23b1 : (t255 != 1) = true := bne_iff_ne.mpr c23
    simp only [Option.some.injEq, Prod.mk.injEq] at H
    obtain ⟨rfl, rfl, rfl⟩ := H
    go_enter Try.func111, Try.ntmps111
    go_wp2_with (first | ((with_reducible refine gate_callee (f := 165) rfl ?_); refine goesL_ (some 6) rfl rfl Try.func165 (by kernel_rfl) rfl #[.pointer (some ⟨g, 0, none⟩)] rfl (by (try simp only [mA, mC, mN]); first | done | rfl | (simp only [lD, lT]; rfl)) ?_; (with_reducible refine (spec_l11Draw.calls k g s0_0 s0_1 s0_2 t247 t250 t251 w0 _ ?side1 ?side2 A2.out).mono ?_); (case side1 => repeat (first | (with_reducible first | exact HI0.out | apply IsS189.alloc | apply IsS189.drewN | apply IsS189.drew | apply IsS189.set_1 | apply IsS189.set_2) | exact HI0.out)); (case side2 => repeat (first | (with_reducible first | exact HB.out | apply bA | apply bN | apply bD | refine bS ?_ (IsS189.ge HI0.out)) | exact HB.out)); rintro e w38 ⟨v248, rfl, ho0, hi, hb, hk⟩; refine ⟨_, rfl, ?_⟩; have n0_ := Aside0.mk (Kd.R_lower ho0 (keep_size (w := w) (g := g) (row := none) (by repeat (first | (with_reducible first | exact HK.out | apply KeepBut.set_ | apply keep_drewN | apply keep_drew | apply keep_alloc) | exact HK.out)))); have n1_ := Aside0.mk (KeepBut.trans (by repeat (first | (with_reducible first | exact HK.out | apply KeepBut.set_ | apply keep_drewN | apply keep_drew | apply keep_alloc) | exact HK.out)) hk (.inl rfl)); have n2_ := Aside0.mk (hb); have n3_ := Aside0.mk (hi); clear HK; clear HB; clear HI0; have HO249 := n0_; have HK := n1_; have HB := n2_; have HI0 := n3_; clear n0_ n1_ n2_ n3_; (try clear hb); (try clear hb2); (try clear hk); (try clear hi); (try clear ho0); obtain ⟨Ao39, co39, eo39⟩ := Kd.R_slice HO249.out; subst eo39) | ((with_reducible refine gate_callee (f := 112) rfl ?_); refine goesL_ (some 14) rfl rfl Try.func112 (by kernel_rfl) rfl #[.pointer (some ⟨g, 0, none⟩), .int .i64 (t247.length : Int)] rfl (by (try simp only [mA, mC, mN]); first | done | rfl | (simp only [lD, lT]; rfl)) ?_; (with_reducible refine (spec_l1Below.calls g s0_0 t250 t251 (t247.length : Int) t252 t253 t254 w0 _ ?side1 ?side2 A6.out).mono ?_); (case side1 => repeat (first | (with_reducible first | exact HI0.out | apply IsS189.alloc | apply IsS189.drewN | apply IsS189.drew | apply IsS189.set_1 | apply IsS189.set_2) | exact HI0.out)); (case side2 => repeat (first | (with_reducible first | exact HB.out | apply bA | apply bN | apply bD | refine bS ?_ (IsS189.ge HI0.out)) | exact HB.out)); rintro e w40 ⟨rfl, hi, hb, hk⟩; refine ⟨_, rfl, ?_⟩; have n0_ := Aside0.mk (Kd.R_mono (Kd.R_keep (IsS189.apart (show IsS189 w0 _ g s0_0 t250 t251 from by repeat (first | (with_reducible first | exact HI0.out | apply IsS189.alloc | apply IsS189.drewN | apply IsS189.drew | apply IsS189.set_1 | apply IsS189.set_2) | exact HI0.out)) (qR HO249) (by decide)) hk (fun _ h => h.2)) (fun _ h => h.1)); have n1_ := Aside0.mk (KeepBut.trans (by repeat (first | (with_reducible first | exact HK.out | apply KeepBut.set_ | apply keep_drewN | apply keep_drew | apply keep_alloc) | exact HK.out)) hk (.inl rfl)); have n2_ := Aside0.mk (hb); have n3_ := Aside0.mk (hi); clear HO249; clear HK; clear HB; clear HI0; have HO249 := n0_; have HK := n1_; have HB := n2_; have HI0 := n3_; clear n0_ n1_ n2_ n3_; (try clear hb); (try clear hb2); (try clear hk); (try clear hi)) | ((with_reducible refine gate_callee (f := 112) rfl ?_); refine goesL_ (some 16) rfl rfl Try.func112 (by kernel_rfl) rfl #[.pointer (some ⟨g, 0, none⟩), .int .i64 9] rfl (by (try simp only [mA, mC, mN]); first | done | rfl | (simp only [lD, lT]; rfl)) ?_; (with_reducible refine (spec_l1Below.calls g s0_0 t253 t254 9 t255 t256 t257 w0 _ ?side1 ?side2 A7.out).mono ?_); (case side1 => repeat (first | (with_reducible first | exact HI0.out | apply IsS189.alloc | apply IsS189.drewN | apply IsS189.drew | apply IsS189.set_1 | apply IsS189.set_2) | exact HI0.out)); (case side2 => repeat (first | (with_reducible first | exact HB.out | apply bA | apply bN | apply bD | refine bS ?_ (IsS189.ge HI0.out)) | exact HB.out)); rintro e w41 ⟨rfl, hi, hb, hk⟩; refine ⟨_, rfl, ?_⟩; have n0_ := Aside0.mk (Kd.R_mono (Kd.R_keep (IsS189.apart (show IsS189 w0 _ g s0_0 t253 t254 from by repeat (first | (with_reducible first | exact HI0.out | apply IsS189.alloc | apply IsS189.drewN | apply IsS189.drew | apply IsS189.set_1 | apply IsS189.set_2) | exact HI0.out)) (qR HO249) (by decide)) hk (fun _ h => h.2)) (fun _ h => h.1)); have n1_ := Aside0.mk (KeepBut.trans (by repeat (first | (with_reducible first | exact HK.out | apply KeepBut.set_ | apply keep_drewN | apply keep_drew | apply keep_alloc) | exact HK.out)) hk (.inl rfl)); have n2_ := Aside0.mk (hb); have n3_ := Aside0.mk (hi); clear HO249; clear HK; clear HB; clear HI0; have HO249 := n0_; have HK := n1_; have HB := n2_; have HI0 := n3_; clear n0_ n1_ n2_ n3_; (try clear hb); (try clear hb2); (try clear hk); (try clear hi)))
    go_ret
    exact ⟨_, by first | rfl | (simp [errW_none, errW_some] <;> rfl) | (simp [*, errW_none, errW_some] <;> rfl), by (with_reducible repeat first | apply rA | apply rN | apply rD); exact HO249.out, by repeat (first | (with_reducible first | exact HI0.out | apply IsS189.alloc | apply IsS189.drewN | apply IsS189.drew | apply IsS189.set_1 | apply IsS189.set_2) | exact HI0.out), by repeat (first | (with_reducible first | exact HB.out | apply bA | apply bN | apply bD | refine bS ?_ (IsS189.ge HI0.out)) | exact HB.out), by repeat (first | (with_reducible first | exact HK.out | apply KeepBut.set_ | apply keep_drewN | apply keep_drew | apply keep_alloc) | exact HK.out)⟩

/-! ### spec_l4Raw: function 177 -/
def spec_l4Raw.f (s0_0 : List Int) (s0_1 : Int) (s0_2 : Int) : Option (Int × Int × Int) := (spec_l1Int.f s0_0 s0_1 s0_2 (([(-1), 0, 8, 50, 51, 1000, 9223372036854775807, (-9223372036854775808)] : List Int))).bind fun bt275 => (some (bt275.1, bt275.2.1, bt275.2.2))
set_option maxHeartbeats 8000000 in
set_option maxRecDepth 100000 in
theorem spec_l4Raw.calls (g : Nat) (s0_0 : List Int) (s0_1 : Int) (s0_2 : Int) (r1 : Int) (r2 : Int) (r3 : Int) (w0 w : World) (hI : IsS189 w0 w g s0_0 s0_1 s0_2) (hB : Below w0.heap.size w0 w) (h : spec_l4Raw.f s0_0 s0_1 s0_2 = some (r1, r2, r3)) :
  Calls Try.prog 177 #[.pointer (some ⟨g, 0, none⟩)] w fun e w' => e = .returned (.int .i64 r1) ∧ IsS189 w0 w' g s0_0 r2 r3 ∧ Below w0.heap.size w0 w' ∧ KeepBut w w' g none := by
 have HI0 := Aside0.mk hI
 have HK := Aside0.mk (KeepBut.refl w g none)
 have HL := Aside0.mk hB.size
 clear hI
 have HW0 := Aside0.mk hB.size
 have HB := Aside0.mk hB
 clear hB
 have H : ((spec_l1Int.f s0_0 s0_1 s0_2 (([(-1), 0, 8, 50, 51, 1000, 9223372036854775807, (-9223372036854775808)] : List Int))).bind fun bt275 => (some (bt275.1, bt275.2.1, bt275.2.2))) = some (r1, r2, r3) := h
 clear h
 obtain ⟨y272, hy272⟩ : ∃ y_ : List Int, y_ = (([(-1), 0, 8, 50, 51, 1000, 9223372036854775807, (-9223372036854775808)] : List Int)) := ⟨_, rfl⟩
 replace H : ((spec_l1Int.f s0_0 s0_1 s0_2 y272).bind fun bt275 => (some (bt275.1, bt275.2.1, bt275.2.2))) = some (r1, r2, r3) := by first | (rw [hy272]; with_reducible exact H) | (have H2_ := (Option.bind_some _ _).symm.trans H; rw [hy272]; with_reducible exact H2_) | (have H2_ := (Option.bind_some _ _).symm.trans H; with_reducible exact H2_) | with_reducible exact H | (rw [hy272]; exact H) | exact H
 have Ny272 := Aside0.mk hy272
 clear hy272
 replace H := Option.bind_eq_some_iff.mp H
 obtain ⟨⟨t275, t276, t277⟩, A20, H⟩ := H
 replace H : (some (t275, t276, t277)) = some (r1, r2, r3) := H
 have A2 := Aside0.mk A20
 clear A20
 simp only [Option.some.injEq, Prod.mk.injEq] at H
 obtain ⟨rfl, rfl, rfl⟩ := H
 go_enter Try.func177, Try.ntmps177
 go_wp2_with (first | ((with_reducible refine gate_dst (N := 4) rfl ?_); refine Kd.R_lit (Kd.int .i64) _ 3 ?hg (N := 4) ?hd (xs := ([(-1), 0, 8, 50, 51, 1000, 9223372036854775807, (-9223372036854775808)] : List Int)) (inner := [.int .i64 (-1), .int .i64 0, .int .i64 8, .int .i64 50, .int .i64 51, .int .i64 1000, .int .i64 9223372036854775807, .int .i64 (-9223372036854775808)]) (ok := fun _ => True) (okp := fun _ => True) ?hr ?hp (fun _ hk => hk) trivial (Below.refl _ _) (Nat.le_refl _) (by simp) ?_; (case hd => rfl); (case hg => rfl); (case hr => first | (go_simp; done) | (go_simp; rfl)); (case hp => exact (Reps.one (show Kd.M (Kd.int .i64) _ _ _ (-1) [.int .i64 (-1)] from rfl) (Reps.one (show Kd.M (Kd.int .i64) _ _ _ 0 [.int .i64 0] from rfl) (Reps.one (show Kd.M (Kd.int .i64) _ _ _ 8 [.int .i64 8] from rfl) (Reps.one (show Kd.M (Kd.int .i64) _ _ _ 50 [.int .i64 50] from rfl) (Reps.one (show Kd.M (Kd.int .i64) _ _ _ 51 [.int .i64 51] from rfl) (Reps.one (show Kd.M (Kd.int .i64) _ _ _ 1000 [.int .i64 1000] from rfl) (Reps.one (show Kd.M (Kd.int .i64) _ _ _ 9223372036854775807 [.int .i64 9223372036854775807] from rfl) (Reps.one (show Kd.M (Kd.int .i64) _ _ _ (-9223372036854775808) [.int .i64 (-9223372036854775808)] from rfl) (Reps.none _ _)))))))))); intro v273 w3 ho4 hb hg_ hnew_; clear hg_ hnew_; (first | rw [← Ny272.out] at ho4 | (simp only [Int.reduceToNat] at ho4; rw [← Ny272.out] at ho4)); have n0_ := Aside0.mk (Kd.R_lower ho4 (keep_size (w := w) (g := g) (row := none) (by repeat (first | (with_reducible first | exact HK.out | apply KeepBut.set_ | apply keep_drewN | apply keep_drew | apply keep_alloc) | exact HK.out)))); have n1_ := Aside0.mk (IsS189.below (by repeat (first | (with_reducible first | exact HI0.out | apply IsS189.alloc | apply IsS189.drewN | apply IsS189.drew | apply IsS189.set_1 | apply IsS189.set_2) | exact HI0.out)) hb); have n2_ := Aside0.mk (KeepBut.trans (by repeat (first | (with_reducible first | exact HK.out | apply KeepBut.set_ | apply keep_drewN | apply keep_drew | apply keep_alloc) | exact HK.out)) (KeepBut.of_below hb g none) (.inl rfl)); have n3_ := Aside0.mk (below_step (by repeat (first | (with_reducible first | exact HB.out | apply bA | apply bN | apply bD | refine bS ?_ (IsS189.ge HI0.out)) | exact HB.out)) hb); clear HI0; clear HK; clear HB; have HO274 := n0_; have HI0 := n1_; have HK := n2_; have HB := n3_; clear n0_ n1_ n2_ n3_; clear hb ho4; obtain ⟨Ao5, co5, eo5⟩ := Kd.R_slice HO274.out; subst eo5) | ((with_reducible refine gate_callee (f := 115) rfl ?_); refine goesL_ (some 5) rfl rfl Try.func115 (by kernel_rfl) rfl #[.pointer (some ⟨g, 0, none⟩), .slice Ao5 y272.length co5] rfl (by (try simp only [mA, mC, mN]); first | done | rfl | (simp only [lD, lT]; rfl)) ?_; (with_reducible refine (spec_l1Int.calls g s0_0 s0_1 s0_2 _ _ y272 t275 t276 t277 w0 _ ?side1 ?side2 ?side3 ?side4 ?side5 A2.out).mono ?_); (case side1 => repeat (first | (with_reducible first | exact HI0.out | apply IsS189.alloc | apply IsS189.drewN | apply IsS189.drew | apply IsS189.set_1 | apply IsS189.set_2) | exact HI0.out)); (case side2 => repeat (first | (with_reducible first | exact HB.out | apply bA | apply bN | apply bD | refine bS ?_ (IsS189.ge HI0.out)) | exact HB.out)); (case side3 => repeat (first | exact (Kd.R_reads' HO274.out).2.2 | (with_reducible refine Kd.C_alloc ?_ _) | (with_reducible refine Kd.C_drewN ?_ _) | (with_reducible refine Kd.C_drew ?_))); (case side4 => exact (Kd.R_reads' HO274.out).2.1); (case side5 => exact far_slice (IsS189.own_ne HI0.out HO274.out (by decide))); rintro e w6 ⟨rfl, hi, hb, hk⟩; refine ⟨_, rfl, ?_⟩; have n0_ := Aside0.mk (Kd.R_mono (Kd.R_keep (IsS189.apart (show IsS189 w0 _ g s0_0 s0_1 s0_2 from by repeat (first | (with_reducible first | exact HI0.out | apply IsS189.alloc | apply IsS189.drewN | apply IsS189.drew | apply IsS189.set_1 | apply IsS189.set_2) | exact HI0.out)) (qR HO274) (by decide)) hk (fun _ h => h.2)) (fun _ h => h.1)); have n1_ := Aside0.mk (KeepBut.trans (by repeat (first | (with_reducible first | exact HK.out | apply KeepBut.set_ | apply keep_drewN | apply keep_drew | apply keep_alloc) | exact HK.out)) hk (.inl rfl)); have n2_ := Aside0.mk (hb); have n3_ := Aside0.mk (hi); clear HO274; clear HK; clear HB; clear HI0; have HO274 := n0_; have HK := n1_; have HB := n2_; have HI0 := n3_; clear n0_ n1_ n2_ n3_; (try clear hb); (try clear hb2); (try clear hk); (try clear hi)))
 go_ret
 exact ⟨by first | rfl | (simp [errW_none, errW_some] <;> rfl) | (simp [*, errW_none, errW_some] <;> rfl), by repeat (first | (with_reducible first | exact HI0.out | apply IsS189.alloc | apply IsS189.drewN | apply IsS189.drew | apply IsS189.set_1 | apply IsS189.set_2) | exact HI0.out), by repeat (first | (with_reducible first | exact HB.out | apply bA | apply bN | apply bD | refine bS ?_ (IsS189.ge HI0.out)) | exact HB.out), by repeat (first | (with_reducible first | exact HK.out | apply KeepBut.set_ | apply keep_drewN | apply keep_drew | apply keep_alloc) | exact HK.out)⟩

/-! ### spec_AnswerOf: function 119 -/
def spec_AnswerOf.l0 : Nat → List (S62) → Int → Int → Option (Int)
 | 0, _, _, _ => none
 | k + 1, x0, x1, x5 => if x5 < (x0.length : Int) then (if 0 ≤ x5 then (if ((rd_T62 x0 x5).f0) = x1 then (some ((rd_T62 x0 x5).f1)) else (spec_AnswerOf.l0 k x0 x1 (wrap64 (x5 + 1)))) else (none)) else (some (-1))
def spec_AnswerOf.f (k : Nat) (l0 : List (S62)) (a1 : Int) : Option (Int) := spec_AnswerOf.l0 k l0 a1 0
theorem spec_AnswerOf.mono_l : ∀ k, (∀ y0 y1 y2, LeO (spec_AnswerOf.l0 k y0 y1 y2) (spec_AnswerOf.l0 (k + 1) y0 y1 y2))
 | 0 => fun _ _ _ r h => by simp [spec_AnswerOf.l0] at h
 | k + 1 => by
  have ih0 := spec_AnswerOf.mono_l k
  ·intro y0 y1 y2
   unfold spec_AnswerOf.l0
   repeat' first
   | (with_reducible exact ih0 _ _ _)
   | (with_reducible exact LeO.refl _)
   | (with_reducible exact LeO.none _)
   | (with_reducible refine LeO.ite ?_ ?_)
   | (with_reducible refine LeO.bind ?_ (fun _ => ?_))
   | exact ih0 _ _ _
   | exact LeO.none _
   | refine LeO.ite ?_ ?_
   | refine LeO.bind ?_ (fun _ => ?_)
theorem spec_AnswerOf.mono : ∀ a0 a1 k, LeO (spec_AnswerOf.f k a0 a1) (spec_AnswerOf.f (k + 1) a0 a1) := by
 intro a0 a1 k
 have ih0 := spec_AnswerOf.mono_l k
 unfold spec_AnswerOf.f
 repeat' first
   | (with_reducible exact ih0 _ _ _)
   | (with_reducible exact LeO.refl _)
   | (with_reducible exact LeO.none _)
   | (with_reducible refine LeO.ite ?_ ?_)
   | (with_reducible refine LeO.bind ?_ (fun _ => ?_))
   | exact ih0 _ _ _
   | exact LeO.none _
   | refine LeO.ite ?_ ?_
   | refine LeO.bind ?_ (fun _ => ?_)
set_option maxHeartbeats 8000000 in
set_option maxRecDepth 100000 in
theorem spec_AnswerOf.calls (k : Nat) (A0 : Option Addr) (c0 : Nat) (l0 : List (S62)) (a1 : Int) (r : Int) (w : World) (hr0 : Kd.C k62 w A0 l0.length l0) (hc0 : l0.length ≤ c0) (h : spec_AnswerOf.f k l0 a1 = some r) :
  Calls Try.prog 119 #[.slice A0 l0.length c0, .int .i64 a1] w fun e w' => e = .returned (.int .i64 r) ∧ Drawn0 w w' := by
 have HR0 := Aside0.mk hr0
 have HC0 := Aside0.mk hc0
 clear hr0 hc0
 have H : (spec_AnswerOf.l0 k l0 a1 0) = some r := h
 clear h
 have H' := Aside0.mk H
 clear H
 go_enter Try.func119, Try.ntmps119
 go_wp2
 go_loopg [5] k (fun kq v5 w' => ∃ (x5_1 : Int), v5 = .int .i64 x5_1 ∧ Aside0 (spec_AnswerOf.l0 kq l0 a1 x5_1 = some r) ∧ Aside0 (kq ≤ k) ∧ Drawn0 w w')
 case atStart => exact ⟨(0), (by first | rfl | (simp; done) | (simp [*]; done)), H', ⟨Nat.le_refl _⟩, by repeat (first | exact Drawn0.refl _ | apply Drawn0.step)⟩
 case round =>
  clear H'
  try clear c1
  try clear p2
  obtain ⟨x5_1, rfl, HA, HK1, ⟨m1, rfl⟩⟩ := hrel
  cases gk with
  | zero => exact absurd HA.out (by simp [spec_AnswerOf.l0])
  | succ k1 =>
   have H := HA.out
   clear HA
   simp only [spec_AnswerOf.l0] at H
   by_cases c3 : x5_1 < (l0.length : Int)
   ·rw [if_pos c3] at H
    have c3b0 : decide (x5_1 < (l0.length : Int)) = true := decide_eq_true c3
    clear c3
    by_cases c4 : 0 ≤ x5_1
    ·rw [if_pos c4] at H
     have c4b0 : decide (0 ≤ x5_1) = true := decide_eq_true c4
     clear c4
     by_cases c5 : ((rd_T62 l0 x5_1).f0) = a1
     ·rw [if_pos c5] at H
      have c5b0 : (((rd_T62 l0 x5_1).f0) == a1) = true := beq_iff_eq.mpr c5
      have c5b1 : (((rd_T62 l0 x5_1).f0) != a1) = false := bne_eq_false_iff_eq.mpr c5
      clear c5
      obtain rfl := Option.some.inj H
      have p278 : 0 ≤ (x5_1 : Int) := of_decide_eq_true ‹_›
      have q278 : x5_1 < (l0.length : Int) := of_decide_eq_true ‹_›
      obtain ⟨ad278, e278, hx278_0, hx278_1⟩ := at_T62 HR0.out x5_1 p278 q278
      cases e278
      replace p278 := eq_true p278
      replace q278 := eq_true q278
      have p279 : 0 ≤ (x5_1 : Int) := of_decide_eq_true ‹_›
      have q279 : x5_1 < (l0.length : Int) := of_decide_eq_true ‹_›
      obtain ⟨ad279, e279, hx279_0, hx279_1⟩ := at_T62 HR0.out x5_1 p279 q279
      obtain rfl : ad278 = ad279 := (by injection e279)
      replace p279 := eq_true p279
      replace q279 := eq_true q279
      go_wp2
      go_ret
      exact ⟨by first | rfl | (simp; done) | (simp [*]; done), by repeat (first | exact Drawn0.refl _ | apply Drawn0.step)⟩
     ·rw [if_neg c5] at H
      have c5b0 : (((rd_T62 l0 x5_1).f0) == a1) = false := beq_eq_false_iff_ne.mpr c5
      have c5b1 : (((rd_T62 l0 x5_1).f0) != a1) = true := bne_iff_ne.mpr c5
      have H' := Aside0.mk H
      clear H
      have p278 : 0 ≤ (x5_1 : Int) := of_decide_eq_true ‹_›
      have q278 : x5_1 < (l0.length : Int) := of_decide_eq_true ‹_›
      obtain ⟨ad278, e278, hx278_0, hx278_1⟩ := at_T62 HR0.out x5_1 p278 q278
      cases e278
      replace p278 := eq_true p278
      replace q278 := eq_true q278
      go_wp2
      go_roundg k1
      case measure => have := HK1.out; omega
      case rel => exact ⟨(wrap64 (x5_1 + 1)), (by first | rfl | (simp; done) | (simp [*]; done)), H', ⟨by have := HK1.out; omega⟩, by repeat (first | exact Drawn0.refl _ | apply Drawn0.step)⟩
    ·rw [if_neg c4] at H
     exact absurd H (by simp)
   ·rw [if_neg c3] at H
    have c3b0 : decide (x5_1 < (l0.length : Int)) = false := decide_eq_false c3
    clear c3
    obtain rfl := Option.some.inj H
    go_wp2
    go_ret
    exact ⟨by first | rfl | (simp; done) | (simp [*]; done), by repeat (first | exact Drawn0.refl _ | apply Drawn0.step)⟩

/-! ### spec_IsTrial: function 193 -/
def spec_IsTrial.f (a0_0 : Int) (a0_1 : Int) (a0_2 : Int) (a0_3 : Int) : Option (Bool) := (spec_l1In.f a0_0 1 999).bind fun t281 => (if t281 = true then ((spec_l1In.f a0_2 0 100).bind fun t282 => (if t282 = true then ((spec_l1In.f a0_3 0 100).bind fun t283 => (if t283 = true then (some (a0_1 == (wrap64 (a0_2 + a0_3)))) else (some false))) else (some false))) else (some false))
set_option maxHeartbeats 8000000 in
set_option maxRecDepth 100000 in
theorem spec_IsTrial.calls (a0_0 : Int) (a0_1 : Int) (a0_2 : Int) (a0_3 : Int) (r : Bool) (w : World) (h : spec_IsTrial.f a0_0 a0_1 a0_2 a0_3 = some r) :
  Calls Try.prog 193 #[.agg #[.int .i64 a0_0, .int .i64 a0_1, .int .i64 a0_2, .int .i64 a0_3]] w fun e w' => e = .returned (.bool r) ∧ Below w.heap.size w w' := by
 have hu27 := Try.underlying27
 have HB := Aside0.mk (Below.refl w.heap.size w)
 have H : ((spec_l1In.f a0_0 1 999).bind fun t281 => (if t281 = true then ((spec_l1In.f a0_2 0 100).bind fun t282 => (if t282 = true then ((spec_l1In.f a0_3 0 100).bind fun t283 => (if t283 = true then (some (a0_1 == (wrap64 (a0_2 + a0_3)))) else (some false))) else (some false))) else (some false))) = some r := h
 clear h
 replace H := Option.bind_eq_some_iff.mp H
 obtain ⟨t281, A20, H⟩ := H
 replace H : (if t281 = true then ((spec_l1In.f a0_2 0 100).bind fun t282 => (if t282 = true then ((spec_l1In.f a0_3 0 100).bind fun t283 => (if t283 = true then (some (a0_1 == (wrap64 (a0_2 + a0_3)))) else (some false))) else (some false))) else (some false)) = some r := H
 have A2 := Aside0.mk A20
 clear A20
 by_cases c3 : t281 = true
 ·subst c3
  have H1 : ((spec_l1In.f a0_2 0 100).bind fun t282 => (if t282 = true then ((spec_l1In.f a0_3 0 100).bind fun t283 => (if t283 = true then (some (a0_1 == (wrap64 (a0_2 + a0_3)))) else (some false))) else (some false))) = some r := by rw [if_pos rfl] at H; exact H
  clear H
  have H := H1
  clear H1
  replace H := Option.bind_eq_some_iff.mp H
  obtain ⟨t282, A40, H⟩ := H
  replace H : (if t282 = true then ((spec_l1In.f a0_3 0 100).bind fun t283 => (if t283 = true then (some (a0_1 == (wrap64 (a0_2 + a0_3)))) else (some false))) else (some false)) = some r := H
  have A4 := Aside0.mk A40
  clear A40
  by_cases c5 : t282 = true
  ·subst c5
   have H1 : ((spec_l1In.f a0_3 0 100).bind fun t283 => (if t283 = true then (some (a0_1 == (wrap64 (a0_2 + a0_3)))) else (some false))) = some r := by rw [if_pos rfl] at H; exact H
   clear H
   have H := H1
   clear H1
   replace H := Option.bind_eq_some_iff.mp H
   obtain ⟨t283, A60, H⟩ := H
   replace H : (if t283 = true then (some (a0_1 == (wrap64 (a0_2 + a0_3)))) else (some false)) = some r := H
   have A6 := Aside0.mk A60
   clear A60
   by_cases c7 : t283 = true
   ·subst c7
    have H1 : (some (a0_1 == (wrap64 (a0_2 + a0_3)))) = some r := by rw [if_pos rfl] at H; exact H
    clear H
    have H := H1
    clear H1
    obtain rfl := Option.some.inj H
    go_enter Try.func193, Try.ntmps193
    go_wp2_with (first | ((with_reducible refine gate_dst (N := 1) rfl ?_); refine box_event ?hg (N := 1) ?hd (cs := #[.int .i64 a0_0, .int .i64 a0_1, .int .i64 a0_2, .int .i64 a0_3]) (t := 27) ?hr ?_; (case hd => rfl); (case hg => rfl); (case hr => first | (go_simp; done) | (go_simp; rfl)); intro gb280 hg w8 hbox hb; have n0_ := Aside0.mk (below_step (qB HB) hb); have n1_ := Aside0.mk (hbox); have n2_ := Aside0.mk ((by rw [hg]; exact (below_size (qB HB)) : w.heap.size ≤ gb280)); have n3_ := Aside0.mk ((by rw [hg]; exact (below_size (qB HB)) : w.heap.size ≤ gb280)); clear HB; have HB := n0_; have BK280 := n1_; have GW280 := n2_; have GE280 := n3_; clear n0_ n1_ n2_ n3_; clear hb hbox hg; have hcz9_0 : w8.cell? ⟨gb280, 0, none⟩ = some (.int .i64 a0_0) := cC BK280 0; have hcz9_1 : w8.cell? ⟨gb280, 1, none⟩ = some (.int .i64 a0_1) := cC BK280 1; have hcz9_2 : w8.cell? ⟨gb280, 2, none⟩ = some (.int .i64 a0_2) := cC BK280 2; have hcz9_3 : w8.cell? ⟨gb280, 3, none⟩ = some (.int .i64 a0_3) := cC BK280 3; have hfz9_0 := blk_frozen BK280.out 0; have hfz9_1 := blk_frozen BK280.out 1; have hfz9_2 := blk_frozen BK280.out 2; have hfz9_3 := blk_frozen BK280.out 3) | ((with_reducible refine gate_callee (f := 151) rfl ?_); refine goesL_ (some 5) rfl rfl Try.func151 (by kernel_rfl) rfl #[.int .i64 a0_0, .int .i64 1, .int .i64 999] rfl (by (try simp only [mA, mC, mN]); first | done | rfl | (simp only [lD, lT]; rfl)) ?_; (with_reducible refine (spec_l1In.calls a0_0 1 999 true _ A2.out).mono ?_); rintro e w' ⟨rfl, ⟨nd, rfl⟩⟩; refine ⟨_, rfl, ?_⟩) | (go_at_call 151; (with_reducible refine (spec_l1In.calls a0_2 0 100 true _ A4.out).mono ?_); rintro e w' ⟨rfl, ⟨nd, rfl⟩⟩) | (go_at_call 151; (with_reducible refine (spec_l1In.calls a0_3 0 100 true _ A6.out).mono ?_); rintro e w' ⟨rfl, ⟨nd, rfl⟩⟩))
    go_ret
    exact ⟨by first | rfl | (simp [errW_none, errW_some] <;> rfl) | (simp [*, errW_none, errW_some] <;> rfl), by repeat (first | (with_reducible first | exact HB.out | apply bA | apply bN | apply bD | refine bS ?_ GE280.out) | exact HB.out)⟩
   ·replace c7 := Bool.eq_false_iff.mpr c7
    subst c7
    have H1 : (some false) = some r := by rw [if_neg (show ¬ (false = true) by decide)] at H; exact H
    clear H
    have H := H1
    clear H1
    obtain rfl := Option.some.inj H
    go_enter Try.func193, Try.ntmps193
    go_wp2_with (first | ((with_reducible refine gate_dst (N := 1) rfl ?_); refine box_event ?hg (N := 1) ?hd (cs := #[.int .i64 a0_0, .int .i64 a0_1, .int .i64 a0_2, .int .i64 a0_3]) (t := 27) ?hr ?_; (case hd => rfl); (case hg => rfl); (case hr => first | (go_simp; done) | (go_simp; rfl)); intro gb280 hg w10 hbox hb; have n0_ := Aside0.mk (below_step (qB HB) hb); have n1_ := Aside0.mk (hbox); have n2_ := Aside0.mk ((by rw [hg]; exact (below_size (qB HB)) : w.heap.size ≤ gb280)); have n3_ := Aside0.mk ((by rw [hg]; exact (below_size (qB HB)) : w.heap.size ≤ gb280)); clear HB; have HB := n0_; have BK280 := n1_; have GW280 := n2_; have GE280 := n3_; clear n0_ n1_ n2_ n3_; clear hb hbox hg; have hcz11_0 : w10.cell? ⟨gb280, 0, none⟩ = some (.int .i64 a0_0) := cC BK280 0; have hcz11_1 : w10.cell? ⟨gb280, 1, none⟩ = some (.int .i64 a0_1) := cC BK280 1; have hcz11_2 : w10.cell? ⟨gb280, 2, none⟩ = some (.int .i64 a0_2) := cC BK280 2; have hcz11_3 : w10.cell? ⟨gb280, 3, none⟩ = some (.int .i64 a0_3) := cC BK280 3; have hfz11_0 := blk_frozen BK280.out 0; have hfz11_1 := blk_frozen BK280.out 1; have hfz11_2 := blk_frozen BK280.out 2; have hfz11_3 := blk_frozen BK280.out 3) | ((with_reducible refine gate_callee (f := 151) rfl ?_); refine goesL_ (some 5) rfl rfl Try.func151 (by kernel_rfl) rfl #[.int .i64 a0_0, .int .i64 1, .int .i64 999] rfl (by (try simp only [mA, mC, mN]); first | done | rfl | (simp only [lD, lT]; rfl)) ?_; (with_reducible refine (spec_l1In.calls a0_0 1 999 true _ A2.out).mono ?_); rintro e w' ⟨rfl, ⟨nd, rfl⟩⟩; refine ⟨_, rfl, ?_⟩) | (go_at_call 151; (with_reducible refine (spec_l1In.calls a0_2 0 100 true _ A4.out).mono ?_); rintro e w' ⟨rfl, ⟨nd, rfl⟩⟩) | (go_at_call 151; (with_reducible refine (spec_l1In.calls a0_3 0 100 false _ A6.out).mono ?_); rintro e w' ⟨rfl, ⟨nd, rfl⟩⟩))
    go_ret
    exact ⟨by first | rfl | (simp [errW_none, errW_some] <;> rfl) | (simp [*, errW_none, errW_some] <;> rfl), by repeat (first | (with_reducible first | exact HB.out | apply bA | apply bN | apply bD | refine bS ?_ GE280.out) | exact HB.out)⟩
  ·replace c5 := Bool.eq_false_iff.mpr c5
   subst c5
   have H1 : (some false) = some r := by rw [if_neg (show ¬ (false = true) by decide)] at H; exact H
   clear H
   have H := H1
   clear H1
   obtain rfl := Option.some.inj H
   go_enter Try.func193, Try.ntmps193
   go_wp2_with (first | ((with_reducible refine gate_dst (N := 1) rfl ?_); refine box_event ?hg (N := 1) ?hd (cs := #[.int .i64 a0_0, .int .i64 a0_1, .int .i64 a0_2, .int .i64 a0_3]) (t := 27) ?hr ?_; (case hd => rfl); (case hg => rfl); (case hr => first | (go_simp; done) | (go_simp; rfl)); intro gb280 hg w12 hbox hb; have n0_ := Aside0.mk (below_step (qB HB) hb); have n1_ := Aside0.mk (hbox); have n2_ := Aside0.mk ((by rw [hg]; exact (below_size (qB HB)) : w.heap.size ≤ gb280)); have n3_ := Aside0.mk ((by rw [hg]; exact (below_size (qB HB)) : w.heap.size ≤ gb280)); clear HB; have HB := n0_; have BK280 := n1_; have GW280 := n2_; have GE280 := n3_; clear n0_ n1_ n2_ n3_; clear hb hbox hg; have hcz13_0 : w12.cell? ⟨gb280, 0, none⟩ = some (.int .i64 a0_0) := cC BK280 0; have hcz13_1 : w12.cell? ⟨gb280, 1, none⟩ = some (.int .i64 a0_1) := cC BK280 1; have hcz13_2 : w12.cell? ⟨gb280, 2, none⟩ = some (.int .i64 a0_2) := cC BK280 2; have hcz13_3 : w12.cell? ⟨gb280, 3, none⟩ = some (.int .i64 a0_3) := cC BK280 3; have hfz13_0 := blk_frozen BK280.out 0; have hfz13_1 := blk_frozen BK280.out 1; have hfz13_2 := blk_frozen BK280.out 2; have hfz13_3 := blk_frozen BK280.out 3) | ((with_reducible refine gate_callee (f := 151) rfl ?_); refine goesL_ (some 5) rfl rfl Try.func151 (by kernel_rfl) rfl #[.int .i64 a0_0, .int .i64 1, .int .i64 999] rfl (by (try simp only [mA, mC, mN]); first | done | rfl | (simp only [lD, lT]; rfl)) ?_; (with_reducible refine (spec_l1In.calls a0_0 1 999 true _ A2.out).mono ?_); rintro e w' ⟨rfl, ⟨nd, rfl⟩⟩; refine ⟨_, rfl, ?_⟩) | (go_at_call 151; (with_reducible refine (spec_l1In.calls a0_2 0 100 false _ A4.out).mono ?_); rintro e w' ⟨rfl, ⟨nd, rfl⟩⟩))
   go_ret
   exact ⟨by first | rfl | (simp [errW_none, errW_some] <;> rfl) | (simp [*, errW_none, errW_some] <;> rfl), by repeat (first | (with_reducible first | exact HB.out | apply bA | apply bN | apply bD | refine bS ?_ GE280.out) | exact HB.out)⟩
 ·replace c3 := Bool.eq_false_iff.mpr c3
  subst c3
  have H1 : (some false) = some r := by rw [if_neg (show ¬ (false = true) by decide)] at H; exact H
  clear H
  have H := H1
  clear H1
  obtain rfl := Option.some.inj H
  go_enter Try.func193, Try.ntmps193
  go_wp2_with (first | ((with_reducible refine gate_dst (N := 1) rfl ?_); refine box_event ?hg (N := 1) ?hd (cs := #[.int .i64 a0_0, .int .i64 a0_1, .int .i64 a0_2, .int .i64 a0_3]) (t := 27) ?hr ?_; (case hd => rfl); (case hg => rfl); (case hr => first | (go_simp; done) | (go_simp; rfl)); intro gb280 hg w14 hbox hb; have n0_ := Aside0.mk (below_step (qB HB) hb); have n1_ := Aside0.mk (hbox); have n2_ := Aside0.mk ((by rw [hg]; exact (below_size (qB HB)) : w.heap.size ≤ gb280)); have n3_ := Aside0.mk ((by rw [hg]; exact (below_size (qB HB)) : w.heap.size ≤ gb280)); clear HB; have HB := n0_; have BK280 := n1_; have GW280 := n2_; have GE280 := n3_; clear n0_ n1_ n2_ n3_; clear hb hbox hg; have hcz15_0 : w14.cell? ⟨gb280, 0, none⟩ = some (.int .i64 a0_0) := cC BK280 0; have hcz15_1 : w14.cell? ⟨gb280, 1, none⟩ = some (.int .i64 a0_1) := cC BK280 1; have hcz15_2 : w14.cell? ⟨gb280, 2, none⟩ = some (.int .i64 a0_2) := cC BK280 2; have hcz15_3 : w14.cell? ⟨gb280, 3, none⟩ = some (.int .i64 a0_3) := cC BK280 3; have hfz15_0 := blk_frozen BK280.out 0; have hfz15_1 := blk_frozen BK280.out 1; have hfz15_2 := blk_frozen BK280.out 2; have hfz15_3 := blk_frozen BK280.out 3) | ((with_reducible refine gate_callee (f := 151) rfl ?_); refine goesL_ (some 5) rfl rfl Try.func151 (by kernel_rfl) rfl #[.int .i64 a0_0, .int .i64 1, .int .i64 999] rfl (by (try simp only [mA, mC, mN]); first | done | rfl | (simp only [lD, lT]; rfl)) ?_; (with_reducible refine (spec_l1In.calls a0_0 1 999 false _ A2.out).mono ?_); rintro e w' ⟨rfl, ⟨nd, rfl⟩⟩; refine ⟨_, rfl, ?_⟩))
  go_ret
  exact ⟨by first | rfl | (simp [errW_none, errW_some] <;> rfl) | (simp [*, errW_none, errW_some] <;> rfl), by repeat (first | (with_reducible first | exact HB.out | apply bA | apply bN | apply bD | refine bS ?_ GE280.out) | exact HB.out)⟩

/-! ### spec_Min: function 106 -/
def spec_Min.f (a0 : Int) (a1 : Int) : Option (Int) := if a1 < a0 then (some a1) else (some a0)
set_option maxHeartbeats 8000000 in
set_option maxRecDepth 100000 in
theorem spec_Min.calls (a0 : Int) (a1 : Int) (r : Int) (w : World) (h : spec_Min.f a0 a1 = some r) :
  Calls Try.prog 106 #[.int .i64 a0, .int .i64 a1] w fun e w' => e = .returned (.int .i64 r) ∧ Drawn0 w w' := by
 have H : (if a1 < a0 then (some a1) else (some a0)) = some r := h
 clear h
 by_cases c3 : a1 < a0
 ·rw [if_pos c3] at H
  have c3b0 : decide (a1 < a0) = true := decide_eq_true c3
  clear c3
  obtain rfl := Option.some.inj H
  go_enter Try.func106, Try.ntmps106
  go_wp2
  go_ret
  exact ⟨by first | rfl | (simp; done) | (simp [*]; done), by repeat (first | exact Drawn0.refl _ | apply Drawn0.step)⟩
 ·rw [if_neg c3] at H
  have c3b0 : decide (a1 < a0) = false := decide_eq_false c3
  clear c3
  obtain rfl := Option.some.inj H
  go_enter Try.func106, Try.ntmps106
  go_wp2
  go_ret
  exact ⟨by first | rfl | (simp; done) | (simp [*]; done), by repeat (first | exact Drawn0.refl _ | apply Drawn0.step)⟩

/-! ### spec_NeedFor: function 195 -/
def spec_NeedFor.f (l0 : List (S62)) : Option (Int) := (spec_Min.f 3 (l0.length : Int)).bind fun t284 => (some t284)
set_option maxHeartbeats 8000000 in
set_option maxRecDepth 100000 in
theorem spec_NeedFor.calls (A0 : Option Addr) (c0 : Nat) (l0 : List (S62)) (r : Int) (w : World) (hr0 : Kd.C k62 w A0 l0.length l0) (hc0 : l0.length ≤ c0) (h : spec_NeedFor.f l0 = some r) :
  Calls Try.prog 195 #[.slice A0 l0.length c0] w fun e w' => e = .returned (.int .i64 r) ∧ Drawn0 w w' := by
 have HR0 := Aside0.mk hr0
 have HC0 := Aside0.mk hc0
 clear hr0 hc0
 have H : ((spec_Min.f 3 (l0.length : Int)).bind fun t284 => (some t284)) = some r := h
 clear h
 replace H := Option.bind_eq_some_iff.mp H
 obtain ⟨t284, A20, H⟩ := H
 replace H : (some t284) = some r := H
 have A2 := Aside0.mk A20
 clear A20
 obtain rfl := Option.some.inj H
 go_enter Try.func195, Try.ntmps195
 go_wp2_with (first | ((with_reducible refine gate_callee (f := 106) rfl ?_); refine goesL_ (some 5) rfl rfl Try.func106 (by kernel_rfl) rfl #[.int .i64 3, .int .i64 (l0.length : Int)] rfl (by (try simp only [mA, mC, mN]); first | done | rfl | (simp only [lD, lT]; rfl)) ?_; (with_reducible refine (spec_Min.calls 3 (l0.length : Int) t284 _ A2.out).mono ?_); rintro e w' ⟨rfl, ⟨nd, rfl⟩⟩; refine ⟨_, rfl, ?_⟩))
 go_ret
 exact ⟨by first | rfl | (simp; done) | (simp [*]; done), by repeat (first | exact Drawn0.refl _ | apply Drawn0.step)⟩

/-! ### spec_TrialState: function 171 -/
def spec_TrialState.j0 : Nat → List (S62) → Bool → Int → Int → Int → Int → Option (Int)
 | 0, _, _, _, _, _, _ => none
 | k + 1, x0, x5, x286000, x286001, x286002, x286003 => if x5 = true then (some 2) else (if (x0.length : Int) > 0 then ((spec_NeedFor.f x0).bind fun t288 => (if x286002 ≥ t288 then (some 1) else (some 0))) else (some 0))
def spec_TrialState.f (k : Nat) (l0 : List (S62)) (a1_0 : Int) (a1_1 : Int) (a1_2 : Int) (a1_3 : Int) : Option (Int) := (spec_IsTrial.f a1_0 a1_1 a1_2 a1_3).bind fun t286 => (if t286 = true then ((spec_AreMarks.f k l0).bind fun t287 => (if t287 = true then (spec_TrialState.j0 k l0 (decide (a1_3 > 1)) a1_0 a1_1 a1_2 a1_3) else (spec_TrialState.j0 k l0 true a1_0 a1_1 a1_2 a1_3))) else (spec_TrialState.j0 k l0 true a1_0 a1_1 a1_2 a1_3))
theorem spec_TrialState.mono_l : ∀ k, (∀ y0 y1 y2 y3 y4 y5, LeO (spec_TrialState.j0 k y0 y1 y2 y3 y4 y5) (spec_TrialState.j0 (k + 1) y0 y1 y2 y3 y4 y5))
 | 0 => fun _ _ _ _ _ _ r h => by simp [spec_TrialState.j0] at h
 | k + 1 => by
  have ih0 := spec_TrialState.mono_l k
  ·intro y0 y1 y2 y3 y4 y5
   unfold spec_TrialState.j0
   repeat' first
   | (with_reducible exact ih0 _ _ _ _ _ _)
   | (with_reducible exact spec_AreMarks.mono _ _)
   | (with_reducible exact LeO.refl _)
   | (with_reducible exact LeO.none _)
   | (with_reducible refine LeO.ite ?_ ?_)
   | (with_reducible refine LeO.bind ?_ (fun _ => ?_))
   | exact ih0 _ _ _ _ _ _
   | exact spec_AreMarks.mono _ _
   | exact LeO.none _
   | refine LeO.ite ?_ ?_
   | refine LeO.bind ?_ (fun _ => ?_)
theorem spec_TrialState.mono : ∀ a0 a1 a2 a3 a4 k, LeO (spec_TrialState.f k a0 a1 a2 a3 a4) (spec_TrialState.f (k + 1) a0 a1 a2 a3 a4) := by
 intro a0 a1 a2 a3 a4 k
 have ih0 := spec_TrialState.mono_l k
 unfold spec_TrialState.f
 repeat' first
   | (with_reducible exact ih0 _ _ _ _ _ _)
   | (with_reducible exact spec_AreMarks.mono _ _)
   | (with_reducible exact LeO.refl _)
   | (with_reducible exact LeO.none _)
   | (with_reducible refine LeO.ite ?_ ?_)
   | (with_reducible refine LeO.bind ?_ (fun _ => ?_))
   | exact ih0 _ _ _ _ _ _
   | exact spec_AreMarks.mono _ _
   | exact LeO.none _
   | refine LeO.ite ?_ ?_
   | refine LeO.bind ?_ (fun _ => ?_)
set_option maxHeartbeats 8000000 in
set_option maxRecDepth 100000 in
theorem spec_TrialState.calls (k : Nat) (A0 : Option Addr) (c0 : Nat) (l0 : List (S62)) (a1_0 : Int) (a1_1 : Int) (a1_2 : Int) (a1_3 : Int) (r : Int) (w : World) (hr0 : Kd.C k62 w A0 l0.length l0) (hc0 : l0.length ≤ c0) (h : spec_TrialState.f k l0 a1_0 a1_1 a1_2 a1_3 = some r) :
  Calls Try.prog 171 #[.slice A0 l0.length c0, .agg #[.int .i64 a1_0, .int .i64 a1_1, .int .i64 a1_2, .int .i64 a1_3]] w fun e w' => e = .returned (.int .i64 r) ∧ Below w.heap.size w w' := by
 have hu27 := Try.underlying27
 have HR0 := Aside0.mk hr0
 have HC0 := Aside0.mk hc0
 clear hr0 hc0
 have HB := Aside0.mk (Below.refl w.heap.size w)
 have H : ((spec_IsTrial.f a1_0 a1_1 a1_2 a1_3).bind fun t286 => (if t286 = true then ((spec_AreMarks.f k l0).bind fun t287 => (if t287 = true then (spec_TrialState.j0 k l0 (decide (a1_3 > 1)) a1_0 a1_1 a1_2 a1_3) else (spec_TrialState.j0 k l0 true a1_0 a1_1 a1_2 a1_3))) else (spec_TrialState.j0 k l0 true a1_0 a1_1 a1_2 a1_3))) = some r := h
 clear h
 have HC3 := Aside0.mk H
 clear H
 go_enter Try.func171, Try.ntmps171
 go_upto_region 1 with (first | ((with_reducible refine gate_dst (N := 3) rfl ?_); refine box_event ?hg (N := 3) ?hd (cs := #[.int .i64 a1_0, .int .i64 a1_1, .int .i64 a1_2, .int .i64 a1_3]) (t := 27) ?hr ?_; (case hd => rfl); (case hg => rfl); (case hr => first | (go_simp; done) | (go_simp; rfl)); intro gb285 hg w4 hbox hb; have n0_ := Aside0.mk (below_step (qB HB) hb); have n1_ := Aside0.mk (hbox); have n2_ := Aside0.mk ((by rw [hg]; exact (below_size (qB HB)) : w.heap.size ≤ gb285)); have n3_ := Aside0.mk ((by rw [hg]; exact (below_size (qB HB)) : w.heap.size ≤ gb285)); clear HB; have HB := n0_; have BK285 := n1_; have GW285 := n2_; have GE285 := n3_; clear n0_ n1_ n2_ n3_; clear hb hbox hg))
 repeat (go_quiet (first | ((with_reducible refine gate_dst (N := 3) rfl ?_); refine box_event ?hg (N := 3) ?hd (cs := #[.int .i64 a1_0, .int .i64 a1_1, .int .i64 a1_2, .int .i64 a1_3]) (t := 27) ?hr ?_; (case hd => rfl); (case hg => rfl); (case hr => first | (go_simp; done) | (go_simp; rfl)); intro gb285 hg w4 hbox hb; have n0_ := Aside0.mk (below_step (qB HB) hb); have n1_ := Aside0.mk (hbox); have n2_ := Aside0.mk ((by rw [hg]; exact (below_size (qB HB)) : w.heap.size ≤ gb285)); have n3_ := Aside0.mk ((by rw [hg]; exact (below_size (qB HB)) : w.heap.size ≤ gb285)); clear HB; have HB := n0_; have BK285 := n1_; have GW285 := n2_; have GE285 := n3_; clear n0_ n1_ n2_ n3_; clear hb hbox hg)); go_upto_region 1 with (first | ((with_reducible refine gate_dst (N := 3) rfl ?_); refine box_event ?hg (N := 3) ?hd (cs := #[.int .i64 a1_0, .int .i64 a1_1, .int .i64 a1_2, .int .i64 a1_3]) (t := 27) ?hr ?_; (case hd => rfl); (case hg => rfl); (case hr => first | (go_simp; done) | (go_simp; rfl)); intro gb285 hg w4 hbox hb; have n0_ := Aside0.mk (below_step (qB HB) hb); have n1_ := Aside0.mk (hbox); have n2_ := Aside0.mk ((by rw [hg]; exact (below_size (qB HB)) : w.heap.size ≤ gb285)); have n3_ := Aside0.mk ((by rw [hg]; exact (below_size (qB HB)) : w.heap.size ≤ gb285)); clear HB; have HB := n0_; have BK285 := n1_; have GW285 := n2_; have GE285 := n3_; clear n0_ n1_ n2_ n3_; clear hb hbox hg)))
 (try simp only [Act.put, sA, sZ, sS])
 go_cut [5] (fun v5 wc => ∃ (kq : Nat) (x5_2 : Bool), v5 = .bool x5_2 ∧ Aside0 (spec_TrialState.j0 kq l0 x5_2 a1_0 a1_1 a1_2 a1_3 = some r) ∧ Aside0 (kq ≤ k) ∧ Aside0 (wc.heap[gb285]? = some (.cells #[.int .i64 a1_0, .int .i64 a1_1, .int .i64 a1_2, .int .i64 a1_3] 27 (0, 0))) ∧ Aside0 (Below w.heap.size w wc))
 case first =>
  have H := HC3.out
  clear HC3
  replace H := Option.bind_eq_some_iff.mp H
  obtain ⟨t286, A50, H⟩ := H
  replace H : (if t286 = true then ((spec_AreMarks.f k l0).bind fun t287 => (if t287 = true then (spec_TrialState.j0 k l0 (decide (a1_3 > 1)) a1_0 a1_1 a1_2 a1_3) else (spec_TrialState.j0 k l0 true a1_0 a1_1 a1_2 a1_3))) else (spec_TrialState.j0 k l0 true a1_0 a1_1 a1_2 a1_3)) = some r := H
  have A5 := Aside0.mk A50
  clear A50
  by_cases c6 : t286 = true
  ·subst c6
   have H1 : ((spec_AreMarks.f k l0).bind fun t287 => (if t287 = true then (spec_TrialState.j0 k l0 (decide (a1_3 > 1)) a1_0 a1_1 a1_2 a1_3) else (spec_TrialState.j0 k l0 true a1_0 a1_1 a1_2 a1_3))) = some r := by rw [if_pos rfl] at H; exact H
   clear H
   have H := H1
   clear H1
   replace H := Option.bind_eq_some_iff.mp H
   obtain ⟨t287, A70, H⟩ := H
   replace H : (if t287 = true then (spec_TrialState.j0 k l0 (decide (a1_3 > 1)) a1_0 a1_1 a1_2 a1_3) else (spec_TrialState.j0 k l0 true a1_0 a1_1 a1_2 a1_3)) = some r := H
   have A7 := Aside0.mk A70
   clear A70
   by_cases c8 : t287 = true
   ·subst c8
    have H1 : (spec_TrialState.j0 k l0 (decide (a1_3 > 1)) a1_0 a1_1 a1_2 a1_3) = some r := by rw [if_pos rfl] at H; exact H
    clear H
    have H := H1
    clear H1
    have H' := Aside0.mk H
    clear H
    have hcz9_0 : w4.cell? ⟨gb285, 0, none⟩ = some (.int .i64 a1_0) := cC BK285 0
    have hcz9_1 : w4.cell? ⟨gb285, 1, none⟩ = some (.int .i64 a1_1) := cC BK285 1
    have hcz9_2 : w4.cell? ⟨gb285, 2, none⟩ = some (.int .i64 a1_2) := cC BK285 2
    have hcz9_3 : w4.cell? ⟨gb285, 3, none⟩ = some (.int .i64 a1_3) := cC BK285 3
    have hfz9_0 := blk_frozen BK285.out 0
    have hfz9_1 := blk_frozen BK285.out 1
    have hfz9_2 := blk_frozen BK285.out 2
    have hfz9_3 := blk_frozen BK285.out 3
    go_wp2_with (first | (go_at_call 193; (with_reducible refine (spec_IsTrial.calls a1_0 a1_1 a1_2 a1_3 true _ A5.out).mono ?_); rintro e w10 ⟨rfl, hb⟩; have n0_ := Aside0.mk (blk_below (qK BK285) hb); have n1_ := Aside0.mk (below_step (by repeat first | (with_reducible first | exact HB.out | apply bA | apply bN | apply bD | refine bS ?_ GE285.out) | exact HB.out) hb); clear BK285; clear HB; have BK285 := n0_; have HB := n1_; clear n0_ n1_; (try clear hb); (try clear hb2); (try clear hk); (try clear hi)) | (go_at_call 194; (with_reducible refine (spec_AreMarks.calls k _ _ l0 true _ ?side1 ?side2 A7.out).mono ?_); (case side1 => exact qC (Kd.C_below HR0.out HB.out)); (case side2 => exact HC0.out); rintro e w11 ⟨rfl, hb⟩; have n0_ := Aside0.mk (blk_below (qK BK285) hb); have n1_ := Aside0.mk (below_step (by repeat first | (with_reducible first | exact HB.out | apply bA | apply bN | apply bD | refine bS ?_ GE285.out) | exact HB.out) hb); clear BK285; clear HB; have BK285 := n0_; have HB := n1_; clear n0_ n1_; (try clear hb); (try clear hb2); (try clear hk); (try clear hi); have hcz12_0 : w11.cell? ⟨gb285, 0, none⟩ = some (.int .i64 a1_0) := cC BK285 0; have hcz12_1 : w11.cell? ⟨gb285, 1, none⟩ = some (.int .i64 a1_1) := cC BK285 1; have hcz12_2 : w11.cell? ⟨gb285, 2, none⟩ = some (.int .i64 a1_2) := cC BK285 2; have hcz12_3 : w11.cell? ⟨gb285, 3, none⟩ = some (.int .i64 a1_3) := cC BK285 3; have hfz12_0 := blk_frozen BK285.out 0; have hfz12_1 := blk_frozen BK285.out 1; have hfz12_2 := blk_frozen BK285.out 2; have hfz12_3 := blk_frozen BK285.out 3))
    repeat (go_quiet (first | (go_at_call 193; (with_reducible refine (spec_IsTrial.calls a1_0 a1_1 a1_2 a1_3 true _ A5.out).mono ?_); rintro e w10 ⟨rfl, hb⟩; have n0_ := Aside0.mk (blk_below (qK BK285) hb); have n1_ := Aside0.mk (below_step (by repeat first | (with_reducible first | exact HB.out | apply bA | apply bN | apply bD | refine bS ?_ GE285.out) | exact HB.out) hb); clear BK285; clear HB; have BK285 := n0_; have HB := n1_; clear n0_ n1_; (try clear hb); (try clear hb2); (try clear hk); (try clear hi)) | (go_at_call 194; (with_reducible refine (spec_AreMarks.calls k _ _ l0 true _ ?side1 ?side2 A7.out).mono ?_); (case side1 => exact qC (Kd.C_below HR0.out HB.out)); (case side2 => exact HC0.out); rintro e w11 ⟨rfl, hb⟩; have n0_ := Aside0.mk (blk_below (qK BK285) hb); have n1_ := Aside0.mk (below_step (by repeat first | (with_reducible first | exact HB.out | apply bA | apply bN | apply bD | refine bS ?_ GE285.out) | exact HB.out) hb); clear BK285; clear HB; have BK285 := n0_; have HB := n1_; clear n0_ n1_; (try clear hb); (try clear hb2); (try clear hk); (try clear hi); have hcz12_0 : w11.cell? ⟨gb285, 0, none⟩ = some (.int .i64 a1_0) := cC BK285 0; have hcz12_1 : w11.cell? ⟨gb285, 1, none⟩ = some (.int .i64 a1_1) := cC BK285 1; have hcz12_2 : w11.cell? ⟨gb285, 2, none⟩ = some (.int .i64 a1_2) := cC BK285 2; have hcz12_3 : w11.cell? ⟨gb285, 3, none⟩ = some (.int .i64 a1_3) := cC BK285 3; have hfz12_0 := blk_frozen BK285.out 0; have hfz12_1 := blk_frozen BK285.out 1; have hfz12_2 := blk_frozen BK285.out 2; have hfz12_3 := blk_frozen BK285.out 3)); try go_wp2_with (first | (go_at_call 193; (with_reducible refine (spec_IsTrial.calls a1_0 a1_1 a1_2 a1_3 true _ A5.out).mono ?_); rintro e w10 ⟨rfl, hb⟩; have n0_ := Aside0.mk (blk_below (qK BK285) hb); have n1_ := Aside0.mk (below_step (by repeat first | (with_reducible first | exact HB.out | apply bA | apply bN | apply bD | refine bS ?_ GE285.out) | exact HB.out) hb); clear BK285; clear HB; have BK285 := n0_; have HB := n1_; clear n0_ n1_; (try clear hb); (try clear hb2); (try clear hk); (try clear hi)) | (go_at_call 194; (with_reducible refine (spec_AreMarks.calls k _ _ l0 true _ ?side1 ?side2 A7.out).mono ?_); (case side1 => exact qC (Kd.C_below HR0.out HB.out)); (case side2 => exact HC0.out); rintro e w11 ⟨rfl, hb⟩; have n0_ := Aside0.mk (blk_below (qK BK285) hb); have n1_ := Aside0.mk (below_step (by repeat first | (with_reducible first | exact HB.out | apply bA | apply bN | apply bD | refine bS ?_ GE285.out) | exact HB.out) hb); clear BK285; clear HB; have BK285 := n0_; have HB := n1_; clear n0_ n1_; (try clear hb); (try clear hb2); (try clear hk); (try clear hi); have hcz12_0 : w11.cell? ⟨gb285, 0, none⟩ = some (.int .i64 a1_0) := cC BK285 0; have hcz12_1 : w11.cell? ⟨gb285, 1, none⟩ = some (.int .i64 a1_1) := cC BK285 1; have hcz12_2 : w11.cell? ⟨gb285, 2, none⟩ = some (.int .i64 a1_2) := cC BK285 2; have hcz12_3 : w11.cell? ⟨gb285, 3, none⟩ = some (.int .i64 a1_3) := cC BK285 3; have hfz12_0 := blk_frozen BK285.out 0; have hfz12_1 := blk_frozen BK285.out 1; have hfz12_2 := blk_frozen BK285.out 2; have hfz12_3 := blk_frozen BK285.out 3)))
    go_meet
    case rel => exact ⟨_, (decide (a1_3 > 1)), (by first | rfl | (simp; done) | (simp [*]; done)), H', ⟨by first | omega | exact Nat.le_refl _⟩, ⟨by (with_reducible repeat first | refine kN ?_ _ | refine kD ?_ | refine kA ?_ _); exact BK285.out⟩, ⟨by repeat (first | (with_reducible first | exact HB.out | apply bA | apply bN | apply bD | refine bS ?_ GE285.out) | exact HB.out)⟩⟩
   ·replace c8 := Bool.eq_false_iff.mpr c8
    subst c8
    have H1 : (spec_TrialState.j0 k l0 true a1_0 a1_1 a1_2 a1_3) = some r := by rw [if_neg (show ¬ (false = true) by decide)] at H; exact H
    clear H
    have H := H1
    clear H1
    have H' := Aside0.mk H
    clear H
    have hcz13_0 : w4.cell? ⟨gb285, 0, none⟩ = some (.int .i64 a1_0) := cC BK285 0
    have hcz13_1 : w4.cell? ⟨gb285, 1, none⟩ = some (.int .i64 a1_1) := cC BK285 1
    have hcz13_2 : w4.cell? ⟨gb285, 2, none⟩ = some (.int .i64 a1_2) := cC BK285 2
    have hcz13_3 : w4.cell? ⟨gb285, 3, none⟩ = some (.int .i64 a1_3) := cC BK285 3
    have hfz13_0 := blk_frozen BK285.out 0
    have hfz13_1 := blk_frozen BK285.out 1
    have hfz13_2 := blk_frozen BK285.out 2
    have hfz13_3 := blk_frozen BK285.out 3
    go_wp2_with (first | (go_at_call 193; (with_reducible refine (spec_IsTrial.calls a1_0 a1_1 a1_2 a1_3 true _ A5.out).mono ?_); rintro e w14 ⟨rfl, hb⟩; have n0_ := Aside0.mk (blk_below (qK BK285) hb); have n1_ := Aside0.mk (below_step (by repeat first | (with_reducible first | exact HB.out | apply bA | apply bN | apply bD | refine bS ?_ GE285.out) | exact HB.out) hb); clear BK285; clear HB; have BK285 := n0_; have HB := n1_; clear n0_ n1_; (try clear hb); (try clear hb2); (try clear hk); (try clear hi)) | (go_at_call 194; (with_reducible refine (spec_AreMarks.calls k _ _ l0 false _ ?side1 ?side2 A7.out).mono ?_); (case side1 => exact qC (Kd.C_below HR0.out HB.out)); (case side2 => exact HC0.out); rintro e w15 ⟨rfl, hb⟩; have n0_ := Aside0.mk (blk_below (qK BK285) hb); have n1_ := Aside0.mk (below_step (by repeat first | (with_reducible first | exact HB.out | apply bA | apply bN | apply bD | refine bS ?_ GE285.out) | exact HB.out) hb); clear BK285; clear HB; have BK285 := n0_; have HB := n1_; clear n0_ n1_; (try clear hb); (try clear hb2); (try clear hk); (try clear hi)))
    repeat (go_quiet (first | (go_at_call 193; (with_reducible refine (spec_IsTrial.calls a1_0 a1_1 a1_2 a1_3 true _ A5.out).mono ?_); rintro e w14 ⟨rfl, hb⟩; have n0_ := Aside0.mk (blk_below (qK BK285) hb); have n1_ := Aside0.mk (below_step (by repeat first | (with_reducible first | exact HB.out | apply bA | apply bN | apply bD | refine bS ?_ GE285.out) | exact HB.out) hb); clear BK285; clear HB; have BK285 := n0_; have HB := n1_; clear n0_ n1_; (try clear hb); (try clear hb2); (try clear hk); (try clear hi)) | (go_at_call 194; (with_reducible refine (spec_AreMarks.calls k _ _ l0 false _ ?side1 ?side2 A7.out).mono ?_); (case side1 => exact qC (Kd.C_below HR0.out HB.out)); (case side2 => exact HC0.out); rintro e w15 ⟨rfl, hb⟩; have n0_ := Aside0.mk (blk_below (qK BK285) hb); have n1_ := Aside0.mk (below_step (by repeat first | (with_reducible first | exact HB.out | apply bA | apply bN | apply bD | refine bS ?_ GE285.out) | exact HB.out) hb); clear BK285; clear HB; have BK285 := n0_; have HB := n1_; clear n0_ n1_; (try clear hb); (try clear hb2); (try clear hk); (try clear hi))); try go_wp2_with (first | (go_at_call 193; (with_reducible refine (spec_IsTrial.calls a1_0 a1_1 a1_2 a1_3 true _ A5.out).mono ?_); rintro e w14 ⟨rfl, hb⟩; have n0_ := Aside0.mk (blk_below (qK BK285) hb); have n1_ := Aside0.mk (below_step (by repeat first | (with_reducible first | exact HB.out | apply bA | apply bN | apply bD | refine bS ?_ GE285.out) | exact HB.out) hb); clear BK285; clear HB; have BK285 := n0_; have HB := n1_; clear n0_ n1_; (try clear hb); (try clear hb2); (try clear hk); (try clear hi)) | (go_at_call 194; (with_reducible refine (spec_AreMarks.calls k _ _ l0 false _ ?side1 ?side2 A7.out).mono ?_); (case side1 => exact qC (Kd.C_below HR0.out HB.out)); (case side2 => exact HC0.out); rintro e w15 ⟨rfl, hb⟩; have n0_ := Aside0.mk (blk_below (qK BK285) hb); have n1_ := Aside0.mk (below_step (by repeat first | (with_reducible first | exact HB.out | apply bA | apply bN | apply bD | refine bS ?_ GE285.out) | exact HB.out) hb); clear BK285; clear HB; have BK285 := n0_; have HB := n1_; clear n0_ n1_; (try clear hb); (try clear hb2); (try clear hk); (try clear hi))))
    go_meet
    case rel => exact ⟨_, (true), (by first | rfl | (simp; done) | (simp [*]; done)), H', ⟨by first | omega | exact Nat.le_refl _⟩, ⟨by (with_reducible repeat first | refine kN ?_ _ | refine kD ?_ | refine kA ?_ _); exact BK285.out⟩, ⟨by repeat (first | (with_reducible first | exact HB.out | apply bA | apply bN | apply bD | refine bS ?_ GE285.out) | exact HB.out)⟩⟩
  ·replace c6 := Bool.eq_false_iff.mpr c6
   subst c6
   have H1 : (spec_TrialState.j0 k l0 true a1_0 a1_1 a1_2 a1_3) = some r := by rw [if_neg (show ¬ (false = true) by decide)] at H; exact H
   clear H
   have H := H1
   clear H1
   have H' := Aside0.mk H
   clear H
   have hcz16_0 : w4.cell? ⟨gb285, 0, none⟩ = some (.int .i64 a1_0) := cC BK285 0
   have hcz16_1 : w4.cell? ⟨gb285, 1, none⟩ = some (.int .i64 a1_1) := cC BK285 1
   have hcz16_2 : w4.cell? ⟨gb285, 2, none⟩ = some (.int .i64 a1_2) := cC BK285 2
   have hcz16_3 : w4.cell? ⟨gb285, 3, none⟩ = some (.int .i64 a1_3) := cC BK285 3
   have hfz16_0 := blk_frozen BK285.out 0
   have hfz16_1 := blk_frozen BK285.out 1
   have hfz16_2 := blk_frozen BK285.out 2
   have hfz16_3 := blk_frozen BK285.out 3
   go_wp2_with (first | (go_at_call 193; (with_reducible refine (spec_IsTrial.calls a1_0 a1_1 a1_2 a1_3 false _ A5.out).mono ?_); rintro e w17 ⟨rfl, hb⟩; have n0_ := Aside0.mk (blk_below (qK BK285) hb); have n1_ := Aside0.mk (below_step (by repeat first | (with_reducible first | exact HB.out | apply bA | apply bN | apply bD | refine bS ?_ GE285.out) | exact HB.out) hb); clear BK285; clear HB; have BK285 := n0_; have HB := n1_; clear n0_ n1_; (try clear hb); (try clear hb2); (try clear hk); (try clear hi)))
   repeat (go_quiet (first | (go_at_call 193; (with_reducible refine (spec_IsTrial.calls a1_0 a1_1 a1_2 a1_3 false _ A5.out).mono ?_); rintro e w17 ⟨rfl, hb⟩; have n0_ := Aside0.mk (blk_below (qK BK285) hb); have n1_ := Aside0.mk (below_step (by repeat first | (with_reducible first | exact HB.out | apply bA | apply bN | apply bD | refine bS ?_ GE285.out) | exact HB.out) hb); clear BK285; clear HB; have BK285 := n0_; have HB := n1_; clear n0_ n1_; (try clear hb); (try clear hb2); (try clear hk); (try clear hi))); try go_wp2_with (first | (go_at_call 193; (with_reducible refine (spec_IsTrial.calls a1_0 a1_1 a1_2 a1_3 false _ A5.out).mono ?_); rintro e w17 ⟨rfl, hb⟩; have n0_ := Aside0.mk (blk_below (qK BK285) hb); have n1_ := Aside0.mk (below_step (by repeat first | (with_reducible first | exact HB.out | apply bA | apply bN | apply bD | refine bS ?_ GE285.out) | exact HB.out) hb); clear BK285; clear HB; have BK285 := n0_; have HB := n1_; clear n0_ n1_; (try clear hb); (try clear hb2); (try clear hk); (try clear hi))))
   go_meet
   case rel => exact ⟨_, (true), (by first | rfl | (simp; done) | (simp [*]; done)), H', ⟨by first | omega | exact Nat.le_refl _⟩, ⟨by (with_reducible repeat first | refine kN ?_ _ | refine kD ?_ | refine kA ?_ _); exact BK285.out⟩, ⟨by repeat (first | (with_reducible first | exact HB.out | apply bA | apply bN | apply bD | refine bS ?_ GE285.out) | exact HB.out)⟩⟩
 case rest =>
  clear HC3
  try clear c1
  try clear p2
  try clear c6
  try clear c8
  try clear c17
  try clear hcz12_0
  try clear hcz12_1
  try clear hcz12_2
  try clear hcz12_3
  try clear hcz13_0
  try clear hcz13_1
  try clear hcz13_2
  try clear hcz13_3
  try clear hcz16_0
  try clear hcz16_1
  try clear hcz16_2
  try clear hcz16_3
  try clear hcz9_0
  try clear hcz9_1
  try clear hcz9_2
  try clear hcz9_3
  try clear hfz12_0
  try clear hfz12_1
  try clear hfz12_2
  try clear hfz12_3
  try clear hfz13_0
  try clear hfz13_1
  try clear hfz13_2
  try clear hfz13_3
  try clear hfz16_0
  try clear hfz16_1
  try clear hfz16_2
  try clear hfz16_3
  try clear hfz9_0
  try clear hfz9_1
  try clear hfz9_2
  try clear hfz9_3
  obtain ⟨kq, x5_2, rfl, HA, HJ2, BK285, HB⟩ := hcut
  cases kq with
  | zero => exact absurd HA.out (by simp [spec_TrialState.j0])
  | succ kj2 =>
   have H := HA.out
   clear HA
   simp only [spec_TrialState.j0] at H
   by_cases c18 : x5_2 = true
   ·subst c18
    have H1 : (some 2) = some r := by rw [if_pos rfl] at H; exact H
    clear H
    have H := H1
    clear H1
    obtain rfl := Option.some.inj H
    go_wp2
    repeat (go_quiet (fail); try go_wp2)
    go_ret
    exact ⟨by first | rfl | (simp [errW_none, errW_some] <;> rfl) | (simp [*, errW_none, errW_some] <;> rfl), by repeat (first | (with_reducible first | exact HB.out | apply bA | apply bN | apply bD | refine bS ?_ GE285.out) | exact HB.out)⟩
   ·replace c18 := Bool.eq_false_iff.mpr c18
    subst c18
    have H1 : (if (l0.length : Int) > 0 then ((spec_NeedFor.f l0).bind fun t288 => (if a1_2 ≥ t288 then (some 1) else (some 0))) else (some 0)) = some r := by rw [if_neg (show ¬ (false = true) by decide)] at H; exact H
    clear H
    have H := H1
    clear H1
    by_cases c19 : (l0.length : Int) > 0
    ·rw [if_pos c19] at H
     have c19b0 : decide (0 < (l0.length : Int)) = true := decide_eq_true c19
     have c19b1 : decide (0 < l0.length) = true := decide_eq_true (by omega)
     clear c19
     replace H := Option.bind_eq_some_iff.mp H
     obtain ⟨t288, A200, H⟩ := H
     replace H : (if a1_2 ≥ t288 then (some 1) else (some 0)) = some r := H
     have A20 := Aside0.mk A200
     clear A200
     by_cases c21 : a1_2 ≥ t288
     ·rw [if_pos c21] at H
      have c21b0 : decide (t288 ≤ a1_2) = true := decide_eq_true c21
      clear c21
      obtain rfl := Option.some.inj H
      have hcz22_0 : wc.cell? ⟨gb285, 0, none⟩ = some (.int .i64 a1_0) := cC BK285 0
      have hcz22_1 : wc.cell? ⟨gb285, 1, none⟩ = some (.int .i64 a1_1) := cC BK285 1
      have hcz22_2 : wc.cell? ⟨gb285, 2, none⟩ = some (.int .i64 a1_2) := cC BK285 2
      have hcz22_3 : wc.cell? ⟨gb285, 3, none⟩ = some (.int .i64 a1_3) := cC BK285 3
      have hfz22_0 := blk_frozen BK285.out 0
      have hfz22_1 := blk_frozen BK285.out 1
      have hfz22_2 := blk_frozen BK285.out 2
      have hfz22_3 := blk_frozen BK285.out 3
      go_wp2_with (first | (go_at_call 195; (with_reducible refine (spec_NeedFor.calls _ _ l0 t288 _ ?side1 ?side2 A20.out).mono ?_); (case side1 => exact qC (Kd.C_below HR0.out HB.out)); (case side2 => exact HC0.out); rintro e w' ⟨rfl, ⟨nd, rfl⟩⟩; (try first | exact ⟨rfl, _, World.drewN_drewN _ _ _⟩ | exact ⟨rfl, _, Eq.trans (World.drewN_drewN _ _ _) (congrArg (World.drewN _) (Nat.add_assoc _ _ _))⟩)))
      repeat (go_quiet (first | (go_at_call 195; (with_reducible refine (spec_NeedFor.calls _ _ l0 t288 _ ?side1 ?side2 A20.out).mono ?_); (case side1 => exact qC (Kd.C_below HR0.out HB.out)); (case side2 => exact HC0.out); rintro e w' ⟨rfl, ⟨nd, rfl⟩⟩; (try first | exact ⟨rfl, _, World.drewN_drewN _ _ _⟩ | exact ⟨rfl, _, Eq.trans (World.drewN_drewN _ _ _) (congrArg (World.drewN _) (Nat.add_assoc _ _ _))⟩))); try go_wp2_with (first | (go_at_call 195; (with_reducible refine (spec_NeedFor.calls _ _ l0 t288 _ ?side1 ?side2 A20.out).mono ?_); (case side1 => exact qC (Kd.C_below HR0.out HB.out)); (case side2 => exact HC0.out); rintro e w' ⟨rfl, ⟨nd, rfl⟩⟩; (try first | exact ⟨rfl, _, World.drewN_drewN _ _ _⟩ | exact ⟨rfl, _, Eq.trans (World.drewN_drewN _ _ _) (congrArg (World.drewN _) (Nat.add_assoc _ _ _))⟩))))
      go_ret
      exact ⟨by first | rfl | (simp [errW_none, errW_some] <;> rfl) | (simp [*, errW_none, errW_some] <;> rfl), by repeat (first | (with_reducible first | exact HB.out | apply bA | apply bN | apply bD | refine bS ?_ GE285.out) | exact HB.out)⟩
     ·rw [if_neg c21] at H
      have c21b0 : decide (t288 ≤ a1_2) = false := decide_eq_false c21
      clear c21
      obtain rfl := Option.some.inj H
      have hcz23_0 : wc.cell? ⟨gb285, 0, none⟩ = some (.int .i64 a1_0) := cC BK285 0
      have hcz23_1 : wc.cell? ⟨gb285, 1, none⟩ = some (.int .i64 a1_1) := cC BK285 1
      have hcz23_2 : wc.cell? ⟨gb285, 2, none⟩ = some (.int .i64 a1_2) := cC BK285 2
      have hcz23_3 : wc.cell? ⟨gb285, 3, none⟩ = some (.int .i64 a1_3) := cC BK285 3
      have hfz23_0 := blk_frozen BK285.out 0
      have hfz23_1 := blk_frozen BK285.out 1
      have hfz23_2 := blk_frozen BK285.out 2
      have hfz23_3 := blk_frozen BK285.out 3
      go_wp2_with (first | (go_at_call 195; (with_reducible refine (spec_NeedFor.calls _ _ l0 t288 _ ?side1 ?side2 A20.out).mono ?_); (case side1 => exact qC (Kd.C_below HR0.out HB.out)); (case side2 => exact HC0.out); rintro e w' ⟨rfl, ⟨nd, rfl⟩⟩; (try first | exact ⟨rfl, _, World.drewN_drewN _ _ _⟩ | exact ⟨rfl, _, Eq.trans (World.drewN_drewN _ _ _) (congrArg (World.drewN _) (Nat.add_assoc _ _ _))⟩)))
      repeat (go_quiet (first | (go_at_call 195; (with_reducible refine (spec_NeedFor.calls _ _ l0 t288 _ ?side1 ?side2 A20.out).mono ?_); (case side1 => exact qC (Kd.C_below HR0.out HB.out)); (case side2 => exact HC0.out); rintro e w' ⟨rfl, ⟨nd, rfl⟩⟩; (try first | exact ⟨rfl, _, World.drewN_drewN _ _ _⟩ | exact ⟨rfl, _, Eq.trans (World.drewN_drewN _ _ _) (congrArg (World.drewN _) (Nat.add_assoc _ _ _))⟩))); try go_wp2_with (first | (go_at_call 195; (with_reducible refine (spec_NeedFor.calls _ _ l0 t288 _ ?side1 ?side2 A20.out).mono ?_); (case side1 => exact qC (Kd.C_below HR0.out HB.out)); (case side2 => exact HC0.out); rintro e w' ⟨rfl, ⟨nd, rfl⟩⟩; (try first | exact ⟨rfl, _, World.drewN_drewN _ _ _⟩ | exact ⟨rfl, _, Eq.trans (World.drewN_drewN _ _ _) (congrArg (World.drewN _) (Nat.add_assoc _ _ _))⟩))))
      go_ret
      exact ⟨by first | rfl | (simp [errW_none, errW_some] <;> rfl) | (simp [*, errW_none, errW_some] <;> rfl), by repeat (first | (with_reducible first | exact HB.out | apply bA | apply bN | apply bD | refine bS ?_ GE285.out) | exact HB.out)⟩
    ·rw [if_neg c19] at H
     have c19b0 : decide (0 < (l0.length : Int)) = false := decide_eq_false c19
     have c19b1 : decide (0 < l0.length) = false := decide_eq_false (by omega)
     clear c19
     obtain rfl := Option.some.inj H
     go_wp2
     repeat (go_quiet (fail); try go_wp2)
     go_ret
     exact ⟨by first | rfl | (simp [errW_none, errW_some] <;> rfl) | (simp [*, errW_none, errW_some] <;> rfl), by repeat (first | (with_reducible first | exact HB.out | apply bA | apply bN | apply bD | refine bS ?_ GE285.out) | exact HB.out)⟩

/-! ### spec_Mod: function 196 -/
def spec_Mod.f (a0 : Int) (a1 : Int) : Option (Int) := (spec_l1In.f a1 1 1000000000000).bind fun t289 => (if t289 = true then (if a1 = 0 then (none) else (some (Int.tmod (wrap64 ((Int.tmod a0 a1) + a1)) a1))) else (some 0))
set_option maxHeartbeats 8000000 in
set_option maxRecDepth 100000 in
theorem spec_Mod.calls (a0 : Int) (a1 : Int) (r : Int) (w : World) (h : spec_Mod.f a0 a1 = some r) :
  Calls Try.prog 196 #[.int .i64 a0, .int .i64 a1] w fun e w' => e = .returned (.int .i64 r) ∧ Drawn0 w w' := by
 have H : ((spec_l1In.f a1 1 1000000000000).bind fun t289 => (if t289 = true then (if a1 = 0 then (none) else (some (Int.tmod (wrap64 ((Int.tmod a0 a1) + a1)) a1))) else (some 0))) = some r := h
 clear h
 replace H := Option.bind_eq_some_iff.mp H
 obtain ⟨t289, A30, H⟩ := H
 replace H : (if t289 = true then (if a1 = 0 then (none) else (some (Int.tmod (wrap64 ((Int.tmod a0 a1) + a1)) a1))) else (some 0)) = some r := H
 have A3 := Aside0.mk A30
 clear A30
 by_cases c4 : t289 = true
 ·subst c4
  have H1 : (if a1 = 0 then (none) else (some (Int.tmod (wrap64 ((Int.tmod a0 a1) + a1)) a1))) = some r := by rw [if_pos rfl] at H; exact H
  clear H
  have H := H1
  clear H1
  by_cases c5 : a1 = 0
  ·rw [if_pos c5] at H
   exact absurd H (by simp)
  ·rw [if_neg c5] at H
   have c5b0 : (a1 == 0) = false := beq_eq_false_iff_ne.mpr c5
   have c5b1 : (a1 != 0) = true := bne_iff_ne.mpr c5
   obtain rfl := Option.some.inj H
   go_enter Try.func196, Try.ntmps196
   go_wp2_with (first | ((with_reducible refine gate_callee (f := 151) rfl ?_); refine goesL_ (some 6) rfl rfl Try.func151 (by kernel_rfl) rfl #[.int .i64 a1, .int .i64 1, .int .i64 1000000000000] rfl (by (try simp only [mA, mC, mN]); first | done | rfl | (simp only [lD, lT]; rfl)) ?_; (with_reducible refine (spec_l1In.calls a1 1 1000000000000 true _ A3.out).mono ?_); rintro e w' ⟨rfl, ⟨nd, rfl⟩⟩; refine ⟨_, rfl, ?_⟩))
   go_ret
   exact ⟨by first | rfl | (simp; done) | (simp [*]; done), by repeat (first | exact Drawn0.refl _ | apply Drawn0.step)⟩
 ·replace c4 := Bool.eq_false_iff.mpr c4
  subst c4
  have H1 : (some 0) = some r := by rw [if_neg (show ¬ (false = true) by decide)] at H; exact H
  clear H
  have H := H1
  clear H1
  obtain rfl := Option.some.inj H
  go_enter Try.func196, Try.ntmps196
  go_wp2_with (first | ((with_reducible refine gate_callee (f := 151) rfl ?_); refine goesL_ (some 6) rfl rfl Try.func151 (by kernel_rfl) rfl #[.int .i64 a1, .int .i64 1, .int .i64 1000000000000] rfl (by (try simp only [mA, mC, mN]); first | done | rfl | (simp only [lD, lT]; rfl)) ?_; (with_reducible refine (spec_l1In.calls a1 1 1000000000000 false _ A3.out).mono ?_); rintro e w' ⟨rfl, ⟨nd, rfl⟩⟩; refine ⟨_, rfl, ?_⟩))
  go_ret
  exact ⟨by first | rfl | (simp; done) | (simp [*]; done), by repeat (first | exact Drawn0.refl _ | apply Drawn0.step)⟩

end Go.Proofs.Ytppgealmedaihaa.PFnTrials
