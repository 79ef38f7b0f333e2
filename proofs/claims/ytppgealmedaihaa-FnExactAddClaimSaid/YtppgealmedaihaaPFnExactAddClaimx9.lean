-- The printed functions of one law and their contracts, over contracts of this session's own (hand.py).
import Derived.Test.YtppgealmedaihaaPFnExactAddClaimx0
import Derived.Test.YtppgealmedaihaaPFnExactAddClaimx1
import Derived.Test.YtppgealmedaihaaPFnExactAddClaimx3
import Derived.Test.YtppgealmedaihaaPFnExactAddClaimx4
import Derived.Test.YtppgealmedaihaaPFnExactAddClaimx7
import Derived.Test.YtppgealmedaihaaPFnExactAddClaimx8
namespace Go.Proofs.Ytppgealmedaihaa.PFnExactAddClaim
open Go.RowKit Go.Proofs.YtppgealmedaihaaW.PrintWords Go.Proofs.YtppgealmedaihaaW.PrintLast Go.Proofs.YtppgealmedaihaaW.PrintMore Go.Proofs.Ytppgealmedaihaa.Short
attribute [local go_sem] max2_int min2_int max_two min_two max_three min_three max_four min_four   -- for this text's walks alone
set_option linter.unusedVariables false
set_option linter.unusedSimpArgs false

/-! ### laws_FnExactAddClaim: function 7 -/
mutual
def laws_FnExactAddClaim.j0 : Nat → List (S78) → List (S84) → Bool → List (S84) → List (S84) → Bool → Bool → Int → Int → Int → Int → Int → Option (Bool)
 | 0, _, _, _, _, _, _, _, _, _, _, _, _ => none
 | k + 1, x0, x6, x7, x8, x9, x10, x46, x223000, x223001, x223002, x223003, x223004 => if x46 = true then (some false) else ((laws_toClaimS.f k x0).bind fun t249 => ((laws_eqClaimS.f k x8 t249).bind fun t252 => (if t252 = true then ((laws_markClaimS.f k x8 1).bind fun bt253 => (if bt253.1 < 0 then (laws_FnExactAddClaim.j1 k x0 x6 x7 x9 true x223000 x223001 x223002 x223003 x223004) else ((laws_eqClaimS.f k x9 x6).bind fun t255 => (if t255 = true then (laws_FnExactAddClaim.j1 k x0 x6 x7 x9 (x10 != x7) x223000 x223001 x223002 x223003 x223004) else (laws_FnExactAddClaim.j1 k x0 x6 x7 x9 true x223000 x223001 x223002 x223003 x223004))))) else (some false))))
def laws_FnExactAddClaim.j1 : Nat → List (S78) → List (S84) → Bool → List (S84) → Bool → Int → Int → Int → Int → Int → Option (Bool)
 | 0, _, _, _, _, _, _, _, _, _, _ => none
 | k + 1, x0, x6, x7, x9, x67, x223000, x223001, x223002, x223003, x223004 => if x67 = true then (some false) else ((laws_markClaimS.f k x9 1).bind fun bt256 => ((laws_heldClaimS.f k bt256.2 1).bind fun t258 => (if t258 < 0 then (some false) else (if t258 = bt256.1 then ((laws_toClaimS.f k x0).bind fun t259 => ((laws_toClaim.f x223000 x223001 x223002 x223003 x223004).bind fun bt262 => ((impl_AddClaim.f k t259 bt262.1 bt262.2.1 bt262.2.2.1 bt262.2.2.2.1 bt262.2.2.2.2).bind fun bt267 => ((laws_eqClaimS.f k bt267.1 x6).bind fun t271 => (if t271 = true then (laws_FnExactAddClaim.j2 k bt256.2 bt256.1 (bt267.2 != x7)) else (laws_FnExactAddClaim.j2 k bt256.2 bt256.1 true)))))) else (some false)))))
def laws_FnExactAddClaim.j2 : Nat → List (S84) → Int → Bool → Option (Bool)
 | 0, _, _, _ => none
 | k + 1, x9, x12, x95 => if x95 = true then (some false) else ((laws_heldClaimS.f k x9 1).bind fun t272 => (if t272 < 0 then (some false) else (if t272 = x12 then (some true) else (some false))))
end
def laws_FnExactAddClaim.f (k : Nat) (l0 : List (S78)) (a1_0 : Int) (a1_1 : Int) (a1_2 : Int) (a1_3 : Int) (a1_4 : Int) : Option (Bool) := (laws_szClaimS.f l0 1048576).bind fun t223 => (if t223 < 0 then (some true) else ((laws_toClaimS.f k l0).bind fun t224 => ((laws_toClaim.f a1_0 a1_1 a1_2 a1_3 a1_4).bind fun bt227 => ((spec_AddClaim.f k t224 bt227.1 bt227.2.1 bt227.2.2.1 bt227.2.2.2.1 bt227.2.2.2.2).bind fun bt232 => ((laws_toClaimS.f k l0).bind fun t236 => ((laws_toClaim.f a1_0 a1_1 a1_2 a1_3 a1_4).bind fun bt239 => ((impl_AddClaim.f k t236 bt239.1 bt239.2.1 bt239.2.2.1 bt239.2.2.2.1 bt239.2.2.2.2).bind fun bt244 => ((laws_eqClaimS.f k bt244.1 bt232.1).bind fun t248 => (if t248 = true then (laws_FnExactAddClaim.j0 k l0 bt232.1 bt232.2 t236 bt244.1 bt244.2 (bt244.2 != bt232.2) a1_0 a1_1 a1_2 a1_3 a1_4) else (laws_FnExactAddClaim.j0 k l0 bt232.1 bt232.2 t236 bt244.1 bt244.2 true a1_0 a1_1 a1_2 a1_3 a1_4))))))))))
theorem laws_FnExactAddClaim.mono_l : ∀ k, (∀ y0 y1 y2 y3 y4 y5 y6 y7 y8 y9 y10 y11, LeO (laws_FnExactAddClaim.j0 k y0 y1 y2 y3 y4 y5 y6 y7 y8 y9 y10 y11) (laws_FnExactAddClaim.j0 (k + 1) y0 y1 y2 y3 y4 y5 y6 y7 y8 y9 y10 y11)) ∧ (∀ y0 y1 y2 y3 y4 y5 y6 y7 y8 y9, LeO (laws_FnExactAddClaim.j1 k y0 y1 y2 y3 y4 y5 y6 y7 y8 y9) (laws_FnExactAddClaim.j1 (k + 1) y0 y1 y2 y3 y4 y5 y6 y7 y8 y9)) ∧ (∀ y0 y1 y2, LeO (laws_FnExactAddClaim.j2 k y0 y1 y2) (laws_FnExactAddClaim.j2 (k + 1) y0 y1 y2))
 | 0 => ⟨fun _ _ _ _ _ _ _ _ _ _ _ _ r h => by simp [laws_FnExactAddClaim.j0] at h, fun _ _ _ _ _ _ _ _ _ _ r h => by simp [laws_FnExactAddClaim.j1] at h, fun _ _ _ r h => by simp [laws_FnExactAddClaim.j2] at h⟩
 | k + 1 => by
  obtain ⟨ih0, ih1, ih2⟩ := laws_FnExactAddClaim.mono_l k
  refine ⟨?_, ?_, ?_⟩
  ·intro y0 y1 y2 y3 y4 y5 y6 y7 y8 y9 y10 y11
   unfold laws_FnExactAddClaim.j0
   repeat' first
   | (with_reducible exact ih0 _ _ _ _ _ _ _ _ _ _ _ _)
   | (with_reducible exact ih1 _ _ _ _ _ _ _ _ _ _)
   | (with_reducible exact ih2 _ _ _)
   | (with_reducible exact impl_AddClaim.mono _ _ _ _ _ _ _)
   | (with_reducible exact laws_eqClaimS.mono _ _ _)
   | (with_reducible exact laws_heldClaimS.mono _ _ _)
   | (with_reducible exact laws_markClaimS.mono _ _ _)
   | (with_reducible exact laws_toClaimS.mono _ _)
   | (with_reducible exact spec_AddClaim.mono _ _ _ _ _ _ _)
   | (with_reducible exact LeO.refl _)
   | (with_reducible exact LeO.none _)
   | (with_reducible refine LeO.ite ?_ ?_)
   | (with_reducible refine LeO.bind ?_ (fun _ => ?_))
   | exact ih0 _ _ _ _ _ _ _ _ _ _ _ _
   | exact ih1 _ _ _ _ _ _ _ _ _ _
   | exact ih2 _ _ _
   | exact impl_AddClaim.mono _ _ _ _ _ _ _
   | exact laws_eqClaimS.mono _ _ _
   | exact laws_heldClaimS.mono _ _ _
   | exact laws_markClaimS.mono _ _ _
   | exact laws_toClaimS.mono _ _
   | exact spec_AddClaim.mono _ _ _ _ _ _ _
   | exact LeO.none _
   | refine LeO.ite ?_ ?_
   | refine LeO.bind ?_ (fun _ => ?_)
  ·intro y0 y1 y2 y3 y4 y5 y6 y7 y8 y9
   unfold laws_FnExactAddClaim.j1
   repeat' first
   | (with_reducible exact ih0 _ _ _ _ _ _ _ _ _ _ _ _)
   | (with_reducible exact ih1 _ _ _ _ _ _ _ _ _ _)
   | (with_reducible exact ih2 _ _ _)
   | (with_reducible exact impl_AddClaim.mono _ _ _ _ _ _ _)
   | (with_reducible exact laws_eqClaimS.mono _ _ _)
   | (with_reducible exact laws_heldClaimS.mono _ _ _)
   | (with_reducible exact laws_markClaimS.mono _ _ _)
   | (with_reducible exact laws_toClaimS.mono _ _)
   | (with_reducible exact spec_AddClaim.mono _ _ _ _ _ _ _)
   | (with_reducible exact LeO.refl _)
   | (with_reducible exact LeO.none _)
   | (with_reducible refine LeO.ite ?_ ?_)
   | (with_reducible refine LeO.bind ?_ (fun _ => ?_))
   | exact ih0 _ _ _ _ _ _ _ _ _ _ _ _
   | exact ih1 _ _ _ _ _ _ _ _ _ _
   | exact ih2 _ _ _
   | exact impl_AddClaim.mono _ _ _ _ _ _ _
   | exact laws_eqClaimS.mono _ _ _
   | exact laws_heldClaimS.mono _ _ _
   | exact laws_markClaimS.mono _ _ _
   | exact laws_toClaimS.mono _ _
   | exact spec_AddClaim.mono _ _ _ _ _ _ _
   | exact LeO.none _
   | refine LeO.ite ?_ ?_
   | refine LeO.bind ?_ (fun _ => ?_)
  ·intro y0 y1 y2
   unfold laws_FnExactAddClaim.j2
   repeat' first
   | (with_reducible exact ih0 _ _ _ _ _ _ _ _ _ _ _ _)
   | (with_reducible exact ih1 _ _ _ _ _ _ _ _ _ _)
   | (with_reducible exact ih2 _ _ _)
   | (with_reducible exact impl_AddClaim.mono _ _ _ _ _ _ _)
   | (with_reducible exact laws_eqClaimS.mono _ _ _)
   | (with_reducible exact laws_heldClaimS.mono _ _ _)
   | (with_reducible exact laws_markClaimS.mono _ _ _)
   | (with_reducible exact laws_toClaimS.mono _ _)
   | (with_reducible exact spec_AddClaim.mono _ _ _ _ _ _ _)
   | (with_reducible exact LeO.refl _)
   | (with_reducible exact LeO.none _)
   | (with_reducible refine LeO.ite ?_ ?_)
   | (with_reducible refine LeO.bind ?_ (fun _ => ?_))
   | exact ih0 _ _ _ _ _ _ _ _ _ _ _ _
   | exact ih1 _ _ _ _ _ _ _ _ _ _
   | exact ih2 _ _ _
   | exact impl_AddClaim.mono _ _ _ _ _ _ _
   | exact laws_eqClaimS.mono _ _ _
   | exact laws_heldClaimS.mono _ _ _
   | exact laws_markClaimS.mono _ _ _
   | exact laws_toClaimS.mono _ _
   | exact spec_AddClaim.mono _ _ _ _ _ _ _
   | exact LeO.none _
   | refine LeO.ite ?_ ?_
   | refine LeO.bind ?_ (fun _ => ?_)
theorem laws_FnExactAddClaim.mono : ∀ a0 a1 a2 a3 a4 a5 k, LeO (laws_FnExactAddClaim.f k a0 a1 a2 a3 a4 a5) (laws_FnExactAddClaim.f (k + 1) a0 a1 a2 a3 a4 a5) := by
 intro a0 a1 a2 a3 a4 a5 k
 obtain ⟨ih0, ih1, ih2⟩ := laws_FnExactAddClaim.mono_l k
 unfold laws_FnExactAddClaim.f
 repeat' first
   | (with_reducible exact ih0 _ _ _ _ _ _ _ _ _ _ _ _)
   | (with_reducible exact ih1 _ _ _ _ _ _ _ _ _ _)
   | (with_reducible exact ih2 _ _ _)
   | (with_reducible exact impl_AddClaim.mono _ _ _ _ _ _ _)
   | (with_reducible exact laws_eqClaimS.mono _ _ _)
   | (with_reducible exact laws_heldClaimS.mono _ _ _)
   | (with_reducible exact laws_markClaimS.mono _ _ _)
   | (with_reducible exact laws_toClaimS.mono _ _)
   | (with_reducible exact spec_AddClaim.mono _ _ _ _ _ _ _)
   | (with_reducible exact LeO.refl _)
   | (with_reducible exact LeO.none _)
   | (with_reducible refine LeO.ite ?_ ?_)
   | (with_reducible refine LeO.bind ?_ (fun _ => ?_))
   | exact ih0 _ _ _ _ _ _ _ _ _ _ _ _
   | exact ih1 _ _ _ _ _ _ _ _ _ _
   | exact ih2 _ _ _
   | exact impl_AddClaim.mono _ _ _ _ _ _ _
   | exact laws_eqClaimS.mono _ _ _
   | exact laws_heldClaimS.mono _ _ _
   | exact laws_markClaimS.mono _ _ _
   | exact laws_toClaimS.mono _ _
   | exact spec_AddClaim.mono _ _ _ _ _ _ _
   | exact LeO.none _
   | refine LeO.ite ?_ ?_
   | refine LeO.bind ?_ (fun _ => ?_)
def laws_FnExactAddClaim.T5 : Bool × List (List Nat × List Nat) := (true, [([], []), ([0], [0]), ([], []), ([2, 1], [2]), ([1, 3, 3], [1, 3]), ([4], [4]), ([5], [5]), ([5], [5]), ([6, 4, 0, 1, 2, 3, 4, 5, 6], [6]), ([7, 8, 0, 1, 2, 3, 4, 5, 6, 7, 8], [7])])
def laws_FnExactAddClaim.B5 : List Nat := [0, 1, 0, 7, 15, 31, 63, 63, 127, 511]
theorem laws_FnExactAddClaim.tab5 : rtab .any (opsOf Try.f7 5) = laws_FnExactAddClaim.T5 := by kernel_rfl
theorem laws_FnExactAddClaim.bits5 : waitsOk laws_FnExactAddClaim.T5.2 laws_FnExactAddClaim.B5 = true := by kernel_rfl
def laws_FnExactAddClaim.T24 : Bool × List (List Nat × List Nat) := (true, [([], []), ([0], [0]), ([], []), ([2, 1], [2]), ([1, 3, 3], [1, 3]), ([4], [4]), ([5], [5]), ([5], [5]), ([6, 4, 0, 1, 2, 3, 4, 5, 6], [6]), ([7, 8, 0, 1, 2, 3, 4, 5, 6, 7, 8], [7])])
def laws_FnExactAddClaim.B24 : List Nat := [0, 1, 0, 7, 15, 31, 63, 63, 127, 511]
theorem laws_FnExactAddClaim.tab24 : rtab .any (opsOf Try.f7 24) = laws_FnExactAddClaim.T24 := by kernel_rfl
theorem laws_FnExactAddClaim.bits24 : waitsOk laws_FnExactAddClaim.T24.2 laws_FnExactAddClaim.B24 = true := by kernel_rfl
set_option maxHeartbeats 8000000 in
set_option maxRecDepth 100000 in
theorem laws_FnExactAddClaim.calls (k : Nat) (A0 : Option Addr) (c0 : Nat) (l0 : List (S78)) (a1_0 : Int) (a1_1 : Int) (a1_2 : Int) (a1_3 : Int) (a1_4 : Int) (r : Bool) (w : World) (hr0 : Kd.C k78 w A0 l0.length l0) (hc0 : l0.length ≤ c0) (h : laws_FnExactAddClaim.f k l0 a1_0 a1_1 a1_2 a1_3 a1_4 = some r) :
  Calls Try.prog 7 #[.slice A0 l0.length c0, .agg #[.int .i64 a1_0, .int .i64 a1_1, .int .i64 a1_2, .int .i64 a1_3, .int .i64 a1_4]] w fun e w' => e = .returned (.bool r) ∧ Below w.heap.size w w' := by
 have hu78 := Try.underlying78
 have HR0 := Aside0.mk hr0
 have HC0 := Aside0.mk hc0
 clear hr0 hc0
 have HB := Aside0.mk (Below.refl w.heap.size w)
 have H : ((laws_szClaimS.f l0 1048576).bind fun t223 => (if t223 < 0 then (some true) else ((laws_toClaimS.f k l0).bind fun t224 => ((laws_toClaim.f a1_0 a1_1 a1_2 a1_3 a1_4).bind fun bt227 => ((spec_AddClaim.f k t224 bt227.1 bt227.2.1 bt227.2.2.1 bt227.2.2.2.1 bt227.2.2.2.2).bind fun bt232 => ((laws_toClaimS.f k l0).bind fun t236 => ((laws_toClaim.f a1_0 a1_1 a1_2 a1_3 a1_4).bind fun bt239 => ((impl_AddClaim.f k t236 bt239.1 bt239.2.1 bt239.2.2.1 bt239.2.2.2.1 bt239.2.2.2.2).bind fun bt244 => ((laws_eqClaimS.f k bt244.1 bt232.1).bind fun t248 => (if t248 = true then (laws_FnExactAddClaim.j0 k l0 bt232.1 bt232.2 t236 bt244.1 bt244.2 (bt244.2 != bt232.2) a1_0 a1_1 a1_2 a1_3 a1_4) else (laws_FnExactAddClaim.j0 k l0 bt232.1 bt232.2 t236 bt244.1 bt244.2 true a1_0 a1_1 a1_2 a1_3 a1_4))))))))))) = some r := h
 clear h
 replace H := Option.bind_eq_some_iff.mp H
 obtain ⟨t223, A30, H⟩ := H
 replace H : (if t223 < 0 then (some true) else ((laws_toClaimS.f k l0).bind fun t224 => ((laws_toClaim.f a1_0 a1_1 a1_2 a1_3 a1_4).bind fun bt227 => ((spec_AddClaim.f k t224 bt227.1 bt227.2.1 bt227.2.2.1 bt227.2.2.2.1 bt227.2.2.2.2).bind fun bt232 => ((laws_toClaimS.f k l0).bind fun t236 => ((laws_toClaim.f a1_0 a1_1 a1_2 a1_3 a1_4).bind fun bt239 => ((impl_AddClaim.f k t236 bt239.1 bt239.2.1 bt239.2.2.1 bt239.2.2.2.1 bt239.2.2.2.2).bind fun bt244 => ((laws_eqClaimS.f k bt244.1 bt232.1).bind fun t248 => (if t248 = true then (laws_FnExactAddClaim.j0 k l0 bt232.1 bt232.2 t236 bt244.1 bt244.2 (bt244.2 != bt232.2) a1_0 a1_1 a1_2 a1_3 a1_4) else (laws_FnExactAddClaim.j0 k l0 bt232.1 bt232.2 t236 bt244.1 bt244.2 true a1_0 a1_1 a1_2 a1_3 a1_4)))))))))) = some r := H
 have A3 := Aside0.mk A30
 clear A30
 by_cases c4 : t223 < 0
 ·rw [if_pos c4] at H
  have c4b0 : decide (t223 < 0) = true := decide_eq_true c4
  clear c4
  obtain rfl := Option.some.inj H
  go_enter Try.func7, Try.ntmps7
  go_wp2_with (first | ((with_reducible refine gate_dst (N := 3) rfl ?_); refine box_event ?hg (N := 3) ?hd (cs := #[.int .i64 a1_0, .int .i64 a1_1, .int .i64 a1_2, .int .i64 a1_3, .int .i64 a1_4]) (t := 78) ?hr ?_; (case hd => rfl); (case hg => rfl); (case hr => first | (go_simp; done) | (go_simp; rfl)); intro gb222 hg w5 hbox hb; have n0_ := Aside0.mk (below_step (qB HB) hb); have n1_ := Aside0.mk (hbox); have n2_ := Aside0.mk ((by rw [hg]; exact (below_size (qB HB)) : w.heap.size ≤ gb222)); have n3_ := Aside0.mk ((by rw [hg]; exact (below_size (qB HB)) : w.heap.size ≤ gb222)); clear HB; have HB := n0_; have BK222 := n1_; have GW222 := n2_; have GE222 := n3_; clear n0_ n1_ n2_ n3_; clear hb hbox hg) | ((with_reducible refine gate_callee (f := 47) rfl ?_); refine goesL_ (some 18) rfl rfl Try.func47 (by kernel_rfl) rfl #[.slice A0 l0.length c0, .int .i64 1048576] rfl (by (try simp only [mA, mC, mN]); first | done | rfl | (simp only [lD, lT]; rfl)) ?_; (with_reducible refine (laws_szClaimS.calls _ _ l0 1048576 t223 _ ?side1 ?side2 A3.out).mono ?_); (case side1 => exact qC (Kd.C_below HR0.out HB.out)); (case side2 => exact HC0.out); rintro e w' ⟨rfl, ⟨nd, rfl⟩⟩; refine ⟨_, rfl, ?_⟩))
  go_ret
  exact ⟨by first | rfl | (simp [errW_none, errW_some] <;> rfl) | (simp [*, errW_none, errW_some] <;> rfl), by repeat (first | (with_reducible first | exact HB.out | apply bA | apply bN | apply bD | refine bS ?_ GE222.out) | exact HB.out)⟩
 ·rw [if_neg c4] at H
  have c4b0 : decide (t223 < 0) = false := decide_eq_false c4
  clear c4
  replace H := Option.bind_eq_some_iff.mp H
  obtain ⟨t224, A60, H⟩ := H
  replace H : ((laws_toClaim.f a1_0 a1_1 a1_2 a1_3 a1_4).bind fun bt227 => ((spec_AddClaim.f k t224 bt227.1 bt227.2.1 bt227.2.2.1 bt227.2.2.2.1 bt227.2.2.2.2).bind fun bt232 => ((laws_toClaimS.f k l0).bind fun t236 => ((laws_toClaim.f a1_0 a1_1 a1_2 a1_3 a1_4).bind fun bt239 => ((impl_AddClaim.f k t236 bt239.1 bt239.2.1 bt239.2.2.1 bt239.2.2.2.1 bt239.2.2.2.2).bind fun bt244 => ((laws_eqClaimS.f k bt244.1 bt232.1).bind fun t248 => (if t248 = true then (laws_FnExactAddClaim.j0 k l0 bt232.1 bt232.2 t236 bt244.1 bt244.2 (bt244.2 != bt232.2) a1_0 a1_1 a1_2 a1_3 a1_4) else (laws_FnExactAddClaim.j0 k l0 bt232.1 bt232.2 t236 bt244.1 bt244.2 true a1_0 a1_1 a1_2 a1_3 a1_4)))))))) = some r := H
  have A6 := Aside0.mk A60
  clear A60
  replace H := Option.bind_eq_some_iff.mp H
  obtain ⟨⟨t227, t228, t229, t230, t231⟩, A70, H⟩ := H
  replace H : ((spec_AddClaim.f k t224 t227 t228 t229 t230 t231).bind fun bt232 => ((laws_toClaimS.f k l0).bind fun t236 => ((laws_toClaim.f a1_0 a1_1 a1_2 a1_3 a1_4).bind fun bt239 => ((impl_AddClaim.f k t236 bt239.1 bt239.2.1 bt239.2.2.1 bt239.2.2.2.1 bt239.2.2.2.2).bind fun bt244 => ((laws_eqClaimS.f k bt244.1 bt232.1).bind fun t248 => (if t248 = true then (laws_FnExactAddClaim.j0 k l0 bt232.1 bt232.2 t236 bt244.1 bt244.2 (bt244.2 != bt232.2) a1_0 a1_1 a1_2 a1_3 a1_4) else (laws_FnExactAddClaim.j0 k l0 bt232.1 bt232.2 t236 bt244.1 bt244.2 true a1_0 a1_1 a1_2 a1_3 a1_4))))))) = some r := H
  have A7 := Aside0.mk A70
  clear A70
  replace H := Option.bind_eq_some_iff.mp H
  obtain ⟨⟨t232, t235⟩, A80, H⟩ := H
  replace H : ((laws_toClaimS.f k l0).bind fun t236 => ((laws_toClaim.f a1_0 a1_1 a1_2 a1_3 a1_4).bind fun bt239 => ((impl_AddClaim.f k t236 bt239.1 bt239.2.1 bt239.2.2.1 bt239.2.2.2.1 bt239.2.2.2.2).bind fun bt244 => ((laws_eqClaimS.f k bt244.1 t232).bind fun t248 => (if t248 = true then (laws_FnExactAddClaim.j0 k l0 t232 t235 t236 bt244.1 bt244.2 (bt244.2 != t235) a1_0 a1_1 a1_2 a1_3 a1_4) else (laws_FnExactAddClaim.j0 k l0 t232 t235 t236 bt244.1 bt244.2 true a1_0 a1_1 a1_2 a1_3 a1_4)))))) = some r := H
  have A8 := Aside0.mk A80
  clear A80
  replace H := Option.bind_eq_some_iff.mp H
  obtain ⟨t236, A90, H⟩ := H
  replace H : ((laws_toClaim.f a1_0 a1_1 a1_2 a1_3 a1_4).bind fun bt239 => ((impl_AddClaim.f k t236 bt239.1 bt239.2.1 bt239.2.2.1 bt239.2.2.2.1 bt239.2.2.2.2).bind fun bt244 => ((laws_eqClaimS.f k bt244.1 t232).bind fun t248 => (if t248 = true then (laws_FnExactAddClaim.j0 k l0 t232 t235 t236 bt244.1 bt244.2 (bt244.2 != t235) a1_0 a1_1 a1_2 a1_3 a1_4) else (laws_FnExactAddClaim.j0 k l0 t232 t235 t236 bt244.1 bt244.2 true a1_0 a1_1 a1_2 a1_3 a1_4))))) = some r := H
  have A9 := Aside0.mk A90
  clear A90
  replace H := Option.bind_eq_some_iff.mp H
  obtain ⟨⟨t239, t240, t241, t242, t243⟩, A100, H⟩ := H
  replace H : ((impl_AddClaim.f k t236 t239 t240 t241 t242 t243).bind fun bt244 => ((laws_eqClaimS.f k bt244.1 t232).bind fun t248 => (if t248 = true then (laws_FnExactAddClaim.j0 k l0 t232 t235 t236 bt244.1 bt244.2 (bt244.2 != t235) a1_0 a1_1 a1_2 a1_3 a1_4) else (laws_FnExactAddClaim.j0 k l0 t232 t235 t236 bt244.1 bt244.2 true a1_0 a1_1 a1_2 a1_3 a1_4)))) = some r := H
  have A10 := Aside0.mk A100
  clear A100
  replace H := Option.bind_eq_some_iff.mp H
  obtain ⟨⟨t244, t247⟩, A110, H⟩ := H
  replace H : ((laws_eqClaimS.f k t244 t232).bind fun t248 => (if t248 = true then (laws_FnExactAddClaim.j0 k l0 t232 t235 t236 t244 t247 (t247 != t235) a1_0 a1_1 a1_2 a1_3 a1_4) else (laws_FnExactAddClaim.j0 k l0 t232 t235 t236 t244 t247 true a1_0 a1_1 a1_2 a1_3 a1_4))) = some r := H
  have A11 := Aside0.mk A110
  clear A110
  have HC12 := Aside0.mk H
  clear H
  go_enter Try.func7, Try.ntmps7
  try go_wp2_with (first | ((with_reducible refine gate_dst (N := 3) rfl ?_); refine box_event ?hg (N := 3) ?hd (cs := #[.int .i64 a1_0, .int .i64 a1_1, .int .i64 a1_2, .int .i64 a1_3, .int .i64 a1_4]) (t := 78) ?hr ?_; (case hd => rfl); (case hg => rfl); (case hr => first | (go_simp; done) | (go_simp; rfl)); intro gb222 hg w13 hbox hb; have n0_ := Aside0.mk (below_step (qB HB) hb); have n1_ := Aside0.mk (hbox); have n2_ := Aside0.mk ((by rw [hg]; exact (below_size (qB HB)) : w.heap.size ≤ gb222)); have n3_ := Aside0.mk ((by rw [hg]; exact (below_size (qB HB)) : w.heap.size ≤ gb222)); clear HB; have HB := n0_; have BK222 := n1_; have GW222 := n2_; have GE222 := n3_; clear n0_ n1_ n2_ n3_; clear hb hbox hg) | ((with_reducible refine gate_callee (f := 47) rfl ?_); refine goesL_ (some 18) rfl rfl Try.func47 (by kernel_rfl) rfl #[.slice A0 l0.length c0, .int .i64 1048576] rfl (by (try simp only [mA, mC, mN]); first | done | rfl | (simp only [lD, lT]; rfl)) ?_; (with_reducible refine (laws_szClaimS.calls _ _ l0 1048576 t223 _ ?side1 ?side2 A3.out).mono ?_); (case side1 => exact qC (Kd.C_below HR0.out HB.out)); (case side2 => exact HC0.out); rintro e w' ⟨rfl, ⟨nd, rfl⟩⟩; refine ⟨_, rfl, ?_⟩))
  (try (rw [drewN_self w13]; generalize hq_ : World.drewN w13 _ = w13; have n0_ : Aside0 (w13.heap[gb222]? = some (.cells #[.int .i64 a1_0, .int .i64 a1_1, .int .i64 a1_2, .int .i64 a1_3, .int .i64 a1_4] 78 (0, 0))) := ⟨by rw [← hq_]; exact (qK BK222)⟩; have n1_ : Aside0 (Below w.heap.size w w13) := ⟨by rw [← hq_]; exact (by repeat first | (with_reducible first | exact HB.out | apply bA | apply bN | apply bD | refine bS ?_ GE222.out) | exact HB.out)⟩; clear BK222 HB hq_; have BK222 := n0_; have HB := n1_; clear n0_ n1_))
  have n0_ := Aside0.mk (blk_drew BK222.out)
  have n1_ := Aside0.mk (below_drew1 HB.out)
  clear BK222
  clear HB
  have BK222 := n0_
  have HB := n1_
  clear n0_ n1_
  refine start_ (n := 10) (S := fun w' => w'.cell? ⟨gb222, 0, none⟩ = some (.int .i64 a1_0) ∧ w'.cell? ⟨gb222, 1, none⟩ = some (.int .i64 a1_1) ∧ w'.cell? ⟨gb222, 2, none⟩ = some (.int .i64 a1_2) ∧ w'.cell? ⟨gb222, 3, none⟩ = some (.int .i64 a1_3) ∧ w'.cell? ⟨gb222, 4, none⟩ = some (.int .i64 a1_4)) (ds := []) (bR [0, 10]) (by kernel_rfl) rfl rfl ⟨cC BK222 0, cC BK222 1, cC BK222 2, cC BK222 3, cC BK222 4⟩ (fun hHeld => ?_); refine with_tabW laws_FnExactAddClaim.tab5 laws_FnExactAddClaim.bits5 (fun HT_ HW_ => ?_)
  generalize w13.drew = w14 at BK222 HB hHeld ⊢
  refine pP 0 22 (bR [1, 9]) rfl rfl HT_ ?_
  refine take_ (i := 2) (N := some 24) (v := ?_) (a' := ?_) (bR [1, 1, 1, 7]) rfl rfl (take_ofW HT_.out HW_.out (by kernel_rfl)) (fun _ _ _ h => h) (Or.inl ⟨by rfl, ?_⟩) hHeld ?_ ?_
  rotate_left; (rintro w' ⟨s0, s1, s2, s3, s4⟩; go_simp; with_reducible rfl); rotate_left; (simp only [Act.put, sA, sZ, sS, i64_w]; rfl)
  refine one_ (i := 1) (N := some 23) (bR [3, 7]) rfl rfl (one_of HT_.out (by kernel_rfl)) (by decide) (fun K hK => ?_)
  refine goes_ Try.func49 (by kernel_rfl) rfl #[.slice A0 l0.length c0] (by rfl) rfl rfl (by (try simp only [mA, mC, mN]); first | done | rfl | (simp only [lD, lT]; rfl)) ?_
  with_reducible refine (laws_toClaimS.calls k _ _ l0 t224 _ ?side1 ?side2 A6.out).mono ?_
  (case side1 => exact qC (Kd.C_below HR0.out HB.out))
  (case side2 => exact HC0.out)
  rintro e w15 ⟨v225, rfl, ho0, hb⟩
  refine ⟨_, rfl, ?_⟩
  have n0_ := Aside0.mk (Kd.R_lower ho0 (below_size (by repeat first | (with_reducible first | exact HB.out | apply bA | apply bN | apply bD | refine bS ?_ GE222.out) | exact HB.out)))
  have n1_ := Aside0.mk (blk_below (qK BK222) hb)
  have n2_ := Aside0.mk (below_step (by repeat first | (with_reducible first | exact HB.out | apply bA | apply bN | apply bD | refine bS ?_ GE222.out) | exact HB.out) hb)
  clear BK222
  clear HB
  have HO226 := n0_
  have BK222 := n1_
  have HB := n2_
  clear n0_ n1_ n2_
  (try clear hb)
  (try clear hb2)
  (try clear hk)
  (try clear hi)
  (try clear ho0)
  refine hK.out _ _ ⟨cC BK222 0, cC BK222 1, cC BK222 2, cC BK222 3, cC BK222 4⟩ (fun hHeld => ?_)
  clear hK K
  refine norm_ (a' := ?_) ?_ ?_
  rotate_left
  ·show Act.put _ (some 23) _ = _
   simp only [Act.put, sA, sZ, sS, i64_w]
   rfl
  refine one_ (i := 3) (N := some 25) (bR [4, 6]) rfl rfl (one_of HT_.out (by kernel_rfl)) (by decide) (fun K hK => ?_)
  refine goes_ Try.func50 (by kernel_rfl) rfl #[.agg #[.int .i64 a1_0, .int .i64 a1_1, .int .i64 a1_2, .int .i64 a1_3, .int .i64 a1_4]] (by rfl) rfl rfl (by (try simp only [mA, mC, mN]); first | done | rfl | (simp only [lD, lT]; rfl)) ?_
  with_reducible refine (laws_toClaim.calls a1_0 a1_1 a1_2 a1_3 a1_4 t227 t228 t229 t230 t231 _ A7.out).mono ?_
  rintro e w16 ⟨rfl, hb⟩
  refine ⟨_, rfl, ?_⟩
  have n0_ := Aside0.mk (Kd.R_below (qR HO226) hb)
  have n1_ := Aside0.mk (blk_below (qK BK222) hb)
  have n2_ := Aside0.mk (below_step (by repeat first | (with_reducible first | exact HB.out | apply bA | apply bN | apply bD | refine bS ?_ GE222.out) | exact HB.out) hb)
  clear HO226
  clear BK222
  clear HB
  have HO226 := n0_
  have BK222 := n1_
  have HB := n2_
  clear n0_ n1_ n2_
  (try clear hb)
  (try clear hb2)
  (try clear hk)
  (try clear hi)
  obtain ⟨Ao17, co17, eo17⟩ := Kd.R_slice HO226.out
  (first | subst eo17 | (injection eo17 with f1_ f2_ f3_; have f4_ := f1_.symm; have f5_ := f3_.symm; clear f1_ f2_ f3_; subst f4_; subst f5_))
  refine hK.out _ _ ⟨cC BK222 0, cC BK222 1, cC BK222 2, cC BK222 3, cC BK222 4⟩ (fun hHeld => ?_)
  clear hK K
  refine norm_ (a' := ?_) ?_ ?_
  rotate_left
  ·show Act.put _ (some 25) _ = _
   simp only [Act.put, sA, sZ, sS, i64_w]
   rfl
  refine one_ (i := 4) (N := some 26) (bR [5, 5]) rfl rfl (one_of HT_.out (by kernel_rfl)) (by decide) (fun K hK => ?_)
  refine goes_ Try.func48 (by kernel_rfl) rfl #[.slice Ao17 t224.length co17, .agg #[.int .i64 t227, .int .i64 t228, .int .i64 t229, .int .i64 t230, .int .i64 t231]] (by rfl) rfl rfl (by (try simp only [mA, mC, mN]); first | done | rfl | (simp only [lD, lT]; rfl)) ?_
  with_reducible refine (spec_AddClaim.calls k _ _ t224 t227 t228 t229 t230 t231 t232 t235 _ ?side1 ?side2 A8.out).mono ?_
  (case side1 => repeat (first | exact (Kd.R_reads' HO226.out).2.2 | (with_reducible refine Kd.C_alloc ?_ _) | (with_reducible refine Kd.C_drewN ?_ _) | (with_reducible refine Kd.C_drew ?_)))
  (case side2 => exact (Kd.R_reads' HO226.out).2.1)
  rintro e w18 ⟨v233, rfl, ho0, hb⟩
  refine ⟨_, rfl, ?_⟩
  have n0_ := Aside0.mk (Kd.R_elder' (qR HO226) (Kd.R_base ho0) hb)
  have n1_ := Aside0.mk (Kd.R_lower (Kd.R_new' ho0 (Kd.R_lt (qR HO226))) (below_size (by repeat first | (with_reducible first | exact HB.out | apply bA | apply bN | apply bD | refine bS ?_ GE222.out) | exact HB.out)))
  have n2_ := Aside0.mk (blk_below (qK BK222) hb)
  have n3_ := Aside0.mk (below_step (by repeat first | (with_reducible first | exact HB.out | apply bA | apply bN | apply bD | refine bS ?_ GE222.out) | exact HB.out) hb)
  clear HO226
  clear BK222
  clear HB
  have HO226 := n0_
  have HO234 := n1_
  have BK222 := n2_
  have HB := n3_
  clear n0_ n1_ n2_ n3_
  (try clear hb)
  (try clear hb2)
  (try clear hk)
  (try clear hi)
  (try clear ho0)
  refine hK.out _ _ ⟨cC BK222 0, cC BK222 1, cC BK222 2, cC BK222 3, cC BK222 4⟩ (fun hHeld => ?_)
  clear hK K
  refine norm_ (a' := ?_) ?_ ?_
  rotate_left
  ·show Act.put _ (some 26) _ = _
   simp only [Act.put, sA, sZ, sS, i64_w]
   rfl
  refine pP 5 21 (bR [6, 4]) rfl rfl HT_ ?_
  refine pP 6 27 (bR [7, 3]) rfl rfl HT_ ?_
  refine pP 7 28 (bR [8, 2]) rfl rfl HT_ ?_
  refine pP 8 6 (bR [9, 1]) rfl rfl HT_ ?_
  refine pP 9 7 (bR [10]) rfl rfl HT_ ?_
  refine done_ (done_of HT_.out (by kernel_rfl)) ?_
  go_upto_region 8 with (first | ((with_reducible refine gate_callee (f := 49) rfl ?_); refine goesL_ (some 30) rfl rfl Try.func49 (by kernel_rfl) rfl #[.slice A0 l0.length c0] rfl (by (try simp only [mA, mC, mN]); first | done | rfl | (simp only [lD, lT]; rfl)) ?_; (with_reducible refine (laws_toClaimS.calls k _ _ l0 t236 _ ?side1 ?side2 A9.out).mono ?_); (case side1 => exact qC (Kd.C_below HR0.out HB.out)); (case side2 => exact HC0.out); rintro e w19 ⟨v237, rfl, ho0, hb⟩; refine ⟨_, rfl, ?_⟩; have n0_ := Aside0.mk (Kd.R_elder' (qR HO226) (Kd.R_base ho0) hb); have n1_ := Aside0.mk (Kd.R_elder' (qR HO234) (Kd.R_base ho0) hb); have n2_ := Aside0.mk (Kd.R_lower (Kd.R_new' (Kd.R_new' ho0 (Kd.R_lt (qR HO226))) (Kd.R_lt (qR HO234))) (below_size (by repeat first | (with_reducible first | exact HB.out | apply bA | apply bN | apply bD | refine bS ?_ GE222.out) | exact HB.out))); have n3_ := Aside0.mk (blk_below (qK BK222) hb); have n4_ := Aside0.mk (below_step (by repeat first | (with_reducible first | exact HB.out | apply bA | apply bN | apply bD | refine bS ?_ GE222.out) | exact HB.out) hb); clear HO226; clear HO234; clear BK222; clear HB; have HO226 := n0_; have HO234 := n1_; have HO238 := n2_; have BK222 := n3_; have HB := n4_; clear n0_ n1_ n2_ n3_ n4_; (try clear hb); (try clear hb2); (try clear hk); (try clear hi); (try clear ho0); have hcz20_0 : w19.cell? ⟨gb222, 0, none⟩ = some (.int .i64 a1_0) := cC BK222 0; have hcz20_1 : w19.cell? ⟨gb222, 1, none⟩ = some (.int .i64 a1_1) := cC BK222 1; have hcz20_2 : w19.cell? ⟨gb222, 2, none⟩ = some (.int .i64 a1_2) := cC BK222 2; have hcz20_3 : w19.cell? ⟨gb222, 3, none⟩ = some (.int .i64 a1_3) := cC BK222 3; have hcz20_4 : w19.cell? ⟨gb222, 4, none⟩ = some (.int .i64 a1_4) := cC BK222 4; have hfz20_0 := blk_frozen BK222.out 0; have hfz20_1 := blk_frozen BK222.out 1; have hfz20_2 := blk_frozen BK222.out 2; have hfz20_3 := blk_frozen BK222.out 3; have hfz20_4 := blk_frozen BK222.out 4) | ((with_reducible refine gate_callee (f := 50) rfl ?_); refine goesL_ (some 34) rfl rfl Try.func50 (by kernel_rfl) rfl #[.agg #[.int .i64 a1_0, .int .i64 a1_1, .int .i64 a1_2, .int .i64 a1_3, .int .i64 a1_4]] rfl (by (try simp only [mA, mC, mN]); first | done | rfl | (simp only [lD, lT]; rfl)) ?_; (with_reducible refine (laws_toClaim.calls a1_0 a1_1 a1_2 a1_3 a1_4 t239 t240 t241 t242 t243 _ A10.out).mono ?_); rintro e w21 ⟨rfl, hb⟩; refine ⟨_, rfl, ?_⟩; have n0_ := Aside0.mk (Kd.R_below (qR HO226) hb); have n1_ := Aside0.mk (Kd.R_below (qR HO234) hb); have n2_ := Aside0.mk (Kd.R_below (qR HO238) hb); have n3_ := Aside0.mk (blk_below (qK BK222) hb); have n4_ := Aside0.mk (below_step (by repeat first | (with_reducible first | exact HB.out | apply bA | apply bN | apply bD | refine bS ?_ GE222.out) | exact HB.out) hb); clear HO226; clear HO234; clear HO238; clear BK222; clear HB; have HO226 := n0_; have HO234 := n1_; have HO238 := n2_; have BK222 := n3_; have HB := n4_; clear n0_ n1_ n2_ n3_ n4_; (try clear hb); (try clear hb2); (try clear hk); (try clear hi); obtain ⟨Ao22, co22, eo22⟩ := Kd.R_slice HO238.out; subst eo22) | ((with_reducible refine gate_callee (f := 51) rfl ?_); refine goesL_ (some 35) rfl rfl Try.func51 (by kernel_rfl) rfl #[.slice Ao22 t236.length co22, .agg #[.int .i64 t239, .int .i64 t240, .int .i64 t241, .int .i64 t242, .int .i64 t243]] rfl (by (try simp only [mA, mC, mN]); first | done | rfl | (simp only [lD, lT]; rfl)) ?_; (with_reducible refine (impl_AddClaim.calls k _ _ t236 t239 t240 t241 t242 t243 t244 t247 _ ?side1 ?side2 A11.out).mono ?_); (case side1 => repeat (first | exact (Kd.R_reads' HO238.out).2.2 | (with_reducible refine Kd.C_alloc ?_ _) | (with_reducible refine Kd.C_drewN ?_ _) | (with_reducible refine Kd.C_drew ?_))); (case side2 => exact (Kd.R_reads' HO238.out).2.1); rintro e w23 ⟨v245, rfl, ho0, hb⟩; refine ⟨_, rfl, ?_⟩; have n0_ := Aside0.mk (Kd.R_elder' (qR HO226) (Kd.R_base ho0) hb); have n1_ := Aside0.mk (Kd.R_elder' (qR HO234) (Kd.R_base ho0) hb); have n2_ := Aside0.mk (Kd.R_elder' (qR HO238) (Kd.R_base ho0) hb); have n3_ := Aside0.mk (Kd.R_lower (Kd.R_new' (Kd.R_new' (Kd.R_new' ho0 (Kd.R_lt (qR HO226))) (Kd.R_lt (qR HO234))) (Kd.R_lt (qR HO238))) (below_size (by repeat first | (with_reducible first | exact HB.out | apply bA | apply bN | apply bD | refine bS ?_ GE222.out) | exact HB.out))); have n4_ := Aside0.mk (blk_below (qK BK222) hb); have n5_ := Aside0.mk (below_step (by repeat first | (with_reducible first | exact HB.out | apply bA | apply bN | apply bD | refine bS ?_ GE222.out) | exact HB.out) hb); clear HO226; clear HO234; clear HO238; clear BK222; clear HB; have HO226 := n0_; have HO234 := n1_; have HO238 := n2_; have HO246 := n3_; have BK222 := n4_; have HB := n5_; clear n0_ n1_ n2_ n3_ n4_ n5_; (try clear hb); (try clear hb2); (try clear hk); (try clear hi); (try clear ho0)))
  (try simp only [Act.put, sA, sZ, sS])
  go_cut [46] (fun v46 wc => ∃ (kq : Nat) (x46_11 : Bool), v46 = .bool x46_11 ∧ Aside0 (laws_FnExactAddClaim.j0 kq l0 t232 t235 t236 t244 t247 x46_11 a1_0 a1_1 a1_2 a1_3 a1_4 = some r) ∧ Aside0 (kq ≤ k) ∧ Aside0 (Kd.R k84 84 wc w.heap.size (fun k_ => some k_ ≠ ((.slice Ao22 t236.length co22) : Value).ownBlock ∧ some k_ ≠ (v245 : Value).ownBlock) v233 t232) ∧ Aside0 (Kd.R k84 84 wc w.heap.size (fun k_ => some k_ ≠ (v233 : Value).ownBlock ∧ some k_ ≠ (v245 : Value).ownBlock) (.slice Ao22 t236.length co22) t236) ∧ Aside0 (Kd.R k84 84 wc w.heap.size (fun k_ => some k_ ≠ (v233 : Value).ownBlock ∧ some k_ ≠ ((.slice Ao22 t236.length co22) : Value).ownBlock) v245 t244) ∧ Aside0 (wc.heap[gb222]? = some (.cells #[.int .i64 a1_0, .int .i64 a1_1, .int .i64 a1_2, .int .i64 a1_3, .int .i64 a1_4] 78 (0, 0))) ∧ Aside0 (Below w.heap.size w wc))
  case first =>
   have H := HC12.out
   clear HC12
   replace H := Option.bind_eq_some_iff.mp H
   obtain ⟨t248, A240, H⟩ := H
   replace H : (if t248 = true then (laws_FnExactAddClaim.j0 k l0 t232 t235 t236 t244 t247 (t247 != t235) a1_0 a1_1 a1_2 a1_3 a1_4) else (laws_FnExactAddClaim.j0 k l0 t232 t235 t236 t244 t247 true a1_0 a1_1 a1_2 a1_3 a1_4)) = some r := H
   have A24 := Aside0.mk A240
   clear A240
   by_cases c25 : t248 = true
   ·subst c25
    have H1 : (laws_FnExactAddClaim.j0 k l0 t232 t235 t236 t244 t247 (t247 != t235) a1_0 a1_1 a1_2 a1_3 a1_4) = some r := by rw [if_pos rfl] at H; exact H
    clear H
    have H := H1
    clear H1
    have H' := Aside0.mk H
    clear H
    obtain ⟨Ao26, co26, eo26⟩ := Kd.R_slice HO246.out
    subst eo26
    obtain ⟨Ao27, co27, eo27⟩ := Kd.R_slice HO234.out
    subst eo27
    go_wp2_with (first | ((with_reducible refine gate_callee (f := 52) rfl ?_); refine goesL_ (some 40) rfl rfl Try.func52 (by kernel_rfl) rfl #[.slice Ao26 t244.length co26, .slice Ao27 t232.length co27] rfl (by (try simp only [mA, mC, mN]); first | done | rfl | (simp only [lD, lT]; rfl)) ?_; (with_reducible refine (laws_eqClaimS.calls k _ _ t244 _ _ t232 true _ ?side1 ?side2 ?side3 ?side4 A24.out).mono ?_); (case side1 => repeat (first | exact (Kd.R_reads' HO246.out).2.2 | (with_reducible refine Kd.C_alloc ?_ _) | (with_reducible refine Kd.C_drewN ?_ _) | (with_reducible refine Kd.C_drew ?_))); (case side2 => exact (Kd.R_reads' HO246.out).2.1); (case side3 => repeat (first | exact (Kd.R_reads' HO234.out).2.2 | (with_reducible refine Kd.C_alloc ?_ _) | (with_reducible refine Kd.C_drewN ?_ _) | (with_reducible refine Kd.C_drew ?_))); (case side4 => exact (Kd.R_reads' HO234.out).2.1); rintro e w28 ⟨rfl, hb⟩; refine ⟨_, rfl, ?_⟩; have n0_ := Aside0.mk (Kd.R_below (qR HO226) hb); have n1_ := Aside0.mk (Kd.R_below (qR HO234) hb); have n2_ := Aside0.mk (Kd.R_below (qR HO238) hb); have n3_ := Aside0.mk (Kd.R_below (qR HO246) hb); have n4_ := Aside0.mk (blk_below (qK BK222) hb); have n5_ := Aside0.mk (below_step (by repeat first | (with_reducible first | exact HB.out | apply bA | apply bN | apply bD | refine bS ?_ GE222.out) | exact HB.out) hb); clear HO226; clear HO234; clear HO238; clear HO246; clear BK222; clear HB; have HO226 := n0_; have HO234 := n1_; have HO238 := n2_; have HO246 := n3_; have BK222 := n4_; have HB := n5_; clear n0_ n1_ n2_ n3_ n4_ n5_; (try clear hb); (try clear hb2); (try clear hk); (try clear hi)))
    go_meet
    case rel => exact ⟨_, ((t247 != t235)), (by first | rfl | (simp; done) | (simp [*]; done)), H', ⟨by first | omega | exact Nat.le_refl _⟩, ⟨by (with_reducible repeat first | apply rA | apply rN | apply rD); exact Kd.R_mono HO234.out (fun _ hk => ⟨hk.1.2, hk.2⟩)⟩, ⟨by (with_reducible repeat first | apply rA | apply rN | apply rD); exact Kd.R_mono HO238.out (fun _ hk => ⟨hk.1.2, hk.2⟩)⟩, ⟨by (with_reducible repeat first | apply rA | apply rN | apply rD); exact Kd.R_mono HO246.out (fun _ hk => ⟨hk.1.2, hk.2⟩)⟩, ⟨by (with_reducible repeat first | refine kN ?_ _ | refine kD ?_ | refine kA ?_ _); exact BK222.out⟩, ⟨by repeat (first | (with_reducible first | exact HB.out | apply bA | apply bN | apply bD | refine bS ?_ GE222.out) | exact HB.out)⟩⟩
   ·replace c25 := Bool.eq_false_iff.mpr c25
    subst c25
    have H1 : (laws_FnExactAddClaim.j0 k l0 t232 t235 t236 t244 t247 true a1_0 a1_1 a1_2 a1_3 a1_4) = some r := by rw [if_neg (show ¬ (false = true) by decide)] at H; exact H
    clear H
    have H := H1
    clear H1
    have H' := Aside0.mk H
    clear H
    obtain ⟨Ao29, co29, eo29⟩ := Kd.R_slice HO246.out
    subst eo29
    obtain ⟨Ao30, co30, eo30⟩ := Kd.R_slice HO234.out
    subst eo30
    go_wp2_with (first | ((with_reducible refine gate_callee (f := 52) rfl ?_); refine goesL_ (some 40) rfl rfl Try.func52 (by kernel_rfl) rfl #[.slice Ao29 t244.length co29, .slice Ao30 t232.length co30] rfl (by (try simp only [mA, mC, mN]); first | done | rfl | (simp only [lD, lT]; rfl)) ?_; (with_reducible refine (laws_eqClaimS.calls k _ _ t244 _ _ t232 false _ ?side1 ?side2 ?side3 ?side4 A24.out).mono ?_); (case side1 => repeat (first | exact (Kd.R_reads' HO246.out).2.2 | (with_reducible refine Kd.C_alloc ?_ _) | (with_reducible refine Kd.C_drewN ?_ _) | (with_reducible refine Kd.C_drew ?_))); (case side2 => exact (Kd.R_reads' HO246.out).2.1); (case side3 => repeat (first | exact (Kd.R_reads' HO234.out).2.2 | (with_reducible refine Kd.C_alloc ?_ _) | (with_reducible refine Kd.C_drewN ?_ _) | (with_reducible refine Kd.C_drew ?_))); (case side4 => exact (Kd.R_reads' HO234.out).2.1); rintro e w31 ⟨rfl, hb⟩; refine ⟨_, rfl, ?_⟩; have n0_ := Aside0.mk (Kd.R_below (qR HO226) hb); have n1_ := Aside0.mk (Kd.R_below (qR HO234) hb); have n2_ := Aside0.mk (Kd.R_below (qR HO238) hb); have n3_ := Aside0.mk (Kd.R_below (qR HO246) hb); have n4_ := Aside0.mk (blk_below (qK BK222) hb); have n5_ := Aside0.mk (below_step (by repeat first | (with_reducible first | exact HB.out | apply bA | apply bN | apply bD | refine bS ?_ GE222.out) | exact HB.out) hb); clear HO226; clear HO234; clear HO238; clear HO246; clear BK222; clear HB; have HO226 := n0_; have HO234 := n1_; have HO238 := n2_; have HO246 := n3_; have BK222 := n4_; have HB := n5_; clear n0_ n1_ n2_ n3_ n4_ n5_; (try clear hb); (try clear hb2); (try clear hk); (try clear hi)))
    go_meet
    case rel => exact ⟨_, (true), (by first | rfl | (simp; done) | (simp [*]; done)), H', ⟨by first | omega | exact Nat.le_refl _⟩, ⟨by (with_reducible repeat first | apply rA | apply rN | apply rD); exact Kd.R_mono HO234.out (fun _ hk => ⟨hk.1.2, hk.2⟩)⟩, ⟨by (with_reducible repeat first | apply rA | apply rN | apply rD); exact Kd.R_mono HO238.out (fun _ hk => ⟨hk.1.2, hk.2⟩)⟩, ⟨by (with_reducible repeat first | apply rA | apply rN | apply rD); exact Kd.R_mono HO246.out (fun _ hk => ⟨hk.1.2, hk.2⟩)⟩, ⟨by (with_reducible repeat first | refine kN ?_ _ | refine kD ?_ | refine kA ?_ _); exact BK222.out⟩, ⟨by repeat (first | (with_reducible first | exact HB.out | apply bA | apply bN | apply bD | refine bS ?_ GE222.out) | exact HB.out)⟩⟩
  case rest =>
   clear HC12
   try clear c2
   try clear p2
   try clear c4
   try clear c4b0
   try clear c5
   try clear c7
   try clear c25
   try clear hcz20_0
   try clear hcz20_1
   try clear hcz20_2
   try clear hcz20_3
   try clear hcz20_4
   try clear hfz20_0
   try clear hfz20_1
   try clear hfz20_2
   try clear hfz20_3
   try clear hfz20_4
   obtain ⟨kq, x46_11, rfl, HA, HJ11, HO_6, HO_8, HO_9, BK222, HB⟩ := hcut
   cases kq with
   | zero => exact absurd HA.out (by simp [laws_FnExactAddClaim.j0])
   | succ kj11 =>
    have H := HA.out
    clear HA
    simp only [laws_FnExactAddClaim.j0] at H
    by_cases c32 : x46_11 = true
    ·subst c32
     have H1 : (some false) = some r := by rw [if_pos rfl] at H; exact H
     clear H
     have H := H1
     clear H1
     obtain rfl := Option.some.inj H
     go_wp2
     go_ret
     exact ⟨by first | rfl | (simp [errW_none, errW_some] <;> rfl) | (simp [*, errW_none, errW_some] <;> rfl), by repeat (first | (with_reducible first | exact HB.out | apply bA | apply bN | apply bD | refine bS ?_ GE222.out) | exact HB.out)⟩
    ·replace c32 := Bool.eq_false_iff.mpr c32
     subst c32
     have H1 : ((laws_toClaimS.f kj11 l0).bind fun t249 => ((laws_eqClaimS.f kj11 t236 t249).bind fun t252 => (if t252 = true then ((laws_markClaimS.f kj11 t236 1).bind fun bt253 => (if bt253.1 < 0 then (laws_FnExactAddClaim.j1 kj11 l0 t232 t235 t244 true a1_0 a1_1 a1_2 a1_3 a1_4) else ((laws_eqClaimS.f kj11 t244 t232).bind fun t255 => (if t255 = true then (laws_FnExactAddClaim.j1 kj11 l0 t232 t235 t244 (t247 != t235) a1_0 a1_1 a1_2 a1_3 a1_4) else (laws_FnExactAddClaim.j1 kj11 l0 t232 t235 t244 true a1_0 a1_1 a1_2 a1_3 a1_4))))) else (some false)))) = some r := by rw [if_neg (show ¬ (false = true) by decide)] at H; exact H
     clear H
     have H := H1
     clear H1
     replace H := Option.bind_eq_some_iff.mp H
     obtain ⟨t249, A330, H⟩ := H
     replace H : ((laws_eqClaimS.f kj11 t236 t249).bind fun t252 => (if t252 = true then ((laws_markClaimS.f kj11 t236 1).bind fun bt253 => (if bt253.1 < 0 then (laws_FnExactAddClaim.j1 kj11 l0 t232 t235 t244 true a1_0 a1_1 a1_2 a1_3 a1_4) else ((laws_eqClaimS.f kj11 t244 t232).bind fun t255 => (if t255 = true then (laws_FnExactAddClaim.j1 kj11 l0 t232 t235 t244 (t247 != t235) a1_0 a1_1 a1_2 a1_3 a1_4) else (laws_FnExactAddClaim.j1 kj11 l0 t232 t235 t244 true a1_0 a1_1 a1_2 a1_3 a1_4))))) else (some false))) = some r := H
     have A33 := Aside0.mk A330
     clear A330
     replace H := Option.bind_eq_some_iff.mp H
     obtain ⟨t252, A340, H⟩ := H
     replace H : (if t252 = true then ((laws_markClaimS.f kj11 t236 1).bind fun bt253 => (if bt253.1 < 0 then (laws_FnExactAddClaim.j1 kj11 l0 t232 t235 t244 true a1_0 a1_1 a1_2 a1_3 a1_4) else ((laws_eqClaimS.f kj11 t244 t232).bind fun t255 => (if t255 = true then (laws_FnExactAddClaim.j1 kj11 l0 t232 t235 t244 (t247 != t235) a1_0 a1_1 a1_2 a1_3 a1_4) else (laws_FnExactAddClaim.j1 kj11 l0 t232 t235 t244 true a1_0 a1_1 a1_2 a1_3 a1_4))))) else (some false)) = some r := H
     have A34 := Aside0.mk A340
     clear A340
     by_cases c35 : t252 = true
     ·subst c35
      have H1 : ((laws_markClaimS.f kj11 t236 1).bind fun bt253 => (if bt253.1 < 0 then (laws_FnExactAddClaim.j1 kj11 l0 t232 t235 t244 true a1_0 a1_1 a1_2 a1_3 a1_4) else ((laws_eqClaimS.f kj11 t244 t232).bind fun t255 => (if t255 = true then (laws_FnExactAddClaim.j1 kj11 l0 t232 t235 t244 (t247 != t235) a1_0 a1_1 a1_2 a1_3 a1_4) else (laws_FnExactAddClaim.j1 kj11 l0 t232 t235 t244 true a1_0 a1_1 a1_2 a1_3 a1_4))))) = some r := by rw [if_pos rfl] at H; exact H
      clear H
      have H := H1
      clear H1
      replace H := Option.bind_eq_some_iff.mp H
      obtain ⟨⟨t253, t254⟩, A360, H⟩ := H
      replace H : (if t253 < 0 then (laws_FnExactAddClaim.j1 kj11 l0 t232 t235 t244 true a1_0 a1_1 a1_2 a1_3 a1_4) else ((laws_eqClaimS.f kj11 t244 t232).bind fun t255 => (if t255 = true then (laws_FnExactAddClaim.j1 kj11 l0 t232 t235 t244 (t247 != t235) a1_0 a1_1 a1_2 a1_3 a1_4) else (laws_FnExactAddClaim.j1 kj11 l0 t232 t235 t244 true a1_0 a1_1 a1_2 a1_3 a1_4)))) = some r := H
      have A36 := Aside0.mk A360
      clear A360
      have HC37 := Aside0.mk H
      clear H
      go_upto_region 14 with (first | ((with_reducible refine gate_callee (f := 49) rfl ?_); refine goesL_ (some 49) rfl rfl Try.func49 (by kernel_rfl) rfl #[.slice A0 l0.length c0] rfl (by (try simp only [mA, mC, mN]); first | done | rfl | (simp only [lD, lT]; rfl)) ?_; (with_reducible refine (laws_toClaimS.calls kj11 _ _ l0 t249 _ ?side1 ?side2 A33.out).mono ?_); (case side1 => exact qC (Kd.C_below HR0.out HB.out)); (case side2 => exact HC0.out); rintro e w38 ⟨v250, rfl, ho0, hb⟩; refine ⟨_, rfl, ?_⟩; have n0_ := Aside0.mk (Kd.R_elder' (qR HO_6) (Kd.R_base ho0) hb); have n1_ := Aside0.mk (Kd.R_elder' (qR HO_8) (Kd.R_base ho0) hb); have n2_ := Aside0.mk (Kd.R_elder' (qR HO_9) (Kd.R_base ho0) hb); have n3_ := Aside0.mk (Kd.R_lower (Kd.R_new' (Kd.R_new' (Kd.R_new' ho0 (Kd.R_lt (qR HO_6))) (Kd.R_lt (qR HO_8))) (Kd.R_lt (qR HO_9))) (below_size (by repeat first | (with_reducible first | exact HB.out | apply bA | apply bN | apply bD | refine bS ?_ GE222.out) | exact HB.out))); have n4_ := Aside0.mk (blk_below (qK BK222) hb); have n5_ := Aside0.mk (below_step (by repeat first | (with_reducible first | exact HB.out | apply bA | apply bN | apply bD | refine bS ?_ GE222.out) | exact HB.out) hb); clear HO_6; clear HO_8; clear HO_9; clear BK222; clear HB; have HO_6 := n0_; have HO_8 := n1_; have HO_9 := n2_; have HO251 := n3_; have BK222 := n4_; have HB := n5_; clear n0_ n1_ n2_ n3_ n4_ n5_; (try clear hb); (try clear hb2); (try clear hk); (try clear hi); (try clear ho0); obtain ⟨Ao39, co39, eo39⟩ := Kd.R_slice HO251.out; subst eo39) | ((with_reducible refine gate_callee (f := 52) rfl ?_); refine goesL_ (some 50) rfl rfl Try.func52 (by kernel_rfl) rfl #[.slice Ao22 t236.length co22, .slice Ao39 t249.length co39] rfl (by (try simp only [mA, mC, mN]); first | done | rfl | (simp only [lD, lT]; rfl)) ?_; (with_reducible refine (laws_eqClaimS.calls kj11 _ _ t236 _ _ t249 true _ ?side1 ?side2 ?side3 ?side4 A34.out).mono ?_); (case side1 => repeat (first | exact (Kd.R_reads' HO_8.out).2.2 | (with_reducible refine Kd.C_alloc ?_ _) | (with_reducible refine Kd.C_drewN ?_ _) | (with_reducible refine Kd.C_drew ?_))); (case side2 => exact (Kd.R_reads' HO_8.out).2.1); (case side3 => repeat (first | exact (Kd.R_reads' HO251.out).2.2 | (with_reducible refine Kd.C_alloc ?_ _) | (with_reducible refine Kd.C_drewN ?_ _) | (with_reducible refine Kd.C_drew ?_))); (case side4 => exact (Kd.R_reads' HO251.out).2.1); rintro e w40 ⟨rfl, hb⟩; refine ⟨_, rfl, ?_⟩; have n0_ := Aside0.mk (Kd.R_below (qR HO_6) hb); have n1_ := Aside0.mk (Kd.R_below (qR HO_8) hb); have n2_ := Aside0.mk (Kd.R_below (qR HO_9) hb); have n3_ := Aside0.mk (Kd.R_below (qR HO251) hb); have n4_ := Aside0.mk (blk_below (qK BK222) hb); have n5_ := Aside0.mk (below_step (by repeat first | (with_reducible first | exact HB.out | apply bA | apply bN | apply bD | refine bS ?_ GE222.out) | exact HB.out) hb); clear HO_6; clear HO_8; clear HO_9; clear HO251; clear BK222; clear HB; have HO_6 := n0_; have HO_8 := n1_; have HO_9 := n2_; have HO251 := n3_; have BK222 := n4_; have HB := n5_; clear n0_ n1_ n2_ n3_ n4_ n5_; (try clear hb); (try clear hb2); (try clear hk); (try clear hi)) | ((with_reducible refine gate_callee (f := 53) rfl ?_); refine goesL_ (some 54) rfl rfl Try.func53 (by kernel_rfl) rfl #[.slice Ao22 t236.length co22, .int .i64 1] rfl (by (try simp only [mA, mC, mN]); first | done | rfl | (simp only [lD, lT]; rfl)) ?_; (with_reducible refine (laws_markClaimS.calls kj11 (fun k_ => some k_ = (.slice Ao22 t236.length co22 : Value).ownBlock) (.slice Ao22 t236.length co22) t236 1 t253 t254 w _ ?side1 ?side2 A36.out).mono ?_); (case side1 => repeat (first | (with_reducible first | exact HB.out | apply bA | apply bN | apply bD | refine bS ?_ GE222.out) | exact HB.out)); (case side2 => exact Kd.R_tight rfl HO_8.out); rintro e w41 ⟨rfl, hy0, hb, hkp⟩; refine ⟨_, rfl, ?_⟩; have n0_ := Aside0.mk (Kd.R_mono (ok' := fun k_ => some k_ ≠ (.slice Ao22 t236.length co22 : Value).ownBlock ∧ some k_ ≠ (v245 : Value).ownBlock ∧ some k_ ≠ (.slice Ao39 t249.length co39 : Value).ownBlock) (Kd.R_keptB (HO_6.out) hkp (fun k_ hk_ hs_ => (hk_.1.1) hs_)) (fun k_ hk_ => ⟨hk_.1.1.1, hk_.1.1.2, hk_.1.2⟩)); have n1_ := Aside0.mk (Kd.R_reok rfl hy0 (fun k_ e_ => HO_8.out.1 k_ e_)); have n2_ := Aside0.mk (Kd.R_mono (ok' := fun k_ => some k_ ≠ (v233 : Value).ownBlock ∧ some k_ ≠ (.slice Ao22 t236.length co22 : Value).ownBlock ∧ some k_ ≠ (.slice Ao39 t249.length co39 : Value).ownBlock) (Kd.R_keptB (HO_9.out) hkp (fun k_ hk_ hs_ => (hk_.1.2) hs_)) (fun k_ hk_ => ⟨hk_.1.1.1, hk_.1.1.2, hk_.1.2⟩)); have n3_ := Aside0.mk (blk_kept (qK BK222) hkp (fun hs_ => (fun e_ => (Kd.R_ne HO_8.out BK222.out (by decide)) e_) hs_)); have n4_ := Aside0.mk (Kd.R_mono (ok' := fun k_ => some k_ ≠ (v233 : Value).ownBlock ∧ some k_ ≠ (.slice Ao22 t236.length co22 : Value).ownBlock ∧ some k_ ≠ (v245 : Value).ownBlock) (Kd.R_keptB (HO251.out) hkp (fun k_ hk_ hs_ => (hk_.1.2) hs_)) (fun k_ hk_ => ⟨hk_.1.1.1.2, hk_.1.1.2, hk_.1.2⟩)); have n5_ := Aside0.mk (hb); clear HO_6; clear HO_8; clear HO_9; clear BK222; clear HO251; clear HB; have HO_6 := n0_; have HO_8 := n1_; have HO_9 := n2_; have BK222 := n3_; have HO251 := n4_; have HB := n5_; clear n0_ n1_ n2_ n3_ n4_ n5_; (try clear hb); (try clear hkp); (try clear hy0)))
      (try simp only [Act.put, sA, sZ, sS])
      go_cut [67] (fun v67 wc => ∃ (kq : Nat) (x67_36 : Bool), v67 = .bool x67_36 ∧ Aside0 (laws_FnExactAddClaim.j1 kq l0 t232 t235 t244 x67_36 a1_0 a1_1 a1_2 a1_3 a1_4 = some r) ∧ Aside0 (kq ≤ kj11) ∧ Aside0 (Kd.R k84 84 wc w.heap.size (fun k_ => some k_ ≠ (v245 : Value).ownBlock) v233 t232) ∧ Aside0 (Kd.R k84 84 wc w.heap.size (fun k_ => some k_ ≠ (v233 : Value).ownBlock) v245 t244) ∧ Aside0 (wc.heap[gb222]? = some (.cells #[.int .i64 a1_0, .int .i64 a1_1, .int .i64 a1_2, .int .i64 a1_3, .int .i64 a1_4] 78 (0, 0))) ∧ Aside0 (Below w.heap.size w wc))
      case first =>
       have H := HC37.out
       clear HC37
       by_cases c42 : t253 < 0
       ·rw [if_pos c42] at H
        have c42b0 : decide (t253 < 0) = true := decide_eq_true c42
        clear c42
        (first | rw [c42b0] | (simp only [i64_w, i32_w]; rw [c42b0]) | skip)
        have H' := Aside0.mk H
        clear H
        go_wp2
        go_meet
        case rel => exact ⟨_, (true), (by first | rfl | (simp; done) | (simp [*]; done)), H', ⟨by have := HJ11.out; first | omega | exact Nat.le_refl _⟩, ⟨by (with_reducible repeat first | apply rA | apply rN | apply rD); exact Kd.R_mono HO_6.out (fun _ hk => hk.2.1)⟩, ⟨by (with_reducible repeat first | apply rA | apply rN | apply rD); exact Kd.R_mono HO_9.out (fun _ hk => hk.1)⟩, ⟨by (with_reducible repeat first | refine kN ?_ _ | refine kD ?_ | refine kA ?_ _); exact BK222.out⟩, ⟨by repeat (first | (with_reducible first | exact HB.out | apply bA | apply bN | apply bD | refine bS ?_ GE222.out) | exact HB.out)⟩⟩
       ·rw [if_neg c42] at H
        have c42b0 : decide (t253 < 0) = false := decide_eq_false c42
        clear c42
        (first | rw [c42b0] | (simp only [i64_w, i32_w]; rw [c42b0]) | skip)
        replace H := Option.bind_eq_some_iff.mp H
        obtain ⟨t255, A430, H⟩ := H
        replace H : (if t255 = true then (laws_FnExactAddClaim.j1 kj11 l0 t232 t235 t244 (t247 != t235) a1_0 a1_1 a1_2 a1_3 a1_4) else (laws_FnExactAddClaim.j1 kj11 l0 t232 t235 t244 true a1_0 a1_1 a1_2 a1_3 a1_4)) = some r := H
        have A43 := Aside0.mk A430
        clear A430
        by_cases c44 : t255 = true
        ·subst c44
         have H1 : (laws_FnExactAddClaim.j1 kj11 l0 t232 t235 t244 (t247 != t235) a1_0 a1_1 a1_2 a1_3 a1_4) = some r := by rw [if_pos rfl] at H; exact H
         clear H
         have H := H1
         clear H1
         have H' := Aside0.mk H
         clear H
         obtain ⟨Ao45, co45, eo45⟩ := Kd.R_slice HO_9.out
         subst eo45
         obtain ⟨Ao46, co46, eo46⟩ := Kd.R_slice HO_6.out
         subst eo46
         go_wp2_with (first | (go_at_call 52; (with_reducible refine (laws_eqClaimS.calls kj11 _ _ t244 _ _ t232 true _ ?side1 ?side2 ?side3 ?side4 A43.out).mono ?_); (case side1 => repeat (first | exact (Kd.R_reads' HO_9.out).2.2 | (with_reducible refine Kd.C_alloc ?_ _) | (with_reducible refine Kd.C_drewN ?_ _) | (with_reducible refine Kd.C_drew ?_))); (case side2 => exact (Kd.R_reads' HO_9.out).2.1); (case side3 => repeat (first | exact (Kd.R_reads' HO_6.out).2.2 | (with_reducible refine Kd.C_alloc ?_ _) | (with_reducible refine Kd.C_drewN ?_ _) | (with_reducible refine Kd.C_drew ?_))); (case side4 => exact (Kd.R_reads' HO_6.out).2.1); rintro e w47 ⟨rfl, hb⟩; have n0_ := Aside0.mk (Kd.R_below (qR HO_6) hb); have n1_ := Aside0.mk (Kd.R_below (qR HO_8) hb); have n2_ := Aside0.mk (Kd.R_below (qR HO_9) hb); have n3_ := Aside0.mk (Kd.R_below (qR HO251) hb); have n4_ := Aside0.mk (blk_below (qK BK222) hb); have n5_ := Aside0.mk (below_step (by repeat first | (with_reducible first | exact HB.out | apply bA | apply bN | apply bD | refine bS ?_ GE222.out) | exact HB.out) hb); clear HO_6; clear HO_8; clear HO_9; clear HO251; clear BK222; clear HB; have HO_6 := n0_; have HO_8 := n1_; have HO_9 := n2_; have HO251 := n3_; have BK222 := n4_; have HB := n5_; clear n0_ n1_ n2_ n3_ n4_ n5_; (try clear hb); (try clear hb2); (try clear hk); (try clear hi)))
         go_meet
         case rel => exact ⟨_, ((t247 != t235)), (by first | rfl | (simp; done) | (simp [*]; done)), H', ⟨by have := HJ11.out; first | omega | exact Nat.le_refl _⟩, ⟨by (with_reducible repeat first | apply rA | apply rN | apply rD); exact Kd.R_mono HO_6.out (fun _ hk => hk.2.1)⟩, ⟨by (with_reducible repeat first | apply rA | apply rN | apply rD); exact Kd.R_mono HO_9.out (fun _ hk => hk.1)⟩, ⟨by (with_reducible repeat first | refine kN ?_ _ | refine kD ?_ | refine kA ?_ _); exact BK222.out⟩, ⟨by repeat (first | (with_reducible first | exact HB.out | apply bA | apply bN | apply bD | refine bS ?_ GE222.out) | exact HB.out)⟩⟩
        ·replace c44 := Bool.eq_false_iff.mpr c44
         subst c44
         have H1 : (laws_FnExactAddClaim.j1 kj11 l0 t232 t235 t244 true a1_0 a1_1 a1_2 a1_3 a1_4) = some r := by rw [if_neg (show ¬ (false = true) by decide)] at H; exact H
         clear H
         have H := H1
         clear H1
         have H' := Aside0.mk H
         clear H
         obtain ⟨Ao48, co48, eo48⟩ := Kd.R_slice HO_9.out
         subst eo48
         obtain ⟨Ao49, co49, eo49⟩ := Kd.R_slice HO_6.out
         subst eo49
         go_wp2_with (first | (go_at_call 52; (with_reducible refine (laws_eqClaimS.calls kj11 _ _ t244 _ _ t232 false _ ?side1 ?side2 ?side3 ?side4 A43.out).mono ?_); (case side1 => repeat (first | exact (Kd.R_reads' HO_9.out).2.2 | (with_reducible refine Kd.C_alloc ?_ _) | (with_reducible refine Kd.C_drewN ?_ _) | (with_reducible refine Kd.C_drew ?_))); (case side2 => exact (Kd.R_reads' HO_9.out).2.1); (case side3 => repeat (first | exact (Kd.R_reads' HO_6.out).2.2 | (with_reducible refine Kd.C_alloc ?_ _) | (with_reducible refine Kd.C_drewN ?_ _) | (with_reducible refine Kd.C_drew ?_))); (case side4 => exact (Kd.R_reads' HO_6.out).2.1); rintro e w50 ⟨rfl, hb⟩; have n0_ := Aside0.mk (Kd.R_below (qR HO_6) hb); have n1_ := Aside0.mk (Kd.R_below (qR HO_8) hb); have n2_ := Aside0.mk (Kd.R_below (qR HO_9) hb); have n3_ := Aside0.mk (Kd.R_below (qR HO251) hb); have n4_ := Aside0.mk (blk_below (qK BK222) hb); have n5_ := Aside0.mk (below_step (by repeat first | (with_reducible first | exact HB.out | apply bA | apply bN | apply bD | refine bS ?_ GE222.out) | exact HB.out) hb); clear HO_6; clear HO_8; clear HO_9; clear HO251; clear BK222; clear HB; have HO_6 := n0_; have HO_8 := n1_; have HO_9 := n2_; have HO251 := n3_; have BK222 := n4_; have HB := n5_; clear n0_ n1_ n2_ n3_ n4_ n5_; (try clear hb); (try clear hb2); (try clear hk); (try clear hi)))
         go_meet
         case rel => exact ⟨_, (true), (by first | rfl | (simp; done) | (simp [*]; done)), H', ⟨by have := HJ11.out; first | omega | exact Nat.le_refl _⟩, ⟨by (with_reducible repeat first | apply rA | apply rN | apply rD); exact Kd.R_mono HO_6.out (fun _ hk => hk.2.1)⟩, ⟨by (with_reducible repeat first | apply rA | apply rN | apply rD); exact Kd.R_mono HO_9.out (fun _ hk => hk.1)⟩, ⟨by (with_reducible repeat first | refine kN ?_ _ | refine kD ?_ | refine kA ?_ _); exact BK222.out⟩, ⟨by repeat (first | (with_reducible first | exact HB.out | apply bA | apply bN | apply bD | refine bS ?_ GE222.out) | exact HB.out)⟩⟩
      case rest =>
       clear HC37
       try clear c2
       try clear p2
       try clear c3
       try clear c4
       try clear c4b0
       try clear c5
       try clear c7
       try clear c25
       try clear c32
       try clear c35
       try clear c42
       try clear c42b0
       try clear c44
       try clear c47
       try clear c48
       try clear c49
       try clear c50
       try clear hcz20_0
       try clear hcz20_1
       try clear hcz20_2
       try clear hcz20_3
       try clear hcz20_4
       try clear hfz20_0
       try clear hfz20_1
       try clear hfz20_2
       try clear hfz20_3
       try clear hfz20_4
       try clear p2
       obtain ⟨kq, x67_36, rfl, HA, HJ36, HO_6, HO_9, BK222, HB⟩ := hcut
       cases kq with
       | zero => exact absurd HA.out (by simp [laws_FnExactAddClaim.j1])
       | succ kj36 =>
        have H := HA.out
        clear HA
        simp only [laws_FnExactAddClaim.j1] at H
        by_cases c51 : x67_36 = true
        ·subst c51
         have H1 : (some false) = some r := by rw [if_pos rfl] at H; exact H
         clear H
         have H := H1
         clear H1
         obtain rfl := Option.some.inj H
         go_wp2
         go_ret
         exact ⟨by first | rfl | (simp [errW_none, errW_some] <;> rfl) | (simp [*, errW_none, errW_some] <;> rfl), by repeat (first | (with_reducible first | exact HB.out | apply bA | apply bN | apply bD | refine bS ?_ GE222.out) | exact HB.out)⟩
        ·replace c51 := Bool.eq_false_iff.mpr c51
         subst c51
         have H1 : ((laws_markClaimS.f kj36 t244 1).bind fun bt256 => ((laws_heldClaimS.f kj36 bt256.2 1).bind fun t258 => (if t258 < 0 then (some false) else (if t258 = bt256.1 then ((laws_toClaimS.f kj36 l0).bind fun t259 => ((laws_toClaim.f a1_0 a1_1 a1_2 a1_3 a1_4).bind fun bt262 => ((impl_AddClaim.f kj36 t259 bt262.1 bt262.2.1 bt262.2.2.1 bt262.2.2.2.1 bt262.2.2.2.2).bind fun bt267 => ((laws_eqClaimS.f kj36 bt267.1 t232).bind fun t271 => (if t271 = true then (laws_FnExactAddClaim.j2 kj36 bt256.2 bt256.1 (bt267.2 != t235)) else (laws_FnExactAddClaim.j2 kj36 bt256.2 bt256.1 true)))))) else (some false))))) = some r := by rw [if_neg (show ¬ (false = true) by decide)] at H; exact H
         clear H
         have H := H1
         clear H1
         replace H := Option.bind_eq_some_iff.mp H
         obtain ⟨⟨t256, t257⟩, A520, H⟩ := H
         replace H : ((laws_heldClaimS.f kj36 t257 1).bind fun t258 => (if t258 < 0 then (some false) else (if t258 = t256 then ((laws_toClaimS.f kj36 l0).bind fun t259 => ((laws_toClaim.f a1_0 a1_1 a1_2 a1_3 a1_4).bind fun bt262 => ((impl_AddClaim.f kj36 t259 bt262.1 bt262.2.1 bt262.2.2.1 bt262.2.2.2.1 bt262.2.2.2.2).bind fun bt267 => ((laws_eqClaimS.f kj36 bt267.1 t232).bind fun t271 => (if t271 = true then (laws_FnExactAddClaim.j2 kj36 t257 t256 (bt267.2 != t235)) else (laws_FnExactAddClaim.j2 kj36 t257 t256 true)))))) else (some false)))) = some r := H
         have A52 := Aside0.mk A520
         clear A520
         replace H := Option.bind_eq_some_iff.mp H
         obtain ⟨t258, A530, H⟩ := H
         replace H : (if t258 < 0 then (some false) else (if t258 = t256 then ((laws_toClaimS.f kj36 l0).bind fun t259 => ((laws_toClaim.f a1_0 a1_1 a1_2 a1_3 a1_4).bind fun bt262 => ((impl_AddClaim.f kj36 t259 bt262.1 bt262.2.1 bt262.2.2.1 bt262.2.2.2.1 bt262.2.2.2.2).bind fun bt267 => ((laws_eqClaimS.f kj36 bt267.1 t232).bind fun t271 => (if t271 = true then (laws_FnExactAddClaim.j2 kj36 t257 t256 (bt267.2 != t235)) else (laws_FnExactAddClaim.j2 kj36 t257 t256 true)))))) else (some false))) = some r := H
         have A53 := Aside0.mk A530
         clear A530
         by_cases c54 : t258 < 0
         ·rw [if_pos c54] at H
          have c54b0 : decide (t258 < 0) = true := decide_eq_true c54
          clear c54
          obtain rfl := Option.some.inj H
          obtain ⟨Ao55, co55, eo55⟩ := Kd.R_slice HO_9.out
          subst eo55
          go_wp2_with (first | ((with_reducible refine gate_callee (f := 53) rfl ?_); refine goesL_ (some 70) rfl rfl Try.func53 (by kernel_rfl) rfl #[.slice Ao55 t244.length co55, .int .i64 1] rfl (by (try simp only [mA, mC, mN]); first | done | rfl | (simp only [lD, lT]; rfl)) ?_; (with_reducible refine (laws_markClaimS.calls kj36 (fun k_ => some k_ = (.slice Ao55 t244.length co55 : Value).ownBlock) (.slice Ao55 t244.length co55) t244 1 t256 t257 w _ ?side1 ?side2 A52.out).mono ?_); (case side1 => repeat (first | (with_reducible first | exact HB.out | apply bA | apply bN | apply bD | refine bS ?_ GE222.out) | exact HB.out)); (case side2 => exact Kd.R_tight rfl HO_9.out); rintro e w56 ⟨rfl, hy0, hb, hkp⟩; refine ⟨_, rfl, ?_⟩; have n0_ := Aside0.mk (Kd.R_mono (ok' := fun k_ => some k_ ≠ (.slice Ao55 t244.length co55 : Value).ownBlock) (Kd.R_keptB (HO_6.out) hkp (fun k_ hk_ hs_ => (hk_) hs_)) (fun k_ hk_ => hk_.1)); have n1_ := Aside0.mk (Kd.R_reok rfl hy0 (fun k_ e_ => HO_9.out.1 k_ e_)); have n2_ := Aside0.mk (blk_kept (qK BK222) hkp (fun hs_ => (fun e_ => (Kd.R_ne HO_9.out BK222.out (by decide)) e_) hs_)); have n3_ := Aside0.mk (hb); clear HO_6; clear HO_9; clear BK222; clear HB; have HO_6 := n0_; have HO_9 := n1_; have BK222 := n2_; have HB := n3_; clear n0_ n1_ n2_ n3_; (try clear hb); (try clear hkp); (try clear hy0)) | ((with_reducible refine gate_callee (f := 54) rfl ?_); refine goesL_ (some 73) rfl rfl Try.func54 (by kernel_rfl) rfl #[.slice Ao55 t257.length co55, .int .i64 1] rfl (by (try simp only [List.map_toArray, List.map_cons, List.map_nil]); first | done | (rw [show t257.length = t244.length from (Kd.R_reads' HO_9.out).1.symm] <;> rfl) | rfl | (simp only [List.length_drop, List.length_take]; rfl)) ?_; (with_reducible refine (laws_heldClaimS.calls kj36 _ _ t257 1 t258 _ ?side1 ?side2 A53.out).mono ?_); (case side1 => repeat (first | exact (Kd.R_reads' HO_9.out).2.2 | (with_reducible refine Kd.C_alloc ?_ _) | (with_reducible refine Kd.C_drewN ?_ _) | (with_reducible refine Kd.C_drew ?_))); (case side2 => rw [show t257.length = t244.length from (Kd.R_reads' HO_9.out).1.symm]; exact (Kd.R_reads' HO_9.out).2.1); rintro e w' ⟨rfl, ⟨nd, rfl⟩⟩; refine ⟨_, rfl, ?_⟩))
          go_ret
          exact ⟨by first | rfl | (simp [errW_none, errW_some] <;> rfl) | (simp [*, errW_none, errW_some] <;> rfl), by repeat (first | (with_reducible first | exact HB.out | apply bA | apply bN | apply bD | refine bS ?_ GE222.out) | exact HB.out)⟩
         ·rw [if_neg c54] at H
          have c54b0 : decide (t258 < 0) = false := decide_eq_false c54
          clear c54
          by_cases c57 : t258 = t256
          ·rw [if_pos c57] at H
           have c57b0 : (t258 == t256) = true := beq_iff_eq.mpr c57
           have c57b1 : (t258 != t256) = false := bne_eq_false_iff_eq.mpr c57
           clear c57
           replace H := Option.bind_eq_some_iff.mp H
           obtain ⟨t259, A580, H⟩ := H
           replace H : ((laws_toClaim.f a1_0 a1_1 a1_2 a1_3 a1_4).bind fun bt262 => ((impl_AddClaim.f kj36 t259 bt262.1 bt262.2.1 bt262.2.2.1 bt262.2.2.2.1 bt262.2.2.2.2).bind fun bt267 => ((laws_eqClaimS.f kj36 bt267.1 t232).bind fun t271 => (if t271 = true then (laws_FnExactAddClaim.j2 kj36 t257 t256 (bt267.2 != t235)) else (laws_FnExactAddClaim.j2 kj36 t257 t256 true))))) = some r := H
           have A58 := Aside0.mk A580
           clear A580
           replace H := Option.bind_eq_some_iff.mp H
           obtain ⟨⟨t262, t263, t264, t265, t266⟩, A590, H⟩ := H
           replace H : ((impl_AddClaim.f kj36 t259 t262 t263 t264 t265 t266).bind fun bt267 => ((laws_eqClaimS.f kj36 bt267.1 t232).bind fun t271 => (if t271 = true then (laws_FnExactAddClaim.j2 kj36 t257 t256 (bt267.2 != t235)) else (laws_FnExactAddClaim.j2 kj36 t257 t256 true)))) = some r := H
           have A59 := Aside0.mk A590
           clear A590
           replace H := Option.bind_eq_some_iff.mp H
           obtain ⟨⟨t267, t270⟩, A600, H⟩ := H
           replace H : ((laws_eqClaimS.f kj36 t267 t232).bind fun t271 => (if t271 = true then (laws_FnExactAddClaim.j2 kj36 t257 t256 (t270 != t235)) else (laws_FnExactAddClaim.j2 kj36 t257 t256 true))) = some r := H
           have A60 := Aside0.mk A600
           clear A600
           have HC61 := Aside0.mk H
           clear H
           obtain ⟨Ao62, co62, eo62⟩ := Kd.R_slice HO_9.out
           subst eo62
           try go_wp2_with (first | ((with_reducible refine gate_callee (f := 53) rfl ?_); refine goesL_ (some 70) rfl rfl Try.func53 (by kernel_rfl) rfl #[.slice Ao62 t244.length co62, .int .i64 1] rfl (by (try simp only [mA, mC, mN]); first | done | rfl | (simp only [lD, lT]; rfl)) ?_; (with_reducible refine (laws_markClaimS.calls kj36 (fun k_ => some k_ = (.slice Ao62 t244.length co62 : Value).ownBlock) (.slice Ao62 t244.length co62) t244 1 t256 t257 w _ ?side1 ?side2 A52.out).mono ?_); (case side1 => repeat (first | (with_reducible first | exact HB.out | apply bA | apply bN | apply bD | refine bS ?_ GE222.out) | exact HB.out)); (case side2 => exact Kd.R_tight rfl HO_9.out); rintro e w63 ⟨rfl, hy0, hb, hkp⟩; refine ⟨_, rfl, ?_⟩; have n0_ := Aside0.mk (Kd.R_mono (ok' := fun k_ => some k_ ≠ (.slice Ao62 t244.length co62 : Value).ownBlock) (Kd.R_keptB (HO_6.out) hkp (fun k_ hk_ hs_ => (hk_) hs_)) (fun k_ hk_ => hk_.1)); have n1_ := Aside0.mk (Kd.R_reok rfl hy0 (fun k_ e_ => HO_9.out.1 k_ e_)); have n2_ := Aside0.mk (blk_kept (qK BK222) hkp (fun hs_ => (fun e_ => (Kd.R_ne HO_9.out BK222.out (by decide)) e_) hs_)); have n3_ := Aside0.mk (hb); clear HO_6; clear HO_9; clear BK222; clear HB; have HO_6 := n0_; have HO_9 := n1_; have BK222 := n2_; have HB := n3_; clear n0_ n1_ n2_ n3_; (try clear hb); (try clear hkp); (try clear hy0)) | ((with_reducible refine gate_callee (f := 54) rfl ?_); refine goesL_ (some 73) rfl rfl Try.func54 (by kernel_rfl) rfl #[.slice Ao62 t257.length co62, .int .i64 1] rfl (by (try simp only [List.map_toArray, List.map_cons, List.map_nil]); first | done | (rw [show t257.length = t244.length from (Kd.R_reads' HO_9.out).1.symm] <;> rfl) | rfl | (simp only [List.length_drop, List.length_take]; rfl)) ?_; (with_reducible refine (laws_heldClaimS.calls kj36 _ _ t257 1 t258 _ ?side1 ?side2 A53.out).mono ?_); (case side1 => repeat (first | exact (Kd.R_reads' HO_9.out).2.2 | (with_reducible refine Kd.C_alloc ?_ _) | (with_reducible refine Kd.C_drewN ?_ _) | (with_reducible refine Kd.C_drew ?_))); (case side2 => rw [show t257.length = t244.length from (Kd.R_reads' HO_9.out).1.symm]; exact (Kd.R_reads' HO_9.out).2.1); rintro e w' ⟨rfl, ⟨nd, rfl⟩⟩; refine ⟨_, rfl, ?_⟩))
           (try (rw [drewN_self w63]; generalize hq_ : World.drewN w63 _ = w63; have n0_ : Aside0 (Kd.R k84 84 w63 w.heap.size (fun k_ => some k_ ≠ (.slice Ao62 t244.length co62 : Value).ownBlock) v233 t232) := ⟨by rw [← hq_]; exact (qR HO_6)⟩; have n1_ : Aside0 (Kd.R k84 84 w63 w.heap.size (fun k_ => some k_ ≠ (v233 : Value).ownBlock) (.slice Ao62 t244.length co62) t257) := ⟨by rw [← hq_]; exact (qR HO_9)⟩; have n2_ : Aside0 (w63.heap[gb222]? = some (.cells #[.int .i64 a1_0, .int .i64 a1_1, .int .i64 a1_2, .int .i64 a1_3, .int .i64 a1_4] 78 (0, 0))) := ⟨by rw [← hq_]; exact (qK BK222)⟩; have n3_ : Aside0 (Below w.heap.size w w63) := ⟨by rw [← hq_]; exact (by repeat first | (with_reducible first | exact HB.out | apply bA | apply bN | apply bD | refine bS ?_ GE222.out) | exact HB.out)⟩; clear HO_6 HO_9 BK222 HB hq_; have HO_6 := n0_; have HO_9 := n1_; have BK222 := n2_; have HB := n3_; clear n0_ n1_ n2_ n3_))
           have n0_ := Aside0.mk (Kd.R_drew HO_6.out)
           have n1_ := Aside0.mk (Kd.R_drew HO_9.out)
           have n2_ := Aside0.mk (blk_drew BK222.out)
           have n3_ := Aside0.mk (below_drew1 HB.out)
           clear HO_6
           clear HO_9
           clear BK222
           clear HB
           have HO_6 := n0_
           have HO_9 := n1_
           have BK222 := n2_
           have HB := n3_
           clear n0_ n1_ n2_ n3_
           refine start_ (n := 10) (S := fun w' => w'.cell? ⟨gb222, 0, none⟩ = some (.int .i64 a1_0) ∧ w'.cell? ⟨gb222, 1, none⟩ = some (.int .i64 a1_1) ∧ w'.cell? ⟨gb222, 2, none⟩ = some (.int .i64 a1_2) ∧ w'.cell? ⟨gb222, 3, none⟩ = some (.int .i64 a1_3) ∧ w'.cell? ⟨gb222, 4, none⟩ = some (.int .i64 a1_4)) (ds := []) (bR [0, 10]) (by kernel_rfl) rfl rfl ⟨cC BK222 0, cC BK222 1, cC BK222 2, cC BK222 3, cC BK222 4⟩ (fun hHeld => ?_); refine with_tabW laws_FnExactAddClaim.tab24 laws_FnExactAddClaim.bits24 (fun HT_ HW_ => ?_)
           generalize w63.drew = w64 at HO_6 HO_9 BK222 HB hHeld ⊢
           refine pP 0 80 (bR [1, 9]) rfl rfl HT_ ?_
           refine take_ (i := 2) (N := some 82) (v := ?_) (a' := ?_) (bR [1, 1, 1, 7]) rfl rfl (take_ofW HT_.out HW_.out (by kernel_rfl)) (fun _ _ _ h => h) (Or.inl ⟨by rfl, ?_⟩) hHeld ?_ ?_
           rotate_left; (rintro w' ⟨s0, s1, s2, s3, s4⟩; go_simp; with_reducible rfl); rotate_left; (simp only [Act.put, sA, sZ, sS, i64_w]; rfl)
           refine one_ (i := 1) (N := some 81) (bR [3, 7]) rfl rfl (one_of HT_.out (by kernel_rfl)) (by decide) (fun K hK => ?_)
           refine goes_ Try.func49 (by kernel_rfl) rfl #[.slice A0 l0.length c0] (by rfl) rfl rfl (by (try simp only [mA, mC, mN]); first | done | rfl | (simp only [lD, lT]; rfl)) ?_
           with_reducible refine (laws_toClaimS.calls kj36 _ _ l0 t259 _ ?side1 ?side2 A58.out).mono ?_
           (case side1 => exact qC (Kd.C_below HR0.out HB.out))
           (case side2 => exact HC0.out)
           rintro e w65 ⟨v260, rfl, ho0, hb⟩
           refine ⟨_, rfl, ?_⟩
           have n0_ := Aside0.mk (Kd.R_elder' (qR HO_6) (Kd.R_base ho0) hb)
           have n1_ := Aside0.mk (Kd.R_elder' (qR HO_9) (Kd.R_base ho0) hb)
           have n2_ := Aside0.mk (Kd.R_lower (Kd.R_new' (Kd.R_new' ho0 (Kd.R_lt (qR HO_6))) (Kd.R_lt (qR HO_9))) (below_size (by repeat first | (with_reducible first | exact HB.out | apply bA | apply bN | apply bD | refine bS ?_ GE222.out) | exact HB.out)))
           have n3_ := Aside0.mk (blk_below (qK BK222) hb)
           have n4_ := Aside0.mk (below_step (by repeat first | (with_reducible first | exact HB.out | apply bA | apply bN | apply bD | refine bS ?_ GE222.out) | exact HB.out) hb)
           clear HO_6
           clear HO_9
           clear BK222
           clear HB
           have HO_6 := n0_
           have HO_9 := n1_
           have HO261 := n2_
           have BK222 := n3_
           have HB := n4_
           clear n0_ n1_ n2_ n3_ n4_
           (try clear hb)
           (try clear hb2)
           (try clear hk)
           (try clear hi)
           (try clear ho0)
           refine hK.out _ _ ⟨cC BK222 0, cC BK222 1, cC BK222 2, cC BK222 3, cC BK222 4⟩ (fun hHeld => ?_)
           clear hK K
           refine norm_ (a' := ?_) ?_ ?_
           rotate_left
           ·show Act.put _ (some 81) _ = _
            simp only [Act.put, sA, sZ, sS, i64_w]
            rfl
           refine one_ (i := 3) (N := some 83) (bR [4, 6]) rfl rfl (one_of HT_.out (by kernel_rfl)) (by decide) (fun K hK => ?_)
           refine goes_ Try.func50 (by kernel_rfl) rfl #[.agg #[.int .i64 a1_0, .int .i64 a1_1, .int .i64 a1_2, .int .i64 a1_3, .int .i64 a1_4]] (by rfl) rfl rfl (by (try simp only [mA, mC, mN]); first | done | rfl | (simp only [lD, lT]; rfl)) ?_
           with_reducible refine (laws_toClaim.calls a1_0 a1_1 a1_2 a1_3 a1_4 t262 t263 t264 t265 t266 _ A59.out).mono ?_
           rintro e w66 ⟨rfl, hb⟩
           refine ⟨_, rfl, ?_⟩
           have n0_ := Aside0.mk (Kd.R_below (qR HO_6) hb)
           have n1_ := Aside0.mk (Kd.R_below (qR HO_9) hb)
           have n2_ := Aside0.mk (Kd.R_below (qR HO261) hb)
           have n3_ := Aside0.mk (blk_below (qK BK222) hb)
           have n4_ := Aside0.mk (below_step (by repeat first | (with_reducible first | exact HB.out | apply bA | apply bN | apply bD | refine bS ?_ GE222.out) | exact HB.out) hb)
           clear HO_6
           clear HO_9
           clear HO261
           clear BK222
           clear HB
           have HO_6 := n0_
           have HO_9 := n1_
           have HO261 := n2_
           have BK222 := n3_
           have HB := n4_
           clear n0_ n1_ n2_ n3_ n4_
           (try clear hb)
           (try clear hb2)
           (try clear hk)
           (try clear hi)
           obtain ⟨Ao67, co67, eo67⟩ := Kd.R_slice HO261.out
           (first | subst eo67 | (injection eo67 with f1_ f2_ f3_; have f4_ := f1_.symm; have f5_ := f3_.symm; clear f1_ f2_ f3_; subst f4_; subst f5_))
           refine hK.out _ _ ⟨cC BK222 0, cC BK222 1, cC BK222 2, cC BK222 3, cC BK222 4⟩ (fun hHeld => ?_)
           clear hK K
           refine norm_ (a' := ?_) ?_ ?_
           rotate_left
           ·show Act.put _ (some 83) _ = _
            simp only [Act.put, sA, sZ, sS, i64_w]
            rfl
           refine one_ (i := 4) (N := some 84) (bR [5, 5]) rfl rfl (one_of HT_.out (by kernel_rfl)) (by decide) (fun K hK => ?_)
           refine goes_ Try.func51 (by kernel_rfl) rfl #[.slice Ao67 t259.length co67, .agg #[.int .i64 t262, .int .i64 t263, .int .i64 t264, .int .i64 t265, .int .i64 t266]] (by rfl) rfl rfl (by (try simp only [mA, mC, mN]); first | done | rfl | (simp only [lD, lT]; rfl)) ?_
           with_reducible refine (impl_AddClaim.calls kj36 _ _ t259 t262 t263 t264 t265 t266 t267 t270 _ ?side1 ?side2 A60.out).mono ?_
           (case side1 => repeat (first | exact (Kd.R_reads' HO261.out).2.2 | (with_reducible refine Kd.C_alloc ?_ _) | (with_reducible refine Kd.C_drewN ?_ _) | (with_reducible refine Kd.C_drew ?_)))
           (case side2 => exact (Kd.R_reads' HO261.out).2.1)
           rintro e w68 ⟨v268, rfl, ho0, hb⟩
           refine ⟨_, rfl, ?_⟩
           have n0_ := Aside0.mk (Kd.R_elder' (qR HO_6) (Kd.R_base ho0) hb)
           have n1_ := Aside0.mk (Kd.R_elder' (qR HO_9) (Kd.R_base ho0) hb)
           have n2_ := Aside0.mk (Kd.R_elder' (qR HO261) (Kd.R_base ho0) hb)
           have n3_ := Aside0.mk (Kd.R_lower (Kd.R_new' (Kd.R_new' (Kd.R_new' ho0 (Kd.R_lt (qR HO_6))) (Kd.R_lt (qR HO_9))) (Kd.R_lt (qR HO261))) (below_size (by repeat first | (with_reducible first | exact HB.out | apply bA | apply bN | apply bD | refine bS ?_ GE222.out) | exact HB.out)))
           have n4_ := Aside0.mk (blk_below (qK BK222) hb)
           have n5_ := Aside0.mk (below_step (by repeat first | (with_reducible first | exact HB.out | apply bA | apply bN | apply bD | refine bS ?_ GE222.out) | exact HB.out) hb)
           clear HO_6
           clear HO_9
           clear HO261
           clear BK222
           clear HB
           have HO_6 := n0_
           have HO_9 := n1_
           have HO261 := n2_
           have HO269 := n3_
           have BK222 := n4_
           have HB := n5_
           clear n0_ n1_ n2_ n3_ n4_ n5_
           (try clear hb)
           (try clear hb2)
           (try clear hk)
           (try clear hi)
           (try clear ho0)
           refine hK.out _ _ ⟨cC BK222 0, cC BK222 1, cC BK222 2, cC BK222 3, cC BK222 4⟩ (fun hHeld => ?_)
           clear hK K
           refine norm_ (a' := ?_) ?_ ?_
           rotate_left
           ·show Act.put _ (some 84) _ = _
            simp only [Act.put, sA, sZ, sS, i64_w]
            rfl
           refine pP 5 79 (bR [6, 4]) rfl rfl HT_ ?_
           refine pP 6 85 (bR [7, 3]) rfl rfl HT_ ?_
           refine pP 7 86 (bR [8, 2]) rfl rfl HT_ ?_
           refine pP 8 14 (bR [9, 1]) rfl rfl HT_ ?_
           refine pP 9 15 (bR [10]) rfl rfl HT_ ?_
           refine done_ (done_of HT_.out (by kernel_rfl)) ?_
           go_upto_region 25 with (fail)
           go_cut [95] (fun v95 wc => ∃ (kq : Nat) (x95_60 : Bool), v95 = .bool x95_60 ∧ Aside0 (laws_FnExactAddClaim.j2 kq t257 t256 x95_60 = some r) ∧ Aside0 (kq ≤ kj36) ∧ Aside0 (Kd.R k84 84 wc w.heap.size (fun _ => True) (.slice Ao62 t244.length co62) t257) ∧ Aside0 (wc.heap[gb222]? = some (.cells #[.int .i64 a1_0, .int .i64 a1_1, .int .i64 a1_2, .int .i64 a1_3, .int .i64 a1_4] 78 (0, 0))) ∧ Aside0 (Below w.heap.size w wc))
           case first =>
            have H := HC61.out
            clear HC61
            replace H := Option.bind_eq_some_iff.mp H
            obtain ⟨t271, A690, H⟩ := H
            replace H : (if t271 = true then (laws_FnExactAddClaim.j2 kj36 t257 t256 (t270 != t235)) else (laws_FnExactAddClaim.j2 kj36 t257 t256 true)) = some r := H
            have A69 := Aside0.mk A690
            clear A690
            by_cases c70 : t271 = true
            ·subst c70
             have H1 : (laws_FnExactAddClaim.j2 kj36 t257 t256 (t270 != t235)) = some r := by rw [if_pos rfl] at H; exact H
             clear H
             have H := H1
             clear H1
             have H' := Aside0.mk H
             clear H
             obtain ⟨Ao71, co71, eo71⟩ := Kd.R_slice HO269.out
             subst eo71
             obtain ⟨Ao72, co72, eo72⟩ := Kd.R_slice HO_6.out
             subst eo72
             go_wp2_with (first | ((with_reducible refine gate_callee (f := 52) rfl ?_); refine goesL_ (some 89) rfl rfl Try.func52 (by kernel_rfl) rfl #[.slice Ao71 t267.length co71, .slice Ao72 t232.length co72] rfl (by (try simp only [mA, mC, mN]); first | done | rfl | (simp only [lD, lT]; rfl)) ?_; (with_reducible refine (laws_eqClaimS.calls kj36 _ _ t267 _ _ t232 true _ ?side1 ?side2 ?side3 ?side4 A69.out).mono ?_); (case side1 => repeat (first | exact (Kd.R_reads' HO269.out).2.2 | (with_reducible refine Kd.C_alloc ?_ _) | (with_reducible refine Kd.C_drewN ?_ _) | (with_reducible refine Kd.C_drew ?_))); (case side2 => exact (Kd.R_reads' HO269.out).2.1); (case side3 => repeat (first | exact (Kd.R_reads' HO_6.out).2.2 | (with_reducible refine Kd.C_alloc ?_ _) | (with_reducible refine Kd.C_drewN ?_ _) | (with_reducible refine Kd.C_drew ?_))); (case side4 => exact (Kd.R_reads' HO_6.out).2.1); rintro e w73 ⟨rfl, hb⟩; refine ⟨_, rfl, ?_⟩; have n0_ := Aside0.mk (Kd.R_below (qR HO_6) hb); have n1_ := Aside0.mk (Kd.R_below (qR HO_9) hb); have n2_ := Aside0.mk (Kd.R_below (qR HO261) hb); have n3_ := Aside0.mk (Kd.R_below (qR HO269) hb); have n4_ := Aside0.mk (blk_below (qK BK222) hb); have n5_ := Aside0.mk (below_step (by repeat first | (with_reducible first | exact HB.out | apply bA | apply bN | apply bD | refine bS ?_ GE222.out) | exact HB.out) hb); clear HO_6; clear HO_9; clear HO261; clear HO269; clear BK222; clear HB; have HO_6 := n0_; have HO_9 := n1_; have HO261 := n2_; have HO269 := n3_; have BK222 := n4_; have HB := n5_; clear n0_ n1_ n2_ n3_ n4_ n5_; (try clear hb); (try clear hb2); (try clear hk); (try clear hi)))
             go_meet
             case rel => exact ⟨_, ((t270 != t235)), (by first | rfl | (simp; done) | (simp [*]; done)), H', ⟨by have := HJ11.out; have := HJ36.out; first | omega | exact Nat.le_refl _⟩, ⟨by (with_reducible repeat first | apply rA | apply rN | apply rD); exact Kd.R_mono HO_9.out (fun _ hk => trivial)⟩, ⟨by (with_reducible repeat first | refine kN ?_ _ | refine kD ?_ | refine kA ?_ _); exact BK222.out⟩, ⟨by repeat (first | (with_reducible first | exact HB.out | apply bA | apply bN | apply bD | refine bS ?_ GE222.out) | exact HB.out)⟩⟩
            ·replace c70 := Bool.eq_false_iff.mpr c70
             subst c70
             have H1 : (laws_FnExactAddClaim.j2 kj36 t257 t256 true) = some r := by rw [if_neg (show ¬ (false = true) by decide)] at H; exact H
             clear H
             have H := H1
             clear H1
             have H' := Aside0.mk H
             clear H
             obtain ⟨Ao74, co74, eo74⟩ := Kd.R_slice HO269.out
             subst eo74
             obtain ⟨Ao75, co75, eo75⟩ := Kd.R_slice HO_6.out
             subst eo75
             go_wp2_with (first | ((with_reducible refine gate_callee (f := 52) rfl ?_); refine goesL_ (some 89) rfl rfl Try.func52 (by kernel_rfl) rfl #[.slice Ao74 t267.length co74, .slice Ao75 t232.length co75] rfl (by (try simp only [mA, mC, mN]); first | done | rfl | (simp only [lD, lT]; rfl)) ?_; (with_reducible refine (laws_eqClaimS.calls kj36 _ _ t267 _ _ t232 false _ ?side1 ?side2 ?side3 ?side4 A69.out).mono ?_); (case side1 => repeat (first | exact (Kd.R_reads' HO269.out).2.2 | (with_reducible refine Kd.C_alloc ?_ _) | (with_reducible refine Kd.C_drewN ?_ _) | (with_reducible refine Kd.C_drew ?_))); (case side2 => exact (Kd.R_reads' HO269.out).2.1); (case side3 => repeat (first | exact (Kd.R_reads' HO_6.out).2.2 | (with_reducible refine Kd.C_alloc ?_ _) | (with_reducible refine Kd.C_drewN ?_ _) | (with_reducible refine Kd.C_drew ?_))); (case side4 => exact (Kd.R_reads' HO_6.out).2.1); rintro e w76 ⟨rfl, hb⟩; refine ⟨_, rfl, ?_⟩; have n0_ := Aside0.mk (Kd.R_below (qR HO_6) hb); have n1_ := Aside0.mk (Kd.R_below (qR HO_9) hb); have n2_ := Aside0.mk (Kd.R_below (qR HO261) hb); have n3_ := Aside0.mk (Kd.R_below (qR HO269) hb); have n4_ := Aside0.mk (blk_below (qK BK222) hb); have n5_ := Aside0.mk (below_step (by repeat first | (with_reducible first | exact HB.out | apply bA | apply bN | apply bD | refine bS ?_ GE222.out) | exact HB.out) hb); clear HO_6; clear HO_9; clear HO261; clear HO269; clear BK222; clear HB; have HO_6 := n0_; have HO_9 := n1_; have HO261 := n2_; have HO269 := n3_; have BK222 := n4_; have HB := n5_; clear n0_ n1_ n2_ n3_ n4_ n5_; (try clear hb); (try clear hb2); (try clear hk); (try clear hi)))
             go_meet
             case rel => exact ⟨_, (true), (by first | rfl | (simp; done) | (simp [*]; done)), H', ⟨by have := HJ11.out; have := HJ36.out; first | omega | exact Nat.le_refl _⟩, ⟨by (with_reducible repeat first | apply rA | apply rN | apply rD); exact Kd.R_mono HO_9.out (fun _ hk => trivial)⟩, ⟨by (with_reducible repeat first | refine kN ?_ _ | refine kD ?_ | refine kA ?_ _); exact BK222.out⟩, ⟨by repeat (first | (with_reducible first | exact HB.out | apply bA | apply bN | apply bD | refine bS ?_ GE222.out) | exact HB.out)⟩⟩
           case rest =>
            clear HC61
            try clear c2
            try clear p2
            try clear c3
            try clear c4
            try clear c4b0
            try clear c5
            try clear c7
            try clear c25
            try clear c32
            try clear c35
            try clear c42
            try clear c42b0
            try clear c44
            try clear c47
            try clear c48
            try clear c49
            try clear c50
            try clear c51
            try clear c52
            try clear c53
            try clear c54
            try clear c54b0
            try clear c57
            try clear c57b0
            try clear c57b1
            try clear c70
            try clear hcz20_0
            try clear hcz20_1
            try clear hcz20_2
            try clear hcz20_3
            try clear hcz20_4
            try clear hfz20_0
            try clear hfz20_1
            try clear hfz20_2
            try clear hfz20_3
            try clear hfz20_4
            try clear p2
            obtain ⟨kq, x95_60, rfl, HA, HJ60, HO_9, BK222, HB⟩ := hcut
            have hl9_60 := (Kd.R_reads' HO_9.out).1
            rw [hl9_60] at HO_9
            (try simp only [hl9_60])
            (try simp only [hl9_60] at BK222)
            cases kq with
            | zero => exact absurd HA.out (by simp [laws_FnExactAddClaim.j2])
            | succ kj60 =>
             have H := HA.out
             clear HA
             simp only [laws_FnExactAddClaim.j2] at H
             by_cases c77 : x95_60 = true
             ·subst c77
              have H1 : (some false) = some r := by rw [if_pos rfl] at H; exact H
              clear H
              have H := H1
              clear H1
              obtain rfl := Option.some.inj H
              go_wp2
              go_ret
              exact ⟨by first | rfl | (simp [errW_none, errW_some] <;> rfl) | (simp [*, errW_none, errW_some] <;> rfl), by repeat (first | (with_reducible first | exact HB.out | apply bA | apply bN | apply bD | refine bS ?_ GE222.out) | exact HB.out)⟩
             ·replace c77 := Bool.eq_false_iff.mpr c77
              subst c77
              have H1 : ((laws_heldClaimS.f kj60 t257 1).bind fun t272 => (if t272 < 0 then (some false) else (if t272 = t256 then (some true) else (some false)))) = some r := by rw [if_neg (show ¬ (false = true) by decide)] at H; exact H
              clear H
              have H := H1
              clear H1
              replace H := Option.bind_eq_some_iff.mp H
              obtain ⟨t272, A780, H⟩ := H
              replace H : (if t272 < 0 then (some false) else (if t272 = t256 then (some true) else (some false))) = some r := H
              have A78 := Aside0.mk A780
              clear A780
              by_cases c79 : t272 < 0
              ·rw [if_pos c79] at H
               have c79b0 : decide (t272 < 0) = true := decide_eq_true c79
               clear c79
               obtain rfl := Option.some.inj H
               go_wp2_with (first | ((with_reducible refine gate_callee (f := 54) rfl ?_); refine goesL_ (some 98) rfl rfl Try.func54 (by kernel_rfl) rfl #[.slice Ao62 t257.length co62, .int .i64 1] rfl (by (try simp only [mA, mC, mN]); first | done | rfl | (simp only [lD, lT]; rfl)) ?_; (with_reducible refine (laws_heldClaimS.calls kj60 _ _ t257 1 t272 _ ?side1 ?side2 A78.out).mono ?_); (case side1 => repeat (first | exact (Kd.R_reads' HO_9.out).2.2 | (with_reducible refine Kd.C_alloc ?_ _) | (with_reducible refine Kd.C_drewN ?_ _) | (with_reducible refine Kd.C_drew ?_))); (case side2 => exact (Kd.R_reads' HO_9.out).2.1); rintro e w' ⟨rfl, ⟨nd, rfl⟩⟩; refine ⟨_, rfl, ?_⟩))
               go_ret
               exact ⟨by first | rfl | (simp [errW_none, errW_some] <;> rfl) | (simp [*, errW_none, errW_some] <;> rfl), by repeat (first | (with_reducible first | exact HB.out | apply bA | apply bN | apply bD | refine bS ?_ GE222.out) | exact HB.out)⟩
              ·rw [if_neg c79] at H
               have c79b0 : decide (t272 < 0) = false := decide_eq_false c79
               clear c79
               by_cases c80 : t272 = t256
               ·rw [if_pos c80] at H
                have c80b0 : (t272 == t256) = true := beq_iff_eq.mpr c80
                have c80b1 : (t272 != t256) = false := bne_eq_false_iff_eq.mpr c80
                clear c80
                obtain rfl := Option.some.inj H
                go_wp2_with (first | ((with_reducible refine gate_callee (f := 54) rfl ?_); refine goesL_ (some 98) rfl rfl Try.func54 (by kernel_rfl) rfl #[.slice Ao62 t257.length co62, .int .i64 1] rfl (by (try simp only [mA, mC, mN]); first | done | rfl | (simp only [lD, lT]; rfl)) ?_; (with_reducible refine (laws_heldClaimS.calls kj60 _ _ t257 1 t272 _ ?side1 ?side2 A78.out).mono ?_); (case side1 => repeat (first | exact (Kd.R_reads' HO_9.out).2.2 | (with_reducible refine Kd.C_alloc ?_ _) | (with_reducible refine Kd.C_drewN ?_ _) | (with_reducible refine Kd.C_drew ?_))); (case side2 => exact (Kd.R_reads' HO_9.out).2.1); rintro e w' ⟨rfl, ⟨nd, rfl⟩⟩; refine ⟨_, rfl, ?_⟩))
                go_ret
                exact ⟨by first | rfl | (simp [errW_none, errW_some] <;> rfl) | (simp [*, errW_none, errW_some] <;> rfl), by repeat (first | (with_reducible first | exact HB.out | apply bA | apply bN | apply bD | refine bS ?_ GE222.out) | exact HB.out)⟩
               ·rw [if_neg c80] at H
                have c80b0 : (t272 == t256) = false := beq_eq_false_iff_ne.mpr c80
                have c80b1 : (t272 != t256) = true := bne_iff_ne.mpr c80
                obtain rfl := Option.some.inj H
                go_wp2_with (first | ((with_reducible refine gate_callee (f := 54) rfl ?_); refine goesL_ (some 98) rfl rfl Try.func54 (by kernel_rfl) rfl #[.slice Ao62 t257.length co62, .int .i64 1] rfl (by (try simp only [mA, mC, mN]); first | done | rfl | (simp only [lD, lT]; rfl)) ?_; (with_reducible refine (laws_heldClaimS.calls kj60 _ _ t257 1 t272 _ ?side1 ?side2 A78.out).mono ?_); (case side1 => repeat (first | exact (Kd.R_reads' HO_9.out).2.2 | (with_reducible refine Kd.C_alloc ?_ _) | (with_reducible refine Kd.C_drewN ?_ _) | (with_reducible refine Kd.C_drew ?_))); (case side2 => exact (Kd.R_reads' HO_9.out).2.1); rintro e w' ⟨rfl, ⟨nd, rfl⟩⟩; refine ⟨_, rfl, ?_⟩))
                go_ret
                exact ⟨by first | rfl | (simp [errW_none, errW_some] <;> rfl) | (simp [*, errW_none, errW_some] <;> rfl), by repeat (first | (with_reducible first | exact HB.out | apply bA | apply bN | apply bD | refine bS ?_ GE222.out) | exact HB.out)⟩
          ·rw [if_neg c57] at H
           have c57b0 : (t258 == t256) = false := beq_eq_false_iff_ne.mpr c57
           have c57b1 : (t258 != t256) = true := bne_iff_ne.mpr c57
           obtain rfl := Option.some.inj H
           obtain ⟨Ao81, co81, eo81⟩ := Kd.R_slice HO_9.out
           subst eo81
           go_wp2_with (first | ((with_reducible refine gate_callee (f := 53) rfl ?_); refine goesL_ (some 70) rfl rfl Try.func53 (by kernel_rfl) rfl #[.slice Ao81 t244.length co81, .int .i64 1] rfl (by (try simp only [mA, mC, mN]); first | done | rfl | (simp only [lD, lT]; rfl)) ?_; (with_reducible refine (laws_markClaimS.calls kj36 (fun k_ => some k_ = (.slice Ao81 t244.length co81 : Value).ownBlock) (.slice Ao81 t244.length co81) t244 1 t256 t257 w _ ?side1 ?side2 A52.out).mono ?_); (case side1 => repeat (first | (with_reducible first | exact HB.out | apply bA | apply bN | apply bD | refine bS ?_ GE222.out) | exact HB.out)); (case side2 => exact Kd.R_tight rfl HO_9.out); rintro e w82 ⟨rfl, hy0, hb, hkp⟩; refine ⟨_, rfl, ?_⟩; have n0_ := Aside0.mk (Kd.R_mono (ok' := fun k_ => some k_ ≠ (.slice Ao81 t244.length co81 : Value).ownBlock) (Kd.R_keptB (HO_6.out) hkp (fun k_ hk_ hs_ => (hk_) hs_)) (fun k_ hk_ => hk_.1)); have n1_ := Aside0.mk (Kd.R_reok rfl hy0 (fun k_ e_ => HO_9.out.1 k_ e_)); have n2_ := Aside0.mk (blk_kept (qK BK222) hkp (fun hs_ => (fun e_ => (Kd.R_ne HO_9.out BK222.out (by decide)) e_) hs_)); have n3_ := Aside0.mk (hb); clear HO_6; clear HO_9; clear BK222; clear HB; have HO_6 := n0_; have HO_9 := n1_; have BK222 := n2_; have HB := n3_; clear n0_ n1_ n2_ n3_; (try clear hb); (try clear hkp); (try clear hy0)) | ((with_reducible refine gate_callee (f := 54) rfl ?_); refine goesL_ (some 73) rfl rfl Try.func54 (by kernel_rfl) rfl #[.slice Ao81 t257.length co81, .int .i64 1] rfl (by (try simp only [List.map_toArray, List.map_cons, List.map_nil]); first | done | (rw [show t257.length = t244.length from (Kd.R_reads' HO_9.out).1.symm] <;> rfl) | rfl | (simp only [List.length_drop, List.length_take]; rfl)) ?_; (with_reducible refine (laws_heldClaimS.calls kj36 _ _ t257 1 t258 _ ?side1 ?side2 A53.out).mono ?_); (case side1 => repeat (first | exact (Kd.R_reads' HO_9.out).2.2 | (with_reducible refine Kd.C_alloc ?_ _) | (with_reducible refine Kd.C_drewN ?_ _) | (with_reducible refine Kd.C_drew ?_))); (case side2 => rw [show t257.length = t244.length from (Kd.R_reads' HO_9.out).1.symm]; exact (Kd.R_reads' HO_9.out).2.1); rintro e w' ⟨rfl, ⟨nd, rfl⟩⟩; refine ⟨_, rfl, ?_⟩))
           go_ret
           exact ⟨by first | rfl | (simp [errW_none, errW_some] <;> rfl) | (simp [*, errW_none, errW_some] <;> rfl), by repeat (first | (with_reducible first | exact HB.out | apply bA | apply bN | apply bD | refine bS ?_ GE222.out) | exact HB.out)⟩
     ·replace c35 := Bool.eq_false_iff.mpr c35
      subst c35
      have H1 : (some false) = some r := by rw [if_neg (show ¬ (false = true) by decide)] at H; exact H
      clear H
      have H := H1
      clear H1
      obtain rfl := Option.some.inj H
      go_wp2_with (first | ((with_reducible refine gate_callee (f := 49) rfl ?_); refine goesL_ (some 49) rfl rfl Try.func49 (by kernel_rfl) rfl #[.slice A0 l0.length c0] rfl (by (try simp only [mA, mC, mN]); first | done | rfl | (simp only [lD, lT]; rfl)) ?_; (with_reducible refine (laws_toClaimS.calls kj11 _ _ l0 t249 _ ?side1 ?side2 A33.out).mono ?_); (case side1 => exact qC (Kd.C_below HR0.out HB.out)); (case side2 => exact HC0.out); rintro e w83 ⟨v250, rfl, ho0, hb⟩; refine ⟨_, rfl, ?_⟩; have n0_ := Aside0.mk (Kd.R_elder' (qR HO_6) (Kd.R_base ho0) hb); have n1_ := Aside0.mk (Kd.R_elder' (qR HO_8) (Kd.R_base ho0) hb); have n2_ := Aside0.mk (Kd.R_elder' (qR HO_9) (Kd.R_base ho0) hb); have n3_ := Aside0.mk (Kd.R_lower (Kd.R_new' (Kd.R_new' (Kd.R_new' ho0 (Kd.R_lt (qR HO_6))) (Kd.R_lt (qR HO_8))) (Kd.R_lt (qR HO_9))) (below_size (by repeat first | (with_reducible first | exact HB.out | apply bA | apply bN | apply bD | refine bS ?_ GE222.out) | exact HB.out))); have n4_ := Aside0.mk (blk_below (qK BK222) hb); have n5_ := Aside0.mk (below_step (by repeat first | (with_reducible first | exact HB.out | apply bA | apply bN | apply bD | refine bS ?_ GE222.out) | exact HB.out) hb); clear HO_6; clear HO_8; clear HO_9; clear BK222; clear HB; have HO_6 := n0_; have HO_8 := n1_; have HO_9 := n2_; have HO251 := n3_; have BK222 := n4_; have HB := n5_; clear n0_ n1_ n2_ n3_ n4_ n5_; (try clear hb); (try clear hb2); (try clear hk); (try clear hi); (try clear ho0); obtain ⟨Ao84, co84, eo84⟩ := Kd.R_slice HO251.out; subst eo84) | ((with_reducible refine gate_callee (f := 52) rfl ?_); refine goesL_ (some 50) rfl rfl Try.func52 (by kernel_rfl) rfl #[.slice Ao22 t236.length co22, .slice Ao84 t249.length co84] rfl (by (try simp only [mA, mC, mN]); first | done | rfl | (simp only [lD, lT]; rfl)) ?_; (with_reducible refine (laws_eqClaimS.calls kj11 _ _ t236 _ _ t249 false _ ?side1 ?side2 ?side3 ?side4 A34.out).mono ?_); (case side1 => repeat (first | exact (Kd.R_reads' HO_8.out).2.2 | (with_reducible refine Kd.C_alloc ?_ _) | (with_reducible refine Kd.C_drewN ?_ _) | (with_reducible refine Kd.C_drew ?_))); (case side2 => exact (Kd.R_reads' HO_8.out).2.1); (case side3 => repeat (first | exact (Kd.R_reads' HO251.out).2.2 | (with_reducible refine Kd.C_alloc ?_ _) | (with_reducible refine Kd.C_drewN ?_ _) | (with_reducible refine Kd.C_drew ?_))); (case side4 => exact (Kd.R_reads' HO251.out).2.1); rintro e w85 ⟨rfl, hb⟩; refine ⟨_, rfl, ?_⟩; have n0_ := Aside0.mk (Kd.R_below (qR HO_6) hb); have n1_ := Aside0.mk (Kd.R_below (qR HO_8) hb); have n2_ := Aside0.mk (Kd.R_below (qR HO_9) hb); have n3_ := Aside0.mk (Kd.R_below (qR HO251) hb); have n4_ := Aside0.mk (blk_below (qK BK222) hb); have n5_ := Aside0.mk (below_step (by repeat first | (with_reducible first | exact HB.out | apply bA | apply bN | apply bD | refine bS ?_ GE222.out) | exact HB.out) hb); clear HO_6; clear HO_8; clear HO_9; clear HO251; clear BK222; clear HB; have HO_6 := n0_; have HO_8 := n1_; have HO_9 := n2_; have HO251 := n3_; have BK222 := n4_; have HB := n5_; clear n0_ n1_ n2_ n3_ n4_ n5_; (try clear hb); (try clear hb2); (try clear hk); (try clear hi)))
      go_ret
      exact ⟨by first | rfl | (simp [errW_none, errW_some] <;> rfl) | (simp [*, errW_none, errW_some] <;> rfl), by repeat (first | (with_reducible first | exact HB.out | apply bA | apply bN | apply bD | refine bS ?_ GE222.out) | exact HB.out)⟩

end Go.Proofs.Ytppgealmedaihaa.PFnExactAddClaim
