-- The printed functions of one law and their contracts, over contracts of this session's own (hand.py).
import Derived.Test.YtppgealmedaihaaPFnClaimsx0
import Derived.Test.YtppgealmedaihaaPFnClaimsx2
import Derived.Test.YtppgealmedaihaaPFnClaimsx3
namespace Go.Proofs.Ytppgealmedaihaa.PFnClaims
open Go.RowKit Go.Proofs.YtppgealmedaihaaW.PrintWords Go.Proofs.YtppgealmedaihaaW.PrintLast Go.Proofs.YtppgealmedaihaaW.PrintMore Go.Proofs.Ytppgealmedaihaa.Short
attribute [local go_sem] max2_int min2_int max_two min_two max_three min_three max_four min_four   -- for this text's walks alone
set_option linter.unusedVariables false
set_option linter.unusedSimpArgs false

/-! ### impl_AddClaim: function 51 -/
mutual
def impl_AddClaim.j0 : Nat → List (S84) → List (S84) → Bool → Int → Int → Int → Int → Int → Option ((List (S84)) × Bool)
 | 0, _, _, _, _, _, _, _, _ => none
 | k + 1, x0, x6, x24, x126000, x126001, x126002, x126003, x126004 => if x24 = true then (some (x6, false)) else (impl_AddClaim.l0 k x0 x6 0 x126000 x126001 x126002 x126003 x126004)
def impl_AddClaim.j2 : Nat → List (S84) → List (S84) → Int → Int → Int → Int → Int → Int → Option ((List (S84)) × Bool)
 | 0, _, _, _, _, _, _, _, _ => none
 | k + 1, x0, x6, x7, x126000, x126001, x126002, x126003, x126004 => (impl_Claim_125.f x6 x7 (([(⟨x126000, x126001, x126002, x126003, x126004⟩ : S84)] : List (S84)))).bind fun t135 => ((impl_AreClaims.f k t135).bind fun t138 => (if t138 = true then (some (t135, true)) else ((impl_Claim_122.f x0).bind fun t139 => (some (t139, false)))))
def impl_AddClaim.l0 : Nat → List (S84) → List (S84) → Int → Int → Int → Int → Int → Int → Option ((List (S84)) × Bool)
 | 0, _, _, _, _, _, _, _, _ => none
 | k + 1, x0, x6, x7, x126000, x126001, x126002, x126003, x126004 => if x7 < (x0.length : Int) then (if 0 ≤ x7 then (if ((rd_T84 x0 x7).f0) < x126000 then (impl_AddClaim.l0 k x0 x6 (wrap64 (x7 + 1)) x126000 x126001 x126002 x126003 x126004) else (impl_AddClaim.j2 k x0 x6 x7 x126000 x126001 x126002 x126003 x126004)) else (none)) else (impl_AddClaim.j2 k x0 x6 x7 x126000 x126001 x126002 x126003 x126004)
end
def impl_AddClaim.f (k : Nat) (l0 : List (S84)) (a1_0 : Int) (a1_1 : Int) (a1_2 : Int) (a1_3 : Int) (a1_4 : Int) : Option ((List (S84)) × Bool) := (impl_Claim_122.f l0).bind fun t126 => (if a1_4 = 0 then ((impl_FindClaim.f l0 a1_0).bind fun t129 => (if t129 ≥ 0 then (impl_AddClaim.j0 k l0 t126 true a1_0 a1_1 a1_2 a1_3 a1_4) else ((impl_Claim_123.f l0 a1_0 a1_1 a1_2 a1_3 a1_4).bind fun t130 => (impl_AddClaim.j0 k l0 t126 t130 a1_0 a1_1 a1_2 a1_3 a1_4)))) else (impl_AddClaim.j0 k l0 t126 true a1_0 a1_1 a1_2 a1_3 a1_4))
theorem impl_AddClaim.mono_l : ∀ k, (∀ y0 y1 y2 y3 y4 y5 y6 y7, LeO (impl_AddClaim.j0 k y0 y1 y2 y3 y4 y5 y6 y7) (impl_AddClaim.j0 (k + 1) y0 y1 y2 y3 y4 y5 y6 y7)) ∧ (∀ y0 y1 y2 y3 y4 y5 y6 y7, LeO (impl_AddClaim.j2 k y0 y1 y2 y3 y4 y5 y6 y7) (impl_AddClaim.j2 (k + 1) y0 y1 y2 y3 y4 y5 y6 y7)) ∧ (∀ y0 y1 y2 y3 y4 y5 y6 y7, LeO (impl_AddClaim.l0 k y0 y1 y2 y3 y4 y5 y6 y7) (impl_AddClaim.l0 (k + 1) y0 y1 y2 y3 y4 y5 y6 y7))
 | 0 => ⟨fun _ _ _ _ _ _ _ _ r h => by simp [impl_AddClaim.j0] at h, fun _ _ _ _ _ _ _ _ r h => by simp [impl_AddClaim.j2] at h, fun _ _ _ _ _ _ _ _ r h => by simp [impl_AddClaim.l0] at h⟩
 | k + 1 => by
  obtain ⟨ih0, ih1, ih2⟩ := impl_AddClaim.mono_l k; refine ⟨?_, ?_, ?_⟩
  ·intro y0 y1 y2 y3 y4 y5 y6 y7; unfold impl_AddClaim.j0
   repeat' first
   | (with_reducible exact ih0 _ _ _ _ _ _ _ _)
   | (with_reducible exact ih1 _ _ _ _ _ _ _ _)
   | (with_reducible exact ih2 _ _ _ _ _ _ _ _)
   | (with_reducible exact impl_AreClaims.mono _ _)
   | (with_reducible exact LeO.refl _)
   | (with_reducible exact LeO.none _)
   | (with_reducible refine LeO.ite ?_ ?_)
   | (with_reducible refine LeO.bind ?_ (fun _ => ?_))
   | exact ih0 _ _ _ _ _ _ _ _
   | exact ih1 _ _ _ _ _ _ _ _
   | exact ih2 _ _ _ _ _ _ _ _
   | exact impl_AreClaims.mono _ _
   | exact LeO.none _
   | refine LeO.ite ?_ ?_
   | refine LeO.bind ?_ (fun _ => ?_)
  ·intro y0 y1 y2 y3 y4 y5 y6 y7; unfold impl_AddClaim.j2
   repeat' first
   | (with_reducible exact ih0 _ _ _ _ _ _ _ _)
   | (with_reducible exact ih1 _ _ _ _ _ _ _ _)
   | (with_reducible exact ih2 _ _ _ _ _ _ _ _)
   | (with_reducible exact impl_AreClaims.mono _ _)
   | (with_reducible exact LeO.refl _)
   | (with_reducible exact LeO.none _)
   | (with_reducible refine LeO.ite ?_ ?_)
   | (with_reducible refine LeO.bind ?_ (fun _ => ?_))
   | exact ih0 _ _ _ _ _ _ _ _
   | exact ih1 _ _ _ _ _ _ _ _
   | exact ih2 _ _ _ _ _ _ _ _
   | exact impl_AreClaims.mono _ _
   | exact LeO.none _
   | refine LeO.ite ?_ ?_
   | refine LeO.bind ?_ (fun _ => ?_)
  ·intro y0 y1 y2 y3 y4 y5 y6 y7; unfold impl_AddClaim.l0
   repeat' first
   | (with_reducible exact ih0 _ _ _ _ _ _ _ _)
   | (with_reducible exact ih1 _ _ _ _ _ _ _ _)
   | (with_reducible exact ih2 _ _ _ _ _ _ _ _)
   | (with_reducible exact impl_AreClaims.mono _ _)
   | (with_reducible exact LeO.refl _)
   | (with_reducible exact LeO.none _)
   | (with_reducible refine LeO.ite ?_ ?_)
   | (with_reducible refine LeO.bind ?_ (fun _ => ?_))
   | exact ih0 _ _ _ _ _ _ _ _
   | exact ih1 _ _ _ _ _ _ _ _
   | exact ih2 _ _ _ _ _ _ _ _
   | exact impl_AreClaims.mono _ _
   | exact LeO.none _
   | refine LeO.ite ?_ ?_
   | refine LeO.bind ?_ (fun _ => ?_)
theorem impl_AddClaim.mono : ∀ a0 a1 a2 a3 a4 a5 k, LeO (impl_AddClaim.f k a0 a1 a2 a3 a4 a5) (impl_AddClaim.f (k + 1) a0 a1 a2 a3 a4 a5) := by
 intro a0 a1 a2 a3 a4 a5 k; obtain ⟨ih0, ih1, ih2⟩ := impl_AddClaim.mono_l k; unfold impl_AddClaim.f
 repeat' first
   | (with_reducible exact ih0 _ _ _ _ _ _ _ _)
   | (with_reducible exact ih1 _ _ _ _ _ _ _ _)
   | (with_reducible exact ih2 _ _ _ _ _ _ _ _)
   | (with_reducible exact impl_AreClaims.mono _ _)
   | (with_reducible exact LeO.refl _)
   | (with_reducible exact LeO.none _)
   | (with_reducible refine LeO.ite ?_ ?_)
   | (with_reducible refine LeO.bind ?_ (fun _ => ?_))
   | exact ih0 _ _ _ _ _ _ _ _
   | exact ih1 _ _ _ _ _ _ _ _
   | exact ih2 _ _ _ _ _ _ _ _
   | exact impl_AreClaims.mono _ _
   | exact LeO.none _
   | refine LeO.ite ?_ ?_
   | refine LeO.bind ?_ (fun _ => ?_)
set_option maxHeartbeats 8000000 in
set_option maxRecDepth 100000 in
theorem impl_AddClaim.calls (k : Nat) (A0 : Option Addr) (c0 : Nat) (l0 : List (S84)) (a1_0 : Int) (a1_1 : Int) (a1_2 : Int) (a1_3 : Int) (a1_4 : Int) (r1 : List (S84)) (r2 : Bool) (w : World) (hr0 : Kd.C k84 w A0 l0.length l0) (hc0 : l0.length ≤ c0) (h : impl_AddClaim.f k l0 a1_0 a1_1 a1_2 a1_3 a1_4 = some (r1, r2)) :
  Calls Try.prog 51 #[.slice A0 l0.length c0, .agg #[.int .i64 a1_0, .int .i64 a1_1, .int .i64 a1_2, .int .i64 a1_3, .int .i64 a1_4]] w fun e w' => ∃ v0_ : Value, e = .returned (.tuple #[v0_, .bool r2]) ∧ Kd.R k84 84 w' w.heap.size (fun _ => True) v0_ r1 ∧ Below w.heap.size w w' := by
 have hu84 := Try.underlying84; have HR0 := Aside0.mk hr0; have HC0 := Aside0.mk hc0; clear hr0 hc0; have HB := aM (Below.refl w.heap.size w); have H : ((impl_Claim_122.f l0).bind fun t126 => (if a1_4 = 0 then ((impl_FindClaim.f l0 a1_0).bind fun t129 => (if t129 ≥ 0 then (impl_AddClaim.j0 k l0 t126 true a1_0 a1_1 a1_2 a1_3 a1_4) else ((impl_Claim_123.f l0 a1_0 a1_1 a1_2 a1_3 a1_4).bind fun t130 => (impl_AddClaim.j0 k l0 t126 t130 a1_0 a1_1 a1_2 a1_3 a1_4)))) else (impl_AddClaim.j0 k l0 t126 true a1_0 a1_1 a1_2 a1_3 a1_4))) = some (r1, r2) := h; clear h; replace H := Option.bind_eq_some_iff.mp H; obtain ⟨t126, A30, H⟩ := H; have A3 := Aside0.mk A30; clear A30; have HC4 := Aside0.mk H; clear H; go_enter Try.func51, Try.ntmps51; go_upto_region 2 with (first | ((with_reducible refine gate_dst (N := 3) rfl ?_); refine box_event ?hg (N := 3) ?hd (cs := #[.int .i64 a1_0, .int .i64 a1_1, .int .i64 a1_2, .int .i64 a1_3, .int .i64 a1_4]) (t := 84) ?hr ?_; (case hd => rfl); (case hg => rfl); (case hr => first | (go_simp; done) | (go_simp; rfl)); intro gb125 hg w5 hbox hb; have BK125 := aM hbox; have GW125 := aM ((by rw [hg]; exact (below_size (qB HB)) : w.heap.size ≤ gb125)); have GE125 := aM ((by rw [hg]; exact (below_size (qB HB)) : w.heap.size ≤ gb125)); replace HB := aM (below_step (qB HB) hb); clear hb hbox hg) | (go_at_call 122; (with_reducible refine (impl_Claim_122.calls _ _ l0 t126 _ ?side1 ?side2 A3.out).mono ?_); (case side1 => exact qC (Kd.C_below HR0.out HB.out)); (case side2 => exact HC0.out); rintro e w6 ⟨v127, rfl, ho0, hb⟩; have HO128 := aM (Kd.R_lower (Kd.R_newB ho0 (qK BK125)) (below_size (tB1 GE125))); replace BK125 := aM (blk_below (qK BK125) hb); replace HB := aM (below_step (tB1 GE125) hb); (try clear hb); (try clear hb2); (try clear hk); (try clear hi); (try clear ho0)))
 repeat (go_quiet (first | ((with_reducible refine gate_dst (N := 3) rfl ?_); refine box_event ?hg (N := 3) ?hd (cs := #[.int .i64 a1_0, .int .i64 a1_1, .int .i64 a1_2, .int .i64 a1_3, .int .i64 a1_4]) (t := 84) ?hr ?_; (case hd => rfl); (case hg => rfl); (case hr => first | (go_simp; done) | (go_simp; rfl)); intro gb125 hg w5 hbox hb; have BK125 := aM hbox; have GW125 := aM ((by rw [hg]; exact (below_size (qB HB)) : w.heap.size ≤ gb125)); have GE125 := aM ((by rw [hg]; exact (below_size (qB HB)) : w.heap.size ≤ gb125)); replace HB := aM (below_step (qB HB) hb); clear hb hbox hg) | (go_at_call 122; (with_reducible refine (impl_Claim_122.calls _ _ l0 t126 _ ?side1 ?side2 A3.out).mono ?_); (case side1 => exact qC (Kd.C_below HR0.out HB.out)); (case side2 => exact HC0.out); rintro e w6 ⟨v127, rfl, ho0, hb⟩; have HO128 := aM (Kd.R_lower (Kd.R_newB ho0 (qK BK125)) (below_size (tB1 GE125))); replace BK125 := aM (blk_below (qK BK125) hb); replace HB := aM (below_step (tB1 GE125) hb); (try clear hb); (try clear hb2); (try clear hk); (try clear hi); (try clear ho0))); go_upto_region 2 with (first | ((with_reducible refine gate_dst (N := 3) rfl ?_); refine box_event ?hg (N := 3) ?hd (cs := #[.int .i64 a1_0, .int .i64 a1_1, .int .i64 a1_2, .int .i64 a1_3, .int .i64 a1_4]) (t := 84) ?hr ?_; (case hd => rfl); (case hg => rfl); (case hr => first | (go_simp; done) | (go_simp; rfl)); intro gb125 hg w5 hbox hb; have BK125 := aM hbox; have GW125 := aM ((by rw [hg]; exact (below_size (qB HB)) : w.heap.size ≤ gb125)); have GE125 := aM ((by rw [hg]; exact (below_size (qB HB)) : w.heap.size ≤ gb125)); replace HB := aM (below_step (qB HB) hb); clear hb hbox hg) | (go_at_call 122; (with_reducible refine (impl_Claim_122.calls _ _ l0 t126 _ ?side1 ?side2 A3.out).mono ?_); (case side1 => exact qC (Kd.C_below HR0.out HB.out)); (case side2 => exact HC0.out); rintro e w6 ⟨v127, rfl, ho0, hb⟩; have HO128 := aM (Kd.R_lower (Kd.R_newB ho0 (qK BK125)) (below_size (tB1 GE125))); replace BK125 := aM (blk_below (qK BK125) hb); replace HB := aM (below_step (tB1 GE125) hb); (try clear hb); (try clear hb2); (try clear hk); (try clear hi); (try clear ho0))))
 (try simp only [Act.put, sA, sZ, sS]); go_cut [24] (fun v24 wc => ∃ (kq : Nat) (x24_3 : Bool), v24 = .bool x24_3 ∧ Aside0 (impl_AddClaim.j0 kq l0 t126 x24_3 a1_0 a1_1 a1_2 a1_3 a1_4 = some (r1, r2)) ∧ Aside0 (kq ≤ k) ∧ Aside0 (Kd.R k84 84 wc w.heap.size (fun k_ => k_ ≠ gb125) v127 t126) ∧ Aside0 (wc.heap[gb125]? = some (.cells #[.int .i64 a1_0, .int .i64 a1_1, .int .i64 a1_2, .int .i64 a1_3, .int .i64 a1_4] 84 (0, 0))) ∧ Aside0 (Below w.heap.size w wc))
 case first =>
  have H := HC4.out; clear HC4; by_cases c7 : a1_4 = 0
  ·rw [if_pos c7] at H; have c7b0 : (a1_4 == 0) = true := beq_iff_eq.mpr c7; have c7b1 : (a1_4 != 0) = false := bne_eq_false_iff_eq.mpr c7; clear c7; (first | rw [c7b0] | (simp only [i64_w, i32_w]; rw [c7b0]) | skip); replace H := Option.bind_eq_some_iff.mp H; obtain ⟨t129, A80, H⟩ := H; have A8 := Aside0.mk A80; clear A80; by_cases c9 : t129 ≥ 0
   ·rw [if_pos c9] at H; have c9b0 : decide (0 ≤ t129) = true := decide_eq_true c9; clear c9; have H' := Aside0.mk H; clear H; have hcz10_0 : w6.cell? ⟨gb125, 0, none⟩ = some (.int .i64 a1_0) := cC BK125 0; have hcz10_1 : w6.cell? ⟨gb125, 1, none⟩ = some (.int .i64 a1_1) := cC BK125 1; have hcz10_2 : w6.cell? ⟨gb125, 2, none⟩ = some (.int .i64 a1_2) := cC BK125 2; have hcz10_3 : w6.cell? ⟨gb125, 3, none⟩ = some (.int .i64 a1_3) := cC BK125 3; have hcz10_4 : w6.cell? ⟨gb125, 4, none⟩ = some (.int .i64 a1_4) := cC BK125 4; have hfz10_0 := blk_frozen BK125.out 0; have hfz10_1 := blk_frozen BK125.out 1; have hfz10_2 := blk_frozen BK125.out 2; have hfz10_3 := blk_frozen BK125.out 3; have hfz10_4 := blk_frozen BK125.out 4; go_wp2_with (first | (go_at_call 80; (with_reducible refine (impl_FindClaim.calls _ _ l0 a1_0 t129 _ ?side1 ?side2 A8.out).mono ?_); (case side1 => exact qC (Kd.C_below HR0.out HB.out)); (case side2 => exact HC0.out); rintro e w11 ⟨rfl, hb⟩; replace HO128 := aM (Kd.R_below (qR HO128) hb); replace BK125 := aM (blk_below (qK BK125) hb); replace HB := aM (below_step (tB1 GE125) hb); (try clear hb); (try clear hb2); (try clear hk); (try clear hi))); repeat (go_quiet (first | (go_at_call 80; (with_reducible refine (impl_FindClaim.calls _ _ l0 a1_0 t129 _ ?side1 ?side2 A8.out).mono ?_); (case side1 => exact qC (Kd.C_below HR0.out HB.out)); (case side2 => exact HC0.out); rintro e w11 ⟨rfl, hb⟩; replace HO128 := aM (Kd.R_below (qR HO128) hb); replace BK125 := aM (blk_below (qK BK125) hb); replace HB := aM (below_step (tB1 GE125) hb); (try clear hb); (try clear hb2); (try clear hk); (try clear hi))); try go_wp2_with (first | (go_at_call 80; (with_reducible refine (impl_FindClaim.calls _ _ l0 a1_0 t129 _ ?side1 ?side2 A8.out).mono ?_); (case side1 => exact qC (Kd.C_below HR0.out HB.out)); (case side2 => exact HC0.out); rintro e w11 ⟨rfl, hb⟩; replace HO128 := aM (Kd.R_below (qR HO128) hb); replace BK125 := aM (blk_below (qK BK125) hb); replace HB := aM (below_step (tB1 GE125) hb); (try clear hb); (try clear hb2); (try clear hk); (try clear hi))))
    go_meet
    case rel => exact ⟨_, (true), tS, H', ⟨by first | omega | exact Nat.le_refl _⟩, ⟨by (with_reducible repeat first | apply rA | apply rN | apply rD); exact Kd.R_mono HO128.out (fun _ hk => hk.2)⟩, ⟨tK BK125⟩, ⟨tB1 GE125⟩⟩
   ·rw [if_neg c9] at H; have c9b0 : decide (0 ≤ t129) = false := decide_eq_false c9; clear c9; replace H := Option.bind_eq_some_iff.mp H; obtain ⟨t130, A120, H⟩ := H; have A12 := Aside0.mk A120; clear A120; have H' := Aside0.mk H; clear H; have hcz13_0 : w6.cell? ⟨gb125, 0, none⟩ = some (.int .i64 a1_0) := cC BK125 0; have hcz13_1 : w6.cell? ⟨gb125, 1, none⟩ = some (.int .i64 a1_1) := cC BK125 1; have hcz13_2 : w6.cell? ⟨gb125, 2, none⟩ = some (.int .i64 a1_2) := cC BK125 2; have hcz13_3 : w6.cell? ⟨gb125, 3, none⟩ = some (.int .i64 a1_3) := cC BK125 3; have hcz13_4 : w6.cell? ⟨gb125, 4, none⟩ = some (.int .i64 a1_4) := cC BK125 4; have hfz13_0 := blk_frozen BK125.out 0; have hfz13_1 := blk_frozen BK125.out 1; have hfz13_2 := blk_frozen BK125.out 2; have hfz13_3 := blk_frozen BK125.out 3; have hfz13_4 := blk_frozen BK125.out 4; go_wp2_with (first | (go_at_call 80; (with_reducible refine (impl_FindClaim.calls _ _ l0 a1_0 t129 _ ?side1 ?side2 A8.out).mono ?_); (case side1 => exact qC (Kd.C_below HR0.out HB.out)); (case side2 => exact HC0.out); rintro e w14 ⟨rfl, hb⟩; replace HO128 := aM (Kd.R_below (qR HO128) hb); replace BK125 := aM (blk_below (qK BK125) hb); replace HB := aM (below_step (tB1 GE125) hb); (try clear hb); (try clear hb2); (try clear hk); (try clear hi); have hcz15_0 : w14.cell? ⟨gb125, 0, none⟩ = some (.int .i64 a1_0) := cC BK125 0; have hcz15_1 : w14.cell? ⟨gb125, 1, none⟩ = some (.int .i64 a1_1) := cC BK125 1; have hcz15_2 : w14.cell? ⟨gb125, 2, none⟩ = some (.int .i64 a1_2) := cC BK125 2; have hcz15_3 : w14.cell? ⟨gb125, 3, none⟩ = some (.int .i64 a1_3) := cC BK125 3; have hcz15_4 : w14.cell? ⟨gb125, 4, none⟩ = some (.int .i64 a1_4) := cC BK125 4; have hfz15_0 := blk_frozen BK125.out 0; have hfz15_1 := blk_frozen BK125.out 1; have hfz15_2 := blk_frozen BK125.out 2; have hfz15_3 := blk_frozen BK125.out 3; have hfz15_4 := blk_frozen BK125.out 4) | (go_at_call 123; (with_reducible refine (impl_Claim_123.calls _ _ l0 a1_0 a1_1 a1_2 a1_3 a1_4 t130 _ ?side1 ?side2 A12.out).mono ?_); (case side1 => exact qC (Kd.C_below HR0.out HB.out)); (case side2 => exact HC0.out); rintro e w16 ⟨rfl, hb⟩; replace HO128 := aM (Kd.R_below (qR HO128) hb); replace BK125 := aM (blk_below (qK BK125) hb); replace HB := aM (below_step (tB1 GE125) hb); (try clear hb); (try clear hb2); (try clear hk); (try clear hi))); repeat (go_quiet (first | (go_at_call 80; (with_reducible refine (impl_FindClaim.calls _ _ l0 a1_0 t129 _ ?side1 ?side2 A8.out).mono ?_); (case side1 => exact qC (Kd.C_below HR0.out HB.out)); (case side2 => exact HC0.out); rintro e w14 ⟨rfl, hb⟩; replace HO128 := aM (Kd.R_below (qR HO128) hb); replace BK125 := aM (blk_below (qK BK125) hb); replace HB := aM (below_step (tB1 GE125) hb); (try clear hb); (try clear hb2); (try clear hk); (try clear hi); have hcz15_0 : w14.cell? ⟨gb125, 0, none⟩ = some (.int .i64 a1_0) := cC BK125 0; have hcz15_1 : w14.cell? ⟨gb125, 1, none⟩ = some (.int .i64 a1_1) := cC BK125 1; have hcz15_2 : w14.cell? ⟨gb125, 2, none⟩ = some (.int .i64 a1_2) := cC BK125 2; have hcz15_3 : w14.cell? ⟨gb125, 3, none⟩ = some (.int .i64 a1_3) := cC BK125 3; have hcz15_4 : w14.cell? ⟨gb125, 4, none⟩ = some (.int .i64 a1_4) := cC BK125 4; have hfz15_0 := blk_frozen BK125.out 0; have hfz15_1 := blk_frozen BK125.out 1; have hfz15_2 := blk_frozen BK125.out 2; have hfz15_3 := blk_frozen BK125.out 3; have hfz15_4 := blk_frozen BK125.out 4) | (go_at_call 123; (with_reducible refine (impl_Claim_123.calls _ _ l0 a1_0 a1_1 a1_2 a1_3 a1_4 t130 _ ?side1 ?side2 A12.out).mono ?_); (case side1 => exact qC (Kd.C_below HR0.out HB.out)); (case side2 => exact HC0.out); rintro e w16 ⟨rfl, hb⟩; replace HO128 := aM (Kd.R_below (qR HO128) hb); replace BK125 := aM (blk_below (qK BK125) hb); replace HB := aM (below_step (tB1 GE125) hb); (try clear hb); (try clear hb2); (try clear hk); (try clear hi))); try go_wp2_with (first | (go_at_call 80; (with_reducible refine (impl_FindClaim.calls _ _ l0 a1_0 t129 _ ?side1 ?side2 A8.out).mono ?_); (case side1 => exact qC (Kd.C_below HR0.out HB.out)); (case side2 => exact HC0.out); rintro e w14 ⟨rfl, hb⟩; replace HO128 := aM (Kd.R_below (qR HO128) hb); replace BK125 := aM (blk_below (qK BK125) hb); replace HB := aM (below_step (tB1 GE125) hb); (try clear hb); (try clear hb2); (try clear hk); (try clear hi); have hcz15_0 : w14.cell? ⟨gb125, 0, none⟩ = some (.int .i64 a1_0) := cC BK125 0; have hcz15_1 : w14.cell? ⟨gb125, 1, none⟩ = some (.int .i64 a1_1) := cC BK125 1; have hcz15_2 : w14.cell? ⟨gb125, 2, none⟩ = some (.int .i64 a1_2) := cC BK125 2; have hcz15_3 : w14.cell? ⟨gb125, 3, none⟩ = some (.int .i64 a1_3) := cC BK125 3; have hcz15_4 : w14.cell? ⟨gb125, 4, none⟩ = some (.int .i64 a1_4) := cC BK125 4; have hfz15_0 := blk_frozen BK125.out 0; have hfz15_1 := blk_frozen BK125.out 1; have hfz15_2 := blk_frozen BK125.out 2; have hfz15_3 := blk_frozen BK125.out 3; have hfz15_4 := blk_frozen BK125.out 4) | (go_at_call 123; (with_reducible refine (impl_Claim_123.calls _ _ l0 a1_0 a1_1 a1_2 a1_3 a1_4 t130 _ ?side1 ?side2 A12.out).mono ?_); (case side1 => exact qC (Kd.C_below HR0.out HB.out)); (case side2 => exact HC0.out); rintro e w16 ⟨rfl, hb⟩; replace HO128 := aM (Kd.R_below (qR HO128) hb); replace BK125 := aM (blk_below (qK BK125) hb); replace HB := aM (below_step (tB1 GE125) hb); (try clear hb); (try clear hb2); (try clear hk); (try clear hi))))
    go_meet
    case rel => exact ⟨_, (t130), tS, H', ⟨by first | omega | exact Nat.le_refl _⟩, ⟨by (with_reducible repeat first | apply rA | apply rN | apply rD); exact Kd.R_mono HO128.out (fun _ hk => hk.2)⟩, ⟨tK BK125⟩, ⟨tB1 GE125⟩⟩
  ·rw [if_neg c7] at H; have c7b0 : (a1_4 == 0) = false := beq_eq_false_iff_ne.mpr c7; have c7b1 : (a1_4 != 0) = true := bne_iff_ne.mpr c7; (first | rw [c7b0] | (simp only [i64_w, i32_w]; rw [c7b0]) | skip); have H' := Aside0.mk H; clear H; have hcz17_0 : w6.cell? ⟨gb125, 0, none⟩ = some (.int .i64 a1_0) := cC BK125 0; have hcz17_1 : w6.cell? ⟨gb125, 1, none⟩ = some (.int .i64 a1_1) := cC BK125 1; have hcz17_2 : w6.cell? ⟨gb125, 2, none⟩ = some (.int .i64 a1_2) := cC BK125 2; have hcz17_3 : w6.cell? ⟨gb125, 3, none⟩ = some (.int .i64 a1_3) := cC BK125 3; have hcz17_4 : w6.cell? ⟨gb125, 4, none⟩ = some (.int .i64 a1_4) := cC BK125 4; have hfz17_0 := blk_frozen BK125.out 0; have hfz17_1 := blk_frozen BK125.out 1; have hfz17_2 := blk_frozen BK125.out 2; have hfz17_3 := blk_frozen BK125.out 3; have hfz17_4 := blk_frozen BK125.out 4; go_wp2; repeat (go_quiet (fail); try go_wp2)
   go_meet
   case rel => exact ⟨_, (true), tS, H', ⟨by first | omega | exact Nat.le_refl _⟩, ⟨by (with_reducible repeat first | apply rA | apply rN | apply rD); exact Kd.R_mono HO128.out (fun _ hk => hk.2)⟩, ⟨tK BK125⟩, ⟨tB1 GE125⟩⟩
 case rest =>
  clear HC4; try clear p2
  try clear c5
  try clear c7
  try clear c7b0
  try clear c7b1
  try clear c9
  try clear c9b0
  try clear hcz10_0
  try clear hcz10_1
  try clear hcz10_2
  try clear hcz10_3
  try clear hcz10_4
  try clear hcz13_0
  try clear hcz13_1
  try clear hcz13_2
  try clear hcz13_3
  try clear hcz13_4
  try clear hcz15_0
  try clear hcz15_1
  try clear hcz15_2
  try clear hcz15_3
  try clear hcz15_4
  try clear hcz17_0
  try clear hcz17_1
  try clear hcz17_2
  try clear hcz17_3
  try clear hcz17_4
  try clear hfz10_0
  try clear hfz10_1
  try clear hfz10_2
  try clear hfz10_3
  try clear hfz10_4
  try clear hfz13_0
  try clear hfz13_1
  try clear hfz13_2
  try clear hfz13_3
  try clear hfz13_4
  try clear hfz15_0
  try clear hfz15_1
  try clear hfz15_2
  try clear hfz15_3
  try clear hfz15_4
  try clear hfz17_0
  try clear hfz17_1
  try clear hfz17_2
  try clear hfz17_3
  try clear hfz17_4
  obtain ⟨kq, x24_3, rfl, HA, HJ3, HO_6, BK125, HB⟩ := hcut; cases kq with
  | zero => exact absurd HA.out (by simp [impl_AddClaim.j0])
  | succ kj3 =>
   have H := HA.out; clear HA; simp only [impl_AddClaim.j0] at H; by_cases c18 : x24_3 = true
   ·subst c18; rw [if_pos rfl] at H; simp only [Option.some.injEq, Prod.mk.injEq] at H; obtain ⟨rfl, rfl⟩ := H; go_wp2; repeat (go_quiet (fail); try go_wp2)
    go_ret2; exact ⟨_, tE, by (with_reducible repeat first | apply rA | apply rN | apply rD); exact Kd.R_mono HO_6.out (fun _ hk => trivial), tB1 GE125⟩
   ·replace c18 := Bool.eq_false_iff.mpr c18; subst c18; rw [if_neg ff_] at H; have HC19 := Aside0.mk H; clear H; go_upto_block 0 with (fail)
    repeat (go_quiet (fail); go_upto_block 0 with (fail))
    go_cut [7] (fun v7 wc => ∃ (kq : Nat) (x7_18 : Int), v7 = .int .i64 x7_18 ∧ Aside0 (impl_AddClaim.j2 kq l0 t126 x7_18 a1_0 a1_1 a1_2 a1_3 a1_4 = some (r1, r2)) ∧ Aside0 (kq ≤ kj3) ∧ Aside0 (Kd.R k84 84 wc w.heap.size (fun k_ => k_ ≠ gb125) v127 t126) ∧ Aside0 (wc.heap[gb125]? = some (.cells #[.int .i64 a1_0, .int .i64 a1_1, .int .i64 a1_2, .int .i64 a1_3, .int .i64 a1_4] 84 (0, 0))) ∧ Aside0 (Below w.heap.size w wc))
    case first =>
     have H := HC19.out; clear HC19; have H' := Aside0.mk H; clear H; go_wp2; repeat (go_quiet (fail); try go_wp2)
     go_loopg [7] kj3 (fun kq v7 w' => ∃ (x7_2 : Int), v7 = .int .i64 x7_2 ∧ Aside0 (impl_AddClaim.l0 kq l0 t126 x7_2 a1_0 a1_1 a1_2 a1_3 a1_4 = some (r1, r2)) ∧ Aside0 (kq ≤ kj3) ∧ Aside0 (Kd.R k84 84 w' w.heap.size (fun k_ => k_ ≠ gb125) v127 t126) ∧ Aside0 (w'.heap[gb125]? = some (.cells #[.int .i64 a1_0, .int .i64 a1_1, .int .i64 a1_2, .int .i64 a1_3, .int .i64 a1_4] 84 (0, 0))) ∧ Aside0 (Below w.heap.size w w'))
     case atStart => exact ⟨(0), tS, H', ⟨Nat.le_refl _⟩, ⟨tR HO_6⟩, ⟨tK BK125⟩, ⟨tB1 GE125⟩⟩
     case round =>
      clear H'; try clear c1
      try clear p2
      try clear c5
      try clear c7
      try clear c7b0
      try clear c7b1
      try clear c9
      try clear c9b0
      try clear c18
      try clear hcz10_0
      try clear hcz10_1
      try clear hcz10_2
      try clear hcz10_3
      try clear hcz10_4
      try clear hcz13_0
      try clear hcz13_1
      try clear hcz13_2
      try clear hcz13_3
      try clear hcz13_4
      try clear hcz15_0
      try clear hcz15_1
      try clear hcz15_2
      try clear hcz15_3
      try clear hcz15_4
      try clear hcz17_0
      try clear hcz17_1
      try clear hcz17_2
      try clear hcz17_3
      try clear hcz17_4
      try clear hfz10_0
      try clear hfz10_1
      try clear hfz10_2
      try clear hfz10_3
      try clear hfz10_4
      try clear hfz13_0
      try clear hfz13_1
      try clear hfz13_2
      try clear hfz13_3
      try clear hfz13_4
      try clear hfz15_0
      try clear hfz15_1
      try clear hfz15_2
      try clear hfz15_3
      try clear hfz15_4
      try clear hfz17_0
      try clear hfz17_1
      try clear hfz17_2
      try clear hfz17_3
      try clear hfz17_4
      try clear p2
      obtain ⟨x7_2, rfl, HA, HK2, HO_6, BK125, HB⟩ := hrel; cases gk with
      | zero => exact absurd HA.out (by simp [impl_AddClaim.l0])
      | succ k2 =>
       have H := HA.out; clear HA; simp only [impl_AddClaim.l0] at H; by_cases c20 : x7_2 < (l0.length : Int)
       ·rw [if_pos c20] at H; have c20b0 : decide (x7_2 < (l0.length : Int)) = true := decide_eq_true c20; clear c20; (first | rw [c20b0] | (simp only [i64_w, i32_w]; rw [c20b0]) | skip); by_cases c21 : 0 ≤ x7_2
        ·rw [if_pos c21] at H; have c21b0 : decide (0 ≤ x7_2) = true := decide_eq_true c21; clear c21; by_cases c22 : ((rd_T84 l0 x7_2).f0) < a1_0
         ·rw [if_pos c22] at H; have c22b0 : decide (((rd_T84 l0 x7_2).f0) < a1_0) = true := decide_eq_true c22; clear c22; have H' := Aside0.mk H; clear H; have p131 : 0 ≤ (x7_2 : Int) := of_decide_eq_true ‹_›; have q131 : x7_2 < (l0.length : Int) := of_decide_eq_true ‹_›; obtain ⟨ad131, e131, hx131_0, hx131_1, hx131_2, hx131_3, hx131_4⟩ := at_T84 HR0.out x7_2 p131 q131; cases e131
          replace hx131_0 := cB HB hx131_0; replace hx131_1 := cB HB hx131_1; replace hx131_2 := cB HB hx131_2; replace hx131_3 := cB HB hx131_3; replace hx131_4 := cB HB hx131_4; replace p131 := eq_true p131; replace q131 := eq_true q131; have hcz23_0 : wr.cell? ⟨gb125, 0, none⟩ = some (.int .i64 a1_0) := cC BK125 0; have hcz23_1 : wr.cell? ⟨gb125, 1, none⟩ = some (.int .i64 a1_1) := cC BK125 1; have hcz23_2 : wr.cell? ⟨gb125, 2, none⟩ = some (.int .i64 a1_2) := cC BK125 2; have hcz23_3 : wr.cell? ⟨gb125, 3, none⟩ = some (.int .i64 a1_3) := cC BK125 3; have hcz23_4 : wr.cell? ⟨gb125, 4, none⟩ = some (.int .i64 a1_4) := cC BK125 4; have hfz23_0 := blk_frozen BK125.out 0; have hfz23_1 := blk_frozen BK125.out 1; have hfz23_2 := blk_frozen BK125.out 2; have hfz23_3 := blk_frozen BK125.out 3; have hfz23_4 := blk_frozen BK125.out 4; go_wp2; repeat (go_quiet (fail); try go_wp2)
          go_roundg k2
          case measure => have := HJ3.out; have := HK2.out; omega
          case rel => exact ⟨(wrap64 (x7_2 + 1)), tS, H', ⟨by have := HJ3.out; have := HK2.out; omega⟩, ⟨tR HO_6⟩, ⟨tK BK125⟩, ⟨tB1 GE125⟩⟩
         ·rw [if_neg c22] at H; have c22b0 : decide (((rd_T84 l0 x7_2).f0) < a1_0) = false := decide_eq_false c22; clear c22; have H' := Aside0.mk H; clear H; have p131 : 0 ≤ (x7_2 : Int) := of_decide_eq_true ‹_›; have q131 : x7_2 < (l0.length : Int) := of_decide_eq_true ‹_›; obtain ⟨ad131, e131, hx131_0, hx131_1, hx131_2, hx131_3, hx131_4⟩ := at_T84 HR0.out x7_2 p131 q131; cases e131
          replace hx131_0 := cB HB hx131_0; replace hx131_1 := cB HB hx131_1; replace hx131_2 := cB HB hx131_2; replace hx131_3 := cB HB hx131_3; replace hx131_4 := cB HB hx131_4; replace p131 := eq_true p131; replace q131 := eq_true q131; have hcz24_0 : wr.cell? ⟨gb125, 0, none⟩ = some (.int .i64 a1_0) := cC BK125 0; have hcz24_1 : wr.cell? ⟨gb125, 1, none⟩ = some (.int .i64 a1_1) := cC BK125 1; have hcz24_2 : wr.cell? ⟨gb125, 2, none⟩ = some (.int .i64 a1_2) := cC BK125 2; have hcz24_3 : wr.cell? ⟨gb125, 3, none⟩ = some (.int .i64 a1_3) := cC BK125 3; have hcz24_4 : wr.cell? ⟨gb125, 4, none⟩ = some (.int .i64 a1_4) := cC BK125 4; have hfz24_0 := blk_frozen BK125.out 0; have hfz24_1 := blk_frozen BK125.out 1; have hfz24_2 := blk_frozen BK125.out 2; have hfz24_3 := blk_frozen BK125.out 3; have hfz24_4 := blk_frozen BK125.out 4; go_wp2; repeat (go_quiet (fail); try go_wp2)
          go_meet
          case rel => exact ⟨_, (x7_2), tS, H', ⟨by have := HJ3.out; have := HK2.out; first | omega | exact Nat.le_refl _⟩, ⟨tR HO_6⟩, ⟨tK BK125⟩, ⟨tB1 GE125⟩⟩
        ·rw [if_neg c21] at H; exact absurd H (by simp)
       ·rw [if_neg c20] at H; have c20b0 : decide (x7_2 < (l0.length : Int)) = false := decide_eq_false c20; clear c20; (first | rw [c20b0] | (simp only [i64_w, i32_w]; rw [c20b0]) | skip); have H' := Aside0.mk H; clear H; go_wp2; repeat (go_quiet (fail); try go_wp2)
        go_meet
        case rel => exact ⟨_, (x7_2), tS, H', ⟨by have := HJ3.out; have := HK2.out; first | omega | exact Nat.le_refl _⟩, ⟨tR HO_6⟩, ⟨tK BK125⟩, ⟨tB1 GE125⟩⟩
    case rest =>
     clear HC19; try clear c1
     try clear p1
     try clear q1
     try clear hx1
     try clear c2
     try clear p2
     try clear c5
     try clear p6
     try clear c7
     try clear c7b0
     try clear c7b1
     try clear c9
     try clear c9b0
     try clear p13
     try clear q13
     try clear hx13
     try clear c18
     try clear c20
     try clear c20b0
     try clear c21
     try clear c21b0
     try clear c22
     try clear c22b0
     try clear hcz10_0
     try clear hcz10_1
     try clear hcz10_2
     try clear hcz10_3
     try clear hcz10_4
     try clear hcz13_0
     try clear hcz13_1
     try clear hcz13_2
     try clear hcz13_3
     try clear hcz13_4
     try clear hcz15_0
     try clear hcz15_1
     try clear hcz15_2
     try clear hcz15_3
     try clear hcz15_4
     try clear hcz17_0
     try clear hcz17_1
     try clear hcz17_2
     try clear hcz17_3
     try clear hcz17_4
     try clear hcz23_0
     try clear hcz23_1
     try clear hcz23_2
     try clear hcz23_3
     try clear hcz23_4
     try clear hcz24_0
     try clear hcz24_1
     try clear hcz24_2
     try clear hcz24_3
     try clear hcz24_4
     try clear hfz10_0
     try clear hfz10_1
     try clear hfz10_2
     try clear hfz10_3
     try clear hfz10_4
     try clear hfz13_0
     try clear hfz13_1
     try clear hfz13_2
     try clear hfz13_3
     try clear hfz13_4
     try clear hfz15_0
     try clear hfz15_1
     try clear hfz15_2
     try clear hfz15_3
     try clear hfz15_4
     try clear hfz17_0
     try clear hfz17_1
     try clear hfz17_2
     try clear hfz17_3
     try clear hfz17_4
     try clear hfz23_0
     try clear hfz23_1
     try clear hfz23_2
     try clear hfz23_3
     try clear hfz23_4
     try clear hfz24_0
     try clear hfz24_1
     try clear hfz24_2
     try clear hfz24_3
     try clear hfz24_4
     try clear hx131_0
     try clear hx131_1
     try clear hx131_2
     try clear hx131_3
     try clear hx131_4
     try clear p131
     try clear p2
     try clear q131
     obtain ⟨kq, x7_18, rfl, HA, HJ18, HO_6, BK125, HB⟩ := hcut; cases kq with
     | zero => exact absurd HA.out (by simp [impl_AddClaim.j2])
     | succ kj18 =>
      have H := HA.out; clear HA; simp only [impl_AddClaim.j2] at H; obtain ⟨y132, hy132⟩ : ∃ y_ : List (S84), y_ = (([(⟨a1_0, a1_1, a1_2, a1_3, a1_4⟩ : S84)] : List (S84))) := ⟨_, rfl⟩
      (first | replace H := bY H hy132 | rw [← hy132] at H); have Ny132 := Aside0.mk hy132; clear hy132; replace H := Option.bind_eq_some_iff.mp H; obtain ⟨t135, A250, H⟩ := H; have A25 := Aside0.mk A250; clear A250; replace H := Option.bind_eq_some_iff.mp H; obtain ⟨t138, A260, H⟩ := H; have A26 := Aside0.mk A260; clear A260; by_cases c27 : t138 = true
      ·subst c27; rw [if_pos rfl] at H; simp only [Option.some.injEq, Prod.mk.injEq] at H; obtain ⟨rfl, rfl⟩ := H; have hcz28_0 : wc.cell? ⟨gb125, 0, none⟩ = some (.int .i64 a1_0) := cC BK125 0; have hcz28_1 : wc.cell? ⟨gb125, 1, none⟩ = some (.int .i64 a1_1) := cC BK125 1; have hcz28_2 : wc.cell? ⟨gb125, 2, none⟩ = some (.int .i64 a1_2) := cC BK125 2; have hcz28_3 : wc.cell? ⟨gb125, 3, none⟩ = some (.int .i64 a1_3) := cC BK125 3; have hcz28_4 : wc.cell? ⟨gb125, 4, none⟩ = some (.int .i64 a1_4) := cC BK125 4; have hfz28_0 := blk_frozen BK125.out 0; have hfz28_1 := blk_frozen BK125.out 1; have hfz28_2 := blk_frozen BK125.out 2; have hfz28_3 := blk_frozen BK125.out 3; have hfz28_4 := blk_frozen BK125.out 4; go_wp2_with (first | ((with_reducible refine gate_dst (N := 45) rfl ?_); refine Kd.R_lit k84 _ 84 ?hg (N := 45) ?hd (xs := ([(⟨a1_0, a1_1, a1_2, a1_3, a1_4⟩ : S84)] : List (S84))) (inner := [.int .i64 a1_0, .int .i64 a1_1, .int .i64 a1_2, .int .i64 a1_3, .int .i64 a1_4]) (ok := fun _ => True) (okp := fun _ => True) ?hr ?hp (fun _ hk => hk) trivial (Below.refl _ _) (Nat.le_refl _) (by simp) ?_; (case hd => rfl); (case hg => rfl); (case hr => first | (go_simp; done) | (go_simp; rfl)); (case hp => exact (Reps.c5 (show Kd.M k84 _ _ _ (⟨a1_0, a1_1, a1_2, a1_3, a1_4⟩ : S84) [.int .i64 a1_0, .int .i64 a1_1, .int .i64 a1_2, .int .i64 a1_3, .int .i64 a1_4] from (k84_mkM _ _ _ (⟨a1_0, a1_1, a1_2, a1_3, a1_4⟩ : S84) )) (Reps.none _ _))); intro v133 w29 ho30 hb hg_ hnew_; clear hg_ hnew_; (first | rw [← Ny132.out] at ho30 | (simp only [Int.reduceToNat] at ho30; rw [← Ny132.out] at ho30)); have HO134 := aM (Kd.R_lower (Kd.R_newB (Kd.R_new' ho30 (Kd.R_lt (qR HO_6))) (qK BK125)) (below_size (tB1 GE125))); replace HO_6 := aM (Kd.R_elder' (qR HO_6) (Kd.R_base ho30) hb); replace BK125 := aM (blk_below (qK BK125) hb); replace HB := aM (below_step (tB1 GE125) hb); clear hb ho30; obtain ⟨Ao31, co31, eo31⟩ := Kd.R_slice HO_6.out; subst eo31; obtain ⟨Ao32, co32, eo32⟩ := Kd.R_slice HO134.out; subst eo32) | (go_at_call 125; (with_reducible refine (impl_Claim_125.calls (fun k_ => some k_ = (.slice Ao31 t126.length co31 : Value).ownBlock) (.slice Ao31 t126.length co31) t126 x7_18 (fun k_ => some k_ = (.slice Ao32 y132.length co32 : Value).ownBlock) (.slice Ao32 y132.length co32) y132 t135 w _ ?side1 ?side2 ?side3 ?side4 ?side5 A25.out).mono ?_); (case side1 => repeat (first | (with_reducible first | exact HB.out | apply bA | apply bN | apply bD | refine bS ?_ GE125.out) | exact HB.out)); (case side2 => exact Kd.R_tight rfl HO_6.out); (case side3 => exact fun k_ e_ => (HO_6.out.1 k_ e_.symm).2); (case side4 => exact Kd.R_tight rfl HO134.out); (case side5 => exact fun k_ e_ => (HO134.out.1 k_ e_.symm).1.2); rintro e w33 ⟨v136, rfl, ho0, hb, hkp⟩; have HO137 := aM (Kd.R_mono (ok' := fun k_ => k_ ≠ gb125) ho0 (fun k_ hk_ => Or.elim hk_ (fun hs_ => Or.elim hs_ (fun hs_ => fun e_ => (Kd.R_away HO_6.out (fun _ hk => hk.1)) (by rw [← e_]; exact hs_)) (fun hs_ => fun e_ => (Kd.R_away HO134.out (fun _ hk => hk.2)) (by rw [← e_]; exact hs_))) (fun hn_ => (Kd.freshB (qK BK125) k_ hn_)))); replace BK125 := aM (blk_kept (qK BK125) hkp (fun hs_ => Or.elim hs_ (fun e_ => (fun e_ => (Kd.R_away HO_6.out (fun _ hk => hk.1)) e_) e_) (fun e_ => (fun e_ => (Kd.R_away HO134.out (fun _ hk => hk.2)) e_) e_))); replace HB := aM hb; clear HO134; clear HO_6; (try clear hb); (try clear hkp); (try clear ho0); obtain ⟨Ao34, co34, eo34⟩ := Kd.R_slice HO137.out; subst eo34) | (go_at_call 79; (with_reducible refine (impl_AreClaims.calls kj18 _ _ t135 true _ ?side1 ?side2 A26.out).mono ?_); (case side1 => exact tC HO137); (case side2 => exact (Kd.R_reads' HO137.out).2.1); rintro e w35 ⟨rfl, hb⟩; replace HO137 := aM (Kd.R_below (qR HO137) hb); replace BK125 := aM (blk_below (qK BK125) hb); replace HB := aM (below_step (tB1 GE125) hb); (try clear hb); (try clear hb2); (try clear hk); (try clear hi))); repeat (go_quiet (first | ((with_reducible refine gate_dst (N := 45) rfl ?_); refine Kd.R_lit k84 _ 84 ?hg (N := 45) ?hd (xs := ([(⟨a1_0, a1_1, a1_2, a1_3, a1_4⟩ : S84)] : List (S84))) (inner := [.int .i64 a1_0, .int .i64 a1_1, .int .i64 a1_2, .int .i64 a1_3, .int .i64 a1_4]) (ok := fun _ => True) (okp := fun _ => True) ?hr ?hp (fun _ hk => hk) trivial (Below.refl _ _) (Nat.le_refl _) (by simp) ?_; (case hd => rfl); (case hg => rfl); (case hr => first | (go_simp; done) | (go_simp; rfl)); (case hp => exact (Reps.c5 (show Kd.M k84 _ _ _ (⟨a1_0, a1_1, a1_2, a1_3, a1_4⟩ : S84) [.int .i64 a1_0, .int .i64 a1_1, .int .i64 a1_2, .int .i64 a1_3, .int .i64 a1_4] from (k84_mkM _ _ _ (⟨a1_0, a1_1, a1_2, a1_3, a1_4⟩ : S84) )) (Reps.none _ _))); intro v133 w29 ho30 hb hg_ hnew_; clear hg_ hnew_; (first | rw [← Ny132.out] at ho30 | (simp only [Int.reduceToNat] at ho30; rw [← Ny132.out] at ho30)); have HO134 := aM (Kd.R_lower (Kd.R_newB (Kd.R_new' ho30 (Kd.R_lt (qR HO_6))) (qK BK125)) (below_size (tB1 GE125))); replace HO_6 := aM (Kd.R_elder' (qR HO_6) (Kd.R_base ho30) hb); replace BK125 := aM (blk_below (qK BK125) hb); replace HB := aM (below_step (tB1 GE125) hb); clear hb ho30; obtain ⟨Ao31, co31, eo31⟩ := Kd.R_slice HO_6.out; subst eo31; obtain ⟨Ao32, co32, eo32⟩ := Kd.R_slice HO134.out; subst eo32) | (go_at_call 125; (with_reducible refine (impl_Claim_125.calls (fun k_ => some k_ = (.slice Ao31 t126.length co31 : Value).ownBlock) (.slice Ao31 t126.length co31) t126 x7_18 (fun k_ => some k_ = (.slice Ao32 y132.length co32 : Value).ownBlock) (.slice Ao32 y132.length co32) y132 t135 w _ ?side1 ?side2 ?side3 ?side4 ?side5 A25.out).mono ?_); (case side1 => repeat (first | (with_reducible first | exact HB.out | apply bA | apply bN | apply bD | refine bS ?_ GE125.out) | exact HB.out)); (case side2 => exact Kd.R_tight rfl HO_6.out); (case side3 => exact fun k_ e_ => (HO_6.out.1 k_ e_.symm).2); (case side4 => exact Kd.R_tight rfl HO134.out); (case side5 => exact fun k_ e_ => (HO134.out.1 k_ e_.symm).1.2); rintro e w33 ⟨v136, rfl, ho0, hb, hkp⟩; have HO137 := aM (Kd.R_mono (ok' := fun k_ => k_ ≠ gb125) ho0 (fun k_ hk_ => Or.elim hk_ (fun hs_ => Or.elim hs_ (fun hs_ => fun e_ => (Kd.R_away HO_6.out (fun _ hk => hk.1)) (by rw [← e_]; exact hs_)) (fun hs_ => fun e_ => (Kd.R_away HO134.out (fun _ hk => hk.2)) (by rw [← e_]; exact hs_))) (fun hn_ => (Kd.freshB (qK BK125) k_ hn_)))); replace BK125 := aM (blk_kept (qK BK125) hkp (fun hs_ => Or.elim hs_ (fun e_ => (fun e_ => (Kd.R_away HO_6.out (fun _ hk => hk.1)) e_) e_) (fun e_ => (fun e_ => (Kd.R_away HO134.out (fun _ hk => hk.2)) e_) e_))); replace HB := aM hb; clear HO134; clear HO_6; (try clear hb); (try clear hkp); (try clear ho0); obtain ⟨Ao34, co34, eo34⟩ := Kd.R_slice HO137.out; subst eo34) | (go_at_call 79; (with_reducible refine (impl_AreClaims.calls kj18 _ _ t135 true _ ?side1 ?side2 A26.out).mono ?_); (case side1 => exact tC HO137); (case side2 => exact (Kd.R_reads' HO137.out).2.1); rintro e w35 ⟨rfl, hb⟩; replace HO137 := aM (Kd.R_below (qR HO137) hb); replace BK125 := aM (blk_below (qK BK125) hb); replace HB := aM (below_step (tB1 GE125) hb); (try clear hb); (try clear hb2); (try clear hk); (try clear hi))); try go_wp2_with (first | ((with_reducible refine gate_dst (N := 45) rfl ?_); refine Kd.R_lit k84 _ 84 ?hg (N := 45) ?hd (xs := ([(⟨a1_0, a1_1, a1_2, a1_3, a1_4⟩ : S84)] : List (S84))) (inner := [.int .i64 a1_0, .int .i64 a1_1, .int .i64 a1_2, .int .i64 a1_3, .int .i64 a1_4]) (ok := fun _ => True) (okp := fun _ => True) ?hr ?hp (fun _ hk => hk) trivial (Below.refl _ _) (Nat.le_refl _) (by simp) ?_; (case hd => rfl); (case hg => rfl); (case hr => first | (go_simp; done) | (go_simp; rfl)); (case hp => exact (Reps.c5 (show Kd.M k84 _ _ _ (⟨a1_0, a1_1, a1_2, a1_3, a1_4⟩ : S84) [.int .i64 a1_0, .int .i64 a1_1, .int .i64 a1_2, .int .i64 a1_3, .int .i64 a1_4] from (k84_mkM _ _ _ (⟨a1_0, a1_1, a1_2, a1_3, a1_4⟩ : S84) )) (Reps.none _ _))); intro v133 w29 ho30 hb hg_ hnew_; clear hg_ hnew_; (first | rw [← Ny132.out] at ho30 | (simp only [Int.reduceToNat] at ho30; rw [← Ny132.out] at ho30)); have HO134 := aM (Kd.R_lower (Kd.R_newB (Kd.R_new' ho30 (Kd.R_lt (qR HO_6))) (qK BK125)) (below_size (tB1 GE125))); replace HO_6 := aM (Kd.R_elder' (qR HO_6) (Kd.R_base ho30) hb); replace BK125 := aM (blk_below (qK BK125) hb); replace HB := aM (below_step (tB1 GE125) hb); clear hb ho30; obtain ⟨Ao31, co31, eo31⟩ := Kd.R_slice HO_6.out; subst eo31; obtain ⟨Ao32, co32, eo32⟩ := Kd.R_slice HO134.out; subst eo32) | (go_at_call 125; (with_reducible refine (impl_Claim_125.calls (fun k_ => some k_ = (.slice Ao31 t126.length co31 : Value).ownBlock) (.slice Ao31 t126.length co31) t126 x7_18 (fun k_ => some k_ = (.slice Ao32 y132.length co32 : Value).ownBlock) (.slice Ao32 y132.length co32) y132 t135 w _ ?side1 ?side2 ?side3 ?side4 ?side5 A25.out).mono ?_); (case side1 => repeat (first | (with_reducible first | exact HB.out | apply bA | apply bN | apply bD | refine bS ?_ GE125.out) | exact HB.out)); (case side2 => exact Kd.R_tight rfl HO_6.out); (case side3 => exact fun k_ e_ => (HO_6.out.1 k_ e_.symm).2); (case side4 => exact Kd.R_tight rfl HO134.out); (case side5 => exact fun k_ e_ => (HO134.out.1 k_ e_.symm).1.2); rintro e w33 ⟨v136, rfl, ho0, hb, hkp⟩; have HO137 := aM (Kd.R_mono (ok' := fun k_ => k_ ≠ gb125) ho0 (fun k_ hk_ => Or.elim hk_ (fun hs_ => Or.elim hs_ (fun hs_ => fun e_ => (Kd.R_away HO_6.out (fun _ hk => hk.1)) (by rw [← e_]; exact hs_)) (fun hs_ => fun e_ => (Kd.R_away HO134.out (fun _ hk => hk.2)) (by rw [← e_]; exact hs_))) (fun hn_ => (Kd.freshB (qK BK125) k_ hn_)))); replace BK125 := aM (blk_kept (qK BK125) hkp (fun hs_ => Or.elim hs_ (fun e_ => (fun e_ => (Kd.R_away HO_6.out (fun _ hk => hk.1)) e_) e_) (fun e_ => (fun e_ => (Kd.R_away HO134.out (fun _ hk => hk.2)) e_) e_))); replace HB := aM hb; clear HO134; clear HO_6; (try clear hb); (try clear hkp); (try clear ho0); obtain ⟨Ao34, co34, eo34⟩ := Kd.R_slice HO137.out; subst eo34) | (go_at_call 79; (with_reducible refine (impl_AreClaims.calls kj18 _ _ t135 true _ ?side1 ?side2 A26.out).mono ?_); (case side1 => exact tC HO137); (case side2 => exact (Kd.R_reads' HO137.out).2.1); rintro e w35 ⟨rfl, hb⟩; replace HO137 := aM (Kd.R_below (qR HO137) hb); replace BK125 := aM (blk_below (qK BK125) hb); replace HB := aM (below_step (tB1 GE125) hb); (try clear hb); (try clear hb2); (try clear hk); (try clear hi))))
       go_ret2; exact ⟨_, tE, by (with_reducible repeat first | apply rA | apply rN | apply rD); exact Kd.R_mono HO137.out (fun _ hk => trivial), tB1 GE125⟩
      ·replace c27 := Bool.eq_false_iff.mpr c27; subst c27; rw [if_neg ff_] at H; replace H := Option.bind_eq_some_iff.mp H; obtain ⟨t139, A360, H⟩ := H; have A36 := Aside0.mk A360; clear A360; simp only [Option.some.injEq, Prod.mk.injEq] at H; obtain ⟨rfl, rfl⟩ := H; have hcz37_0 : wc.cell? ⟨gb125, 0, none⟩ = some (.int .i64 a1_0) := cC BK125 0; have hcz37_1 : wc.cell? ⟨gb125, 1, none⟩ = some (.int .i64 a1_1) := cC BK125 1; have hcz37_2 : wc.cell? ⟨gb125, 2, none⟩ = some (.int .i64 a1_2) := cC BK125 2; have hcz37_3 : wc.cell? ⟨gb125, 3, none⟩ = some (.int .i64 a1_3) := cC BK125 3; have hcz37_4 : wc.cell? ⟨gb125, 4, none⟩ = some (.int .i64 a1_4) := cC BK125 4; have hfz37_0 := blk_frozen BK125.out 0; have hfz37_1 := blk_frozen BK125.out 1; have hfz37_2 := blk_frozen BK125.out 2; have hfz37_3 := blk_frozen BK125.out 3; have hfz37_4 := blk_frozen BK125.out 4; go_wp2_with (first | ((with_reducible refine gate_dst (N := 45) rfl ?_); refine Kd.R_lit k84 _ 84 ?hg (N := 45) ?hd (xs := ([(⟨a1_0, a1_1, a1_2, a1_3, a1_4⟩ : S84)] : List (S84))) (inner := [.int .i64 a1_0, .int .i64 a1_1, .int .i64 a1_2, .int .i64 a1_3, .int .i64 a1_4]) (ok := fun _ => True) (okp := fun _ => True) ?hr ?hp (fun _ hk => hk) trivial (Below.refl _ _) (Nat.le_refl _) (by simp) ?_; (case hd => rfl); (case hg => rfl); (case hr => first | (go_simp; done) | (go_simp; rfl)); (case hp => exact (Reps.c5 (show Kd.M k84 _ _ _ (⟨a1_0, a1_1, a1_2, a1_3, a1_4⟩ : S84) [.int .i64 a1_0, .int .i64 a1_1, .int .i64 a1_2, .int .i64 a1_3, .int .i64 a1_4] from (k84_mkM _ _ _ (⟨a1_0, a1_1, a1_2, a1_3, a1_4⟩ : S84) )) (Reps.none _ _))); intro v133 w38 ho39 hb hg_ hnew_; clear hg_ hnew_; (first | rw [← Ny132.out] at ho39 | (simp only [Int.reduceToNat] at ho39; rw [← Ny132.out] at ho39)); have HO134 := aM (Kd.R_lower (Kd.R_newB (Kd.R_new' ho39 (Kd.R_lt (qR HO_6))) (qK BK125)) (below_size (tB1 GE125))); replace HO_6 := aM (Kd.R_elder' (qR HO_6) (Kd.R_base ho39) hb); replace BK125 := aM (blk_below (qK BK125) hb); replace HB := aM (below_step (tB1 GE125) hb); clear hb ho39; obtain ⟨Ao40, co40, eo40⟩ := Kd.R_slice HO_6.out; subst eo40; obtain ⟨Ao41, co41, eo41⟩ := Kd.R_slice HO134.out; subst eo41) | (go_at_call 125; (with_reducible refine (impl_Claim_125.calls (fun k_ => some k_ = (.slice Ao40 t126.length co40 : Value).ownBlock) (.slice Ao40 t126.length co40) t126 x7_18 (fun k_ => some k_ = (.slice Ao41 y132.length co41 : Value).ownBlock) (.slice Ao41 y132.length co41) y132 t135 w _ ?side1 ?side2 ?side3 ?side4 ?side5 A25.out).mono ?_); (case side1 => repeat (first | (with_reducible first | exact HB.out | apply bA | apply bN | apply bD | refine bS ?_ GE125.out) | exact HB.out)); (case side2 => exact Kd.R_tight rfl HO_6.out); (case side3 => exact fun k_ e_ => (HO_6.out.1 k_ e_.symm).2); (case side4 => exact Kd.R_tight rfl HO134.out); (case side5 => exact fun k_ e_ => (HO134.out.1 k_ e_.symm).1.2); rintro e w42 ⟨v136, rfl, ho0, hb, hkp⟩; have HO137 := aM (Kd.R_mono (ok' := fun k_ => k_ ≠ gb125) ho0 (fun k_ hk_ => Or.elim hk_ (fun hs_ => Or.elim hs_ (fun hs_ => fun e_ => (Kd.R_away HO_6.out (fun _ hk => hk.1)) (by rw [← e_]; exact hs_)) (fun hs_ => fun e_ => (Kd.R_away HO134.out (fun _ hk => hk.2)) (by rw [← e_]; exact hs_))) (fun hn_ => (Kd.freshB (qK BK125) k_ hn_)))); replace BK125 := aM (blk_kept (qK BK125) hkp (fun hs_ => Or.elim hs_ (fun e_ => (fun e_ => (Kd.R_away HO_6.out (fun _ hk => hk.1)) e_) e_) (fun e_ => (fun e_ => (Kd.R_away HO134.out (fun _ hk => hk.2)) e_) e_))); replace HB := aM hb; clear HO134; clear HO_6; (try clear hb); (try clear hkp); (try clear ho0); obtain ⟨Ao43, co43, eo43⟩ := Kd.R_slice HO137.out; subst eo43) | (go_at_call 79; (with_reducible refine (impl_AreClaims.calls kj18 _ _ t135 false _ ?side1 ?side2 A26.out).mono ?_); (case side1 => exact tC HO137); (case side2 => exact (Kd.R_reads' HO137.out).2.1); rintro e w44 ⟨rfl, hb⟩; replace HO137 := aM (Kd.R_below (qR HO137) hb); replace BK125 := aM (blk_below (qK BK125) hb); replace HB := aM (below_step (tB1 GE125) hb); (try clear hb); (try clear hb2); (try clear hk); (try clear hi)) | (go_at_call 122; (with_reducible refine (impl_Claim_122.calls _ _ l0 t139 _ ?side1 ?side2 A36.out).mono ?_); (case side1 => exact qC (Kd.C_below HR0.out HB.out)); (case side2 => exact HC0.out); rintro e w45 ⟨v140, rfl, ho0, hb⟩; have HO141 := aM (Kd.R_lower (Kd.R_newB (Kd.R_new' ho0 (Kd.R_lt (qR HO137))) (qK BK125)) (below_size (tB1 GE125))); replace HO137 := aM (Kd.R_elder' (qR HO137) (Kd.R_base ho0) hb); replace BK125 := aM (blk_below (qK BK125) hb); replace HB := aM (below_step (tB1 GE125) hb); (try clear hb); (try clear hb2); (try clear hk); (try clear hi); (try clear ho0))); repeat (go_quiet (first | ((with_reducible refine gate_dst (N := 45) rfl ?_); refine Kd.R_lit k84 _ 84 ?hg (N := 45) ?hd (xs := ([(⟨a1_0, a1_1, a1_2, a1_3, a1_4⟩ : S84)] : List (S84))) (inner := [.int .i64 a1_0, .int .i64 a1_1, .int .i64 a1_2, .int .i64 a1_3, .int .i64 a1_4]) (ok := fun _ => True) (okp := fun _ => True) ?hr ?hp (fun _ hk => hk) trivial (Below.refl _ _) (Nat.le_refl _) (by simp) ?_; (case hd => rfl); (case hg => rfl); (case hr => first | (go_simp; done) | (go_simp; rfl)); (case hp => exact (Reps.c5 (show Kd.M k84 _ _ _ (⟨a1_0, a1_1, a1_2, a1_3, a1_4⟩ : S84) [.int .i64 a1_0, .int .i64 a1_1, .int .i64 a1_2, .int .i64 a1_3, .int .i64 a1_4] from (k84_mkM _ _ _ (⟨a1_0, a1_1, a1_2, a1_3, a1_4⟩ : S84) )) (Reps.none _ _))); intro v133 w38 ho39 hb hg_ hnew_; clear hg_ hnew_; (first | rw [← Ny132.out] at ho39 | (simp only [Int.reduceToNat] at ho39; rw [← Ny132.out] at ho39)); have HO134 := aM (Kd.R_lower (Kd.R_newB (Kd.R_new' ho39 (Kd.R_lt (qR HO_6))) (qK BK125)) (below_size (tB1 GE125))); replace HO_6 := aM (Kd.R_elder' (qR HO_6) (Kd.R_base ho39) hb); replace BK125 := aM (blk_below (qK BK125) hb); replace HB := aM (below_step (tB1 GE125) hb); clear hb ho39; obtain ⟨Ao40, co40, eo40⟩ := Kd.R_slice HO_6.out; subst eo40; obtain ⟨Ao41, co41, eo41⟩ := Kd.R_slice HO134.out; subst eo41) | (go_at_call 125; (with_reducible refine (impl_Claim_125.calls (fun k_ => some k_ = (.slice Ao40 t126.length co40 : Value).ownBlock) (.slice Ao40 t126.length co40) t126 x7_18 (fun k_ => some k_ = (.slice Ao41 y132.length co41 : Value).ownBlock) (.slice Ao41 y132.length co41) y132 t135 w _ ?side1 ?side2 ?side3 ?side4 ?side5 A25.out).mono ?_); (case side1 => repeat (first | (with_reducible first | exact HB.out | apply bA | apply bN | apply bD | refine bS ?_ GE125.out) | exact HB.out)); (case side2 => exact Kd.R_tight rfl HO_6.out); (case side3 => exact fun k_ e_ => (HO_6.out.1 k_ e_.symm).2); (case side4 => exact Kd.R_tight rfl HO134.out); (case side5 => exact fun k_ e_ => (HO134.out.1 k_ e_.symm).1.2); rintro e w42 ⟨v136, rfl, ho0, hb, hkp⟩; have HO137 := aM (Kd.R_mono (ok' := fun k_ => k_ ≠ gb125) ho0 (fun k_ hk_ => Or.elim hk_ (fun hs_ => Or.elim hs_ (fun hs_ => fun e_ => (Kd.R_away HO_6.out (fun _ hk => hk.1)) (by rw [← e_]; exact hs_)) (fun hs_ => fun e_ => (Kd.R_away HO134.out (fun _ hk => hk.2)) (by rw [← e_]; exact hs_))) (fun hn_ => (Kd.freshB (qK BK125) k_ hn_)))); replace BK125 := aM (blk_kept (qK BK125) hkp (fun hs_ => Or.elim hs_ (fun e_ => (fun e_ => (Kd.R_away HO_6.out (fun _ hk => hk.1)) e_) e_) (fun e_ => (fun e_ => (Kd.R_away HO134.out (fun _ hk => hk.2)) e_) e_))); replace HB := aM hb; clear HO134; clear HO_6; (try clear hb); (try clear hkp); (try clear ho0); obtain ⟨Ao43, co43, eo43⟩ := Kd.R_slice HO137.out; subst eo43) | (go_at_call 79; (with_reducible refine (impl_AreClaims.calls kj18 _ _ t135 false _ ?side1 ?side2 A26.out).mono ?_); (case side1 => exact tC HO137); (case side2 => exact (Kd.R_reads' HO137.out).2.1); rintro e w44 ⟨rfl, hb⟩; replace HO137 := aM (Kd.R_below (qR HO137) hb); replace BK125 := aM (blk_below (qK BK125) hb); replace HB := aM (below_step (tB1 GE125) hb); (try clear hb); (try clear hb2); (try clear hk); (try clear hi)) | (go_at_call 122; (with_reducible refine (impl_Claim_122.calls _ _ l0 t139 _ ?side1 ?side2 A36.out).mono ?_); (case side1 => exact qC (Kd.C_below HR0.out HB.out)); (case side2 => exact HC0.out); rintro e w45 ⟨v140, rfl, ho0, hb⟩; have HO141 := aM (Kd.R_lower (Kd.R_newB (Kd.R_new' ho0 (Kd.R_lt (qR HO137))) (qK BK125)) (below_size (tB1 GE125))); replace HO137 := aM (Kd.R_elder' (qR HO137) (Kd.R_base ho0) hb); replace BK125 := aM (blk_below (qK BK125) hb); replace HB := aM (below_step (tB1 GE125) hb); (try clear hb); (try clear hb2); (try clear hk); (try clear hi); (try clear ho0))); try go_wp2_with (first | ((with_reducible refine gate_dst (N := 45) rfl ?_); refine Kd.R_lit k84 _ 84 ?hg (N := 45) ?hd (xs := ([(⟨a1_0, a1_1, a1_2, a1_3, a1_4⟩ : S84)] : List (S84))) (inner := [.int .i64 a1_0, .int .i64 a1_1, .int .i64 a1_2, .int .i64 a1_3, .int .i64 a1_4]) (ok := fun _ => True) (okp := fun _ => True) ?hr ?hp (fun _ hk => hk) trivial (Below.refl _ _) (Nat.le_refl _) (by simp) ?_; (case hd => rfl); (case hg => rfl); (case hr => first | (go_simp; done) | (go_simp; rfl)); (case hp => exact (Reps.c5 (show Kd.M k84 _ _ _ (⟨a1_0, a1_1, a1_2, a1_3, a1_4⟩ : S84) [.int .i64 a1_0, .int .i64 a1_1, .int .i64 a1_2, .int .i64 a1_3, .int .i64 a1_4] from (k84_mkM _ _ _ (⟨a1_0, a1_1, a1_2, a1_3, a1_4⟩ : S84) )) (Reps.none _ _))); intro v133 w38 ho39 hb hg_ hnew_; clear hg_ hnew_; (first | rw [← Ny132.out] at ho39 | (simp only [Int.reduceToNat] at ho39; rw [← Ny132.out] at ho39)); have HO134 := aM (Kd.R_lower (Kd.R_newB (Kd.R_new' ho39 (Kd.R_lt (qR HO_6))) (qK BK125)) (below_size (tB1 GE125))); replace HO_6 := aM (Kd.R_elder' (qR HO_6) (Kd.R_base ho39) hb); replace BK125 := aM (blk_below (qK BK125) hb); replace HB := aM (below_step (tB1 GE125) hb); clear hb ho39; obtain ⟨Ao40, co40, eo40⟩ := Kd.R_slice HO_6.out; subst eo40; obtain ⟨Ao41, co41, eo41⟩ := Kd.R_slice HO134.out; subst eo41) | (go_at_call 125; (with_reducible refine (impl_Claim_125.calls (fun k_ => some k_ = (.slice Ao40 t126.length co40 : Value).ownBlock) (.slice Ao40 t126.length co40) t126 x7_18 (fun k_ => some k_ = (.slice Ao41 y132.length co41 : Value).ownBlock) (.slice Ao41 y132.length co41) y132 t135 w _ ?side1 ?side2 ?side3 ?side4 ?side5 A25.out).mono ?_); (case side1 => repeat (first | (with_reducible first | exact HB.out | apply bA | apply bN | apply bD | refine bS ?_ GE125.out) | exact HB.out)); (case side2 => exact Kd.R_tight rfl HO_6.out); (case side3 => exact fun k_ e_ => (HO_6.out.1 k_ e_.symm).2); (case side4 => exact Kd.R_tight rfl HO134.out); (case side5 => exact fun k_ e_ => (HO134.out.1 k_ e_.symm).1.2); rintro e w42 ⟨v136, rfl, ho0, hb, hkp⟩; have HO137 := aM (Kd.R_mono (ok' := fun k_ => k_ ≠ gb125) ho0 (fun k_ hk_ => Or.elim hk_ (fun hs_ => Or.elim hs_ (fun hs_ => fun e_ => (Kd.R_away HO_6.out (fun _ hk => hk.1)) (by rw [← e_]; exact hs_)) (fun hs_ => fun e_ => (Kd.R_away HO134.out (fun _ hk => hk.2)) (by rw [← e_]; exact hs_))) (fun hn_ => (Kd.freshB (qK BK125) k_ hn_)))); replace BK125 := aM (blk_kept (qK BK125) hkp (fun hs_ => Or.elim hs_ (fun e_ => (fun e_ => (Kd.R_away HO_6.out (fun _ hk => hk.1)) e_) e_) (fun e_ => (fun e_ => (Kd.R_away HO134.out (fun _ hk => hk.2)) e_) e_))); replace HB := aM hb; clear HO134; clear HO_6; (try clear hb); (try clear hkp); (try clear ho0); obtain ⟨Ao43, co43, eo43⟩ := Kd.R_slice HO137.out; subst eo43) | (go_at_call 79; (with_reducible refine (impl_AreClaims.calls kj18 _ _ t135 false _ ?side1 ?side2 A26.out).mono ?_); (case side1 => exact tC HO137); (case side2 => exact (Kd.R_reads' HO137.out).2.1); rintro e w44 ⟨rfl, hb⟩; replace HO137 := aM (Kd.R_below (qR HO137) hb); replace BK125 := aM (blk_below (qK BK125) hb); replace HB := aM (below_step (tB1 GE125) hb); (try clear hb); (try clear hb2); (try clear hk); (try clear hi)) | (go_at_call 122; (with_reducible refine (impl_Claim_122.calls _ _ l0 t139 _ ?side1 ?side2 A36.out).mono ?_); (case side1 => exact qC (Kd.C_below HR0.out HB.out)); (case side2 => exact HC0.out); rintro e w45 ⟨v140, rfl, ho0, hb⟩; have HO141 := aM (Kd.R_lower (Kd.R_newB (Kd.R_new' ho0 (Kd.R_lt (qR HO137))) (qK BK125)) (below_size (tB1 GE125))); replace HO137 := aM (Kd.R_elder' (qR HO137) (Kd.R_base ho0) hb); replace BK125 := aM (blk_below (qK BK125) hb); replace HB := aM (below_step (tB1 GE125) hb); (try clear hb); (try clear hb2); (try clear hk); (try clear hi); (try clear ho0))))
       go_ret2; exact ⟨_, tE, by (with_reducible repeat first | apply rA | apply rN | apply rD); exact Kd.R_mono HO141.out (fun _ hk => trivial), tB1 GE125⟩

/-- A state of type 189 at block g of W; what its slices lead to came in by w0. -/
def IsS189 (w0 W : World) (g : Nat) (f0 : List Int) (f1 : Int) (f2 : Int) : Prop := ∃ A0 c0, W.heap[g]? = some (.cells #[.slice A0 f0.length c0, .int .i64 f1, .int .i64 f2] 189 (0, 0)) ∧ w0.heap.size ≤ g ∧ Kd.C (Kd.int .u8) w0 A0 f0.length f0
theorem IsS189.grown {w0 W : World} {g : Nat} {f0 : List Int} {f1 : Int} {f2 : Int} {W1 : World} {row : Option Nat} (h : IsS189 w0 W g f0 f1 f2) (hw : W.grownBy W1 row) (hne : some g ≠ row) : IsS189 w0 W1 g f0 f1 f2 := by
 obtain ⟨A0, c0, hb, hg, hr0⟩ := h; exact ⟨A0, c0, blk_grown hb hw hne, hg, hr0⟩
theorem IsS189.own_neN {w0 W : World} {g : Nat} {f0 : List Int} {f1 : Int} {f2 : Int} {α : Type} {d : Kd α} {e : Nat} {base : Nat} {ok : Nat → Prop} {v : Value} {xs : List α} (h : IsS189 w0 W g f0 f1 f2) (ho : Kd.N d e W base ok v xs) (ht : e ≠ 189) : some g ≠ v.ownBlock := by
 obtain ⟨A0, c0, hb, hg, hr0⟩ := h; exact Kd.N_ne ho hb ht
theorem IsS189.fresh {w0 W : World} {g : Nat} {f0 : List Int} {f1 : Int} {f2 : Int} (h : IsS189 w0 W g f0 f1 f2) : ∀ k, W.heap.size ≤ k → k ≠ g := by
 obtain ⟨A0, c0, hb, hg, hr0⟩ := h; exact Kd.freshB hb
theorem IsS189.kept {w0 W : World} {g : Nat} {f0 : List Int} {f1 : Int} {f2 : Int} {W1 : World} {S : Nat → Prop} (h : IsS189 w0 W g f0 f1 f2) (hk : Kept W W1 S) (hne : ¬ S g) : IsS189 w0 W1 g f0 f1 f2 := by
 obtain ⟨A0, c0, hb, hg, hr0⟩ := h; exact ⟨A0, c0, blk_kept hb hk hne, hg, hr0⟩
theorem IsS189.below {w0 W : World} {g : Nat} {f0 : List Int} {f1 : Int} {f2 : Int} {W1 : World} (h : IsS189 w0 W g f0 f1 f2) (hw : Below W.heap.size W W1) : IsS189 w0 W1 g f0 f1 f2 := h.grown (grown_of_below hw none) (by simp)
theorem IsS189.alloc {w0 W : World} {g : Nat} {f0 : List Int} {f1 : Int} {f2 : Int} (h : IsS189 w0 W g f0 f1 f2) (o : Obj) : IsS189 w0 (W.alloc o) g f0 f1 f2 := h.below (below_alloc (Below.refl _ _) o)
theorem IsS189.drewN {w0 W : World} {g : Nat} {f0 : List Int} {f1 : Int} {f2 : Int} (h : IsS189 w0 W g f0 f1 f2) (m : Nat) : IsS189 w0 (W.drewN m) g f0 f1 f2 := h
theorem IsS189.drew {w0 W : World} {g : Nat} {f0 : List Int} {f1 : Int} {f2 : Int} (h : IsS189 w0 W g f0 f1 f2) : IsS189 w0 W.drew g f0 f1 f2 := h
theorem IsS189.at_ {w0 W : World} {g : Nat} {f0 : List Int} {f1 : Int} {f2 : Int} {w' : World} {m : Nat} (hq : W.drewN m = w') (h : IsS189 w0 W g f0 f1 f2) : IsS189 w0 w' g f0 f1 f2 := by subst hq; exact IsS189.drewN h m
theorem IsS189.apart {w0 W : World} {g : Nat} {f0 : List Int} {f1 : Int} {f2 : Int} {α : Type} {d : Kd α} {e : Nat} {base : Nat} {ok : Nat → Prop} {v : Value} {xs : List α} (h : IsS189 w0 W g f0 f1 f2) (ho : d.R e W base ok v xs) (ht : ∀ q, q ∈ e :: d.E → q ≠ 189) : d.R e W base (fun k => ok k ∧ k ≠ g) v xs := by
 obtain ⟨A0, c0, hb, hg, hr0⟩ := h; exact Kd.R_types ho hb ht
theorem IsS189.own_ne {w0 W : World} {g : Nat} {f0 : List Int} {f1 : Int} {f2 : Int} {α : Type} {d : Kd α} {e : Nat} {base : Nat} {ok : Nat → Prop} {v : Value} {xs : List α} (h : IsS189 w0 W g f0 f1 f2) (ho : d.R e W base ok v xs) (ht : e ≠ 189) : some g ≠ v.ownBlock := by
 obtain ⟨A0, c0, hb, hg, hr0⟩ := h; exact Kd.R_ne ho hb ht
theorem IsS189.apartQ {w0 W : World} {g : Nat} {f0 : List Int} {f1 : Int} {f2 : Int} {α : Type} {d : Kd α} {e : Nat} {base : Nat} {ok : Nat → Prop} {v : Value} {xs : List α} (h : IsS189 w0 W g f0 f1 f2) (ho : d.Q e W base ok v xs) (ht : ∀ q, q ∈ e :: d.E → q ≠ 189) : d.Q e W base (fun k => ok k ∧ k ≠ g) v xs := by
 obtain ⟨A0, c0, hb, hg, hr0⟩ := h; exact Kd.Q_types ho hb ht
theorem IsS189.own_neQ {w0 W : World} {g : Nat} {f0 : List Int} {f1 : Int} {f2 : Int} {α : Type} {d : Kd α} {e : Nat} {base : Nat} {ok : Nat → Prop} {v : Value} {xs : List α} (h : IsS189 w0 W g f0 f1 f2) (ho : d.Q e W base ok v xs) (ht : e ≠ 189) : some g ≠ v.ownBlock := by
 obtain ⟨A0, c0, hb, hg, hr0⟩ := h; exact Kd.Q_ne ho hb ht
theorem IsS189.apartS {w0 W : World} {g : Nat} {f0 : List Int} {f1 : Int} {f2 : Int} {α : Type} {d : Kd α} {e : Nat} {base : Nat} {ok : Nat → Prop} {v : Value} {xs : List α} (h : IsS189 w0 W g f0 f1 f2) (ho : d.S e W base ok v xs) (ht : ∀ q, q ∈ e :: d.E → q ≠ 189) : d.S e W base (fun k => ok k ∧ k ≠ g) v xs := by
 obtain ⟨A0, c0, hb, hg, hr0⟩ := h; exact Kd.S_types ho hb ht
theorem IsS189.own_neS {w0 W : World} {g : Nat} {f0 : List Int} {f1 : Int} {f2 : Int} {α : Type} {d : Kd α} {e : Nat} {base : Nat} {ok : Nat → Prop} {v : Value} {xs : List α} (h : IsS189 w0 W g f0 f1 f2) (ho : d.S e W base ok v xs) (ht : e ≠ 189) : some g ≠ v.ownBlock := by
 obtain ⟨A0, c0, hb, hg, hr0⟩ := h; exact Kd.S_ne ho hb ht
theorem IsS189.lt {w0 W : World} {g : Nat} {f0 : List Int} {f1 : Int} {f2 : Int} (h : IsS189 w0 W g f0 f1 f2) : g < W.heap.size := by
 obtain ⟨A0, c0, hb, hg, hr0⟩ := h; exact blk_lt hb
theorem IsS189.ge {w0 W : World} {g : Nat} {f0 : List Int} {f1 : Int} {f2 : Int} (h : IsS189 w0 W g f0 f1 f2) : w0.heap.size ≤ g := by
 obtain ⟨A0, c0, hb, hg, hr0⟩ := h; exact hg
theorem IsS189.ne_blk {w0 W : World} {g : Nat} {f0 : List Int} {f1 : Int} {f2 : Int} {a : Nat} {cs : Array Value} {t : TypeId} {fr : Nat × Nat} (h : IsS189 w0 W g f0 f1 f2) (hb2 : W.heap[a]? = some (.cells cs t fr)) (ht : t ≠ 189) : g ≠ a := by
 obtain ⟨A0, c0, hb, hg, hr0⟩ := h; rintro rfl; rw [hb] at hb2; injection hb2 with hb2
 injection hb2 with _ ht2
 exact ht ht2.symm
theorem IsS189.far {w0 W : World} {g : Nat} {f0 : List Int} {f1 : Int} {f2 : Int} {p : Addr} (h : IsS189 w0 W g f0 f1 f2) (hne : g ≠ p.block) (u : Value) : IsS189 w0 (W.setCell p u) g f0 f1 f2 := by
 obtain ⟨A0, c0, hb, hg, hr0⟩ := h; exact ⟨A0, c0, blk_far hb hne u, hg, hr0⟩
theorem cellS189_0 {W : World} {g : Nat} {A0 : Option Addr} {c0 : Nat} {f0 : List Int} {f1 : Int} {f2 : Int} (h : W.heap[g]? = some (.cells #[.slice A0 f0.length c0, .int .i64 f1, .int .i64 f2] 189 (0, 0))) : W.cell? ⟨g, 0, none⟩ = some (.slice A0 f0.length c0) := (blk_cell h 0).trans rfl
theorem cellS189_1 {W : World} {g : Nat} {A0 : Option Addr} {c0 : Nat} {f0 : List Int} {f1 : Int} {f2 : Int} (h : W.heap[g]? = some (.cells #[.slice A0 f0.length c0, .int .i64 f1, .int .i64 f2] 189 (0, 0))) : W.cell? ⟨g, 1, none⟩ = some (.int .i64 f1) := (blk_cell h 1).trans rfl
theorem IsS189.set_1 {w0 W : World} {g : Nat} {f0 : List Int} {f1 : Int} {f2 : Int} (h : IsS189 w0 W g f0 f1 f2) (x : Int) : IsS189 w0 (W.setCell ⟨g, 1, none⟩ (.int .i64 x)) g f0 x f2 := by
 obtain ⟨A0, c0, hb, hg, hr0⟩ := h; exact ⟨A0, c0, by simpa using blk_set hb 1 (.int .i64 x), hg, hr0⟩
theorem cellS189_2 {W : World} {g : Nat} {A0 : Option Addr} {c0 : Nat} {f0 : List Int} {f1 : Int} {f2 : Int} (h : W.heap[g]? = some (.cells #[.slice A0 f0.length c0, .int .i64 f1, .int .i64 f2] 189 (0, 0))) : W.cell? ⟨g, 2, none⟩ = some (.int .i64 f2) := (blk_cell h 2).trans rfl
theorem IsS189.set_2 {w0 W : World} {g : Nat} {f0 : List Int} {f1 : Int} {f2 : Int} (h : IsS189 w0 W g f0 f1 f2) (x : Int) : IsS189 w0 (W.setCell ⟨g, 2, none⟩ (.int .i64 x)) g f0 f1 x := by
 obtain ⟨A0, c0, hb, hg, hr0⟩ := h; exact ⟨A0, c0, by simpa using blk_set hb 2 (.int .i64 x), hg, hr0⟩
theorem IsS189.new (w0 W : World) (A0 : Option Addr) (c0 : Nat) (f0 : List Int) (f1 : Int) (f2 : Int) (hB : Below w0.heap.size w0 W) (hr0 : Kd.C (Kd.int .u8) w0 A0 f0.length f0) : IsS189 w0 (W.alloc (.cells #[.slice A0 f0.length c0, .int .i64 f1, .int .i64 f2] 189)) W.heap.size f0 f1 f2 := ⟨A0, c0, by simpa using heap_alloc_new W _, hB.size, hr0⟩

/-! ### spec_l1New: function 110 -/
def spec_l1New.l0 : Nat → List Int → Int → Int → Option (List Int × Int × Int)
 | 0, _, _, _ => none
 | k + 1, x0, x3, x4 => if x4 < (x0.length : Int) then (if x4 < 4000 then (if 0 ≤ x4 then (spec_l1New.l0 k x0 (Go.bits .and .i64 (wrap64 ((wrap64 ((wrap64 (x3 * 137)) + (wrap64 (rd x0 x4)))) + 11)) 1073741823) (wrap64 (x4 + 1))) else (none)) else (some (x0, 0, x3))) else (some (x0, 0, x3))
def spec_l1New.f (k : Nat) (l0 : List Int) : Option (List Int × Int × Int) := spec_l1New.l0 k l0 (wrap64 (193017 + (l0.length : Int))) 0
theorem spec_l1New.mono_l : ∀ k, (∀ y0 y1 y2, LeO (spec_l1New.l0 k y0 y1 y2) (spec_l1New.l0 (k + 1) y0 y1 y2))
 | 0 => fun _ _ _ r h => by simp [spec_l1New.l0] at h
 | k + 1 => by
  have ih0 := spec_l1New.mono_l k
  ·intro y0 y1 y2; unfold spec_l1New.l0
   repeat' first
   | (with_reducible exact ih0 _ _ _)
   | (with_reducible exact LeO.refl _)
   | (with_reducible exact LeO.none _)
   | (with_reducible refine LeO.ite ?_ ?_)
   | (with_reducible refine LeO.bind ?_ (fun _ => ?_))
   | exact ih0 _ _ _
   | exact LeO.none _
   | refine LeO.ite ?_ ?_
   | refine LeO.bind ?_ (fun _ => ?_)
theorem spec_l1New.mono : ∀ a0 k, LeO (spec_l1New.f k a0) (spec_l1New.f (k + 1) a0) := by
 intro a0 k; have ih0 := spec_l1New.mono_l k; unfold spec_l1New.f
 repeat' first
   | (with_reducible exact ih0 _ _ _)
   | (with_reducible exact LeO.refl _)
   | (with_reducible exact LeO.none _)
   | (with_reducible refine LeO.ite ?_ ?_)
   | (with_reducible refine LeO.bind ?_ (fun _ => ?_))
   | exact ih0 _ _ _
   | exact LeO.none _
   | refine LeO.ite ?_ ?_
   | refine LeO.bind ?_ (fun _ => ?_)
set_option maxHeartbeats 8000000 in
set_option maxRecDepth 100000 in
theorem spec_l1New.calls (k : Nat) (A0 : Option Addr) (c0 : Nat) (l0 : List Int) (r1 : List Int) (r2 : Int) (r3 : Int) (w0 w : World) (hB : Below w0.heap.size w0 w) (hr0 : Kd.C (Kd.int .u8) w0 A0 l0.length l0) (hc0 : l0.length ≤ c0) (h : spec_l1New.f k l0 = some (r1, r2, r3)) :
  Calls Try.prog 110 #[.slice A0 l0.length c0] w fun e w' => ∃ g_ : Nat, e = .returned (.pointer (some ⟨g_, 0, none⟩)) ∧ IsS189 w0 w' g_ r1 r2 r3 ∧ Below w0.heap.size w0 w' ∧ Below w.heap.size w w' := by
 have hu189 := Try.underlying189; have HR0 := Aside0.mk hr0; have HC0 := Aside0.mk hc0; clear hr0 hc0; have HBW := aM (Below.refl w.heap.size w); have HW0 := Aside0.mk hB.size; have HB := Aside0.mk hB; clear hB; have H : (spec_l1New.l0 k l0 (wrap64 (193017 + (l0.length : Int))) 0) = some (r1, r2, r3) := h; clear h; have H' := Aside0.mk H; clear H; go_enter Try.func110, Try.ntmps110; go_wp2; go_loopg [3, 4] k (fun kq v3 v4 w' => ∃ (x3_1 : Int) (x4_1 : Int), v3 = .int .i64 x3_1 ∧ v4 = .int .i64 x4_1 ∧ Aside0 (spec_l1New.l0 kq l0 x3_1 x4_1 = some (r1, r2, r3)) ∧ Aside0 (kq ≤ k) ∧ Aside0 (Below w0.heap.size w0 w') ∧ Aside0 (Below w.heap.size w w'))
 case atStart => exact ⟨(wrap64 (193017 + (l0.length : Int))), (0), tS, tS, H', ⟨Nat.le_refl _⟩, ⟨tB0⟩, ⟨by repeat (first | (with_reducible first | exact HBW.out | apply bA | apply bN | apply bD) | exact HBW.out)⟩⟩
 case round =>
  clear H'; try clear c1
  obtain ⟨x3_1, x4_1, rfl, rfl, HA, HK1, HB, HBW⟩ := hrel; cases gk with
  | zero => exact absurd HA.out (by simp [spec_l1New.l0])
  | succ k1 =>
   have H := HA.out; clear HA; simp only [spec_l1New.l0] at H; by_cases c2 : x4_1 < (l0.length : Int)
   ·rw [if_pos c2] at H; have c2b0 : decide (x4_1 < (l0.length : Int)) = true := decide_eq_true c2; clear c2; by_cases c3 : x4_1 < 4000
    ·rw [if_pos c3] at H; have c3b0 : decide (x4_1 < 4000) = true := decide_eq_true c3; clear c3; by_cases c4 : 0 ≤ x4_1
     ·rw [if_pos c4] at H; have c4b0 : decide (0 ≤ x4_1) = true := decide_eq_true c4; clear c4; have H' := Aside0.mk H; clear H; have p142 : 0 ≤ (x4_1 : Int) := of_decide_eq_true ‹_›; have q142 : x4_1 < (l0.length : Int) := of_decide_eq_true ‹_›; obtain ⟨ad142, e142, hx142_0⟩ := Kd.at_int HR0.out x4_1 p142 q142; cases e142
      replace hx142_0 := pw_cell_below HB.out hx142_0; replace p142 := eq_true p142; replace q142 := eq_true q142; go_wp2; go_roundg k1
      case measure => have := HK1.out; omega
      case rel => exact ⟨(Go.bits .and .i64 (wrap64 ((wrap64 ((wrap64 (x3_1 * 137)) + (wrap64 (rd l0 x4_1)))) + 11)) 1073741823), (wrap64 (x4_1 + 1)), tS, tS, H', ⟨by have := HK1.out; omega⟩, ⟨tB0⟩, ⟨by repeat (first | (with_reducible first | exact HBW.out | apply bA | apply bN | apply bD) | exact HBW.out)⟩⟩
     ·rw [if_neg c4] at H; exact absurd H (by simp)
    ·rw [if_neg c3] at H; have c3b0 : decide (x4_1 < 4000) = false := decide_eq_false c3; clear c3; simp only [Option.some.injEq, Prod.mk.injEq] at H; obtain ⟨rfl, rfl, rfl⟩ := H; go_wp2_with (first | ((with_reducible refine gate_dst (N := 31) rfl ?_); refine box_event ?hg (N := 31) ?hd (cs := #[.slice A0 l0.length c0, .int .i64 0, .int .i64 x3_1]) (t := 189) ?hr ?_; (case hd => rfl); (case hg => rfl); (case hr => first | (go_simp; done) | (go_simp; rfl)); intro gb143 hg w5 hbox hb; replace HB := aM (below_step (qB HB) hb); have BK143 := aM hbox; have GW143 := aM ((by rw [hg]; exact (below_size (by repeat (first | (with_reducible first | exact HBW.out | apply bA | apply bN | apply bD) | exact HBW.out))) : w.heap.size ≤ gb143)); have GE143 := aM ((Nat.le_trans HW0.out (by rw [hg]; exact (below_size (by repeat (first | (with_reducible first | exact HBW.out | apply bA | apply bN | apply bD) | exact HBW.out))) : w.heap.size ≤ gb143) : w0.heap.size ≤ gb143)); replace HBW := aM (below_step HBW.out hb); clear hb hbox hg)); go_ret; exact ⟨_, rfl, (show IsS189 w0 _ gb143 l0 0 x3_1 from ⟨_, _, tK BK143, GE143.out, HR0.out⟩), tB1 GE143, by repeat (first | (with_reducible first | exact HBW.out | apply bA | apply bN | apply bD | refine bS ?_ GW143.out) | exact HBW.out)⟩
   ·rw [if_neg c2] at H; have c2b0 : decide (x4_1 < (l0.length : Int)) = false := decide_eq_false c2; clear c2; simp only [Option.some.injEq, Prod.mk.injEq] at H; obtain ⟨rfl, rfl, rfl⟩ := H; go_wp2_with (first | ((with_reducible refine gate_dst (N := 31) rfl ?_); refine box_event ?hg (N := 31) ?hd (cs := #[.slice A0 l0.length c0, .int .i64 0, .int .i64 x3_1]) (t := 189) ?hr ?_; (case hd => rfl); (case hg => rfl); (case hr => first | (go_simp; done) | (go_simp; rfl)); intro gb144 hg w6 hbox hb; replace HB := aM (below_step (qB HB) hb); have BK144 := aM hbox; have GW144 := aM ((by rw [hg]; exact (below_size (by repeat (first | (with_reducible first | exact HBW.out | apply bA | apply bN | apply bD) | exact HBW.out))) : w.heap.size ≤ gb144)); have GE144 := aM ((Nat.le_trans HW0.out (by rw [hg]; exact (below_size (by repeat (first | (with_reducible first | exact HBW.out | apply bA | apply bN | apply bD) | exact HBW.out))) : w.heap.size ≤ gb144) : w0.heap.size ≤ gb144)); replace HBW := aM (below_step HBW.out hb); clear hb hbox hg)); go_ret; exact ⟨_, rfl, (show IsS189 w0 _ gb144 l0 0 x3_1 from ⟨_, _, tK BK144, GE144.out, HR0.out⟩), tB1 GE144, by repeat (first | (with_reducible first | exact HBW.out | apply bA | apply bN | apply bD | refine bS ?_ GW144.out) | exact HBW.out)⟩

/-! ### spec_l1Byte: function 166 -/
def spec_l1Byte.f (s0_0 : List Int) (s0_1 : Int) (s0_2 : Int) : Option (Int × Int × Int) := if s0_1 < (s0_0.length : Int) then (if 0 ≤ s0_1 then (some (Go.bits .and .i64 (wrap64 ((Go.bits .and .i64 (Go.bits .xor .i64 ((wrap64 ((wrap64 (s0_2 * 6364136223846793005)) + 1442695040888963407)) / 8589934592) ((wrap64 ((wrap64 (s0_2 * 6364136223846793005)) + 1442695040888963407)) / 140737488355328)) 255) + (wrap64 (rd s0_0 s0_1)))) 255, wrap64 (s0_1 + 1), wrap64 ((wrap64 (s0_2 * 6364136223846793005)) + 1442695040888963407))) else (none)) else (some (Go.bits .and .i64 (Go.bits .xor .i64 ((wrap64 ((wrap64 (s0_2 * 6364136223846793005)) + 1442695040888963407)) / 8589934592) ((wrap64 ((wrap64 (s0_2 * 6364136223846793005)) + 1442695040888963407)) / 140737488355328)) 255, s0_1, wrap64 ((wrap64 (s0_2 * 6364136223846793005)) + 1442695040888963407)))
set_option maxHeartbeats 8000000 in
set_option maxRecDepth 100000 in
theorem spec_l1Byte.calls (g : Nat) (s0_0 : List Int) (s0_1 : Int) (s0_2 : Int) (r1 : Int) (r2 : Int) (r3 : Int) (w0 w : World) (hI : IsS189 w0 w g s0_0 s0_1 s0_2) (hB : Below w0.heap.size w0 w) (h : spec_l1Byte.f s0_0 s0_1 s0_2 = some (r1, r2, r3)) :
  Calls Try.prog 166 #[.pointer (some ⟨g, 0, none⟩)] w fun e w' => e = .returned (.int .i64 r1) ∧ IsS189 w0 w' g s0_0 r2 r3 ∧ Below w0.heap.size w0 w' ∧ KeepBut w w' g none := by
 have HI0 := Aside0.mk hI; have HK := aM (KeepBut.refl w g none); have HL := Aside0.mk hB.size; clear hI; have HW0 := Aside0.mk hB.size; have HB := Aside0.mk hB; clear hB; have H : (if s0_1 < (s0_0.length : Int) then (if 0 ≤ s0_1 then (some (Go.bits .and .i64 (wrap64 ((Go.bits .and .i64 (Go.bits .xor .i64 ((wrap64 ((wrap64 (s0_2 * 6364136223846793005)) + 1442695040888963407)) / 8589934592) ((wrap64 ((wrap64 (s0_2 * 6364136223846793005)) + 1442695040888963407)) / 140737488355328)) 255) + (wrap64 (rd s0_0 s0_1)))) 255, wrap64 (s0_1 + 1), wrap64 ((wrap64 (s0_2 * 6364136223846793005)) + 1442695040888963407))) else (none)) else (some (Go.bits .and .i64 (Go.bits .xor .i64 ((wrap64 ((wrap64 (s0_2 * 6364136223846793005)) + 1442695040888963407)) / 8589934592) ((wrap64 ((wrap64 (s0_2 * 6364136223846793005)) + 1442695040888963407)) / 140737488355328)) 255, s0_1, wrap64 ((wrap64 (s0_2 * 6364136223846793005)) + 1442695040888963407)))) = some (r1, r2, r3) := h; clear h; by_cases c2 : s0_1 < (s0_0.length : Int)
 ·rw [if_pos c2] at H; have c2b0 : decide (s0_1 < (s0_0.length : Int)) = true := decide_eq_true c2; clear c2; by_cases c3 : 0 ≤ s0_1
  ·rw [if_pos c3] at H; have c3b0 : decide (0 ≤ s0_1) = true := decide_eq_true c3; clear c3; simp only [Option.some.injEq, Prod.mk.injEq] at H; obtain ⟨rfl, rfl, rfl⟩ := H; obtain ⟨ASz4_0, cSz4_0, HGz4, hgz4, HSz4_0⟩ := HI0.out; have hcz4_0 := cellS189_0 HGz4; have hcz4_1 := cellS189_1 HGz4; have hcz4_2 := cellS189_2 HGz4; have hfz4_1 := blk_frozen HGz4 1; have hfz4_2 := blk_frozen HGz4 2; clear HGz4 hgz4; have p145 : 0 ≤ (s0_1 : Int) := of_decide_eq_true ‹_›; have q145 : s0_1 < (s0_0.length : Int) := of_decide_eq_true ‹_›; obtain ⟨ad145, e145, hx145_0⟩ := Kd.at_int HSz4_0 s0_1 p145 q145; cases e145
   have hn145_0 : ad145.block ≠ g := Nat.ne_of_lt (Nat.lt_of_lt_of_le (by have := World.block_lt_of_cell? _ _ hx145_0; first | rwa [add_block] at this | exact this) (IsS189.ge HI0.out)); replace hx145_0 := pw_cell_below HB.out hx145_0; replace hx145_0 := (cell_far (p := ⟨g, 2, none⟩) (by first | (rw [add_block]; exact hn145_0) | (show (Addr.add _ _).block ≠ _; rw [add_block]; exact hn145_0) | exact hn145_0) (.int .i64 (wrap64 ((wrap64 (s0_2 * 6364136223846793005)) + 1442695040888963407)))).trans hx145_0; (try have hy145_0 := fun (n_ : Nat) => (show (((w.drewN n_).setCell ⟨g, 2, none⟩ (.int .i64 (wrap64 ((wrap64 (s0_2 * 6364136223846793005)) + 1442695040888963407))))).cell? _ = some _ from hx145_0)); clear hn145_0; replace p145 := eq_true p145; replace q145 := eq_true q145; go_enter Try.func166, Try.ntmps166; go_wp2; repeat (go_quiet (fail); try go_wp2)
   go_ret; exact ⟨tE, by repeat (first | (with_reducible first | exact HI0.out | apply IsS189.alloc | apply IsS189.drewN | apply IsS189.drew | apply IsS189.set_1 | apply IsS189.set_2) | exact HI0.out), tB1 (aM (IsS189.ge HI0.out)), tH⟩
  ·rw [if_neg c3] at H; exact absurd H (by simp)
 ·rw [if_neg c2] at H; have c2b0 : decide (s0_1 < (s0_0.length : Int)) = false := decide_eq_false c2; clear c2; simp only [Option.some.injEq, Prod.mk.injEq] at H; obtain ⟨rfl, rfl, rfl⟩ := H; obtain ⟨ASz5_0, cSz5_0, HGz5, hgz5, HSz5_0⟩ := HI0.out; have hcz5_0 := cellS189_0 HGz5; have hcz5_1 := cellS189_1 HGz5; have hcz5_2 := cellS189_2 HGz5; have hfz5_1 := blk_frozen HGz5 1; have hfz5_2 := blk_frozen HGz5 2; clear HGz5 hgz5; go_enter Try.func166, Try.ntmps166; go_wp2; repeat (go_quiet (fail); try go_wp2)
  go_ret; exact ⟨tE, by repeat (first | (with_reducible first | exact HI0.out | apply IsS189.alloc | apply IsS189.drewN | apply IsS189.drew | apply IsS189.set_1 | apply IsS189.set_2) | exact HI0.out), tB1 (aM (IsS189.ge HI0.out)), tH⟩

end Go.Proofs.Ytppgealmedaihaa.PFnClaims
