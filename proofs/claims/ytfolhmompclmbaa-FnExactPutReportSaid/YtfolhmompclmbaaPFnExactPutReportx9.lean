-- The printed functions of one law and their contracts, over contracts of this session's own (hand.py).
import Derived.Test.YtfolhmompclmbaaPFnExactPutReportx0
import Derived.Test.YtfolhmompclmbaaPFnExactPutReportx8
namespace Go.Proofs.Ytfolhmompclmbaa.PFnExactPutReport
open Go.RowKit Go.Proofs.YtfolhmompclmbaaW.PrintWords Go.Proofs.YtfolhmompclmbaaW.PrintLast Go.Proofs.YtfolhmompclmbaaW.PrintMore Go.Proofs.Ytfolhmompclmbaa.Short
attribute [local go_sem] max2_int min2_int max_two min_two max_three min_three max_four min_four   -- for this text's walks alone
set_option linter.unusedVariables false
set_option linter.unusedSimpArgs false

/-! ### laws_eqReportS: function 20 -/
def laws_eqReportS.l0 : Nat → List (S29) → List (S29) → Int → Option (Bool)
 | 0, _, _, _ => none
 | k + 1, x0, x1, x5 => if x5 < (x0.length : Int) then (if 0 ≤ x5 then (if x5 < (x1.length : Int) then ((laws_eqReport.f k ((rd_T29 x0 x5).f0) ((rd_T29 x0 x5).f1) ((rd_T29 x0 x5).f2) ((rd_T29 x0 x5).f3) ((rd_T29 x0 x5).f4) ((rd_T29 x0 x5).f5) ((rd_T29 x0 x5).f6.f0) ((rd_T29 x0 x5).f6.f1) ((rd_T29 x1 x5).f0) ((rd_T29 x1 x5).f1) ((rd_T29 x1 x5).f2) ((rd_T29 x1 x5).f3) ((rd_T29 x1 x5).f4) ((rd_T29 x1 x5).f5) ((rd_T29 x1 x5).f6.f0) ((rd_T29 x1 x5).f6.f1)).bind fun D => (if D = true then (laws_eqReportS.l0 k x0 x1 (wrap64 (x5 + 1))) else (some false))) else (none)) else (none)) else (some true)
def laws_eqReportS.f (k : Nat) (l0 : List (S29)) (l1 : List (S29)) : Option (Bool) := if (l0.length : Int) = (l1.length : Int) then (laws_eqReportS.l0 k l0 l1 0) else (some false)
theorem laws_eqReportS.mono_l : ∀ k, (∀ y0 y1 y2, LeO (laws_eqReportS.l0 k y0 y1 y2) (laws_eqReportS.l0 (k + 1) y0 y1 y2))
 | 0 => fun _ _ _ r h => by simp [laws_eqReportS.l0] at h
 | k + 1 => by
  have ih0 := laws_eqReportS.mono_l k
  ·intro y0 y1 y2; unfold laws_eqReportS.l0
   repeat' first
   | (with_reducible exact ih0 _ _ _)
   | (with_reducible exact laws_eqReport.mono _ _ _ _ _ _ _ _ _ _ _ _ _ _ _ _ _)
   | (with_reducible exact LeO.refl _)
   | (with_reducible exact LeO.none _)
   | (with_reducible refine LeO.ite ?_ ?_)
   | (with_reducible refine LeO.bind ?_ (fun _ => ?_))
   | exact ih0 _ _ _
   | exact laws_eqReport.mono _ _ _ _ _ _ _ _ _ _ _ _ _ _ _ _ _
   | exact LeO.none _
   | refine LeO.ite ?_ ?_
   | refine LeO.bind ?_ (fun _ => ?_)
theorem laws_eqReportS.mono : ∀ a0 a1 k, LeO (laws_eqReportS.f k a0 a1) (laws_eqReportS.f (k + 1) a0 a1) := by
 intro a0 a1 k; have ih0 := laws_eqReportS.mono_l k; unfold laws_eqReportS.f
 repeat' first
   | (with_reducible exact ih0 _ _ _)
   | (with_reducible exact laws_eqReport.mono _ _ _ _ _ _ _ _ _ _ _ _ _ _ _ _ _)
   | (with_reducible exact LeO.refl _)
   | (with_reducible exact LeO.none _)
   | (with_reducible refine LeO.ite ?_ ?_)
   | (with_reducible refine LeO.bind ?_ (fun _ => ?_))
   | exact ih0 _ _ _
   | exact laws_eqReport.mono _ _ _ _ _ _ _ _ _ _ _ _ _ _ _ _ _
   | exact LeO.none _
   | refine LeO.ite ?_ ?_
   | refine LeO.bind ?_ (fun _ => ?_)
def laws_eqReportS.T6 : Bool × List (List Nat × List Nat) := (true, [([], []), ([], []), ([0, 1], [0, 1]), ([2], [2]), ([], []), ([], []), ([4, 5], [4, 5]), ([6], [6]), ([3, 7], [3, 7]), ([8], [8])])
def laws_eqReportS.B6 : List Nat := [0, 0, 3, 7, 0, 0, 48, 112, 255, 511]
theorem laws_eqReportS.tab6 : rtab .any (opsOf Try.f20 6) = laws_eqReportS.T6 := by kernel_rfl
theorem laws_eqReportS.bits6 : waitsOk laws_eqReportS.T6.2 laws_eqReportS.B6 = true := by kernel_rfl
set_option maxHeartbeats 8000000 in
set_option maxRecDepth 100000 in
theorem laws_eqReportS.calls (k : Nat) (A0 : Option Addr) (c0 : Nat) (l0 : List (S29)) (A1 : Option Addr) (c1 : Nat) (l1 : List (S29)) (r : Bool) (w : World) (hr0 : Kd.C k29 w A0 l0.length l0) (hc0 : l0.length ≤ c0) (hr1 : Kd.C k29 w A1 l1.length l1) (hc1 : l1.length ≤ c1) (h : laws_eqReportS.f k l0 l1 = some r) :
  Calls Try.prog 20 #[.slice A0 l0.length c0, .slice A1 l1.length c1] w fun e w' => e = .returned (.bool r) ∧ Below w.heap.size w w' := by
 have hu29 := Try.underlying29; have aT := Aside0.mk hr0; have bc := Aside0.mk hc0; clear hr0 hc0; have aU := Aside0.mk hr1; have bd := Aside0.mk hc1; clear hr1 hc1; have HB := aM (Below.refl w.heap.size w); have H : (if (l0.length : Int) = (l1.length : Int) then (laws_eqReportS.l0 k l0 l1 0) else (some false)) = some r := h; clear h; by_cases Y : (l0.length : Int) = (l1.length : Int)
 ·rw [if_pos Y] at H; have aV : ((l0.length : Int) == (l1.length : Int)) = true := beq_iff_eq.mpr Y; have aW : ((l0.length : Int) != (l1.length : Int)) = false := bne_eq_false_iff_eq.mpr Y; have aX : (l0.length == l1.length) = true := by first | simpa using Y | (simp at Y ⊢; omega)
  clear Y; have H' := Aside0.mk H; clear H; go_enter Try.func20, Try.ntmps20; go_wp2; go_loopg [5] k (fun kq v5 w' => ∃ (D : Int), v5 = .int .i64 D ∧ Aside0 (laws_eqReportS.l0 kq l0 l1 D = some r) ∧ Aside0 (kq ≤ k) ∧ Aside0 (Below w.heap.size w w'))
  case atStart => exact ⟨(0), tS, H', ⟨Nat.le_refl _⟩, ⟨tB0⟩⟩
  case round =>
   clear H'; try clear c1
   try clear c2
   try clear p2
   try clear Y
   try clear aV
   try clear aW
   try clear aX
   obtain ⟨D, rfl, HA, aY, HB⟩ := hrel; cases gk with
   | zero => exact absurd HA.out (by simp [laws_eqReportS.l0])
   | succ k1 =>
    have H := HA.out; clear HA; simp only [laws_eqReportS.l0] at H; by_cases c4 : D < (l0.length : Int)
    ·rw [if_pos c4] at H; have ba : decide (D < (l0.length : Int)) = true := decide_eq_true c4; clear c4; by_cases c5 : 0 ≤ D
     ·rw [if_pos c5] at H; have bg : decide (0 ≤ D) = true := decide_eq_true c5; clear c5; by_cases c6 : D < (l1.length : Int)
      ·rw [if_pos c6] at H; have bh : decide (D < (l1.length : Int)) = true := decide_eq_true c6; clear c6; replace H := Option.bind_eq_some_iff.mp H; obtain ⟨bb, aZ, H⟩ := H; have A7 := Aside0.mk aZ; clear aZ; by_cases c8 : bb = true
       ·subst c8; rw [if_pos rfl] at H; have H' := Aside0.mk H; clear H; try go_wp2
        replace HB := dB HB; have au : 0 ≤ (D : Int) := of_decide_eq_true ‹_›; have av : D < (l0.length : Int) := of_decide_eq_true ‹_›; obtain ⟨J, A350_2, c350_2, A350_5, c350_5, aP, aa, ab, ac, ad, ae, af, ag, ah, az, hi350_2, aA, hi350_5⟩ := at_T29 aT.out D au av; have hw350_7 := ah; have hw350_6 := ag; have hw350_5 := af; have hw350_4 := ae; have hw350_3 := ad; have hw350_2 := ac; have hw350_1 := ab; have hw350_0 := aa; cases aP
        replace aa := cB HB aa; replace ab := cB HB ab; replace ac := cB HB ac; replace ad := cB HB ad; replace ae := cB HB ae; replace af := cB HB af; replace ag := cB HB ag; replace ah := cB HB ah; have aC := Aside0.mk hi350_2; have HC350_2 := Aside0.mk az; clear hi350_2 az; have aD := Aside0.mk hi350_5; have HC350_5 := Aside0.mk aA; clear hi350_5 aA; replace au := eq_true au; replace av := eq_true av; have aw : 0 ≤ (D : Int) := of_decide_eq_true ‹_›; have ax : D < (l1.length : Int) := of_decide_eq_true ‹_›; obtain ⟨L, A351_2, c351_2, A351_5, c351_5, aQ, ai, aj, ak, al, am, ao, aq, ar, aE, hi351_2, aG, hi351_5⟩ := at_T29 aU.out D aw ax; have hw351_7 := ar; have hw351_6 := aq; have hw351_5 := ao; have hw351_4 := am; have hw351_3 := al; have hw351_2 := ak; have hw351_1 := aj; have hw351_0 := ai; cases aQ
        replace ai := cB HB ai; replace aj := cB HB aj; replace ak := cB HB ak; replace al := cB HB al; replace am := cB HB am; replace ao := cB HB ao; replace aq := cB HB aq; replace ar := cB HB ar; have aH := Aside0.mk hi351_2; have HC351_2 := Aside0.mk aE; clear hi351_2 aE; have aI := Aside0.mk hi351_5; have HC351_5 := Aside0.mk aG; clear hi351_5 aG; replace aw := eq_true aw; replace ax := eq_true ax; refine start_ (n := 10) (S := fun w' => w'.cell? (J.add ((D).toNat * 8)) = some (.int .i64 ((rd_T29 l0 D).f0)) ∧ w'.cell? ⟨(J.add ((D).toNat * 8)).block, (J.add ((D).toNat * 8)).off + 1, none⟩ = some (.int .i64 ((rd_T29 l0 D).f1)) ∧ w'.cell? ⟨(J.add ((D).toNat * 8)).block, (J.add ((D).toNat * 8)).off + 2, none⟩ = some (.slice A350_2 ((rd_T29 l0 D).f2).length c350_2) ∧ w'.cell? ⟨(J.add ((D).toNat * 8)).block, (J.add ((D).toNat * 8)).off + 3, none⟩ = some (.int .i64 ((rd_T29 l0 D).f3)) ∧ w'.cell? ⟨(J.add ((D).toNat * 8)).block, (J.add ((D).toNat * 8)).off + 4, none⟩ = some (.int .i64 ((rd_T29 l0 D).f4)) ∧ w'.cell? ⟨(J.add ((D).toNat * 8)).block, (J.add ((D).toNat * 8)).off + 5, none⟩ = some (.slice A350_5 ((rd_T29 l0 D).f5).length c350_5) ∧ w'.cell? ⟨(J.add ((D).toNat * 8)).block, (J.add ((D).toNat * 8)).off + 6, none⟩ = some (.int .i64 ((rd_T29 l0 D).f6.f0)) ∧ w'.cell? ⟨(J.add ((D).toNat * 8)).block, (J.add ((D).toNat * 8)).off + 7, none⟩ = some (.int .i64 ((rd_T29 l0 D).f6.f1)) ∧ w'.cell? (L.add ((D).toNat * 8)) = some (.int .i64 ((rd_T29 l1 D).f0)) ∧ w'.cell? ⟨(L.add ((D).toNat * 8)).block, (L.add ((D).toNat * 8)).off + 1, none⟩ = some (.int .i64 ((rd_T29 l1 D).f1)) ∧ w'.cell? ⟨(L.add ((D).toNat * 8)).block, (L.add ((D).toNat * 8)).off + 2, none⟩ = some (.slice A351_2 ((rd_T29 l1 D).f2).length c351_2) ∧ w'.cell? ⟨(L.add ((D).toNat * 8)).block, (L.add ((D).toNat * 8)).off + 3, none⟩ = some (.int .i64 ((rd_T29 l1 D).f3)) ∧ w'.cell? ⟨(L.add ((D).toNat * 8)).block, (L.add ((D).toNat * 8)).off + 4, none⟩ = some (.int .i64 ((rd_T29 l1 D).f4)) ∧ w'.cell? ⟨(L.add ((D).toNat * 8)).block, (L.add ((D).toNat * 8)).off + 5, none⟩ = some (.slice A351_5 ((rd_T29 l1 D).f5).length c351_5) ∧ w'.cell? ⟨(L.add ((D).toNat * 8)).block, (L.add ((D).toNat * 8)).off + 6, none⟩ = some (.int .i64 ((rd_T29 l1 D).f6.f0)) ∧ w'.cell? ⟨(L.add ((D).toNat * 8)).block, (L.add ((D).toNat * 8)).off + 7, none⟩ = some (.int .i64 ((rd_T29 l1 D).f6.f1))) (ds := []) (bR [0,10]) (by kernel_rfl) rfl rfl ⟨(cB HB hw350_0), (cB HB hw350_1), (cB HB hw350_2), (cB HB hw350_3), (cB HB hw350_4), (cB HB hw350_5), (cB HB hw350_6), (cB HB hw350_7), (cB HB hw351_0), (cB HB hw351_1), (cB HB hw351_2), (cB HB hw351_3), (cB HB hw351_4), (cB HB hw351_5), (cB HB hw351_6), (cB HB hw351_7)⟩ (fun hHeld => ?_); refine with_tabW laws_eqReportS.tab6 laws_eqReportS.bits6 (fun HT_ HW_ => ?_); generalize wr.drew = w9 at HB aC aD aH aI aa ab ac ad ae af ag ah ai aj ak al am ao aq ar hHeld ⊢; refine pp 0 17 (bR [1,9]) ?_; refine pp 1 18 (bR [2,8]) ?_; refine pp 2 19 (bR [3,7]) ?_; refine pp 4 21 (bR [3,1,1,5]) ?_; refine pp 5 22 (bR [3,1,2,4]) ?_; refine pp 6 23 (bR [3,1,3,3]) ?_; refine tk 3 20 (bR [7,3]) hHeld ?_; refine tk 7 24 (bR [8,2]) hHeld ?_; refine on 8 25 (bR [9,1]) (fun K hK => ?_); refine gz Try.func21 #[.agg #[.int .i64 ((rd_T29 l0 D).f0), .int .i64 ((rd_T29 l0 D).f1), .slice A350_2 ((rd_T29 l0 D).f2).length c350_2, .int .i64 ((rd_T29 l0 D).f3), .int .i64 ((rd_T29 l0 D).f4), .slice A350_5 ((rd_T29 l0 D).f5).length c350_5, .int .i64 ((rd_T29 l0 D).f6.f0), .int .i64 ((rd_T29 l0 D).f6.f1)], .agg #[.int .i64 ((rd_T29 l1 D).f0), .int .i64 ((rd_T29 l1 D).f1), .slice A351_2 ((rd_T29 l1 D).f2).length c351_2, .int .i64 ((rd_T29 l1 D).f3), .int .i64 ((rd_T29 l1 D).f4), .slice A351_5 ((rd_T29 l1 D).f5).length c351_5, .int .i64 ((rd_T29 l1 D).f6.f0), .int .i64 ((rd_T29 l1 D).f6.f1)]] ?_; (with_reducible refine (laws_eqReport.calls k1 ((rd_T29 l0 D).f0) ((rd_T29 l0 D).f1) _ _ ((rd_T29 l0 D).f2) ((rd_T29 l0 D).f3) ((rd_T29 l0 D).f4) _ _ ((rd_T29 l0 D).f5) ((rd_T29 l0 D).f6.f0) ((rd_T29 l0 D).f6.f1) ((rd_T29 l1 D).f0) ((rd_T29 l1 D).f1) _ _ ((rd_T29 l1 D).f2) ((rd_T29 l1 D).f3) ((rd_T29 l1 D).f4) _ _ ((rd_T29 l1 D).f5) ((rd_T29 l1 D).f6.f0) ((rd_T29 l1 D).f6.f1) true _ ?side1 ?side2 ?side3 ?side4 ?side5 ?side6 ?side7 ?side8 A7.out).mono ?_); (case side1 => exact qC (Kd.C_below aC.out HB.out)); (case side2 => exact HC350_2.out); (case side3 => exact qC (Kd.C_below aD.out HB.out)); (case side4 => exact HC350_5.out); (case side5 => exact qC (Kd.C_below aH.out HB.out)); (case side6 => exact HC351_2.out); (case side7 => exact qC (Kd.C_below aI.out HB.out)); (case side8 => exact HC351_5.out); rintro e bj ⟨rfl, hb⟩; refine ⟨_, rfl, ?_⟩; replace HB := aM (below_step (qB HB) hb); (try clear hb); (try clear hb2); (try clear hk); (try clear hi); refine hK.out _ _ ⟨(cB HB hw350_0), (cB HB hw350_1), (cB HB hw350_2), (cB HB hw350_3), (cB HB hw350_4), (cB HB hw350_5), (cB HB hw350_6), (cB HB hw350_7), (cB HB hw351_0), (cB HB hw351_1), (cB HB hw351_2), (cB HB hw351_3), (cB HB hw351_4), (cB HB hw351_5), (cB HB hw351_6), (cB HB hw351_7)⟩ (fun hHeld => ?_); clear hK K; refine nm 25 ?_; refine pp 9 26 (bR [10]) ?_; refine done_ (done_of HT_.out (by kernel_rfl)) ?_; try go_wp2
        go_roundg k1
        case measure => have := aY.out; omega
        case rel => exact ⟨(wrap64 (D + 1)), tS, H', ⟨by have := aY.out; omega⟩, ⟨tB0⟩⟩
       ·replace c8 := Bool.eq_false_iff.mpr c8; subst c8; rw [if_neg ff_] at H; obtain rfl := Option.some.inj H; try go_wp2
        replace HB := dB HB; have au : 0 ≤ (D : Int) := of_decide_eq_true ‹_›; have av : D < (l0.length : Int) := of_decide_eq_true ‹_›; obtain ⟨J, A350_2, c350_2, A350_5, c350_5, aP, aa, ab, ac, ad, ae, af, ag, ah, az, hi350_2, aA, hi350_5⟩ := at_T29 aT.out D au av; have hw350_7 := ah; have hw350_6 := ag; have hw350_5 := af; have hw350_4 := ae; have hw350_3 := ad; have hw350_2 := ac; have hw350_1 := ab; have hw350_0 := aa; cases aP
        replace aa := cB HB aa; replace ab := cB HB ab; replace ac := cB HB ac; replace ad := cB HB ad; replace ae := cB HB ae; replace af := cB HB af; replace ag := cB HB ag; replace ah := cB HB ah; have aC := Aside0.mk hi350_2; have HC350_2 := Aside0.mk az; clear hi350_2 az; have aD := Aside0.mk hi350_5; have HC350_5 := Aside0.mk aA; clear hi350_5 aA; replace au := eq_true au; replace av := eq_true av; have aw : 0 ≤ (D : Int) := of_decide_eq_true ‹_›; have ax : D < (l1.length : Int) := of_decide_eq_true ‹_›; obtain ⟨L, A351_2, c351_2, A351_5, c351_5, aQ, ai, aj, ak, al, am, ao, aq, ar, aE, hi351_2, aG, hi351_5⟩ := at_T29 aU.out D aw ax; have hw351_7 := ar; have hw351_6 := aq; have hw351_5 := ao; have hw351_4 := am; have hw351_3 := al; have hw351_2 := ak; have hw351_1 := aj; have hw351_0 := ai; cases aQ
        replace ai := cB HB ai; replace aj := cB HB aj; replace ak := cB HB ak; replace al := cB HB al; replace am := cB HB am; replace ao := cB HB ao; replace aq := cB HB aq; replace ar := cB HB ar; have aH := Aside0.mk hi351_2; have HC351_2 := Aside0.mk aE; clear hi351_2 aE; have aI := Aside0.mk hi351_5; have HC351_5 := Aside0.mk aG; clear hi351_5 aG; replace aw := eq_true aw; replace ax := eq_true ax; refine start_ (n := 10) (S := fun w' => w'.cell? (J.add ((D).toNat * 8)) = some (.int .i64 ((rd_T29 l0 D).f0)) ∧ w'.cell? ⟨(J.add ((D).toNat * 8)).block, (J.add ((D).toNat * 8)).off + 1, none⟩ = some (.int .i64 ((rd_T29 l0 D).f1)) ∧ w'.cell? ⟨(J.add ((D).toNat * 8)).block, (J.add ((D).toNat * 8)).off + 2, none⟩ = some (.slice A350_2 ((rd_T29 l0 D).f2).length c350_2) ∧ w'.cell? ⟨(J.add ((D).toNat * 8)).block, (J.add ((D).toNat * 8)).off + 3, none⟩ = some (.int .i64 ((rd_T29 l0 D).f3)) ∧ w'.cell? ⟨(J.add ((D).toNat * 8)).block, (J.add ((D).toNat * 8)).off + 4, none⟩ = some (.int .i64 ((rd_T29 l0 D).f4)) ∧ w'.cell? ⟨(J.add ((D).toNat * 8)).block, (J.add ((D).toNat * 8)).off + 5, none⟩ = some (.slice A350_5 ((rd_T29 l0 D).f5).length c350_5) ∧ w'.cell? ⟨(J.add ((D).toNat * 8)).block, (J.add ((D).toNat * 8)).off + 6, none⟩ = some (.int .i64 ((rd_T29 l0 D).f6.f0)) ∧ w'.cell? ⟨(J.add ((D).toNat * 8)).block, (J.add ((D).toNat * 8)).off + 7, none⟩ = some (.int .i64 ((rd_T29 l0 D).f6.f1)) ∧ w'.cell? (L.add ((D).toNat * 8)) = some (.int .i64 ((rd_T29 l1 D).f0)) ∧ w'.cell? ⟨(L.add ((D).toNat * 8)).block, (L.add ((D).toNat * 8)).off + 1, none⟩ = some (.int .i64 ((rd_T29 l1 D).f1)) ∧ w'.cell? ⟨(L.add ((D).toNat * 8)).block, (L.add ((D).toNat * 8)).off + 2, none⟩ = some (.slice A351_2 ((rd_T29 l1 D).f2).length c351_2) ∧ w'.cell? ⟨(L.add ((D).toNat * 8)).block, (L.add ((D).toNat * 8)).off + 3, none⟩ = some (.int .i64 ((rd_T29 l1 D).f3)) ∧ w'.cell? ⟨(L.add ((D).toNat * 8)).block, (L.add ((D).toNat * 8)).off + 4, none⟩ = some (.int .i64 ((rd_T29 l1 D).f4)) ∧ w'.cell? ⟨(L.add ((D).toNat * 8)).block, (L.add ((D).toNat * 8)).off + 5, none⟩ = some (.slice A351_5 ((rd_T29 l1 D).f5).length c351_5) ∧ w'.cell? ⟨(L.add ((D).toNat * 8)).block, (L.add ((D).toNat * 8)).off + 6, none⟩ = some (.int .i64 ((rd_T29 l1 D).f6.f0)) ∧ w'.cell? ⟨(L.add ((D).toNat * 8)).block, (L.add ((D).toNat * 8)).off + 7, none⟩ = some (.int .i64 ((rd_T29 l1 D).f6.f1))) (ds := []) (bR [0,10]) (by kernel_rfl) rfl rfl ⟨(cB HB hw350_0), (cB HB hw350_1), (cB HB hw350_2), (cB HB hw350_3), (cB HB hw350_4), (cB HB hw350_5), (cB HB hw350_6), (cB HB hw350_7), (cB HB hw351_0), (cB HB hw351_1), (cB HB hw351_2), (cB HB hw351_3), (cB HB hw351_4), (cB HB hw351_5), (cB HB hw351_6), (cB HB hw351_7)⟩ (fun hHeld => ?_); refine with_tabW laws_eqReportS.tab6 laws_eqReportS.bits6 (fun HT_ HW_ => ?_); generalize wr.drew = bk at HB aC aD aH aI aa ab ac ad ae af ag ah ai aj ak al am ao aq ar hHeld ⊢; refine pp 0 17 (bR [1,9]) ?_; refine pp 1 18 (bR [2,8]) ?_; refine pp 2 19 (bR [3,7]) ?_; refine pp 4 21 (bR [3,1,1,5]) ?_; refine pp 5 22 (bR [3,1,2,4]) ?_; refine pp 6 23 (bR [3,1,3,3]) ?_; refine tk 3 20 (bR [7,3]) hHeld ?_; refine tk 7 24 (bR [8,2]) hHeld ?_; refine on 8 25 (bR [9,1]) (fun K hK => ?_); refine gz Try.func21 #[.agg #[.int .i64 ((rd_T29 l0 D).f0), .int .i64 ((rd_T29 l0 D).f1), .slice A350_2 ((rd_T29 l0 D).f2).length c350_2, .int .i64 ((rd_T29 l0 D).f3), .int .i64 ((rd_T29 l0 D).f4), .slice A350_5 ((rd_T29 l0 D).f5).length c350_5, .int .i64 ((rd_T29 l0 D).f6.f0), .int .i64 ((rd_T29 l0 D).f6.f1)], .agg #[.int .i64 ((rd_T29 l1 D).f0), .int .i64 ((rd_T29 l1 D).f1), .slice A351_2 ((rd_T29 l1 D).f2).length c351_2, .int .i64 ((rd_T29 l1 D).f3), .int .i64 ((rd_T29 l1 D).f4), .slice A351_5 ((rd_T29 l1 D).f5).length c351_5, .int .i64 ((rd_T29 l1 D).f6.f0), .int .i64 ((rd_T29 l1 D).f6.f1)]] ?_; (with_reducible refine (laws_eqReport.calls k1 ((rd_T29 l0 D).f0) ((rd_T29 l0 D).f1) _ _ ((rd_T29 l0 D).f2) ((rd_T29 l0 D).f3) ((rd_T29 l0 D).f4) _ _ ((rd_T29 l0 D).f5) ((rd_T29 l0 D).f6.f0) ((rd_T29 l0 D).f6.f1) ((rd_T29 l1 D).f0) ((rd_T29 l1 D).f1) _ _ ((rd_T29 l1 D).f2) ((rd_T29 l1 D).f3) ((rd_T29 l1 D).f4) _ _ ((rd_T29 l1 D).f5) ((rd_T29 l1 D).f6.f0) ((rd_T29 l1 D).f6.f1) false _ ?side1 ?side2 ?side3 ?side4 ?side5 ?side6 ?side7 ?side8 A7.out).mono ?_); (case side1 => exact qC (Kd.C_below aC.out HB.out)); (case side2 => exact HC350_2.out); (case side3 => exact qC (Kd.C_below aD.out HB.out)); (case side4 => exact HC350_5.out); (case side5 => exact qC (Kd.C_below aH.out HB.out)); (case side6 => exact HC351_2.out); (case side7 => exact qC (Kd.C_below aI.out HB.out)); (case side8 => exact HC351_5.out); rintro e bl ⟨rfl, hb⟩; refine ⟨_, rfl, ?_⟩; replace HB := aM (below_step (qB HB) hb); (try clear hb); (try clear hb2); (try clear hk); (try clear hi); refine hK.out _ _ ⟨(cB HB hw350_0), (cB HB hw350_1), (cB HB hw350_2), (cB HB hw350_3), (cB HB hw350_4), (cB HB hw350_5), (cB HB hw350_6), (cB HB hw350_7), (cB HB hw351_0), (cB HB hw351_1), (cB HB hw351_2), (cB HB hw351_3), (cB HB hw351_4), (cB HB hw351_5), (cB HB hw351_6), (cB HB hw351_7)⟩ (fun hHeld => ?_); clear hK K; refine nm 25 ?_; refine pp 9 26 (bR [10]) ?_; refine done_ (done_of HT_.out (by kernel_rfl)) ?_; try go_wp2
        go_ret; exact ⟨tE, tB0⟩
      ·rw [if_neg c6] at H; exact absurd H (by simp)
     ·rw [if_neg c5] at H; exact absurd H (by simp)
    ·rw [if_neg c4] at H; have ba : decide (D < (l0.length : Int)) = false := decide_eq_false c4; clear c4; obtain rfl := Option.some.inj H; go_wp2; go_ret; exact ⟨tE, tB0⟩
 ·rw [if_neg Y] at H; have aV : ((l0.length : Int) == (l1.length : Int)) = false := beq_eq_false_iff_ne.mpr Y; have aW : ((l0.length : Int) != (l1.length : Int)) = true := bne_iff_ne.mpr Y; have aX : (l0.length == l1.length) = false := by first | simpa using Y | (simp at Y ⊢; omega)
  obtain rfl := Option.some.inj H; go_enter Try.func20, Try.ntmps20; go_wp2; go_ret; exact ⟨tE, tB0⟩

/-! ### laws_markIntS: function 47 -/
def laws_markIntS.l0 : Nat → List Int → Int → Int → Option (Int × List Int)
 | 0, _, _, _ => none
 | k + 1, x0, x1, x5 => if x5 < (x0.length : Int) then (if 0 ≤ x5 then (laws_markIntS.l0 k (x0.set (x5 : Int).toNat x1) (wrap64 (x1 + 1)) (wrap64 (x5 + 1))) else (none)) else (some (x1, x0))
def laws_markIntS.f (k : Nat) (l0 : List Int) (a1 : Int) : Option (Int × List Int) := laws_markIntS.l0 k l0 a1 0
theorem laws_markIntS.mono_l : ∀ k, (∀ y0 y1 y2, LeO (laws_markIntS.l0 k y0 y1 y2) (laws_markIntS.l0 (k + 1) y0 y1 y2))
 | 0 => fun _ _ _ r h => by simp [laws_markIntS.l0] at h
 | k + 1 => by
  have ih0 := laws_markIntS.mono_l k
  ·intro y0 y1 y2; unfold laws_markIntS.l0
   repeat' first
   | (with_reducible exact ih0 _ _ _)
   | (with_reducible exact LeO.refl _)
   | (with_reducible exact LeO.none _)
   | (with_reducible refine LeO.ite ?_ ?_)
   | (with_reducible refine LeO.bind ?_ (fun _ => ?_))
   | exact ih0 _ _ _
   | exact LeO.none _
   | refine LeO.ite ?_ ?_
   | refine LeO.bind ?_ (fun _ => ?_)
theorem laws_markIntS.mono : ∀ a0 a1 k, LeO (laws_markIntS.f k a0 a1) (laws_markIntS.f (k + 1) a0 a1) := by
 intro a0 a1 k; have ih0 := laws_markIntS.mono_l k; unfold laws_markIntS.f
 repeat' first
   | (with_reducible exact ih0 _ _ _)
   | (with_reducible exact LeO.refl _)
   | (with_reducible exact LeO.none _)
   | (with_reducible refine LeO.ite ?_ ?_)
   | (with_reducible refine LeO.bind ?_ (fun _ => ?_))
   | exact ih0 _ _ _
   | exact LeO.none _
   | refine LeO.ite ?_ ?_
   | refine LeO.bind ?_ (fun _ => ?_)
set_option maxHeartbeats 8000000 in
set_option maxRecDepth 100000 in
theorem laws_markIntS.calls (k : Nat) (P0_ : Nat → Prop) (u9000_ : Value) (l0 : List Int) (a1 : Int) (r1 : Int) (r2 : List Int) (w0 w : World) (hB : Below w0.heap.size w0 w) (ho0 : Kd.R (Kd.int .i64) 3 w w0.heap.size P0_ u9000_ l0) (h : laws_markIntS.f k l0 a1 = some (r1, r2)) :
  Calls Try.prog 47 #[u9000_, .int .i64 a1] w fun e w' => e = .returned (.int .i64 r1) ∧ Kd.R (Kd.int .i64) 3 w' w0.heap.size (fun k_ => (P0_ k_ ∨ w.heap.size ≤ k_)) u9000_ r2 ∧ Below w0.heap.size w0 w' ∧ Kept w w' (fun k_ => P0_ k_) := by
 have ai := aM (show Kd.R (Kd.int .i64) 3 w w0.heap.size (fun k_ => (P0_ k_ ∨ w.heap.size ≤ k_)) u9000_ l0 from Kd.R_mono ho0 (fun k_ hk => (.inl hk))); have HK := aM (Kept.refl w (fun k_ => P0_ k_)); have au := Aside0.mk hB.size; have HB := Aside0.mk hB; clear hB; have H : (laws_markIntS.l0 k l0 a1 0) = some (r1, r2) := h; clear h; have H' := Aside0.mk H; clear H; go_enter Try.func47, Try.ntmps47; go_wp2; go_loopg [1, 5] k (fun kq v1 v5 w' => ∃ (L : List Int) (Y : Int) (D : Int), v1 = .int .i64 Y ∧ v5 = .int .i64 D ∧ Aside0 (laws_markIntS.l0 kq L Y D = some (r1, r2)) ∧ Aside0 (kq ≤ k) ∧ Aside0 (Kd.R (Kd.int .i64) 3 w' w0.heap.size (fun k_ => (P0_ k_ ∨ w.heap.size ≤ k_)) u9000_ L) ∧ Aside0 (Kept w w' (fun k_ => P0_ k_)) ∧ Aside0 (Below w0.heap.size w0 w'))
 case atStart => exact ⟨(l0), (a1), (0), tS, tS, H', ⟨Nat.le_refl _⟩, ⟨tR ai⟩, ⟨by repeat (first | (with_reducible first | exact HK.out | apply Kept.alloc | apply Kept.drewN | apply Kept.drew) | exact HK.out)⟩, ⟨tB0⟩⟩
 case round =>
  clear H'; try clear p2
  obtain ⟨L, Y, D, rfl, rfl, HA, ae, J, HK, HB⟩ := hrel; cases gk with
  | zero => exact absurd HA.out (by simp [laws_markIntS.l0])
  | succ k1 =>
   have H := HA.out; clear HA; simp only [laws_markIntS.l0] at H; by_cases c3 : D < (L.length : Int)
   ·rw [if_pos c3] at H; have al : decide (D < (L.length : Int)) = true := decide_eq_true c3; clear c3; by_cases c4 : 0 ≤ D
    ·rw [if_pos c4] at H; have av : decide (0 ≤ D) = true := decide_eq_true c4; clear c4; obtain ⟨af, ac⟩ : ∃ y_ : List Int, y_ = (L.set (D : Int).toNat Y) := ⟨_, rfl⟩
     (first | replace H := bY H ac | rw [← ac] at H | skip); have am := Aside0.mk ac; clear ac; have H' := Aside0.mk H; clear H; obtain ⟨aw, ao, aq⟩ := Kd.R_slice J.out; subst aq; have p5 : 0 ≤ (D : Int) := of_decide_eq_true ‹_›; have q5 : (D : Int) < ((L.length : Int) : Int) := of_decide_eq_true ‹_›; obtain ⟨go5, ax, ag, ah, gl5, cl5, HG5⟩ := Kd.R_form J.out (by omega); (first | cases ag | (injection ag with ea_ en_ ec_; (first | subst ea_ | (injection ea_ with ea_; subst ea_)); subst ec_; clear en_)); have GB5 := Aside0.mk ah; have GG5 := Aside0.mk HG5; clear ah gl5 HG5; have HMgo5 := aM (show (P0_ go5 ∨ w.heap.size ≤ go5) from (J.out.1 _ rfl)); obtain ⟨ay, hf5_0⟩ := Kd.R_celln 0 J.out (D : Int) p5 q5; replace p5 := eq_true p5; replace q5 := eq_true q5; have HP7 := Kd.R_putg J.out (D : Int) Y; go_wp2_with (first | ((with_reducible refine gate_store (t := 3) (p := 15) rfl ?_); refine store_event (t := 3) (p := 15) (v := ?vo_w8) (w1 := (wr.setCell ⟨go5, (D : Int).toNat, none⟩ (.int .i64 Y))) ?hg ?ho ?hn ?hr ?_; (case ho => rfl); (case hg => rfl); (case hn => rfl); (case hr => first | (go_simp; done) | (go_simp; rfl)); intro w8 hw; have hg : wr.grownBy w8 (some go5) := (by rw [hw]; exact HP7.2); have hp_ : Kd.R (Kd.int .i64) 3 w8 w0.heap.size (fun k_ => (P0_ k_ ∨ w.heap.size ≤ k_)) (.slice (some ⟨go5, 0, none⟩) L.length ao) af := (by rw [hw, am.out]; exact HP7.1); clear HP7; replace HB := aM ((by rw [hw]; exact below_set (HB.out) GB5.out : Below w0.heap.size w0 w8)); replace HK := aM (Kept.of_grown (S := (fun k_ => P0_ k_)) hg (by repeat (first | (with_reducible first | exact HK.out | apply Kept.alloc | apply Kept.drewN | apply Kept.drew) | exact HK.out)) (fun k_ e_ => (J.out.1 k_ e_))); replace J := aM hp_; clear hg hw hp_)); go_roundg k1
     case measure => have := ae.out; omega
     case rel => exact ⟨(af), (wrap64 (Y + 1)), (wrap64 (D + 1)), tS, tS, H', ⟨by have := ae.out; omega⟩, ⟨tR J⟩, ⟨by repeat (first | (with_reducible first | exact HK.out | apply Kept.alloc | apply Kept.drewN | apply Kept.drew) | exact HK.out)⟩, ⟨tB0⟩⟩
    ·rw [if_neg c4] at H; exact absurd H (by simp)
   ·rw [if_neg c3] at H; have al : decide (D < (L.length : Int)) = false := decide_eq_false c3; clear c3; simp only [Option.some.injEq, Prod.mk.injEq] at H; obtain ⟨rfl, rfl⟩ := H; obtain ⟨aA, aC, ar⟩ := Kd.R_slice J.out; subst ar; go_wp2; go_ret; exact ⟨tE, tR J, tB0, by repeat (first | (with_reducible first | exact HK.out | apply Kept.alloc | apply Kept.drewN | apply Kept.drew) | exact HK.out)⟩

/-! ### laws.markReportS: function 22 -/
/-- Only blocks of S are written; a number stays a number there, and a row stays where it was. -/
structure Eff (S : Nat → Prop) (w w' : World) : Prop where
 os : w'.os = w.os
 tape : w'.tape = w.tape
 output : w'.output = w.output
 size : w.heap.size ≤ w'.heap.size
 kept : ∀ i, i < w.heap.size → ¬ S i → w'.heap[i]? = w.heap[i]?
 ints : ∀ p, (∃ x, w.cell? p = some (.int .i64 x)) → ∃ x, w'.cell? p = some (.int .i64 x)
 rows : ∀ p A n c, w.cell? p = some (.slice A n c) → w'.cell? p = some (.slice A n c)
 frozen : ∀ p, w'.frozen? p = w.frozen? p
theorem Eff.refl (S : Nat → Prop) (w : World) : Eff S w w := ⟨rfl, rfl, rfl, Nat.le_refl _, fun _ _ _ => rfl, fun _ h => h, fun _ _ _ _ h => h, fun _ => rfl⟩
theorem Eff.trans {S : Nat → Prop} {w w1 w2 : World} (h : Eff S w w1) (g : Eff S w1 w2) : Eff S w w2 :=
 ⟨g.os.trans h.os, g.tape.trans h.tape, g.output.trans h.output, Nat.le_trans h.size g.size, fun i hi hn => (g.kept i (Nat.lt_of_lt_of_le hi h.size) hn).trans (h.kept i hi hn), fun p hp => g.ints p (h.ints p hp), fun p A n c hp => g.rows p A n c (h.rows p A n c hp), fun p => (g.frozen p).trans (h.frozen p)⟩
theorem Eff.drew {S : Nat → Prop} {w w1 : World} (h : Eff S w w1) : Eff S w w1.drew := ⟨h.os, h.tape, h.output, h.size, h.kept, h.ints, h.rows, h.frozen⟩
theorem Eff.drewN {S : Nat → Prop} {w w1 : World} (h : Eff S w w1) (m : Nat) : Eff S w (w1.drewN m) := ⟨h.os, h.tape, h.output, h.size, h.kept, h.ints, h.rows, h.frozen⟩
theorem Eff.set {S : Nat → Prop} {w w1 : World} (h : Eff S w w1) {p : Addr} (hs : S p.block) (hx : ∃ x, w1.cell? p = some (.int .i64 x)) (y : Int) : Eff S w (w1.setCell p (.int .i64 y)) := by
 obtain ⟨x, hx⟩ := hx; refine h.trans ⟨rfl, rfl, rfl, by simp [World.setCell], fun i _ hn => Below.heap_setCell w1 p _ i (fun e => hn (e ▸ hs)), fun q hq => ?_, fun q A n c hq => ?_, fun q => World.frozen?_setCell ..⟩
 ·by_cases e : p = q
  ·subst e; exact ⟨y, World.cell?_setCell_same (h := hx) ..⟩
  ·rw [World.cell?_setCell_other (h := e)]; exact hq
 ·by_cases e : p = q
  ·subst e; rw [hx] at hq; cases hq
  ·rw [World.cell?_setCell_other (h := e)]; exact hq
/-- A row of numbers in blocks of S. -/
def RowS (S : Nat → Prop) (w : World) (A : Option Addr) (n : Nat) : Prop := 0 < n → ∃ g, A = some ⟨g, 0, none⟩ ∧ S g ∧ ∀ i : Nat, i < n → (∃ x, w.cell? ⟨g, i, none⟩ = some (.int .i64 x)) ∧ w.frozen? ⟨g, i, none⟩ = false
theorem RowS.eff {S : Nat → Prop} {w w1 : World} {A : Option Addr} {n : Nat} (h : RowS S w A n) (e : Eff S w w1) : RowS S w1 A n := fun hn => by
 obtain ⟨g, h1, h2, h3⟩ := h hn; exact ⟨g, h1, h2, fun i hi => ⟨e.ints _ (h3 i hi).1, (e.frozen _).trans (h3 i hi).2⟩⟩
theorem RowS.of {S : Nat → Prop} {w : World} {base : Nat} {ok : Nat → Prop} {A : Option Addr} {n c : Nat} {l : List Int} (h : (Kd.int .i64).R 3 w base ok (.slice A n c) l) (hs : ∀ k, ok k → S k) : RowS S w A n := fun hn => by
 have hl := (Kd.R_reads' h).1; obtain ⟨g, cap, e, _⟩ := Kd.R_form h (by omega); injection e with e1 e2 e3
 subst e1; refine ⟨g, rfl, hs _ (h.1 _ rfl), fun i hi => ?_⟩; obtain ⟨h1, h2⟩ := Kd.R_celln 0 h (i : Int) (by omega) (by omega); rw [Int.toNat_natCast] at h1 h2; exact ⟨⟨_, h1⟩, h2⟩
/-- One element: its numbers, and its two rows. -/
structure EltS (S : Nat → Prop) (w : World) (g i n2 n5 : Nat) : Prop where
 c0 : ∃ x, w.cell? ⟨g, i * 8, none⟩ = some (.int .i64 x)
 c1 : ∃ x, w.cell? ⟨g, i * 8 + 1, none⟩ = some (.int .i64 x)
 c3 : ∃ x, w.cell? ⟨g, i * 8 + 3, none⟩ = some (.int .i64 x)
 c4 : ∃ x, w.cell? ⟨g, i * 8 + 4, none⟩ = some (.int .i64 x)
 c6 : ∃ x, w.cell? ⟨g, i * 8 + 6, none⟩ = some (.int .i64 x)
 c7 : ∃ x, w.cell? ⟨g, i * 8 + 7, none⟩ = some (.int .i64 x)
 r2 : ∃ A c, w.cell? ⟨g, i * 8 + 2, none⟩ = some (.slice A n2 c) ∧ n2 ≤ c ∧ RowS S w A n2
 r5 : ∃ A c, w.cell? ⟨g, i * 8 + 5, none⟩ = some (.slice A n5 c) ∧ n5 ≤ c ∧ RowS S w A n5
 fr : ∀ j, w.frozen? ⟨g, i * 8 + j, none⟩ = false
theorem EltS.eff {S : Nat → Prop} {w w1 : World} {g i n2 n5 : Nat} (h : EltS S w g i n2 n5) (e : Eff S w w1) : EltS S w1 g i n2 n5 := by
 obtain ⟨A, c, h1, h2, h3⟩ := h.r2; obtain ⟨A', c', h4, h5, h6⟩ := h.r5; exact ⟨e.ints _ h.c0, e.ints _ h.c1, e.ints _ h.c3, e.ints _ h.c4, e.ints _ h.c6, e.ints _ h.c7, ⟨A, c, e.rows _ _ _ _ h1, h2, h3.eff e⟩, ⟨A', c', e.rows _ _ _ _ h4, h5, h6.eff e⟩, fun j => (e.frozen _).trans (h.fr j)⟩
theorem EltS.of {S : Nat → Prop} {w : World} {base : Nat} {ok : Nat → Prop} {g n c : Nat} {l : List S29} (h : Kd.R k29 29 w base ok (.slice (some ⟨g, 0, none⟩) n c) l) (hs : ∀ k, ok k → S k) (i : Nat) (hi : i < n) : EltS S w g i (rd_T29 l (i : Int)).f2.length (rd_T29 l (i : Int)).f5.length := by
 obtain ⟨cs, _, hM, hc, hf⟩ := Kd.R_elem h z29 (i : Int) (by omega) (by omega); obtain ⟨v2, v5, rfl, h2, h5⟩ := k29_openM hM; rw [Int.toNat_natCast] at hc hf; obtain ⟨A2, c2, rfl⟩ := Kd.R_slice h2; obtain ⟨A5, c5, rfl⟩ := Kd.R_slice h5; exact ⟨⟨_, hc 0 _ rfl⟩, ⟨_, hc 1 _ rfl⟩, ⟨_, hc 3 _ rfl⟩, ⟨_, hc 4 _ rfl⟩, ⟨_, hc 6 _ rfl⟩, ⟨_, hc 7 _ rfl⟩, ⟨A2, c2, hc 2 _ rfl, (Kd.R_reads' h2).2.1, RowS.of h2 (fun k hk => hs k hk.1)⟩, ⟨A5, c5, hc 5 _ rfl, (Kd.R_reads' h5).2.1, RowS.of h5 (fun k hk => hs k hk.1)⟩, hf⟩
set_option maxHeartbeats 2000000 in
set_option maxRecDepth 100000 in
/-- laws.markIntS over a row of S. -/
theorem markInt_eff (S : Nat → Prop) (A : Option Addr) (n c : Nat) (k r : Int) (w : World) (hr : RowS S w A n) (hc : n ≤ c) (hk : 0 ≤ k ∧ k + (n : Int) ≤ 1000000000000 ∧ r = k + (n : Int)) :
 Calls Try.prog 47 #[.slice A n c, .int .i64 k] w fun e w' => e = .returned (.int .i64 r) ∧ Eff S w w' := by
 have HR := Aside0.mk hr; have HK := Aside0.mk hk; have HC := Aside0.mk hc; have HE := aM (Eff.refl S w); clear hr hk hc; go_enter Try.func47, Try.ntmps47; go_wp2; go_loopg [1, 5] (n + 1) (fun gg v1 v5 wr => ∃ i : Nat, v1 = .int .i64 (k + (i : Int)) ∧ v5 = .int .i64 (i : Int) ∧ Aside0 (i ≤ n ∧ gg + i = n + 1) ∧ Aside0 (Eff S w wr))
 case atStart => exact ⟨0, by simp, rfl, ⟨Nat.zero_le _, rfl⟩, HE⟩
 case round =>
  obtain ⟨i, rfl, rfl, HI, HE⟩ := hrel; by_cases hlt : (i : Int) < (n : Int)
  ·have hlt2 : i < n := by omega
   obtain ⟨g, rfl, hs, hrow⟩ := HR.out (by omega); have HS := Aside0.mk hs; have hx := HE.out.ints _ (hrow i hlt2).1; have HX := Aside0.mk hx; obtain ⟨x, hx⟩ := hx; have hf : World.frozen? _ ⟨g, i, none⟩ = false := (HE.out.frozen _).trans (hrow i hlt2).2; have hw1 : wrap64 (k + (i : Int) + 1) = k + ((i + 1 : Nat) : Int) := by have := HK.out; unfold wrap64; omega
   have hw2 : wrap64 ((i : Int) + 1) = ((i + 1 : Nat) : Int) := by have := HK.out; unfold wrap64; omega
   have hd : decide ((i : Int) < (n : Int)) = true := decide_eq_true hlt; have hd2 : (i < n) = True := eq_true hlt2; have HL := Aside0.mk hlt2; have p5 : (0 ≤ (i : Int)) = True := eq_true (by omega); have q5 : ((i : Int) < (n : Int)) = True := eq_true hlt; clear hs hrow hlt hlt2; go_wp2; go_roundg (n - i)
   case measure => have := HI.out; have := HL.out; omega
   case rel => exact ⟨i + 1, by first | rfl | (simp; done) | (simp [*]; done), by first | rfl | (simp; done) | (simp [*]; done), ⟨by have := HI.out; have := HL.out; omega⟩, ⟨HE.out.set HS.out HX.out _⟩⟩
  ·have hd : decide ((i : Int) < (n : Int)) = false := decide_eq_false hlt; have hd2 : (i < n) = False := eq_false (by omega); have HL := Aside0.mk hlt; clear hlt; have HQ := aM (show k + (i : Int) = r by have := HI.out; have := HK.out; have := HL.out; omega); go_wp2; go_ret; exact ⟨by rw [HQ.out]; rfl, HE.out⟩
theorem Eff.set2 {S : Nat → Prop} {w w1 : World} (h : Eff S w w1) {p : Addr} (hs : S p.block) (hx : ∃ x, w.cell? p = some (.int .i64 x)) (y : Int) : Eff S w (w1.setCell p (.int .i64 y)) := h.set hs (h.ints p hx) y
theorem wrap64_in (x : Int) (h0 : -9223372036854775808 ≤ x) (h1 : x ≤ 9223372036854775807) : wrap64 x = x := by unfold wrap64; omega
def mkLen : List S29 → Int
 | [] => 0
 | y :: r => 6 + (y.f2.length : Int) + (y.f5.length : Int) + mkLen r
theorem mkLen_nn : ∀ l : List S29, 0 ≤ mkLen l
 | [] => Int.le_refl _
 | y :: r => by
  have := mkLen_nn r; rw [mkLen]; omega
theorem mkLen_app : ∀ a b : List S29, mkLen (a ++ b) = mkLen a + mkLen b
 | [], b => by rw [List.nil_append, mkLen, Int.zero_add]
 | y :: r, b => by
  have := mkLen_app r b; rw [List.cons_append, mkLen, mkLen, this]; omega
theorem mkLen_step (l : List S29) (i : Nat) (hi : i < l.length) : mkLen (l.take (i + 1)) = mkLen (l.take i) + 6 + ((rd_T29 l (i : Int)).f2.length : Int) + ((rd_T29 l (i : Int)).f5.length : Int) := by
 have e : rd_T29 l (i : Int) = l[i] := by simp [rd_T29, hi]
 rw [List.take_succ_eq_append_getElem hi, mkLen_app, e, mkLen, mkLen]; omega
theorem mkLen_le (l : List S29) (i : Nat) : mkLen (l.take i) ≤ mkLen l := by
 have h := mkLen_app (l.take i) (l.drop i); rw [List.take_append_drop] at h; have := mkLen_nn (l.drop i); omega
def laws_markReportS.f (l0 : List S29) (a1 : Int) : Option Int := if 0 ≤ a1 ∧ a1 + mkLen l0 ≤ 1000000000000 then some (a1 + mkLen l0) else none
set_option maxHeartbeats 8000000 in
set_option maxRecDepth 100000 in
theorem laws_markReportS.eff (S : Nat → Prop) (A0 : Option Addr) (c0 : Nat) (l0 : List S29) (a1 r : Int) (w : World) (hA : ∀ i : Nat, i < l0.length → ∃ g, A0 = some ⟨g, 0, none⟩ ∧ S g ∧ EltS S w g i (rd_T29 l0 (i : Int)).f2.length (rd_T29 l0 (i : Int)).f5.length) (hc : l0.length ≤ c0) (h : laws_markReportS.f l0 a1 = some r) :
 Calls Try.prog 22 #[.slice A0 l0.length c0, .int .i64 a1] w fun e w' => e = .returned (.int .i64 r) ∧ Eff S w w' := by
 unfold laws_markReportS.f at h
 by_cases hb : 0 ≤ a1 ∧ a1 + mkLen l0 ≤ 1000000000000
 ·rw [if_pos hb] at h; injection h with h
  subst h; have HA := Aside0.mk hA; have HC := Aside0.mk hc; have HB := Aside0.mk hb; have HE := aM (Eff.refl S w); have hu29 := Try.underlying29; have hu27 := Try.underlying27; clear hA hc hb; go_enter Try.func22, Try.ntmps22; go_wp2; go_loopg [1, 5] (l0.length + 1) (fun gg Y v5 wr => ∃ i : Nat, Y = .int .i64 (a1 + mkLen (l0.take i)) ∧ v5 = .int .i64 (i : Int) ∧ Aside0 (i ≤ l0.length ∧ gg + i = l0.length + 1) ∧ Aside0 (Eff S w wr))
  case atStart => exact ⟨0, by simp [mkLen], rfl, ⟨Nat.zero_le _, rfl⟩, HE⟩
  case round =>
   obtain ⟨i, rfl, rfl, HI, HE⟩ := hrel; by_cases hlt : (i : Int) < (l0.length : Int)
   ·have hlt2 : i < l0.length := by omega
    obtain ⟨g, rfl, hs, he⟩ := HA.out i hlt2; have HS := Aside0.mk hs; have hm := mkLen_step l0 i hlt2; have hn0 := mkLen_nn (l0.take i); have hn1 := mkLen_le l0 (i + 1); have hbb := HB.out
    have HIB := aM (show (i : Int) ≤ 1000000000000 by
     have : ∀ j : Nat, j ≤ l0.length → (j : Int) ≤ mkLen (l0.take j) := fun j => by
      induction j with
      | zero => exact fun _ => mkLen_nn _
      | succ j ih =>
       intro hj; have h1 := ih (by omega); have h2 := mkLen_step l0 j (by omega); omega
     have := this i (by omega); have := mkLen_le l0 i; omega)
    have hE0 := he.eff HE.out; generalize hkk : a1 + mkLen (l0.take i) = kk; generalize (rd_T29 l0 (i : Int)).f2.length = n2 at hm hE0; generalize (rd_T29 l0 (i : Int)).f5.length = n5 at hm hE0; obtain ⟨m2, hm2⟩ : ∃ q, q = kk + 1 + 1 + (n2 : Int) := ⟨_, rfl⟩
    obtain ⟨m3, hm3⟩ : ∃ q, q = m2 + 1 + 1 + (n5 : Int) := ⟨_, rfl⟩
    have HEND := aM (show a1 + mkLen (l0.take (i + 1)) = m3 + 1 + 1 by omega); have HK := aM (show 0 ≤ kk ∧ kk + 6 + (n2 : Int) + (n5 : Int) ≤ 1000000000000 by omega); have P3 := aM (show 0 ≤ kk + 1 + 1 ∧ kk + 1 + 1 + (n2 : Int) ≤ 1000000000000 ∧ m2 = kk + 1 + 1 + (n2 : Int) by omega); have P4 := aM (show 0 ≤ m2 + 1 + 1 ∧ m2 + 1 + 1 + (n5 : Int) ≤ 1000000000000 ∧ m3 = m2 + 1 + 1 + (n5 : Int) by omega); have hw1 : wrap64 (kk + 1) = kk + 1 := wrap64_in _ (by omega) (by omega); have hw2 : wrap64 (kk + 1 + 1) = kk + 1 + 1 := wrap64_in _ (by omega) (by omega); have hw3 : wrap64 (m2 + 1) = m2 + 1 := wrap64_in _ (by omega) (by omega); have hw4 : wrap64 (m2 + 1 + 1) = m2 + 1 + 1 := wrap64_in _ (by omega) (by omega); have hw5 : wrap64 (m3 + 1) = m3 + 1 := wrap64_in _ (by omega) (by omega); have hw6 : wrap64 (m3 + 1 + 1) = m3 + 1 + 1 := wrap64_in _ (by omega) (by omega); have hw7 : wrap64 ((i : Int) + 1) = ((i + 1 : Nat) : Int) := wrap64_in _ (by have := HIB.out; omega) (by have := HIB.out; omega); have HM2 := Aside0.mk hm2; have HM3 := Aside0.mk hm3; have HL := Aside0.mk hlt2; have hd : decide ((i : Int) < (l0.length : Int)) = true := decide_eq_true hlt; have hd2 : (i < l0.length) = True := eq_true hlt2; have p5 : (0 ≤ (i : Int)) = True := eq_true (Int.natCast_nonneg i); have q5 : ((i : Int) < (l0.length : Int)) = True := eq_true hlt; clear hs he hm hn0 hn1 hbb hkk hm2 hm3 hlt hlt2; obtain ⟨h0, h1, h3, h4, h6, h7, ⟨A2, c2, h2, l2, r2⟩, ⟨A5, c5, h5, l5, r5⟩, hfr⟩ := hE0; have H0 := Aside0.mk h0; have H1 := Aside0.mk h1; have H3 := Aside0.mk h3; have H4 := Aside0.mk h4; have H6 := Aside0.mk h6; have H7 := Aside0.mk h7; have H5 := Aside0.mk h5; have R2 := Aside0.mk r2; have R5 := Aside0.mk r5; have L2 := Aside0.mk l2; have L5 := Aside0.mk l5; have HF := Aside0.mk hfr; obtain ⟨x0, h0⟩ := h0; obtain ⟨x1, h1⟩ := h1; have f0 : World.frozen? _ ⟨g, i * 8, none⟩ = false := hfr 0; have f1 := hfr 1; clear h3 h4 h6 h7 h5 r2 r5 l2 l5 hfr; go_wp2_with (first | (go_at_call 47; (with_reducible refine (markInt_eff S A2 n2 c2 (kk + 1 + 1) m2 _ ?D ?J ?L).mono ?_); (case D => exact R2.out.eff (by repeat (with_reducible first | exact Eff.refl _ _ | apply Eff.drew | apply Eff.drewN | (refine Eff.set2 ?_ HS.out (by first | exact H0.out | exact H1.out) _)))); (case J => exact L2.out); (case L => exact P3.out); rintro e w2 ⟨rfl, hE⟩; have E2 := aM (Eff.trans (show Eff S wr _ from by repeat (with_reducible first | exact Eff.refl _ _ | apply Eff.drew | apply Eff.drewN | (refine Eff.set2 ?_ HS.out (by first | exact H0.out | exact H1.out) _))) hE); clear hE; have G3 := aM (E2.out.ints _ H3.out); have G4 := aM (E2.out.ints _ H4.out); obtain ⟨y3, g3⟩ := G3.out; obtain ⟨y4, g4⟩ := G4.out; have g5 := E2.out.rows _ _ _ _ H5.out; have f3 := (E2.out.frozen _).trans (HF.out 3); have f4 := (E2.out.frozen _).trans (HF.out 4)) | (go_at_call 47; (with_reducible refine (markInt_eff S A5 n5 c5 (m2 + 1 + 1) m3 _ ?D ?J ?L).mono ?_); (case D => exact (R5.out.eff E2.out).eff (by repeat (with_reducible first | exact Eff.refl _ _ | apply Eff.drew | apply Eff.drewN | (refine Eff.set2 ?_ HS.out (by first | exact G3.out | exact G4.out) _)))); (case J => exact L5.out); (case L => exact P4.out); rintro e w3 ⟨rfl, hE⟩; have E3 := aM (E2.out.trans (Eff.trans (show Eff S w2 _ from by repeat (with_reducible first | exact Eff.refl _ _ | apply Eff.drew | apply Eff.drewN | (refine Eff.set2 ?_ HS.out (by first | exact G3.out | exact G4.out) _))) hE)); clear hE; have G6 := aM (E3.out.ints _ H6.out); have G7 := aM (E3.out.ints _ H7.out); obtain ⟨y6, g6⟩ := G6.out; obtain ⟨y7, g7⟩ := G7.out; have f6 := (E3.out.frozen _).trans (HF.out 6); have f7 := (E3.out.frozen _).trans (HF.out 7))); go_roundg (l0.length - i)
    case measure => clear hw1 hw2 hw3 hw4 hw5 hw6 hw7; have := HI.out; have := HL.out; omega
    case rel => exact ⟨i + 1, by rw [HEND.out]; first | rfl | rw [hw6], by first | rfl | (simp; done) | (simp [*]; done), ⟨by clear hw1 hw2 hw3 hw4 hw5 hw6 hw7; have := HI.out; have := HL.out; omega⟩, ⟨(HE.out.trans E3.out).trans (by repeat (with_reducible first | exact Eff.refl _ _ | apply Eff.drew | apply Eff.drewN | (refine Eff.set2 ?_ HS.out (by first | exact G6.out | exact G7.out) _)))⟩⟩
   ·have hd : decide ((i : Int) < (l0.length : Int)) = false := decide_eq_false hlt; have hd2 : (i < l0.length) = False := eq_false (by omega); have HQ := aM (show l0.take i = l0 from List.take_of_length_le (by omega)); go_wp2; go_ret; exact ⟨by rw [HQ.out]; rfl, HE.out⟩
 ·rw [if_neg hb] at h; cases h

theorem marks_ok {S : Nat → Prop} {w : World} {base : Nat} {ok : Nat → Prop} {A : Option Addr} {c : Nat} {l : List S29} (h : Kd.R k29 29 w base ok (.slice A l.length c) l) (hs : ∀ k, ok k → S k) : ∀ i : Nat, i < l.length → ∃ g, A = some ⟨g, 0, none⟩ ∧ S g ∧ EltS S w g i (rd_T29 l (i : Int)).f2.length (rd_T29 l (i : Int)).f5.length := fun i hi => by
 obtain ⟨g, cap, e, _⟩ := Kd.R_form h (by omega); injection e with e1 e2 e3
 subst e1; exact ⟨g, rfl, hs _ (h.1 _ rfl), EltS.of h hs i hi⟩
theorem R_eff {S : Nat → Prop} {w w1 : World} {base : Nat} {ok : Nat → Prop} {v : Value} {xs : List Int} (h : (Kd.int .i64).R 3 w base ok v xs) (hE : Eff S w w1) (hn : ∀ k, some k = v.ownBlock → ¬ S k) : (Kd.int .i64).R 3 w1 base ok v xs :=
 Kd.R_mono (Kd.R_step (Kd.R_tight rfl h) (fun k hk hlt => hE.kept k hlt (hn k hk))) (fun k hk => h.1 k hk.symm)
theorem below_eff {S : Nat → Prop} {w0 w w1 : World} (h : Below w0.heap.size w0 w) (hE : Eff S w w1) (hs : ∀ k, S k → w0.heap.size ≤ k) : Below w0.heap.size w0 w1 :=
 ⟨hE.os.trans h.os, hE.tape.trans h.tape, hE.output.trans h.output, Nat.le_trans h.size hE.size, fun k hk => (hE.kept k (Nat.lt_of_lt_of_le hk h.size) (fun s => absurd (hs k s) (by omega))).trans (h.block k hk)⟩
theorem lt_of_blk {w : World} {g : Nat} {o : Obj} (h : w.heap[g]? = some o) : g < w.heap.size := by
 rcases Nat.lt_or_ge g w.heap.size with c | c
 ·exact c
 ·rw [Array.getElem?_eq_none c] at h; cases h


/-! ### laws_markReport: function 23 -/
def laws_markReport.f (k : Nat) (a0_0 : Int) (a0_1 : Int) (l0_2 : List Int) (a0_3 : Int) (a0_4 : Int) (l0_5 : List Int) (a0_6 : Int) (a0_7 : Int) (a1 : Int) : Option (Int × List Int × List Int) := (laws_markIntS.f k l0_2 a1).bind fun bt355 => ((laws_markIntS.f k l0_5 bt355.1).bind fun bt357 => (some (bt357.1, bt355.2, bt357.2)))
theorem laws_markReport.mono : ∀ a0 a1 a2 a3 a4 a5 a6 a7 a8 k, LeO (laws_markReport.f k a0 a1 a2 a3 a4 a5 a6 a7 a8) (laws_markReport.f (k + 1) a0 a1 a2 a3 a4 a5 a6 a7 a8) := by
 intro a0 a1 a2 a3 a4 a5 a6 a7 a8 k; unfold laws_markReport.f
 repeat' first
   | (with_reducible exact laws_markIntS.mono _ _ _)
   | (with_reducible exact LeO.refl _)
   | (with_reducible exact LeO.none _)
   | (with_reducible refine LeO.ite ?_ ?_)
   | (with_reducible refine LeO.bind ?_ (fun _ => ?_))
   | exact laws_markIntS.mono _ _ _
   | exact LeO.none _
   | refine LeO.ite ?_ ?_
   | refine LeO.bind ?_ (fun _ => ?_)
set_option maxHeartbeats 8000000 in
set_option maxRecDepth 100000 in
theorem laws_markReport.calls (k : Nat) (a0_0 : Int) (a0_1 : Int) (P0_2_ : Nat → Prop) (u9000_ : Value) (l0_2 : List Int) (a0_3 : Int) (a0_4 : Int) (P0_5_ : Nat → Prop) (u9001_ : Value) (l0_5 : List Int) (a0_6 : Int) (a0_7 : Int) (a1 : Int) (r1 : Int) (r2 : List Int) (r3 : List Int) (w0 w : World) (hB : Below w0.heap.size w0 w) (ho0_2 : Kd.R (Kd.int .i64) 3 w w0.heap.size P0_2_ u9000_ l0_2) (hp0_2_0_5 : ∀ k_, P0_2_ k_ → ¬ P0_5_ k_) (ho0_5 : Kd.R (Kd.int .i64) 3 w w0.heap.size P0_5_ u9001_ l0_5) (hp0_5_0_2 : ∀ k_, P0_5_ k_ → ¬ P0_2_ k_) (h : laws_markReport.f k a0_0 a0_1 l0_2 a0_3 a0_4 l0_5 a0_6 a0_7 a1 = some (r1, r2, r3)) :
  Calls Try.prog 23 #[.agg #[.int .i64 a0_0, .int .i64 a0_1, u9000_, .int .i64 a0_3, .int .i64 a0_4, u9001_, .int .i64 a0_6, .int .i64 a0_7], .int .i64 a1] w fun e w' => e = .returned (.int .i64 r1) ∧ Kd.R (Kd.int .i64) 3 w' w0.heap.size (fun k_ => ((P0_2_ k_ ∨ P0_5_ k_) ∨ w.heap.size ≤ k_)) u9000_ r2 ∧ Kd.R (Kd.int .i64) 3 w' w0.heap.size (fun k_ => ((P0_2_ k_ ∨ P0_5_ k_) ∨ w.heap.size ≤ k_)) u9001_ r3 ∧ Below w0.heap.size w0 w' ∧ Kept w w' (fun k_ => P0_2_ k_ ∨ P0_5_ k_) := by
 have hu29 := Try.underlying29; have HO0_2 := aM (show Kd.R (Kd.int .i64) 3 w w0.heap.size (fun k_ => ((P0_2_ k_ ∨ P0_5_ k_) ∨ w.heap.size ≤ k_) ∧ some k_ ≠ (u9001_ : Value).ownBlock) u9000_ l0_2 from Kd.R_mono ho0_2 (fun k_ hk => ⟨(.inl (.inl hk)), fun e_ => hp0_2_0_5 k_ hk (ho0_5.1 k_ e_.symm)⟩)); have HO0_5 := aM (show Kd.R (Kd.int .i64) 3 w w0.heap.size (fun k_ => ((P0_2_ k_ ∨ P0_5_ k_) ∨ w.heap.size ≤ k_) ∧ some k_ ≠ (u9000_ : Value).ownBlock) u9001_ l0_5 from Kd.R_mono ho0_5 (fun k_ hk => ⟨(.inl (.inr hk)), fun e_ => hp0_5_0_2 k_ hk (ho0_2.1 k_ e_.symm)⟩)); have HK := aM (Kept.refl w (fun k_ => P0_2_ k_ ∨ P0_5_ k_)); have av := Aside0.mk hB.size; have HB := Aside0.mk hB; clear hB; have H : ((laws_markIntS.f k l0_2 a1).bind fun af => ((laws_markIntS.f k l0_5 af.1).bind fun ag => (some (ag.1, af.2, ag.2)))) = some (r1, r2, r3) := h; clear h; replace H := Option.bind_eq_some_iff.mp H; obtain ⟨⟨ac, ak⟩, ah, H⟩ := H; have A3 := Aside0.mk ah; clear ah; replace H := Option.bind_eq_some_iff.mp H; obtain ⟨⟨am, ao⟩, ai, H⟩ := H; have A4 := Aside0.mk ai; clear ai; simp only [Option.some.injEq, Prod.mk.injEq] at H; obtain ⟨rfl, rfl, rfl⟩ := H; obtain ⟨J, L, ar⟩ := Kd.R_slice HO0_2.out; subst ar; obtain ⟨Y, aa, au⟩ := Kd.R_slice HO0_5.out; subst au; go_enter Try.func23, Try.ntmps23; go_wp2_with (first | ((with_reducible refine gate_dst (N := 2) rfl ?_); refine bx 2 #[.int .i64 a0_0, .int .i64 a0_1, .slice J l0_2.length L, .int .i64 a0_3, .int .i64 a0_4, .slice Y l0_5.length aa, .int .i64 a0_6, .int .i64 a0_7] 29 ?_; intro aj hg w7 hbox hb; replace HO0_2 := aM (Kd.R_below (qR HO0_2) hb); replace HO0_5 := aM (Kd.R_below (qR HO0_5) hb); have D := aM hbox; have ad := aM ((by rw [hg]; exact (by first | exact HK.out.1 | exact (show Kept w _ (fun k_ => P0_2_ k_ ∨ P0_5_ k_) from by repeat (first | (with_reducible first | exact HK.out | apply Kept.alloc | apply Kept.drewN | apply Kept.drew) | exact HK.out)).1) : w.heap.size ≤ aj)); replace HK := aM (Kept.below (S := (fun k_ => P0_2_ k_ ∨ P0_5_ k_)) (by repeat (first | (with_reducible first | exact HK.out | apply Kept.alloc | apply Kept.drewN | apply Kept.drew) | exact HK.out)) hb); have ae := aM ((by rw [hg]; exact (below_size (qB HB)) : w0.heap.size ≤ aj)); replace HB := aM (below_step (qB HB) hb); clear hb hbox hg; obtain ⟨ax, ay, az, aA, aC, aD, aE, aG⟩ := cz8 D; obtain ⟨aH, aI, aJ, aK, aN, aP, aQ, aT⟩ := fz8 D) | ((with_reducible refine gate_callee (f := 47) rfl ?_); refine gl 8 Try.func47 #[.slice J l0_2.length L, .int .i64 a1] ?_; (with_reducible refine (laws_markIntS.calls k (fun k_ => some k_ = (.slice J l0_2.length L : Value).ownBlock) (.slice J l0_2.length L) l0_2 a1 ac ak w0 _ ?side1 ?side2 A3.out).mono ?_); (case side1 => repeat (first | (with_reducible first | exact HB.out | apply bA | apply bN | apply bD | refine bS ?_ ae.out) | exact HB.out)); (case side2 => exact Kd.R_tight rfl HO0_2.out); rintro e w9 ⟨rfl, ab, hb, hkp⟩; refine ⟨_, rfl, ?_⟩; replace HO0_5 := aM (Kd.R_mono (ok' := fun k_ => ((P0_2_ k_ ∨ P0_5_ k_) ∨ w.heap.size ≤ k_) ∧ some k_ ≠ (.slice J l0_2.length L : Value).ownBlock) (Kd.R_keptB (HO0_5.out) hkp (fun k_ hk_ hs_ => (hk_.2) hs_)) (fun k_ hk_ => ⟨hk_.1.1, hk_.1.2⟩)); replace D := aM (blk_kept (qK D) hkp (fun hs_ => (fun e_ => (Kd.R_ne HO0_2.out D.out (by decide)) e_) hs_)); replace HK := aM (Kept.then_ (S := (fun k_ => P0_2_ k_ ∨ P0_5_ k_)) (by repeat (first | (with_reducible first | exact HK.out | apply Kept.alloc | apply Kept.drewN | apply Kept.drew | refine Kept.setCell ?_ (.inr ad.out) _) | exact HK.out)) hkp (fun k_ hs_ => (fun e_ => (HO0_2.out.1 k_ e_.symm).1) hs_)); replace HO0_2 := aM (Kd.R_reok rfl ab (fun k_ e_ => HO0_2.out.1 k_ e_)); replace HB := aM hb; (try clear hb); (try clear hkp); (try clear ab); obtain ⟨aV, aW, aX, aY, aZ, a9, a_, ba⟩ := cz8 D; obtain ⟨bb, bc, bd, bf, bg, bh, bi, bj⟩ := fz8 D) | ((with_reducible refine gate_callee (f := 47) rfl ?_); refine gl 12 Try.func47 #[.slice Y l0_5.length aa, .int .i64 ac] ?_; (with_reducible refine (laws_markIntS.calls k (fun k_ => some k_ = (.slice Y l0_5.length aa : Value).ownBlock) (.slice Y l0_5.length aa) l0_5 ac am ao w0 _ ?side1 ?side2 A4.out).mono ?_); (case side1 => repeat (first | (with_reducible first | exact HB.out | apply bA | apply bN | apply bD | refine bS ?_ ae.out) | exact HB.out)); (case side2 => exact Kd.R_tight rfl HO0_5.out); rintro e bk ⟨rfl, ab, hb, hkp⟩; refine ⟨_, rfl, ?_⟩; replace HO0_2 := aM (Kd.R_mono (ok' := fun k_ => ((P0_2_ k_ ∨ P0_5_ k_) ∨ w.heap.size ≤ k_) ∧ some k_ ≠ (.slice Y l0_5.length aa : Value).ownBlock) (Kd.R_keptB (HO0_2.out) hkp (fun k_ hk_ hs_ => (hk_.2) hs_)) (fun k_ hk_ => ⟨hk_.1.1, hk_.1.2⟩)); replace D := aM (blk_kept (qK D) hkp (fun hs_ => (fun e_ => (Kd.R_ne HO0_5.out D.out (by decide)) e_) hs_)); replace HK := aM (Kept.then_ (S := (fun k_ => P0_2_ k_ ∨ P0_5_ k_)) (by repeat (first | (with_reducible first | exact HK.out | apply Kept.alloc | apply Kept.drewN | apply Kept.drew | refine Kept.setCell ?_ (.inr ad.out) _) | exact HK.out)) hkp (fun k_ hs_ => (fun e_ => (HO0_5.out.1 k_ e_.symm).1) hs_)); replace HO0_5 := aM (Kd.R_reok rfl ab (fun k_ e_ => HO0_5.out.1 k_ e_)); replace HB := aM hb; (try clear hb); (try clear hkp); (try clear ab))); go_ret; exact ⟨tE, by (with_reducible repeat first | apply rA | apply rN | apply rD); exact Kd.R_mono HO0_2.out (fun _ hk => hk.1), by (with_reducible repeat first | apply rA | apply rN | apply rD); exact Kd.R_mono HO0_5.out (fun _ hk => hk.1), tB1 ae, by repeat (first | (with_reducible first | exact HK.out | apply Kept.alloc | apply Kept.drewN | apply Kept.drew | refine Kept.setCell ?_ (.inr ad.out) _) | exact HK.out)⟩

end Go.Proofs.Ytfolhmompclmbaa.PFnExactPutReport
