-- The printed functions of one law and their contracts, over contracts of this session's own (hand.py).
import Derived.Test.YtfolhmompclmbaaPFnExactPutReportx0
import Derived.Test.YtfolhmompclmbaaIns
import Derived.Laws.NewBlocks
namespace Go.Proofs.Ytfolhmompclmbaa.PFnExactPutReport
open Go.RowKit Go.Proofs.YtfolhmompclmbaaW.PrintWords Go.Proofs.YtfolhmompclmbaaW.PrintLast Go.Proofs.YtfolhmompclmbaaW.PrintMore Go.Proofs.Ytfolhmompclmbaa.Short
attribute [local go_sem] max2_int min2_int max_two min_two max_three min_three max_four min_four   -- for this text's walks alone
set_option linter.unusedVariables false
set_option linter.unusedSimpArgs false

/-! ### slices_Clone_int_int: function 54 -/
def slices_Clone_int_int.f (l0 : List Int) : Option (List Int) := (some (([] : List Int) : List Int)).bind fun y117 => (if y117.length + l0.length < 17592186044416 then (some (y117 ++ l0)) else (none))
set_option maxHeartbeats 8000000 in
set_option maxRecDepth 100000 in
theorem slices_Clone_int_int.calls (A0 : Option Addr) (c0 : Nat) (l0 : List Int) (r : List Int) (w : World) (hr0 : Kd.C (Kd.int .i64) w A0 l0.length l0) (hc0 : l0.length ≤ c0) (h : slices_Clone_int_int.f l0 = some r) :
  Calls Try.prog 54 #[.slice A0 l0.length c0] w fun e w' => ∃ v0_ : Value, e = .returned (v0_) ∧ Kd.R (Kd.int .i64) 3 w' w.heap.size (fun _ => True) v0_ r ∧ Below w.heap.size w w' := by
 have q_ : ∀ (w : World) (a : Option Addr) (n c n' c' : Nat), (binOp .eql 25 (.slice a n c) (.slice none n' c')).run Try.prog w = .ok (.bool a.isNone) w := fun w a n c n' c' => Lib.run_eql_slice_nil w _ _ a n c n' c' Try.underlying25
 cases A0 with
 | none =>
  have hl : l0 = [] := by
   cases l0 with
   | nil => rfl
   | cons x xs => obtain ⟨ad, he, _⟩ := hr0.2.2 (by simp); cases he
  subst hl
  obtain rfl : r = [] := by
   have h2 : some ([] : List Int) = some r := h; injection h2 with h2
   exact h2.symm
  clear h hr0 hc0; go_enter Try.func54, Try.ntmps54; go_wp2; go_ret; exact ⟨_, rfl, Kd.R_nil _ _ _ _ _, Below.refl _ _⟩
 | some ad =>
  have ae := Aside0.mk hr0; have aj := Aside0.mk hc0; clear hr0 hc0; have HB := aM (Below.refl w.heap.size w); have H : ((some (([] : List Int) : List Int)).bind fun D => (if D.length + l0.length < 17592186044416 then (some (D ++ l0)) else (none))) = some r := h; clear h; obtain ⟨D, L⟩ : ∃ y_ : List Int, y_ = (([] : List Int)) := ⟨_, rfl⟩
  (first | replace H := bY H L | rw [← L] at H | skip); have ab := Aside0.mk L; clear L; by_cases Y : D.length + l0.length < 17592186044416
  ·rw [if_pos Y] at H; have af := Aside0.mk Y; clear Y; obtain ⟨ak, aa⟩ : ∃ y_ : List Int, y_ = (D ++ l0) := ⟨_, rfl⟩
   (first | replace H := bY H aa | rw [← aa] at H | skip); have ag := Aside0.mk aa; clear aa; obtain rfl := Option.some.inj H; go_enter Try.func54, Try.ntmps54; go_wp2_with (first | ((with_reducible refine gate_dst (N := 5) rfl ?_); refine Kd.R_lit (Kd.int .i64) _ 3 ?hg (N := 5) ?hd (xs := ([] : List Int)) (inner := []) (ok := fun _ => True) (okp := fun _ => True) ?hr ?hp (fun _ hk => hk) trivial (Below.refl _ _) (Nat.le_refl _) (by simp) ?_; (case hd => rfl); (case hg => rfl); (case hr => first | (go_simp; done) | (go_simp; rfl)); (case hp => exact (Reps.none _ _)); intro ah w3 J hb hg_ hnew_; clear hg_ hnew_; (first | rw [← ab.out] at J | (simp only [Int.reduceToNat] at J; rw [← ab.out] at J)); have ac := aM (Kd.R_lower J (below_size (qB HB))); replace HB := aM (below_step (qB HB) hb); clear hb J) | ((with_reducible refine gate_builtin (b := .append) (xs := #[.tmp 5, .tmp 6]) rfl ?_); at_builtin; refine Kd.R_append_rows (Kd.int .i64) (w0 := w) w.heap.size rfl (.tmp 5) (.tmp 6) 25 3 (.int .i64 0) 8 rfl Try.underlying25 info3 rfl (by decide) (by omega) ah D l0 _ _ _ (fun _ => True) (fun _ => False) rfl rfl ?aO ?aR (fun _ _ h => h) (fun _ h => h.elim) ?aF ?aB ?aS ?aL ?_; (case aR => exact qC (Kd.C_below ae.out HB.out)); (case aB => exact (qB HB)); (case aF => exact (fun _ _ => trivial)); (case aO => exact (qR ac)); (case aS => exact (below_size (qB HB))); (case aL => have := af.out; omega); intro ao w5 ho hb hg hat; rw [← ag.out] at ho; replace HB := aM hb; have ai := aM ho; clear ac; clear ho hb hg hat)); go_ret; exact ⟨_, tE, tR ai, tB0⟩
  ·rw [if_neg Y] at H; exact absurd H (by simp)

/-! ### impl_cloneReport: function 29 -/
def impl_cloneReport.f (a0_0 : Int) (a0_1 : Int) (l0_2 : List Int) (a0_3 : Int) (a0_4 : Int) (l0_5 : List Int) (a0_6 : Int) (a0_7 : Int) : Option (Int × Int × List Int × Int × Int × List Int × Int × Int) := (slices_Clone_int_int.f l0_2).bind fun t125 => ((slices_Clone_int_int.f l0_5).bind fun t128 => (some (a0_0, a0_1, t125, a0_3, a0_4, t128, a0_6, a0_7)))
def impl_cloneReport.T1 : Bool × List (List Nat × List Nat) := (true, [([], []), ([0], [0]), ([1], [1]), ([], []), ([3], [3]), ([4, 2], [4]), ([0, 1, 2, 3, 4], []), ([6, 2, 5, 0, 1, 2, 3, 4], [2, 6]), ([0, 1, 2, 3, 4, 5, 6, 7], []), ([8, 5, 7, 0, 1, 2, 3, 4, 5, 6, 7], [5, 8])])
def impl_cloneReport.B1 : List Nat := [0, 1, 3, 0, 8, 31, 31, 127, 255, 511]
theorem impl_cloneReport.tab1 : rtab .any (opsOf Try.f29 1) = impl_cloneReport.T1 := by kernel_rfl
theorem impl_cloneReport.bits1 : waitsOk impl_cloneReport.T1.2 impl_cloneReport.B1 = true := by kernel_rfl
set_option maxHeartbeats 8000000 in
set_option maxRecDepth 100000 in
theorem impl_cloneReport.calls (a0_0 : Int) (a0_1 : Int) (A0_2 : Option Addr) (c0_2 : Nat) (l0_2 : List Int) (a0_3 : Int) (a0_4 : Int) (A0_5 : Option Addr) (c0_5 : Nat) (l0_5 : List Int) (a0_6 : Int) (a0_7 : Int) (r1 : Int) (r2 : Int) (r3 : List Int) (r4 : Int) (r5 : Int) (r6 : List Int) (r7 : Int) (r8 : Int) (w : World) (hr0_2 : Kd.C (Kd.int .i64) w A0_2 l0_2.length l0_2) (hc0_2 : l0_2.length ≤ c0_2) (hr0_5 : Kd.C (Kd.int .i64) w A0_5 l0_5.length l0_5) (hc0_5 : l0_5.length ≤ c0_5) (h : impl_cloneReport.f a0_0 a0_1 l0_2 a0_3 a0_4 l0_5 a0_6 a0_7 = some (r1, r2, r3, r4, r5, r6, r7, r8)) :
  Calls Try.prog 29 #[.agg #[.int .i64 a0_0, .int .i64 a0_1, .slice A0_2 l0_2.length c0_2, .int .i64 a0_3, .int .i64 a0_4, .slice A0_5 l0_5.length c0_5, .int .i64 a0_6, .int .i64 a0_7]] w fun e w' => ∃ v2_ v5_ : Value, e = .returned (.agg #[.int .i64 r1, .int .i64 r2, v2_, .int .i64 r4, .int .i64 r5, v5_, .int .i64 r7, .int .i64 r8]) ∧ Kd.R (Kd.int .i64) 3 w' w.heap.size (fun k_ => some k_ ≠ (v5_ : Value).ownBlock) v2_ r3 ∧ Kd.R (Kd.int .i64) 3 w' w.heap.size (fun k_ => some k_ ≠ (v2_ : Value).ownBlock) v5_ r6 ∧ Below w.heap.size w w' := by
 have hu29 := Try.underlying29; have ax := Aside0.mk hr0_2; have ay := Aside0.mk hc0_2; clear hr0_2 hc0_2; have az := Aside0.mk hr0_5; have aA := Aside0.mk hc0_5; clear hr0_5 hc0_5; have HB := aM (Below.refl w.heap.size w); have H : ((slices_Clone_int_int.f l0_2).bind fun ab => ((slices_Clone_int_int.f l0_5).bind fun ac => (some (a0_0, a0_1, ab, a0_3, a0_4, ac, a0_6, a0_7)))) = some (r1, r2, r3, r4, r5, r6, r7, r8) := h; clear h; replace H := Option.bind_eq_some_iff.mp H; obtain ⟨ab, aq, H⟩ := H; have A2 := Aside0.mk aq; clear aq; replace H := Option.bind_eq_some_iff.mp H; obtain ⟨ac, ar, H⟩ := H; have A3 := Aside0.mk ar; clear ar; simp only [Option.some.injEq, Prod.mk.injEq] at H; obtain ⟨rfl, rfl, rfl, rfl, rfl, rfl, rfl, rfl⟩ := H; go_enter Try.func29, Try.ntmps29; try go_wp2_with (first | ((with_reducible refine gate_dst (N := 1) rfl ?_); refine bx 1 #[.int .i64 a0_0, .int .i64 a0_1, .slice A0_2 l0_2.length c0_2, .int .i64 a0_3, .int .i64 a0_4, .slice A0_5 l0_5.length c0_5, .int .i64 a0_6, .int .i64 a0_7] 29 ?_; intro L hg w4 hbox hb; have D := aM hbox; have aI := aM ((by rw [hg]; exact (below_size (qB HB)) : w.heap.size ≤ L)); have ag := aM ((by rw [hg]; exact (below_size (qB HB)) : w.heap.size ≤ L)); replace HB := aM (below_step (qB HB) hb); clear hb hbox hg) | ((with_reducible refine gate_dst (N := 2) rfl ?_); refine bx 2 #[.int .i64 0, .int .i64 0, .slice none 0 0, .int .i64 0, .int .i64 0, .slice none 0 0, .int .i64 0, .int .i64 0] 29 ?_; intro J hg w5 hbox hb; have Y := aM hbox; have aJ := aM ((by rw [hg]; exact (below_size (tB1 ag)) : w.heap.size ≤ J)); have ak := aM ((by rw [hg]; exact (below_size (tB1 ag)) : w.heap.size ≤ J)); replace HB := aM (below_step (tB1 ag) hb); have ao := aM ((by rw [hg]; exact Nat.ne_of_lt (blk_lt (qK D)) : L ≠ J)); have al := aM ((by rw [hg]; exact Nat.ne_of_gt (blk_lt (qK D)) : J ≠ L)); replace D := aM (blk_below (qK D) hb); clear hb hbox hg))
 replace D := dK D; replace Y := dK Y; replace HB := dB HB; refine start_ (n := 10) (S := fun w' => w'.cell? ⟨L, 0, none⟩ = some (.int .i64 a0_0) ∧ w'.cell? ⟨L, 1, none⟩ = some (.int .i64 a0_1) ∧ w'.cell? ⟨L, 2, none⟩ = some (.slice A0_2 l0_2.length c0_2) ∧ w'.cell? ⟨L, 3, none⟩ = some (.int .i64 a0_3) ∧ w'.cell? ⟨L, 4, none⟩ = some (.int .i64 a0_4) ∧ w'.cell? ⟨L, 5, none⟩ = some (.slice A0_5 l0_5.length c0_5) ∧ w'.cell? ⟨L, 6, none⟩ = some (.int .i64 a0_6) ∧ w'.cell? ⟨L, 7, none⟩ = some (.int .i64 a0_7)) (ds := [7, 9]) (bR [0,10]) (by kernel_rfl) rfl rfl ⟨cC D 0, cC D 1, cC D 2, cC D 3, cC D 4, cC D 5, cC D 6, cC D 7⟩ (fun hHeld => ?_); refine with_tabW impl_cloneReport.tab1 impl_cloneReport.bits1 (fun HT_ HW_ => ?_); generalize w5.drew = w6 at D Y HB hHeld ⊢; refine pp 0 3 (bR [1,9]) ?_; refine pp 3 6 (bR [1,2,1,6]) ?_; refine tk 1 4 (bR [2,1,1,6]) hHeld ?_; refine tk 4 7 (bR [2,1,2,5]) hHeld ?_; refine on 2 5 (bR [5,5]) (fun K hK => ?_); refine gz Try.func54 #[.slice A0_2 l0_2.length c0_2] ?_; (with_reducible refine (slices_Clone_int_int.calls _ _ l0_2 ab _ ?side1 ?side2 A2.out).mono ?_); (case side1 => exact qC (Kd.C_below ax.out HB.out)); (case side2 => exact ay.out); rintro e w7 ⟨aQ, rfl, aj, hb⟩; refine ⟨_, rfl, ?_⟩; have am := aM (Kd.R_lower aj (below_size (tB2 ag ak))); replace D := aM (blk_below (qK D) hb); replace Y := aM (blk_below (qK Y) hb); replace HB := aM (below_step (tB2 ag ak) hb); (try clear hb); (try clear hb2); (try clear hk); (try clear hi); (try clear aj); refine hK.out _ _ ⟨cC D 0, cC D 1, cC D 2, cC D 3, cC D 4, cC D 5, cC D 6, cC D 7⟩ (fun hHeld => ?_); clear hK K; refine nm 5 ?_; refine pp 6 9 (bR [5,1,1,3]) ?_; refine on 5 8 (bR [7,3]) (fun K hK => ?_); refine gz Try.func54 #[.slice A0_5 l0_5.length c0_5] ?_; (with_reducible refine (slices_Clone_int_int.calls _ _ l0_5 ac _ ?side1 ?side2 A3.out).mono ?_); (case side1 => exact qC (Kd.C_below az.out HB.out)); (case side2 => exact aA.out); rintro e w8 ⟨aT, rfl, aj, hb⟩; refine ⟨_, rfl, ?_⟩; have au := aM (Kd.R_lower (Kd.R_new' aj (Kd.R_lt (qR am))) (below_size (tB2 ag ak))); replace am := aM (Kd.R_elder' (qR am) (Kd.R_base aj) hb); replace D := aM (blk_below (qK D) hb); replace Y := aM (blk_below (qK Y) hb); replace HB := aM (below_step (tB2 ag ak) hb); (try clear hb); (try clear hb2); (try clear hk); (try clear hi); (try clear aj); obtain ⟨ae, af, av⟩ := Kd.R_slice am.out; (first | subst av | (injection av with f1_ f2_ f3_; have f4_ := f1_.symm; have f5_ := f3_.symm; clear f1_ f2_ f3_; subst f4_; subst f5_)); obtain ⟨ah, ai, aw⟩ := Kd.R_slice au.out; (first | subst aw | (injection aw with f1_ f2_ f3_; have f4_ := f1_.symm; have f5_ := f3_.symm; clear f1_ f2_ f3_; subst f4_; subst f5_)); refine hK.out _ _ ⟨cC D 0, cC D 1, cC D 2, cC D 3, cC D 4, cC D 5, cC D 6, cC D 7⟩ (fun hHeld => ?_); clear hK K; refine nm 8 ?_; refine last_ (i := 7) (N := none) (bR [8,2]) rfl rfl (one_of HT_.out (by kernel_rfl)) (by decide) (fun K hK => ?_); have aU : w8.cell? ⟨L, 2, none⟩ = some (.slice A0_2 l0_2.length c0_2) := cC D 2; have aV := blk_frozen D.out 2; have aW := al.out; have aX := ao.out; refine skip_ (w1 := ?_) (by rfl) rfl ?_ ?_; rotate_left
 ·go_simp; rfl
 refine hK.out _ _ ?_; clear hK K; refine pp 8 10 (bR [9,1]) ?_; refine last_ (i := 9) (N := none) (bR [10]) rfl rfl (one_of HT_.out (by kernel_rfl)) (by decide) (fun K hK => ?_); have aY : w8.cell? ⟨L, 5, none⟩ = some (.slice A0_5 l0_5.length c0_5) := cC D 5; have aZ := blk_frozen D.out 5; have a3 := al.out; have a6 := ao.out; refine skip_ (w1 := ?_) (by rfl) rfl ?_ ?_; rotate_left
 ·go_simp; rfl
 refine hK.out _ _ ?_; clear hK K; refine done_ (done_of HT_.out (by kernel_rfl)) ?_; have a7 := ao.out; have a8 := al.out; have a9 : w8.cell? ⟨L, 0, none⟩ = some (.int .i64 a0_0) := cC D 0; have a_ : w8.cell? ⟨L, 1, none⟩ = some (.int .i64 a0_1) := cC D 1; have ba : w8.cell? ⟨L, 2, none⟩ = some (.slice A0_2 l0_2.length c0_2) := cC D 2; have bb : w8.cell? ⟨L, 3, none⟩ = some (.int .i64 a0_3) := cC D 3; have bc : w8.cell? ⟨L, 4, none⟩ = some (.int .i64 a0_4) := cC D 4; have bd : w8.cell? ⟨L, 5, none⟩ = some (.slice A0_5 l0_5.length c0_5) := cC D 5; have bf : w8.cell? ⟨L, 6, none⟩ = some (.int .i64 a0_6) := cC D 6; have bg : w8.cell? ⟨L, 7, none⟩ = some (.int .i64 a0_7) := cC D 7; have bh := blk_frozen D.out 0; have bi := blk_frozen D.out 1; have bj := blk_frozen D.out 2; have bk := blk_frozen D.out 3; have bl := blk_frozen D.out 4; have bm := blk_frozen D.out 5; have bn := blk_frozen D.out 6; have bo := blk_frozen D.out 7; have bp : w8.cell? ⟨J, 0, none⟩ = some (.int .i64 0) := cC Y 0; have bq : w8.cell? ⟨J, 1, none⟩ = some (.int .i64 0) := cC Y 1; have br : w8.cell? ⟨J, 2, none⟩ = some (.slice none 0 0) := cC Y 2; have bs : w8.cell? ⟨J, 3, none⟩ = some (.int .i64 0) := cC Y 3; have bt : w8.cell? ⟨J, 4, none⟩ = some (.int .i64 0) := cC Y 4; have bu : w8.cell? ⟨J, 5, none⟩ = some (.slice none 0 0) := cC Y 5; have bv : w8.cell? ⟨J, 6, none⟩ = some (.int .i64 0) := cC Y 6; have bw : w8.cell? ⟨J, 7, none⟩ = some (.int .i64 0) := cC Y 7; have bz := blk_frozen Y.out 0; have bB := blk_frozen Y.out 1; have bC := blk_frozen Y.out 2; have bE := blk_frozen Y.out 3; have bF := blk_frozen Y.out 4; have bG := blk_frozen Y.out 5; have bH := blk_frozen Y.out 6; have bI := blk_frozen Y.out 7; try go_wp2
 refine bodyPost_ret (results_cell_row rfl _ _ J 29 #[.int .i64 a0_0, .int .i64 a0_1, .slice ae ab.length af, .int .i64 a0_3, .int .i64 a0_4, .slice ah ac.length ai, .int .i64 a0_6, .int .i64 a0_7] (0, 0) _ rfl (by (with_reducible repeat first | refine kN ?_ _ | refine kD ?_ | refine kA ?_ _); refine blk_put (cs := #[.int .i64 a0_0, .int .i64 a0_1, .slice ae ab.length af, .int .i64 a0_3, .int .i64 a0_4, .slice ah ac.length ai, .int .i64 a0_6, .int .i64 0]) ?_ 7 _ rfl; (with_reducible repeat first | refine kN ?_ _ | refine kD ?_ | refine kA ?_ _); refine blk_put (cs := #[.int .i64 a0_0, .int .i64 a0_1, .slice ae ab.length af, .int .i64 a0_3, .int .i64 a0_4, .slice ah ac.length ai, .int .i64 0, .int .i64 0]) ?_ 6 _ rfl; (with_reducible repeat first | refine kN ?_ _ | refine kD ?_ | refine kA ?_ _); refine blk_put (cs := #[.int .i64 a0_0, .int .i64 a0_1, .slice ae ab.length af, .int .i64 a0_3, .int .i64 a0_4, .slice none 0 0, .int .i64 0, .int .i64 0]) ?_ 5 _ rfl; (with_reducible repeat first | refine kN ?_ _ | refine kD ?_ | refine kA ?_ _); refine blk_put (cs := #[.int .i64 a0_0, .int .i64 a0_1, .slice ae ab.length af, .int .i64 a0_3, .int .i64 0, .slice none 0 0, .int .i64 0, .int .i64 0]) ?_ 4 _ rfl; (with_reducible repeat first | refine kN ?_ _ | refine kD ?_ | refine kA ?_ _); refine blk_put (cs := #[.int .i64 a0_0, .int .i64 a0_1, .slice ae ab.length af, .int .i64 0, .int .i64 0, .slice none 0 0, .int .i64 0, .int .i64 0]) ?_ 3 _ rfl; (with_reducible repeat first | refine kN ?_ _ | refine kD ?_ | refine kA ?_ _); refine blk_put (cs := #[.int .i64 a0_0, .int .i64 a0_1, .slice none 0 0, .int .i64 0, .int .i64 0, .slice none 0 0, .int .i64 0, .int .i64 0]) ?_ 2 _ rfl; (with_reducible repeat first | refine kN ?_ _ | refine kD ?_ | refine kA ?_ _); refine blk_put (cs := #[.int .i64 a0_0, .int .i64 0, .slice none 0 0, .int .i64 0, .int .i64 0, .slice none 0 0, .int .i64 0, .int .i64 0]) ?_ 1 _ rfl; (with_reducible repeat first | refine kN ?_ _ | refine kD ?_ | refine kA ?_ _); refine blk_put (cs := #[.int .i64 0, .int .i64 0, .slice none 0 0, .int .i64 0, .int .i64 0, .slice none 0 0, .int .i64 0, .int .i64 0]) ?_ 0 _ rfl; (with_reducible repeat first | refine kN ?_ _ | refine kD ?_ | refine kA ?_ _); refine blk_far ?_ al.out _; (with_reducible repeat first | refine kN ?_ _ | refine kD ?_ | refine kA ?_ _); refine blk_far ?_ al.out _; (with_reducible repeat first | refine kN ?_ _ | refine kD ?_ | refine kA ?_ _); exact Y.out) Try.underlying29 rfl (by kernel_rfl)) rfl ?_; exact ⟨_, _, tE, by (with_reducible repeat first | apply rA | apply rN | apply rD); exact Kd.R_mono (Kd.R_far (p := ⟨J, 7, none⟩) (Kd.R_far (p := ⟨J, 6, none⟩) (Kd.R_far (p := ⟨J, 5, none⟩) (Kd.R_far (p := ⟨J, 4, none⟩) (Kd.R_far (p := ⟨J, 3, none⟩) (Kd.R_far (p := ⟨J, 2, none⟩) (Kd.R_far (p := ⟨J, 1, none⟩) (Kd.R_far (p := ⟨J, 0, none⟩) (Kd.R_far (p := ⟨L, 5, none⟩) (Kd.R_far (p := ⟨L, 2, none⟩) (Kd.R_types (Kd.R_types am.out D.out (by decide)) Y.out (by decide)) (fun _ hk => hk.1.2) (.slice ae ab.length af)) (fun _ hk => hk.1.2) (.slice ah ac.length ai)) (fun _ hk => hk.2) (.int .i64 a0_0)) (fun _ hk => hk.2) (.int .i64 a0_1)) (fun _ hk => hk.2) (.slice ae ab.length af)) (fun _ hk => hk.2) (.int .i64 a0_3)) (fun _ hk => hk.2) (.int .i64 a0_4)) (fun _ hk => hk.2) (.slice ah ac.length ai)) (fun _ hk => hk.2) (.int .i64 a0_6)) (fun _ hk => hk.2) (.int .i64 a0_7)) (fun _ hk => hk.1.1.2), by (with_reducible repeat first | apply rA | apply rN | apply rD); exact Kd.R_mono (Kd.R_far (p := ⟨J, 7, none⟩) (Kd.R_far (p := ⟨J, 6, none⟩) (Kd.R_far (p := ⟨J, 5, none⟩) (Kd.R_far (p := ⟨J, 4, none⟩) (Kd.R_far (p := ⟨J, 3, none⟩) (Kd.R_far (p := ⟨J, 2, none⟩) (Kd.R_far (p := ⟨J, 1, none⟩) (Kd.R_far (p := ⟨J, 0, none⟩) (Kd.R_far (p := ⟨L, 5, none⟩) (Kd.R_far (p := ⟨L, 2, none⟩) (Kd.R_types (Kd.R_types au.out D.out (by decide)) Y.out (by decide)) (fun _ hk => hk.1.2) (.slice ae ab.length af)) (fun _ hk => hk.1.2) (.slice ah ac.length ai)) (fun _ hk => hk.2) (.int .i64 a0_0)) (fun _ hk => hk.2) (.int .i64 a0_1)) (fun _ hk => hk.2) (.slice ae ab.length af)) (fun _ hk => hk.2) (.int .i64 a0_3)) (fun _ hk => hk.2) (.int .i64 a0_4)) (fun _ hk => hk.2) (.slice ah ac.length ai)) (fun _ hk => hk.2) (.int .i64 a0_6)) (fun _ hk => hk.2) (.int .i64 a0_7)) (fun _ hk => hk.1.1.2), tB2 ag ak⟩

/-! ### impl_cloneReports: function 28 -/
/-- Cells 2 and 5 are rows of two blocks. -/
def TwoB (cs : List Value) : Prop := ∀ (u v : Value), cs[2]? = some u → cs[5]? = some v → ∀ k : Nat, u.ownBlock = some k → v.ownBlock ≠ some k
/-- A struct with two rows that lie in two blocks. -/
def k29a : Kd S29 where
  sz := k29.sz
  E := k29.E
  K := k29.K
  M := fun w base ok x cs => k29.M w base ok x cs ∧ TwoB cs
  K_len := fun h => k29.K_len h
  K_one := fun h => k29.K_one h
  K_below := fun hb h => k29.K_below hb h
  K_of_M := fun h => k29.K_of_M h.1
  M_mono := fun hok h => ⟨k29.M_mono hok h.1, h.2⟩
  M_bound := fun h => ⟨k29.M_bound h.1, h.2⟩
  M_move := fun hm h => ⟨k29.M_move hm h.1, h.2⟩
  M_lower := fun hb h => ⟨k29.M_lower hb h.1, h.2⟩
theorem k29a_mkM (w : World) (base : Nat) (ok : Nat → Prop) (x : S29) {v2 : Value} (g2 : (Kd.int .i64).R 3 w base ok v2 x.f2) {v5 : Value} (g5 : (Kd.int .i64).R 3 w base ok v5 x.f5) (hap : ∀ k, v2.ownBlock = some k → v5.ownBlock ≠ some k) :
  k29a.M w base ok x [.int .i64 x.f0, .int .i64 x.f1, v2, .int .i64 x.f3, .int .i64 x.f4, v5, .int .i64 x.f6.f0, .int .i64 x.f6.f1] :=
  ⟨k29_mkM w base ok x g2 g5, fun u v hu hv => by
    injection hu with hu
    injection hv with hv
    subst hu; subst hv; exact hap⟩
theorem k29a_openM {w : World} {base : Nat} {ok : Nat → Prop} {x : S29} {cs : List Value} (h : k29a.M w base ok x cs) : ∃ v2 v5, cs = [.int .i64 x.f0, .int .i64 x.f1, v2, .int .i64 x.f3, .int .i64 x.f4, v5, .int .i64 x.f6.f0, .int .i64 x.f6.f1] ∧ (Kd.int .i64).R 3 w base ok v2 x.f2 ∧ (Kd.int .i64).R 3 w base ok v5 x.f5 ∧ ∀ k, v2.ownBlock = some k → v5.ownBlock ≠ some k := by
  obtain ⟨hm, hap⟩ := h; obtain ⟨v2, v5, rfl, h2, h5⟩ := k29_openM hm; exact ⟨v2, v5, rfl, h2, h5, hap v2 v5 rfl rfl⟩
theorem C_ka {w : World} {A : Option Addr} {n : Nat} {l : List S29} (h : Kd.C k29a w A n l) : Kd.C k29 w A n l := h
theorem S_ka {w : World} {e base : Nat} {ok : Nat → Prop} {v : Value} {l : List S29} (h : Kd.S k29a e w base ok v l) : Kd.S k29 e w base ok v l := by
  obtain ⟨f, h0, inner, ho, hr⟩ := h; exact ⟨f, h0, inner, ho, hr.1, fun j p hj => (hr.2 j p hj).1⟩
def impl_cloneReports.l0 : Nat → List (S29) → List (S29) → Int → Int → Option ((List (S29)))
 | 0, _, _, _, _ => none
 | k + 1, x3, x7, x8, x9 => if x9 < x8 then (if 0 ≤ x9 then (if x9 < (x7.length : Int) then ((impl_cloneReport.f ((rd_T29 x7 x9).f0) ((rd_T29 x7 x9).f1) ((rd_T29 x7 x9).f2) ((rd_T29 x7 x9).f3) ((rd_T29 x7 x9).f4) ((rd_T29 x7 x9).f5) ((rd_T29 x7 x9).f6.f0) ((rd_T29 x7 x9).f6.f1)).bind fun D => (if x3.length < 1466015503701 then (impl_cloneReports.l0 k (x3 ++ [(⟨D.1, D.2.1, D.2.2.1, D.2.2.2.1, D.2.2.2.2.1, D.2.2.2.2.2.1, (⟨D.2.2.2.2.2.2.1, D.2.2.2.2.2.2.2⟩ : S27)⟩ : S29)]) x7 x8 (wrap64 (x9 + 1))) else (none))) else (none)) else (none)) else (some x3)
def impl_cloneReports.f (k : Nat) (l0 : List (S29)) : Option ((List (S29))) := impl_cloneReports.l0 k (([] : List (S29))) l0 (l0.length : Int) 0
theorem impl_cloneReports.mono_l : ∀ k, (∀ y0 y1 y2 y3, LeO (impl_cloneReports.l0 k y0 y1 y2 y3) (impl_cloneReports.l0 (k + 1) y0 y1 y2 y3))
 | 0 => fun _ _ _ _ r h => by simp [impl_cloneReports.l0] at h
 | k + 1 => by
  have ih0 := impl_cloneReports.mono_l k
  ·intro y0 y1 y2 y3; unfold impl_cloneReports.l0
   repeat' first
   | (with_reducible exact ih0 _ _ _ _)
   | (with_reducible exact LeO.refl _)
   | (with_reducible exact LeO.none _)
   | (with_reducible refine LeO.ite ?_ ?_)
   | (with_reducible refine LeO.bind ?_ (fun _ => ?_))
   | exact ih0 _ _ _ _
   | exact LeO.none _
   | refine LeO.ite ?_ ?_
   | refine LeO.bind ?_ (fun _ => ?_)
theorem impl_cloneReports.mono : ∀ a0 k, LeO (impl_cloneReports.f k a0) (impl_cloneReports.f (k + 1) a0) := by
 intro a0 k; have ih0 := impl_cloneReports.mono_l k; unfold impl_cloneReports.f
 repeat' first
   | (with_reducible exact ih0 _ _ _ _)
   | (with_reducible exact LeO.refl _)
   | (with_reducible exact LeO.none _)
   | (with_reducible refine LeO.ite ?_ ?_)
   | (with_reducible refine LeO.bind ?_ (fun _ => ?_))
   | exact ih0 _ _ _ _
   | exact LeO.none _
   | refine LeO.ite ?_ ?_
   | refine LeO.bind ?_ (fun _ => ?_)
set_option maxHeartbeats 8000000 in
set_option maxRecDepth 100000 in
theorem impl_cloneReports.calls (k : Nat) (A0 : Option Addr) (c0 : Nat) (l0 : List (S29)) (r : List (S29)) (w : World) (hr0 : Kd.C k29 w A0 l0.length l0) (hc0 : l0.length ≤ c0) (h : impl_cloneReports.f k l0 = some r) :
  Calls Try.prog 28 #[.slice A0 l0.length c0] w fun e w' => ∃ v0_ : Value, e = .returned (v0_) ∧ Kd.S k29a 29 w' w.heap.size (fun _ => True) v0_ r ∧ Below w.heap.size w w' := by
 have hu29 := Try.underlying29; have a6 := Aside0.mk hr0; have bm := Aside0.mk hc0; clear hr0 hc0; have HB := aM (Below.refl w.heap.size w); have H : (impl_cloneReports.l0 k (([] : List (S29))) l0 (l0.length : Int) 0) = some r := h; clear h; obtain ⟨a7, aq⟩ : ∃ y_ : List (S29), y_ = (([] : List (S29))) := ⟨_, rfl⟩
 (first | replace H := bY H aq | rw [← aq] at H | skip); have aD := Aside0.mk aq; clear aq; have H' := Aside0.mk H; clear H; go_enter Try.func28, Try.ntmps28; go_wp2_with (first | ((with_reducible refine gate_dst (N := 6) rfl ?_); refine Kd.S_lit k29a _ 29 ?hg (N := 6) ?hd (xs := ([] : List (S29))) (inner := []) (ok := fun _ => True) (okp := fun _ => True) ?hr ?hp (fun _ hk => hk) trivial (Below.refl _ _) (Nat.le_refl _) (by simp) ?_; (case hd => rfl); (case hg => rfl); (case hr => first | (go_simp; done) | (go_simp; rfl)); (case hp => exact (Reps.none _ _)); intro bn w2 ag hb hg_ hnew_; clear hg_ hnew_; (first | rw [← aD.out] at ag | (simp only [Int.reduceToNat] at ag; rw [← aD.out] at ag)); have a8 := aM (Kd.S_lower ag (below_size (qB HB))); replace HB := aM (below_step (qB HB) hb); clear hb ag)); go_loopg [3, 9] k (fun kq v3 v9 w' => ∃ (ab : List (S29)) (D : Int), v9 = .int .i64 D ∧ Aside0 (impl_cloneReports.l0 kq ab l0 (l0.length : Int) D = some r) ∧ Aside0 (kq ≤ k) ∧ Aside0 (Kd.S k29a 29 w' w.heap.size (fun _ => True) v3 ab) ∧ Aside0 (Below w.heap.size w w'))
 case atStart => exact ⟨(a7), (0), tS, H', ⟨Nat.le_refl _⟩, ⟨by (with_reducible repeat (first | apply Kd.S_alloc | apply Kd.S_drewN | apply Kd.S_drew)); exact a8.out⟩, ⟨tB0⟩⟩
 case round =>
  clear H'; try clear c2
  try clear p2
  obtain ⟨ab, D, rfl, HA, aE, L, HB⟩ := hrel; cases gk with
  | zero => exact absurd HA.out (by simp [impl_cloneReports.l0])
  | succ k1 =>
   have H := HA.out; clear HA; simp only [impl_cloneReports.l0] at H; by_cases c4 : D < (l0.length : Int)
   ·rw [if_pos c4] at H; have ba : decide (D < (l0.length : Int)) = true := decide_eq_true c4; clear c4; by_cases c5 : 0 ≤ D
    ·rw [if_pos c5] at H; have bq : decide (0 ≤ D) = true := decide_eq_true c5; clear c5; by_cases c6 : D < (l0.length : Int)
     ·rw [if_pos c6] at H; have br : decide (D < (l0.length : Int)) = true := decide_eq_true c6; clear c6; replace H := Option.bind_eq_some_iff.mp H; obtain ⟨⟨ah, ai, ae, aj, ak, af, al, am⟩, aG, H⟩ := H; have A7 := Aside0.mk aG; clear aG; by_cases c8 : ab.length < 1466015503701
      ·rw [if_pos c8] at H; have bc := Aside0.mk c8; clear c8; obtain ⟨bd, aw⟩ : ∃ y_ : List (S29), y_ = (ab ++ [(⟨ah, ai, ae, aj, ak, af, (⟨al, am⟩ : S27)⟩ : S29)]) := ⟨_, rfl⟩
       (first | replace H := bY H aw | rw [← aw] at H | skip); have bf := Aside0.mk aw; clear aw; have H' := Aside0.mk H; clear H; have ay : 0 ≤ (D : Int) := of_decide_eq_true ‹_›; have az : D < (l0.length : Int) := of_decide_eq_true ‹_›; obtain ⟨bs, A134_2, c134_2, A134_5, c134_5, bg, aH, aI, aJ, aK, aN, aQ, aT, aU, aV, hi134_2, aW, hi134_5⟩ := at_T29 a6.out D ay az; cases bg
       replace aH := cB HB aH; replace aI := cB HB aI; replace aJ := cB HB aJ; replace aK := cB HB aK; replace aN := cB HB aN; replace aQ := cB HB aQ; replace aT := cB HB aT; replace aU := cB HB aU; have bh := Aside0.mk hi134_2; have HC134_2 := Aside0.mk aV; clear hi134_2 aV; have bi := Aside0.mk hi134_5; have HC134_5 := Aside0.mk aW; clear hi134_5 aW; replace ay := eq_true ay; replace az := eq_true az; go_wp2_with (first | ((with_reducible refine gate_dst (N := 5) rfl ?_); refine bx 5 #[.int .i64 0, .int .i64 0, .slice none 0 0, .int .i64 0, .int .i64 0, .slice none 0 0, .int .i64 0, .int .i64 0] 29 ?_; intro J hg w9 hbox hb; replace L := aM (Kd.S_below (Kd.S_elderB (by (with_reducible repeat (first | apply Kd.S_alloc | apply Kd.S_drewN | apply Kd.S_drew)); exact L.out) J (Nat.le_of_eq hg.symm)) hb); have Y := aM hbox; have bu := aM ((by rw [hg]; exact (below_size (qB HB)) : w.heap.size ≤ J)); have aa := aM ((by rw [hg]; exact (below_size (qB HB)) : w.heap.size ≤ J)); replace HB := aM (below_step (qB HB) hb); clear hb hbox hg; obtain ⟨bv, bw, bz, bB, bC, bE, bF, bG⟩ := cz8 Y; obtain ⟨bH, bI, bJ, bK, bL, bM, bO, bP⟩ := fz8 Y) | ((with_reducible refine gate_callee (f := 29) rfl ?_); refine gl 15 Try.func29 #[.agg #[.int .i64 ((rd_T29 l0 D).f0), .int .i64 ((rd_T29 l0 D).f1), .slice A134_2 ((rd_T29 l0 D).f2).length c134_2, .int .i64 ((rd_T29 l0 D).f3), .int .i64 ((rd_T29 l0 D).f4), .slice A134_5 ((rd_T29 l0 D).f5).length c134_5, .int .i64 ((rd_T29 l0 D).f6.f0), .int .i64 ((rd_T29 l0 D).f6.f1)]] ?_; (with_reducible refine (impl_cloneReport.calls ((rd_T29 l0 D).f0) ((rd_T29 l0 D).f1) _ _ ((rd_T29 l0 D).f2) ((rd_T29 l0 D).f3) ((rd_T29 l0 D).f4) _ _ ((rd_T29 l0 D).f5) ((rd_T29 l0 D).f6.f0) ((rd_T29 l0 D).f6.f1) ah ai ae aj ak af al am _ ?side1 ?side2 ?side3 ?side4 A7.out).mono ?_); (case side1 => exact Kd.C_below bh.out (tB1 aa)); (case side2 => exact HC134_2.out); (case side3 => exact Kd.C_below bi.out (tB1 aa)); (case side4 => exact HC134_5.out); rintro e bQ ⟨bT, bU, rfl, aA, aC, hb⟩; refine ⟨_, rfl, ?_⟩; replace L := aM (Kd.S_mono (Kd.S_told (Kd.S_told (Kd.S_old (by (with_reducible repeat (first | apply Kd.S_alloc | apply Kd.S_drewN | apply Kd.S_drew)); exact (Kd.S_mono (Kd.S_far (p := ⟨J, 7, none⟩) (Kd.S_far (p := ⟨J, 6, none⟩) (Kd.S_far (p := ⟨J, 5, none⟩) (Kd.S_far (p := ⟨J, 4, none⟩) (Kd.S_far (p := ⟨J, 3, none⟩) (Kd.S_far (p := ⟨J, 2, none⟩) (Kd.S_far (p := ⟨J, 1, none⟩) (Kd.S_far (p := ⟨J, 0, none⟩) (Kd.S_mono L.out (fun k_ hk => (⟨hk, hk.2⟩ : _ ∧ k_ ≠ J))) (fun _ hk => hk.2) (.int .i64 ((rd_T29 l0 D).f0))) (fun _ hk => hk.2) (.int .i64 ((rd_T29 l0 D).f1))) (fun _ hk => hk.2) (.slice A134_2 ((rd_T29 l0 D).f2).length c134_2)) (fun _ hk => hk.2) (.int .i64 ((rd_T29 l0 D).f3))) (fun _ hk => hk.2) (.int .i64 ((rd_T29 l0 D).f4))) (fun _ hk => hk.2) (.slice A134_5 ((rd_T29 l0 D).f5).length c134_5)) (fun _ hk => hk.2) (.int .i64 ((rd_T29 l0 D).f6.f0))) (fun _ hk => hk.2) (.int .i64 ((rd_T29 l0 D).f6.f1))) (fun _ h_ => h_.1))) hb) (Kd.R_base aA)) (Kd.R_base aC)) (fun _ h_ => h_.1)); have ao := aM (Kd.R_lower aA (below_size (tB1 aa))); have ax := aM (Kd.R_lower aC (below_size (tB1 aa))); replace Y := aM (blk_below (g := J) (o := .cells #[.int .i64 ((rd_T29 l0 D).f0), .int .i64 ((rd_T29 l0 D).f1), .slice A134_2 ((rd_T29 l0 D).f2).length c134_2, .int .i64 ((rd_T29 l0 D).f3), .int .i64 ((rd_T29 l0 D).f4), .slice A134_5 ((rd_T29 l0 D).f5).length c134_5, .int .i64 ((rd_T29 l0 D).f6.f0), .int .i64 ((rd_T29 l0 D).f6.f1)] 29 (0, 0)) (by (with_reducible repeat first | refine kN ?_ _ | refine kD ?_ | refine kA ?_ _); refine blk_put (cs := #[.int .i64 ((rd_T29 l0 D).f0), .int .i64 ((rd_T29 l0 D).f1), .slice A134_2 ((rd_T29 l0 D).f2).length c134_2, .int .i64 ((rd_T29 l0 D).f3), .int .i64 ((rd_T29 l0 D).f4), .slice A134_5 ((rd_T29 l0 D).f5).length c134_5, .int .i64 ((rd_T29 l0 D).f6.f0), .int .i64 0]) ?_ 7 _ rfl; (with_reducible repeat first | refine kN ?_ _ | refine kD ?_ | refine kA ?_ _); refine blk_put (cs := #[.int .i64 ((rd_T29 l0 D).f0), .int .i64 ((rd_T29 l0 D).f1), .slice A134_2 ((rd_T29 l0 D).f2).length c134_2, .int .i64 ((rd_T29 l0 D).f3), .int .i64 ((rd_T29 l0 D).f4), .slice A134_5 ((rd_T29 l0 D).f5).length c134_5, .int .i64 0, .int .i64 0]) ?_ 6 _ rfl; (with_reducible repeat first | refine kN ?_ _ | refine kD ?_ | refine kA ?_ _); refine blk_put (cs := #[.int .i64 ((rd_T29 l0 D).f0), .int .i64 ((rd_T29 l0 D).f1), .slice A134_2 ((rd_T29 l0 D).f2).length c134_2, .int .i64 ((rd_T29 l0 D).f3), .int .i64 ((rd_T29 l0 D).f4), .slice none 0 0, .int .i64 0, .int .i64 0]) ?_ 5 _ rfl; (with_reducible repeat first | refine kN ?_ _ | refine kD ?_ | refine kA ?_ _); refine blk_put (cs := #[.int .i64 ((rd_T29 l0 D).f0), .int .i64 ((rd_T29 l0 D).f1), .slice A134_2 ((rd_T29 l0 D).f2).length c134_2, .int .i64 ((rd_T29 l0 D).f3), .int .i64 0, .slice none 0 0, .int .i64 0, .int .i64 0]) ?_ 4 _ rfl; (with_reducible repeat first | refine kN ?_ _ | refine kD ?_ | refine kA ?_ _); refine blk_put (cs := #[.int .i64 ((rd_T29 l0 D).f0), .int .i64 ((rd_T29 l0 D).f1), .slice A134_2 ((rd_T29 l0 D).f2).length c134_2, .int .i64 0, .int .i64 0, .slice none 0 0, .int .i64 0, .int .i64 0]) ?_ 3 _ rfl; (with_reducible repeat first | refine kN ?_ _ | refine kD ?_ | refine kA ?_ _); refine blk_put (cs := #[.int .i64 ((rd_T29 l0 D).f0), .int .i64 ((rd_T29 l0 D).f1), .slice none 0 0, .int .i64 0, .int .i64 0, .slice none 0 0, .int .i64 0, .int .i64 0]) ?_ 2 _ rfl; (with_reducible repeat first | refine kN ?_ _ | refine kD ?_ | refine kA ?_ _); refine blk_put (cs := #[.int .i64 ((rd_T29 l0 D).f0), .int .i64 0, .slice none 0 0, .int .i64 0, .int .i64 0, .slice none 0 0, .int .i64 0, .int .i64 0]) ?_ 1 _ rfl; (with_reducible repeat first | refine kN ?_ _ | refine kD ?_ | refine kA ?_ _); refine blk_put (cs := #[.int .i64 0, .int .i64 0, .slice none 0 0, .int .i64 0, .int .i64 0, .slice none 0 0, .int .i64 0, .int .i64 0]) ?_ 0 _ rfl; (with_reducible repeat first | refine kN ?_ _ | refine kD ?_ | refine kA ?_ _); exact Y.out) hb); replace HB := aM (below_step (tB1 aa) hb); (try clear hb); (try clear hb2); (try clear hk); (try clear hi); (try clear aA); (try clear aC); obtain ⟨aX, aY, bj⟩ := Kd.R_slice ao.out; subst bj; obtain ⟨aZ, a3, bk⟩ := Kd.R_slice ax.out; subst bk) | ((with_reducible refine gate_builtin (b := .append) (xs := #[.tmp 13, .tmp 16]) rfl ?_); at_builtin; refine Kd.S_append k29a (w0 := w) w.heap.size rfl (.tmp 13) (.tmp 16) 24 29 (.agg #[(.int .i64 0), (.int .i64 0), (.slice none 0 0), (.int .i64 0), (.int .i64 0), (.slice none 0 0), (.int .i64 0), (.int .i64 0)]) 96 rfl Try.underlying24 info29 rfl (by decide) (by omega) u3 ab (⟨ah, ai, ae, aj, ak, af, (⟨al, am⟩ : S27)⟩ : S29) [.int .i64 ah, .int .i64 ai, .slice aX ae.length aY, .int .i64 aj, .int .i64 ak, .slice aZ af.length a3, .int .i64 al, .int .i64 am] (fun k_ => k_ ≠ J) (fun k_ => some k_ = (.slice aX ae.length aY : Value).ownBlock ∨ some k_ = (.slice aZ af.length a3 : Value).ownBlock) rfl rfl ?aP (fun k_ hk_ => hk_.elim (fun h_ => ((Kd.R_mono (ok' := fun k_ => ((fun k_ => k_ ≠ J)) k_ ∧ some k_ ≠ (u3 : Value).ownBlock) (Kd.R_types (Kd.R_apart' (ao.out) (Kd.S_typed L.out) (by decide)) Y.out (by decide)) (fun k_ hk => ⟨hk.2, hk.1.2⟩))).1 k_ h_.symm) (fun h_ => ((Kd.R_mono (ok' := fun k_ => ((fun k_ => k_ ≠ J)) k_ ∧ some k_ ≠ (u3 : Value).ownBlock) (Kd.R_types (Kd.R_apart' (ax.out) (Kd.S_typed L.out) (by decide)) Y.out (by decide)) (fun k_ hk => ⟨hk.2, hk.1.2⟩))).1 k_ h_.symm)) ?aF ?aO ?aB ?aS ?aL ?_; (case aP => exact k29a_mkM _ _ _ (⟨ah, ai, ae, aj, ak, af, (⟨al, am⟩ : S27)⟩ : S29) (Kd.R_mono (Kd.R_tight rfl (Kd.R_mono (ok' := fun k_ => ((fun k_ => k_ ≠ J)) k_ ∧ some k_ ≠ (u3 : Value).ownBlock) (Kd.R_types (Kd.R_apart' (ao.out) (Kd.S_typed L.out) (by decide)) Y.out (by decide)) (fun k_ hk => ⟨hk.2, hk.1.2⟩))) (fun _ h_ => Or.inl h_)) (Kd.R_mono (Kd.R_tight rfl (Kd.R_mono (ok' := fun k_ => ((fun k_ => k_ ≠ J)) k_ ∧ some k_ ≠ (u3 : Value).ownBlock) (Kd.R_types (Kd.R_apart' (ax.out) (Kd.S_typed L.out) (by decide)) Y.out (by decide)) (fun k_ hk => ⟨hk.2, hk.1.2⟩))) (fun _ h_ => Or.inr (h_))) (fun k_ hk_ e_ => ao.out.1 k_ hk_ e_.symm)); (case aB => exact (tB1 aa)); (case aF => exact (fun k_ hk => Kd.freshB (qK Y) k_ hk)); (case aO => exact (by (with_reducible repeat (first | apply Kd.S_alloc | apply Kd.S_drewN | apply Kd.S_drew)); exact Kd.S_mono L.out (fun k_ hk => ⟨hk.1.1.2, fun e_ => e_.elim (fun h_ => hk.1.2 h_) (fun h_ => hk.2 h_)⟩))); (case aS => exact (below_size (tB1 aa))); (case aL => have := bc.out; omega); intro bW bX ho hb hg hat; rw [← bf.out] at ho; replace Y := aM (blk_grown (qK Y) hg (Kd.S_away L.out (fun _ hk => hk.1.1.2))); replace HB := aM hb; have bl := aM ho; clear L; clear ao; clear ax; clear ho hb hg hat)); go_roundg k1
       case measure => have := aE.out; omega
       case rel => exact ⟨(bd), (wrap64 (D + 1)), tS, H', ⟨by have := aE.out; omega⟩, ⟨by (with_reducible repeat (first | apply Kd.S_alloc | apply Kd.S_drewN | apply Kd.S_drew)); exact Kd.S_mono bl.out (fun _ hk => trivial)⟩, ⟨tB1 aa⟩⟩
      ·rw [if_neg c8] at H; exact absurd H (by simp)
     ·rw [if_neg c6] at H; exact absurd H (by simp)
    ·rw [if_neg c5] at H; exact absurd H (by simp)
   ·rw [if_neg c4] at H; have ba : decide (D < (l0.length : Int)) = false := decide_eq_false c4; clear c4; obtain rfl := Option.some.inj H; go_wp2; go_ret; exact ⟨_, tE, by (with_reducible repeat (first | apply Kd.S_alloc | apply Kd.S_drewN | apply Kd.S_drew)); exact L.out, tB0⟩

-- NOT PRINTED: function 55 (impl_Report_55)

/-! ### impl_Report_30: function 30 -/
open Go.Proofs.Ytfolhmompclmbaa.Ins
def insRaw.f (l0 : List (List Value)) (a1 : Int) (l2 : List (List Value)) : Option (List (List Value)) := if 0 ≤ a1 ∧ a1 ≤ (l0.length : Int) ∧ 0 < l2.length ∧ l0.length + l2.length ≤ 4000000 then some (l0.take a1.toNat ++ l2 ++ l0.drop a1.toNat) else none
theorem flatR : Flat (Kd.raw 8) := fun _ _ _ _ _ _ _ _ h => h
set_option maxHeartbeats 4000000 in
set_option maxRecDepth 100000 in
theorem insR_end (P0_ : Nat → Prop) (u9000_ : Value) (l0 : List (List Value)) (P2_ : Nat → Prop) (u9001_ : Value) (l2 : List (List Value)) (w0 w : World) (hB : Below w0.heap.size w0 w) (ho0 : Kd.R (Kd.raw 8) 29 w w0.heap.size P0_ u9000_ l0) (ho2 : Kd.R (Kd.raw 8) 29 w w0.heap.size P2_ u9001_ l2) (a1 : Int) (ha1 : a1 = (l0.length : Int)) (hm : 0 < l2.length) (hbig : l0.length + l2.length ≤ 4000000) :
 Calls Try.prog 30 #[u9000_, .int .i64 a1, u9001_] w fun e w' => ∃ v0_ : Value, e = .returned v0_ ∧ Kd.R (Kd.raw 8) 29 w' w0.heap.size (fun k_ => ((P0_ k_ ∨ P2_ k_) ∨ w.heap.size ≤ k_)) v0_ (l0 ++ l2) ∧ Below w0.heap.size w0 w' ∧ Kept w w' (fun k_ => (P0_ k_ ∨ P2_ k_)) := by
 have hu29 := Try.underlying24
 have hz1 : ((l2.length : Int) == 0) = false := by rw [beq_eq_false_iff_ne]; omega
 have hself : (a1 == (l0.length : Int)) = true := beq_iff_eq.2 ha1
 obtain ⟨vb, vc, rfl, hvb, hvlt, vcells, hvblk⟩ := Kd.R_form ho2 hm
 obtain ⟨_, _, hC2⟩ := Kd.R_reads' ho2
 have HC2 := Aside0.mk hC2
 have HO0 := Aside0.mk (Kd.R_mono (ok' := fun k_ => ((P0_ k_ ∨ P2_ k_) ∨ w.heap.size ≤ k_)) ho0 (fun k_ hk => .inl (.inl hk)))
 have HOK := Aside0.mk ho0.1
 have HB := Aside0.mk hB
 have HL := Aside0.mk hbig
 clear hC2 hvblk ho2 hB hbig hvb hvlt
 obtain ⟨A0, c0, rfl, hc0, hC0⟩ := Kd.R_reads ho0
 obtain ⟨i0, hi0, _, hsz, _⟩ := info_parts info29
 obtain ⟨cv, hcut⟩ : ∃ cv : Value, ∀ W : World, (Instr.slice 24 (.slice A0 l0.length c0) (some (.int .i64 a1)) none none).run Try.prog W = .ok cv W := ⟨_, cut_from (P := Try.prog) 24 29 .i64 Try.underlying24 hi0 8 hsz A0 l0.length c0 a1 (by omega) (by omega)⟩
 clear ho0 hC0 ha1
 go_enter Try.func30, Try.ntmps30
 go_wp2_with (first | (at_builtin; refine Kd.R_append_rows (Kd.raw 8) (Rr := (Kd.raw 8).K w) (w0 := w0) w0.heap.size rfl (.tmp 23) (.tmp 24) 24 29 (.agg #[(.int .i64 0), (.int .i64 0), (.slice none 0 0), (.int .i64 0), (.int .i64 0), (.slice none 0 0), (.int .i64 0), (.int .i64 0)]) 96 rfl Try.underlying24 info29 rfl (by decide) (by decide) (.slice A0 l0.length c0) l0 l2 (some ⟨vb, 0, none⟩) l2.length vc (fun k_ => ((P0_ k_ ∨ P2_ k_) ∨ w.heap.size ≤ k_)) (fun _ => False) rfl rfl HO0.out HC2.out (fun _ _ h => h) (fun _ h => h.elim) (fun k hk => .inr hk) HB.out HB.out.size (by have := HL.out; omega) ?_; intro v1 w1 h1 h2 hg hat) | simp only [hcut])
 go_ret
 exact ⟨v1, rfl, h1, h2, Kept.of_grown hg (Kept.refl w _) (fun k hk => .inl (.inl (HOK.out k hk)))⟩
set_option maxHeartbeats 400000 in
set_option maxRecDepth 100000 in
theorem insR_shift (g c i vb m vc : Nat) (cs vs : List Value) (cur : Array Value) (n : Nat) (w : World) (vcells : Array Value) (hi : i < n) (hm : 0 < m) (hroom : n + m ≤ c) (hbig : n + m ≤ 4000000) (hcm : c ≤ maxLen) (hvb : vb ≠ g)
 (hg : w.heap[g]? = some (.cells cur 29 (0, 0))) (hv : w.heap[vb]? = some (.cells vcells 29 (0, 0))) (hcl : cs.length = n * 8) (hvl : vs.length = m * 8) (hcs : cur.toList.take (n * 8) = cs) (hvs : vcells.toList.take (m * 8) = vs) (hsz : cur.size = c * 8)
 (h1c : ∀ v ∈ cs, v.oneCell' = true) (h1v : ∀ v ∈ vs, v.oneCell' = true) (hv0 : vcells.size = vc * 8) :
 Calls Try.prog 30 #[.slice (some ⟨g, 0, none⟩) n c, .int .i64 (i : Int), .slice (some ⟨vb, 0, none⟩) m vc] w fun e w' => e = .returned (.slice (some ⟨g, 0, none⟩) (n + m) c) ∧ w' = (w.drew.setCells g ((i + m) * 8) (cs.drop (i * 8))).setCells g (i * 8) vs := by
 have hu29 := Try.underlying24
 obtain ⟨i0, hi0, _, hisz, _⟩ := info_parts info29
 have hinf : (Try.prog.info? 29).map (·.size) = some 8 := by rw [hi0]; simp [hisz]
 have hcm' : c ≤ 9223372036854775807 := by simpa only [maxLen] using hcm
 have hov : ∀ o lb cb, (callFunc 55 #[.slice (some ⟨vb, 0, none⟩) m vc, .slice (some ⟨g, o, none⟩) lb cb]).run Try.prog w = .ok (.value (.bool false)) w := fun o lb cb => by
  rw [run_callFunc_extern Try.func55 (by kernel_rfl) (by kernel_rfl) (by kernel_rfl) (e := Extern.SlicesOverlaps.overlaps #[24, 24] #[4]) (by kernel_rfl),
   Lib.run_overlaps_apart w 24 4 29 Try.underlying24 8 (fun w => by kernel_rfl) ⟨vb, 0, none⟩ ⟨g, o, none⟩ m vc lb cb hvb 29 29 vcells.size cur.size (by simp [World.shape?, hv]) (by simp [World.shape?, hg]) (by omega) (blk_frozen hv 0) (blk_frozen hv _)]
  rfl
 have hdl : (cs.drop (i * 8)).length = (n - i) * 8 := by rw [List.length_drop, hcl, Nat.sub_mul]
 have hcell : ∀ j v, cs[j]? = some v → w.cell? ⟨g, j, none⟩ = some v := fun j v hj => by
  rw [blk_cell hg j]
  rw [← hcs, List.getElem?_take] at hj
  split at hj
  ·simpa using hj
  ·cases hj
 have hvcell : ∀ j v, vs[j]? = some v → w.cell? ⟨vb, j, none⟩ = some v := fun j v hj => by
  rw [blk_cell hv j]
  rw [← hvs, List.getElem?_take] at hj
  split at hj
  ·simpa using hj
  ·cases hj
 have hsp : ∀ j, j < c * 8 → (w.cell? ⟨g, j, none⟩).isSome = true := fun j hj => by
  rw [blk_cell hg j, Array.getElem?_eq_getElem (by omega)]; rfl
 have hcp1 : ∀ ty dc sc, (Builtin.copy_ #[24, 24] ty #[.slice (some ⟨g, (i + m) * 8, none⟩) (n + m - (i + m)) dc, .slice (some ⟨g, i * 8, none⟩) (n + m - i) sc]).run Try.prog w.drew = .ok (goInt (Nat.min (n + m - i) (n + m - (i + m)))) (w.drew.setCells g ((i + m) * 8) (cs.drop (i * 8))) := fun ty dc sc =>
  copy_run w.drew 24 24 ty 29 g ((i + m) * 8) (n + m - (i + m)) dc ⟨g, i * 8, none⟩ (n + m - i) sc 8 (cs.drop (i * 8)) Try.underlying24 hinf (by rw [hdl, show Nat.min (n + m - i) (n + m - (i + m)) = n - i by simp only [Nat.min_def]; split <;> omega])
   (fun j v hj => by rw [Addr.add_lit]; exact hcell (i * 8 + j) v (by rwa [List.getElem?_drop] at hj))
   (fun j hj => hsp _ (by rw [hdl] at hj; omega)) (fun j hj => blk_frozen (w := w.drew) hg _) (fun v hv => h1c v (List.mem_of_mem_drop hv))
 obtain ⟨W1, hW1⟩ : ∃ W1, W1 = w.drew.setCells g ((i + m) * 8) (cs.drop (i * 8)) := ⟨_, rfl⟩
 have hsp1 : ∀ k, k < c * 8 → (W1.cell? ⟨g, k, none⟩).isSome = true := fun k hk => by
  rw [hW1]
  exact isSome_setCells g _ _ w.drew (fun j hj => hsp ((i + m) * 8 + j) (by rw [hdl] at hj; omega)) _ (hsp k hk)
 have hcp2 : ∀ (W : World), (∀ x, W.cell? x = W1.cell? x) → (∀ x, W.frozen? x = W1.frozen? x) → ∀ ty dc, (Builtin.copy_ #[24, 24] ty #[.slice (some ⟨g, i * 8, none⟩) (n + m - i) dc, .slice (some ⟨vb, 0, none⟩) m vc]).run Try.prog W = .ok (goInt (Nat.min m (n + m - i))) (W.setCells g (i * 8) vs) := fun W hWc hWf ty dc =>
  copy_run W 24 24 ty 29 g (i * 8) (n + m - i) dc ⟨vb, 0, none⟩ m vc 8 vs Try.underlying24 hinf (by rw [hvl, show Nat.min m (n + m - i) = m by simp only [Nat.min_def]; split <;> omega])
   (fun j v hj => by
    rw [Addr.add_lit, hWc, hW1, World.cell?_setCells_out g _ _ _ _ (fun h _ => absurd h hvb), Nat.zero_add]
    exact hvcell j v hj)
   (fun j hj => by rw [hWc]; exact hsp1 _ (by omega)) (fun j hj => by rw [hWf, hW1, World.frozen?_setCells]; exact blk_frozen (w := w.drew) hg _) h1v
 rw [← hW1] at hcp1
 have hz1 : ¬ ((m : Int) = 0) := by omega
 have hz2 : ¬ ((i : Int) = (n : Int)) := by omega
 have hb1 : (0 : Int) ≤ (i : Int) + (m : Int) := by omega
 have hin : i ≤ n := by omega
 have htn : ((i : Int) + (m : Int)).toNat = i + m := by omega
 have hb2 : ¬ (c = i + m) := by omega
 have hb3 : (i : Int) ≤ (n : Int) + (m : Int) := by omega
 have hb4 : ¬ (c = i) := by omega
 have hw1 : IntKind.i64.wrap ((i : Int) + (m : Int)) = (i : Int) + (m : Int) := by rw [IntKind.wrap_i64]; omega
 clear hinf hi0 hdl hg hv hcl hvl hcs hvs hsz h1c h1v hv0 hvb hcm hbig hisz hcell hvcell hsp hsp1
 have mixed : Try.prog.follows .mixedOrders = true := by rfl
 go_enter Try.func30, Try.ntmps30
 go_wp2_with (simp only [hov])
 go_region_law_o (refine step_copy_runI rfl _ _ 24 24 rfl _ _ (by simp [Act.eval, Act.put]) (by simp [Act.eval, Act.put]) (hcp1 _ _ _) ?_)
 go_wp2_with (at_builtin; refine wpList_copy_runI _ rfl _ _ 24 24 rfl _ _ rfl rfl (hcp2 _ (fun _ => rfl) (fun _ => rfl) _ _) ?_)
 go_ret
 first | exact ⟨rfl, rfl⟩ | exact ⟨rfl, by rw [hW1]⟩
set_option maxHeartbeats 4000000 in
set_option maxRecDepth 100000 in
theorem insR_grow (g c i vb m vc : Nat) (cs vs : List Value) (cur : Array Value) (n : Nat) (w : World) (vcells : Array Value) (hi : i < n) (hm : 0 < m) (hnc : n ≤ c) (hroom : c < n + m) (hbig : n + m ≤ 4000000)
 (hg : w.heap[g]? = some (.cells cur 29 (0, 0))) (hv : w.heap[vb]? = some (.cells vcells 29 (0, 0))) (hcl : cs.length = n * 8) (hvl : vs.length = m * 8) (hcs : cur.toList.take (n * 8) = cs) (hvs : vcells.toList.take (m * 8) = vs)
 (h1c : ∀ v ∈ cs, v.oneCell' = true) (h1v : ∀ v ∈ vs, v.oneCell' = true) :
 Calls Try.prog 30 #[.slice (some ⟨g, 0, none⟩) n c, .int .i64 (i : Int), .slice (some ⟨vb, 0, none⟩) m vc] w fun e w' => ∃ (G : Nat) (ROW : List Value), n + m ≤ G ∧ G ≤ maxLen ∧ ROW.length = G * 8 ∧ ROW.take (i * 8) = cs.take (i * 8) ∧
  e = .returned (.slice (some ⟨w.heap.size, 0, none⟩) (n + m) G) ∧ w' = (((w.alloc (.cells ROW.toArray 29)).drew.setCells w.heap.size (i * 8) vs).drew).setCells w.heap.size ((i + m) * 8) (cs.drop (i * 8)) := by
 have hu29 := Try.underlying24
 have hu3 := Try.underlying3
 obtain ⟨i0, hi0, hz0, hisz, hzb⟩ := info_parts info29
 have hinf : (Try.prog.info? 29).map (·.size) = some 8 := by rw [hi0]; simp [hisz]
 have hdl : (cs.drop (i * 8)).length = (n - i) * 8 := by rw [List.length_drop, hcl, Nat.sub_mul]
 have hgw : g < w.heap.size := blk_lt hg
 have hvw : vb < w.heap.size := blk_lt hv
 have hcell : ∀ j v, cs[j]? = some v → w.cell? ⟨g, j, none⟩ = some v := fun j v hj => by
  rw [blk_cell hg j]
  rw [← hcs, List.getElem?_take] at hj
  split at hj
  ·simpa using hj
  ·cases hj
 have hvcell : ∀ j v, vs[j]? = some v → w.cell? ⟨vb, j, none⟩ = some v := fun j v hj => by
  rw [blk_cell hv j]
  rw [← hvs, List.getElem?_take] at hj
  split at hj
  ·simpa using hj
  ·cases hj
 have hkk : (n : Int) + (m : Int) - (i : Int) = ((n + m - i : Nat) : Int) := by omega
 have hik : i + (n + m - i) = n + m := by omega
 have hold : (Builtin.firstCells i0.size i (.slice (some ⟨g, 0, none⟩) i c)).run Try.prog w.drew = .ok (cs.take (i * 8)).toArray w.drew := by
  rw [hisz]
  exact run_firstCells_some w.drew 8 i ⟨g, 0, none⟩ i c (cs.take (i * 8)) (by rw [List.length_take]; omega) (fun j v hj => by
   rw [Addr.add_lit, Nat.zero_add]
   rw [List.getElem?_take] at hj
   split at hj
   ·exact hcell j v hj
   ·cases hj)
 have hrz : ∀ ty, (Builtin.append_ #[24, 3] ty #[.slice (some ⟨g, 0, none⟩) i c, .int .i64 ((n : Int) + (m : Int) - (i : Int))]).run Try.prog w =
   .ok (.slice (some ⟨w.heap.size, 0, none⟩) (n + m) (grownCap w (n + m) c 29)) (w.drew.alloc (.cells ((cs.take (i * 8)).toArray ++ Builtin.zeroCells ((.agg #[(.int .i64 0), (.int .i64 0), (.slice none 0 0), (.int .i64 0), (.int .i64 0), (.slice none 0 0), (.int .i64 0), (.int .i64 0)]) : Value).cells (n + m - i) ++ Builtin.zeroCells ((.agg #[(.int .i64 0), (.int .i64 0), (.slice none 0 0), (.int .i64 0), (.int .i64 0), (.slice none 0 0), (.int .i64 0), (.int .i64 0)]) : Value).cells (grownCap w (n + m) c 29 - (n + m))) 29)) := fun ty => by
  have h := Lib.run_append_grow_zeros w 24 3 ty 29 i0 _ .i64 .i64 Try.underlying24 Try.underlying3 hi0 hz0 (some ⟨g, 0, none⟩) i c (cs.take (i * 8)) hold (n + m - i) (by omega) (by omega) (by omega) (by omega) (by rw [hzb]; omega) (by rw [hzb, hik]; exact growslice_fits hroom (by omega))
  rw [hik] at h
  rw [hkk]
  exact h
 have hGn : n + m ≤ grownCap w (n + m) c 29 := grownCap_ge w _ _ _
 have hGm : grownCap w (n + m) c 29 ≤ maxLen := grownCap_le_maxLen w (n + m) c 29 (by unfold maxLen; omega)
 obtain ⟨G, hG⟩ : ∃ G, G = grownCap w (n + m) c 29 := ⟨_, rfl⟩
 rw [← hG] at hrz hGn hGm
 obtain ⟨ROW, hROW⟩ : ∃ ROW : List Value, ROW = cs.take (i * 8) ++ (Builtin.zeroCells ((.agg #[(.int .i64 0), (.int .i64 0), (.slice none 0 0), (.int .i64 0), (.int .i64 0), (.slice none 0 0), (.int .i64 0), (.int .i64 0)]) : Value).cells (n + m - i)).toList ++ (Builtin.zeroCells ((.agg #[(.int .i64 0), (.int .i64 0), (.slice none 0 0), (.int .i64 0), (.int .i64 0), (.slice none 0 0), (.int .i64 0), (.int .i64 0)]) : Value).cells (G - (n + m))).toList := ⟨_, rfl⟩
 have hRa : (cs.take (i * 8)).toArray ++ Builtin.zeroCells ((.agg #[(.int .i64 0), (.int .i64 0), (.slice none 0 0), (.int .i64 0), (.int .i64 0), (.slice none 0 0), (.int .i64 0), (.int .i64 0)]) : Value).cells (n + m - i) ++ Builtin.zeroCells ((.agg #[(.int .i64 0), (.int .i64 0), (.slice none 0 0), (.int .i64 0), (.int .i64 0), (.slice none 0 0), (.int .i64 0), (.int .i64 0)]) : Value).cells (G - (n + m)) = ROW.toArray := by
  rw [hROW, ← Array.toList_inj]
  simp
 rw [hRa] at hrz
 have hzs : ∀ k, (Builtin.zeroCells ((.agg #[(.int .i64 0), (.int .i64 0), (.slice none 0 0), (.int .i64 0), (.int .i64 0), (.slice none 0 0), (.int .i64 0), (.int .i64 0)]) : Value).cells k).toList.length = k * 8 := fun k => by rw [Array.length_toList, size_zeroCells]; rfl
 have hRl : ROW.length = G * 8 := by
  rw [hROW, List.length_append, List.length_append, hzs, hzs, List.length_take]
  omega
 have hRt : ROW.take (i * 8) = cs.take (i * 8) := by
  rw [hROW, List.append_assoc]
  exact List.take_left' (by rw [List.length_take]; omega)
 obtain ⟨W1, hW1⟩ : ∃ W1, W1 = w.drew.alloc (.cells ROW.toArray 29) := ⟨_, rfl⟩
 rw [← hW1] at hrz
 have hN : ∀ j, j < G * 8 → (W1.cell? ⟨w.heap.size, j, none⟩).isSome = true := fun j hj => by
  rw [hW1, World.cell?_alloc_at (w := w.drew) ROW.toArray _ w.heap.size j rfl, Array.getElem?_eq_getElem (by simpa [hRl] using hj)]; rfl
 have hNf : ∀ j, W1.frozen? ⟨w.heap.size, j, none⟩ = false := fun j => by rw [hW1]; exact World.frozen?_alloc_at (w := w.drew) ROW.toArray _ w.heap.size j rfl
 have hOb : ∀ j v, w.cell? ⟨g, j, none⟩ = some v → W1.cell? ⟨g, j, none⟩ = some v := fun j v h => by rw [hW1, World.cell?_alloc_past (w := w.drew) _ g j hgw]; exact h
 have hOv : ∀ j v, w.cell? ⟨vb, j, none⟩ = some v → W1.cell? ⟨vb, j, none⟩ = some v := fun j v h => by rw [hW1, World.cell?_alloc_past (w := w.drew) _ vb j hvw]; exact h
 have hcpA : ∀ (W : World), (∀ x, W.cell? x = W1.cell? x) → (∀ x, W.frozen? x = W1.frozen? x) → ∀ ty dc, (Builtin.copy_ #[24, 24] ty #[.slice (some ⟨w.heap.size, i * 8, none⟩) (n + m - i) dc, .slice (some ⟨vb, 0, none⟩) m vc]).run Try.prog W = .ok (goInt (Nat.min m (n + m - i))) (W.setCells w.heap.size (i * 8) vs) := fun W hWc hWf ty dc =>
  copy_run W 24 24 ty 29 w.heap.size (i * 8) (n + m - i) dc ⟨vb, 0, none⟩ m vc 8 vs Try.underlying24 hinf (by rw [hvl, show Nat.min m (n + m - i) = m by simp only [Nat.min_def]; split <;> omega])
   (fun j v hj => by rw [Addr.add_lit, hWc, Nat.zero_add]; exact hOv _ v (hvcell j v hj))
   (fun j hj => by rw [hWc]; exact hN (i * 8 + j) (by omega)) (fun j hj => by rw [hWf]; exact hNf _) h1v
 have hG63 : G ≤ 9223372036854775807 := by simpa only [maxLen] using hGm
 have hGi : ¬ (G = i) := by omega
 have hGim : ¬ (G = i + m) := by omega
 have hci : ¬ (c = i) := by omega
 have hbN : g ≠ w.heap.size := by omega
 have hcpB : ∀ (W : World), (∀ x, W.cell? x = (W1.setCells w.heap.size (i * 8) vs).cell? x) → (∀ x, W.frozen? x = (W1.setCells w.heap.size (i * 8) vs).frozen? x) → ∀ ty dc sc, (Builtin.copy_ #[24, 24] ty #[.slice (some ⟨w.heap.size, (i + m) * 8, none⟩) (n + m - (i + m)) dc, .slice (some ⟨g, i * 8, none⟩) (n - i) sc]).run Try.prog W = .ok (goInt (Nat.min (n - i) (n + m - (i + m)))) (W.setCells w.heap.size ((i + m) * 8) (cs.drop (i * 8))) := fun W hWc hWf ty dc sc =>
  copy_run W 24 24 ty 29 w.heap.size ((i + m) * 8) (n + m - (i + m)) dc ⟨g, i * 8, none⟩ (n - i) sc 8 (cs.drop (i * 8)) Try.underlying24 hinf (by rw [hdl, show Nat.min (n - i) (n + m - (i + m)) = n - i by simp only [Nat.min_def]; split <;> omega])
   (fun j v hj => by
    rw [Addr.add_lit, hWc, World.cell?_setCells_out _ _ _ _ _ (fun h _ => absurd h hbN)]
    exact hOb _ v (hcell (i * 8 + j) v (by rwa [List.getElem?_drop] at hj)))
   (fun j hj => by rw [hWc]; exact isSome_setCells _ _ _ _ (fun t ht => hN (i * 8 + t) (by omega)) _ (hN ((i + m) * 8 + j) (by rw [hdl] at hj; omega)))
   (fun j hj => by rw [hWf, World.frozen?_setCells]; exact hNf _) (fun v hv => h1c v (List.mem_of_mem_drop hv))
 subst hW1
 have hE1 : ∀ x, ((w.alloc (.cells ROW.toArray 29)).drew).cell? x = (w.drew.alloc (.cells ROW.toArray 29)).cell? x := fun x => rfl
 have hE2 : ∀ x, ((w.alloc (.cells ROW.toArray 29)).drew).frozen? x = (w.drew.alloc (.cells ROW.toArray 29)).frozen? x := fun x => rfl
 have hF1 : ∀ x, (((w.alloc (.cells ROW.toArray 29)).drew.setCells w.heap.size (i * 8) vs).drew).cell? x = ((w.drew.alloc (.cells ROW.toArray 29)).setCells w.heap.size (i * 8) vs).cell? x := fun x => rfl
 have hF2 : ∀ x, (((w.alloc (.cells ROW.toArray 29)).drew.setCells w.heap.size (i * 8) vs).drew).frozen? x = ((w.drew.alloc (.cells ROW.toArray 29)).setCells w.heap.size (i * 8) vs).frozen? x := fun x => rfl
 have hz1 : ¬ ((m : Int) = 0) := by omega
 have hz2 : ¬ ((i : Int) = (n : Int)) := by omega
 have hz3 : (c : Int) < (n : Int) + (m : Int) := by omega
 have hw1 : IntKind.i64.wrap ((i : Int) + (m : Int)) = (i : Int) + (m : Int) := by rw [IntKind.wrap_i64]; omega
 have hb1 : (0 : Int) ≤ (i : Int) + (m : Int) := by omega
 have hin : i ≤ n := by omega
 have htn : ((i : Int) + (m : Int)).toNat = i + m := by omega
 have hb3 : (i : Int) ≤ (n : Int) := by omega
 have mixed : Try.prog.follows .mixedOrders = true := by rfl
 have HX := Aside0.mk (And.intro hGn (And.intro hGm (And.intro hRl hRt)))
 clear hkk hik hold hROW hG hRa hinf hi0 hz0 hisz hzb hdl hg hv hcl hvl hcs hvs h1c h1v hcell hvcell hzs hRl hRt hN hNf hOb hOv hGm
 go_enter Try.func30, Try.ntmps30
 go_wp2_with (first
  | (at_builtin; refine Lib.wpList_append_run _ rfl _ _ _ _ rfl _ _ rfl rfl _ _ (hrz _) ?_)
  | (at_builtin; refine wpList_copy_runI _ rfl _ _ 24 24 rfl _ _ rfl rfl (hcpA _ hE1 hE2 _ _) ?_)
  | (at_builtin; refine wpList_copy_runI _ rfl _ _ 24 24 rfl _ _ rfl rfl (hcpB _ (fun _ => rfl) (fun _ => rfl) _ _ _) ?_))
 go_region_law_o (refine step_copy_runI rfl _ _ 24 24 rfl (.slice (some ⟨w.heap.size, (i + m) * 8, none⟩) (n + m - (i + m)) (G - (i + m))) (.slice (some ⟨g, i * 8, none⟩) (n - i) (c - i)) (by simp [Act.eval, Act.put]) (by simp [Act.eval, Act.put]) (hcpB _ hF1 hF2 3 (G - (i + m)) (c - i)) ?_)
 go_wp2
 go_ret
 exact ⟨G, ROW, HX.out.1, HX.out.2.1, HX.out.2.2.1, HX.out.2.2.2, rfl, rfl⟩
set_option maxHeartbeats 4000000 in
theorem insRaw.calls (P0_ : Nat → Prop) (u9000_ : Value) (l0 : List (List Value)) (a1 : Int) (P2_ : Nat → Prop) (u9001_ : Value) (l2 : List (List Value)) (r1 : List (List Value)) (w0 w : World) (hB : Below w0.heap.size w0 w)
 (ho0 : Kd.R (Kd.raw 8) 29 w w0.heap.size P0_ u9000_ l0) (hp0_2 : ∀ k_, P0_ k_ → ¬ P2_ k_) (ho2 : Kd.R (Kd.raw 8) 29 w w0.heap.size P2_ u9001_ l2) (hp2_0 : ∀ k_, P2_ k_ → ¬ P0_ k_) (h : insRaw.f l0 a1 l2 = some r1) :
 Calls Try.prog 30 #[u9000_, .int .i64 a1, u9001_] w fun e w' => ∃ v0_ : Value, e = .returned v0_ ∧ Kd.R (Kd.raw 8) 29 w' w0.heap.size (fun k_ => ((P0_ k_ ∨ P2_ k_) ∨ w.heap.size ≤ k_)) v0_ r1 ∧ Below w0.heap.size w0 w' ∧ Kept w w' (fun k_ => (P0_ k_ ∨ P2_ k_)) := by
 rw [insRaw.f] at h
 by_cases hc : 0 ≤ a1 ∧ a1 ≤ (l0.length : Int) ∧ 0 < l2.length ∧ l0.length + l2.length ≤ 4000000
 ·rw [if_pos hc] at h
  injection h with h
  subst h
  obtain ⟨ha0, ha1, hm, hbig⟩ := hc
  by_cases he : a1 = (l0.length : Int)
  ·have e1 : l0.take a1.toNat ++ l2 ++ l0.drop a1.toNat = l0 ++ l2 := by
    rw [he, Int.toNat_natCast, List.take_length, List.drop_length, List.append_nil]
   rw [e1]
   exact insR_end P0_ u9000_ l0 P2_ u9001_ l2 w0 w hB ho0 ho2 a1 he hm hbig
  ·obtain ⟨i, rfl⟩ : ∃ i : Nat, a1 = i := ⟨a1.toNat, by omega⟩
   have hi : i < l0.length := by omega
   rw [Int.toNat_natCast]
   obtain ⟨hok0, cs, hown0, hrep0⟩ := ho0
   obtain ⟨hok2, vs, hown2, hrep2⟩ := ho2
   have hbase : w0.heap.size ≤ w.heap.size := hB.size
   have h1c := reps_one hrep0 (by decide)
   have h1v := reps_one hrep2 (by decide)
   have hcl : cs.length = l0.length * 8 := hrep0.1
   have hvl : vs.length = l2.length * 8 := hrep2.1
   have hrep : Reps ((Kd.raw 8).M w w0.heap.size (fun _ => True)) (Kd.raw 8).sz (l0.take i ++ l2 ++ l0.drop i) (cs.take (i * (Kd.raw 8).sz) ++ vs ++ cs.drop (i * (Kd.raw 8).sz)) :=
    reps_ins (hrep0.imp_ (fun _ _ hp => flatR _ _ _ _ _ _ _ _ hp)) (hrep2.imp_ (fun _ _ hp => flatR _ _ _ _ _ _ _ _ hp)) i (by omega)
   have hlen : (l0.take i ++ l2 ++ l0.drop i).length = l0.length + l2.length := by
    rw [List.length_append, List.length_append, List.length_take, List.length_drop]; omega
   rcases hown0.2 with ⟨rfl, hn⟩ | ⟨g, c, cur, rfl, hb, hh, hnc, hcm, hsz, ht⟩
   ·omega
   rcases hown2.2 with ⟨rfl, hn⟩ | ⟨vb, vc, vcur, rfl, hvb, hvh, hvnc, hvcm, hvsz, hvt⟩
   ·omega
   have hne : vb ≠ g := fun e => hp0_2 g (hok0 g rfl) (e ▸ hok2 vb rfl)
   have hsz' : cur.toList.length = c * 8 := by rw [Array.length_toList]; exact hsz
   have hvsz' : vcur.size = vc * 8 := hvsz
   by_cases hroom : l0.length + l2.length ≤ c
   ·refine (insR_shift g c i vb l2.length vc cs vs cur l0.length w vcur hi hm hroom hbig hcm hne hh hvh hcl hvl ht hvt hsz h1c h1v hvsz).mono ?_
    rintro e w' ⟨rfl, rfl⟩
    have hg1 : w.grownBy ((w.drew.setCells g ((i + l2.length) * 8) (cs.drop (i * 8))).setCells g (i * 8) vs) (some g) := grown_trans (grown_trans (grown_drew w _) (grown_setCells _ _ _ _)) (grown_setCells _ _ _ _)
    have hdl : (cs.drop (i * 8)).length = (l0.length - i) * 8 := by rw [List.length_drop, hcl, Nat.sub_mul]
    have hl1 : (setL cur.toList ((i + l2.length) * 8) (cs.drop (i * 8))).length = c * 8 := by rw [setL_len _ _ _ (by omega), hsz']
    have hblk := blk_setCells g 29 vs (i * 8) _ _ (blk_setCells g 29 (cs.drop (i * 8)) ((i + l2.length) * 8) w.drew cur.toList (by rw [Array.toArray_toList]; exact hh) (by omega)) (by omega)
    refine ⟨_, rfl, ?_, hB.grown hg1 hbase (fun k hk => by injection hk with hk; omega), Kept.of_grown hg1 (Kept.refl w _) (fun k hk => .inl (.inl (hok0 k hk)))⟩
    have hL := shift_list cur.toList cs vs (i * 8) (l0.length * 8) (by omega) ht (by omega)
    rw [show i * 8 + vs.length = (i + l2.length) * 8 by omega] at hL
    have hR := R_cells (d := (Kd.raw 8)) (e := 29) (base := w0.heap.size) (ok := fun k_ => ((P0_ k_ ∨ P2_ k_) ∨ w.heap.size ≤ k_)) (c := c) flatR hb hblk (by rw [hlen]; exact hroom) hcm (by rw [setL_len _ _ _ (by omega), hl1]; rfl)
     (by rw [hlen, show (l0.length + l2.length) * (Kd.raw 8).sz = l0.length * 8 + vs.length by rw [hvl, show (Kd.raw 8).sz = 8 from rfl]; omega]; exact hL) hrep (.inl (.inl (hok0 g rfl)))
    rw [hlen] at hR
    exact hR
   ·refine (insR_grow g c i vb l2.length vc cs vs cur l0.length w vcur hi hm hnc (by omega) hbig hh hvh hcl hvl ht hvt h1c h1v).mono ?_
    rintro e w' ⟨G, ROW, hGn, hGm, hRl, hRt, rfl, rfl⟩
    have hdl : (cs.drop (i * 8)).length = (l0.length - i) * 8 := by rw [List.length_drop, hcl, Nat.sub_mul]
    have hg1 : w.grownBy (((w.alloc (.cells ROW.toArray 29)).drew.setCells w.heap.size (i * 8) vs).drew.setCells w.heap.size ((i + l2.length) * 8) (cs.drop (i * 8))) none := by
     refine ⟨?_, ?_, ?_, ?_, fun k hk _ => ?_⟩
     ·rw [(os_setCells _ _ _ _).1]; exact (os_setCells _ _ _ _).1
     ·rw [(os_setCells _ _ _ _).2.1]; exact (os_setCells _ _ _ _).2.1
     ·rw [(os_setCells _ _ _ _).2.2]; exact (os_setCells _ _ _ _).2.2
     ·rw [size_setCells]
      show _ ≤ (((w.alloc (.cells ROW.toArray 29)).drew.setCells w.heap.size (i * 8) vs)).heap.size
      rw [size_setCells]
      show _ ≤ (w.alloc (.cells ROW.toArray 29)).heap.size
      simp
     ·rw [far_setCells _ k (by omega)]
      show (((w.alloc (.cells ROW.toArray 29)).drew.setCells w.heap.size (i * 8) vs)).heap[k]? = _
      rw [far_setCells _ k (by omega)]
      exact heap_alloc_old w _ hk
    have hl1 : (setL ROW (i * 8) vs).length = G * 8 := by rw [setL_len _ _ _ (by omega), hRl]
    have hblk := blk_setCells w.heap.size 29 (cs.drop (i * 8)) ((i + l2.length) * 8) ((w.alloc (.cells ROW.toArray 29)).drew.setCells w.heap.size (i * 8) vs).drew (setL ROW (i * 8) vs) (blk_setCells w.heap.size 29 vs (i * 8) (w.alloc (.cells ROW.toArray 29)).drew ROW (heap_alloc_new w _) (by omega)) (by omega)
    refine ⟨_, rfl, ?_, hB.grown hg1 hbase (fun k hk => by cases hk), Kept.of_grown hg1 (Kept.refl w _) (fun k hk => by cases hk)⟩
    have hL := grow_list ROW cs vs (i * 8) (l0.length * 8) (by omega) hcl hRt (by omega)
    rw [show i * 8 + vs.length = (i + l2.length) * 8 by omega] at hL
    have hR := R_cells (d := (Kd.raw 8)) (e := 29) (base := w0.heap.size) (ok := fun k_ => ((P0_ k_ ∨ P2_ k_) ∨ w.heap.size ≤ k_)) (c := G) flatR hbase hblk (by rw [hlen]; exact hGn) hGm (by rw [setL_len _ _ _ (by omega), hl1]; rfl)
     (by rw [hlen, show (l0.length + l2.length) * (Kd.raw 8).sz = l0.length * 8 + vs.length by rw [hvl, show (Kd.raw 8).sz = 8 from rfl]; omega]; exact hL) hrep (.inr (Nat.le_refl _))
    rw [hlen] at hR
    exact hR
 ·rw [if_neg hc] at h
  cases h
/-- A row of elements that hold rows, told as the cells of its block and what each element leads to. -/
theorem S_open_raw {f : Nat → Nat} {w : World} {base : Nat} {ok : Nat → Prop} {v : Value} {xs : List S29} (h : (Kd.tag f k29).R 29 w base ok v xs.zipIdx) :
 ∃ rows : List (List Value), rows.length = xs.length ∧ (Kd.raw 8).R 29 w base (fun k => some k = v.ownBlock) v rows ∧ ∀ (j : Nat) (y : S29) (c : List Value), xs[j]? = some y → rows[j]? = some c → (Kd.tag f k29).M w base (fun k => ok k ∧ some k ≠ v.ownBlock) (y, j) c := by
 obtain ⟨h0, inner, ho, hr⟩ := h
 have hl := List.length_zipIdx (l := xs) (i := 0)
 refine ⟨Kd.chunks 8 xs.length inner, Kd.chunks_length _ _ _, ⟨fun k hk => hk.symm, inner, by rw [Kd.chunks_length, ← hl]; exact ho, ?_⟩, fun j y c hy hc => ?_⟩
 ·have := Kd.reps_raw hr (fun y c hp => ⟨(Kd.tag f k29).K_len ((Kd.tag f k29).K_of_M hp), (Kd.tag f k29).K_one ((Kd.tag f k29).K_of_M hp)⟩)
  rw [hl] at this
  exact this
 ·rw [Kd.chunks_get hc]
  exact hr.2 j (y, j) (Kd.zip_at hy)
theorem S_close_raw {f : Nat → Nat} {w : World} {base : Nat} {ok okr : Nat → Prop} {v : Value} {rows : List (List Value)} {xs : List S29} (h : (Kd.raw 8).R 29 w base okr v rows) (hl : rows.length = xs.length) (hok : ∀ k, v.ownBlock = some k → ok k)
 (hm : ∀ (j : Nat) (y : S29) (c : List Value), xs[j]? = some y → rows[j]? = some c → (Kd.tag f k29).M w base (fun k => ok k ∧ some k ≠ v.ownBlock) (y, j) c) : Kd.S k29 29 w base ok v xs := by
 obtain ⟨_, inner, ho, hr⟩ := h
 refine ⟨f, hok, inner, by rw [List.length_zipIdx, ← hl]; exact ho, by rw [List.length_zipIdx, ← hl]; exact hr.1, fun j p hp => ?_⟩
 rw [List.getElem?_zipIdx] at hp
 obtain ⟨y, hy, rfl⟩ := Option.map_eq_some_iff.1 hp
 have hj : j < rows.length := by rw [hl]; exact (List.getElem?_eq_some_iff.1 hy).1
 have hrow := hr.2 j _ (List.getElem?_eq_getElem hj)
 have := hm j y _ hy (List.getElem?_eq_getElem hj)
 rw [← hrow.1] at this
 rw [Nat.zero_add]
 exact this
/-- Where the element at j of the new row stood before. -/
theorem ins_at {α : Type} (l : List α) (x : α) (i : Nat) (hi : i ≤ l.length) (j : Nat) : (l.take i ++ [x] ++ l.drop i)[j]? = if j < i then l[j]? else if j = i then some x else l[j - 1]? := by
 have hti : (l.take i).length = i := by rw [List.length_take]; omega
 by_cases h1 : j < i
 ·rw [if_pos h1, List.append_assoc, List.getElem?_append_left (by omega), List.getElem?_take_of_lt h1]
 ·rw [if_neg h1, List.append_assoc, List.getElem?_append_right (by omega), hti]
  by_cases h2 : j = i
  ·rw [if_pos h2, h2, Nat.sub_self]
   rfl
  ·rw [if_neg h2, show j - i = (j - i - 1) + 1 by omega, List.singleton_append, List.getElem?_cons_succ, List.getElem?_drop, show i + (j - i - 1) = j - 1 by omega]
theorem insS (w0 W : World) (ok okp : Nat → Prop) (u : Value) (l0 : List S29) (a1 : Int) (x : S29) (cs : List Value)
 (hB : Below w0.heap.size w0 W) (hS : Kd.S k29 29 W w0.heap.size (fun k => ok k ∧ ¬ okp k) u l0) (hx : k29.M W w0.heap.size okp x cs) (hokp : ∀ k, okp k → ok k ∧ some k ≠ u.ownBlock) (hfresh : ∀ k, W.heap.size ≤ k → ok k) (ha0 : 0 ≤ a1) (ha1 : a1 ≤ (l0.length : Int)) (hl : l0.length + 1 ≤ 4000000) :
 Calls Try.prog 30 #[u, .int .i64 a1, .slice (some ⟨W.heap.size, 0, none⟩) 1 1] (W.alloc (.cells cs.toArray 29)) fun e w' => ∃ v1, e = .returned v1 ∧ Kd.S k29 29 w' w0.heap.size ok v1 (l0.take a1.toNat ++ [x] ++ l0.drop a1.toNat) ∧ Below w0.heap.size w0 w' ∧ Kept W w' (fun k => some k = u.ownBlock) := by
 have hbase : w0.heap.size ≤ W.heap.size := hB.size
 obtain ⟨f, hf, hR⟩ := Kd.S_tag hS l0.length okp (fun _ hk h2 => h2.2 hk)
 have hult := Kd.R_lt hR
 have hu0 := hR.1
 obtain ⟨rows, hrl, hraw, hM⟩ := S_open_raw hR
 obtain ⟨i, rfl⟩ : ∃ i : Nat, a1 = i := ⟨a1.toNat, by omega⟩
 rw [Int.toNat_natCast]
 have hi : i ≤ l0.length := by omega
 have hcl : cs.length = 8 := k29.K_len (k29.K_of_M hx)
 have hco : ∀ v ∈ cs, v.oneCell' = true := k29.K_one (k29.K_of_M hx)
 have htk : cs.take 8 = cs := List.take_of_length_le (by omega)
 have hseg : (cs.drop (0 * 8)).take 8 = cs := by rw [Nat.zero_mul, List.drop_zero, htk]
 have hnew : (Kd.raw 8).R 29 (W.alloc (.cells cs.toArray 29)) w0.heap.size (fun k => k = W.heap.size) (.slice (some ⟨W.heap.size, 0, none⟩) 1 1) [cs] :=
  ⟨fun k hk => by injection hk with hk; exact hk.symm, cs, ⟨by rw [hcl]; rfl, .inr ⟨W.heap.size, 1, cs.toArray, rfl, hbase, heap_alloc_new W _, Nat.le_refl _, by unfold maxLen; omega, by simp [hcl, Kd.raw], by simp [Kd.raw, htk]⟩⟩, ⟨by rw [hcl]; rfl, fun j p hp => by
   cases j with
   | zero =>
    injection hp with hp
    subst hp
    show (Kd.raw 8).M _ _ _ cs ((cs.drop (0 * 8)).take 8)
    rw [hseg]
    exact ⟨rfl, hcl, hco⟩
   | succ j => simp at hp⟩⟩
 have hB1 : Below w0.heap.size w0 (W.alloc (.cells cs.toArray 29)) := below_alloc hB _
 have hsz1 : W.heap.size < (W.alloc (.cells cs.toArray 29)).heap.size := by simp
 have hcall := insRaw.calls (fun k => some k = u.ownBlock) u rows (i : Int) (fun k => k = W.heap.size) (.slice (some ⟨W.heap.size, 0, none⟩) 1 1) [cs] (rows.take i ++ [cs] ++ rows.drop i) w0 (W.alloc (.cells cs.toArray 29)) hB1 (Kd.R_alloc hraw _) (fun k hk e => by have := hult k hk.symm; omega) hnew (fun k hk e => by have := hult k e.symm; omega) (by rw [insRaw.f, Int.toNat_natCast, if_pos ⟨by omega, by omega, by simp, by simp; omega⟩])
 refine hcall.mono ?_
 rintro e w' ⟨v1, rfl, hR1, hB', hK⟩
 have hkeep : ∀ k, k < W.heap.size → some k ≠ u.ownBlock → w'.heap[k]? = W.heap[k]? := fun k hk hn => (hK.2 k (by omega) (fun h => h.elim hn (fun h => by omega))).trans (heap_alloc_old W _ hk)
 have hv1 : ∀ k, k < W.heap.size → some k ≠ u.ownBlock → some k ≠ v1.ownBlock := fun k hk hn e => by
  rcases hR1.1 k e.symm with (h | h) | h
  ·exact hn h
  ·omega
  ·omega
 refine ⟨v1, rfl, S_close_raw (f := fun k => if f k < i then f k else if f k = l0.length then i else f k + 1) hR1 ?_ (fun k hk => ?_) (fun j y c hy hc => ?_), hB', ⟨Nat.le_trans (Nat.le_of_lt hsz1) hK.1, fun k hk hn => hkeep k hk hn⟩⟩
 ·simp only [List.length_append, List.length_take, List.length_drop, List.length_singleton]
  omega
 ·rcases hR1.1 k hk with (h | h) | h
  ·exact (hu0 k h.symm).1
  ·exact hfresh k (by omega)
  ·exact hfresh k (by omega)
 ·rw [ins_at l0 x i hi j] at hy
  rw [ins_at rows cs i (by omega) j] at hc
  by_cases h1 : j < i
  ·rw [if_pos h1] at hy hc
   have hm := k29.M_bound (hM j y c hy hc)
   refine k29.M_mono (fun k hk => ?_) (k29.M_move (fun k hk => hkeep k hk.2.2.1 hk.1.1.2) hm)
   obtain ⟨⟨⟨hk1, hk2⟩, hk3⟩, hk4, hk5, _⟩ := hk
   exact ⟨⟨hk1.1, hv1 k hk5 hk2⟩, by dsimp only at hk3 ⊢; rw [if_pos (by omega)]; exact hk3⟩
  ·rw [if_neg h1] at hy hc
   by_cases h2 : j = i
   ·rw [if_pos h2] at hy hc
    injection hy with hy
    injection hc with hc
    subst hy hc
    have hm := k29.M_bound hx
    refine k29.M_mono (fun k hk => ?_) (k29.M_move (fun k hk => hkeep k hk.2.2.1 (hokp k hk.1).2) hm)
    obtain ⟨hk1, hk4, hk5, _⟩ := hk
    exact ⟨⟨(hokp k hk1).1, hv1 k hk5 (hokp k hk1).2⟩, by have := hf k hk1; dsimp only; rw [if_neg (by omega), if_pos this]; exact h2.symm⟩
   ·rw [if_neg h2] at hy hc
    have hm := k29.M_bound (hM (j - 1) y c hy hc)
    have hjl := (List.getElem?_eq_some_iff.1 hy).1
    refine k29.M_mono (fun k hk => ?_) (k29.M_move (fun k hk => hkeep k hk.2.2.1 hk.1.1.2) hm)
    obtain ⟨⟨⟨hk1, hk2⟩, hk3⟩, hk4, hk5, _⟩ := hk
    exact ⟨⟨hk1.1, hv1 k hk5 hk2⟩, by dsimp only at hk3 ⊢; rw [if_neg (by omega), if_neg (by omega)]; omega⟩
/-- A row of elements that hold rows, told as the cells of its block and what each element leads to. -/
theorem S_open_rawA {f : Nat → Nat} {w : World} {base : Nat} {ok : Nat → Prop} {v : Value} {xs : List S29} (h : (Kd.tag f k29a).R 29 w base ok v xs.zipIdx) :
  ∃ rows : List (List Value), rows.length = xs.length ∧ (Kd.raw 8).R 29 w base (fun k => some k = v.ownBlock) v rows ∧ ∀ (j : Nat) (y : S29) (c : List Value), xs[j]? = some y → rows[j]? = some c → (Kd.tag f k29a).M w base (fun k => ok k ∧ some k ≠ v.ownBlock) (y, j) c := by
  obtain ⟨h0, inner, ho, hr⟩ := h
  have hl := List.length_zipIdx (l := xs) (i := 0)
  refine ⟨Kd.chunks 8 xs.length inner, Kd.chunks_length _ _ _, ⟨fun k hk => hk.symm, inner, by rw [Kd.chunks_length, ← hl]; exact ho, ?_⟩, fun j y c hy hc => ?_⟩
  · have := Kd.reps_raw hr (fun y c hp => ⟨(Kd.tag f k29a).K_len ((Kd.tag f k29a).K_of_M hp), (Kd.tag f k29a).K_one ((Kd.tag f k29a).K_of_M hp)⟩)
    rw [hl] at this
    exact this
  · rw [Kd.chunks_get hc]
    exact hr.2 j (y, j) (Kd.zip_at hy)
theorem S_close_rawA {f : Nat → Nat} {w : World} {base : Nat} {ok okr : Nat → Prop} {v : Value} {rows : List (List Value)} {xs : List S29} (h : (Kd.raw 8).R 29 w base okr v rows) (hl : rows.length = xs.length) (hok : ∀ k, v.ownBlock = some k → ok k)
  (hm : ∀ (j : Nat) (y : S29) (c : List Value), xs[j]? = some y → rows[j]? = some c → (Kd.tag f k29a).M w base (fun k => ok k ∧ some k ≠ v.ownBlock) (y, j) c) : Kd.S k29a 29 w base ok v xs := by
  obtain ⟨_, inner, ho, hr⟩ := h
  refine ⟨f, hok, inner, by rw [List.length_zipIdx, ← hl]; exact ho, by rw [List.length_zipIdx, ← hl]; exact hr.1, fun j p hp => ?_⟩
  rw [List.getElem?_zipIdx] at hp
  obtain ⟨y, hy, rfl⟩ := Option.map_eq_some_iff.1 hp
  have hj : j < rows.length := by rw [hl]; exact (List.getElem?_eq_some_iff.1 hy).1
  have hrow := hr.2 j _ (List.getElem?_eq_getElem hj)
  have := hm j y _ hy (List.getElem?_eq_getElem hj)
  rw [← hrow.1] at this
  rw [Nat.zero_add]
  exact this
/-- Where the element at j of the new row stood before. -/
theorem ins_atA {α : Type} (l : List α) (x : α) (i : Nat) (hi : i ≤ l.length) (j : Nat) : (l.take i ++ [x] ++ l.drop i)[j]? = if j < i then l[j]? else if j = i then some x else l[j - 1]? := by
  have hti : (l.take i).length = i := by rw [List.length_take]; omega
  by_cases h1 : j < i
  · rw [if_pos h1, List.append_assoc, List.getElem?_append_left (by omega), List.getElem?_take_of_lt h1]
  · rw [if_neg h1, List.append_assoc, List.getElem?_append_right (by omega), hti]
    by_cases h2 : j = i
    · rw [if_pos h2, h2, Nat.sub_self]
      rfl
    · rw [if_neg h2, show j - i = (j - i - 1) + 1 by omega, List.singleton_append, List.getElem?_cons_succ, List.getElem?_drop, show i + (j - i - 1) = j - 1 by omega]
theorem insSA (w0 W : World) (ok okp : Nat → Prop) (u : Value) (l0 : List S29) (a1 : Int) (x : S29) (cs : List Value)
  (hB : Below w0.heap.size w0 W) (hS : Kd.S k29a 29 W w0.heap.size (fun k => ok k ∧ ¬ okp k) u l0) (hx : k29a.M W w0.heap.size okp x cs) (hokp : ∀ k, okp k → ok k ∧ some k ≠ u.ownBlock) (hfresh : ∀ k, W.heap.size ≤ k → ok k) (ha0 : 0 ≤ a1) (ha1 : a1 ≤ (l0.length : Int)) (hl : l0.length + 1 ≤ 4000000) :
  Calls Try.prog 30 #[u, .int .i64 a1, .slice (some ⟨W.heap.size, 0, none⟩) 1 1] (W.alloc (.cells cs.toArray 29)) fun e w' => ∃ v1, e = .returned v1 ∧ Kd.S k29a 29 w' w0.heap.size ok v1 (l0.take a1.toNat ++ [x] ++ l0.drop a1.toNat) ∧ Below w0.heap.size w0 w' ∧ Kept W w' (fun k => some k = u.ownBlock) := by
  have hbase : w0.heap.size ≤ W.heap.size := hB.size
  obtain ⟨f, hf, hR⟩ := Kd.S_tag hS l0.length okp (fun _ hk h2 => h2.2 hk)
  have hult := Kd.R_lt hR
  have hu0 := hR.1
  obtain ⟨rows, hrl, hraw, hM⟩ := S_open_rawA hR
  obtain ⟨i, rfl⟩ : ∃ i : Nat, a1 = i := ⟨a1.toNat, by omega⟩
  rw [Int.toNat_natCast]
  have hi : i ≤ l0.length := by omega
  have hcl : cs.length = 8 := k29a.K_len (k29a.K_of_M hx)
  have hco : ∀ v ∈ cs, v.oneCell' = true := k29a.K_one (k29a.K_of_M hx)
  have htk : cs.take 8 = cs := List.take_of_length_le (by omega)
  have hseg : (cs.drop (0 * 8)).take 8 = cs := by rw [Nat.zero_mul, List.drop_zero, htk]
  have hnew : (Kd.raw 8).R 29 (W.alloc (.cells cs.toArray 29)) w0.heap.size (fun k => k = W.heap.size) (.slice (some ⟨W.heap.size, 0, none⟩) 1 1) [cs] :=
    ⟨fun k hk => by injection hk with hk; exact hk.symm, cs, ⟨by rw [hcl]; rfl, .inr ⟨W.heap.size, 1, cs.toArray, rfl, hbase, heap_alloc_new W _, Nat.le_refl _, by unfold maxLen; omega, by simp [hcl, Kd.raw], by simp [Kd.raw, htk]⟩⟩, ⟨by rw [hcl]; rfl, fun j p hp => by
      cases j with
      | zero =>
        injection hp with hp
        subst hp
        show (Kd.raw 8).M _ _ _ cs ((cs.drop (0 * 8)).take 8)
        rw [hseg]
        exact ⟨rfl, hcl, hco⟩
      | succ j => simp at hp⟩⟩
  have hB1 : Below w0.heap.size w0 (W.alloc (.cells cs.toArray 29)) := below_alloc hB _
  have hsz1 : W.heap.size < (W.alloc (.cells cs.toArray 29)).heap.size := by simp
  have hcall := insRaw.calls (fun k => some k = u.ownBlock) u rows (i : Int) (fun k => k = W.heap.size) (.slice (some ⟨W.heap.size, 0, none⟩) 1 1) [cs] (rows.take i ++ [cs] ++ rows.drop i) w0 (W.alloc (.cells cs.toArray 29)) hB1 (Kd.R_alloc hraw _) (fun k hk e => by have := hult k hk.symm; omega) hnew (fun k hk e => by have := hult k e.symm; omega) (by rw [insRaw.f, Int.toNat_natCast, if_pos ⟨by omega, by omega, by simp, by simp; omega⟩])
  refine hcall.mono ?_
  rintro e w' ⟨v1, rfl, hR1, hB', hK⟩
  have hkeep : ∀ k, k < W.heap.size → some k ≠ u.ownBlock → w'.heap[k]? = W.heap[k]? := fun k hk hn => (hK.2 k (by omega) (fun h => h.elim hn (fun h => by omega))).trans (heap_alloc_old W _ hk)
  have hv1 : ∀ k, k < W.heap.size → some k ≠ u.ownBlock → some k ≠ v1.ownBlock := fun k hk hn e => by
    rcases hR1.1 k e.symm with (h | h) | h
    · exact hn h
    · omega
    · omega
  refine ⟨v1, rfl, S_close_rawA (f := fun k => if f k < i then f k else if f k = l0.length then i else f k + 1) hR1 ?_ (fun k hk => ?_) (fun j y c hy hc => ?_), hB', ⟨Nat.le_trans (Nat.le_of_lt hsz1) hK.1, fun k hk hn => hkeep k hk hn⟩⟩
  · simp only [List.length_append, List.length_take, List.length_drop, List.length_singleton]
    omega
  · rcases hR1.1 k hk with (h | h) | h
    · exact (hu0 k h.symm).1
    · exact hfresh k (by omega)
    · exact hfresh k (by omega)
  · rw [ins_atA l0 x i hi j] at hy
    rw [ins_atA rows cs i (by omega) j] at hc
    by_cases h1 : j < i
    · rw [if_pos h1] at hy hc
      have hm := k29a.M_bound (hM j y c hy hc)
      refine k29a.M_mono (fun k hk => ?_) (k29a.M_move (fun k hk => hkeep k hk.2.2.1 hk.1.1.2) hm)
      obtain ⟨⟨⟨hk1, hk2⟩, hk3⟩, hk4, hk5, _⟩ := hk
      exact ⟨⟨hk1.1, hv1 k hk5 hk2⟩, by dsimp only at hk3 ⊢; rw [if_pos (by omega)]; exact hk3⟩
    · rw [if_neg h1] at hy hc
      by_cases h2 : j = i
      · rw [if_pos h2] at hy hc
        injection hy with hy
        injection hc with hc
        subst hy hc
        have hm := k29a.M_bound hx
        refine k29a.M_mono (fun k hk => ?_) (k29a.M_move (fun k hk => hkeep k hk.2.2.1 (hokp k hk.1).2) hm)
        obtain ⟨hk1, hk4, hk5, _⟩ := hk
        exact ⟨⟨(hokp k hk1).1, hv1 k hk5 (hokp k hk1).2⟩, by have := hf k hk1; dsimp only; rw [if_neg (by omega), if_pos this]; exact h2.symm⟩
      · rw [if_neg h2] at hy hc
        have hm := k29a.M_bound (hM (j - 1) y c hy hc)
        have hjl := (List.getElem?_eq_some_iff.1 hy).1
        refine k29a.M_mono (fun k hk => ?_) (k29a.M_move (fun k hk => hkeep k hk.2.2.1 hk.1.1.2) hm)
        obtain ⟨⟨⟨hk1, hk2⟩, hk3⟩, hk4, hk5, _⟩ := hk
        exact ⟨⟨hk1.1, hv1 k hk5 hk2⟩, by dsimp only at hk3 ⊢; rw [if_neg (by omega), if_neg (by omega)]; omega⟩


end Go.Proofs.Ytfolhmompclmbaa.PFnExactPutReport
