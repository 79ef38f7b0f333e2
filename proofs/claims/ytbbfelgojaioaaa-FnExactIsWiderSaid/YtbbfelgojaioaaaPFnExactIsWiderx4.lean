-- The printed functions of one law and their contracts, over contracts of this session's own (hand.py).
import Derived.Test.YtbbfelgojaioaaaFar
import Derived.Test.YtbbfelgojaioaaaPFnExactIsWiderx0
import Derived.Test.YtbbfelgojaioaaaPFnExactIsWiderx1
import Derived.Test.YtbbfelgojaioaaaPFnExactIsWiderx2
import Derived.Test.YtbbfelgojaioaaaPFnExactIsWiderx3
namespace Go.Proofs.Ytbbfelgojaioaaa.PFnExactIsWider
open Go.RowKit Go.Proofs.YtbbfelgojaioaaaW.PrintWords Go.Proofs.YtbbfelgojaioaaaW.PrintLast Go.Proofs.YtbbfelgojaioaaaW.PrintMore Go.Proofs.Ytbbfelgojaioaaa.Short
attribute [local go_sem] max2_int min2_int max_two min_two max_three min_three max_four min_four   -- for this text's walks alone
set_option linter.unusedVariables false
set_option linter.unusedSimpArgs false

/-! ### laws_FnExactIsWider: function 5 -/
def laws_FnExactIsWider.f (k : Nat) (a0_0 : Int) (a0_1 : Int) (l0_2 : List Int) (a0_3 : Int) (a0_4 : Int) (l0_5 : List Int) (a0_6 : Int) (a0_7 : Int) (a1_0 : Int) (a1_1 : Int) (l1_2 : List Int) (a1_3 : Int) (a1_4 : Int) (l1_5 : List Int) (a1_6 : Int) (a1_7 : Int) : Option (Bool) := (laws_szReport.f a0_0 a0_1 l0_2 a0_3 a0_4 l0_5 a0_6 a0_7 1048576).bind fun t178 => (if t178 < 0 then (some true) else ((laws_szReport.f a1_0 a1_1 l1_2 a1_3 a1_4 l1_5 a1_6 a1_7 t178).bind fun t179 => (if t179 < 0 then (some true) else ((laws_toReport.f k a0_0 a0_1 l0_2 a0_3 a0_4 l0_5 a0_6 a0_7).bind fun bt180 => ((laws_toReport.f k a1_0 a1_1 l1_2 a1_3 a1_4 l1_5 a1_6 a1_7).bind fun bt192 => ((spec_IsWider.f k bt180.1 bt180.2.1 bt180.2.2.1 bt180.2.2.2.1 bt180.2.2.2.2.1 bt180.2.2.2.2.2.1 bt180.2.2.2.2.2.2.1 bt180.2.2.2.2.2.2.2 bt192.1 bt192.2.1 bt192.2.2.1 bt192.2.2.2.1 bt192.2.2.2.2.1 bt192.2.2.2.2.2.1 bt192.2.2.2.2.2.2.1 bt192.2.2.2.2.2.2.2).bind fun t204 => ((laws_toReport.f k a0_0 a0_1 l0_2 a0_3 a0_4 l0_5 a0_6 a0_7).bind fun bt205 => ((laws_toReport.f k a1_0 a1_1 l1_2 a1_3 a1_4 l1_5 a1_6 a1_7).bind fun bt218 => ((impl_IsWider.f k bt205.1 bt205.2.1 bt205.2.2.1 bt205.2.2.2.1 bt205.2.2.2.2.1 bt205.2.2.2.2.2.1 bt205.2.2.2.2.2.2.1 bt205.2.2.2.2.2.2.2 bt218.1 bt218.2.1 bt218.2.2.1 bt218.2.2.2.1 bt218.2.2.2.2.1 bt218.2.2.2.2.2.1 bt218.2.2.2.2.2.2.1 bt218.2.2.2.2.2.2.2).bind fun t231 => (if (t231 != t204) = true then (some false) else ((laws_toReport.f k a0_0 a0_1 l0_2 a0_3 a0_4 l0_5 a0_6 a0_7).bind fun bt232 => ((laws_eqReport.f k bt205.1 bt205.2.1 bt205.2.2.1 bt205.2.2.2.1 bt205.2.2.2.2.1 bt205.2.2.2.2.2.1 bt205.2.2.2.2.2.2.1 bt205.2.2.2.2.2.2.2 bt232.1 bt232.2.1 bt232.2.2.1 bt232.2.2.2.1 bt232.2.2.2.2.1 bt232.2.2.2.2.2.1 bt232.2.2.2.2.2.2.1 bt232.2.2.2.2.2.2.2).bind fun t244 => (if t244 = true then ((laws_toReport.f k a1_0 a1_1 l1_2 a1_3 a1_4 l1_5 a1_6 a1_7).bind fun bt245 => ((laws_eqReport.f k bt218.1 bt218.2.1 bt218.2.2.1 bt218.2.2.2.1 bt218.2.2.2.2.1 bt218.2.2.2.2.2.1 bt218.2.2.2.2.2.2.1 bt218.2.2.2.2.2.2.2 bt245.1 bt245.2.1 bt245.2.2.1 bt245.2.2.2.1 bt245.2.2.2.2.1 bt245.2.2.2.2.2.1 bt245.2.2.2.2.2.2.1 bt245.2.2.2.2.2.2.2).bind fun t257 => (if t257 = true then (some true) else (some false)))) else (some false))))))))))))))
theorem laws_FnExactIsWider.mono : ∀ a0 a1 a2 a3 a4 a5 a6 a7 a8 a9 a10 a11 a12 a13 a14 a15 k, LeO (laws_FnExactIsWider.f k a0 a1 a2 a3 a4 a5 a6 a7 a8 a9 a10 a11 a12 a13 a14 a15) (laws_FnExactIsWider.f (k + 1) a0 a1 a2 a3 a4 a5 a6 a7 a8 a9 a10 a11 a12 a13 a14 a15) := by
 intro a0 a1 a2 a3 a4 a5 a6 a7 a8 a9 a10 a11 a12 a13 a14 a15 k
 unfold laws_FnExactIsWider.f
 repeat' first
   | (with_reducible exact impl_IsWider.mono _ _ _ _ _ _ _ _ _ _ _ _ _ _ _ _ _)
   | (with_reducible exact laws_eqReport.mono _ _ _ _ _ _ _ _ _ _ _ _ _ _ _ _ _)
   | (with_reducible exact laws_toReport.mono _ _ _ _ _ _ _ _ _)
   | (with_reducible exact spec_IsWider.mono _ _ _ _ _ _ _ _ _ _ _ _ _ _ _ _ _)
   | (with_reducible exact LeO.refl _)
   | (with_reducible exact LeO.none _)
   | (with_reducible refine LeO.ite ?_ ?_)
   | (with_reducible refine LeO.bind ?_ (fun _ => ?_))
   | exact impl_IsWider.mono _ _ _ _ _ _ _ _ _ _ _ _ _ _ _ _ _
   | exact laws_eqReport.mono _ _ _ _ _ _ _ _ _ _ _ _ _ _ _ _ _
   | exact laws_toReport.mono _ _ _ _ _ _ _ _ _
   | exact spec_IsWider.mono _ _ _ _ _ _ _ _ _ _ _ _ _ _ _ _ _
   | exact LeO.none _
   | refine LeO.ite ?_ ?_
   | refine LeO.bind ?_ (fun _ => ?_)
set_option maxHeartbeats 8000000 in
set_option maxRecDepth 100000 in
theorem laws_FnExactIsWider.calls (k : Nat) (a0_0 : Int) (a0_1 : Int) (A0_2 : Option Addr) (c0_2 : Nat) (l0_2 : List Int) (a0_3 : Int) (a0_4 : Int) (A0_5 : Option Addr) (c0_5 : Nat) (l0_5 : List Int) (a0_6 : Int) (a0_7 : Int) (a1_0 : Int) (a1_1 : Int) (A1_2 : Option Addr) (c1_2 : Nat) (l1_2 : List Int) (a1_3 : Int) (a1_4 : Int) (A1_5 : Option Addr) (c1_5 : Nat) (l1_5 : List Int) (a1_6 : Int) (a1_7 : Int) (r : Bool) (w : World) (hr0_2 : Kd.C (Kd.int .i64) w A0_2 l0_2.length l0_2) (hc0_2 : l0_2.length ≤ c0_2) (hr0_5 : Kd.C (Kd.int .i64) w A0_5 l0_5.length l0_5) (hc0_5 : l0_5.length ≤ c0_5) (hr1_2 : Kd.C (Kd.int .i64) w A1_2 l1_2.length l1_2) (hc1_2 : l1_2.length ≤ c1_2) (hr1_5 : Kd.C (Kd.int .i64) w A1_5 l1_5.length l1_5) (hc1_5 : l1_5.length ≤ c1_5) (h : laws_FnExactIsWider.f k a0_0 a0_1 l0_2 a0_3 a0_4 l0_5 a0_6 a0_7 a1_0 a1_1 l1_2 a1_3 a1_4 l1_5 a1_6 a1_7 = some r) :
  Calls Try.prog 5 #[.agg #[.int .i64 a0_0, .int .i64 a0_1, .slice A0_2 l0_2.length c0_2, .int .i64 a0_3, .int .i64 a0_4, .slice A0_5 l0_5.length c0_5, .int .i64 a0_6, .int .i64 a0_7], .agg #[.int .i64 a1_0, .int .i64 a1_1, .slice A1_2 l1_2.length c1_2, .int .i64 a1_3, .int .i64 a1_4, .slice A1_5 l1_5.length c1_5, .int .i64 a1_6, .int .i64 a1_7]] w fun e w' => e = .returned (.bool r) ∧ Below w.heap.size w w' := by
 have hu46 := Try.underlying46
 have hu51 := Try.underlying51
 have HR0_2 := Aside0.mk hr0_2
 have HC0_2 := Aside0.mk hc0_2
 clear hr0_2 hc0_2
 have HR0_5 := Aside0.mk hr0_5
 have HC0_5 := Aside0.mk hc0_5
 clear hr0_5 hc0_5
 have HR1_2 := Aside0.mk hr1_2
 have HC1_2 := Aside0.mk hc1_2
 clear hr1_2 hc1_2
 have HR1_5 := Aside0.mk hr1_5
 have HC1_5 := Aside0.mk hc1_5
 clear hr1_5 hc1_5
 have HB := Aside0.mk (Below.refl w.heap.size w)
 have H : ((laws_szReport.f a0_0 a0_1 l0_2 a0_3 a0_4 l0_5 a0_6 a0_7 1048576).bind fun t178 => (if t178 < 0 then (some true) else ((laws_szReport.f a1_0 a1_1 l1_2 a1_3 a1_4 l1_5 a1_6 a1_7 t178).bind fun t179 => (if t179 < 0 then (some true) else ((laws_toReport.f k a0_0 a0_1 l0_2 a0_3 a0_4 l0_5 a0_6 a0_7).bind fun bt180 => ((laws_toReport.f k a1_0 a1_1 l1_2 a1_3 a1_4 l1_5 a1_6 a1_7).bind fun bt192 => ((spec_IsWider.f k bt180.1 bt180.2.1 bt180.2.2.1 bt180.2.2.2.1 bt180.2.2.2.2.1 bt180.2.2.2.2.2.1 bt180.2.2.2.2.2.2.1 bt180.2.2.2.2.2.2.2 bt192.1 bt192.2.1 bt192.2.2.1 bt192.2.2.2.1 bt192.2.2.2.2.1 bt192.2.2.2.2.2.1 bt192.2.2.2.2.2.2.1 bt192.2.2.2.2.2.2.2).bind fun t204 => ((laws_toReport.f k a0_0 a0_1 l0_2 a0_3 a0_4 l0_5 a0_6 a0_7).bind fun bt205 => ((laws_toReport.f k a1_0 a1_1 l1_2 a1_3 a1_4 l1_5 a1_6 a1_7).bind fun bt218 => ((impl_IsWider.f k bt205.1 bt205.2.1 bt205.2.2.1 bt205.2.2.2.1 bt205.2.2.2.2.1 bt205.2.2.2.2.2.1 bt205.2.2.2.2.2.2.1 bt205.2.2.2.2.2.2.2 bt218.1 bt218.2.1 bt218.2.2.1 bt218.2.2.2.1 bt218.2.2.2.2.1 bt218.2.2.2.2.2.1 bt218.2.2.2.2.2.2.1 bt218.2.2.2.2.2.2.2).bind fun t231 => (if (t231 != t204) = true then (some false) else ((laws_toReport.f k a0_0 a0_1 l0_2 a0_3 a0_4 l0_5 a0_6 a0_7).bind fun bt232 => ((laws_eqReport.f k bt205.1 bt205.2.1 bt205.2.2.1 bt205.2.2.2.1 bt205.2.2.2.2.1 bt205.2.2.2.2.2.1 bt205.2.2.2.2.2.2.1 bt205.2.2.2.2.2.2.2 bt232.1 bt232.2.1 bt232.2.2.1 bt232.2.2.2.1 bt232.2.2.2.2.1 bt232.2.2.2.2.2.1 bt232.2.2.2.2.2.2.1 bt232.2.2.2.2.2.2.2).bind fun t244 => (if t244 = true then ((laws_toReport.f k a1_0 a1_1 l1_2 a1_3 a1_4 l1_5 a1_6 a1_7).bind fun bt245 => ((laws_eqReport.f k bt218.1 bt218.2.1 bt218.2.2.1 bt218.2.2.2.1 bt218.2.2.2.2.1 bt218.2.2.2.2.2.1 bt218.2.2.2.2.2.2.1 bt218.2.2.2.2.2.2.2 bt245.1 bt245.2.1 bt245.2.2.1 bt245.2.2.2.1 bt245.2.2.2.2.1 bt245.2.2.2.2.2.1 bt245.2.2.2.2.2.2.1 bt245.2.2.2.2.2.2.2).bind fun t257 => (if t257 = true then (some true) else (some false)))) else (some false))))))))))))))) = some r := h
 clear h
 replace H := Option.bind_eq_some_iff.mp H
 obtain ⟨t178, A30, H⟩ := H
 replace H : (if t178 < 0 then (some true) else ((laws_szReport.f a1_0 a1_1 l1_2 a1_3 a1_4 l1_5 a1_6 a1_7 t178).bind fun t179 => (if t179 < 0 then (some true) else ((laws_toReport.f k a0_0 a0_1 l0_2 a0_3 a0_4 l0_5 a0_6 a0_7).bind fun bt180 => ((laws_toReport.f k a1_0 a1_1 l1_2 a1_3 a1_4 l1_5 a1_6 a1_7).bind fun bt192 => ((spec_IsWider.f k bt180.1 bt180.2.1 bt180.2.2.1 bt180.2.2.2.1 bt180.2.2.2.2.1 bt180.2.2.2.2.2.1 bt180.2.2.2.2.2.2.1 bt180.2.2.2.2.2.2.2 bt192.1 bt192.2.1 bt192.2.2.1 bt192.2.2.2.1 bt192.2.2.2.2.1 bt192.2.2.2.2.2.1 bt192.2.2.2.2.2.2.1 bt192.2.2.2.2.2.2.2).bind fun t204 => ((laws_toReport.f k a0_0 a0_1 l0_2 a0_3 a0_4 l0_5 a0_6 a0_7).bind fun bt205 => ((laws_toReport.f k a1_0 a1_1 l1_2 a1_3 a1_4 l1_5 a1_6 a1_7).bind fun bt218 => ((impl_IsWider.f k bt205.1 bt205.2.1 bt205.2.2.1 bt205.2.2.2.1 bt205.2.2.2.2.1 bt205.2.2.2.2.2.1 bt205.2.2.2.2.2.2.1 bt205.2.2.2.2.2.2.2 bt218.1 bt218.2.1 bt218.2.2.1 bt218.2.2.2.1 bt218.2.2.2.2.1 bt218.2.2.2.2.2.1 bt218.2.2.2.2.2.2.1 bt218.2.2.2.2.2.2.2).bind fun t231 => (if (t231 != t204) = true then (some false) else ((laws_toReport.f k a0_0 a0_1 l0_2 a0_3 a0_4 l0_5 a0_6 a0_7).bind fun bt232 => ((laws_eqReport.f k bt205.1 bt205.2.1 bt205.2.2.1 bt205.2.2.2.1 bt205.2.2.2.2.1 bt205.2.2.2.2.2.1 bt205.2.2.2.2.2.2.1 bt205.2.2.2.2.2.2.2 bt232.1 bt232.2.1 bt232.2.2.1 bt232.2.2.2.1 bt232.2.2.2.2.1 bt232.2.2.2.2.2.1 bt232.2.2.2.2.2.2.1 bt232.2.2.2.2.2.2.2).bind fun t244 => (if t244 = true then ((laws_toReport.f k a1_0 a1_1 l1_2 a1_3 a1_4 l1_5 a1_6 a1_7).bind fun bt245 => ((laws_eqReport.f k bt218.1 bt218.2.1 bt218.2.2.1 bt218.2.2.2.1 bt218.2.2.2.2.1 bt218.2.2.2.2.2.1 bt218.2.2.2.2.2.2.1 bt218.2.2.2.2.2.2.2 bt245.1 bt245.2.1 bt245.2.2.1 bt245.2.2.2.1 bt245.2.2.2.2.1 bt245.2.2.2.2.2.1 bt245.2.2.2.2.2.2.1 bt245.2.2.2.2.2.2.2).bind fun t257 => (if t257 = true then (some true) else (some false)))) else (some false)))))))))))))) = some r := H
 have A3 := Aside0.mk A30
 clear A30
 by_cases c4 : t178 < 0
 ·rw [if_pos c4] at H
  have c4b0 : decide (t178 < 0) = true := decide_eq_true c4
  clear c4
  obtain rfl := Option.some.inj H
  go_enter Try.func5, Try.ntmps5
  go_wp2_with (first | ((with_reducible refine gate_dst (N := 2) rfl ?_); refine box_event ?hg (N := 2) ?hd (cs := #[.int .i64 a0_0, .int .i64 a0_1, .slice A0_2 l0_2.length c0_2, .int .i64 a0_3, .int .i64 a0_4, .slice A0_5 l0_5.length c0_5, .int .i64 a0_6, .int .i64 a0_7]) (t := 46) ?hr ?_; (case hd => rfl); (case hg => rfl); (case hr => first | (go_simp; done) | (go_simp; rfl)); intro gb176 hg w5 hbox hb; have n0_ := Aside0.mk (below_step (qB HB) hb); have n1_ := Aside0.mk (hbox); have n2_ := Aside0.mk ((by rw [hg]; exact (below_size (qB HB)) : w.heap.size ≤ gb176)); have n3_ := Aside0.mk ((by rw [hg]; exact (below_size (qB HB)) : w.heap.size ≤ gb176)); clear HB; have HB := n0_; have BK176 := n1_; have GW176 := n2_; have GE176 := n3_; clear n0_ n1_ n2_ n3_; clear hb hbox hg) | ((with_reducible refine gate_dst (N := 3) rfl ?_); refine box_event ?hg (N := 3) ?hd (cs := #[.int .i64 a1_0, .int .i64 a1_1, .slice A1_2 l1_2.length c1_2, .int .i64 a1_3, .int .i64 a1_4, .slice A1_5 l1_5.length c1_5, .int .i64 a1_6, .int .i64 a1_7]) (t := 46) ?hr ?_; (case hd => rfl); (case hg => rfl); (case hr => first | (go_simp; done) | (go_simp; rfl)); intro gb177 hg w6 hbox hb; have n0_ := Aside0.mk (blk_below (qK BK176) hb); have n1_ := Aside0.mk (below_step (by repeat (with_reducible first | exact HB.out | apply bA | apply bN | apply bD | refine bS ?_ GE176.out)) hb); have n2_ := Aside0.mk (hbox); have n3_ := Aside0.mk ((by rw [hg]; exact (below_size (by repeat (with_reducible first | exact HB.out | apply bA | apply bN | apply bD | refine bS ?_ GE176.out))) : w.heap.size ≤ gb177)); have n4_ := Aside0.mk ((by rw [hg]; exact (below_size (by repeat (with_reducible first | exact HB.out | apply bA | apply bN | apply bD | refine bS ?_ GE176.out))) : w.heap.size ≤ gb177)); have n5_ := Aside0.mk ((by rw [hg]; exact Nat.ne_of_lt (blk_lt (qK BK176)) : gb176 ≠ gb177)); have n6_ := Aside0.mk ((by rw [hg]; exact Nat.ne_of_gt (blk_lt (qK BK176)) : gb177 ≠ gb176)); clear BK176; clear HB; have BK176 := n0_; have HB := n1_; have BK177 := n2_; have GW177 := n3_; have GE177 := n4_; have NB176_177 := n5_; have NB177_176 := n6_; clear n0_ n1_ n2_ n3_ n4_ n5_ n6_; clear hb hbox hg; have hnb7 := NB176_177.out; have hnc7 := NB177_176.out; have hcz8_0 : w6.cell? ⟨gb176, 0, none⟩ = some (.int .i64 a0_0) := cC BK176 0; have hcz8_1 : w6.cell? ⟨gb176, 1, none⟩ = some (.int .i64 a0_1) := cC BK176 1; have hcz8_2 : w6.cell? ⟨gb176, 2, none⟩ = some (.slice A0_2 l0_2.length c0_2) := cC BK176 2; have hcz8_3 : w6.cell? ⟨gb176, 3, none⟩ = some (.int .i64 a0_3) := cC BK176 3; have hcz8_4 : w6.cell? ⟨gb176, 4, none⟩ = some (.int .i64 a0_4) := cC BK176 4; have hcz8_5 : w6.cell? ⟨gb176, 5, none⟩ = some (.slice A0_5 l0_5.length c0_5) := cC BK176 5; have hcz8_6 : w6.cell? ⟨gb176, 6, none⟩ = some (.int .i64 a0_6) := cC BK176 6; have hcz8_7 : w6.cell? ⟨gb176, 7, none⟩ = some (.int .i64 a0_7) := cC BK176 7; have hfz8_0 := blk_frozen BK176.out 0; have hfz8_1 := blk_frozen BK176.out 1; have hfz8_2 := blk_frozen BK176.out 2; have hfz8_3 := blk_frozen BK176.out 3; have hfz8_4 := blk_frozen BK176.out 4; have hfz8_5 := blk_frozen BK176.out 5; have hfz8_6 := blk_frozen BK176.out 6; have hfz8_7 := blk_frozen BK176.out 7) | ((with_reducible refine gate_callee (f := 28) rfl ?_); refine goesL_ (some 12) rfl rfl Try.func28 (by kernel_rfl) rfl #[.agg #[.int .i64 a0_0, .int .i64 a0_1, .slice A0_2 l0_2.length c0_2, .int .i64 a0_3, .int .i64 a0_4, .slice A0_5 l0_5.length c0_5, .int .i64 a0_6, .int .i64 a0_7], .int .i64 1048576] rfl (by (try simp only [mA, mC, mN]); first | done | rfl | (simp only [lD, lT]; rfl)) ?_; (with_reducible refine (laws_szReport.calls a0_0 a0_1 _ _ l0_2 a0_3 a0_4 _ _ l0_5 a0_6 a0_7 1048576 t178 _ ?side1 ?side2 ?side3 ?side4 A3.out).mono ?_); (case side1 => exact qC (Kd.C_below HR0_2.out HB.out)); (case side2 => exact HC0_2.out); (case side3 => exact qC (Kd.C_below HR0_5.out HB.out)); (case side4 => exact HC0_5.out); rintro e w9 ⟨rfl, hb⟩; refine ⟨_, rfl, ?_⟩; have n0_ := Aside0.mk (blk_below (qK BK176) hb); have n1_ := Aside0.mk (blk_below (qK BK177) hb); have n2_ := Aside0.mk (below_step (by repeat (with_reducible first | exact HB.out | apply bA | apply bN | apply bD | refine bS ?_ GE176.out | refine bS ?_ GE177.out)) hb); clear BK176; clear BK177; clear HB; have BK176 := n0_; have BK177 := n1_; have HB := n2_; clear n0_ n1_ n2_; (try clear hb); (try clear hb2); (try clear hk); (try clear hi)))
  go_ret
  exact ⟨by first | rfl | (simp [errW_none, errW_some] <;> rfl) | (simp [*, errW_none, errW_some] <;> rfl), by repeat (first | (with_reducible first | exact HB.out | apply bA | apply bN | apply bD | refine bS ?_ GE176.out | refine bS ?_ GE177.out) | exact HB.out)⟩
 ·rw [if_neg c4] at H
  have c4b0 : decide (t178 < 0) = false := decide_eq_false c4
  clear c4
  replace H := Option.bind_eq_some_iff.mp H
  obtain ⟨t179, A100, H⟩ := H
  replace H : (if t179 < 0 then (some true) else ((laws_toReport.f k a0_0 a0_1 l0_2 a0_3 a0_4 l0_5 a0_6 a0_7).bind fun bt180 => ((laws_toReport.f k a1_0 a1_1 l1_2 a1_3 a1_4 l1_5 a1_6 a1_7).bind fun bt192 => ((spec_IsWider.f k bt180.1 bt180.2.1 bt180.2.2.1 bt180.2.2.2.1 bt180.2.2.2.2.1 bt180.2.2.2.2.2.1 bt180.2.2.2.2.2.2.1 bt180.2.2.2.2.2.2.2 bt192.1 bt192.2.1 bt192.2.2.1 bt192.2.2.2.1 bt192.2.2.2.2.1 bt192.2.2.2.2.2.1 bt192.2.2.2.2.2.2.1 bt192.2.2.2.2.2.2.2).bind fun t204 => ((laws_toReport.f k a0_0 a0_1 l0_2 a0_3 a0_4 l0_5 a0_6 a0_7).bind fun bt205 => ((laws_toReport.f k a1_0 a1_1 l1_2 a1_3 a1_4 l1_5 a1_6 a1_7).bind fun bt218 => ((impl_IsWider.f k bt205.1 bt205.2.1 bt205.2.2.1 bt205.2.2.2.1 bt205.2.2.2.2.1 bt205.2.2.2.2.2.1 bt205.2.2.2.2.2.2.1 bt205.2.2.2.2.2.2.2 bt218.1 bt218.2.1 bt218.2.2.1 bt218.2.2.2.1 bt218.2.2.2.2.1 bt218.2.2.2.2.2.1 bt218.2.2.2.2.2.2.1 bt218.2.2.2.2.2.2.2).bind fun t231 => (if (t231 != t204) = true then (some false) else ((laws_toReport.f k a0_0 a0_1 l0_2 a0_3 a0_4 l0_5 a0_6 a0_7).bind fun bt232 => ((laws_eqReport.f k bt205.1 bt205.2.1 bt205.2.2.1 bt205.2.2.2.1 bt205.2.2.2.2.1 bt205.2.2.2.2.2.1 bt205.2.2.2.2.2.2.1 bt205.2.2.2.2.2.2.2 bt232.1 bt232.2.1 bt232.2.2.1 bt232.2.2.2.1 bt232.2.2.2.2.1 bt232.2.2.2.2.2.1 bt232.2.2.2.2.2.2.1 bt232.2.2.2.2.2.2.2).bind fun t244 => (if t244 = true then ((laws_toReport.f k a1_0 a1_1 l1_2 a1_3 a1_4 l1_5 a1_6 a1_7).bind fun bt245 => ((laws_eqReport.f k bt218.1 bt218.2.1 bt218.2.2.1 bt218.2.2.2.1 bt218.2.2.2.2.1 bt218.2.2.2.2.2.1 bt218.2.2.2.2.2.2.1 bt218.2.2.2.2.2.2.2 bt245.1 bt245.2.1 bt245.2.2.1 bt245.2.2.2.1 bt245.2.2.2.2.1 bt245.2.2.2.2.2.1 bt245.2.2.2.2.2.2.1 bt245.2.2.2.2.2.2.2).bind fun t257 => (if t257 = true then (some true) else (some false)))) else (some false)))))))))))) = some r := H
  have A10 := Aside0.mk A100
  clear A100
  by_cases c11 : t179 < 0
  ·rw [if_pos c11] at H
   have c11b0 : decide (t179 < 0) = true := decide_eq_true c11
   clear c11
   obtain rfl := Option.some.inj H
   go_enter Try.func5, Try.ntmps5
   go_wp2_with (first | ((with_reducible refine gate_dst (N := 2) rfl ?_); refine box_event ?hg (N := 2) ?hd (cs := #[.int .i64 a0_0, .int .i64 a0_1, .slice A0_2 l0_2.length c0_2, .int .i64 a0_3, .int .i64 a0_4, .slice A0_5 l0_5.length c0_5, .int .i64 a0_6, .int .i64 a0_7]) (t := 46) ?hr ?_; (case hd => rfl); (case hg => rfl); (case hr => first | (go_simp; done) | (go_simp; rfl)); intro gb176 hg w12 hbox hb; have n0_ := Aside0.mk (below_step (qB HB) hb); have n1_ := Aside0.mk (hbox); have n2_ := Aside0.mk ((by rw [hg]; exact (below_size (qB HB)) : w.heap.size ≤ gb176)); have n3_ := Aside0.mk ((by rw [hg]; exact (below_size (qB HB)) : w.heap.size ≤ gb176)); clear HB; have HB := n0_; have BK176 := n1_; have GW176 := n2_; have GE176 := n3_; clear n0_ n1_ n2_ n3_; clear hb hbox hg) | ((with_reducible refine gate_dst (N := 3) rfl ?_); refine box_event ?hg (N := 3) ?hd (cs := #[.int .i64 a1_0, .int .i64 a1_1, .slice A1_2 l1_2.length c1_2, .int .i64 a1_3, .int .i64 a1_4, .slice A1_5 l1_5.length c1_5, .int .i64 a1_6, .int .i64 a1_7]) (t := 46) ?hr ?_; (case hd => rfl); (case hg => rfl); (case hr => first | (go_simp; done) | (go_simp; rfl)); intro gb177 hg w13 hbox hb; have n0_ := Aside0.mk (blk_below (qK BK176) hb); have n1_ := Aside0.mk (below_step (by repeat (with_reducible first | exact HB.out | apply bA | apply bN | apply bD | refine bS ?_ GE176.out)) hb); have n2_ := Aside0.mk (hbox); have n3_ := Aside0.mk ((by rw [hg]; exact (below_size (by repeat (with_reducible first | exact HB.out | apply bA | apply bN | apply bD | refine bS ?_ GE176.out))) : w.heap.size ≤ gb177)); have n4_ := Aside0.mk ((by rw [hg]; exact (below_size (by repeat (with_reducible first | exact HB.out | apply bA | apply bN | apply bD | refine bS ?_ GE176.out))) : w.heap.size ≤ gb177)); have n5_ := Aside0.mk ((by rw [hg]; exact Nat.ne_of_lt (blk_lt (qK BK176)) : gb176 ≠ gb177)); have n6_ := Aside0.mk ((by rw [hg]; exact Nat.ne_of_gt (blk_lt (qK BK176)) : gb177 ≠ gb176)); clear BK176; clear HB; have BK176 := n0_; have HB := n1_; have BK177 := n2_; have GW177 := n3_; have GE177 := n4_; have NB176_177 := n5_; have NB177_176 := n6_; clear n0_ n1_ n2_ n3_ n4_ n5_ n6_; clear hb hbox hg; have hnb14 := NB176_177.out; have hnc14 := NB177_176.out; have hcz15_0 : w13.cell? ⟨gb176, 0, none⟩ = some (.int .i64 a0_0) := cC BK176 0; have hcz15_1 : w13.cell? ⟨gb176, 1, none⟩ = some (.int .i64 a0_1) := cC BK176 1; have hcz15_2 : w13.cell? ⟨gb176, 2, none⟩ = some (.slice A0_2 l0_2.length c0_2) := cC BK176 2; have hcz15_3 : w13.cell? ⟨gb176, 3, none⟩ = some (.int .i64 a0_3) := cC BK176 3; have hcz15_4 : w13.cell? ⟨gb176, 4, none⟩ = some (.int .i64 a0_4) := cC BK176 4; have hcz15_5 : w13.cell? ⟨gb176, 5, none⟩ = some (.slice A0_5 l0_5.length c0_5) := cC BK176 5; have hcz15_6 : w13.cell? ⟨gb176, 6, none⟩ = some (.int .i64 a0_6) := cC BK176 6; have hcz15_7 : w13.cell? ⟨gb176, 7, none⟩ = some (.int .i64 a0_7) := cC BK176 7; have hfz15_0 := blk_frozen BK176.out 0; have hfz15_1 := blk_frozen BK176.out 1; have hfz15_2 := blk_frozen BK176.out 2; have hfz15_3 := blk_frozen BK176.out 3; have hfz15_4 := blk_frozen BK176.out 4; have hfz15_5 := blk_frozen BK176.out 5; have hfz15_6 := blk_frozen BK176.out 6; have hfz15_7 := blk_frozen BK176.out 7) | ((with_reducible refine gate_callee (f := 28) rfl ?_); refine goesL_ (some 12) rfl rfl Try.func28 (by kernel_rfl) rfl #[.agg #[.int .i64 a0_0, .int .i64 a0_1, .slice A0_2 l0_2.length c0_2, .int .i64 a0_3, .int .i64 a0_4, .slice A0_5 l0_5.length c0_5, .int .i64 a0_6, .int .i64 a0_7], .int .i64 1048576] rfl (by (try simp only [mA, mC, mN]); first | done | rfl | (simp only [lD, lT]; rfl)) ?_; (with_reducible refine (laws_szReport.calls a0_0 a0_1 _ _ l0_2 a0_3 a0_4 _ _ l0_5 a0_6 a0_7 1048576 t178 _ ?side1 ?side2 ?side3 ?side4 A3.out).mono ?_); (case side1 => exact qC (Kd.C_below HR0_2.out HB.out)); (case side2 => exact HC0_2.out); (case side3 => exact qC (Kd.C_below HR0_5.out HB.out)); (case side4 => exact HC0_5.out); rintro e w16 ⟨rfl, hb⟩; refine ⟨_, rfl, ?_⟩; have n0_ := Aside0.mk (blk_below (qK BK176) hb); have n1_ := Aside0.mk (blk_below (qK BK177) hb); have n2_ := Aside0.mk (below_step (by repeat (with_reducible first | exact HB.out | apply bA | apply bN | apply bD | refine bS ?_ GE176.out | refine bS ?_ GE177.out)) hb); clear BK176; clear BK177; clear HB; have BK176 := n0_; have BK177 := n1_; have HB := n2_; clear n0_ n1_ n2_; (try clear hb); (try clear hb2); (try clear hk); (try clear hi); have hcz17_0 : w16.cell? ⟨gb177, 0, none⟩ = some (.int .i64 a1_0) := cC BK177 0; have hcz17_1 : w16.cell? ⟨gb177, 1, none⟩ = some (.int .i64 a1_1) := cC BK177 1; have hcz17_2 : w16.cell? ⟨gb177, 2, none⟩ = some (.slice A1_2 l1_2.length c1_2) := cC BK177 2; have hcz17_3 : w16.cell? ⟨gb177, 3, none⟩ = some (.int .i64 a1_3) := cC BK177 3; have hcz17_4 : w16.cell? ⟨gb177, 4, none⟩ = some (.int .i64 a1_4) := cC BK177 4; have hcz17_5 : w16.cell? ⟨gb177, 5, none⟩ = some (.slice A1_5 l1_5.length c1_5) := cC BK177 5; have hcz17_6 : w16.cell? ⟨gb177, 6, none⟩ = some (.int .i64 a1_6) := cC BK177 6; have hcz17_7 : w16.cell? ⟨gb177, 7, none⟩ = some (.int .i64 a1_7) := cC BK177 7; have hfz17_0 := blk_frozen BK177.out 0; have hfz17_1 := blk_frozen BK177.out 1; have hfz17_2 := blk_frozen BK177.out 2; have hfz17_3 := blk_frozen BK177.out 3; have hfz17_4 := blk_frozen BK177.out 4; have hfz17_5 := blk_frozen BK177.out 5; have hfz17_6 := blk_frozen BK177.out 6; have hfz17_7 := blk_frozen BK177.out 7) | ((with_reducible refine gate_callee (f := 28) rfl ?_); refine goesL_ (some 17) rfl rfl Try.func28 (by kernel_rfl) rfl #[.agg #[.int .i64 a1_0, .int .i64 a1_1, .slice A1_2 l1_2.length c1_2, .int .i64 a1_3, .int .i64 a1_4, .slice A1_5 l1_5.length c1_5, .int .i64 a1_6, .int .i64 a1_7], .int .i64 t178] rfl (by (try simp only [mA, mC, mN]); first | done | rfl | (simp only [lD, lT]; rfl)) ?_; (with_reducible refine (laws_szReport.calls a1_0 a1_1 _ _ l1_2 a1_3 a1_4 _ _ l1_5 a1_6 a1_7 t178 t179 _ ?side1 ?side2 ?side3 ?side4 A10.out).mono ?_); (case side1 => exact qC (Kd.C_below HR1_2.out HB.out)); (case side2 => exact HC1_2.out); (case side3 => exact qC (Kd.C_below HR1_5.out HB.out)); (case side4 => exact HC1_5.out); rintro e w18 ⟨rfl, hb⟩; refine ⟨_, rfl, ?_⟩; have n0_ := Aside0.mk (blk_below (qK BK176) hb); have n1_ := Aside0.mk (blk_below (qK BK177) hb); have n2_ := Aside0.mk (below_step (by repeat (with_reducible first | exact HB.out | apply bA | apply bN | apply bD | refine bS ?_ GE176.out | refine bS ?_ GE177.out)) hb); clear BK176; clear BK177; clear HB; have BK176 := n0_; have BK177 := n1_; have HB := n2_; clear n0_ n1_ n2_; (try clear hb); (try clear hb2); (try clear hk); (try clear hi)))
   go_ret
   exact ⟨by first | rfl | (simp [errW_none, errW_some] <;> rfl) | (simp [*, errW_none, errW_some] <;> rfl), by repeat (first | (with_reducible first | exact HB.out | apply bA | apply bN | apply bD | refine bS ?_ GE176.out | refine bS ?_ GE177.out) | exact HB.out)⟩
  ·rw [if_neg c11] at H
   have c11b0 : decide (t179 < 0) = false := decide_eq_false c11
   clear c11
   replace H := Option.bind_eq_some_iff.mp H
   obtain ⟨⟨t180, t181, t182, t185, t186, t187, t190, t191⟩, A190, H⟩ := H
   replace H : ((laws_toReport.f k a1_0 a1_1 l1_2 a1_3 a1_4 l1_5 a1_6 a1_7).bind fun bt192 => ((spec_IsWider.f k t180 t181 t182 t185 t186 t187 t190 t191 bt192.1 bt192.2.1 bt192.2.2.1 bt192.2.2.2.1 bt192.2.2.2.2.1 bt192.2.2.2.2.2.1 bt192.2.2.2.2.2.2.1 bt192.2.2.2.2.2.2.2).bind fun t204 => ((laws_toReport.f k a0_0 a0_1 l0_2 a0_3 a0_4 l0_5 a0_6 a0_7).bind fun bt205 => ((laws_toReport.f k a1_0 a1_1 l1_2 a1_3 a1_4 l1_5 a1_6 a1_7).bind fun bt218 => ((impl_IsWider.f k bt205.1 bt205.2.1 bt205.2.2.1 bt205.2.2.2.1 bt205.2.2.2.2.1 bt205.2.2.2.2.2.1 bt205.2.2.2.2.2.2.1 bt205.2.2.2.2.2.2.2 bt218.1 bt218.2.1 bt218.2.2.1 bt218.2.2.2.1 bt218.2.2.2.2.1 bt218.2.2.2.2.2.1 bt218.2.2.2.2.2.2.1 bt218.2.2.2.2.2.2.2).bind fun t231 => (if (t231 != t204) = true then (some false) else ((laws_toReport.f k a0_0 a0_1 l0_2 a0_3 a0_4 l0_5 a0_6 a0_7).bind fun bt232 => ((laws_eqReport.f k bt205.1 bt205.2.1 bt205.2.2.1 bt205.2.2.2.1 bt205.2.2.2.2.1 bt205.2.2.2.2.2.1 bt205.2.2.2.2.2.2.1 bt205.2.2.2.2.2.2.2 bt232.1 bt232.2.1 bt232.2.2.1 bt232.2.2.2.1 bt232.2.2.2.2.1 bt232.2.2.2.2.2.1 bt232.2.2.2.2.2.2.1 bt232.2.2.2.2.2.2.2).bind fun t244 => (if t244 = true then ((laws_toReport.f k a1_0 a1_1 l1_2 a1_3 a1_4 l1_5 a1_6 a1_7).bind fun bt245 => ((laws_eqReport.f k bt218.1 bt218.2.1 bt218.2.2.1 bt218.2.2.2.1 bt218.2.2.2.2.1 bt218.2.2.2.2.2.1 bt218.2.2.2.2.2.2.1 bt218.2.2.2.2.2.2.2 bt245.1 bt245.2.1 bt245.2.2.1 bt245.2.2.2.1 bt245.2.2.2.2.1 bt245.2.2.2.2.2.1 bt245.2.2.2.2.2.2.1 bt245.2.2.2.2.2.2.2).bind fun t257 => (if t257 = true then (some true) else (some false)))) else (some false)))))))))) = some r := H
   have A19 := Aside0.mk A190
   clear A190
   replace H := Option.bind_eq_some_iff.mp H
   obtain ⟨⟨t192, t193, t194, t197, t198, t199, t202, t203⟩, A200, H⟩ := H
   replace H : ((spec_IsWider.f k t180 t181 t182 t185 t186 t187 t190 t191 t192 t193 t194 t197 t198 t199 t202 t203).bind fun t204 => ((laws_toReport.f k a0_0 a0_1 l0_2 a0_3 a0_4 l0_5 a0_6 a0_7).bind fun bt205 => ((laws_toReport.f k a1_0 a1_1 l1_2 a1_3 a1_4 l1_5 a1_6 a1_7).bind fun bt218 => ((impl_IsWider.f k bt205.1 bt205.2.1 bt205.2.2.1 bt205.2.2.2.1 bt205.2.2.2.2.1 bt205.2.2.2.2.2.1 bt205.2.2.2.2.2.2.1 bt205.2.2.2.2.2.2.2 bt218.1 bt218.2.1 bt218.2.2.1 bt218.2.2.2.1 bt218.2.2.2.2.1 bt218.2.2.2.2.2.1 bt218.2.2.2.2.2.2.1 bt218.2.2.2.2.2.2.2).bind fun t231 => (if (t231 != t204) = true then (some false) else ((laws_toReport.f k a0_0 a0_1 l0_2 a0_3 a0_4 l0_5 a0_6 a0_7).bind fun bt232 => ((laws_eqReport.f k bt205.1 bt205.2.1 bt205.2.2.1 bt205.2.2.2.1 bt205.2.2.2.2.1 bt205.2.2.2.2.2.1 bt205.2.2.2.2.2.2.1 bt205.2.2.2.2.2.2.2 bt232.1 bt232.2.1 bt232.2.2.1 bt232.2.2.2.1 bt232.2.2.2.2.1 bt232.2.2.2.2.2.1 bt232.2.2.2.2.2.2.1 bt232.2.2.2.2.2.2.2).bind fun t244 => (if t244 = true then ((laws_toReport.f k a1_0 a1_1 l1_2 a1_3 a1_4 l1_5 a1_6 a1_7).bind fun bt245 => ((laws_eqReport.f k bt218.1 bt218.2.1 bt218.2.2.1 bt218.2.2.2.1 bt218.2.2.2.2.1 bt218.2.2.2.2.2.1 bt218.2.2.2.2.2.2.1 bt218.2.2.2.2.2.2.2 bt245.1 bt245.2.1 bt245.2.2.1 bt245.2.2.2.1 bt245.2.2.2.2.1 bt245.2.2.2.2.2.1 bt245.2.2.2.2.2.2.1 bt245.2.2.2.2.2.2.2).bind fun t257 => (if t257 = true then (some true) else (some false)))) else (some false))))))))) = some r := H
   have A20 := Aside0.mk A200
   clear A200
   replace H := Option.bind_eq_some_iff.mp H
   obtain ⟨t204, A210, H⟩ := H
   replace H : ((laws_toReport.f k a0_0 a0_1 l0_2 a0_3 a0_4 l0_5 a0_6 a0_7).bind fun bt205 => ((laws_toReport.f k a1_0 a1_1 l1_2 a1_3 a1_4 l1_5 a1_6 a1_7).bind fun bt218 => ((impl_IsWider.f k bt205.1 bt205.2.1 bt205.2.2.1 bt205.2.2.2.1 bt205.2.2.2.2.1 bt205.2.2.2.2.2.1 bt205.2.2.2.2.2.2.1 bt205.2.2.2.2.2.2.2 bt218.1 bt218.2.1 bt218.2.2.1 bt218.2.2.2.1 bt218.2.2.2.2.1 bt218.2.2.2.2.2.1 bt218.2.2.2.2.2.2.1 bt218.2.2.2.2.2.2.2).bind fun t231 => (if (t231 != t204) = true then (some false) else ((laws_toReport.f k a0_0 a0_1 l0_2 a0_3 a0_4 l0_5 a0_6 a0_7).bind fun bt232 => ((laws_eqReport.f k bt205.1 bt205.2.1 bt205.2.2.1 bt205.2.2.2.1 bt205.2.2.2.2.1 bt205.2.2.2.2.2.1 bt205.2.2.2.2.2.2.1 bt205.2.2.2.2.2.2.2 bt232.1 bt232.2.1 bt232.2.2.1 bt232.2.2.2.1 bt232.2.2.2.2.1 bt232.2.2.2.2.2.1 bt232.2.2.2.2.2.2.1 bt232.2.2.2.2.2.2.2).bind fun t244 => (if t244 = true then ((laws_toReport.f k a1_0 a1_1 l1_2 a1_3 a1_4 l1_5 a1_6 a1_7).bind fun bt245 => ((laws_eqReport.f k bt218.1 bt218.2.1 bt218.2.2.1 bt218.2.2.2.1 bt218.2.2.2.2.1 bt218.2.2.2.2.2.1 bt218.2.2.2.2.2.2.1 bt218.2.2.2.2.2.2.2 bt245.1 bt245.2.1 bt245.2.2.1 bt245.2.2.2.1 bt245.2.2.2.2.1 bt245.2.2.2.2.2.1 bt245.2.2.2.2.2.2.1 bt245.2.2.2.2.2.2.2).bind fun t257 => (if t257 = true then (some true) else (some false)))) else (some false)))))))) = some r := H
   have A21 := Aside0.mk A210
   clear A210
   replace H := Option.bind_eq_some_iff.mp H
   obtain ⟨⟨t205, t206, t207, t210, t211, t212, t215, t216⟩, A220, H⟩ := H
   replace H : ((laws_toReport.f k a1_0 a1_1 l1_2 a1_3 a1_4 l1_5 a1_6 a1_7).bind fun bt218 => ((impl_IsWider.f k t205 t206 t207 t210 t211 t212 t215 t216 bt218.1 bt218.2.1 bt218.2.2.1 bt218.2.2.2.1 bt218.2.2.2.2.1 bt218.2.2.2.2.2.1 bt218.2.2.2.2.2.2.1 bt218.2.2.2.2.2.2.2).bind fun t231 => (if (t231 != t204) = true then (some false) else ((laws_toReport.f k a0_0 a0_1 l0_2 a0_3 a0_4 l0_5 a0_6 a0_7).bind fun bt232 => ((laws_eqReport.f k t205 t206 t207 t210 t211 t212 t215 t216 bt232.1 bt232.2.1 bt232.2.2.1 bt232.2.2.2.1 bt232.2.2.2.2.1 bt232.2.2.2.2.2.1 bt232.2.2.2.2.2.2.1 bt232.2.2.2.2.2.2.2).bind fun t244 => (if t244 = true then ((laws_toReport.f k a1_0 a1_1 l1_2 a1_3 a1_4 l1_5 a1_6 a1_7).bind fun bt245 => ((laws_eqReport.f k bt218.1 bt218.2.1 bt218.2.2.1 bt218.2.2.2.1 bt218.2.2.2.2.1 bt218.2.2.2.2.2.1 bt218.2.2.2.2.2.2.1 bt218.2.2.2.2.2.2.2 bt245.1 bt245.2.1 bt245.2.2.1 bt245.2.2.2.1 bt245.2.2.2.2.1 bt245.2.2.2.2.2.1 bt245.2.2.2.2.2.2.1 bt245.2.2.2.2.2.2.2).bind fun t257 => (if t257 = true then (some true) else (some false)))) else (some false))))))) = some r := H
   have A22 := Aside0.mk A220
   clear A220
   replace H := Option.bind_eq_some_iff.mp H
   obtain ⟨⟨t218, t219, t220, t223, t224, t225, t228, t229⟩, A230, H⟩ := H
   replace H : ((impl_IsWider.f k t205 t206 t207 t210 t211 t212 t215 t216 t218 t219 t220 t223 t224 t225 t228 t229).bind fun t231 => (if (t231 != t204) = true then (some false) else ((laws_toReport.f k a0_0 a0_1 l0_2 a0_3 a0_4 l0_5 a0_6 a0_7).bind fun bt232 => ((laws_eqReport.f k t205 t206 t207 t210 t211 t212 t215 t216 bt232.1 bt232.2.1 bt232.2.2.1 bt232.2.2.2.1 bt232.2.2.2.2.1 bt232.2.2.2.2.2.1 bt232.2.2.2.2.2.2.1 bt232.2.2.2.2.2.2.2).bind fun t244 => (if t244 = true then ((laws_toReport.f k a1_0 a1_1 l1_2 a1_3 a1_4 l1_5 a1_6 a1_7).bind fun bt245 => ((laws_eqReport.f k t218 t219 t220 t223 t224 t225 t228 t229 bt245.1 bt245.2.1 bt245.2.2.1 bt245.2.2.2.1 bt245.2.2.2.2.1 bt245.2.2.2.2.2.1 bt245.2.2.2.2.2.2.1 bt245.2.2.2.2.2.2.2).bind fun t257 => (if t257 = true then (some true) else (some false)))) else (some false)))))) = some r := H
   have A23 := Aside0.mk A230
   clear A230
   replace H := Option.bind_eq_some_iff.mp H
   obtain ⟨t231, A240, H⟩ := H
   replace H : (if (t231 != t204) = true then (some false) else ((laws_toReport.f k a0_0 a0_1 l0_2 a0_3 a0_4 l0_5 a0_6 a0_7).bind fun bt232 => ((laws_eqReport.f k t205 t206 t207 t210 t211 t212 t215 t216 bt232.1 bt232.2.1 bt232.2.2.1 bt232.2.2.2.1 bt232.2.2.2.2.1 bt232.2.2.2.2.2.1 bt232.2.2.2.2.2.2.1 bt232.2.2.2.2.2.2.2).bind fun t244 => (if t244 = true then ((laws_toReport.f k a1_0 a1_1 l1_2 a1_3 a1_4 l1_5 a1_6 a1_7).bind fun bt245 => ((laws_eqReport.f k t218 t219 t220 t223 t224 t225 t228 t229 bt245.1 bt245.2.1 bt245.2.2.1 bt245.2.2.2.1 bt245.2.2.2.2.1 bt245.2.2.2.2.2.1 bt245.2.2.2.2.2.2.1 bt245.2.2.2.2.2.2.2).bind fun t257 => (if t257 = true then (some true) else (some false)))) else (some false))))) = some r := H
   have A24 := Aside0.mk A240
   clear A240
   by_cases c25 : (t231 != t204) = true
   ·rw [if_pos c25] at H
    have c25b0 : (t231 != t204) = true := c25
    (try (have c25b1 : decide (t231 = t204) = false := by simpa using c25))
    (try (have c25b2 : (t231 == t204) = false := by simpa using c25))
    (try (have c25b3 : ¬ (t231 = t204) := by simpa using c25))
    clear c25
    obtain rfl := Option.some.inj H
    go_enter Try.func5, Try.ntmps5
    try go_wp2_with (first | ((with_reducible refine gate_dst (N := 2) rfl ?_); refine box_event ?hg (N := 2) ?hd (cs := #[.int .i64 a0_0, .int .i64 a0_1, .slice A0_2 l0_2.length c0_2, .int .i64 a0_3, .int .i64 a0_4, .slice A0_5 l0_5.length c0_5, .int .i64 a0_6, .int .i64 a0_7]) (t := 46) ?hr ?_; (case hd => rfl); (case hg => rfl); (case hr => first | (go_simp; done) | (go_simp; rfl)); intro gb176 hg w26 hbox hb; have n0_ := Aside0.mk (below_step (qB HB) hb); have n1_ := Aside0.mk (hbox); have n2_ := Aside0.mk ((by rw [hg]; exact (below_size (qB HB)) : w.heap.size ≤ gb176)); have n3_ := Aside0.mk ((by rw [hg]; exact (below_size (qB HB)) : w.heap.size ≤ gb176)); clear HB; have HB := n0_; have BK176 := n1_; have GW176 := n2_; have GE176 := n3_; clear n0_ n1_ n2_ n3_; clear hb hbox hg) | ((with_reducible refine gate_dst (N := 3) rfl ?_); refine box_event ?hg (N := 3) ?hd (cs := #[.int .i64 a1_0, .int .i64 a1_1, .slice A1_2 l1_2.length c1_2, .int .i64 a1_3, .int .i64 a1_4, .slice A1_5 l1_5.length c1_5, .int .i64 a1_6, .int .i64 a1_7]) (t := 46) ?hr ?_; (case hd => rfl); (case hg => rfl); (case hr => first | (go_simp; done) | (go_simp; rfl)); intro gb177 hg w27 hbox hb; have n0_ := Aside0.mk (blk_below (qK BK176) hb); have n1_ := Aside0.mk (below_step (by repeat (with_reducible first | exact HB.out | apply bA | apply bN | apply bD | refine bS ?_ GE176.out)) hb); have n2_ := Aside0.mk (hbox); have n3_ := Aside0.mk ((by rw [hg]; exact (below_size (by repeat (with_reducible first | exact HB.out | apply bA | apply bN | apply bD | refine bS ?_ GE176.out))) : w.heap.size ≤ gb177)); have n4_ := Aside0.mk ((by rw [hg]; exact (below_size (by repeat (with_reducible first | exact HB.out | apply bA | apply bN | apply bD | refine bS ?_ GE176.out))) : w.heap.size ≤ gb177)); have n5_ := Aside0.mk ((by rw [hg]; exact Nat.ne_of_lt (blk_lt (qK BK176)) : gb176 ≠ gb177)); have n6_ := Aside0.mk ((by rw [hg]; exact Nat.ne_of_gt (blk_lt (qK BK176)) : gb177 ≠ gb176)); clear BK176; clear HB; have BK176 := n0_; have HB := n1_; have BK177 := n2_; have GW177 := n3_; have GE177 := n4_; have NB176_177 := n5_; have NB177_176 := n6_; clear n0_ n1_ n2_ n3_ n4_ n5_ n6_; clear hb hbox hg; have hnb28 := NB176_177.out; have hnc28 := NB177_176.out; have hcz29_0 : w27.cell? ⟨gb176, 0, none⟩ = some (.int .i64 a0_0) := cC BK176 0; have hcz29_1 : w27.cell? ⟨gb176, 1, none⟩ = some (.int .i64 a0_1) := cC BK176 1; have hcz29_2 : w27.cell? ⟨gb176, 2, none⟩ = some (.slice A0_2 l0_2.length c0_2) := cC BK176 2; have hcz29_3 : w27.cell? ⟨gb176, 3, none⟩ = some (.int .i64 a0_3) := cC BK176 3; have hcz29_4 : w27.cell? ⟨gb176, 4, none⟩ = some (.int .i64 a0_4) := cC BK176 4; have hcz29_5 : w27.cell? ⟨gb176, 5, none⟩ = some (.slice A0_5 l0_5.length c0_5) := cC BK176 5; have hcz29_6 : w27.cell? ⟨gb176, 6, none⟩ = some (.int .i64 a0_6) := cC BK176 6; have hcz29_7 : w27.cell? ⟨gb176, 7, none⟩ = some (.int .i64 a0_7) := cC BK176 7; have hfz29_0 := blk_frozen BK176.out 0; have hfz29_1 := blk_frozen BK176.out 1; have hfz29_2 := blk_frozen BK176.out 2; have hfz29_3 := blk_frozen BK176.out 3; have hfz29_4 := blk_frozen BK176.out 4; have hfz29_5 := blk_frozen BK176.out 5; have hfz29_6 := blk_frozen BK176.out 6; have hfz29_7 := blk_frozen BK176.out 7) | ((with_reducible refine gate_callee (f := 28) rfl ?_); refine goesL_ (some 12) rfl rfl Try.func28 (by kernel_rfl) rfl #[.agg #[.int .i64 a0_0, .int .i64 a0_1, .slice A0_2 l0_2.length c0_2, .int .i64 a0_3, .int .i64 a0_4, .slice A0_5 l0_5.length c0_5, .int .i64 a0_6, .int .i64 a0_7], .int .i64 1048576] rfl (by (try simp only [mA, mC, mN]); first | done | rfl | (simp only [lD, lT]; rfl)) ?_; (with_reducible refine (laws_szReport.calls a0_0 a0_1 _ _ l0_2 a0_3 a0_4 _ _ l0_5 a0_6 a0_7 1048576 t178 _ ?side1 ?side2 ?side3 ?side4 A3.out).mono ?_); (case side1 => exact qC (Kd.C_below HR0_2.out HB.out)); (case side2 => exact HC0_2.out); (case side3 => exact qC (Kd.C_below HR0_5.out HB.out)); (case side4 => exact HC0_5.out); rintro e w30 ⟨rfl, hb⟩; refine ⟨_, rfl, ?_⟩; have n0_ := Aside0.mk (blk_below (qK BK176) hb); have n1_ := Aside0.mk (blk_below (qK BK177) hb); have n2_ := Aside0.mk (below_step (by repeat (with_reducible first | exact HB.out | apply bA | apply bN | apply bD | refine bS ?_ GE176.out | refine bS ?_ GE177.out)) hb); clear BK176; clear BK177; clear HB; have BK176 := n0_; have BK177 := n1_; have HB := n2_; clear n0_ n1_ n2_; (try clear hb); (try clear hb2); (try clear hk); (try clear hi); have hcz31_0 : w30.cell? ⟨gb177, 0, none⟩ = some (.int .i64 a1_0) := cC BK177 0; have hcz31_1 : w30.cell? ⟨gb177, 1, none⟩ = some (.int .i64 a1_1) := cC BK177 1; have hcz31_2 : w30.cell? ⟨gb177, 2, none⟩ = some (.slice A1_2 l1_2.length c1_2) := cC BK177 2; have hcz31_3 : w30.cell? ⟨gb177, 3, none⟩ = some (.int .i64 a1_3) := cC BK177 3; have hcz31_4 : w30.cell? ⟨gb177, 4, none⟩ = some (.int .i64 a1_4) := cC BK177 4; have hcz31_5 : w30.cell? ⟨gb177, 5, none⟩ = some (.slice A1_5 l1_5.length c1_5) := cC BK177 5; have hcz31_6 : w30.cell? ⟨gb177, 6, none⟩ = some (.int .i64 a1_6) := cC BK177 6; have hcz31_7 : w30.cell? ⟨gb177, 7, none⟩ = some (.int .i64 a1_7) := cC BK177 7; have hfz31_0 := blk_frozen BK177.out 0; have hfz31_1 := blk_frozen BK177.out 1; have hfz31_2 := blk_frozen BK177.out 2; have hfz31_3 := blk_frozen BK177.out 3; have hfz31_4 := blk_frozen BK177.out 4; have hfz31_5 := blk_frozen BK177.out 5; have hfz31_6 := blk_frozen BK177.out 6; have hfz31_7 := blk_frozen BK177.out 7) | ((with_reducible refine gate_callee (f := 28) rfl ?_); refine goesL_ (some 17) rfl rfl Try.func28 (by kernel_rfl) rfl #[.agg #[.int .i64 a1_0, .int .i64 a1_1, .slice A1_2 l1_2.length c1_2, .int .i64 a1_3, .int .i64 a1_4, .slice A1_5 l1_5.length c1_5, .int .i64 a1_6, .int .i64 a1_7], .int .i64 t178] rfl (by (try simp only [mA, mC, mN]); first | done | rfl | (simp only [lD, lT]; rfl)) ?_; (with_reducible refine (laws_szReport.calls a1_0 a1_1 _ _ l1_2 a1_3 a1_4 _ _ l1_5 a1_6 a1_7 t178 t179 _ ?side1 ?side2 ?side3 ?side4 A10.out).mono ?_); (case side1 => exact qC (Kd.C_below HR1_2.out HB.out)); (case side2 => exact HC1_2.out); (case side3 => exact qC (Kd.C_below HR1_5.out HB.out)); (case side4 => exact HC1_5.out); rintro e w32 ⟨rfl, hb⟩; refine ⟨_, rfl, ?_⟩; have n0_ := Aside0.mk (blk_below (qK BK176) hb); have n1_ := Aside0.mk (blk_below (qK BK177) hb); have n2_ := Aside0.mk (below_step (by repeat (with_reducible first | exact HB.out | apply bA | apply bN | apply bD | refine bS ?_ GE176.out | refine bS ?_ GE177.out)) hb); clear BK176; clear BK177; clear HB; have BK176 := n0_; have BK177 := n1_; have HB := n2_; clear n0_ n1_ n2_; (try clear hb); (try clear hb2); (try clear hk); (try clear hi)))
    have n0_ := Aside0.mk (blk_drew BK176.out)
    have n1_ := Aside0.mk (blk_drew BK177.out)
    have n2_ := Aside0.mk (below_drew1 HB.out)
    clear BK176
    clear BK177
    clear HB
    have BK176 := n0_
    have BK177 := n1_
    have HB := n2_
    clear n0_ n1_ n2_
    refine start_ (n := 6) (S := fun w' => w'.cell? ⟨gb176, 0, none⟩ = some (.int .i64 a0_0) ∧ w'.cell? ⟨gb176, 1, none⟩ = some (.int .i64 a0_1) ∧ w'.cell? ⟨gb176, 2, none⟩ = some (.slice A0_2 l0_2.length c0_2) ∧ w'.cell? ⟨gb176, 3, none⟩ = some (.int .i64 a0_3) ∧ w'.cell? ⟨gb176, 4, none⟩ = some (.int .i64 a0_4) ∧ w'.cell? ⟨gb176, 5, none⟩ = some (.slice A0_5 l0_5.length c0_5) ∧ w'.cell? ⟨gb176, 6, none⟩ = some (.int .i64 a0_6) ∧ w'.cell? ⟨gb176, 7, none⟩ = some (.int .i64 a0_7) ∧ w'.cell? ⟨gb177, 0, none⟩ = some (.int .i64 a1_0) ∧ w'.cell? ⟨gb177, 1, none⟩ = some (.int .i64 a1_1) ∧ w'.cell? ⟨gb177, 2, none⟩ = some (.slice A1_2 l1_2.length c1_2) ∧ w'.cell? ⟨gb177, 3, none⟩ = some (.int .i64 a1_3) ∧ w'.cell? ⟨gb177, 4, none⟩ = some (.int .i64 a1_4) ∧ w'.cell? ⟨gb177, 5, none⟩ = some (.slice A1_5 l1_5.length c1_5) ∧ w'.cell? ⟨gb177, 6, none⟩ = some (.int .i64 a1_6) ∧ w'.cell? ⟨gb177, 7, none⟩ = some (.int .i64 a1_7)) (ds := []) (bR [0, 6]) (by kernel_rfl) rfl rfl ⟨cC BK176 0, cC BK176 1, cC BK176 2, cC BK176 3, cC BK176 4, cC BK176 5, cC BK176 6, cC BK176 7, cC BK177 0, cC BK177 1, cC BK177 2, cC BK177 3, cC BK177 4, cC BK177 5, cC BK177 6, cC BK177 7⟩ (fun hHeld => ?_)
    generalize w32.drew = w33 at BK176 BK177 HB hHeld ⊢
    refine take_ (i := 0) (N := some 20) (v := ?_) (a' := ?_) (bR [1, 5]) rfl rfl (by kernel_rfl) (fun _ _ _ h => h) (Or.inl ⟨by rfl, ?_⟩) hHeld ?_ ?_
    rotate_left; (rintro w' ⟨s0, s1, s2, s3, s4, s5, s6, s7, s8, s9, s10, s11, s12, s13, s14, s15⟩; go_simp; with_reducible rfl); rotate_left; (simp only [Act.put, sA, sZ, sS, i64_w]; rfl)
    refine take_ (i := 2) (N := some 22) (v := ?_) (a' := ?_) (bR [1, 1, 1, 3]) rfl rfl (by kernel_rfl) (fun _ _ _ h => h) (Or.inl ⟨by rfl, ?_⟩) hHeld ?_ ?_
    rotate_left; (rintro w' ⟨s0, s1, s2, s3, s4, s5, s6, s7, s8, s9, s10, s11, s12, s13, s14, s15⟩; go_simp; with_reducible rfl); rotate_left; (simp only [Act.put, sA, sZ, sS, i64_w]; rfl)
    refine one_ (i := 1) (N := some 21) (bR [3, 3]) rfl rfl (by kernel_rfl) (by decide) (fun K hK => ?_)
    refine goes_ Try.func30 (by kernel_rfl) rfl #[.agg #[.int .i64 a0_0, .int .i64 a0_1, .slice A0_2 l0_2.length c0_2, .int .i64 a0_3, .int .i64 a0_4, .slice A0_5 l0_5.length c0_5, .int .i64 a0_6, .int .i64 a0_7]] (by rfl) rfl rfl (by (try simp only [mA, mC, mN]); first | done | rfl | (simp only [lD, lT]; rfl)) ?_
    with_reducible refine (laws_toReport.calls k a0_0 a0_1 _ _ l0_2 a0_3 a0_4 _ _ l0_5 a0_6 a0_7 t180 t181 t182 t185 t186 t187 t190 t191 _ ?side1 ?side2 ?side3 ?side4 A19.out).mono ?_
    (case side1 => exact qC (Kd.C_below HR0_2.out HB.out))
    (case side2 => exact HC0_2.out)
    (case side3 => exact qC (Kd.C_below HR0_5.out HB.out))
    (case side4 => exact HC0_5.out)
    rintro e w34 ⟨v183, v188, rfl, ho0, ho1, hb⟩
    refine ⟨_, rfl, ?_⟩
    have n0_ := Aside0.mk (Kd.R_lower ho0 (below_size (by repeat (with_reducible first | exact HB.out | apply bA | apply bN | apply bD | refine bS ?_ GE176.out | refine bS ?_ GE177.out))))
    have n1_ := Aside0.mk (Kd.R_lower ho1 (below_size (by repeat (with_reducible first | exact HB.out | apply bA | apply bN | apply bD | refine bS ?_ GE176.out | refine bS ?_ GE177.out))))
    have n2_ := Aside0.mk (blk_below (qK BK176) hb)
    have n3_ := Aside0.mk (blk_below (qK BK177) hb)
    have n4_ := Aside0.mk (below_step (by repeat (with_reducible first | exact HB.out | apply bA | apply bN | apply bD | refine bS ?_ GE176.out | refine bS ?_ GE177.out)) hb)
    clear BK176
    clear BK177
    clear HB
    have HO184 := n0_
    have HO189 := n1_
    have BK176 := n2_
    have BK177 := n3_
    have HB := n4_
    clear n0_ n1_ n2_ n3_ n4_
    (try clear hb)
    (try clear hb2)
    (try clear hk)
    (try clear hi)
    (try clear ho0)
    (try clear ho1)
    refine hK.out _ _ ⟨cC BK176 0, cC BK176 1, cC BK176 2, cC BK176 3, cC BK176 4, cC BK176 5, cC BK176 6, cC BK176 7, cC BK177 0, cC BK177 1, cC BK177 2, cC BK177 3, cC BK177 4, cC BK177 5, cC BK177 6, cC BK177 7⟩ (fun hHeld => ?_)
    clear hK K
    refine norm_ (a' := ?_) ?_ ?_
    rotate_left
    ·show Act.put _ (some 21) _ = _
     simp only [Act.put, sA, sZ, sS, i64_w]
     rfl
    refine one_ (i := 3) (N := some 23) (bR [4, 2]) rfl rfl (by kernel_rfl) (by decide) (fun K hK => ?_)
    refine goes_ Try.func30 (by kernel_rfl) rfl #[.agg #[.int .i64 a1_0, .int .i64 a1_1, .slice A1_2 l1_2.length c1_2, .int .i64 a1_3, .int .i64 a1_4, .slice A1_5 l1_5.length c1_5, .int .i64 a1_6, .int .i64 a1_7]] (by rfl) rfl rfl (by (try simp only [mA, mC, mN]); first | done | rfl | (simp only [lD, lT]; rfl)) ?_
    with_reducible refine (laws_toReport.calls k a1_0 a1_1 _ _ l1_2 a1_3 a1_4 _ _ l1_5 a1_6 a1_7 t192 t193 t194 t197 t198 t199 t202 t203 _ ?side1 ?side2 ?side3 ?side4 A20.out).mono ?_
    (case side1 => exact qC (Kd.C_below HR1_2.out HB.out))
    (case side2 => exact HC1_2.out)
    (case side3 => exact qC (Kd.C_below HR1_5.out HB.out))
    (case side4 => exact HC1_5.out)
    rintro e w35 ⟨v195, v200, rfl, ho0, ho1, hb⟩
    refine ⟨_, rfl, ?_⟩
    have n0_ := tO (qR HO184) hb ho0 ho1
    have n1_ := tO (qR HO189) hb ho0 ho1
    have n2_ := Aside0.mk (Kd.R_lower (Kd.R_new' (Kd.R_new' ho0 (Kd.R_lt (qR HO184))) (Kd.R_lt (qR HO189))) (below_size (by repeat (with_reducible first | exact HB.out | apply bA | apply bN | apply bD | refine bS ?_ GE176.out | refine bS ?_ GE177.out))))
    have n3_ := Aside0.mk (Kd.R_lower (Kd.R_new' (Kd.R_new' ho1 (Kd.R_lt (qR HO184))) (Kd.R_lt (qR HO189))) (below_size (by repeat (with_reducible first | exact HB.out | apply bA | apply bN | apply bD | refine bS ?_ GE176.out | refine bS ?_ GE177.out))))
    have n4_ := Aside0.mk (blk_below (qK BK176) hb)
    have n5_ := Aside0.mk (blk_below (qK BK177) hb)
    have n6_ := Aside0.mk (below_step (by repeat (with_reducible first | exact HB.out | apply bA | apply bN | apply bD | refine bS ?_ GE176.out | refine bS ?_ GE177.out)) hb)
    clear HO184
    clear HO189
    clear BK176
    clear BK177
    clear HB
    have HO184 := n0_
    have HO189 := n1_
    have HO196 := n2_
    have HO201 := n3_
    have BK176 := n4_
    have BK177 := n5_
    have HB := n6_
    clear n0_ n1_ n2_ n3_ n4_ n5_ n6_
    (try clear hb)
    (try clear hb2)
    (try clear hk)
    (try clear hi)
    (try clear ho0)
    (try clear ho1)
    obtain ⟨Ao36, co36, eo36⟩ := Kd.R_slice HO184.out
    (first | subst eo36 | (injection eo36 with f1_ f2_ f3_; have f4_ := f1_.symm; have f5_ := f3_.symm; clear f1_ f2_ f3_; subst f4_; subst f5_))
    obtain ⟨Ao37, co37, eo37⟩ := Kd.R_slice HO189.out
    (first | subst eo37 | (injection eo37 with f1_ f2_ f3_; have f4_ := f1_.symm; have f5_ := f3_.symm; clear f1_ f2_ f3_; subst f4_; subst f5_))
    obtain ⟨Ao38, co38, eo38⟩ := Kd.R_slice HO196.out
    (first | subst eo38 | (injection eo38 with f1_ f2_ f3_; have f4_ := f1_.symm; have f5_ := f3_.symm; clear f1_ f2_ f3_; subst f4_; subst f5_))
    obtain ⟨Ao39, co39, eo39⟩ := Kd.R_slice HO201.out
    (first | subst eo39 | (injection eo39 with f1_ f2_ f3_; have f4_ := f1_.symm; have f5_ := f3_.symm; clear f1_ f2_ f3_; subst f4_; subst f5_))
    refine hK.out _ _ ⟨cC BK176 0, cC BK176 1, cC BK176 2, cC BK176 3, cC BK176 4, cC BK176 5, cC BK176 6, cC BK176 7, cC BK177 0, cC BK177 1, cC BK177 2, cC BK177 3, cC BK177 4, cC BK177 5, cC BK177 6, cC BK177 7⟩ (fun hHeld => ?_)
    clear hK K
    refine norm_ (a' := ?_) ?_ ?_
    rotate_left
    ·show Act.put _ (some 23) _ = _
     simp only [Act.put, sA, sZ, sS, i64_w]
     rfl
    refine one_ (i := 4) (N := some 24) (bR [5, 1]) rfl rfl (by kernel_rfl) (by decide) (fun K hK => ?_)
    refine goes_ Try.func29 (by kernel_rfl) rfl #[.agg #[.int .i64 t180, .int .i64 t181, .slice Ao36 t182.length co36, .int .i64 t185, .int .i64 t186, .slice Ao37 t187.length co37, .int .i64 t190, .int .i64 t191], .agg #[.int .i64 t192, .int .i64 t193, .slice Ao38 t194.length co38, .int .i64 t197, .int .i64 t198, .slice Ao39 t199.length co39, .int .i64 t202, .int .i64 t203]] (by rfl) rfl rfl (by (try simp only [mA, mC, mN]); first | done | rfl | (simp only [lD, lT]; rfl)) ?_
    with_reducible refine (spec_IsWider.calls k t180 t181 _ _ t182 t185 t186 _ _ t187 t190 t191 t192 t193 _ _ t194 t197 t198 _ _ t199 t202 t203 t204 _ ?side1 ?side2 ?side3 ?side4 ?side5 ?side6 ?side7 ?side8 A21.out).mono ?_
    (case side1 => repeat (first | exact (Kd.R_reads' HO184.out).2.2 | (with_reducible refine Kd.C_alloc ?_ _) | (with_reducible refine Kd.C_drewN ?_ _) | (with_reducible refine Kd.C_drew ?_)))
    (case side2 => exact (Kd.R_reads' HO184.out).2.1)
    (case side3 => repeat (first | exact (Kd.R_reads' HO189.out).2.2 | (with_reducible refine Kd.C_alloc ?_ _) | (with_reducible refine Kd.C_drewN ?_ _) | (with_reducible refine Kd.C_drew ?_)))
    (case side4 => exact (Kd.R_reads' HO189.out).2.1)
    (case side5 => repeat (first | exact (Kd.R_reads' HO196.out).2.2 | (with_reducible refine Kd.C_alloc ?_ _) | (with_reducible refine Kd.C_drewN ?_ _) | (with_reducible refine Kd.C_drew ?_)))
    (case side6 => exact (Kd.R_reads' HO196.out).2.1)
    (case side7 => repeat (first | exact (Kd.R_reads' HO201.out).2.2 | (with_reducible refine Kd.C_alloc ?_ _) | (with_reducible refine Kd.C_drewN ?_ _) | (with_reducible refine Kd.C_drew ?_)))
    (case side8 => exact (Kd.R_reads' HO201.out).2.1)
    rintro e w40 ⟨rfl, hb⟩
    refine ⟨_, rfl, ?_⟩
    have n0_ := Aside0.mk (Kd.R_below (qR HO184) hb)
    have n1_ := Aside0.mk (Kd.R_below (qR HO189) hb)
    have n2_ := Aside0.mk (Kd.R_below (qR HO196) hb)
    have n3_ := Aside0.mk (Kd.R_below (qR HO201) hb)
    have n4_ := Aside0.mk (blk_below (qK BK176) hb)
    have n5_ := Aside0.mk (blk_below (qK BK177) hb)
    have n6_ := Aside0.mk (below_step (by repeat (with_reducible first | exact HB.out | apply bA | apply bN | apply bD | refine bS ?_ GE176.out | refine bS ?_ GE177.out)) hb)
    clear HO184
    clear HO189
    clear HO196
    clear HO201
    clear BK176
    clear BK177
    clear HB
    have HO184 := n0_
    have HO189 := n1_
    have HO196 := n2_
    have HO201 := n3_
    have BK176 := n4_
    have BK177 := n5_
    have HB := n6_
    clear n0_ n1_ n2_ n3_ n4_ n5_ n6_
    (try clear hb)
    (try clear hb2)
    (try clear hk)
    (try clear hi)
    refine hK.out _ _ ⟨cC BK176 0, cC BK176 1, cC BK176 2, cC BK176 3, cC BK176 4, cC BK176 5, cC BK176 6, cC BK176 7, cC BK177 0, cC BK177 1, cC BK177 2, cC BK177 3, cC BK177 4, cC BK177 5, cC BK177 6, cC BK177 7⟩ (fun hHeld => ?_)
    clear hK K
    refine norm_ (a' := ?_) ?_ ?_
    rotate_left
    ·show Act.put _ (some 24) _ = _
     simp only [Act.put, sA, sZ, sS, i64_w]
     rfl
    refine pure_ (i := 5) (N := some 6) (v := ?_) (a' := ?_) (bR [6]) rfl rfl (by kernel_rfl) (fun _ _ _ h => h) (Or.inl ⟨by rfl, ?_⟩) ?_ ?_
    rotate_left; (intro w'; go_simp; with_reducible rfl); rotate_left; (simp only [Act.put, sA, sZ, sS, i64_w]; rfl)
    refine done_ (by kernel_rfl) ?_
    have hcz41_0 : w40.cell? ⟨gb176, 0, none⟩ = some (.int .i64 a0_0) := cC BK176 0
    have hcz41_1 : w40.cell? ⟨gb176, 1, none⟩ = some (.int .i64 a0_1) := cC BK176 1
    have hcz41_2 : w40.cell? ⟨gb176, 2, none⟩ = some (.slice A0_2 l0_2.length c0_2) := cC BK176 2
    have hcz41_3 : w40.cell? ⟨gb176, 3, none⟩ = some (.int .i64 a0_3) := cC BK176 3
    have hcz41_4 : w40.cell? ⟨gb176, 4, none⟩ = some (.int .i64 a0_4) := cC BK176 4
    have hcz41_5 : w40.cell? ⟨gb176, 5, none⟩ = some (.slice A0_5 l0_5.length c0_5) := cC BK176 5
    have hcz41_6 : w40.cell? ⟨gb176, 6, none⟩ = some (.int .i64 a0_6) := cC BK176 6
    have hcz41_7 : w40.cell? ⟨gb176, 7, none⟩ = some (.int .i64 a0_7) := cC BK176 7
    have hfz41_0 := blk_frozen BK176.out 0
    have hfz41_1 := blk_frozen BK176.out 1
    have hfz41_2 := blk_frozen BK176.out 2
    have hfz41_3 := blk_frozen BK176.out 3
    have hfz41_4 := blk_frozen BK176.out 4
    have hfz41_5 := blk_frozen BK176.out 5
    have hfz41_6 := blk_frozen BK176.out 6
    have hfz41_7 := blk_frozen BK176.out 7
    try go_wp2_with (first | ((with_reducible refine gate_callee (f := 30) rfl ?_); refine goesL_ (some 26) rfl rfl Try.func30 (by kernel_rfl) rfl #[.agg #[.int .i64 a0_0, .int .i64 a0_1, .slice A0_2 l0_2.length c0_2, .int .i64 a0_3, .int .i64 a0_4, .slice A0_5 l0_5.length c0_5, .int .i64 a0_6, .int .i64 a0_7]] rfl (by (try simp only [mA, mC, mN]); first | done | rfl | (simp only [lD, lT]; rfl)) ?_; (with_reducible refine (laws_toReport.calls k a0_0 a0_1 _ _ l0_2 a0_3 a0_4 _ _ l0_5 a0_6 a0_7 t205 t206 t207 t210 t211 t212 t215 t216 _ ?side1 ?side2 ?side3 ?side4 A22.out).mono ?_); (case side1 => exact qC (Kd.C_below HR0_2.out HB.out)); (case side2 => exact HC0_2.out); (case side3 => exact qC (Kd.C_below HR0_5.out HB.out)); (case side4 => exact HC0_5.out); rintro e w42 ⟨v208, v213, rfl, ho0, ho1, hb⟩; refine ⟨_, rfl, ?_⟩; have n0_ := tO (qR HO184) hb ho0 ho1; have n1_ := tO (qR HO189) hb ho0 ho1; have n2_ := tO (qR HO196) hb ho0 ho1; have n3_ := tO (qR HO201) hb ho0 ho1; have n4_ := Aside0.mk (Kd.R_lower (Kd.R_new' (Kd.R_new' (Kd.R_new' (Kd.R_new' ho0 (Kd.R_lt (qR HO184))) (Kd.R_lt (qR HO189))) (Kd.R_lt (qR HO196))) (Kd.R_lt (qR HO201))) (below_size (by repeat (with_reducible first | exact HB.out | apply bA | apply bN | apply bD | refine bS ?_ GE176.out | refine bS ?_ GE177.out)))); have n5_ := Aside0.mk (Kd.R_lower (Kd.R_new' (Kd.R_new' (Kd.R_new' (Kd.R_new' ho1 (Kd.R_lt (qR HO184))) (Kd.R_lt (qR HO189))) (Kd.R_lt (qR HO196))) (Kd.R_lt (qR HO201))) (below_size (by repeat (with_reducible first | exact HB.out | apply bA | apply bN | apply bD | refine bS ?_ GE176.out | refine bS ?_ GE177.out)))); have n6_ := Aside0.mk (blk_below (qK BK176) hb); have n7_ := Aside0.mk (blk_below (qK BK177) hb); have n8_ := Aside0.mk (below_step (by repeat (with_reducible first | exact HB.out | apply bA | apply bN | apply bD | refine bS ?_ GE176.out | refine bS ?_ GE177.out)) hb); clear HO184; clear HO189; clear HO196; clear HO201; clear BK176; clear BK177; clear HB; have HO184 := n0_; have HO189 := n1_; have HO196 := n2_; have HO201 := n3_; have HO209 := n4_; have HO214 := n5_; have BK176 := n6_; have BK177 := n7_; have HB := n8_; clear n0_ n1_ n2_ n3_ n4_ n5_ n6_ n7_ n8_; (try clear hb); (try clear hb2); (try clear hk); (try clear hi); (try clear ho0); (try clear ho1)) | ((with_reducible refine gate_dst (N := 7) rfl ?_); refine box_event ?hg (N := 7) ?hd (cs := #[.int .i64 0, .int .i64 0, .slice none 0 0, .int .i64 0, .int .i64 0, .slice none 0 0, .int .i64 0, .int .i64 0]) (t := 51) ?hr ?_; (case hd => rfl); (case hg => rfl); (case hr => first | (go_simp; done) | (go_simp; rfl)); intro gb217 hg w43 hbox hb; have n0_ := Aside0.mk (Kd.R_below (qR HO184) hb); have n1_ := Aside0.mk (Kd.R_below (qR HO189) hb); have n2_ := Aside0.mk (Kd.R_below (qR HO196) hb); have n3_ := Aside0.mk (Kd.R_below (qR HO201) hb); have n4_ := Aside0.mk (Kd.R_below (qR HO209) hb); have n5_ := Aside0.mk (Kd.R_below (qR HO214) hb); have n6_ := Aside0.mk (blk_below (qK BK176) hb); have n7_ := Aside0.mk (blk_below (qK BK177) hb); have n8_ := Aside0.mk (below_step (by repeat (with_reducible first | exact HB.out | apply bA | apply bN | apply bD | refine bS ?_ GE176.out | refine bS ?_ GE177.out)) hb); have n9_ := Aside0.mk (hbox); have n10_ := Aside0.mk ((by rw [hg]; exact (below_size (by repeat (with_reducible first | exact HB.out | apply bA | apply bN | apply bD | refine bS ?_ GE176.out | refine bS ?_ GE177.out))) : w.heap.size ≤ gb217)); have n11_ := Aside0.mk ((by rw [hg]; exact (below_size (by repeat (with_reducible first | exact HB.out | apply bA | apply bN | apply bD | refine bS ?_ GE176.out | refine bS ?_ GE177.out))) : w.heap.size ≤ gb217)); have n12_ := Aside0.mk ((by rw [hg]; exact Nat.ne_of_lt (blk_lt (qK BK176)) : gb176 ≠ gb217)); have n13_ := Aside0.mk ((by rw [hg]; exact Nat.ne_of_gt (blk_lt (qK BK176)) : gb217 ≠ gb176)); have n14_ := Aside0.mk ((by rw [hg]; exact Nat.ne_of_lt (blk_lt (qK BK177)) : gb177 ≠ gb217)); have n15_ := Aside0.mk ((by rw [hg]; exact Nat.ne_of_gt (blk_lt (qK BK177)) : gb217 ≠ gb177)); clear HO184; clear HO189; clear HO196; clear HO201; clear HO209; clear HO214; clear BK176; clear BK177; clear HB; have HO184 := n0_; have HO189 := n1_; have HO196 := n2_; have HO201 := n3_; have HO209 := n4_; have HO214 := n5_; have BK176 := n6_; have BK177 := n7_; have HB := n8_; have BK217 := n9_; have GW217 := n10_; have GE217 := n11_; have NB176_217 := n12_; have NB217_176 := n13_; have NB177_217 := n14_; have NB217_177 := n15_; clear n0_ n1_ n2_ n3_ n4_ n5_ n6_ n7_ n8_ n9_ n10_ n11_ n12_ n13_ n14_ n15_; clear hb hbox hg; have hnb44 := NB217_176.out; have hnc44 := NB176_217.out; have hnb45 := NB217_177.out; have hnc45 := NB177_217.out; have hcz46_0 : w43.cell? ⟨gb217, 0, none⟩ = some (.int .i64 0) := cC BK217 0; have hcz46_1 : w43.cell? ⟨gb217, 1, none⟩ = some (.int .i64 0) := cC BK217 1; have hcz46_2 : w43.cell? ⟨gb217, 2, none⟩ = some (.slice none 0 0) := cC BK217 2; have hcz46_3 : w43.cell? ⟨gb217, 3, none⟩ = some (.int .i64 0) := cC BK217 3; have hcz46_4 : w43.cell? ⟨gb217, 4, none⟩ = some (.int .i64 0) := cC BK217 4; have hcz46_5 : w43.cell? ⟨gb217, 5, none⟩ = some (.slice none 0 0) := cC BK217 5; have hcz46_6 : w43.cell? ⟨gb217, 6, none⟩ = some (.int .i64 0) := cC BK217 6; have hcz46_7 : w43.cell? ⟨gb217, 7, none⟩ = some (.int .i64 0) := cC BK217 7; have hfz46_0 := blk_frozen BK217.out 0; have hfz46_1 := blk_frozen BK217.out 1; have hfz46_2 := blk_frozen BK217.out 2; have hfz46_3 := blk_frozen BK217.out 3; have hfz46_4 := blk_frozen BK217.out 4; have hfz46_5 := blk_frozen BK217.out 5; have hfz46_6 := blk_frozen BK217.out 6; have hfz46_7 := blk_frozen BK217.out 7; obtain ⟨Ao47, co47, eo47⟩ := Kd.R_slice HO209.out; subst eo47; obtain ⟨Ao48, co48, eo48⟩ := Kd.R_slice HO214.out; subst eo48; have hcz49_0 : w43.cell? ⟨gb177, 0, none⟩ = some (.int .i64 a1_0) := cC BK177 0; have hcz49_1 : w43.cell? ⟨gb177, 1, none⟩ = some (.int .i64 a1_1) := cC BK177 1; have hcz49_2 : w43.cell? ⟨gb177, 2, none⟩ = some (.slice A1_2 l1_2.length c1_2) := cC BK177 2; have hcz49_3 : w43.cell? ⟨gb177, 3, none⟩ = some (.int .i64 a1_3) := cC BK177 3; have hcz49_4 : w43.cell? ⟨gb177, 4, none⟩ = some (.int .i64 a1_4) := cC BK177 4; have hcz49_5 : w43.cell? ⟨gb177, 5, none⟩ = some (.slice A1_5 l1_5.length c1_5) := cC BK177 5; have hcz49_6 : w43.cell? ⟨gb177, 6, none⟩ = some (.int .i64 a1_6) := cC BK177 6; have hcz49_7 : w43.cell? ⟨gb177, 7, none⟩ = some (.int .i64 a1_7) := cC BK177 7; have hfz49_0 := blk_frozen BK177.out 0; have hfz49_1 := blk_frozen BK177.out 1; have hfz49_2 := blk_frozen BK177.out 2; have hfz49_3 := blk_frozen BK177.out 3; have hfz49_4 := blk_frozen BK177.out 4; have hfz49_5 := blk_frozen BK177.out 5; have hfz49_6 := blk_frozen BK177.out 6; have hfz49_7 := blk_frozen BK177.out 7) | ((with_reducible refine gate_callee (f := 30) rfl ?_); refine goesL_ (some 28) rfl rfl Try.func30 (by kernel_rfl) rfl #[.agg #[.int .i64 a1_0, .int .i64 a1_1, .slice A1_2 l1_2.length c1_2, .int .i64 a1_3, .int .i64 a1_4, .slice A1_5 l1_5.length c1_5, .int .i64 a1_6, .int .i64 a1_7]] rfl (by (try simp only [mA, mC, mN]); first | done | rfl | (simp only [lD, lT]; rfl)) ?_; (with_reducible refine (laws_toReport.calls k a1_0 a1_1 _ _ l1_2 a1_3 a1_4 _ _ l1_5 a1_6 a1_7 t218 t219 t220 t223 t224 t225 t228 t229 _ ?side1 ?side2 ?side3 ?side4 A23.out).mono ?_); (case side1 => exact Kd.C_below HR1_2.out (by repeat (with_reducible first | exact HB.out | apply bA | apply bN | apply bD | refine bS ?_ GE176.out | refine bS ?_ GE177.out | refine bS ?_ GE217.out))); (case side2 => exact HC1_2.out); (case side3 => exact Kd.C_below HR1_5.out (by repeat (with_reducible first | exact HB.out | apply bA | apply bN | apply bD | refine bS ?_ GE176.out | refine bS ?_ GE177.out | refine bS ?_ GE217.out))); (case side4 => exact HC1_5.out); rintro e w50 ⟨v221, v226, rfl, ho0, ho1, hb⟩; refine ⟨_, rfl, ?_⟩; have n0_ := tO (by (with_reducible repeat first | apply rA | apply rN | apply rD); exact (far8 HO184 BK217)) hb ho0 ho1; have n1_ := tO (by (with_reducible repeat first | apply rA | apply rN | apply rD); exact (far8 HO189 BK217)) hb ho0 ho1; have n2_ := tO (by (with_reducible repeat first | apply rA | apply rN | apply rD); exact (far8 HO196 BK217)) hb ho0 ho1; have n3_ := tO (by (with_reducible repeat first | apply rA | apply rN | apply rD); exact (far8 HO201 BK217)) hb ho0 ho1; have n4_ := tO (by (with_reducible repeat first | apply rA | apply rN | apply rD); exact (far8 HO209 BK217)) hb ho0 ho1; have n5_ := tO (by (with_reducible repeat first | apply rA | apply rN | apply rD); exact (far8 HO214 BK217)) hb ho0 ho1; have n6_ := Aside0.mk (Kd.R_lower (Kd.R_new' (Kd.R_new' (Kd.R_new' (Kd.R_new' (Kd.R_new' (Kd.R_new' ho0 (Kd.R_lt (by (with_reducible repeat first | apply rA | apply rN | apply rD); exact (far8 HO184 BK217)))) (Kd.R_lt (by (with_reducible repeat first | apply rA | apply rN | apply rD); exact (far8 HO189 BK217)))) (Kd.R_lt (by (with_reducible repeat first | apply rA | apply rN | apply rD); exact (far8 HO196 BK217)))) (Kd.R_lt (by (with_reducible repeat first | apply rA | apply rN | apply rD); exact (far8 HO201 BK217)))) (Kd.R_lt (by (with_reducible repeat first | apply rA | apply rN | apply rD); exact (far8 HO209 BK217)))) (Kd.R_lt (by (with_reducible repeat first | apply rA | apply rN | apply rD); exact (far8 HO214 BK217)))) (below_size (by repeat (with_reducible first | exact HB.out | apply bA | apply bN | apply bD | refine bS ?_ GE176.out | refine bS ?_ GE177.out | refine bS ?_ GE217.out)))); have n7_ := Aside0.mk (Kd.R_lower (Kd.R_new' (Kd.R_new' (Kd.R_new' (Kd.R_new' (Kd.R_new' (Kd.R_new' ho1 (Kd.R_lt (by (with_reducible repeat first | apply rA | apply rN | apply rD); exact (far8 HO184 BK217)))) (Kd.R_lt (by (with_reducible repeat first | apply rA | apply rN | apply rD); exact (far8 HO189 BK217)))) (Kd.R_lt (by (with_reducible repeat first | apply rA | apply rN | apply rD); exact (far8 HO196 BK217)))) (Kd.R_lt (by (with_reducible repeat first | apply rA | apply rN | apply rD); exact (far8 HO201 BK217)))) (Kd.R_lt (by (with_reducible repeat first | apply rA | apply rN | apply rD); exact (far8 HO209 BK217)))) (Kd.R_lt (by (with_reducible repeat first | apply rA | apply rN | apply rD); exact (far8 HO214 BK217)))) (below_size (by repeat (with_reducible first | exact HB.out | apply bA | apply bN | apply bD | refine bS ?_ GE176.out | refine bS ?_ GE177.out | refine bS ?_ GE217.out)))); have n8_ := Aside0.mk (blk_below (g := gb176) (o := .cells #[.int .i64 a0_0, .int .i64 a0_1, .slice A0_2 l0_2.length c0_2, .int .i64 a0_3, .int .i64 a0_4, .slice A0_5 l0_5.length c0_5, .int .i64 a0_6, .int .i64 a0_7] 46 (0, 0)) (by (with_reducible repeat first | refine kN ?_ _ | refine kD ?_ | refine kA ?_ _); exact blk8 BK176.out NB176_217) hb); have n9_ := Aside0.mk (blk_below (g := gb177) (o := .cells #[.int .i64 a1_0, .int .i64 a1_1, .slice A1_2 l1_2.length c1_2, .int .i64 a1_3, .int .i64 a1_4, .slice A1_5 l1_5.length c1_5, .int .i64 a1_6, .int .i64 a1_7] 46 (0, 0)) (by (with_reducible repeat first | refine kN ?_ _ | refine kD ?_ | refine kA ?_ _); exact blk8 BK177.out NB177_217) hb); have n10_ := Aside0.mk (blk_below (g := gb217) (o := .cells #[.int .i64 t205, .int .i64 t206, .slice Ao47 t207.length co47, .int .i64 t210, .int .i64 t211, .slice Ao48 t212.length co48, .int .i64 t215, .int .i64 t216] 51 (0, 0)) (by (with_reducible repeat first | refine kN ?_ _ | refine kD ?_ | refine kA ?_ _); refine blk_put (cs := #[.int .i64 t205, .int .i64 t206, .slice Ao47 t207.length co47, .int .i64 t210, .int .i64 t211, .slice Ao48 t212.length co48, .int .i64 t215, .int .i64 0]) ?_ 7 _ rfl; (with_reducible repeat first | refine kN ?_ _ | refine kD ?_ | refine kA ?_ _); refine blk_put (cs := #[.int .i64 t205, .int .i64 t206, .slice Ao47 t207.length co47, .int .i64 t210, .int .i64 t211, .slice Ao48 t212.length co48, .int .i64 0, .int .i64 0]) ?_ 6 _ rfl; (with_reducible repeat first | refine kN ?_ _ | refine kD ?_ | refine kA ?_ _); refine blk_put (cs := #[.int .i64 t205, .int .i64 t206, .slice Ao47 t207.length co47, .int .i64 t210, .int .i64 t211, .slice none 0 0, .int .i64 0, .int .i64 0]) ?_ 5 _ rfl; (with_reducible repeat first | refine kN ?_ _ | refine kD ?_ | refine kA ?_ _); refine blk_put (cs := #[.int .i64 t205, .int .i64 t206, .slice Ao47 t207.length co47, .int .i64 t210, .int .i64 0, .slice none 0 0, .int .i64 0, .int .i64 0]) ?_ 4 _ rfl; (with_reducible repeat first | refine kN ?_ _ | refine kD ?_ | refine kA ?_ _); refine blk_put (cs := #[.int .i64 t205, .int .i64 t206, .slice Ao47 t207.length co47, .int .i64 0, .int .i64 0, .slice none 0 0, .int .i64 0, .int .i64 0]) ?_ 3 _ rfl; (with_reducible repeat first | refine kN ?_ _ | refine kD ?_ | refine kA ?_ _); refine blk_put (cs := #[.int .i64 t205, .int .i64 t206, .slice none 0 0, .int .i64 0, .int .i64 0, .slice none 0 0, .int .i64 0, .int .i64 0]) ?_ 2 _ rfl; (with_reducible repeat first | refine kN ?_ _ | refine kD ?_ | refine kA ?_ _); refine blk_put (cs := #[.int .i64 t205, .int .i64 0, .slice none 0 0, .int .i64 0, .int .i64 0, .slice none 0 0, .int .i64 0, .int .i64 0]) ?_ 1 _ rfl; (with_reducible repeat first | refine kN ?_ _ | refine kD ?_ | refine kA ?_ _); refine blk_put (cs := #[.int .i64 0, .int .i64 0, .slice none 0 0, .int .i64 0, .int .i64 0, .slice none 0 0, .int .i64 0, .int .i64 0]) ?_ 0 _ rfl; (with_reducible repeat first | refine kN ?_ _ | refine kD ?_ | refine kA ?_ _); exact BK217.out) hb); have n11_ := Aside0.mk (below_step (by repeat (with_reducible first | exact HB.out | apply bA | apply bN | apply bD | refine bS ?_ GE176.out | refine bS ?_ GE177.out | refine bS ?_ GE217.out)) hb); clear HO184; clear HO189; clear HO196; clear HO201; clear HO209; clear HO214; clear BK176; clear BK177; clear BK217; clear HB; have HO184 := n0_; have HO189 := n1_; have HO196 := n2_; have HO201 := n3_; have HO209 := n4_; have HO214 := n5_; have HO222 := n6_; have HO227 := n7_; have BK176 := n8_; have BK177 := n9_; have BK217 := n10_; have HB := n11_; clear n0_ n1_ n2_ n3_ n4_ n5_ n6_ n7_ n8_ n9_ n10_ n11_; (try clear hb); (try clear hb2); (try clear hk); (try clear hi); (try clear ho0); (try clear ho1)) | ((with_reducible refine gate_dst (N := 8) rfl ?_); refine box_event ?hg (N := 8) ?hd (cs := #[.int .i64 0, .int .i64 0, .slice none 0 0, .int .i64 0, .int .i64 0, .slice none 0 0, .int .i64 0, .int .i64 0]) (t := 51) ?hr ?_; (case hd => rfl); (case hg => rfl); (case hr => first | (go_simp; done) | (go_simp; rfl)); intro gb230 hg w51 hbox hb; have n0_ := Aside0.mk (Kd.R_below (qR HO184) hb); have n1_ := Aside0.mk (Kd.R_below (qR HO189) hb); have n2_ := Aside0.mk (Kd.R_below (qR HO196) hb); have n3_ := Aside0.mk (Kd.R_below (qR HO201) hb); have n4_ := Aside0.mk (Kd.R_below (qR HO209) hb); have n5_ := Aside0.mk (Kd.R_below (qR HO214) hb); have n6_ := Aside0.mk (Kd.R_below (qR HO222) hb); have n7_ := Aside0.mk (Kd.R_below (qR HO227) hb); have n8_ := Aside0.mk (blk_below (qK BK176) hb); have n9_ := Aside0.mk (blk_below (qK BK177) hb); have n10_ := Aside0.mk (blk_below (qK BK217) hb); have n11_ := Aside0.mk (below_step (by repeat (with_reducible first | exact HB.out | apply bA | apply bN | apply bD | refine bS ?_ GE176.out | refine bS ?_ GE177.out | refine bS ?_ GE217.out)) hb); have n12_ := Aside0.mk (hbox); have n13_ := Aside0.mk ((by rw [hg]; exact (below_size (by repeat (with_reducible first | exact HB.out | apply bA | apply bN | apply bD | refine bS ?_ GE176.out | refine bS ?_ GE177.out | refine bS ?_ GE217.out))) : w.heap.size ≤ gb230)); have n14_ := Aside0.mk ((by rw [hg]; exact (below_size (by repeat (with_reducible first | exact HB.out | apply bA | apply bN | apply bD | refine bS ?_ GE176.out | refine bS ?_ GE177.out | refine bS ?_ GE217.out))) : w.heap.size ≤ gb230)); have n15_ := Aside0.mk ((by rw [hg]; exact Nat.ne_of_lt (blk_lt (qK BK176)) : gb176 ≠ gb230)); have n16_ := Aside0.mk ((by rw [hg]; exact Nat.ne_of_gt (blk_lt (qK BK176)) : gb230 ≠ gb176)); have n17_ := Aside0.mk ((by rw [hg]; exact Nat.ne_of_lt (blk_lt (qK BK177)) : gb177 ≠ gb230)); have n18_ := Aside0.mk ((by rw [hg]; exact Nat.ne_of_gt (blk_lt (qK BK177)) : gb230 ≠ gb177)); have n19_ := Aside0.mk ((by rw [hg]; exact Nat.ne_of_lt (blk_lt (qK BK217)) : gb217 ≠ gb230)); have n20_ := Aside0.mk ((by rw [hg]; exact Nat.ne_of_gt (blk_lt (qK BK217)) : gb230 ≠ gb217)); clear HO184; clear HO189; clear HO196; clear HO201; clear HO209; clear HO214; clear HO222; clear HO227; clear BK176; clear BK177; clear BK217; clear HB; have HO184 := n0_; have HO189 := n1_; have HO196 := n2_; have HO201 := n3_; have HO209 := n4_; have HO214 := n5_; have HO222 := n6_; have HO227 := n7_; have BK176 := n8_; have BK177 := n9_; have BK217 := n10_; have HB := n11_; have BK230 := n12_; have GW230 := n13_; have GE230 := n14_; have NB176_230 := n15_; have NB230_176 := n16_; have NB177_230 := n17_; have NB230_177 := n18_; have NB217_230 := n19_; have NB230_217 := n20_; clear n0_ n1_ n2_ n3_ n4_ n5_ n6_ n7_ n8_ n9_ n10_ n11_ n12_ n13_ n14_ n15_ n16_ n17_ n18_ n19_ n20_; clear hb hbox hg; have hnb52 := NB230_176.out; have hnc52 := NB176_230.out; have hnb53 := NB230_177.out; have hnc53 := NB177_230.out; have hnb54 := NB230_217.out; have hnc54 := NB217_230.out; have hcz55_0 : w51.cell? ⟨gb230, 0, none⟩ = some (.int .i64 0) := cC BK230 0; have hcz55_1 : w51.cell? ⟨gb230, 1, none⟩ = some (.int .i64 0) := cC BK230 1; have hcz55_2 : w51.cell? ⟨gb230, 2, none⟩ = some (.slice none 0 0) := cC BK230 2; have hcz55_3 : w51.cell? ⟨gb230, 3, none⟩ = some (.int .i64 0) := cC BK230 3; have hcz55_4 : w51.cell? ⟨gb230, 4, none⟩ = some (.int .i64 0) := cC BK230 4; have hcz55_5 : w51.cell? ⟨gb230, 5, none⟩ = some (.slice none 0 0) := cC BK230 5; have hcz55_6 : w51.cell? ⟨gb230, 6, none⟩ = some (.int .i64 0) := cC BK230 6; have hcz55_7 : w51.cell? ⟨gb230, 7, none⟩ = some (.int .i64 0) := cC BK230 7; have hfz55_0 := blk_frozen BK230.out 0; have hfz55_1 := blk_frozen BK230.out 1; have hfz55_2 := blk_frozen BK230.out 2; have hfz55_3 := blk_frozen BK230.out 3; have hfz55_4 := blk_frozen BK230.out 4; have hfz55_5 := blk_frozen BK230.out 5; have hfz55_6 := blk_frozen BK230.out 6; have hfz55_7 := blk_frozen BK230.out 7; obtain ⟨Ao56, co56, eo56⟩ := Kd.R_slice HO222.out; subst eo56; obtain ⟨Ao57, co57, eo57⟩ := Kd.R_slice HO227.out; subst eo57; have hcz58_0 : w51.cell? ⟨gb217, 0, none⟩ = some (.int .i64 t205) := cC BK217 0; have hcz58_1 : w51.cell? ⟨gb217, 1, none⟩ = some (.int .i64 t206) := cC BK217 1; have hcz58_2 : w51.cell? ⟨gb217, 2, none⟩ = some (.slice Ao47 t207.length co47) := cC BK217 2; have hcz58_3 : w51.cell? ⟨gb217, 3, none⟩ = some (.int .i64 t210) := cC BK217 3; have hcz58_4 : w51.cell? ⟨gb217, 4, none⟩ = some (.int .i64 t211) := cC BK217 4; have hcz58_5 : w51.cell? ⟨gb217, 5, none⟩ = some (.slice Ao48 t212.length co48) := cC BK217 5; have hcz58_6 : w51.cell? ⟨gb217, 6, none⟩ = some (.int .i64 t215) := cC BK217 6; have hcz58_7 : w51.cell? ⟨gb217, 7, none⟩ = some (.int .i64 t216) := cC BK217 7; have hfz58_0 := blk_frozen BK217.out 0; have hfz58_1 := blk_frozen BK217.out 1; have hfz58_2 := blk_frozen BK217.out 2; have hfz58_3 := blk_frozen BK217.out 3; have hfz58_4 := blk_frozen BK217.out 4; have hfz58_5 := blk_frozen BK217.out 5; have hfz58_6 := blk_frozen BK217.out 6; have hfz58_7 := blk_frozen BK217.out 7) | ((with_reducible refine gate_callee (f := 31) rfl ?_); refine goesL_ (some 31) rfl rfl Try.func31 (by kernel_rfl) rfl #[.agg #[.int .i64 t205, .int .i64 t206, .slice Ao47 t207.length co47, .int .i64 t210, .int .i64 t211, .slice Ao48 t212.length co48, .int .i64 t215, .int .i64 t216], .agg #[.int .i64 t218, .int .i64 t219, .slice Ao56 t220.length co56, .int .i64 t223, .int .i64 t224, .slice Ao57 t225.length co57, .int .i64 t228, .int .i64 t229]] rfl (by (try simp only [mA, mC, mN]); first | done | rfl | (simp only [lD, lT]; rfl)) ?_; (with_reducible refine (impl_IsWider.calls k t205 t206 _ _ t207 t210 t211 _ _ t212 t215 t216 t218 t219 _ _ t220 t223 t224 _ _ t225 t228 t229 t231 _ ?side1 ?side2 ?side3 ?side4 ?side5 ?side6 ?side7 ?side8 A24.out).mono ?_); (case side1 => refine (Kd.R_reads' (e := 3) (base := w.heap.size) (ok := fun k_ => ((((((some k_ ≠ (.slice Ao48 t212.length co48 : Value).ownBlock ∧ some k_ ≠ (.slice Ao36 t182.length co36 : Value).ownBlock) ∧ some k_ ≠ (.slice Ao37 t187.length co37 : Value).ownBlock) ∧ some k_ ≠ (.slice Ao38 t194.length co38 : Value).ownBlock) ∧ some k_ ≠ (.slice Ao39 t199.length co39 : Value).ownBlock) ∧ some k_ ≠ (.slice Ao56 t220.length co56 : Value).ownBlock) ∧ some k_ ≠ (.slice Ao57 t225.length co57 : Value).ownBlock)) (n := t207.length) (c := co47) ?_).2.2; exact (by (with_reducible repeat first | apply rA | apply rN | apply rD); exact (far8 HO209 BK230))); (case side2 => exact (Kd.R_reads' HO209.out).2.1); (case side3 => refine (Kd.R_reads' (e := 3) (base := w.heap.size) (ok := fun k_ => ((((((some k_ ≠ (.slice Ao47 t207.length co47 : Value).ownBlock ∧ some k_ ≠ (.slice Ao36 t182.length co36 : Value).ownBlock) ∧ some k_ ≠ (.slice Ao37 t187.length co37 : Value).ownBlock) ∧ some k_ ≠ (.slice Ao38 t194.length co38 : Value).ownBlock) ∧ some k_ ≠ (.slice Ao39 t199.length co39 : Value).ownBlock) ∧ some k_ ≠ (.slice Ao56 t220.length co56 : Value).ownBlock) ∧ some k_ ≠ (.slice Ao57 t225.length co57 : Value).ownBlock)) (n := t212.length) (c := co48) ?_).2.2; exact (by (with_reducible repeat first | apply rA | apply rN | apply rD); exact (far8 HO214 BK230))); (case side4 => exact (Kd.R_reads' HO214.out).2.1); (case side5 => refine (Kd.R_reads' (e := 3) (base := w.heap.size) (ok := fun k_ => ((((((some k_ ≠ (.slice Ao57 t225.length co57 : Value).ownBlock ∧ some k_ ≠ (.slice Ao36 t182.length co36 : Value).ownBlock) ∧ some k_ ≠ (.slice Ao37 t187.length co37 : Value).ownBlock) ∧ some k_ ≠ (.slice Ao38 t194.length co38 : Value).ownBlock) ∧ some k_ ≠ (.slice Ao39 t199.length co39 : Value).ownBlock) ∧ some k_ ≠ (.slice Ao47 t207.length co47 : Value).ownBlock) ∧ some k_ ≠ (.slice Ao48 t212.length co48 : Value).ownBlock)) (n := t220.length) (c := co56) ?_).2.2; exact (by (with_reducible repeat first | apply rA | apply rN | apply rD); exact (far8 HO222 BK230))); (case side6 => exact (Kd.R_reads' HO222.out).2.1); (case side7 => refine (Kd.R_reads' (e := 3) (base := w.heap.size) (ok := fun k_ => ((((((some k_ ≠ (.slice Ao56 t220.length co56 : Value).ownBlock ∧ some k_ ≠ (.slice Ao36 t182.length co36 : Value).ownBlock) ∧ some k_ ≠ (.slice Ao37 t187.length co37 : Value).ownBlock) ∧ some k_ ≠ (.slice Ao38 t194.length co38 : Value).ownBlock) ∧ some k_ ≠ (.slice Ao39 t199.length co39 : Value).ownBlock) ∧ some k_ ≠ (.slice Ao47 t207.length co47 : Value).ownBlock) ∧ some k_ ≠ (.slice Ao48 t212.length co48 : Value).ownBlock)) (n := t225.length) (c := co57) ?_).2.2; exact (by (with_reducible repeat first | apply rA | apply rN | apply rD); exact (far8 HO227 BK230))); (case side8 => exact (Kd.R_reads' HO227.out).2.1); rintro e w59 ⟨rfl, hb⟩; refine ⟨_, rfl, ?_⟩; have n0_ := Aside0.mk (Kd.R_below (by (with_reducible repeat first | apply rA | apply rN | apply rD); exact (far8 HO184 BK230)) hb); have n1_ := Aside0.mk (Kd.R_below (by (with_reducible repeat first | apply rA | apply rN | apply rD); exact (far8 HO189 BK230)) hb); have n2_ := Aside0.mk (Kd.R_below (by (with_reducible repeat first | apply rA | apply rN | apply rD); exact (far8 HO196 BK230)) hb); have n3_ := Aside0.mk (Kd.R_below (by (with_reducible repeat first | apply rA | apply rN | apply rD); exact (far8 HO201 BK230)) hb); have n4_ := Aside0.mk (Kd.R_below (by (with_reducible repeat first | apply rA | apply rN | apply rD); exact (far8 HO209 BK230)) hb); have n5_ := Aside0.mk (Kd.R_below (by (with_reducible repeat first | apply rA | apply rN | apply rD); exact (far8 HO214 BK230)) hb); have n6_ := Aside0.mk (Kd.R_below (by (with_reducible repeat first | apply rA | apply rN | apply rD); exact (far8 HO222 BK230)) hb); have n7_ := Aside0.mk (Kd.R_below (by (with_reducible repeat first | apply rA | apply rN | apply rD); exact (far8 HO227 BK230)) hb); have n8_ := Aside0.mk (blk_below (g := gb176) (o := .cells #[.int .i64 a0_0, .int .i64 a0_1, .slice A0_2 l0_2.length c0_2, .int .i64 a0_3, .int .i64 a0_4, .slice A0_5 l0_5.length c0_5, .int .i64 a0_6, .int .i64 a0_7] 46 (0, 0)) (by (with_reducible repeat first | refine kN ?_ _ | refine kD ?_ | refine kA ?_ _); exact blk8 BK176.out NB176_230) hb); have n9_ := Aside0.mk (blk_below (g := gb177) (o := .cells #[.int .i64 a1_0, .int .i64 a1_1, .slice A1_2 l1_2.length c1_2, .int .i64 a1_3, .int .i64 a1_4, .slice A1_5 l1_5.length c1_5, .int .i64 a1_6, .int .i64 a1_7] 46 (0, 0)) (by (with_reducible repeat first | refine kN ?_ _ | refine kD ?_ | refine kA ?_ _); exact blk8 BK177.out NB177_230) hb); have n10_ := Aside0.mk (blk_below (g := gb217) (o := .cells #[.int .i64 t205, .int .i64 t206, .slice Ao47 t207.length co47, .int .i64 t210, .int .i64 t211, .slice Ao48 t212.length co48, .int .i64 t215, .int .i64 t216] 51 (0, 0)) (by (with_reducible repeat first | refine kN ?_ _ | refine kD ?_ | refine kA ?_ _); exact blk8 BK217.out NB217_230) hb); have n11_ := Aside0.mk (blk_below (g := gb230) (o := .cells #[.int .i64 t218, .int .i64 t219, .slice Ao56 t220.length co56, .int .i64 t223, .int .i64 t224, .slice Ao57 t225.length co57, .int .i64 t228, .int .i64 t229] 51 (0, 0)) (by (with_reducible repeat first | refine kN ?_ _ | refine kD ?_ | refine kA ?_ _); refine blk_put (cs := #[.int .i64 t218, .int .i64 t219, .slice Ao56 t220.length co56, .int .i64 t223, .int .i64 t224, .slice Ao57 t225.length co57, .int .i64 t228, .int .i64 0]) ?_ 7 _ rfl; (with_reducible repeat first | refine kN ?_ _ | refine kD ?_ | refine kA ?_ _); refine blk_put (cs := #[.int .i64 t218, .int .i64 t219, .slice Ao56 t220.length co56, .int .i64 t223, .int .i64 t224, .slice Ao57 t225.length co57, .int .i64 0, .int .i64 0]) ?_ 6 _ rfl; (with_reducible repeat first | refine kN ?_ _ | refine kD ?_ | refine kA ?_ _); refine blk_put (cs := #[.int .i64 t218, .int .i64 t219, .slice Ao56 t220.length co56, .int .i64 t223, .int .i64 t224, .slice none 0 0, .int .i64 0, .int .i64 0]) ?_ 5 _ rfl; (with_reducible repeat first | refine kN ?_ _ | refine kD ?_ | refine kA ?_ _); refine blk_put (cs := #[.int .i64 t218, .int .i64 t219, .slice Ao56 t220.length co56, .int .i64 t223, .int .i64 0, .slice none 0 0, .int .i64 0, .int .i64 0]) ?_ 4 _ rfl; (with_reducible repeat first | refine kN ?_ _ | refine kD ?_ | refine kA ?_ _); refine blk_put (cs := #[.int .i64 t218, .int .i64 t219, .slice Ao56 t220.length co56, .int .i64 0, .int .i64 0, .slice none 0 0, .int .i64 0, .int .i64 0]) ?_ 3 _ rfl; (with_reducible repeat first | refine kN ?_ _ | refine kD ?_ | refine kA ?_ _); refine blk_put (cs := #[.int .i64 t218, .int .i64 t219, .slice none 0 0, .int .i64 0, .int .i64 0, .slice none 0 0, .int .i64 0, .int .i64 0]) ?_ 2 _ rfl; (with_reducible repeat first | refine kN ?_ _ | refine kD ?_ | refine kA ?_ _); refine blk_put (cs := #[.int .i64 t218, .int .i64 0, .slice none 0 0, .int .i64 0, .int .i64 0, .slice none 0 0, .int .i64 0, .int .i64 0]) ?_ 1 _ rfl; (with_reducible repeat first | refine kN ?_ _ | refine kD ?_ | refine kA ?_ _); refine blk_put (cs := #[.int .i64 0, .int .i64 0, .slice none 0 0, .int .i64 0, .int .i64 0, .slice none 0 0, .int .i64 0, .int .i64 0]) ?_ 0 _ rfl; (with_reducible repeat first | refine kN ?_ _ | refine kD ?_ | refine kA ?_ _); exact BK230.out) hb); have n12_ := Aside0.mk (below_step (by repeat (with_reducible first | exact HB.out | apply bA | apply bN | apply bD | refine bS ?_ GE176.out | refine bS ?_ GE177.out | refine bS ?_ GE217.out | refine bS ?_ GE230.out)) hb); clear HO184; clear HO189; clear HO196; clear HO201; clear HO209; clear HO214; clear HO222; clear HO227; clear BK176; clear BK177; clear BK217; clear BK230; clear HB; have HO184 := n0_; have HO189 := n1_; have HO196 := n2_; have HO201 := n3_; have HO209 := n4_; have HO214 := n5_; have HO222 := n6_; have HO227 := n7_; have BK176 := n8_; have BK177 := n9_; have BK217 := n10_; have BK230 := n11_; have HB := n12_; clear n0_ n1_ n2_ n3_ n4_ n5_ n6_ n7_ n8_ n9_ n10_ n11_ n12_; (try clear hb); (try clear hb2); (try clear hk); (try clear hi)))
    go_ret
    exact ⟨by first | rfl | (simp [errW_none, errW_some] <;> rfl) | (simp [*, errW_none, errW_some] <;> rfl), by repeat (first | (with_reducible first | exact HB.out | apply bA | apply bN | apply bD | refine bS ?_ GE176.out | refine bS ?_ GE177.out | refine bS ?_ GE217.out | refine bS ?_ GE230.out) | exact HB.out)⟩
   ·rw [if_neg c25] at H
    have c25b0 : (t231 != t204) = false := by simpa using c25
    (try (have c25b1 : decide (t231 = t204) = true := by simpa using c25))
    (try (have c25b2 : (t231 == t204) = true := by simpa using c25))
    clear c25
    replace H := Option.bind_eq_some_iff.mp H
    obtain ⟨⟨t232, t233, t234, t237, t238, t239, t242, t243⟩, A600, H⟩ := H
    replace H : ((laws_eqReport.f k t205 t206 t207 t210 t211 t212 t215 t216 t232 t233 t234 t237 t238 t239 t242 t243).bind fun t244 => (if t244 = true then ((laws_toReport.f k a1_0 a1_1 l1_2 a1_3 a1_4 l1_5 a1_6 a1_7).bind fun bt245 => ((laws_eqReport.f k t218 t219 t220 t223 t224 t225 t228 t229 bt245.1 bt245.2.1 bt245.2.2.1 bt245.2.2.2.1 bt245.2.2.2.2.1 bt245.2.2.2.2.2.1 bt245.2.2.2.2.2.2.1 bt245.2.2.2.2.2.2.2).bind fun t257 => (if t257 = true then (some true) else (some false)))) else (some false))) = some r := H
    have A60 := Aside0.mk A600
    clear A600
    replace H := Option.bind_eq_some_iff.mp H
    obtain ⟨t244, A610, H⟩ := H
    replace H : (if t244 = true then ((laws_toReport.f k a1_0 a1_1 l1_2 a1_3 a1_4 l1_5 a1_6 a1_7).bind fun bt245 => ((laws_eqReport.f k t218 t219 t220 t223 t224 t225 t228 t229 bt245.1 bt245.2.1 bt245.2.2.1 bt245.2.2.2.1 bt245.2.2.2.2.1 bt245.2.2.2.2.2.1 bt245.2.2.2.2.2.2.1 bt245.2.2.2.2.2.2.2).bind fun t257 => (if t257 = true then (some true) else (some false)))) else (some false)) = some r := H
    have A61 := Aside0.mk A610
    clear A610
    by_cases c62 : t244 = true
    ·subst c62
     have H1 : ((laws_toReport.f k a1_0 a1_1 l1_2 a1_3 a1_4 l1_5 a1_6 a1_7).bind fun bt245 => ((laws_eqReport.f k t218 t219 t220 t223 t224 t225 t228 t229 bt245.1 bt245.2.1 bt245.2.2.1 bt245.2.2.2.1 bt245.2.2.2.2.1 bt245.2.2.2.2.2.1 bt245.2.2.2.2.2.2.1 bt245.2.2.2.2.2.2.2).bind fun t257 => (if t257 = true then (some true) else (some false)))) = some r := by rw [if_pos rfl] at H; exact H
     clear H
     have H := H1
     clear H1
     replace H := Option.bind_eq_some_iff.mp H
     obtain ⟨⟨t245, t246, t247, t250, t251, t252, t255, t256⟩, A630, H⟩ := H
     replace H : ((laws_eqReport.f k t218 t219 t220 t223 t224 t225 t228 t229 t245 t246 t247 t250 t251 t252 t255 t256).bind fun t257 => (if t257 = true then (some true) else (some false))) = some r := H
     have A63 := Aside0.mk A630
     clear A630
     replace H := Option.bind_eq_some_iff.mp H
     obtain ⟨t257, A640, H⟩ := H
     replace H : (if t257 = true then (some true) else (some false)) = some r := H
     have A64 := Aside0.mk A640
     clear A640
     by_cases c65 : t257 = true
     ·subst c65
      have H1 : (some true) = some r := by rw [if_pos rfl] at H; exact H
      clear H
      have H := H1
      clear H1
      obtain rfl := Option.some.inj H
      go_enter Try.func5, Try.ntmps5
      try go_wp2_with (first | ((with_reducible refine gate_dst (N := 2) rfl ?_); refine box_event ?hg (N := 2) ?hd (cs := #[.int .i64 a0_0, .int .i64 a0_1, .slice A0_2 l0_2.length c0_2, .int .i64 a0_3, .int .i64 a0_4, .slice A0_5 l0_5.length c0_5, .int .i64 a0_6, .int .i64 a0_7]) (t := 46) ?hr ?_; (case hd => rfl); (case hg => rfl); (case hr => first | (go_simp; done) | (go_simp; rfl)); intro gb176 hg w66 hbox hb; have n0_ := Aside0.mk (below_step (qB HB) hb); have n1_ := Aside0.mk (hbox); have n2_ := Aside0.mk ((by rw [hg]; exact (below_size (qB HB)) : w.heap.size ≤ gb176)); have n3_ := Aside0.mk ((by rw [hg]; exact (below_size (qB HB)) : w.heap.size ≤ gb176)); clear HB; have HB := n0_; have BK176 := n1_; have GW176 := n2_; have GE176 := n3_; clear n0_ n1_ n2_ n3_; clear hb hbox hg) | ((with_reducible refine gate_dst (N := 3) rfl ?_); refine box_event ?hg (N := 3) ?hd (cs := #[.int .i64 a1_0, .int .i64 a1_1, .slice A1_2 l1_2.length c1_2, .int .i64 a1_3, .int .i64 a1_4, .slice A1_5 l1_5.length c1_5, .int .i64 a1_6, .int .i64 a1_7]) (t := 46) ?hr ?_; (case hd => rfl); (case hg => rfl); (case hr => first | (go_simp; done) | (go_simp; rfl)); intro gb177 hg w67 hbox hb; have n0_ := Aside0.mk (blk_below (qK BK176) hb); have n1_ := Aside0.mk (below_step (by repeat (with_reducible first | exact HB.out | apply bA | apply bN | apply bD | refine bS ?_ GE176.out)) hb); have n2_ := Aside0.mk (hbox); have n3_ := Aside0.mk ((by rw [hg]; exact (below_size (by repeat (with_reducible first | exact HB.out | apply bA | apply bN | apply bD | refine bS ?_ GE176.out))) : w.heap.size ≤ gb177)); have n4_ := Aside0.mk ((by rw [hg]; exact (below_size (by repeat (with_reducible first | exact HB.out | apply bA | apply bN | apply bD | refine bS ?_ GE176.out))) : w.heap.size ≤ gb177)); have n5_ := Aside0.mk ((by rw [hg]; exact Nat.ne_of_lt (blk_lt (qK BK176)) : gb176 ≠ gb177)); have n6_ := Aside0.mk ((by rw [hg]; exact Nat.ne_of_gt (blk_lt (qK BK176)) : gb177 ≠ gb176)); clear BK176; clear HB; have BK176 := n0_; have HB := n1_; have BK177 := n2_; have GW177 := n3_; have GE177 := n4_; have NB176_177 := n5_; have NB177_176 := n6_; clear n0_ n1_ n2_ n3_ n4_ n5_ n6_; clear hb hbox hg; have hnb68 := NB176_177.out; have hnc68 := NB177_176.out; have hcz69_0 : w67.cell? ⟨gb176, 0, none⟩ = some (.int .i64 a0_0) := cC BK176 0; have hcz69_1 : w67.cell? ⟨gb176, 1, none⟩ = some (.int .i64 a0_1) := cC BK176 1; have hcz69_2 : w67.cell? ⟨gb176, 2, none⟩ = some (.slice A0_2 l0_2.length c0_2) := cC BK176 2; have hcz69_3 : w67.cell? ⟨gb176, 3, none⟩ = some (.int .i64 a0_3) := cC BK176 3; have hcz69_4 : w67.cell? ⟨gb176, 4, none⟩ = some (.int .i64 a0_4) := cC BK176 4; have hcz69_5 : w67.cell? ⟨gb176, 5, none⟩ = some (.slice A0_5 l0_5.length c0_5) := cC BK176 5; have hcz69_6 : w67.cell? ⟨gb176, 6, none⟩ = some (.int .i64 a0_6) := cC BK176 6; have hcz69_7 : w67.cell? ⟨gb176, 7, none⟩ = some (.int .i64 a0_7) := cC BK176 7; have hfz69_0 := blk_frozen BK176.out 0; have hfz69_1 := blk_frozen BK176.out 1; have hfz69_2 := blk_frozen BK176.out 2; have hfz69_3 := blk_frozen BK176.out 3; have hfz69_4 := blk_frozen BK176.out 4; have hfz69_5 := blk_frozen BK176.out 5; have hfz69_6 := blk_frozen BK176.out 6; have hfz69_7 := blk_frozen BK176.out 7) | ((with_reducible refine gate_callee (f := 28) rfl ?_); refine goesL_ (some 12) rfl rfl Try.func28 (by kernel_rfl) rfl #[.agg #[.int .i64 a0_0, .int .i64 a0_1, .slice A0_2 l0_2.length c0_2, .int .i64 a0_3, .int .i64 a0_4, .slice A0_5 l0_5.length c0_5, .int .i64 a0_6, .int .i64 a0_7], .int .i64 1048576] rfl (by (try simp only [mA, mC, mN]); first | done | rfl | (simp only [lD, lT]; rfl)) ?_; (with_reducible refine (laws_szReport.calls a0_0 a0_1 _ _ l0_2 a0_3 a0_4 _ _ l0_5 a0_6 a0_7 1048576 t178 _ ?side1 ?side2 ?side3 ?side4 A3.out).mono ?_); (case side1 => exact qC (Kd.C_below HR0_2.out HB.out)); (case side2 => exact HC0_2.out); (case side3 => exact qC (Kd.C_below HR0_5.out HB.out)); (case side4 => exact HC0_5.out); rintro e w70 ⟨rfl, hb⟩; refine ⟨_, rfl, ?_⟩; have n0_ := Aside0.mk (blk_below (qK BK176) hb); have n1_ := Aside0.mk (blk_below (qK BK177) hb); have n2_ := Aside0.mk (below_step (by repeat (with_reducible first | exact HB.out | apply bA | apply bN | apply bD | refine bS ?_ GE176.out | refine bS ?_ GE177.out)) hb); clear BK176; clear BK177; clear HB; have BK176 := n0_; have BK177 := n1_; have HB := n2_; clear n0_ n1_ n2_; (try clear hb); (try clear hb2); (try clear hk); (try clear hi); have hcz71_0 : w70.cell? ⟨gb177, 0, none⟩ = some (.int .i64 a1_0) := cC BK177 0; have hcz71_1 : w70.cell? ⟨gb177, 1, none⟩ = some (.int .i64 a1_1) := cC BK177 1; have hcz71_2 : w70.cell? ⟨gb177, 2, none⟩ = some (.slice A1_2 l1_2.length c1_2) := cC BK177 2; have hcz71_3 : w70.cell? ⟨gb177, 3, none⟩ = some (.int .i64 a1_3) := cC BK177 3; have hcz71_4 : w70.cell? ⟨gb177, 4, none⟩ = some (.int .i64 a1_4) := cC BK177 4; have hcz71_5 : w70.cell? ⟨gb177, 5, none⟩ = some (.slice A1_5 l1_5.length c1_5) := cC BK177 5; have hcz71_6 : w70.cell? ⟨gb177, 6, none⟩ = some (.int .i64 a1_6) := cC BK177 6; have hcz71_7 : w70.cell? ⟨gb177, 7, none⟩ = some (.int .i64 a1_7) := cC BK177 7; have hfz71_0 := blk_frozen BK177.out 0; have hfz71_1 := blk_frozen BK177.out 1; have hfz71_2 := blk_frozen BK177.out 2; have hfz71_3 := blk_frozen BK177.out 3; have hfz71_4 := blk_frozen BK177.out 4; have hfz71_5 := blk_frozen BK177.out 5; have hfz71_6 := blk_frozen BK177.out 6; have hfz71_7 := blk_frozen BK177.out 7) | ((with_reducible refine gate_callee (f := 28) rfl ?_); refine goesL_ (some 17) rfl rfl Try.func28 (by kernel_rfl) rfl #[.agg #[.int .i64 a1_0, .int .i64 a1_1, .slice A1_2 l1_2.length c1_2, .int .i64 a1_3, .int .i64 a1_4, .slice A1_5 l1_5.length c1_5, .int .i64 a1_6, .int .i64 a1_7], .int .i64 t178] rfl (by (try simp only [mA, mC, mN]); first | done | rfl | (simp only [lD, lT]; rfl)) ?_; (with_reducible refine (laws_szReport.calls a1_0 a1_1 _ _ l1_2 a1_3 a1_4 _ _ l1_5 a1_6 a1_7 t178 t179 _ ?side1 ?side2 ?side3 ?side4 A10.out).mono ?_); (case side1 => exact qC (Kd.C_below HR1_2.out HB.out)); (case side2 => exact HC1_2.out); (case side3 => exact qC (Kd.C_below HR1_5.out HB.out)); (case side4 => exact HC1_5.out); rintro e w72 ⟨rfl, hb⟩; refine ⟨_, rfl, ?_⟩; have n0_ := Aside0.mk (blk_below (qK BK176) hb); have n1_ := Aside0.mk (blk_below (qK BK177) hb); have n2_ := Aside0.mk (below_step (by repeat (with_reducible first | exact HB.out | apply bA | apply bN | apply bD | refine bS ?_ GE176.out | refine bS ?_ GE177.out)) hb); clear BK176; clear BK177; clear HB; have BK176 := n0_; have BK177 := n1_; have HB := n2_; clear n0_ n1_ n2_; (try clear hb); (try clear hb2); (try clear hk); (try clear hi)))
      have n0_ := Aside0.mk (blk_drew BK176.out)
      have n1_ := Aside0.mk (blk_drew BK177.out)
      have n2_ := Aside0.mk (below_drew1 HB.out)
      clear BK176
      clear BK177
      clear HB
      have BK176 := n0_
      have BK177 := n1_
      have HB := n2_
      clear n0_ n1_ n2_
      refine start_ (n := 6) (S := fun w' => w'.cell? ⟨gb176, 0, none⟩ = some (.int .i64 a0_0) ∧ w'.cell? ⟨gb176, 1, none⟩ = some (.int .i64 a0_1) ∧ w'.cell? ⟨gb176, 2, none⟩ = some (.slice A0_2 l0_2.length c0_2) ∧ w'.cell? ⟨gb176, 3, none⟩ = some (.int .i64 a0_3) ∧ w'.cell? ⟨gb176, 4, none⟩ = some (.int .i64 a0_4) ∧ w'.cell? ⟨gb176, 5, none⟩ = some (.slice A0_5 l0_5.length c0_5) ∧ w'.cell? ⟨gb176, 6, none⟩ = some (.int .i64 a0_6) ∧ w'.cell? ⟨gb176, 7, none⟩ = some (.int .i64 a0_7) ∧ w'.cell? ⟨gb177, 0, none⟩ = some (.int .i64 a1_0) ∧ w'.cell? ⟨gb177, 1, none⟩ = some (.int .i64 a1_1) ∧ w'.cell? ⟨gb177, 2, none⟩ = some (.slice A1_2 l1_2.length c1_2) ∧ w'.cell? ⟨gb177, 3, none⟩ = some (.int .i64 a1_3) ∧ w'.cell? ⟨gb177, 4, none⟩ = some (.int .i64 a1_4) ∧ w'.cell? ⟨gb177, 5, none⟩ = some (.slice A1_5 l1_5.length c1_5) ∧ w'.cell? ⟨gb177, 6, none⟩ = some (.int .i64 a1_6) ∧ w'.cell? ⟨gb177, 7, none⟩ = some (.int .i64 a1_7)) (ds := []) (bR [0, 6]) (by kernel_rfl) rfl rfl ⟨cC BK176 0, cC BK176 1, cC BK176 2, cC BK176 3, cC BK176 4, cC BK176 5, cC BK176 6, cC BK176 7, cC BK177 0, cC BK177 1, cC BK177 2, cC BK177 3, cC BK177 4, cC BK177 5, cC BK177 6, cC BK177 7⟩ (fun hHeld => ?_)
      generalize w72.drew = w73 at BK176 BK177 HB hHeld ⊢
      refine take_ (i := 0) (N := some 20) (v := ?_) (a' := ?_) (bR [1, 5]) rfl rfl (by kernel_rfl) (fun _ _ _ h => h) (Or.inl ⟨by rfl, ?_⟩) hHeld ?_ ?_
      rotate_left; (rintro w' ⟨s0, s1, s2, s3, s4, s5, s6, s7, s8, s9, s10, s11, s12, s13, s14, s15⟩; go_simp; with_reducible rfl); rotate_left; (simp only [Act.put, sA, sZ, sS, i64_w]; rfl)
      refine take_ (i := 2) (N := some 22) (v := ?_) (a' := ?_) (bR [1, 1, 1, 3]) rfl rfl (by kernel_rfl) (fun _ _ _ h => h) (Or.inl ⟨by rfl, ?_⟩) hHeld ?_ ?_
      rotate_left; (rintro w' ⟨s0, s1, s2, s3, s4, s5, s6, s7, s8, s9, s10, s11, s12, s13, s14, s15⟩; go_simp; with_reducible rfl); rotate_left; (simp only [Act.put, sA, sZ, sS, i64_w]; rfl)
      refine one_ (i := 1) (N := some 21) (bR [3, 3]) rfl rfl (by kernel_rfl) (by decide) (fun K hK => ?_)
      refine goes_ Try.func30 (by kernel_rfl) rfl #[.agg #[.int .i64 a0_0, .int .i64 a0_1, .slice A0_2 l0_2.length c0_2, .int .i64 a0_3, .int .i64 a0_4, .slice A0_5 l0_5.length c0_5, .int .i64 a0_6, .int .i64 a0_7]] (by rfl) rfl rfl (by (try simp only [mA, mC, mN]); first | done | rfl | (simp only [lD, lT]; rfl)) ?_
      with_reducible refine (laws_toReport.calls k a0_0 a0_1 _ _ l0_2 a0_3 a0_4 _ _ l0_5 a0_6 a0_7 t180 t181 t182 t185 t186 t187 t190 t191 _ ?side1 ?side2 ?side3 ?side4 A19.out).mono ?_
      (case side1 => exact qC (Kd.C_below HR0_2.out HB.out))
      (case side2 => exact HC0_2.out)
      (case side3 => exact qC (Kd.C_below HR0_5.out HB.out))
      (case side4 => exact HC0_5.out)
      rintro e w74 ⟨v183, v188, rfl, ho0, ho1, hb⟩
      refine ⟨_, rfl, ?_⟩
      have n0_ := Aside0.mk (Kd.R_lower ho0 (below_size (by repeat (with_reducible first | exact HB.out | apply bA | apply bN | apply bD | refine bS ?_ GE176.out | refine bS ?_ GE177.out))))
      have n1_ := Aside0.mk (Kd.R_lower ho1 (below_size (by repeat (with_reducible first | exact HB.out | apply bA | apply bN | apply bD | refine bS ?_ GE176.out | refine bS ?_ GE177.out))))
      have n2_ := Aside0.mk (blk_below (qK BK176) hb)
      have n3_ := Aside0.mk (blk_below (qK BK177) hb)
      have n4_ := Aside0.mk (below_step (by repeat (with_reducible first | exact HB.out | apply bA | apply bN | apply bD | refine bS ?_ GE176.out | refine bS ?_ GE177.out)) hb)
      clear BK176
      clear BK177
      clear HB
      have HO184 := n0_
      have HO189 := n1_
      have BK176 := n2_
      have BK177 := n3_
      have HB := n4_
      clear n0_ n1_ n2_ n3_ n4_
      (try clear hb)
      (try clear hb2)
      (try clear hk)
      (try clear hi)
      (try clear ho0)
      (try clear ho1)
      refine hK.out _ _ ⟨cC BK176 0, cC BK176 1, cC BK176 2, cC BK176 3, cC BK176 4, cC BK176 5, cC BK176 6, cC BK176 7, cC BK177 0, cC BK177 1, cC BK177 2, cC BK177 3, cC BK177 4, cC BK177 5, cC BK177 6, cC BK177 7⟩ (fun hHeld => ?_)
      clear hK K
      refine norm_ (a' := ?_) ?_ ?_
      rotate_left
      ·show Act.put _ (some 21) _ = _
       simp only [Act.put, sA, sZ, sS, i64_w]
       rfl
      refine one_ (i := 3) (N := some 23) (bR [4, 2]) rfl rfl (by kernel_rfl) (by decide) (fun K hK => ?_)
      refine goes_ Try.func30 (by kernel_rfl) rfl #[.agg #[.int .i64 a1_0, .int .i64 a1_1, .slice A1_2 l1_2.length c1_2, .int .i64 a1_3, .int .i64 a1_4, .slice A1_5 l1_5.length c1_5, .int .i64 a1_6, .int .i64 a1_7]] (by rfl) rfl rfl (by (try simp only [mA, mC, mN]); first | done | rfl | (simp only [lD, lT]; rfl)) ?_
      with_reducible refine (laws_toReport.calls k a1_0 a1_1 _ _ l1_2 a1_3 a1_4 _ _ l1_5 a1_6 a1_7 t192 t193 t194 t197 t198 t199 t202 t203 _ ?side1 ?side2 ?side3 ?side4 A20.out).mono ?_
      (case side1 => exact qC (Kd.C_below HR1_2.out HB.out))
      (case side2 => exact HC1_2.out)
      (case side3 => exact qC (Kd.C_below HR1_5.out HB.out))
      (case side4 => exact HC1_5.out)
      rintro e w75 ⟨v195, v200, rfl, ho0, ho1, hb⟩
      refine ⟨_, rfl, ?_⟩
      have n0_ := tO (qR HO184) hb ho0 ho1
      have n1_ := tO (qR HO189) hb ho0 ho1
      have n2_ := Aside0.mk (Kd.R_lower (Kd.R_new' (Kd.R_new' ho0 (Kd.R_lt (qR HO184))) (Kd.R_lt (qR HO189))) (below_size (by repeat (with_reducible first | exact HB.out | apply bA | apply bN | apply bD | refine bS ?_ GE176.out | refine bS ?_ GE177.out))))
      have n3_ := Aside0.mk (Kd.R_lower (Kd.R_new' (Kd.R_new' ho1 (Kd.R_lt (qR HO184))) (Kd.R_lt (qR HO189))) (below_size (by repeat (with_reducible first | exact HB.out | apply bA | apply bN | apply bD | refine bS ?_ GE176.out | refine bS ?_ GE177.out))))
      have n4_ := Aside0.mk (blk_below (qK BK176) hb)
      have n5_ := Aside0.mk (blk_below (qK BK177) hb)
      have n6_ := Aside0.mk (below_step (by repeat (with_reducible first | exact HB.out | apply bA | apply bN | apply bD | refine bS ?_ GE176.out | refine bS ?_ GE177.out)) hb)
      clear HO184
      clear HO189
      clear BK176
      clear BK177
      clear HB
      have HO184 := n0_
      have HO189 := n1_
      have HO196 := n2_
      have HO201 := n3_
      have BK176 := n4_
      have BK177 := n5_
      have HB := n6_
      clear n0_ n1_ n2_ n3_ n4_ n5_ n6_
      (try clear hb)
      (try clear hb2)
      (try clear hk)
      (try clear hi)
      (try clear ho0)
      (try clear ho1)
      obtain ⟨Ao76, co76, eo76⟩ := Kd.R_slice HO184.out
      (first | subst eo76 | (injection eo76 with f1_ f2_ f3_; have f4_ := f1_.symm; have f5_ := f3_.symm; clear f1_ f2_ f3_; subst f4_; subst f5_))
      obtain ⟨Ao77, co77, eo77⟩ := Kd.R_slice HO189.out
      (first | subst eo77 | (injection eo77 with f1_ f2_ f3_; have f4_ := f1_.symm; have f5_ := f3_.symm; clear f1_ f2_ f3_; subst f4_; subst f5_))
      obtain ⟨Ao78, co78, eo78⟩ := Kd.R_slice HO196.out
      (first | subst eo78 | (injection eo78 with f1_ f2_ f3_; have f4_ := f1_.symm; have f5_ := f3_.symm; clear f1_ f2_ f3_; subst f4_; subst f5_))
      obtain ⟨Ao79, co79, eo79⟩ := Kd.R_slice HO201.out
      (first | subst eo79 | (injection eo79 with f1_ f2_ f3_; have f4_ := f1_.symm; have f5_ := f3_.symm; clear f1_ f2_ f3_; subst f4_; subst f5_))
      refine hK.out _ _ ⟨cC BK176 0, cC BK176 1, cC BK176 2, cC BK176 3, cC BK176 4, cC BK176 5, cC BK176 6, cC BK176 7, cC BK177 0, cC BK177 1, cC BK177 2, cC BK177 3, cC BK177 4, cC BK177 5, cC BK177 6, cC BK177 7⟩ (fun hHeld => ?_)
      clear hK K
      refine norm_ (a' := ?_) ?_ ?_
      rotate_left
      ·show Act.put _ (some 23) _ = _
       simp only [Act.put, sA, sZ, sS, i64_w]
       rfl
      refine one_ (i := 4) (N := some 24) (bR [5, 1]) rfl rfl (by kernel_rfl) (by decide) (fun K hK => ?_)
      refine goes_ Try.func29 (by kernel_rfl) rfl #[.agg #[.int .i64 t180, .int .i64 t181, .slice Ao76 t182.length co76, .int .i64 t185, .int .i64 t186, .slice Ao77 t187.length co77, .int .i64 t190, .int .i64 t191], .agg #[.int .i64 t192, .int .i64 t193, .slice Ao78 t194.length co78, .int .i64 t197, .int .i64 t198, .slice Ao79 t199.length co79, .int .i64 t202, .int .i64 t203]] (by rfl) rfl rfl (by (try simp only [mA, mC, mN]); first | done | rfl | (simp only [lD, lT]; rfl)) ?_
      with_reducible refine (spec_IsWider.calls k t180 t181 _ _ t182 t185 t186 _ _ t187 t190 t191 t192 t193 _ _ t194 t197 t198 _ _ t199 t202 t203 t204 _ ?side1 ?side2 ?side3 ?side4 ?side5 ?side6 ?side7 ?side8 A21.out).mono ?_
      (case side1 => repeat (first | exact (Kd.R_reads' HO184.out).2.2 | (with_reducible refine Kd.C_alloc ?_ _) | (with_reducible refine Kd.C_drewN ?_ _) | (with_reducible refine Kd.C_drew ?_)))
      (case side2 => exact (Kd.R_reads' HO184.out).2.1)
      (case side3 => repeat (first | exact (Kd.R_reads' HO189.out).2.2 | (with_reducible refine Kd.C_alloc ?_ _) | (with_reducible refine Kd.C_drewN ?_ _) | (with_reducible refine Kd.C_drew ?_)))
      (case side4 => exact (Kd.R_reads' HO189.out).2.1)
      (case side5 => repeat (first | exact (Kd.R_reads' HO196.out).2.2 | (with_reducible refine Kd.C_alloc ?_ _) | (with_reducible refine Kd.C_drewN ?_ _) | (with_reducible refine Kd.C_drew ?_)))
      (case side6 => exact (Kd.R_reads' HO196.out).2.1)
      (case side7 => repeat (first | exact (Kd.R_reads' HO201.out).2.2 | (with_reducible refine Kd.C_alloc ?_ _) | (with_reducible refine Kd.C_drewN ?_ _) | (with_reducible refine Kd.C_drew ?_)))
      (case side8 => exact (Kd.R_reads' HO201.out).2.1)
      rintro e w80 ⟨rfl, hb⟩
      refine ⟨_, rfl, ?_⟩
      have n0_ := Aside0.mk (Kd.R_below (qR HO184) hb)
      have n1_ := Aside0.mk (Kd.R_below (qR HO189) hb)
      have n2_ := Aside0.mk (Kd.R_below (qR HO196) hb)
      have n3_ := Aside0.mk (Kd.R_below (qR HO201) hb)
      have n4_ := Aside0.mk (blk_below (qK BK176) hb)
      have n5_ := Aside0.mk (blk_below (qK BK177) hb)
      have n6_ := Aside0.mk (below_step (by repeat (with_reducible first | exact HB.out | apply bA | apply bN | apply bD | refine bS ?_ GE176.out | refine bS ?_ GE177.out)) hb)
      clear HO184
      clear HO189
      clear HO196
      clear HO201
      clear BK176
      clear BK177
      clear HB
      have HO184 := n0_
      have HO189 := n1_
      have HO196 := n2_
      have HO201 := n3_
      have BK176 := n4_
      have BK177 := n5_
      have HB := n6_
      clear n0_ n1_ n2_ n3_ n4_ n5_ n6_
      (try clear hb)
      (try clear hb2)
      (try clear hk)
      (try clear hi)
      refine hK.out _ _ ⟨cC BK176 0, cC BK176 1, cC BK176 2, cC BK176 3, cC BK176 4, cC BK176 5, cC BK176 6, cC BK176 7, cC BK177 0, cC BK177 1, cC BK177 2, cC BK177 3, cC BK177 4, cC BK177 5, cC BK177 6, cC BK177 7⟩ (fun hHeld => ?_)
      clear hK K
      refine norm_ (a' := ?_) ?_ ?_
      rotate_left
      ·show Act.put _ (some 24) _ = _
       simp only [Act.put, sA, sZ, sS, i64_w]
       rfl
      refine pure_ (i := 5) (N := some 6) (v := ?_) (a' := ?_) (bR [6]) rfl rfl (by kernel_rfl) (fun _ _ _ h => h) (Or.inl ⟨by rfl, ?_⟩) ?_ ?_
      rotate_left; (intro w'; go_simp; with_reducible rfl); rotate_left; (simp only [Act.put, sA, sZ, sS, i64_w]; rfl)
      refine done_ (by kernel_rfl) ?_
      have hcz81_0 : w80.cell? ⟨gb176, 0, none⟩ = some (.int .i64 a0_0) := cC BK176 0
      have hcz81_1 : w80.cell? ⟨gb176, 1, none⟩ = some (.int .i64 a0_1) := cC BK176 1
      have hcz81_2 : w80.cell? ⟨gb176, 2, none⟩ = some (.slice A0_2 l0_2.length c0_2) := cC BK176 2
      have hcz81_3 : w80.cell? ⟨gb176, 3, none⟩ = some (.int .i64 a0_3) := cC BK176 3
      have hcz81_4 : w80.cell? ⟨gb176, 4, none⟩ = some (.int .i64 a0_4) := cC BK176 4
      have hcz81_5 : w80.cell? ⟨gb176, 5, none⟩ = some (.slice A0_5 l0_5.length c0_5) := cC BK176 5
      have hcz81_6 : w80.cell? ⟨gb176, 6, none⟩ = some (.int .i64 a0_6) := cC BK176 6
      have hcz81_7 : w80.cell? ⟨gb176, 7, none⟩ = some (.int .i64 a0_7) := cC BK176 7
      have hfz81_0 := blk_frozen BK176.out 0
      have hfz81_1 := blk_frozen BK176.out 1
      have hfz81_2 := blk_frozen BK176.out 2
      have hfz81_3 := blk_frozen BK176.out 3
      have hfz81_4 := blk_frozen BK176.out 4
      have hfz81_5 := blk_frozen BK176.out 5
      have hfz81_6 := blk_frozen BK176.out 6
      have hfz81_7 := blk_frozen BK176.out 7
      try go_wp2_with (first | ((with_reducible refine gate_callee (f := 30) rfl ?_); refine goesL_ (some 26) rfl rfl Try.func30 (by kernel_rfl) rfl #[.agg #[.int .i64 a0_0, .int .i64 a0_1, .slice A0_2 l0_2.length c0_2, .int .i64 a0_3, .int .i64 a0_4, .slice A0_5 l0_5.length c0_5, .int .i64 a0_6, .int .i64 a0_7]] rfl (by (try simp only [mA, mC, mN]); first | done | rfl | (simp only [lD, lT]; rfl)) ?_; (with_reducible refine (laws_toReport.calls k a0_0 a0_1 _ _ l0_2 a0_3 a0_4 _ _ l0_5 a0_6 a0_7 t205 t206 t207 t210 t211 t212 t215 t216 _ ?side1 ?side2 ?side3 ?side4 A22.out).mono ?_); (case side1 => exact qC (Kd.C_below HR0_2.out HB.out)); (case side2 => exact HC0_2.out); (case side3 => exact qC (Kd.C_below HR0_5.out HB.out)); (case side4 => exact HC0_5.out); rintro e w82 ⟨v208, v213, rfl, ho0, ho1, hb⟩; refine ⟨_, rfl, ?_⟩; have n0_ := tO (qR HO184) hb ho0 ho1; have n1_ := tO (qR HO189) hb ho0 ho1; have n2_ := tO (qR HO196) hb ho0 ho1; have n3_ := tO (qR HO201) hb ho0 ho1; have n4_ := Aside0.mk (Kd.R_lower (Kd.R_new' (Kd.R_new' (Kd.R_new' (Kd.R_new' ho0 (Kd.R_lt (qR HO184))) (Kd.R_lt (qR HO189))) (Kd.R_lt (qR HO196))) (Kd.R_lt (qR HO201))) (below_size (by repeat (with_reducible first | exact HB.out | apply bA | apply bN | apply bD | refine bS ?_ GE176.out | refine bS ?_ GE177.out)))); have n5_ := Aside0.mk (Kd.R_lower (Kd.R_new' (Kd.R_new' (Kd.R_new' (Kd.R_new' ho1 (Kd.R_lt (qR HO184))) (Kd.R_lt (qR HO189))) (Kd.R_lt (qR HO196))) (Kd.R_lt (qR HO201))) (below_size (by repeat (with_reducible first | exact HB.out | apply bA | apply bN | apply bD | refine bS ?_ GE176.out | refine bS ?_ GE177.out)))); have n6_ := Aside0.mk (blk_below (qK BK176) hb); have n7_ := Aside0.mk (blk_below (qK BK177) hb); have n8_ := Aside0.mk (below_step (by repeat (with_reducible first | exact HB.out | apply bA | apply bN | apply bD | refine bS ?_ GE176.out | refine bS ?_ GE177.out)) hb); clear HO184; clear HO189; clear HO196; clear HO201; clear BK176; clear BK177; clear HB; have HO184 := n0_; have HO189 := n1_; have HO196 := n2_; have HO201 := n3_; have HO209 := n4_; have HO214 := n5_; have BK176 := n6_; have BK177 := n7_; have HB := n8_; clear n0_ n1_ n2_ n3_ n4_ n5_ n6_ n7_ n8_; (try clear hb); (try clear hb2); (try clear hk); (try clear hi); (try clear ho0); (try clear ho1)) | ((with_reducible refine gate_dst (N := 7) rfl ?_); refine box_event ?hg (N := 7) ?hd (cs := #[.int .i64 0, .int .i64 0, .slice none 0 0, .int .i64 0, .int .i64 0, .slice none 0 0, .int .i64 0, .int .i64 0]) (t := 51) ?hr ?_; (case hd => rfl); (case hg => rfl); (case hr => first | (go_simp; done) | (go_simp; rfl)); intro gb217 hg w83 hbox hb; have n0_ := Aside0.mk (Kd.R_below (qR HO184) hb); have n1_ := Aside0.mk (Kd.R_below (qR HO189) hb); have n2_ := Aside0.mk (Kd.R_below (qR HO196) hb); have n3_ := Aside0.mk (Kd.R_below (qR HO201) hb); have n4_ := Aside0.mk (Kd.R_below (qR HO209) hb); have n5_ := Aside0.mk (Kd.R_below (qR HO214) hb); have n6_ := Aside0.mk (blk_below (qK BK176) hb); have n7_ := Aside0.mk (blk_below (qK BK177) hb); have n8_ := Aside0.mk (below_step (by repeat (with_reducible first | exact HB.out | apply bA | apply bN | apply bD | refine bS ?_ GE176.out | refine bS ?_ GE177.out)) hb); have n9_ := Aside0.mk (hbox); have n10_ := Aside0.mk ((by rw [hg]; exact (below_size (by repeat (with_reducible first | exact HB.out | apply bA | apply bN | apply bD | refine bS ?_ GE176.out | refine bS ?_ GE177.out))) : w.heap.size ≤ gb217)); have n11_ := Aside0.mk ((by rw [hg]; exact (below_size (by repeat (with_reducible first | exact HB.out | apply bA | apply bN | apply bD | refine bS ?_ GE176.out | refine bS ?_ GE177.out))) : w.heap.size ≤ gb217)); have n12_ := Aside0.mk ((by rw [hg]; exact Nat.ne_of_lt (blk_lt (qK BK176)) : gb176 ≠ gb217)); have n13_ := Aside0.mk ((by rw [hg]; exact Nat.ne_of_gt (blk_lt (qK BK176)) : gb217 ≠ gb176)); have n14_ := Aside0.mk ((by rw [hg]; exact Nat.ne_of_lt (blk_lt (qK BK177)) : gb177 ≠ gb217)); have n15_ := Aside0.mk ((by rw [hg]; exact Nat.ne_of_gt (blk_lt (qK BK177)) : gb217 ≠ gb177)); clear HO184; clear HO189; clear HO196; clear HO201; clear HO209; clear HO214; clear BK176; clear BK177; clear HB; have HO184 := n0_; have HO189 := n1_; have HO196 := n2_; have HO201 := n3_; have HO209 := n4_; have HO214 := n5_; have BK176 := n6_; have BK177 := n7_; have HB := n8_; have BK217 := n9_; have GW217 := n10_; have GE217 := n11_; have NB176_217 := n12_; have NB217_176 := n13_; have NB177_217 := n14_; have NB217_177 := n15_; clear n0_ n1_ n2_ n3_ n4_ n5_ n6_ n7_ n8_ n9_ n10_ n11_ n12_ n13_ n14_ n15_; clear hb hbox hg; have hnb84 := NB217_176.out; have hnc84 := NB176_217.out; have hnb85 := NB217_177.out; have hnc85 := NB177_217.out; have hcz86_0 : w83.cell? ⟨gb217, 0, none⟩ = some (.int .i64 0) := cC BK217 0; have hcz86_1 : w83.cell? ⟨gb217, 1, none⟩ = some (.int .i64 0) := cC BK217 1; have hcz86_2 : w83.cell? ⟨gb217, 2, none⟩ = some (.slice none 0 0) := cC BK217 2; have hcz86_3 : w83.cell? ⟨gb217, 3, none⟩ = some (.int .i64 0) := cC BK217 3; have hcz86_4 : w83.cell? ⟨gb217, 4, none⟩ = some (.int .i64 0) := cC BK217 4; have hcz86_5 : w83.cell? ⟨gb217, 5, none⟩ = some (.slice none 0 0) := cC BK217 5; have hcz86_6 : w83.cell? ⟨gb217, 6, none⟩ = some (.int .i64 0) := cC BK217 6; have hcz86_7 : w83.cell? ⟨gb217, 7, none⟩ = some (.int .i64 0) := cC BK217 7; have hfz86_0 := blk_frozen BK217.out 0; have hfz86_1 := blk_frozen BK217.out 1; have hfz86_2 := blk_frozen BK217.out 2; have hfz86_3 := blk_frozen BK217.out 3; have hfz86_4 := blk_frozen BK217.out 4; have hfz86_5 := blk_frozen BK217.out 5; have hfz86_6 := blk_frozen BK217.out 6; have hfz86_7 := blk_frozen BK217.out 7; obtain ⟨Ao87, co87, eo87⟩ := Kd.R_slice HO209.out; subst eo87; obtain ⟨Ao88, co88, eo88⟩ := Kd.R_slice HO214.out; subst eo88; have hcz89_0 : w83.cell? ⟨gb177, 0, none⟩ = some (.int .i64 a1_0) := cC BK177 0; have hcz89_1 : w83.cell? ⟨gb177, 1, none⟩ = some (.int .i64 a1_1) := cC BK177 1; have hcz89_2 : w83.cell? ⟨gb177, 2, none⟩ = some (.slice A1_2 l1_2.length c1_2) := cC BK177 2; have hcz89_3 : w83.cell? ⟨gb177, 3, none⟩ = some (.int .i64 a1_3) := cC BK177 3; have hcz89_4 : w83.cell? ⟨gb177, 4, none⟩ = some (.int .i64 a1_4) := cC BK177 4; have hcz89_5 : w83.cell? ⟨gb177, 5, none⟩ = some (.slice A1_5 l1_5.length c1_5) := cC BK177 5; have hcz89_6 : w83.cell? ⟨gb177, 6, none⟩ = some (.int .i64 a1_6) := cC BK177 6; have hcz89_7 : w83.cell? ⟨gb177, 7, none⟩ = some (.int .i64 a1_7) := cC BK177 7; have hfz89_0 := blk_frozen BK177.out 0; have hfz89_1 := blk_frozen BK177.out 1; have hfz89_2 := blk_frozen BK177.out 2; have hfz89_3 := blk_frozen BK177.out 3; have hfz89_4 := blk_frozen BK177.out 4; have hfz89_5 := blk_frozen BK177.out 5; have hfz89_6 := blk_frozen BK177.out 6; have hfz89_7 := blk_frozen BK177.out 7) | ((with_reducible refine gate_callee (f := 30) rfl ?_); refine goesL_ (some 28) rfl rfl Try.func30 (by kernel_rfl) rfl #[.agg #[.int .i64 a1_0, .int .i64 a1_1, .slice A1_2 l1_2.length c1_2, .int .i64 a1_3, .int .i64 a1_4, .slice A1_5 l1_5.length c1_5, .int .i64 a1_6, .int .i64 a1_7]] rfl (by (try simp only [mA, mC, mN]); first | done | rfl | (simp only [lD, lT]; rfl)) ?_; (with_reducible refine (laws_toReport.calls k a1_0 a1_1 _ _ l1_2 a1_3 a1_4 _ _ l1_5 a1_6 a1_7 t218 t219 t220 t223 t224 t225 t228 t229 _ ?side1 ?side2 ?side3 ?side4 A23.out).mono ?_); (case side1 => exact Kd.C_below HR1_2.out (by repeat (with_reducible first | exact HB.out | apply bA | apply bN | apply bD | refine bS ?_ GE176.out | refine bS ?_ GE177.out | refine bS ?_ GE217.out))); (case side2 => exact HC1_2.out); (case side3 => exact Kd.C_below HR1_5.out (by repeat (with_reducible first | exact HB.out | apply bA | apply bN | apply bD | refine bS ?_ GE176.out | refine bS ?_ GE177.out | refine bS ?_ GE217.out))); (case side4 => exact HC1_5.out); rintro e w90 ⟨v221, v226, rfl, ho0, ho1, hb⟩; refine ⟨_, rfl, ?_⟩; have n0_ := tO (by (with_reducible repeat first | apply rA | apply rN | apply rD); exact (far8 HO184 BK217)) hb ho0 ho1; have n1_ := tO (by (with_reducible repeat first | apply rA | apply rN | apply rD); exact (far8 HO189 BK217)) hb ho0 ho1; have n2_ := tO (by (with_reducible repeat first | apply rA | apply rN | apply rD); exact (far8 HO196 BK217)) hb ho0 ho1; have n3_ := tO (by (with_reducible repeat first | apply rA | apply rN | apply rD); exact (far8 HO201 BK217)) hb ho0 ho1; have n4_ := tO (by (with_reducible repeat first | apply rA | apply rN | apply rD); exact (far8 HO209 BK217)) hb ho0 ho1; have n5_ := tO (by (with_reducible repeat first | apply rA | apply rN | apply rD); exact (far8 HO214 BK217)) hb ho0 ho1; have n6_ := Aside0.mk (Kd.R_lower (Kd.R_new' (Kd.R_new' (Kd.R_new' (Kd.R_new' (Kd.R_new' (Kd.R_new' ho0 (Kd.R_lt (by (with_reducible repeat first | apply rA | apply rN | apply rD); exact (far8 HO184 BK217)))) (Kd.R_lt (by (with_reducible repeat first | apply rA | apply rN | apply rD); exact (far8 HO189 BK217)))) (Kd.R_lt (by (with_reducible repeat first | apply rA | apply rN | apply rD); exact (far8 HO196 BK217)))) (Kd.R_lt (by (with_reducible repeat first | apply rA | apply rN | apply rD); exact (far8 HO201 BK217)))) (Kd.R_lt (by (with_reducible repeat first | apply rA | apply rN | apply rD); exact (far8 HO209 BK217)))) (Kd.R_lt (by (with_reducible repeat first | apply rA | apply rN | apply rD); exact (far8 HO214 BK217)))) (below_size (by repeat (with_reducible first | exact HB.out | apply bA | apply bN | apply bD | refine bS ?_ GE176.out | refine bS ?_ GE177.out | refine bS ?_ GE217.out)))); have n7_ := Aside0.mk (Kd.R_lower (Kd.R_new' (Kd.R_new' (Kd.R_new' (Kd.R_new' (Kd.R_new' (Kd.R_new' ho1 (Kd.R_lt (by (with_reducible repeat first | apply rA | apply rN | apply rD); exact (far8 HO184 BK217)))) (Kd.R_lt (by (with_reducible repeat first | apply rA | apply rN | apply rD); exact (far8 HO189 BK217)))) (Kd.R_lt (by (with_reducible repeat first | apply rA | apply rN | apply rD); exact (far8 HO196 BK217)))) (Kd.R_lt (by (with_reducible repeat first | apply rA | apply rN | apply rD); exact (far8 HO201 BK217)))) (Kd.R_lt (by (with_reducible repeat first | apply rA | apply rN | apply rD); exact (far8 HO209 BK217)))) (Kd.R_lt (by (with_reducible repeat first | apply rA | apply rN | apply rD); exact (far8 HO214 BK217)))) (below_size (by repeat (with_reducible first | exact HB.out | apply bA | apply bN | apply bD | refine bS ?_ GE176.out | refine bS ?_ GE177.out | refine bS ?_ GE217.out)))); have n8_ := Aside0.mk (blk_below (g := gb176) (o := .cells #[.int .i64 a0_0, .int .i64 a0_1, .slice A0_2 l0_2.length c0_2, .int .i64 a0_3, .int .i64 a0_4, .slice A0_5 l0_5.length c0_5, .int .i64 a0_6, .int .i64 a0_7] 46 (0, 0)) (by (with_reducible repeat first | refine kN ?_ _ | refine kD ?_ | refine kA ?_ _); exact blk8 BK176.out NB176_217) hb); have n9_ := Aside0.mk (blk_below (g := gb177) (o := .cells #[.int .i64 a1_0, .int .i64 a1_1, .slice A1_2 l1_2.length c1_2, .int .i64 a1_3, .int .i64 a1_4, .slice A1_5 l1_5.length c1_5, .int .i64 a1_6, .int .i64 a1_7] 46 (0, 0)) (by (with_reducible repeat first | refine kN ?_ _ | refine kD ?_ | refine kA ?_ _); exact blk8 BK177.out NB177_217) hb); have n10_ := Aside0.mk (blk_below (g := gb217) (o := .cells #[.int .i64 t205, .int .i64 t206, .slice Ao87 t207.length co87, .int .i64 t210, .int .i64 t211, .slice Ao88 t212.length co88, .int .i64 t215, .int .i64 t216] 51 (0, 0)) (by (with_reducible repeat first | refine kN ?_ _ | refine kD ?_ | refine kA ?_ _); refine blk_put (cs := #[.int .i64 t205, .int .i64 t206, .slice Ao87 t207.length co87, .int .i64 t210, .int .i64 t211, .slice Ao88 t212.length co88, .int .i64 t215, .int .i64 0]) ?_ 7 _ rfl; (with_reducible repeat first | refine kN ?_ _ | refine kD ?_ | refine kA ?_ _); refine blk_put (cs := #[.int .i64 t205, .int .i64 t206, .slice Ao87 t207.length co87, .int .i64 t210, .int .i64 t211, .slice Ao88 t212.length co88, .int .i64 0, .int .i64 0]) ?_ 6 _ rfl; (with_reducible repeat first | refine kN ?_ _ | refine kD ?_ | refine kA ?_ _); refine blk_put (cs := #[.int .i64 t205, .int .i64 t206, .slice Ao87 t207.length co87, .int .i64 t210, .int .i64 t211, .slice none 0 0, .int .i64 0, .int .i64 0]) ?_ 5 _ rfl; (with_reducible repeat first | refine kN ?_ _ | refine kD ?_ | refine kA ?_ _); refine blk_put (cs := #[.int .i64 t205, .int .i64 t206, .slice Ao87 t207.length co87, .int .i64 t210, .int .i64 0, .slice none 0 0, .int .i64 0, .int .i64 0]) ?_ 4 _ rfl; (with_reducible repeat first | refine kN ?_ _ | refine kD ?_ | refine kA ?_ _); refine blk_put (cs := #[.int .i64 t205, .int .i64 t206, .slice Ao87 t207.length co87, .int .i64 0, .int .i64 0, .slice none 0 0, .int .i64 0, .int .i64 0]) ?_ 3 _ rfl; (with_reducible repeat first | refine kN ?_ _ | refine kD ?_ | refine kA ?_ _); refine blk_put (cs := #[.int .i64 t205, .int .i64 t206, .slice none 0 0, .int .i64 0, .int .i64 0, .slice none 0 0, .int .i64 0, .int .i64 0]) ?_ 2 _ rfl; (with_reducible repeat first | refine kN ?_ _ | refine kD ?_ | refine kA ?_ _); refine blk_put (cs := #[.int .i64 t205, .int .i64 0, .slice none 0 0, .int .i64 0, .int .i64 0, .slice none 0 0, .int .i64 0, .int .i64 0]) ?_ 1 _ rfl; (with_reducible repeat first | refine kN ?_ _ | refine kD ?_ | refine kA ?_ _); refine blk_put (cs := #[.int .i64 0, .int .i64 0, .slice none 0 0, .int .i64 0, .int .i64 0, .slice none 0 0, .int .i64 0, .int .i64 0]) ?_ 0 _ rfl; (with_reducible repeat first | refine kN ?_ _ | refine kD ?_ | refine kA ?_ _); exact BK217.out) hb); have n11_ := Aside0.mk (below_step (by repeat (with_reducible first | exact HB.out | apply bA | apply bN | apply bD | refine bS ?_ GE176.out | refine bS ?_ GE177.out | refine bS ?_ GE217.out)) hb); clear HO184; clear HO189; clear HO196; clear HO201; clear HO209; clear HO214; clear BK176; clear BK177; clear BK217; clear HB; have HO184 := n0_; have HO189 := n1_; have HO196 := n2_; have HO201 := n3_; have HO209 := n4_; have HO214 := n5_; have HO222 := n6_; have HO227 := n7_; have BK176 := n8_; have BK177 := n9_; have BK217 := n10_; have HB := n11_; clear n0_ n1_ n2_ n3_ n4_ n5_ n6_ n7_ n8_ n9_ n10_ n11_; (try clear hb); (try clear hb2); (try clear hk); (try clear hi); (try clear ho0); (try clear ho1)) | ((with_reducible refine gate_dst (N := 8) rfl ?_); refine box_event ?hg (N := 8) ?hd (cs := #[.int .i64 0, .int .i64 0, .slice none 0 0, .int .i64 0, .int .i64 0, .slice none 0 0, .int .i64 0, .int .i64 0]) (t := 51) ?hr ?_; (case hd => rfl); (case hg => rfl); (case hr => first | (go_simp; done) | (go_simp; rfl)); intro gb230 hg w91 hbox hb; have n0_ := Aside0.mk (Kd.R_below (qR HO184) hb); have n1_ := Aside0.mk (Kd.R_below (qR HO189) hb); have n2_ := Aside0.mk (Kd.R_below (qR HO196) hb); have n3_ := Aside0.mk (Kd.R_below (qR HO201) hb); have n4_ := Aside0.mk (Kd.R_below (qR HO209) hb); have n5_ := Aside0.mk (Kd.R_below (qR HO214) hb); have n6_ := Aside0.mk (Kd.R_below (qR HO222) hb); have n7_ := Aside0.mk (Kd.R_below (qR HO227) hb); have n8_ := Aside0.mk (blk_below (qK BK176) hb); have n9_ := Aside0.mk (blk_below (qK BK177) hb); have n10_ := Aside0.mk (blk_below (qK BK217) hb); have n11_ := Aside0.mk (below_step (by repeat (with_reducible first | exact HB.out | apply bA | apply bN | apply bD | refine bS ?_ GE176.out | refine bS ?_ GE177.out | refine bS ?_ GE217.out)) hb); have n12_ := Aside0.mk (hbox); have n13_ := Aside0.mk ((by rw [hg]; exact (below_size (by repeat (with_reducible first | exact HB.out | apply bA | apply bN | apply bD | refine bS ?_ GE176.out | refine bS ?_ GE177.out | refine bS ?_ GE217.out))) : w.heap.size ≤ gb230)); have n14_ := Aside0.mk ((by rw [hg]; exact (below_size (by repeat (with_reducible first | exact HB.out | apply bA | apply bN | apply bD | refine bS ?_ GE176.out | refine bS ?_ GE177.out | refine bS ?_ GE217.out))) : w.heap.size ≤ gb230)); have n15_ := Aside0.mk ((by rw [hg]; exact Nat.ne_of_lt (blk_lt (qK BK176)) : gb176 ≠ gb230)); have n16_ := Aside0.mk ((by rw [hg]; exact Nat.ne_of_gt (blk_lt (qK BK176)) : gb230 ≠ gb176)); have n17_ := Aside0.mk ((by rw [hg]; exact Nat.ne_of_lt (blk_lt (qK BK177)) : gb177 ≠ gb230)); have n18_ := Aside0.mk ((by rw [hg]; exact Nat.ne_of_gt (blk_lt (qK BK177)) : gb230 ≠ gb177)); have n19_ := Aside0.mk ((by rw [hg]; exact Nat.ne_of_lt (blk_lt (qK BK217)) : gb217 ≠ gb230)); have n20_ := Aside0.mk ((by rw [hg]; exact Nat.ne_of_gt (blk_lt (qK BK217)) : gb230 ≠ gb217)); clear HO184; clear HO189; clear HO196; clear HO201; clear HO209; clear HO214; clear HO222; clear HO227; clear BK176; clear BK177; clear BK217; clear HB; have HO184 := n0_; have HO189 := n1_; have HO196 := n2_; have HO201 := n3_; have HO209 := n4_; have HO214 := n5_; have HO222 := n6_; have HO227 := n7_; have BK176 := n8_; have BK177 := n9_; have BK217 := n10_; have HB := n11_; have BK230 := n12_; have GW230 := n13_; have GE230 := n14_; have NB176_230 := n15_; have NB230_176 := n16_; have NB177_230 := n17_; have NB230_177 := n18_; have NB217_230 := n19_; have NB230_217 := n20_; clear n0_ n1_ n2_ n3_ n4_ n5_ n6_ n7_ n8_ n9_ n10_ n11_ n12_ n13_ n14_ n15_ n16_ n17_ n18_ n19_ n20_; clear hb hbox hg; have hnb92 := NB230_176.out; have hnc92 := NB176_230.out; have hnb93 := NB230_177.out; have hnc93 := NB177_230.out; have hnb94 := NB230_217.out; have hnc94 := NB217_230.out; have hcz95_0 : w91.cell? ⟨gb230, 0, none⟩ = some (.int .i64 0) := cC BK230 0; have hcz95_1 : w91.cell? ⟨gb230, 1, none⟩ = some (.int .i64 0) := cC BK230 1; have hcz95_2 : w91.cell? ⟨gb230, 2, none⟩ = some (.slice none 0 0) := cC BK230 2; have hcz95_3 : w91.cell? ⟨gb230, 3, none⟩ = some (.int .i64 0) := cC BK230 3; have hcz95_4 : w91.cell? ⟨gb230, 4, none⟩ = some (.int .i64 0) := cC BK230 4; have hcz95_5 : w91.cell? ⟨gb230, 5, none⟩ = some (.slice none 0 0) := cC BK230 5; have hcz95_6 : w91.cell? ⟨gb230, 6, none⟩ = some (.int .i64 0) := cC BK230 6; have hcz95_7 : w91.cell? ⟨gb230, 7, none⟩ = some (.int .i64 0) := cC BK230 7; have hfz95_0 := blk_frozen BK230.out 0; have hfz95_1 := blk_frozen BK230.out 1; have hfz95_2 := blk_frozen BK230.out 2; have hfz95_3 := blk_frozen BK230.out 3; have hfz95_4 := blk_frozen BK230.out 4; have hfz95_5 := blk_frozen BK230.out 5; have hfz95_6 := blk_frozen BK230.out 6; have hfz95_7 := blk_frozen BK230.out 7; obtain ⟨Ao96, co96, eo96⟩ := Kd.R_slice HO222.out; subst eo96; obtain ⟨Ao97, co97, eo97⟩ := Kd.R_slice HO227.out; subst eo97; have hcz98_0 : w91.cell? ⟨gb217, 0, none⟩ = some (.int .i64 t205) := cC BK217 0; have hcz98_1 : w91.cell? ⟨gb217, 1, none⟩ = some (.int .i64 t206) := cC BK217 1; have hcz98_2 : w91.cell? ⟨gb217, 2, none⟩ = some (.slice Ao87 t207.length co87) := cC BK217 2; have hcz98_3 : w91.cell? ⟨gb217, 3, none⟩ = some (.int .i64 t210) := cC BK217 3; have hcz98_4 : w91.cell? ⟨gb217, 4, none⟩ = some (.int .i64 t211) := cC BK217 4; have hcz98_5 : w91.cell? ⟨gb217, 5, none⟩ = some (.slice Ao88 t212.length co88) := cC BK217 5; have hcz98_6 : w91.cell? ⟨gb217, 6, none⟩ = some (.int .i64 t215) := cC BK217 6; have hcz98_7 : w91.cell? ⟨gb217, 7, none⟩ = some (.int .i64 t216) := cC BK217 7; have hfz98_0 := blk_frozen BK217.out 0; have hfz98_1 := blk_frozen BK217.out 1; have hfz98_2 := blk_frozen BK217.out 2; have hfz98_3 := blk_frozen BK217.out 3; have hfz98_4 := blk_frozen BK217.out 4; have hfz98_5 := blk_frozen BK217.out 5; have hfz98_6 := blk_frozen BK217.out 6; have hfz98_7 := blk_frozen BK217.out 7) | ((with_reducible refine gate_callee (f := 31) rfl ?_); refine goesL_ (some 31) rfl rfl Try.func31 (by kernel_rfl) rfl #[.agg #[.int .i64 t205, .int .i64 t206, .slice Ao87 t207.length co87, .int .i64 t210, .int .i64 t211, .slice Ao88 t212.length co88, .int .i64 t215, .int .i64 t216], .agg #[.int .i64 t218, .int .i64 t219, .slice Ao96 t220.length co96, .int .i64 t223, .int .i64 t224, .slice Ao97 t225.length co97, .int .i64 t228, .int .i64 t229]] rfl (by (try simp only [mA, mC, mN]); first | done | rfl | (simp only [lD, lT]; rfl)) ?_; (with_reducible refine (impl_IsWider.calls k t205 t206 _ _ t207 t210 t211 _ _ t212 t215 t216 t218 t219 _ _ t220 t223 t224 _ _ t225 t228 t229 t231 _ ?side1 ?side2 ?side3 ?side4 ?side5 ?side6 ?side7 ?side8 A24.out).mono ?_); (case side1 => refine (Kd.R_reads' (e := 3) (base := w.heap.size) (ok := fun k_ => ((((((some k_ ≠ (.slice Ao88 t212.length co88 : Value).ownBlock ∧ some k_ ≠ (.slice Ao76 t182.length co76 : Value).ownBlock) ∧ some k_ ≠ (.slice Ao77 t187.length co77 : Value).ownBlock) ∧ some k_ ≠ (.slice Ao78 t194.length co78 : Value).ownBlock) ∧ some k_ ≠ (.slice Ao79 t199.length co79 : Value).ownBlock) ∧ some k_ ≠ (.slice Ao96 t220.length co96 : Value).ownBlock) ∧ some k_ ≠ (.slice Ao97 t225.length co97 : Value).ownBlock)) (n := t207.length) (c := co87) ?_).2.2; exact (by (with_reducible repeat first | apply rA | apply rN | apply rD); exact (far8 HO209 BK230))); (case side2 => exact (Kd.R_reads' HO209.out).2.1); (case side3 => refine (Kd.R_reads' (e := 3) (base := w.heap.size) (ok := fun k_ => ((((((some k_ ≠ (.slice Ao87 t207.length co87 : Value).ownBlock ∧ some k_ ≠ (.slice Ao76 t182.length co76 : Value).ownBlock) ∧ some k_ ≠ (.slice Ao77 t187.length co77 : Value).ownBlock) ∧ some k_ ≠ (.slice Ao78 t194.length co78 : Value).ownBlock) ∧ some k_ ≠ (.slice Ao79 t199.length co79 : Value).ownBlock) ∧ some k_ ≠ (.slice Ao96 t220.length co96 : Value).ownBlock) ∧ some k_ ≠ (.slice Ao97 t225.length co97 : Value).ownBlock)) (n := t212.length) (c := co88) ?_).2.2; exact (by (with_reducible repeat first | apply rA | apply rN | apply rD); exact (far8 HO214 BK230))); (case side4 => exact (Kd.R_reads' HO214.out).2.1); (case side5 => refine (Kd.R_reads' (e := 3) (base := w.heap.size) (ok := fun k_ => ((((((some k_ ≠ (.slice Ao97 t225.length co97 : Value).ownBlock ∧ some k_ ≠ (.slice Ao76 t182.length co76 : Value).ownBlock) ∧ some k_ ≠ (.slice Ao77 t187.length co77 : Value).ownBlock) ∧ some k_ ≠ (.slice Ao78 t194.length co78 : Value).ownBlock) ∧ some k_ ≠ (.slice Ao79 t199.length co79 : Value).ownBlock) ∧ some k_ ≠ (.slice Ao87 t207.length co87 : Value).ownBlock) ∧ some k_ ≠ (.slice Ao88 t212.length co88 : Value).ownBlock)) (n := t220.length) (c := co96) ?_).2.2; exact (by (with_reducible repeat first | apply rA | apply rN | apply rD); exact (far8 HO222 BK230))); (case side6 => exact (Kd.R_reads' HO222.out).2.1); (case side7 => refine (Kd.R_reads' (e := 3) (base := w.heap.size) (ok := fun k_ => ((((((some k_ ≠ (.slice Ao96 t220.length co96 : Value).ownBlock ∧ some k_ ≠ (.slice Ao76 t182.length co76 : Value).ownBlock) ∧ some k_ ≠ (.slice Ao77 t187.length co77 : Value).ownBlock) ∧ some k_ ≠ (.slice Ao78 t194.length co78 : Value).ownBlock) ∧ some k_ ≠ (.slice Ao79 t199.length co79 : Value).ownBlock) ∧ some k_ ≠ (.slice Ao87 t207.length co87 : Value).ownBlock) ∧ some k_ ≠ (.slice Ao88 t212.length co88 : Value).ownBlock)) (n := t225.length) (c := co97) ?_).2.2; exact (by (with_reducible repeat first | apply rA | apply rN | apply rD); exact (far8 HO227 BK230))); (case side8 => exact (Kd.R_reads' HO227.out).2.1); rintro e w99 ⟨rfl, hb⟩; refine ⟨_, rfl, ?_⟩; have n0_ := Aside0.mk (Kd.R_below (by (with_reducible repeat first | apply rA | apply rN | apply rD); exact (far8 HO184 BK230)) hb); have n1_ := Aside0.mk (Kd.R_below (by (with_reducible repeat first | apply rA | apply rN | apply rD); exact (far8 HO189 BK230)) hb); have n2_ := Aside0.mk (Kd.R_below (by (with_reducible repeat first | apply rA | apply rN | apply rD); exact (far8 HO196 BK230)) hb); have n3_ := Aside0.mk (Kd.R_below (by (with_reducible repeat first | apply rA | apply rN | apply rD); exact (far8 HO201 BK230)) hb); have n4_ := Aside0.mk (Kd.R_below (by (with_reducible repeat first | apply rA | apply rN | apply rD); exact (far8 HO209 BK230)) hb); have n5_ := Aside0.mk (Kd.R_below (by (with_reducible repeat first | apply rA | apply rN | apply rD); exact (far8 HO214 BK230)) hb); have n6_ := Aside0.mk (Kd.R_below (by (with_reducible repeat first | apply rA | apply rN | apply rD); exact (far8 HO222 BK230)) hb); have n7_ := Aside0.mk (Kd.R_below (by (with_reducible repeat first | apply rA | apply rN | apply rD); exact (far8 HO227 BK230)) hb); have n8_ := Aside0.mk (blk_below (g := gb176) (o := .cells #[.int .i64 a0_0, .int .i64 a0_1, .slice A0_2 l0_2.length c0_2, .int .i64 a0_3, .int .i64 a0_4, .slice A0_5 l0_5.length c0_5, .int .i64 a0_6, .int .i64 a0_7] 46 (0, 0)) (by (with_reducible repeat first | refine kN ?_ _ | refine kD ?_ | refine kA ?_ _); exact blk8 BK176.out NB176_230) hb); have n9_ := Aside0.mk (blk_below (g := gb177) (o := .cells #[.int .i64 a1_0, .int .i64 a1_1, .slice A1_2 l1_2.length c1_2, .int .i64 a1_3, .int .i64 a1_4, .slice A1_5 l1_5.length c1_5, .int .i64 a1_6, .int .i64 a1_7] 46 (0, 0)) (by (with_reducible repeat first | refine kN ?_ _ | refine kD ?_ | refine kA ?_ _); exact blk8 BK177.out NB177_230) hb); have n10_ := Aside0.mk (blk_below (g := gb217) (o := .cells #[.int .i64 t205, .int .i64 t206, .slice Ao87 t207.length co87, .int .i64 t210, .int .i64 t211, .slice Ao88 t212.length co88, .int .i64 t215, .int .i64 t216] 51 (0, 0)) (by (with_reducible repeat first | refine kN ?_ _ | refine kD ?_ | refine kA ?_ _); exact blk8 BK217.out NB217_230) hb); have n11_ := Aside0.mk (blk_below (g := gb230) (o := .cells #[.int .i64 t218, .int .i64 t219, .slice Ao96 t220.length co96, .int .i64 t223, .int .i64 t224, .slice Ao97 t225.length co97, .int .i64 t228, .int .i64 t229] 51 (0, 0)) (by (with_reducible repeat first | refine kN ?_ _ | refine kD ?_ | refine kA ?_ _); refine blk_put (cs := #[.int .i64 t218, .int .i64 t219, .slice Ao96 t220.length co96, .int .i64 t223, .int .i64 t224, .slice Ao97 t225.length co97, .int .i64 t228, .int .i64 0]) ?_ 7 _ rfl; (with_reducible repeat first | refine kN ?_ _ | refine kD ?_ | refine kA ?_ _); refine blk_put (cs := #[.int .i64 t218, .int .i64 t219, .slice Ao96 t220.length co96, .int .i64 t223, .int .i64 t224, .slice Ao97 t225.length co97, .int .i64 0, .int .i64 0]) ?_ 6 _ rfl; (with_reducible repeat first | refine kN ?_ _ | refine kD ?_ | refine kA ?_ _); refine blk_put (cs := #[.int .i64 t218, .int .i64 t219, .slice Ao96 t220.length co96, .int .i64 t223, .int .i64 t224, .slice none 0 0, .int .i64 0, .int .i64 0]) ?_ 5 _ rfl; (with_reducible repeat first | refine kN ?_ _ | refine kD ?_ | refine kA ?_ _); refine blk_put (cs := #[.int .i64 t218, .int .i64 t219, .slice Ao96 t220.length co96, .int .i64 t223, .int .i64 0, .slice none 0 0, .int .i64 0, .int .i64 0]) ?_ 4 _ rfl; (with_reducible repeat first | refine kN ?_ _ | refine kD ?_ | refine kA ?_ _); refine blk_put (cs := #[.int .i64 t218, .int .i64 t219, .slice Ao96 t220.length co96, .int .i64 0, .int .i64 0, .slice none 0 0, .int .i64 0, .int .i64 0]) ?_ 3 _ rfl; (with_reducible repeat first | refine kN ?_ _ | refine kD ?_ | refine kA ?_ _); refine blk_put (cs := #[.int .i64 t218, .int .i64 t219, .slice none 0 0, .int .i64 0, .int .i64 0, .slice none 0 0, .int .i64 0, .int .i64 0]) ?_ 2 _ rfl; (with_reducible repeat first | refine kN ?_ _ | refine kD ?_ | refine kA ?_ _); refine blk_put (cs := #[.int .i64 t218, .int .i64 0, .slice none 0 0, .int .i64 0, .int .i64 0, .slice none 0 0, .int .i64 0, .int .i64 0]) ?_ 1 _ rfl; (with_reducible repeat first | refine kN ?_ _ | refine kD ?_ | refine kA ?_ _); refine blk_put (cs := #[.int .i64 0, .int .i64 0, .slice none 0 0, .int .i64 0, .int .i64 0, .slice none 0 0, .int .i64 0, .int .i64 0]) ?_ 0 _ rfl; (with_reducible repeat first | refine kN ?_ _ | refine kD ?_ | refine kA ?_ _); exact BK230.out) hb); have n12_ := Aside0.mk (below_step (by repeat (with_reducible first | exact HB.out | apply bA | apply bN | apply bD | refine bS ?_ GE176.out | refine bS ?_ GE177.out | refine bS ?_ GE217.out | refine bS ?_ GE230.out)) hb); clear HO184; clear HO189; clear HO196; clear HO201; clear HO209; clear HO214; clear HO222; clear HO227; clear BK176; clear BK177; clear BK217; clear BK230; clear HB; have HO184 := n0_; have HO189 := n1_; have HO196 := n2_; have HO201 := n3_; have HO209 := n4_; have HO214 := n5_; have HO222 := n6_; have HO227 := n7_; have BK176 := n8_; have BK177 := n9_; have BK217 := n10_; have BK230 := n11_; have HB := n12_; clear n0_ n1_ n2_ n3_ n4_ n5_ n6_ n7_ n8_ n9_ n10_ n11_ n12_; (try clear hb); (try clear hb2); (try clear hk); (try clear hi)))
      have n0_ := Aside0.mk (Kd.R_drew HO184.out)
      have n1_ := Aside0.mk (Kd.R_drew HO189.out)
      have n2_ := Aside0.mk (Kd.R_drew HO196.out)
      have n3_ := Aside0.mk (Kd.R_drew HO201.out)
      have n4_ := Aside0.mk (Kd.R_drew HO209.out)
      have n5_ := Aside0.mk (Kd.R_drew HO214.out)
      have n6_ := Aside0.mk (Kd.R_drew HO222.out)
      have n7_ := Aside0.mk (Kd.R_drew HO227.out)
      have n8_ := Aside0.mk (blk_drew BK176.out)
      have n9_ := Aside0.mk (blk_drew BK177.out)
      have n10_ := Aside0.mk (blk_drew BK217.out)
      have n11_ := Aside0.mk (blk_drew BK230.out)
      have n12_ := Aside0.mk (below_drew1 HB.out)
      clear HO184
      clear HO189
      clear HO196
      clear HO201
      clear HO209
      clear HO214
      clear HO222
      clear HO227
      clear BK176
      clear BK177
      clear BK217
      clear BK230
      clear HB
      have HO184 := n0_
      have HO189 := n1_
      have HO196 := n2_
      have HO201 := n3_
      have HO209 := n4_
      have HO214 := n5_
      have HO222 := n6_
      have HO227 := n7_
      have BK176 := n8_
      have BK177 := n9_
      have BK217 := n10_
      have BK230 := n11_
      have HB := n12_
      clear n0_ n1_ n2_ n3_ n4_ n5_ n6_ n7_ n8_ n9_ n10_ n11_ n12_
      refine start_ (n := 5) (S := fun w' => w'.cell? ⟨gb217, 0, none⟩ = some (.int .i64 t205) ∧ w'.cell? ⟨gb217, 1, none⟩ = some (.int .i64 t206) ∧ w'.cell? ⟨gb217, 2, none⟩ = some (.slice Ao87 t207.length co87) ∧ w'.cell? ⟨gb217, 3, none⟩ = some (.int .i64 t210) ∧ w'.cell? ⟨gb217, 4, none⟩ = some (.int .i64 t211) ∧ w'.cell? ⟨gb217, 5, none⟩ = some (.slice Ao88 t212.length co88) ∧ w'.cell? ⟨gb217, 6, none⟩ = some (.int .i64 t215) ∧ w'.cell? ⟨gb217, 7, none⟩ = some (.int .i64 t216) ∧ w'.cell? ⟨gb176, 0, none⟩ = some (.int .i64 a0_0) ∧ w'.cell? ⟨gb176, 1, none⟩ = some (.int .i64 a0_1) ∧ w'.cell? ⟨gb176, 2, none⟩ = some (.slice A0_2 l0_2.length c0_2) ∧ w'.cell? ⟨gb176, 3, none⟩ = some (.int .i64 a0_3) ∧ w'.cell? ⟨gb176, 4, none⟩ = some (.int .i64 a0_4) ∧ w'.cell? ⟨gb176, 5, none⟩ = some (.slice A0_5 l0_5.length c0_5) ∧ w'.cell? ⟨gb176, 6, none⟩ = some (.int .i64 a0_6) ∧ w'.cell? ⟨gb176, 7, none⟩ = some (.int .i64 a0_7)) (ds := []) #[false, false, false, false, false] (by kernel_rfl) rfl rfl ⟨cC BK217 0, cC BK217 1, cC BK217 2, cC BK217 3, cC BK217 4, cC BK217 5, cC BK217 6, cC BK217 7, cC BK176 0, cC BK176 1, cC BK176 2, cC BK176 3, cC BK176 4, cC BK176 5, cC BK176 6, cC BK176 7⟩ (fun hHeld => ?_)
      generalize w99.drew = w100 at HO184 HO189 HO196 HO201 HO209 HO214 HO222 HO227 BK176 BK177 BK217 BK230 HB hHeld ⊢
      refine take_ (i := 0) (N := some 35) (v := ?_) (a' := ?_) #[true, false, false, false, false] rfl rfl (by kernel_rfl) (fun _ _ _ h => h) (Or.inl ⟨by rfl, ?_⟩) hHeld ?_ ?_
      rotate_left; (rintro w' ⟨s0, s1, s2, s3, s4, s5, s6, s7, s8, s9, s10, s11, s12, s13, s14, s15⟩; go_simp; with_reducible rfl); rotate_left; (simp only [Act.put, sA, sZ, sS, i64_w]; rfl)
      refine take_ (i := 1) (N := some 36) (v := ?_) (a' := ?_) #[true, true, false, false, false] rfl rfl (by kernel_rfl) (fun _ _ _ h => h) (Or.inl ⟨by rfl, ?_⟩) hHeld ?_ ?_
      rotate_left; (rintro w' ⟨s0, s1, s2, s3, s4, s5, s6, s7, s8, s9, s10, s11, s12, s13, s14, s15⟩; go_simp; with_reducible rfl); rotate_left; (simp only [Act.put, sA, sZ, sS, i64_w]; rfl)
      refine one_ (i := 2) (N := some 37) #[true, true, true, false, false] rfl rfl (by kernel_rfl) (by decide) (fun K hK => ?_)
      refine goes_ Try.func30 (by kernel_rfl) rfl #[.agg #[.int .i64 a0_0, .int .i64 a0_1, .slice A0_2 l0_2.length c0_2, .int .i64 a0_3, .int .i64 a0_4, .slice A0_5 l0_5.length c0_5, .int .i64 a0_6, .int .i64 a0_7]] (by rfl) rfl rfl (by (try simp only [mA, mC, mN]); first | done | rfl | (simp only [lD, lT]; rfl)) ?_
      with_reducible refine (laws_toReport.calls k a0_0 a0_1 _ _ l0_2 a0_3 a0_4 _ _ l0_5 a0_6 a0_7 t232 t233 t234 t237 t238 t239 t242 t243 _ ?side1 ?side2 ?side3 ?side4 A60.out).mono ?_
      (case side1 => exact qC (Kd.C_below HR0_2.out HB.out))
      (case side2 => exact HC0_2.out)
      (case side3 => exact qC (Kd.C_below HR0_5.out HB.out))
      (case side4 => exact HC0_5.out)
      rintro e w101 ⟨v235, v240, rfl, ho0, ho1, hb⟩
      refine ⟨_, rfl, ?_⟩
      have n0_ := tO (qR HO184) hb ho0 ho1
      have n1_ := tO (qR HO189) hb ho0 ho1
      have n2_ := tO (qR HO196) hb ho0 ho1
      have n3_ := tO (qR HO201) hb ho0 ho1
      have n4_ := tO (qR HO209) hb ho0 ho1
      have n5_ := tO (qR HO214) hb ho0 ho1
      have n6_ := tO (qR HO222) hb ho0 ho1
      have n7_ := tO (qR HO227) hb ho0 ho1
      have n8_ := Aside0.mk (Kd.R_lower (Kd.R_new' (Kd.R_new' (Kd.R_new' (Kd.R_new' (Kd.R_new' (Kd.R_new' (Kd.R_new' (Kd.R_new' ho0 (Kd.R_lt (qR HO184))) (Kd.R_lt (qR HO189))) (Kd.R_lt (qR HO196))) (Kd.R_lt (qR HO201))) (Kd.R_lt (qR HO209))) (Kd.R_lt (qR HO214))) (Kd.R_lt (qR HO222))) (Kd.R_lt (qR HO227))) (below_size (by repeat (with_reducible first | exact HB.out | apply bA | apply bN | apply bD | refine bS ?_ GE176.out | refine bS ?_ GE177.out | refine bS ?_ GE217.out | refine bS ?_ GE230.out))))
      have n9_ := Aside0.mk (Kd.R_lower (Kd.R_new' (Kd.R_new' (Kd.R_new' (Kd.R_new' (Kd.R_new' (Kd.R_new' (Kd.R_new' (Kd.R_new' ho1 (Kd.R_lt (qR HO184))) (Kd.R_lt (qR HO189))) (Kd.R_lt (qR HO196))) (Kd.R_lt (qR HO201))) (Kd.R_lt (qR HO209))) (Kd.R_lt (qR HO214))) (Kd.R_lt (qR HO222))) (Kd.R_lt (qR HO227))) (below_size (by repeat (with_reducible first | exact HB.out | apply bA | apply bN | apply bD | refine bS ?_ GE176.out | refine bS ?_ GE177.out | refine bS ?_ GE217.out | refine bS ?_ GE230.out))))
      have n10_ := Aside0.mk (blk_below (qK BK176) hb)
      have n11_ := Aside0.mk (blk_below (qK BK177) hb)
      have n12_ := Aside0.mk (blk_below (qK BK217) hb)
      have n13_ := Aside0.mk (blk_below (qK BK230) hb)
      have n14_ := Aside0.mk (below_step (by repeat (with_reducible first | exact HB.out | apply bA | apply bN | apply bD | refine bS ?_ GE176.out | refine bS ?_ GE177.out | refine bS ?_ GE217.out | refine bS ?_ GE230.out)) hb)
      clear HO184
      clear HO189
      clear HO196
      clear HO201
      clear HO209
      clear HO214
      clear HO222
      clear HO227
      clear BK176
      clear BK177
      clear BK217
      clear BK230
      clear HB
      have HO184 := n0_
      have HO189 := n1_
      have HO196 := n2_
      have HO201 := n3_
      have HO209 := n4_
      have HO214 := n5_
      have HO222 := n6_
      have HO227 := n7_
      have HO236 := n8_
      have HO241 := n9_
      have BK176 := n10_
      have BK177 := n11_
      have BK217 := n12_
      have BK230 := n13_
      have HB := n14_
      clear n0_ n1_ n2_ n3_ n4_ n5_ n6_ n7_ n8_ n9_ n10_ n11_ n12_ n13_ n14_
      (try clear hb)
      (try clear hb2)
      (try clear hk)
      (try clear hi)
      (try clear ho0)
      (try clear ho1)
      obtain ⟨Ao102, co102, eo102⟩ := Kd.R_slice HO236.out
      (first | subst eo102 | (injection eo102 with f1_ f2_ f3_; have f4_ := f1_.symm; have f5_ := f3_.symm; clear f1_ f2_ f3_; subst f4_; subst f5_))
      obtain ⟨Ao103, co103, eo103⟩ := Kd.R_slice HO241.out
      (first | subst eo103 | (injection eo103 with f1_ f2_ f3_; have f4_ := f1_.symm; have f5_ := f3_.symm; clear f1_ f2_ f3_; subst f4_; subst f5_))
      refine hK.out _ _ ⟨cC BK217 0, cC BK217 1, cC BK217 2, cC BK217 3, cC BK217 4, cC BK217 5, cC BK217 6, cC BK217 7, cC BK176 0, cC BK176 1, cC BK176 2, cC BK176 3, cC BK176 4, cC BK176 5, cC BK176 6, cC BK176 7⟩ (fun hHeld => ?_)
      clear hK K
      refine norm_ (a' := ?_) ?_ ?_
      rotate_left
      ·show Act.put _ (some 37) _ = _
       simp only [Act.put, sA, sZ, sS, i64_w]
       rfl
      refine one_ (i := 3) (N := some 38) #[true, true, true, true, false] rfl rfl (by kernel_rfl) (by decide) (fun K hK => ?_)
      refine goes_ Try.func32 (by kernel_rfl) rfl #[.agg #[.int .i64 t205, .int .i64 t206, .slice Ao87 t207.length co87, .int .i64 t210, .int .i64 t211, .slice Ao88 t212.length co88, .int .i64 t215, .int .i64 t216], .agg #[.int .i64 t232, .int .i64 t233, .slice Ao102 t234.length co102, .int .i64 t237, .int .i64 t238, .slice Ao103 t239.length co103, .int .i64 t242, .int .i64 t243]] (by rfl) rfl rfl (by (try simp only [mA, mC, mN]); first | done | rfl | (simp only [lD, lT]; rfl)) ?_
      with_reducible refine (laws_eqReport.calls k t205 t206 _ _ t207 t210 t211 _ _ t212 t215 t216 t232 t233 _ _ t234 t237 t238 _ _ t239 t242 t243 true _ ?side1 ?side2 ?side3 ?side4 ?side5 ?side6 ?side7 ?side8 A61.out).mono ?_
      (case side1 => repeat (first | exact (Kd.R_reads' HO209.out).2.2 | (with_reducible refine Kd.C_alloc ?_ _) | (with_reducible refine Kd.C_drewN ?_ _) | (with_reducible refine Kd.C_drew ?_)))
      (case side2 => exact (Kd.R_reads' HO209.out).2.1)
      (case side3 => repeat (first | exact (Kd.R_reads' HO214.out).2.2 | (with_reducible refine Kd.C_alloc ?_ _) | (with_reducible refine Kd.C_drewN ?_ _) | (with_reducible refine Kd.C_drew ?_)))
      (case side4 => exact (Kd.R_reads' HO214.out).2.1)
      (case side5 => repeat (first | exact (Kd.R_reads' HO236.out).2.2 | (with_reducible refine Kd.C_alloc ?_ _) | (with_reducible refine Kd.C_drewN ?_ _) | (with_reducible refine Kd.C_drew ?_)))
      (case side6 => exact (Kd.R_reads' HO236.out).2.1)
      (case side7 => repeat (first | exact (Kd.R_reads' HO241.out).2.2 | (with_reducible refine Kd.C_alloc ?_ _) | (with_reducible refine Kd.C_drewN ?_ _) | (with_reducible refine Kd.C_drew ?_)))
      (case side8 => exact (Kd.R_reads' HO241.out).2.1)
      rintro e w104 ⟨rfl, hb⟩
      refine ⟨_, rfl, ?_⟩
      have n0_ := Aside0.mk (Kd.R_below (qR HO184) hb)
      have n1_ := Aside0.mk (Kd.R_below (qR HO189) hb)
      have n2_ := Aside0.mk (Kd.R_below (qR HO196) hb)
      have n3_ := Aside0.mk (Kd.R_below (qR HO201) hb)
      have n4_ := Aside0.mk (Kd.R_below (qR HO209) hb)
      have n5_ := Aside0.mk (Kd.R_below (qR HO214) hb)
      have n6_ := Aside0.mk (Kd.R_below (qR HO222) hb)
      have n7_ := Aside0.mk (Kd.R_below (qR HO227) hb)
      have n8_ := Aside0.mk (Kd.R_below (qR HO236) hb)
      have n9_ := Aside0.mk (Kd.R_below (qR HO241) hb)
      have n10_ := Aside0.mk (blk_below (qK BK176) hb)
      have n11_ := Aside0.mk (blk_below (qK BK177) hb)
      have n12_ := Aside0.mk (blk_below (qK BK217) hb)
      have n13_ := Aside0.mk (blk_below (qK BK230) hb)
      have n14_ := Aside0.mk (below_step (by repeat (with_reducible first | exact HB.out | apply bA | apply bN | apply bD | refine bS ?_ GE176.out | refine bS ?_ GE177.out | refine bS ?_ GE217.out | refine bS ?_ GE230.out)) hb)
      clear HO184
      clear HO189
      clear HO196
      clear HO201
      clear HO209
      clear HO214
      clear HO222
      clear HO227
      clear HO236
      clear HO241
      clear BK176
      clear BK177
      clear BK217
      clear BK230
      clear HB
      have HO184 := n0_
      have HO189 := n1_
      have HO196 := n2_
      have HO201 := n3_
      have HO209 := n4_
      have HO214 := n5_
      have HO222 := n6_
      have HO227 := n7_
      have HO236 := n8_
      have HO241 := n9_
      have BK176 := n10_
      have BK177 := n11_
      have BK217 := n12_
      have BK230 := n13_
      have HB := n14_
      clear n0_ n1_ n2_ n3_ n4_ n5_ n6_ n7_ n8_ n9_ n10_ n11_ n12_ n13_ n14_
      (try clear hb)
      (try clear hb2)
      (try clear hk)
      (try clear hi)
      refine hK.out _ _ ⟨cC BK217 0, cC BK217 1, cC BK217 2, cC BK217 3, cC BK217 4, cC BK217 5, cC BK217 6, cC BK217 7, cC BK176 0, cC BK176 1, cC BK176 2, cC BK176 3, cC BK176 4, cC BK176 5, cC BK176 6, cC BK176 7⟩ (fun hHeld => ?_)
      clear hK K
      refine norm_ (a' := ?_) ?_ ?_
      rotate_left
      ·show Act.put _ (some 38) _ = _
       simp only [Act.put, sA, sZ, sS, i64_w]
       rfl
      refine pure_ (i := 4) (N := some 39) (v := ?_) (a' := ?_) #[true, true, true, true, true] rfl rfl (by kernel_rfl) (fun _ _ _ h => h) (Or.inl ⟨by rfl, ?_⟩) ?_ ?_
      rotate_left; (intro w'; go_simp; with_reducible rfl); rotate_left; (simp only [Act.put, sA, sZ, sS, i64_w]; rfl)
      refine done_ (by kernel_rfl) ?_
      try go_wp2
      have n0_ := Aside0.mk (Kd.R_drew HO184.out)
      have n1_ := Aside0.mk (Kd.R_drew HO189.out)
      have n2_ := Aside0.mk (Kd.R_drew HO196.out)
      have n3_ := Aside0.mk (Kd.R_drew HO201.out)
      have n4_ := Aside0.mk (Kd.R_drew HO209.out)
      have n5_ := Aside0.mk (Kd.R_drew HO214.out)
      have n6_ := Aside0.mk (Kd.R_drew HO222.out)
      have n7_ := Aside0.mk (Kd.R_drew HO227.out)
      have n8_ := Aside0.mk (Kd.R_drew HO236.out)
      have n9_ := Aside0.mk (Kd.R_drew HO241.out)
      have n10_ := Aside0.mk (blk_drew BK176.out)
      have n11_ := Aside0.mk (blk_drew BK177.out)
      have n12_ := Aside0.mk (blk_drew BK217.out)
      have n13_ := Aside0.mk (blk_drew BK230.out)
      have n14_ := Aside0.mk (below_drew1 HB.out)
      clear HO184
      clear HO189
      clear HO196
      clear HO201
      clear HO209
      clear HO214
      clear HO222
      clear HO227
      clear HO236
      clear HO241
      clear BK176
      clear BK177
      clear BK217
      clear BK230
      clear HB
      have HO184 := n0_
      have HO189 := n1_
      have HO196 := n2_
      have HO201 := n3_
      have HO209 := n4_
      have HO214 := n5_
      have HO222 := n6_
      have HO227 := n7_
      have HO236 := n8_
      have HO241 := n9_
      have BK176 := n10_
      have BK177 := n11_
      have BK217 := n12_
      have BK230 := n13_
      have HB := n14_
      clear n0_ n1_ n2_ n3_ n4_ n5_ n6_ n7_ n8_ n9_ n10_ n11_ n12_ n13_ n14_
      refine start_ (n := 5) (S := fun w' => w'.cell? ⟨gb230, 0, none⟩ = some (.int .i64 t218) ∧ w'.cell? ⟨gb230, 1, none⟩ = some (.int .i64 t219) ∧ w'.cell? ⟨gb230, 2, none⟩ = some (.slice Ao96 t220.length co96) ∧ w'.cell? ⟨gb230, 3, none⟩ = some (.int .i64 t223) ∧ w'.cell? ⟨gb230, 4, none⟩ = some (.int .i64 t224) ∧ w'.cell? ⟨gb230, 5, none⟩ = some (.slice Ao97 t225.length co97) ∧ w'.cell? ⟨gb230, 6, none⟩ = some (.int .i64 t228) ∧ w'.cell? ⟨gb230, 7, none⟩ = some (.int .i64 t229) ∧ w'.cell? ⟨gb177, 0, none⟩ = some (.int .i64 a1_0) ∧ w'.cell? ⟨gb177, 1, none⟩ = some (.int .i64 a1_1) ∧ w'.cell? ⟨gb177, 2, none⟩ = some (.slice A1_2 l1_2.length c1_2) ∧ w'.cell? ⟨gb177, 3, none⟩ = some (.int .i64 a1_3) ∧ w'.cell? ⟨gb177, 4, none⟩ = some (.int .i64 a1_4) ∧ w'.cell? ⟨gb177, 5, none⟩ = some (.slice A1_5 l1_5.length c1_5) ∧ w'.cell? ⟨gb177, 6, none⟩ = some (.int .i64 a1_6) ∧ w'.cell? ⟨gb177, 7, none⟩ = some (.int .i64 a1_7)) (ds := []) #[false, false, false, false, false] (by kernel_rfl) rfl rfl ⟨cC BK230 0, cC BK230 1, cC BK230 2, cC BK230 3, cC BK230 4, cC BK230 5, cC BK230 6, cC BK230 7, cC BK177 0, cC BK177 1, cC BK177 2, cC BK177 3, cC BK177 4, cC BK177 5, cC BK177 6, cC BK177 7⟩ (fun hHeld => ?_)
      generalize w104.drew = w105 at HO184 HO189 HO196 HO201 HO209 HO214 HO222 HO227 HO236 HO241 BK176 BK177 BK217 BK230 HB hHeld ⊢
      refine take_ (i := 0) (N := some 40) (v := ?_) (a' := ?_) #[true, false, false, false, false] rfl rfl (by kernel_rfl) (fun _ _ _ h => h) (Or.inl ⟨by rfl, ?_⟩) hHeld ?_ ?_
      rotate_left; (rintro w' ⟨s0, s1, s2, s3, s4, s5, s6, s7, s8, s9, s10, s11, s12, s13, s14, s15⟩; go_simp; with_reducible rfl); rotate_left; (simp only [Act.put, sA, sZ, sS, i64_w]; rfl)
      refine take_ (i := 1) (N := some 41) (v := ?_) (a' := ?_) #[true, true, false, false, false] rfl rfl (by kernel_rfl) (fun _ _ _ h => h) (Or.inl ⟨by rfl, ?_⟩) hHeld ?_ ?_
      rotate_left; (rintro w' ⟨s0, s1, s2, s3, s4, s5, s6, s7, s8, s9, s10, s11, s12, s13, s14, s15⟩; go_simp; with_reducible rfl); rotate_left; (simp only [Act.put, sA, sZ, sS, i64_w]; rfl)
      refine one_ (i := 2) (N := some 42) #[true, true, true, false, false] rfl rfl (by kernel_rfl) (by decide) (fun K hK => ?_)
      refine goes_ Try.func30 (by kernel_rfl) rfl #[.agg #[.int .i64 a1_0, .int .i64 a1_1, .slice A1_2 l1_2.length c1_2, .int .i64 a1_3, .int .i64 a1_4, .slice A1_5 l1_5.length c1_5, .int .i64 a1_6, .int .i64 a1_7]] (by rfl) rfl rfl (by (try simp only [mA, mC, mN]); first | done | rfl | (simp only [lD, lT]; rfl)) ?_
      with_reducible refine (laws_toReport.calls k a1_0 a1_1 _ _ l1_2 a1_3 a1_4 _ _ l1_5 a1_6 a1_7 t245 t246 t247 t250 t251 t252 t255 t256 _ ?side1 ?side2 ?side3 ?side4 A63.out).mono ?_
      (case side1 => exact qC (Kd.C_below HR1_2.out HB.out))
      (case side2 => exact HC1_2.out)
      (case side3 => exact qC (Kd.C_below HR1_5.out HB.out))
      (case side4 => exact HC1_5.out)
      rintro e w106 ⟨v248, v253, rfl, ho0, ho1, hb⟩
      refine ⟨_, rfl, ?_⟩
      have n0_ := tO (qR HO184) hb ho0 ho1
      have n1_ := tO (qR HO189) hb ho0 ho1
      have n2_ := tO (qR HO196) hb ho0 ho1
      have n3_ := tO (qR HO201) hb ho0 ho1
      have n4_ := tO (qR HO209) hb ho0 ho1
      have n5_ := tO (qR HO214) hb ho0 ho1
      have n6_ := tO (qR HO222) hb ho0 ho1
      have n7_ := tO (qR HO227) hb ho0 ho1
      have n8_ := tO (qR HO236) hb ho0 ho1
      have n9_ := tO (qR HO241) hb ho0 ho1
      have n10_ := Aside0.mk (Kd.R_lower (Kd.R_new' (Kd.R_new' (Kd.R_new' (Kd.R_new' (Kd.R_new' (Kd.R_new' (Kd.R_new' (Kd.R_new' (Kd.R_new' (Kd.R_new' ho0 (Kd.R_lt (qR HO184))) (Kd.R_lt (qR HO189))) (Kd.R_lt (qR HO196))) (Kd.R_lt (qR HO201))) (Kd.R_lt (qR HO209))) (Kd.R_lt (qR HO214))) (Kd.R_lt (qR HO222))) (Kd.R_lt (qR HO227))) (Kd.R_lt (qR HO236))) (Kd.R_lt (qR HO241))) (below_size (by repeat (with_reducible first | exact HB.out | apply bA | apply bN | apply bD | refine bS ?_ GE176.out | refine bS ?_ GE177.out | refine bS ?_ GE217.out | refine bS ?_ GE230.out))))
      have n11_ := Aside0.mk (Kd.R_lower (Kd.R_new' (Kd.R_new' (Kd.R_new' (Kd.R_new' (Kd.R_new' (Kd.R_new' (Kd.R_new' (Kd.R_new' (Kd.R_new' (Kd.R_new' ho1 (Kd.R_lt (qR HO184))) (Kd.R_lt (qR HO189))) (Kd.R_lt (qR HO196))) (Kd.R_lt (qR HO201))) (Kd.R_lt (qR HO209))) (Kd.R_lt (qR HO214))) (Kd.R_lt (qR HO222))) (Kd.R_lt (qR HO227))) (Kd.R_lt (qR HO236))) (Kd.R_lt (qR HO241))) (below_size (by repeat (with_reducible first | exact HB.out | apply bA | apply bN | apply bD | refine bS ?_ GE176.out | refine bS ?_ GE177.out | refine bS ?_ GE217.out | refine bS ?_ GE230.out))))
      have n12_ := Aside0.mk (blk_below (qK BK176) hb)
      have n13_ := Aside0.mk (blk_below (qK BK177) hb)
      have n14_ := Aside0.mk (blk_below (qK BK217) hb)
      have n15_ := Aside0.mk (blk_below (qK BK230) hb)
      have n16_ := Aside0.mk (below_step (by repeat (with_reducible first | exact HB.out | apply bA | apply bN | apply bD | refine bS ?_ GE176.out | refine bS ?_ GE177.out | refine bS ?_ GE217.out | refine bS ?_ GE230.out)) hb)
      clear HO184
      clear HO189
      clear HO196
      clear HO201
      clear HO209
      clear HO214
      clear HO222
      clear HO227
      clear HO236
      clear HO241
      clear BK176
      clear BK177
      clear BK217
      clear BK230
      clear HB
      have HO184 := n0_
      have HO189 := n1_
      have HO196 := n2_
      have HO201 := n3_
      have HO209 := n4_
      have HO214 := n5_
      have HO222 := n6_
      have HO227 := n7_
      have HO236 := n8_
      have HO241 := n9_
      have HO249 := n10_
      have HO254 := n11_
      have BK176 := n12_
      have BK177 := n13_
      have BK217 := n14_
      have BK230 := n15_
      have HB := n16_
      clear n0_ n1_ n2_ n3_ n4_ n5_ n6_ n7_ n8_ n9_ n10_ n11_ n12_ n13_ n14_ n15_ n16_
      (try clear hb)
      (try clear hb2)
      (try clear hk)
      (try clear hi)
      (try clear ho0)
      (try clear ho1)
      obtain ⟨Ao107, co107, eo107⟩ := Kd.R_slice HO249.out
      (first | subst eo107 | (injection eo107 with f1_ f2_ f3_; have f4_ := f1_.symm; have f5_ := f3_.symm; clear f1_ f2_ f3_; subst f4_; subst f5_))
      obtain ⟨Ao108, co108, eo108⟩ := Kd.R_slice HO254.out
      (first | subst eo108 | (injection eo108 with f1_ f2_ f3_; have f4_ := f1_.symm; have f5_ := f3_.symm; clear f1_ f2_ f3_; subst f4_; subst f5_))
      refine hK.out _ _ ⟨cC BK230 0, cC BK230 1, cC BK230 2, cC BK230 3, cC BK230 4, cC BK230 5, cC BK230 6, cC BK230 7, cC BK177 0, cC BK177 1, cC BK177 2, cC BK177 3, cC BK177 4, cC BK177 5, cC BK177 6, cC BK177 7⟩ (fun hHeld => ?_)
      clear hK K
      refine norm_ (a' := ?_) ?_ ?_
      rotate_left
      ·show Act.put _ (some 42) _ = _
       simp only [Act.put, sA, sZ, sS, i64_w]
       rfl
      refine one_ (i := 3) (N := some 43) #[true, true, true, true, false] rfl rfl (by kernel_rfl) (by decide) (fun K hK => ?_)
      refine goes_ Try.func32 (by kernel_rfl) rfl #[.agg #[.int .i64 t218, .int .i64 t219, .slice Ao96 t220.length co96, .int .i64 t223, .int .i64 t224, .slice Ao97 t225.length co97, .int .i64 t228, .int .i64 t229], .agg #[.int .i64 t245, .int .i64 t246, .slice Ao107 t247.length co107, .int .i64 t250, .int .i64 t251, .slice Ao108 t252.length co108, .int .i64 t255, .int .i64 t256]] (by rfl) rfl rfl (by (try simp only [mA, mC, mN]); first | done | rfl | (simp only [lD, lT]; rfl)) ?_
      with_reducible refine (laws_eqReport.calls k t218 t219 _ _ t220 t223 t224 _ _ t225 t228 t229 t245 t246 _ _ t247 t250 t251 _ _ t252 t255 t256 true _ ?side1 ?side2 ?side3 ?side4 ?side5 ?side6 ?side7 ?side8 A64.out).mono ?_
      (case side1 => repeat (first | exact (Kd.R_reads' HO222.out).2.2 | (with_reducible refine Kd.C_alloc ?_ _) | (with_reducible refine Kd.C_drewN ?_ _) | (with_reducible refine Kd.C_drew ?_)))
      (case side2 => exact (Kd.R_reads' HO222.out).2.1)
      (case side3 => repeat (first | exact (Kd.R_reads' HO227.out).2.2 | (with_reducible refine Kd.C_alloc ?_ _) | (with_reducible refine Kd.C_drewN ?_ _) | (with_reducible refine Kd.C_drew ?_)))
      (case side4 => exact (Kd.R_reads' HO227.out).2.1)
      (case side5 => repeat (first | exact (Kd.R_reads' HO249.out).2.2 | (with_reducible refine Kd.C_alloc ?_ _) | (with_reducible refine Kd.C_drewN ?_ _) | (with_reducible refine Kd.C_drew ?_)))
      (case side6 => exact (Kd.R_reads' HO249.out).2.1)
      (case side7 => repeat (first | exact (Kd.R_reads' HO254.out).2.2 | (with_reducible refine Kd.C_alloc ?_ _) | (with_reducible refine Kd.C_drewN ?_ _) | (with_reducible refine Kd.C_drew ?_)))
      (case side8 => exact (Kd.R_reads' HO254.out).2.1)
      rintro e w109 ⟨rfl, hb⟩
      refine ⟨_, rfl, ?_⟩
      have n0_ := Aside0.mk (Kd.R_below (qR HO184) hb)
      have n1_ := Aside0.mk (Kd.R_below (qR HO189) hb)
      have n2_ := Aside0.mk (Kd.R_below (qR HO196) hb)
      have n3_ := Aside0.mk (Kd.R_below (qR HO201) hb)
      have n4_ := Aside0.mk (Kd.R_below (qR HO209) hb)
      have n5_ := Aside0.mk (Kd.R_below (qR HO214) hb)
      have n6_ := Aside0.mk (Kd.R_below (qR HO222) hb)
      have n7_ := Aside0.mk (Kd.R_below (qR HO227) hb)
      have n8_ := Aside0.mk (Kd.R_below (qR HO236) hb)
      have n9_ := Aside0.mk (Kd.R_below (qR HO241) hb)
      have n10_ := Aside0.mk (Kd.R_below (qR HO249) hb)
      have n11_ := Aside0.mk (Kd.R_below (qR HO254) hb)
      have n12_ := Aside0.mk (blk_below (qK BK176) hb)
      have n13_ := Aside0.mk (blk_below (qK BK177) hb)
      have n14_ := Aside0.mk (blk_below (qK BK217) hb)
      have n15_ := Aside0.mk (blk_below (qK BK230) hb)
      have n16_ := Aside0.mk (below_step (by repeat (with_reducible first | exact HB.out | apply bA | apply bN | apply bD | refine bS ?_ GE176.out | refine bS ?_ GE177.out | refine bS ?_ GE217.out | refine bS ?_ GE230.out)) hb)
      clear HO184
      clear HO189
      clear HO196
      clear HO201
      clear HO209
      clear HO214
      clear HO222
      clear HO227
      clear HO236
      clear HO241
      clear HO249
      clear HO254
      clear BK176
      clear BK177
      clear BK217
      clear BK230
      clear HB
      have HO184 := n0_
      have HO189 := n1_
      have HO196 := n2_
      have HO201 := n3_
      have HO209 := n4_
      have HO214 := n5_
      have HO222 := n6_
      have HO227 := n7_
      have HO236 := n8_
      have HO241 := n9_
      have HO249 := n10_
      have HO254 := n11_
      have BK176 := n12_
      have BK177 := n13_
      have BK217 := n14_
      have BK230 := n15_
      have HB := n16_
      clear n0_ n1_ n2_ n3_ n4_ n5_ n6_ n7_ n8_ n9_ n10_ n11_ n12_ n13_ n14_ n15_ n16_
      (try clear hb)
      (try clear hb2)
      (try clear hk)
      (try clear hi)
      refine hK.out _ _ ⟨cC BK230 0, cC BK230 1, cC BK230 2, cC BK230 3, cC BK230 4, cC BK230 5, cC BK230 6, cC BK230 7, cC BK177 0, cC BK177 1, cC BK177 2, cC BK177 3, cC BK177 4, cC BK177 5, cC BK177 6, cC BK177 7⟩ (fun hHeld => ?_)
      clear hK K
      refine norm_ (a' := ?_) ?_ ?_
      rotate_left
      ·show Act.put _ (some 43) _ = _
       simp only [Act.put, sA, sZ, sS, i64_w]
       rfl
      refine pure_ (i := 4) (N := some 44) (v := ?_) (a' := ?_) #[true, true, true, true, true] rfl rfl (by kernel_rfl) (fun _ _ _ h => h) (Or.inl ⟨by rfl, ?_⟩) ?_ ?_
      rotate_left; (intro w'; go_simp; with_reducible rfl); rotate_left; (simp only [Act.put, sA, sZ, sS, i64_w]; rfl)
      refine done_ (by kernel_rfl) ?_
      try go_wp2
      go_ret
      exact ⟨by first | rfl | (simp [errW_none, errW_some] <;> rfl) | (simp [*, errW_none, errW_some] <;> rfl), by repeat (first | (with_reducible first | exact HB.out | apply bA | apply bN | apply bD | refine bS ?_ GE176.out | refine bS ?_ GE177.out | refine bS ?_ GE217.out | refine bS ?_ GE230.out) | exact HB.out)⟩
     ·replace c65 := Bool.eq_false_iff.mpr c65
      subst c65
      have H1 : (some false) = some r := by rw [if_neg (show ¬ (false = true) by decide)] at H; exact H
      clear H
      have H := H1
      clear H1
      obtain rfl := Option.some.inj H
      go_enter Try.func5, Try.ntmps5
      try go_wp2_with (first | ((with_reducible refine gate_dst (N := 2) rfl ?_); refine box_event ?hg (N := 2) ?hd (cs := #[.int .i64 a0_0, .int .i64 a0_1, .slice A0_2 l0_2.length c0_2, .int .i64 a0_3, .int .i64 a0_4, .slice A0_5 l0_5.length c0_5, .int .i64 a0_6, .int .i64 a0_7]) (t := 46) ?hr ?_; (case hd => rfl); (case hg => rfl); (case hr => first | (go_simp; done) | (go_simp; rfl)); intro gb176 hg w110 hbox hb; have n0_ := Aside0.mk (below_step (qB HB) hb); have n1_ := Aside0.mk (hbox); have n2_ := Aside0.mk ((by rw [hg]; exact (below_size (qB HB)) : w.heap.size ≤ gb176)); have n3_ := Aside0.mk ((by rw [hg]; exact (below_size (qB HB)) : w.heap.size ≤ gb176)); clear HB; have HB := n0_; have BK176 := n1_; have GW176 := n2_; have GE176 := n3_; clear n0_ n1_ n2_ n3_; clear hb hbox hg) | ((with_reducible refine gate_dst (N := 3) rfl ?_); refine box_event ?hg (N := 3) ?hd (cs := #[.int .i64 a1_0, .int .i64 a1_1, .slice A1_2 l1_2.length c1_2, .int .i64 a1_3, .int .i64 a1_4, .slice A1_5 l1_5.length c1_5, .int .i64 a1_6, .int .i64 a1_7]) (t := 46) ?hr ?_; (case hd => rfl); (case hg => rfl); (case hr => first | (go_simp; done) | (go_simp; rfl)); intro gb177 hg w111 hbox hb; have n0_ := Aside0.mk (blk_below (qK BK176) hb); have n1_ := Aside0.mk (below_step (by repeat (with_reducible first | exact HB.out | apply bA | apply bN | apply bD | refine bS ?_ GE176.out)) hb); have n2_ := Aside0.mk (hbox); have n3_ := Aside0.mk ((by rw [hg]; exact (below_size (by repeat (with_reducible first | exact HB.out | apply bA | apply bN | apply bD | refine bS ?_ GE176.out))) : w.heap.size ≤ gb177)); have n4_ := Aside0.mk ((by rw [hg]; exact (below_size (by repeat (with_reducible first | exact HB.out | apply bA | apply bN | apply bD | refine bS ?_ GE176.out))) : w.heap.size ≤ gb177)); have n5_ := Aside0.mk ((by rw [hg]; exact Nat.ne_of_lt (blk_lt (qK BK176)) : gb176 ≠ gb177)); have n6_ := Aside0.mk ((by rw [hg]; exact Nat.ne_of_gt (blk_lt (qK BK176)) : gb177 ≠ gb176)); clear BK176; clear HB; have BK176 := n0_; have HB := n1_; have BK177 := n2_; have GW177 := n3_; have GE177 := n4_; have NB176_177 := n5_; have NB177_176 := n6_; clear n0_ n1_ n2_ n3_ n4_ n5_ n6_; clear hb hbox hg; have hnb112 := NB176_177.out; have hnc112 := NB177_176.out; have hcz113_0 : w111.cell? ⟨gb176, 0, none⟩ = some (.int .i64 a0_0) := cC BK176 0; have hcz113_1 : w111.cell? ⟨gb176, 1, none⟩ = some (.int .i64 a0_1) := cC BK176 1; have hcz113_2 : w111.cell? ⟨gb176, 2, none⟩ = some (.slice A0_2 l0_2.length c0_2) := cC BK176 2; have hcz113_3 : w111.cell? ⟨gb176, 3, none⟩ = some (.int .i64 a0_3) := cC BK176 3; have hcz113_4 : w111.cell? ⟨gb176, 4, none⟩ = some (.int .i64 a0_4) := cC BK176 4; have hcz113_5 : w111.cell? ⟨gb176, 5, none⟩ = some (.slice A0_5 l0_5.length c0_5) := cC BK176 5; have hcz113_6 : w111.cell? ⟨gb176, 6, none⟩ = some (.int .i64 a0_6) := cC BK176 6; have hcz113_7 : w111.cell? ⟨gb176, 7, none⟩ = some (.int .i64 a0_7) := cC BK176 7; have hfz113_0 := blk_frozen BK176.out 0; have hfz113_1 := blk_frozen BK176.out 1; have hfz113_2 := blk_frozen BK176.out 2; have hfz113_3 := blk_frozen BK176.out 3; have hfz113_4 := blk_frozen BK176.out 4; have hfz113_5 := blk_frozen BK176.out 5; have hfz113_6 := blk_frozen BK176.out 6; have hfz113_7 := blk_frozen BK176.out 7) | ((with_reducible refine gate_callee (f := 28) rfl ?_); refine goesL_ (some 12) rfl rfl Try.func28 (by kernel_rfl) rfl #[.agg #[.int .i64 a0_0, .int .i64 a0_1, .slice A0_2 l0_2.length c0_2, .int .i64 a0_3, .int .i64 a0_4, .slice A0_5 l0_5.length c0_5, .int .i64 a0_6, .int .i64 a0_7], .int .i64 1048576] rfl (by (try simp only [mA, mC, mN]); first | done | rfl | (simp only [lD, lT]; rfl)) ?_; (with_reducible refine (laws_szReport.calls a0_0 a0_1 _ _ l0_2 a0_3 a0_4 _ _ l0_5 a0_6 a0_7 1048576 t178 _ ?side1 ?side2 ?side3 ?side4 A3.out).mono ?_); (case side1 => exact qC (Kd.C_below HR0_2.out HB.out)); (case side2 => exact HC0_2.out); (case side3 => exact qC (Kd.C_below HR0_5.out HB.out)); (case side4 => exact HC0_5.out); rintro e w114 ⟨rfl, hb⟩; refine ⟨_, rfl, ?_⟩; have n0_ := Aside0.mk (blk_below (qK BK176) hb); have n1_ := Aside0.mk (blk_below (qK BK177) hb); have n2_ := Aside0.mk (below_step (by repeat (with_reducible first | exact HB.out | apply bA | apply bN | apply bD | refine bS ?_ GE176.out | refine bS ?_ GE177.out)) hb); clear BK176; clear BK177; clear HB; have BK176 := n0_; have BK177 := n1_; have HB := n2_; clear n0_ n1_ n2_; (try clear hb); (try clear hb2); (try clear hk); (try clear hi); have hcz115_0 : w114.cell? ⟨gb177, 0, none⟩ = some (.int .i64 a1_0) := cC BK177 0; have hcz115_1 : w114.cell? ⟨gb177, 1, none⟩ = some (.int .i64 a1_1) := cC BK177 1; have hcz115_2 : w114.cell? ⟨gb177, 2, none⟩ = some (.slice A1_2 l1_2.length c1_2) := cC BK177 2; have hcz115_3 : w114.cell? ⟨gb177, 3, none⟩ = some (.int .i64 a1_3) := cC BK177 3; have hcz115_4 : w114.cell? ⟨gb177, 4, none⟩ = some (.int .i64 a1_4) := cC BK177 4; have hcz115_5 : w114.cell? ⟨gb177, 5, none⟩ = some (.slice A1_5 l1_5.length c1_5) := cC BK177 5; have hcz115_6 : w114.cell? ⟨gb177, 6, none⟩ = some (.int .i64 a1_6) := cC BK177 6; have hcz115_7 : w114.cell? ⟨gb177, 7, none⟩ = some (.int .i64 a1_7) := cC BK177 7; have hfz115_0 := blk_frozen BK177.out 0; have hfz115_1 := blk_frozen BK177.out 1; have hfz115_2 := blk_frozen BK177.out 2; have hfz115_3 := blk_frozen BK177.out 3; have hfz115_4 := blk_frozen BK177.out 4; have hfz115_5 := blk_frozen BK177.out 5; have hfz115_6 := blk_frozen BK177.out 6; have hfz115_7 := blk_frozen BK177.out 7) | ((with_reducible refine gate_callee (f := 28) rfl ?_); refine goesL_ (some 17) rfl rfl Try.func28 (by kernel_rfl) rfl #[.agg #[.int .i64 a1_0, .int .i64 a1_1, .slice A1_2 l1_2.length c1_2, .int .i64 a1_3, .int .i64 a1_4, .slice A1_5 l1_5.length c1_5, .int .i64 a1_6, .int .i64 a1_7], .int .i64 t178] rfl (by (try simp only [mA, mC, mN]); first | done | rfl | (simp only [lD, lT]; rfl)) ?_; (with_reducible refine (laws_szReport.calls a1_0 a1_1 _ _ l1_2 a1_3 a1_4 _ _ l1_5 a1_6 a1_7 t178 t179 _ ?side1 ?side2 ?side3 ?side4 A10.out).mono ?_); (case side1 => exact qC (Kd.C_below HR1_2.out HB.out)); (case side2 => exact HC1_2.out); (case side3 => exact qC (Kd.C_below HR1_5.out HB.out)); (case side4 => exact HC1_5.out); rintro e w116 ⟨rfl, hb⟩; refine ⟨_, rfl, ?_⟩; have n0_ := Aside0.mk (blk_below (qK BK176) hb); have n1_ := Aside0.mk (blk_below (qK BK177) hb); have n2_ := Aside0.mk (below_step (by repeat (with_reducible first | exact HB.out | apply bA | apply bN | apply bD | refine bS ?_ GE176.out | refine bS ?_ GE177.out)) hb); clear BK176; clear BK177; clear HB; have BK176 := n0_; have BK177 := n1_; have HB := n2_; clear n0_ n1_ n2_; (try clear hb); (try clear hb2); (try clear hk); (try clear hi)))
      have n0_ := Aside0.mk (blk_drew BK176.out)
      have n1_ := Aside0.mk (blk_drew BK177.out)
      have n2_ := Aside0.mk (below_drew1 HB.out)
      clear BK176
      clear BK177
      clear HB
      have BK176 := n0_
      have BK177 := n1_
      have HB := n2_
      clear n0_ n1_ n2_
      refine start_ (n := 6) (S := fun w' => w'.cell? ⟨gb176, 0, none⟩ = some (.int .i64 a0_0) ∧ w'.cell? ⟨gb176, 1, none⟩ = some (.int .i64 a0_1) ∧ w'.cell? ⟨gb176, 2, none⟩ = some (.slice A0_2 l0_2.length c0_2) ∧ w'.cell? ⟨gb176, 3, none⟩ = some (.int .i64 a0_3) ∧ w'.cell? ⟨gb176, 4, none⟩ = some (.int .i64 a0_4) ∧ w'.cell? ⟨gb176, 5, none⟩ = some (.slice A0_5 l0_5.length c0_5) ∧ w'.cell? ⟨gb176, 6, none⟩ = some (.int .i64 a0_6) ∧ w'.cell? ⟨gb176, 7, none⟩ = some (.int .i64 a0_7) ∧ w'.cell? ⟨gb177, 0, none⟩ = some (.int .i64 a1_0) ∧ w'.cell? ⟨gb177, 1, none⟩ = some (.int .i64 a1_1) ∧ w'.cell? ⟨gb177, 2, none⟩ = some (.slice A1_2 l1_2.length c1_2) ∧ w'.cell? ⟨gb177, 3, none⟩ = some (.int .i64 a1_3) ∧ w'.cell? ⟨gb177, 4, none⟩ = some (.int .i64 a1_4) ∧ w'.cell? ⟨gb177, 5, none⟩ = some (.slice A1_5 l1_5.length c1_5) ∧ w'.cell? ⟨gb177, 6, none⟩ = some (.int .i64 a1_6) ∧ w'.cell? ⟨gb177, 7, none⟩ = some (.int .i64 a1_7)) (ds := []) (bR [0, 6]) (by kernel_rfl) rfl rfl ⟨cC BK176 0, cC BK176 1, cC BK176 2, cC BK176 3, cC BK176 4, cC BK176 5, cC BK176 6, cC BK176 7, cC BK177 0, cC BK177 1, cC BK177 2, cC BK177 3, cC BK177 4, cC BK177 5, cC BK177 6, cC BK177 7⟩ (fun hHeld => ?_)
      generalize w116.drew = w117 at BK176 BK177 HB hHeld ⊢
      refine take_ (i := 0) (N := some 20) (v := ?_) (a' := ?_) (bR [1, 5]) rfl rfl (by kernel_rfl) (fun _ _ _ h => h) (Or.inl ⟨by rfl, ?_⟩) hHeld ?_ ?_
      rotate_left; (rintro w' ⟨s0, s1, s2, s3, s4, s5, s6, s7, s8, s9, s10, s11, s12, s13, s14, s15⟩; go_simp; with_reducible rfl); rotate_left; (simp only [Act.put, sA, sZ, sS, i64_w]; rfl)
      refine take_ (i := 2) (N := some 22) (v := ?_) (a' := ?_) (bR [1, 1, 1, 3]) rfl rfl (by kernel_rfl) (fun _ _ _ h => h) (Or.inl ⟨by rfl, ?_⟩) hHeld ?_ ?_
      rotate_left; (rintro w' ⟨s0, s1, s2, s3, s4, s5, s6, s7, s8, s9, s10, s11, s12, s13, s14, s15⟩; go_simp; with_reducible rfl); rotate_left; (simp only [Act.put, sA, sZ, sS, i64_w]; rfl)
      refine one_ (i := 1) (N := some 21) (bR [3, 3]) rfl rfl (by kernel_rfl) (by decide) (fun K hK => ?_)
      refine goes_ Try.func30 (by kernel_rfl) rfl #[.agg #[.int .i64 a0_0, .int .i64 a0_1, .slice A0_2 l0_2.length c0_2, .int .i64 a0_3, .int .i64 a0_4, .slice A0_5 l0_5.length c0_5, .int .i64 a0_6, .int .i64 a0_7]] (by rfl) rfl rfl (by (try simp only [mA, mC, mN]); first | done | rfl | (simp only [lD, lT]; rfl)) ?_
      with_reducible refine (laws_toReport.calls k a0_0 a0_1 _ _ l0_2 a0_3 a0_4 _ _ l0_5 a0_6 a0_7 t180 t181 t182 t185 t186 t187 t190 t191 _ ?side1 ?side2 ?side3 ?side4 A19.out).mono ?_
      (case side1 => exact qC (Kd.C_below HR0_2.out HB.out))
      (case side2 => exact HC0_2.out)
      (case side3 => exact qC (Kd.C_below HR0_5.out HB.out))
      (case side4 => exact HC0_5.out)
      rintro e w118 ⟨v183, v188, rfl, ho0, ho1, hb⟩
      refine ⟨_, rfl, ?_⟩
      have n0_ := Aside0.mk (Kd.R_lower ho0 (below_size (by repeat (with_reducible first | exact HB.out | apply bA | apply bN | apply bD | refine bS ?_ GE176.out | refine bS ?_ GE177.out))))
      have n1_ := Aside0.mk (Kd.R_lower ho1 (below_size (by repeat (with_reducible first | exact HB.out | apply bA | apply bN | apply bD | refine bS ?_ GE176.out | refine bS ?_ GE177.out))))
      have n2_ := Aside0.mk (blk_below (qK BK176) hb)
      have n3_ := Aside0.mk (blk_below (qK BK177) hb)
      have n4_ := Aside0.mk (below_step (by repeat (with_reducible first | exact HB.out | apply bA | apply bN | apply bD | refine bS ?_ GE176.out | refine bS ?_ GE177.out)) hb)
      clear BK176
      clear BK177
      clear HB
      have HO184 := n0_
      have HO189 := n1_
      have BK176 := n2_
      have BK177 := n3_
      have HB := n4_
      clear n0_ n1_ n2_ n3_ n4_
      (try clear hb)
      (try clear hb2)
      (try clear hk)
      (try clear hi)
      (try clear ho0)
      (try clear ho1)
      refine hK.out _ _ ⟨cC BK176 0, cC BK176 1, cC BK176 2, cC BK176 3, cC BK176 4, cC BK176 5, cC BK176 6, cC BK176 7, cC BK177 0, cC BK177 1, cC BK177 2, cC BK177 3, cC BK177 4, cC BK177 5, cC BK177 6, cC BK177 7⟩ (fun hHeld => ?_)
      clear hK K
      refine norm_ (a' := ?_) ?_ ?_
      rotate_left
      ·show Act.put _ (some 21) _ = _
       simp only [Act.put, sA, sZ, sS, i64_w]
       rfl
      refine one_ (i := 3) (N := some 23) (bR [4, 2]) rfl rfl (by kernel_rfl) (by decide) (fun K hK => ?_)
      refine goes_ Try.func30 (by kernel_rfl) rfl #[.agg #[.int .i64 a1_0, .int .i64 a1_1, .slice A1_2 l1_2.length c1_2, .int .i64 a1_3, .int .i64 a1_4, .slice A1_5 l1_5.length c1_5, .int .i64 a1_6, .int .i64 a1_7]] (by rfl) rfl rfl (by (try simp only [mA, mC, mN]); first | done | rfl | (simp only [lD, lT]; rfl)) ?_
      with_reducible refine (laws_toReport.calls k a1_0 a1_1 _ _ l1_2 a1_3 a1_4 _ _ l1_5 a1_6 a1_7 t192 t193 t194 t197 t198 t199 t202 t203 _ ?side1 ?side2 ?side3 ?side4 A20.out).mono ?_
      (case side1 => exact qC (Kd.C_below HR1_2.out HB.out))
      (case side2 => exact HC1_2.out)
      (case side3 => exact qC (Kd.C_below HR1_5.out HB.out))
      (case side4 => exact HC1_5.out)
      rintro e w119 ⟨v195, v200, rfl, ho0, ho1, hb⟩
      refine ⟨_, rfl, ?_⟩
      have n0_ := tO (qR HO184) hb ho0 ho1
      have n1_ := tO (qR HO189) hb ho0 ho1
      have n2_ := Aside0.mk (Kd.R_lower (Kd.R_new' (Kd.R_new' ho0 (Kd.R_lt (qR HO184))) (Kd.R_lt (qR HO189))) (below_size (by repeat (with_reducible first | exact HB.out | apply bA | apply bN | apply bD | refine bS ?_ GE176.out | refine bS ?_ GE177.out))))
      have n3_ := Aside0.mk (Kd.R_lower (Kd.R_new' (Kd.R_new' ho1 (Kd.R_lt (qR HO184))) (Kd.R_lt (qR HO189))) (below_size (by repeat (with_reducible first | exact HB.out | apply bA | apply bN | apply bD | refine bS ?_ GE176.out | refine bS ?_ GE177.out))))
      have n4_ := Aside0.mk (blk_below (qK BK176) hb)
      have n5_ := Aside0.mk (blk_below (qK BK177) hb)
      have n6_ := Aside0.mk (below_step (by repeat (with_reducible first | exact HB.out | apply bA | apply bN | apply bD | refine bS ?_ GE176.out | refine bS ?_ GE177.out)) hb)
      clear HO184
      clear HO189
      clear BK176
      clear BK177
      clear HB
      have HO184 := n0_
      have HO189 := n1_
      have HO196 := n2_
      have HO201 := n3_
      have BK176 := n4_
      have BK177 := n5_
      have HB := n6_
      clear n0_ n1_ n2_ n3_ n4_ n5_ n6_
      (try clear hb)
      (try clear hb2)
      (try clear hk)
      (try clear hi)
      (try clear ho0)
      (try clear ho1)
      obtain ⟨Ao120, co120, eo120⟩ := Kd.R_slice HO184.out
      (first | subst eo120 | (injection eo120 with f1_ f2_ f3_; have f4_ := f1_.symm; have f5_ := f3_.symm; clear f1_ f2_ f3_; subst f4_; subst f5_))
      obtain ⟨Ao121, co121, eo121⟩ := Kd.R_slice HO189.out
      (first | subst eo121 | (injection eo121 with f1_ f2_ f3_; have f4_ := f1_.symm; have f5_ := f3_.symm; clear f1_ f2_ f3_; subst f4_; subst f5_))
      obtain ⟨Ao122, co122, eo122⟩ := Kd.R_slice HO196.out
      (first | subst eo122 | (injection eo122 with f1_ f2_ f3_; have f4_ := f1_.symm; have f5_ := f3_.symm; clear f1_ f2_ f3_; subst f4_; subst f5_))
      obtain ⟨Ao123, co123, eo123⟩ := Kd.R_slice HO201.out
      (first | subst eo123 | (injection eo123 with f1_ f2_ f3_; have f4_ := f1_.symm; have f5_ := f3_.symm; clear f1_ f2_ f3_; subst f4_; subst f5_))
      refine hK.out _ _ ⟨cC BK176 0, cC BK176 1, cC BK176 2, cC BK176 3, cC BK176 4, cC BK176 5, cC BK176 6, cC BK176 7, cC BK177 0, cC BK177 1, cC BK177 2, cC BK177 3, cC BK177 4, cC BK177 5, cC BK177 6, cC BK177 7⟩ (fun hHeld => ?_)
      clear hK K
      refine norm_ (a' := ?_) ?_ ?_
      rotate_left
      ·show Act.put _ (some 23) _ = _
       simp only [Act.put, sA, sZ, sS, i64_w]
       rfl
      refine one_ (i := 4) (N := some 24) (bR [5, 1]) rfl rfl (by kernel_rfl) (by decide) (fun K hK => ?_)
      refine goes_ Try.func29 (by kernel_rfl) rfl #[.agg #[.int .i64 t180, .int .i64 t181, .slice Ao120 t182.length co120, .int .i64 t185, .int .i64 t186, .slice Ao121 t187.length co121, .int .i64 t190, .int .i64 t191], .agg #[.int .i64 t192, .int .i64 t193, .slice Ao122 t194.length co122, .int .i64 t197, .int .i64 t198, .slice Ao123 t199.length co123, .int .i64 t202, .int .i64 t203]] (by rfl) rfl rfl (by (try simp only [mA, mC, mN]); first | done | rfl | (simp only [lD, lT]; rfl)) ?_
      with_reducible refine (spec_IsWider.calls k t180 t181 _ _ t182 t185 t186 _ _ t187 t190 t191 t192 t193 _ _ t194 t197 t198 _ _ t199 t202 t203 t204 _ ?side1 ?side2 ?side3 ?side4 ?side5 ?side6 ?side7 ?side8 A21.out).mono ?_
      (case side1 => repeat (first | exact (Kd.R_reads' HO184.out).2.2 | (with_reducible refine Kd.C_alloc ?_ _) | (with_reducible refine Kd.C_drewN ?_ _) | (with_reducible refine Kd.C_drew ?_)))
      (case side2 => exact (Kd.R_reads' HO184.out).2.1)
      (case side3 => repeat (first | exact (Kd.R_reads' HO189.out).2.2 | (with_reducible refine Kd.C_alloc ?_ _) | (with_reducible refine Kd.C_drewN ?_ _) | (with_reducible refine Kd.C_drew ?_)))
      (case side4 => exact (Kd.R_reads' HO189.out).2.1)
      (case side5 => repeat (first | exact (Kd.R_reads' HO196.out).2.2 | (with_reducible refine Kd.C_alloc ?_ _) | (with_reducible refine Kd.C_drewN ?_ _) | (with_reducible refine Kd.C_drew ?_)))
      (case side6 => exact (Kd.R_reads' HO196.out).2.1)
      (case side7 => repeat (first | exact (Kd.R_reads' HO201.out).2.2 | (with_reducible refine Kd.C_alloc ?_ _) | (with_reducible refine Kd.C_drewN ?_ _) | (with_reducible refine Kd.C_drew ?_)))
      (case side8 => exact (Kd.R_reads' HO201.out).2.1)
      rintro e w124 ⟨rfl, hb⟩
      refine ⟨_, rfl, ?_⟩
      have n0_ := Aside0.mk (Kd.R_below (qR HO184) hb)
      have n1_ := Aside0.mk (Kd.R_below (qR HO189) hb)
      have n2_ := Aside0.mk (Kd.R_below (qR HO196) hb)
      have n3_ := Aside0.mk (Kd.R_below (qR HO201) hb)
      have n4_ := Aside0.mk (blk_below (qK BK176) hb)
      have n5_ := Aside0.mk (blk_below (qK BK177) hb)
      have n6_ := Aside0.mk (below_step (by repeat (with_reducible first | exact HB.out | apply bA | apply bN | apply bD | refine bS ?_ GE176.out | refine bS ?_ GE177.out)) hb)
      clear HO184
      clear HO189
      clear HO196
      clear HO201
      clear BK176
      clear BK177
      clear HB
      have HO184 := n0_
      have HO189 := n1_
      have HO196 := n2_
      have HO201 := n3_
      have BK176 := n4_
      have BK177 := n5_
      have HB := n6_
      clear n0_ n1_ n2_ n3_ n4_ n5_ n6_
      (try clear hb)
      (try clear hb2)
      (try clear hk)
      (try clear hi)
      refine hK.out _ _ ⟨cC BK176 0, cC BK176 1, cC BK176 2, cC BK176 3, cC BK176 4, cC BK176 5, cC BK176 6, cC BK176 7, cC BK177 0, cC BK177 1, cC BK177 2, cC BK177 3, cC BK177 4, cC BK177 5, cC BK177 6, cC BK177 7⟩ (fun hHeld => ?_)
      clear hK K
      refine norm_ (a' := ?_) ?_ ?_
      rotate_left
      ·show Act.put _ (some 24) _ = _
       simp only [Act.put, sA, sZ, sS, i64_w]
       rfl
      refine pure_ (i := 5) (N := some 6) (v := ?_) (a' := ?_) (bR [6]) rfl rfl (by kernel_rfl) (fun _ _ _ h => h) (Or.inl ⟨by rfl, ?_⟩) ?_ ?_
      rotate_left; (intro w'; go_simp; with_reducible rfl); rotate_left; (simp only [Act.put, sA, sZ, sS, i64_w]; rfl)
      refine done_ (by kernel_rfl) ?_
      have hcz125_0 : w124.cell? ⟨gb176, 0, none⟩ = some (.int .i64 a0_0) := cC BK176 0
      have hcz125_1 : w124.cell? ⟨gb176, 1, none⟩ = some (.int .i64 a0_1) := cC BK176 1
      have hcz125_2 : w124.cell? ⟨gb176, 2, none⟩ = some (.slice A0_2 l0_2.length c0_2) := cC BK176 2
      have hcz125_3 : w124.cell? ⟨gb176, 3, none⟩ = some (.int .i64 a0_3) := cC BK176 3
      have hcz125_4 : w124.cell? ⟨gb176, 4, none⟩ = some (.int .i64 a0_4) := cC BK176 4
      have hcz125_5 : w124.cell? ⟨gb176, 5, none⟩ = some (.slice A0_5 l0_5.length c0_5) := cC BK176 5
      have hcz125_6 : w124.cell? ⟨gb176, 6, none⟩ = some (.int .i64 a0_6) := cC BK176 6
      have hcz125_7 : w124.cell? ⟨gb176, 7, none⟩ = some (.int .i64 a0_7) := cC BK176 7
      have hfz125_0 := blk_frozen BK176.out 0
      have hfz125_1 := blk_frozen BK176.out 1
      have hfz125_2 := blk_frozen BK176.out 2
      have hfz125_3 := blk_frozen BK176.out 3
      have hfz125_4 := blk_frozen BK176.out 4
      have hfz125_5 := blk_frozen BK176.out 5
      have hfz125_6 := blk_frozen BK176.out 6
      have hfz125_7 := blk_frozen BK176.out 7
      try go_wp2_with (first | ((with_reducible refine gate_callee (f := 30) rfl ?_); refine goesL_ (some 26) rfl rfl Try.func30 (by kernel_rfl) rfl #[.agg #[.int .i64 a0_0, .int .i64 a0_1, .slice A0_2 l0_2.length c0_2, .int .i64 a0_3, .int .i64 a0_4, .slice A0_5 l0_5.length c0_5, .int .i64 a0_6, .int .i64 a0_7]] rfl (by (try simp only [mA, mC, mN]); first | done | rfl | (simp only [lD, lT]; rfl)) ?_; (with_reducible refine (laws_toReport.calls k a0_0 a0_1 _ _ l0_2 a0_3 a0_4 _ _ l0_5 a0_6 a0_7 t205 t206 t207 t210 t211 t212 t215 t216 _ ?side1 ?side2 ?side3 ?side4 A22.out).mono ?_); (case side1 => exact qC (Kd.C_below HR0_2.out HB.out)); (case side2 => exact HC0_2.out); (case side3 => exact qC (Kd.C_below HR0_5.out HB.out)); (case side4 => exact HC0_5.out); rintro e w126 ⟨v208, v213, rfl, ho0, ho1, hb⟩; refine ⟨_, rfl, ?_⟩; have n0_ := tO (qR HO184) hb ho0 ho1; have n1_ := tO (qR HO189) hb ho0 ho1; have n2_ := tO (qR HO196) hb ho0 ho1; have n3_ := tO (qR HO201) hb ho0 ho1; have n4_ := Aside0.mk (Kd.R_lower (Kd.R_new' (Kd.R_new' (Kd.R_new' (Kd.R_new' ho0 (Kd.R_lt (qR HO184))) (Kd.R_lt (qR HO189))) (Kd.R_lt (qR HO196))) (Kd.R_lt (qR HO201))) (below_size (by repeat (with_reducible first | exact HB.out | apply bA | apply bN | apply bD | refine bS ?_ GE176.out | refine bS ?_ GE177.out)))); have n5_ := Aside0.mk (Kd.R_lower (Kd.R_new' (Kd.R_new' (Kd.R_new' (Kd.R_new' ho1 (Kd.R_lt (qR HO184))) (Kd.R_lt (qR HO189))) (Kd.R_lt (qR HO196))) (Kd.R_lt (qR HO201))) (below_size (by repeat (with_reducible first | exact HB.out | apply bA | apply bN | apply bD | refine bS ?_ GE176.out | refine bS ?_ GE177.out)))); have n6_ := Aside0.mk (blk_below (qK BK176) hb); have n7_ := Aside0.mk (blk_below (qK BK177) hb); have n8_ := Aside0.mk (below_step (by repeat (with_reducible first | exact HB.out | apply bA | apply bN | apply bD | refine bS ?_ GE176.out | refine bS ?_ GE177.out)) hb); clear HO184; clear HO189; clear HO196; clear HO201; clear BK176; clear BK177; clear HB; have HO184 := n0_; have HO189 := n1_; have HO196 := n2_; have HO201 := n3_; have HO209 := n4_; have HO214 := n5_; have BK176 := n6_; have BK177 := n7_; have HB := n8_; clear n0_ n1_ n2_ n3_ n4_ n5_ n6_ n7_ n8_; (try clear hb); (try clear hb2); (try clear hk); (try clear hi); (try clear ho0); (try clear ho1)) | ((with_reducible refine gate_dst (N := 7) rfl ?_); refine box_event ?hg (N := 7) ?hd (cs := #[.int .i64 0, .int .i64 0, .slice none 0 0, .int .i64 0, .int .i64 0, .slice none 0 0, .int .i64 0, .int .i64 0]) (t := 51) ?hr ?_; (case hd => rfl); (case hg => rfl); (case hr => first | (go_simp; done) | (go_simp; rfl)); intro gb217 hg w127 hbox hb; have n0_ := Aside0.mk (Kd.R_below (qR HO184) hb); have n1_ := Aside0.mk (Kd.R_below (qR HO189) hb); have n2_ := Aside0.mk (Kd.R_below (qR HO196) hb); have n3_ := Aside0.mk (Kd.R_below (qR HO201) hb); have n4_ := Aside0.mk (Kd.R_below (qR HO209) hb); have n5_ := Aside0.mk (Kd.R_below (qR HO214) hb); have n6_ := Aside0.mk (blk_below (qK BK176) hb); have n7_ := Aside0.mk (blk_below (qK BK177) hb); have n8_ := Aside0.mk (below_step (by repeat (with_reducible first | exact HB.out | apply bA | apply bN | apply bD | refine bS ?_ GE176.out | refine bS ?_ GE177.out)) hb); have n9_ := Aside0.mk (hbox); have n10_ := Aside0.mk ((by rw [hg]; exact (below_size (by repeat (with_reducible first | exact HB.out | apply bA | apply bN | apply bD | refine bS ?_ GE176.out | refine bS ?_ GE177.out))) : w.heap.size ≤ gb217)); have n11_ := Aside0.mk ((by rw [hg]; exact (below_size (by repeat (with_reducible first | exact HB.out | apply bA | apply bN | apply bD | refine bS ?_ GE176.out | refine bS ?_ GE177.out))) : w.heap.size ≤ gb217)); have n12_ := Aside0.mk ((by rw [hg]; exact Nat.ne_of_lt (blk_lt (qK BK176)) : gb176 ≠ gb217)); have n13_ := Aside0.mk ((by rw [hg]; exact Nat.ne_of_gt (blk_lt (qK BK176)) : gb217 ≠ gb176)); have n14_ := Aside0.mk ((by rw [hg]; exact Nat.ne_of_lt (blk_lt (qK BK177)) : gb177 ≠ gb217)); have n15_ := Aside0.mk ((by rw [hg]; exact Nat.ne_of_gt (blk_lt (qK BK177)) : gb217 ≠ gb177)); clear HO184; clear HO189; clear HO196; clear HO201; clear HO209; clear HO214; clear BK176; clear BK177; clear HB; have HO184 := n0_; have HO189 := n1_; have HO196 := n2_; have HO201 := n3_; have HO209 := n4_; have HO214 := n5_; have BK176 := n6_; have BK177 := n7_; have HB := n8_; have BK217 := n9_; have GW217 := n10_; have GE217 := n11_; have NB176_217 := n12_; have NB217_176 := n13_; have NB177_217 := n14_; have NB217_177 := n15_; clear n0_ n1_ n2_ n3_ n4_ n5_ n6_ n7_ n8_ n9_ n10_ n11_ n12_ n13_ n14_ n15_; clear hb hbox hg; have hnb128 := NB217_176.out; have hnc128 := NB176_217.out; have hnb129 := NB217_177.out; have hnc129 := NB177_217.out; have hcz130_0 : w127.cell? ⟨gb217, 0, none⟩ = some (.int .i64 0) := cC BK217 0; have hcz130_1 : w127.cell? ⟨gb217, 1, none⟩ = some (.int .i64 0) := cC BK217 1; have hcz130_2 : w127.cell? ⟨gb217, 2, none⟩ = some (.slice none 0 0) := cC BK217 2; have hcz130_3 : w127.cell? ⟨gb217, 3, none⟩ = some (.int .i64 0) := cC BK217 3; have hcz130_4 : w127.cell? ⟨gb217, 4, none⟩ = some (.int .i64 0) := cC BK217 4; have hcz130_5 : w127.cell? ⟨gb217, 5, none⟩ = some (.slice none 0 0) := cC BK217 5; have hcz130_6 : w127.cell? ⟨gb217, 6, none⟩ = some (.int .i64 0) := cC BK217 6; have hcz130_7 : w127.cell? ⟨gb217, 7, none⟩ = some (.int .i64 0) := cC BK217 7; have hfz130_0 := blk_frozen BK217.out 0; have hfz130_1 := blk_frozen BK217.out 1; have hfz130_2 := blk_frozen BK217.out 2; have hfz130_3 := blk_frozen BK217.out 3; have hfz130_4 := blk_frozen BK217.out 4; have hfz130_5 := blk_frozen BK217.out 5; have hfz130_6 := blk_frozen BK217.out 6; have hfz130_7 := blk_frozen BK217.out 7; obtain ⟨Ao131, co131, eo131⟩ := Kd.R_slice HO209.out; subst eo131; obtain ⟨Ao132, co132, eo132⟩ := Kd.R_slice HO214.out; subst eo132; have hcz133_0 : w127.cell? ⟨gb177, 0, none⟩ = some (.int .i64 a1_0) := cC BK177 0; have hcz133_1 : w127.cell? ⟨gb177, 1, none⟩ = some (.int .i64 a1_1) := cC BK177 1; have hcz133_2 : w127.cell? ⟨gb177, 2, none⟩ = some (.slice A1_2 l1_2.length c1_2) := cC BK177 2; have hcz133_3 : w127.cell? ⟨gb177, 3, none⟩ = some (.int .i64 a1_3) := cC BK177 3; have hcz133_4 : w127.cell? ⟨gb177, 4, none⟩ = some (.int .i64 a1_4) := cC BK177 4; have hcz133_5 : w127.cell? ⟨gb177, 5, none⟩ = some (.slice A1_5 l1_5.length c1_5) := cC BK177 5; have hcz133_6 : w127.cell? ⟨gb177, 6, none⟩ = some (.int .i64 a1_6) := cC BK177 6; have hcz133_7 : w127.cell? ⟨gb177, 7, none⟩ = some (.int .i64 a1_7) := cC BK177 7; have hfz133_0 := blk_frozen BK177.out 0; have hfz133_1 := blk_frozen BK177.out 1; have hfz133_2 := blk_frozen BK177.out 2; have hfz133_3 := blk_frozen BK177.out 3; have hfz133_4 := blk_frozen BK177.out 4; have hfz133_5 := blk_frozen BK177.out 5; have hfz133_6 := blk_frozen BK177.out 6; have hfz133_7 := blk_frozen BK177.out 7) | ((with_reducible refine gate_callee (f := 30) rfl ?_); refine goesL_ (some 28) rfl rfl Try.func30 (by kernel_rfl) rfl #[.agg #[.int .i64 a1_0, .int .i64 a1_1, .slice A1_2 l1_2.length c1_2, .int .i64 a1_3, .int .i64 a1_4, .slice A1_5 l1_5.length c1_5, .int .i64 a1_6, .int .i64 a1_7]] rfl (by (try simp only [mA, mC, mN]); first | done | rfl | (simp only [lD, lT]; rfl)) ?_; (with_reducible refine (laws_toReport.calls k a1_0 a1_1 _ _ l1_2 a1_3 a1_4 _ _ l1_5 a1_6 a1_7 t218 t219 t220 t223 t224 t225 t228 t229 _ ?side1 ?side2 ?side3 ?side4 A23.out).mono ?_); (case side1 => exact Kd.C_below HR1_2.out (by repeat (with_reducible first | exact HB.out | apply bA | apply bN | apply bD | refine bS ?_ GE176.out | refine bS ?_ GE177.out | refine bS ?_ GE217.out))); (case side2 => exact HC1_2.out); (case side3 => exact Kd.C_below HR1_5.out (by repeat (with_reducible first | exact HB.out | apply bA | apply bN | apply bD | refine bS ?_ GE176.out | refine bS ?_ GE177.out | refine bS ?_ GE217.out))); (case side4 => exact HC1_5.out); rintro e w134 ⟨v221, v226, rfl, ho0, ho1, hb⟩; refine ⟨_, rfl, ?_⟩; have n0_ := tO (by (with_reducible repeat first | apply rA | apply rN | apply rD); exact (far8 HO184 BK217)) hb ho0 ho1; have n1_ := tO (by (with_reducible repeat first | apply rA | apply rN | apply rD); exact (far8 HO189 BK217)) hb ho0 ho1; have n2_ := tO (by (with_reducible repeat first | apply rA | apply rN | apply rD); exact (far8 HO196 BK217)) hb ho0 ho1; have n3_ := tO (by (with_reducible repeat first | apply rA | apply rN | apply rD); exact (far8 HO201 BK217)) hb ho0 ho1; have n4_ := tO (by (with_reducible repeat first | apply rA | apply rN | apply rD); exact (far8 HO209 BK217)) hb ho0 ho1; have n5_ := tO (by (with_reducible repeat first | apply rA | apply rN | apply rD); exact (far8 HO214 BK217)) hb ho0 ho1; have n6_ := Aside0.mk (Kd.R_lower (Kd.R_new' (Kd.R_new' (Kd.R_new' (Kd.R_new' (Kd.R_new' (Kd.R_new' ho0 (Kd.R_lt (by (with_reducible repeat first | apply rA | apply rN | apply rD); exact (far8 HO184 BK217)))) (Kd.R_lt (by (with_reducible repeat first | apply rA | apply rN | apply rD); exact (far8 HO189 BK217)))) (Kd.R_lt (by (with_reducible repeat first | apply rA | apply rN | apply rD); exact (far8 HO196 BK217)))) (Kd.R_lt (by (with_reducible repeat first | apply rA | apply rN | apply rD); exact (far8 HO201 BK217)))) (Kd.R_lt (by (with_reducible repeat first | apply rA | apply rN | apply rD); exact (far8 HO209 BK217)))) (Kd.R_lt (by (with_reducible repeat first | apply rA | apply rN | apply rD); exact (far8 HO214 BK217)))) (below_size (by repeat (with_reducible first | exact HB.out | apply bA | apply bN | apply bD | refine bS ?_ GE176.out | refine bS ?_ GE177.out | refine bS ?_ GE217.out)))); have n7_ := Aside0.mk (Kd.R_lower (Kd.R_new' (Kd.R_new' (Kd.R_new' (Kd.R_new' (Kd.R_new' (Kd.R_new' ho1 (Kd.R_lt (by (with_reducible repeat first | apply rA | apply rN | apply rD); exact (far8 HO184 BK217)))) (Kd.R_lt (by (with_reducible repeat first | apply rA | apply rN | apply rD); exact (far8 HO189 BK217)))) (Kd.R_lt (by (with_reducible repeat first | apply rA | apply rN | apply rD); exact (far8 HO196 BK217)))) (Kd.R_lt (by (with_reducible repeat first | apply rA | apply rN | apply rD); exact (far8 HO201 BK217)))) (Kd.R_lt (by (with_reducible repeat first | apply rA | apply rN | apply rD); exact (far8 HO209 BK217)))) (Kd.R_lt (by (with_reducible repeat first | apply rA | apply rN | apply rD); exact (far8 HO214 BK217)))) (below_size (by repeat (with_reducible first | exact HB.out | apply bA | apply bN | apply bD | refine bS ?_ GE176.out | refine bS ?_ GE177.out | refine bS ?_ GE217.out)))); have n8_ := Aside0.mk (blk_below (g := gb176) (o := .cells #[.int .i64 a0_0, .int .i64 a0_1, .slice A0_2 l0_2.length c0_2, .int .i64 a0_3, .int .i64 a0_4, .slice A0_5 l0_5.length c0_5, .int .i64 a0_6, .int .i64 a0_7] 46 (0, 0)) (by (with_reducible repeat first | refine kN ?_ _ | refine kD ?_ | refine kA ?_ _); exact blk8 BK176.out NB176_217) hb); have n9_ := Aside0.mk (blk_below (g := gb177) (o := .cells #[.int .i64 a1_0, .int .i64 a1_1, .slice A1_2 l1_2.length c1_2, .int .i64 a1_3, .int .i64 a1_4, .slice A1_5 l1_5.length c1_5, .int .i64 a1_6, .int .i64 a1_7] 46 (0, 0)) (by (with_reducible repeat first | refine kN ?_ _ | refine kD ?_ | refine kA ?_ _); exact blk8 BK177.out NB177_217) hb); have n10_ := Aside0.mk (blk_below (g := gb217) (o := .cells #[.int .i64 t205, .int .i64 t206, .slice Ao131 t207.length co131, .int .i64 t210, .int .i64 t211, .slice Ao132 t212.length co132, .int .i64 t215, .int .i64 t216] 51 (0, 0)) (by (with_reducible repeat first | refine kN ?_ _ | refine kD ?_ | refine kA ?_ _); refine blk_put (cs := #[.int .i64 t205, .int .i64 t206, .slice Ao131 t207.length co131, .int .i64 t210, .int .i64 t211, .slice Ao132 t212.length co132, .int .i64 t215, .int .i64 0]) ?_ 7 _ rfl; (with_reducible repeat first | refine kN ?_ _ | refine kD ?_ | refine kA ?_ _); refine blk_put (cs := #[.int .i64 t205, .int .i64 t206, .slice Ao131 t207.length co131, .int .i64 t210, .int .i64 t211, .slice Ao132 t212.length co132, .int .i64 0, .int .i64 0]) ?_ 6 _ rfl; (with_reducible repeat first | refine kN ?_ _ | refine kD ?_ | refine kA ?_ _); refine blk_put (cs := #[.int .i64 t205, .int .i64 t206, .slice Ao131 t207.length co131, .int .i64 t210, .int .i64 t211, .slice none 0 0, .int .i64 0, .int .i64 0]) ?_ 5 _ rfl; (with_reducible repeat first | refine kN ?_ _ | refine kD ?_ | refine kA ?_ _); refine blk_put (cs := #[.int .i64 t205, .int .i64 t206, .slice Ao131 t207.length co131, .int .i64 t210, .int .i64 0, .slice none 0 0, .int .i64 0, .int .i64 0]) ?_ 4 _ rfl; (with_reducible repeat first | refine kN ?_ _ | refine kD ?_ | refine kA ?_ _); refine blk_put (cs := #[.int .i64 t205, .int .i64 t206, .slice Ao131 t207.length co131, .int .i64 0, .int .i64 0, .slice none 0 0, .int .i64 0, .int .i64 0]) ?_ 3 _ rfl; (with_reducible repeat first | refine kN ?_ _ | refine kD ?_ | refine kA ?_ _); refine blk_put (cs := #[.int .i64 t205, .int .i64 t206, .slice none 0 0, .int .i64 0, .int .i64 0, .slice none 0 0, .int .i64 0, .int .i64 0]) ?_ 2 _ rfl; (with_reducible repeat first | refine kN ?_ _ | refine kD ?_ | refine kA ?_ _); refine blk_put (cs := #[.int .i64 t205, .int .i64 0, .slice none 0 0, .int .i64 0, .int .i64 0, .slice none 0 0, .int .i64 0, .int .i64 0]) ?_ 1 _ rfl; (with_reducible repeat first | refine kN ?_ _ | refine kD ?_ | refine kA ?_ _); refine blk_put (cs := #[.int .i64 0, .int .i64 0, .slice none 0 0, .int .i64 0, .int .i64 0, .slice none 0 0, .int .i64 0, .int .i64 0]) ?_ 0 _ rfl; (with_reducible repeat first | refine kN ?_ _ | refine kD ?_ | refine kA ?_ _); exact BK217.out) hb); have n11_ := Aside0.mk (below_step (by repeat (with_reducible first | exact HB.out | apply bA | apply bN | apply bD | refine bS ?_ GE176.out | refine bS ?_ GE177.out | refine bS ?_ GE217.out)) hb); clear HO184; clear HO189; clear HO196; clear HO201; clear HO209; clear HO214; clear BK176; clear BK177; clear BK217; clear HB; have HO184 := n0_; have HO189 := n1_; have HO196 := n2_; have HO201 := n3_; have HO209 := n4_; have HO214 := n5_; have HO222 := n6_; have HO227 := n7_; have BK176 := n8_; have BK177 := n9_; have BK217 := n10_; have HB := n11_; clear n0_ n1_ n2_ n3_ n4_ n5_ n6_ n7_ n8_ n9_ n10_ n11_; (try clear hb); (try clear hb2); (try clear hk); (try clear hi); (try clear ho0); (try clear ho1)) | ((with_reducible refine gate_dst (N := 8) rfl ?_); refine box_event ?hg (N := 8) ?hd (cs := #[.int .i64 0, .int .i64 0, .slice none 0 0, .int .i64 0, .int .i64 0, .slice none 0 0, .int .i64 0, .int .i64 0]) (t := 51) ?hr ?_; (case hd => rfl); (case hg => rfl); (case hr => first | (go_simp; done) | (go_simp; rfl)); intro gb230 hg w135 hbox hb; have n0_ := Aside0.mk (Kd.R_below (qR HO184) hb); have n1_ := Aside0.mk (Kd.R_below (qR HO189) hb); have n2_ := Aside0.mk (Kd.R_below (qR HO196) hb); have n3_ := Aside0.mk (Kd.R_below (qR HO201) hb); have n4_ := Aside0.mk (Kd.R_below (qR HO209) hb); have n5_ := Aside0.mk (Kd.R_below (qR HO214) hb); have n6_ := Aside0.mk (Kd.R_below (qR HO222) hb); have n7_ := Aside0.mk (Kd.R_below (qR HO227) hb); have n8_ := Aside0.mk (blk_below (qK BK176) hb); have n9_ := Aside0.mk (blk_below (qK BK177) hb); have n10_ := Aside0.mk (blk_below (qK BK217) hb); have n11_ := Aside0.mk (below_step (by repeat (with_reducible first | exact HB.out | apply bA | apply bN | apply bD | refine bS ?_ GE176.out | refine bS ?_ GE177.out | refine bS ?_ GE217.out)) hb); have n12_ := Aside0.mk (hbox); have n13_ := Aside0.mk ((by rw [hg]; exact (below_size (by repeat (with_reducible first | exact HB.out | apply bA | apply bN | apply bD | refine bS ?_ GE176.out | refine bS ?_ GE177.out | refine bS ?_ GE217.out))) : w.heap.size ≤ gb230)); have n14_ := Aside0.mk ((by rw [hg]; exact (below_size (by repeat (with_reducible first | exact HB.out | apply bA | apply bN | apply bD | refine bS ?_ GE176.out | refine bS ?_ GE177.out | refine bS ?_ GE217.out))) : w.heap.size ≤ gb230)); have n15_ := Aside0.mk ((by rw [hg]; exact Nat.ne_of_lt (blk_lt (qK BK176)) : gb176 ≠ gb230)); have n16_ := Aside0.mk ((by rw [hg]; exact Nat.ne_of_gt (blk_lt (qK BK176)) : gb230 ≠ gb176)); have n17_ := Aside0.mk ((by rw [hg]; exact Nat.ne_of_lt (blk_lt (qK BK177)) : gb177 ≠ gb230)); have n18_ := Aside0.mk ((by rw [hg]; exact Nat.ne_of_gt (blk_lt (qK BK177)) : gb230 ≠ gb177)); have n19_ := Aside0.mk ((by rw [hg]; exact Nat.ne_of_lt (blk_lt (qK BK217)) : gb217 ≠ gb230)); have n20_ := Aside0.mk ((by rw [hg]; exact Nat.ne_of_gt (blk_lt (qK BK217)) : gb230 ≠ gb217)); clear HO184; clear HO189; clear HO196; clear HO201; clear HO209; clear HO214; clear HO222; clear HO227; clear BK176; clear BK177; clear BK217; clear HB; have HO184 := n0_; have HO189 := n1_; have HO196 := n2_; have HO201 := n3_; have HO209 := n4_; have HO214 := n5_; have HO222 := n6_; have HO227 := n7_; have BK176 := n8_; have BK177 := n9_; have BK217 := n10_; have HB := n11_; have BK230 := n12_; have GW230 := n13_; have GE230 := n14_; have NB176_230 := n15_; have NB230_176 := n16_; have NB177_230 := n17_; have NB230_177 := n18_; have NB217_230 := n19_; have NB230_217 := n20_; clear n0_ n1_ n2_ n3_ n4_ n5_ n6_ n7_ n8_ n9_ n10_ n11_ n12_ n13_ n14_ n15_ n16_ n17_ n18_ n19_ n20_; clear hb hbox hg; have hnb136 := NB230_176.out; have hnc136 := NB176_230.out; have hnb137 := NB230_177.out; have hnc137 := NB177_230.out; have hnb138 := NB230_217.out; have hnc138 := NB217_230.out; have hcz139_0 : w135.cell? ⟨gb230, 0, none⟩ = some (.int .i64 0) := cC BK230 0; have hcz139_1 : w135.cell? ⟨gb230, 1, none⟩ = some (.int .i64 0) := cC BK230 1; have hcz139_2 : w135.cell? ⟨gb230, 2, none⟩ = some (.slice none 0 0) := cC BK230 2; have hcz139_3 : w135.cell? ⟨gb230, 3, none⟩ = some (.int .i64 0) := cC BK230 3; have hcz139_4 : w135.cell? ⟨gb230, 4, none⟩ = some (.int .i64 0) := cC BK230 4; have hcz139_5 : w135.cell? ⟨gb230, 5, none⟩ = some (.slice none 0 0) := cC BK230 5; have hcz139_6 : w135.cell? ⟨gb230, 6, none⟩ = some (.int .i64 0) := cC BK230 6; have hcz139_7 : w135.cell? ⟨gb230, 7, none⟩ = some (.int .i64 0) := cC BK230 7; have hfz139_0 := blk_frozen BK230.out 0; have hfz139_1 := blk_frozen BK230.out 1; have hfz139_2 := blk_frozen BK230.out 2; have hfz139_3 := blk_frozen BK230.out 3; have hfz139_4 := blk_frozen BK230.out 4; have hfz139_5 := blk_frozen BK230.out 5; have hfz139_6 := blk_frozen BK230.out 6; have hfz139_7 := blk_frozen BK230.out 7; obtain ⟨Ao140, co140, eo140⟩ := Kd.R_slice HO222.out; subst eo140; obtain ⟨Ao141, co141, eo141⟩ := Kd.R_slice HO227.out; subst eo141; have hcz142_0 : w135.cell? ⟨gb217, 0, none⟩ = some (.int .i64 t205) := cC BK217 0; have hcz142_1 : w135.cell? ⟨gb217, 1, none⟩ = some (.int .i64 t206) := cC BK217 1; have hcz142_2 : w135.cell? ⟨gb217, 2, none⟩ = some (.slice Ao131 t207.length co131) := cC BK217 2; have hcz142_3 : w135.cell? ⟨gb217, 3, none⟩ = some (.int .i64 t210) := cC BK217 3; have hcz142_4 : w135.cell? ⟨gb217, 4, none⟩ = some (.int .i64 t211) := cC BK217 4; have hcz142_5 : w135.cell? ⟨gb217, 5, none⟩ = some (.slice Ao132 t212.length co132) := cC BK217 5; have hcz142_6 : w135.cell? ⟨gb217, 6, none⟩ = some (.int .i64 t215) := cC BK217 6; have hcz142_7 : w135.cell? ⟨gb217, 7, none⟩ = some (.int .i64 t216) := cC BK217 7; have hfz142_0 := blk_frozen BK217.out 0; have hfz142_1 := blk_frozen BK217.out 1; have hfz142_2 := blk_frozen BK217.out 2; have hfz142_3 := blk_frozen BK217.out 3; have hfz142_4 := blk_frozen BK217.out 4; have hfz142_5 := blk_frozen BK217.out 5; have hfz142_6 := blk_frozen BK217.out 6; have hfz142_7 := blk_frozen BK217.out 7) | ((with_reducible refine gate_callee (f := 31) rfl ?_); refine goesL_ (some 31) rfl rfl Try.func31 (by kernel_rfl) rfl #[.agg #[.int .i64 t205, .int .i64 t206, .slice Ao131 t207.length co131, .int .i64 t210, .int .i64 t211, .slice Ao132 t212.length co132, .int .i64 t215, .int .i64 t216], .agg #[.int .i64 t218, .int .i64 t219, .slice Ao140 t220.length co140, .int .i64 t223, .int .i64 t224, .slice Ao141 t225.length co141, .int .i64 t228, .int .i64 t229]] rfl (by (try simp only [mA, mC, mN]); first | done | rfl | (simp only [lD, lT]; rfl)) ?_; (with_reducible refine (impl_IsWider.calls k t205 t206 _ _ t207 t210 t211 _ _ t212 t215 t216 t218 t219 _ _ t220 t223 t224 _ _ t225 t228 t229 t231 _ ?side1 ?side2 ?side3 ?side4 ?side5 ?side6 ?side7 ?side8 A24.out).mono ?_); (case side1 => refine (Kd.R_reads' (e := 3) (base := w.heap.size) (ok := fun k_ => ((((((some k_ ≠ (.slice Ao132 t212.length co132 : Value).ownBlock ∧ some k_ ≠ (.slice Ao120 t182.length co120 : Value).ownBlock) ∧ some k_ ≠ (.slice Ao121 t187.length co121 : Value).ownBlock) ∧ some k_ ≠ (.slice Ao122 t194.length co122 : Value).ownBlock) ∧ some k_ ≠ (.slice Ao123 t199.length co123 : Value).ownBlock) ∧ some k_ ≠ (.slice Ao140 t220.length co140 : Value).ownBlock) ∧ some k_ ≠ (.slice Ao141 t225.length co141 : Value).ownBlock)) (n := t207.length) (c := co131) ?_).2.2; exact (by (with_reducible repeat first | apply rA | apply rN | apply rD); exact (far8 HO209 BK230))); (case side2 => exact (Kd.R_reads' HO209.out).2.1); (case side3 => refine (Kd.R_reads' (e := 3) (base := w.heap.size) (ok := fun k_ => ((((((some k_ ≠ (.slice Ao131 t207.length co131 : Value).ownBlock ∧ some k_ ≠ (.slice Ao120 t182.length co120 : Value).ownBlock) ∧ some k_ ≠ (.slice Ao121 t187.length co121 : Value).ownBlock) ∧ some k_ ≠ (.slice Ao122 t194.length co122 : Value).ownBlock) ∧ some k_ ≠ (.slice Ao123 t199.length co123 : Value).ownBlock) ∧ some k_ ≠ (.slice Ao140 t220.length co140 : Value).ownBlock) ∧ some k_ ≠ (.slice Ao141 t225.length co141 : Value).ownBlock)) (n := t212.length) (c := co132) ?_).2.2; exact (by (with_reducible repeat first | apply rA | apply rN | apply rD); exact (far8 HO214 BK230))); (case side4 => exact (Kd.R_reads' HO214.out).2.1); (case side5 => refine (Kd.R_reads' (e := 3) (base := w.heap.size) (ok := fun k_ => ((((((some k_ ≠ (.slice Ao141 t225.length co141 : Value).ownBlock ∧ some k_ ≠ (.slice Ao120 t182.length co120 : Value).ownBlock) ∧ some k_ ≠ (.slice Ao121 t187.length co121 : Value).ownBlock) ∧ some k_ ≠ (.slice Ao122 t194.length co122 : Value).ownBlock) ∧ some k_ ≠ (.slice Ao123 t199.length co123 : Value).ownBlock) ∧ some k_ ≠ (.slice Ao131 t207.length co131 : Value).ownBlock) ∧ some k_ ≠ (.slice Ao132 t212.length co132 : Value).ownBlock)) (n := t220.length) (c := co140) ?_).2.2; exact (by (with_reducible repeat first | apply rA | apply rN | apply rD); exact (far8 HO222 BK230))); (case side6 => exact (Kd.R_reads' HO222.out).2.1); (case side7 => refine (Kd.R_reads' (e := 3) (base := w.heap.size) (ok := fun k_ => ((((((some k_ ≠ (.slice Ao140 t220.length co140 : Value).ownBlock ∧ some k_ ≠ (.slice Ao120 t182.length co120 : Value).ownBlock) ∧ some k_ ≠ (.slice Ao121 t187.length co121 : Value).ownBlock) ∧ some k_ ≠ (.slice Ao122 t194.length co122 : Value).ownBlock) ∧ some k_ ≠ (.slice Ao123 t199.length co123 : Value).ownBlock) ∧ some k_ ≠ (.slice Ao131 t207.length co131 : Value).ownBlock) ∧ some k_ ≠ (.slice Ao132 t212.length co132 : Value).ownBlock)) (n := t225.length) (c := co141) ?_).2.2; exact (by (with_reducible repeat first | apply rA | apply rN | apply rD); exact (far8 HO227 BK230))); (case side8 => exact (Kd.R_reads' HO227.out).2.1); rintro e w143 ⟨rfl, hb⟩; refine ⟨_, rfl, ?_⟩; have n0_ := Aside0.mk (Kd.R_below (by (with_reducible repeat first | apply rA | apply rN | apply rD); exact (far8 HO184 BK230)) hb); have n1_ := Aside0.mk (Kd.R_below (by (with_reducible repeat first | apply rA | apply rN | apply rD); exact (far8 HO189 BK230)) hb); have n2_ := Aside0.mk (Kd.R_below (by (with_reducible repeat first | apply rA | apply rN | apply rD); exact (far8 HO196 BK230)) hb); have n3_ := Aside0.mk (Kd.R_below (by (with_reducible repeat first | apply rA | apply rN | apply rD); exact (far8 HO201 BK230)) hb); have n4_ := Aside0.mk (Kd.R_below (by (with_reducible repeat first | apply rA | apply rN | apply rD); exact (far8 HO209 BK230)) hb); have n5_ := Aside0.mk (Kd.R_below (by (with_reducible repeat first | apply rA | apply rN | apply rD); exact (far8 HO214 BK230)) hb); have n6_ := Aside0.mk (Kd.R_below (by (with_reducible repeat first | apply rA | apply rN | apply rD); exact (far8 HO222 BK230)) hb); have n7_ := Aside0.mk (Kd.R_below (by (with_reducible repeat first | apply rA | apply rN | apply rD); exact (far8 HO227 BK230)) hb); have n8_ := Aside0.mk (blk_below (g := gb176) (o := .cells #[.int .i64 a0_0, .int .i64 a0_1, .slice A0_2 l0_2.length c0_2, .int .i64 a0_3, .int .i64 a0_4, .slice A0_5 l0_5.length c0_5, .int .i64 a0_6, .int .i64 a0_7] 46 (0, 0)) (by (with_reducible repeat first | refine kN ?_ _ | refine kD ?_ | refine kA ?_ _); exact blk8 BK176.out NB176_230) hb); have n9_ := Aside0.mk (blk_below (g := gb177) (o := .cells #[.int .i64 a1_0, .int .i64 a1_1, .slice A1_2 l1_2.length c1_2, .int .i64 a1_3, .int .i64 a1_4, .slice A1_5 l1_5.length c1_5, .int .i64 a1_6, .int .i64 a1_7] 46 (0, 0)) (by (with_reducible repeat first | refine kN ?_ _ | refine kD ?_ | refine kA ?_ _); exact blk8 BK177.out NB177_230) hb); have n10_ := Aside0.mk (blk_below (g := gb217) (o := .cells #[.int .i64 t205, .int .i64 t206, .slice Ao131 t207.length co131, .int .i64 t210, .int .i64 t211, .slice Ao132 t212.length co132, .int .i64 t215, .int .i64 t216] 51 (0, 0)) (by (with_reducible repeat first | refine kN ?_ _ | refine kD ?_ | refine kA ?_ _); exact blk8 BK217.out NB217_230) hb); have n11_ := Aside0.mk (blk_below (g := gb230) (o := .cells #[.int .i64 t218, .int .i64 t219, .slice Ao140 t220.length co140, .int .i64 t223, .int .i64 t224, .slice Ao141 t225.length co141, .int .i64 t228, .int .i64 t229] 51 (0, 0)) (by (with_reducible repeat first | refine kN ?_ _ | refine kD ?_ | refine kA ?_ _); refine blk_put (cs := #[.int .i64 t218, .int .i64 t219, .slice Ao140 t220.length co140, .int .i64 t223, .int .i64 t224, .slice Ao141 t225.length co141, .int .i64 t228, .int .i64 0]) ?_ 7 _ rfl; (with_reducible repeat first | refine kN ?_ _ | refine kD ?_ | refine kA ?_ _); refine blk_put (cs := #[.int .i64 t218, .int .i64 t219, .slice Ao140 t220.length co140, .int .i64 t223, .int .i64 t224, .slice Ao141 t225.length co141, .int .i64 0, .int .i64 0]) ?_ 6 _ rfl; (with_reducible repeat first | refine kN ?_ _ | refine kD ?_ | refine kA ?_ _); refine blk_put (cs := #[.int .i64 t218, .int .i64 t219, .slice Ao140 t220.length co140, .int .i64 t223, .int .i64 t224, .slice none 0 0, .int .i64 0, .int .i64 0]) ?_ 5 _ rfl; (with_reducible repeat first | refine kN ?_ _ | refine kD ?_ | refine kA ?_ _); refine blk_put (cs := #[.int .i64 t218, .int .i64 t219, .slice Ao140 t220.length co140, .int .i64 t223, .int .i64 0, .slice none 0 0, .int .i64 0, .int .i64 0]) ?_ 4 _ rfl; (with_reducible repeat first | refine kN ?_ _ | refine kD ?_ | refine kA ?_ _); refine blk_put (cs := #[.int .i64 t218, .int .i64 t219, .slice Ao140 t220.length co140, .int .i64 0, .int .i64 0, .slice none 0 0, .int .i64 0, .int .i64 0]) ?_ 3 _ rfl; (with_reducible repeat first | refine kN ?_ _ | refine kD ?_ | refine kA ?_ _); refine blk_put (cs := #[.int .i64 t218, .int .i64 t219, .slice none 0 0, .int .i64 0, .int .i64 0, .slice none 0 0, .int .i64 0, .int .i64 0]) ?_ 2 _ rfl; (with_reducible repeat first | refine kN ?_ _ | refine kD ?_ | refine kA ?_ _); refine blk_put (cs := #[.int .i64 t218, .int .i64 0, .slice none 0 0, .int .i64 0, .int .i64 0, .slice none 0 0, .int .i64 0, .int .i64 0]) ?_ 1 _ rfl; (with_reducible repeat first | refine kN ?_ _ | refine kD ?_ | refine kA ?_ _); refine blk_put (cs := #[.int .i64 0, .int .i64 0, .slice none 0 0, .int .i64 0, .int .i64 0, .slice none 0 0, .int .i64 0, .int .i64 0]) ?_ 0 _ rfl; (with_reducible repeat first | refine kN ?_ _ | refine kD ?_ | refine kA ?_ _); exact BK230.out) hb); have n12_ := Aside0.mk (below_step (by repeat (with_reducible first | exact HB.out | apply bA | apply bN | apply bD | refine bS ?_ GE176.out | refine bS ?_ GE177.out | refine bS ?_ GE217.out | refine bS ?_ GE230.out)) hb); clear HO184; clear HO189; clear HO196; clear HO201; clear HO209; clear HO214; clear HO222; clear HO227; clear BK176; clear BK177; clear BK217; clear BK230; clear HB; have HO184 := n0_; have HO189 := n1_; have HO196 := n2_; have HO201 := n3_; have HO209 := n4_; have HO214 := n5_; have HO222 := n6_; have HO227 := n7_; have BK176 := n8_; have BK177 := n9_; have BK217 := n10_; have BK230 := n11_; have HB := n12_; clear n0_ n1_ n2_ n3_ n4_ n5_ n6_ n7_ n8_ n9_ n10_ n11_ n12_; (try clear hb); (try clear hb2); (try clear hk); (try clear hi)))
      have n0_ := Aside0.mk (Kd.R_drew HO184.out)
      have n1_ := Aside0.mk (Kd.R_drew HO189.out)
      have n2_ := Aside0.mk (Kd.R_drew HO196.out)
      have n3_ := Aside0.mk (Kd.R_drew HO201.out)
      have n4_ := Aside0.mk (Kd.R_drew HO209.out)
      have n5_ := Aside0.mk (Kd.R_drew HO214.out)
      have n6_ := Aside0.mk (Kd.R_drew HO222.out)
      have n7_ := Aside0.mk (Kd.R_drew HO227.out)
      have n8_ := Aside0.mk (blk_drew BK176.out)
      have n9_ := Aside0.mk (blk_drew BK177.out)
      have n10_ := Aside0.mk (blk_drew BK217.out)
      have n11_ := Aside0.mk (blk_drew BK230.out)
      have n12_ := Aside0.mk (below_drew1 HB.out)
      clear HO184
      clear HO189
      clear HO196
      clear HO201
      clear HO209
      clear HO214
      clear HO222
      clear HO227
      clear BK176
      clear BK177
      clear BK217
      clear BK230
      clear HB
      have HO184 := n0_
      have HO189 := n1_
      have HO196 := n2_
      have HO201 := n3_
      have HO209 := n4_
      have HO214 := n5_
      have HO222 := n6_
      have HO227 := n7_
      have BK176 := n8_
      have BK177 := n9_
      have BK217 := n10_
      have BK230 := n11_
      have HB := n12_
      clear n0_ n1_ n2_ n3_ n4_ n5_ n6_ n7_ n8_ n9_ n10_ n11_ n12_
      refine start_ (n := 5) (S := fun w' => w'.cell? ⟨gb217, 0, none⟩ = some (.int .i64 t205) ∧ w'.cell? ⟨gb217, 1, none⟩ = some (.int .i64 t206) ∧ w'.cell? ⟨gb217, 2, none⟩ = some (.slice Ao131 t207.length co131) ∧ w'.cell? ⟨gb217, 3, none⟩ = some (.int .i64 t210) ∧ w'.cell? ⟨gb217, 4, none⟩ = some (.int .i64 t211) ∧ w'.cell? ⟨gb217, 5, none⟩ = some (.slice Ao132 t212.length co132) ∧ w'.cell? ⟨gb217, 6, none⟩ = some (.int .i64 t215) ∧ w'.cell? ⟨gb217, 7, none⟩ = some (.int .i64 t216) ∧ w'.cell? ⟨gb176, 0, none⟩ = some (.int .i64 a0_0) ∧ w'.cell? ⟨gb176, 1, none⟩ = some (.int .i64 a0_1) ∧ w'.cell? ⟨gb176, 2, none⟩ = some (.slice A0_2 l0_2.length c0_2) ∧ w'.cell? ⟨gb176, 3, none⟩ = some (.int .i64 a0_3) ∧ w'.cell? ⟨gb176, 4, none⟩ = some (.int .i64 a0_4) ∧ w'.cell? ⟨gb176, 5, none⟩ = some (.slice A0_5 l0_5.length c0_5) ∧ w'.cell? ⟨gb176, 6, none⟩ = some (.int .i64 a0_6) ∧ w'.cell? ⟨gb176, 7, none⟩ = some (.int .i64 a0_7)) (ds := []) #[false, false, false, false, false] (by kernel_rfl) rfl rfl ⟨cC BK217 0, cC BK217 1, cC BK217 2, cC BK217 3, cC BK217 4, cC BK217 5, cC BK217 6, cC BK217 7, cC BK176 0, cC BK176 1, cC BK176 2, cC BK176 3, cC BK176 4, cC BK176 5, cC BK176 6, cC BK176 7⟩ (fun hHeld => ?_)
      generalize w143.drew = w144 at HO184 HO189 HO196 HO201 HO209 HO214 HO222 HO227 BK176 BK177 BK217 BK230 HB hHeld ⊢
      refine take_ (i := 0) (N := some 35) (v := ?_) (a' := ?_) #[true, false, false, false, false] rfl rfl (by kernel_rfl) (fun _ _ _ h => h) (Or.inl ⟨by rfl, ?_⟩) hHeld ?_ ?_
      rotate_left; (rintro w' ⟨s0, s1, s2, s3, s4, s5, s6, s7, s8, s9, s10, s11, s12, s13, s14, s15⟩; go_simp; with_reducible rfl); rotate_left; (simp only [Act.put, sA, sZ, sS, i64_w]; rfl)
      refine take_ (i := 1) (N := some 36) (v := ?_) (a' := ?_) #[true, true, false, false, false] rfl rfl (by kernel_rfl) (fun _ _ _ h => h) (Or.inl ⟨by rfl, ?_⟩) hHeld ?_ ?_
      rotate_left; (rintro w' ⟨s0, s1, s2, s3, s4, s5, s6, s7, s8, s9, s10, s11, s12, s13, s14, s15⟩; go_simp; with_reducible rfl); rotate_left; (simp only [Act.put, sA, sZ, sS, i64_w]; rfl)
      refine one_ (i := 2) (N := some 37) #[true, true, true, false, false] rfl rfl (by kernel_rfl) (by decide) (fun K hK => ?_)
      refine goes_ Try.func30 (by kernel_rfl) rfl #[.agg #[.int .i64 a0_0, .int .i64 a0_1, .slice A0_2 l0_2.length c0_2, .int .i64 a0_3, .int .i64 a0_4, .slice A0_5 l0_5.length c0_5, .int .i64 a0_6, .int .i64 a0_7]] (by rfl) rfl rfl (by (try simp only [mA, mC, mN]); first | done | rfl | (simp only [lD, lT]; rfl)) ?_
      with_reducible refine (laws_toReport.calls k a0_0 a0_1 _ _ l0_2 a0_3 a0_4 _ _ l0_5 a0_6 a0_7 t232 t233 t234 t237 t238 t239 t242 t243 _ ?side1 ?side2 ?side3 ?side4 A60.out).mono ?_
      (case side1 => exact qC (Kd.C_below HR0_2.out HB.out))
      (case side2 => exact HC0_2.out)
      (case side3 => exact qC (Kd.C_below HR0_5.out HB.out))
      (case side4 => exact HC0_5.out)
      rintro e w145 ⟨v235, v240, rfl, ho0, ho1, hb⟩
      refine ⟨_, rfl, ?_⟩
      have n0_ := tO (qR HO184) hb ho0 ho1
      have n1_ := tO (qR HO189) hb ho0 ho1
      have n2_ := tO (qR HO196) hb ho0 ho1
      have n3_ := tO (qR HO201) hb ho0 ho1
      have n4_ := tO (qR HO209) hb ho0 ho1
      have n5_ := tO (qR HO214) hb ho0 ho1
      have n6_ := tO (qR HO222) hb ho0 ho1
      have n7_ := tO (qR HO227) hb ho0 ho1
      have n8_ := Aside0.mk (Kd.R_lower (Kd.R_new' (Kd.R_new' (Kd.R_new' (Kd.R_new' (Kd.R_new' (Kd.R_new' (Kd.R_new' (Kd.R_new' ho0 (Kd.R_lt (qR HO184))) (Kd.R_lt (qR HO189))) (Kd.R_lt (qR HO196))) (Kd.R_lt (qR HO201))) (Kd.R_lt (qR HO209))) (Kd.R_lt (qR HO214))) (Kd.R_lt (qR HO222))) (Kd.R_lt (qR HO227))) (below_size (by repeat (with_reducible first | exact HB.out | apply bA | apply bN | apply bD | refine bS ?_ GE176.out | refine bS ?_ GE177.out | refine bS ?_ GE217.out | refine bS ?_ GE230.out))))
      have n9_ := Aside0.mk (Kd.R_lower (Kd.R_new' (Kd.R_new' (Kd.R_new' (Kd.R_new' (Kd.R_new' (Kd.R_new' (Kd.R_new' (Kd.R_new' ho1 (Kd.R_lt (qR HO184))) (Kd.R_lt (qR HO189))) (Kd.R_lt (qR HO196))) (Kd.R_lt (qR HO201))) (Kd.R_lt (qR HO209))) (Kd.R_lt (qR HO214))) (Kd.R_lt (qR HO222))) (Kd.R_lt (qR HO227))) (below_size (by repeat (with_reducible first | exact HB.out | apply bA | apply bN | apply bD | refine bS ?_ GE176.out | refine bS ?_ GE177.out | refine bS ?_ GE217.out | refine bS ?_ GE230.out))))
      have n10_ := Aside0.mk (blk_below (qK BK176) hb)
      have n11_ := Aside0.mk (blk_below (qK BK177) hb)
      have n12_ := Aside0.mk (blk_below (qK BK217) hb)
      have n13_ := Aside0.mk (blk_below (qK BK230) hb)
      have n14_ := Aside0.mk (below_step (by repeat (with_reducible first | exact HB.out | apply bA | apply bN | apply bD | refine bS ?_ GE176.out | refine bS ?_ GE177.out | refine bS ?_ GE217.out | refine bS ?_ GE230.out)) hb)
      clear HO184
      clear HO189
      clear HO196
      clear HO201
      clear HO209
      clear HO214
      clear HO222
      clear HO227
      clear BK176
      clear BK177
      clear BK217
      clear BK230
      clear HB
      have HO184 := n0_
      have HO189 := n1_
      have HO196 := n2_
      have HO201 := n3_
      have HO209 := n4_
      have HO214 := n5_
      have HO222 := n6_
      have HO227 := n7_
      have HO236 := n8_
      have HO241 := n9_
      have BK176 := n10_
      have BK177 := n11_
      have BK217 := n12_
      have BK230 := n13_
      have HB := n14_
      clear n0_ n1_ n2_ n3_ n4_ n5_ n6_ n7_ n8_ n9_ n10_ n11_ n12_ n13_ n14_
      (try clear hb)
      (try clear hb2)
      (try clear hk)
      (try clear hi)
      (try clear ho0)
      (try clear ho1)
      obtain ⟨Ao146, co146, eo146⟩ := Kd.R_slice HO236.out
      (first | subst eo146 | (injection eo146 with f1_ f2_ f3_; have f4_ := f1_.symm; have f5_ := f3_.symm; clear f1_ f2_ f3_; subst f4_; subst f5_))
      obtain ⟨Ao147, co147, eo147⟩ := Kd.R_slice HO241.out
      (first | subst eo147 | (injection eo147 with f1_ f2_ f3_; have f4_ := f1_.symm; have f5_ := f3_.symm; clear f1_ f2_ f3_; subst f4_; subst f5_))
      refine hK.out _ _ ⟨cC BK217 0, cC BK217 1, cC BK217 2, cC BK217 3, cC BK217 4, cC BK217 5, cC BK217 6, cC BK217 7, cC BK176 0, cC BK176 1, cC BK176 2, cC BK176 3, cC BK176 4, cC BK176 5, cC BK176 6, cC BK176 7⟩ (fun hHeld => ?_)
      clear hK K
      refine norm_ (a' := ?_) ?_ ?_
      rotate_left
      ·show Act.put _ (some 37) _ = _
       simp only [Act.put, sA, sZ, sS, i64_w]
       rfl
      refine one_ (i := 3) (N := some 38) #[true, true, true, true, false] rfl rfl (by kernel_rfl) (by decide) (fun K hK => ?_)
      refine goes_ Try.func32 (by kernel_rfl) rfl #[.agg #[.int .i64 t205, .int .i64 t206, .slice Ao131 t207.length co131, .int .i64 t210, .int .i64 t211, .slice Ao132 t212.length co132, .int .i64 t215, .int .i64 t216], .agg #[.int .i64 t232, .int .i64 t233, .slice Ao146 t234.length co146, .int .i64 t237, .int .i64 t238, .slice Ao147 t239.length co147, .int .i64 t242, .int .i64 t243]] (by rfl) rfl rfl (by (try simp only [mA, mC, mN]); first | done | rfl | (simp only [lD, lT]; rfl)) ?_
      with_reducible refine (laws_eqReport.calls k t205 t206 _ _ t207 t210 t211 _ _ t212 t215 t216 t232 t233 _ _ t234 t237 t238 _ _ t239 t242 t243 true _ ?side1 ?side2 ?side3 ?side4 ?side5 ?side6 ?side7 ?side8 A61.out).mono ?_
      (case side1 => repeat (first | exact (Kd.R_reads' HO209.out).2.2 | (with_reducible refine Kd.C_alloc ?_ _) | (with_reducible refine Kd.C_drewN ?_ _) | (with_reducible refine Kd.C_drew ?_)))
      (case side2 => exact (Kd.R_reads' HO209.out).2.1)
      (case side3 => repeat (first | exact (Kd.R_reads' HO214.out).2.2 | (with_reducible refine Kd.C_alloc ?_ _) | (with_reducible refine Kd.C_drewN ?_ _) | (with_reducible refine Kd.C_drew ?_)))
      (case side4 => exact (Kd.R_reads' HO214.out).2.1)
      (case side5 => repeat (first | exact (Kd.R_reads' HO236.out).2.2 | (with_reducible refine Kd.C_alloc ?_ _) | (with_reducible refine Kd.C_drewN ?_ _) | (with_reducible refine Kd.C_drew ?_)))
      (case side6 => exact (Kd.R_reads' HO236.out).2.1)
      (case side7 => repeat (first | exact (Kd.R_reads' HO241.out).2.2 | (with_reducible refine Kd.C_alloc ?_ _) | (with_reducible refine Kd.C_drewN ?_ _) | (with_reducible refine Kd.C_drew ?_)))
      (case side8 => exact (Kd.R_reads' HO241.out).2.1)
      rintro e w148 ⟨rfl, hb⟩
      refine ⟨_, rfl, ?_⟩
      have n0_ := Aside0.mk (Kd.R_below (qR HO184) hb)
      have n1_ := Aside0.mk (Kd.R_below (qR HO189) hb)
      have n2_ := Aside0.mk (Kd.R_below (qR HO196) hb)
      have n3_ := Aside0.mk (Kd.R_below (qR HO201) hb)
      have n4_ := Aside0.mk (Kd.R_below (qR HO209) hb)
      have n5_ := Aside0.mk (Kd.R_below (qR HO214) hb)
      have n6_ := Aside0.mk (Kd.R_below (qR HO222) hb)
      have n7_ := Aside0.mk (Kd.R_below (qR HO227) hb)
      have n8_ := Aside0.mk (Kd.R_below (qR HO236) hb)
      have n9_ := Aside0.mk (Kd.R_below (qR HO241) hb)
      have n10_ := Aside0.mk (blk_below (qK BK176) hb)
      have n11_ := Aside0.mk (blk_below (qK BK177) hb)
      have n12_ := Aside0.mk (blk_below (qK BK217) hb)
      have n13_ := Aside0.mk (blk_below (qK BK230) hb)
      have n14_ := Aside0.mk (below_step (by repeat (with_reducible first | exact HB.out | apply bA | apply bN | apply bD | refine bS ?_ GE176.out | refine bS ?_ GE177.out | refine bS ?_ GE217.out | refine bS ?_ GE230.out)) hb)
      clear HO184
      clear HO189
      clear HO196
      clear HO201
      clear HO209
      clear HO214
      clear HO222
      clear HO227
      clear HO236
      clear HO241
      clear BK176
      clear BK177
      clear BK217
      clear BK230
      clear HB
      have HO184 := n0_
      have HO189 := n1_
      have HO196 := n2_
      have HO201 := n3_
      have HO209 := n4_
      have HO214 := n5_
      have HO222 := n6_
      have HO227 := n7_
      have HO236 := n8_
      have HO241 := n9_
      have BK176 := n10_
      have BK177 := n11_
      have BK217 := n12_
      have BK230 := n13_
      have HB := n14_
      clear n0_ n1_ n2_ n3_ n4_ n5_ n6_ n7_ n8_ n9_ n10_ n11_ n12_ n13_ n14_
      (try clear hb)
      (try clear hb2)
      (try clear hk)
      (try clear hi)
      refine hK.out _ _ ⟨cC BK217 0, cC BK217 1, cC BK217 2, cC BK217 3, cC BK217 4, cC BK217 5, cC BK217 6, cC BK217 7, cC BK176 0, cC BK176 1, cC BK176 2, cC BK176 3, cC BK176 4, cC BK176 5, cC BK176 6, cC BK176 7⟩ (fun hHeld => ?_)
      clear hK K
      refine norm_ (a' := ?_) ?_ ?_
      rotate_left
      ·show Act.put _ (some 38) _ = _
       simp only [Act.put, sA, sZ, sS, i64_w]
       rfl
      refine pure_ (i := 4) (N := some 39) (v := ?_) (a' := ?_) #[true, true, true, true, true] rfl rfl (by kernel_rfl) (fun _ _ _ h => h) (Or.inl ⟨by rfl, ?_⟩) ?_ ?_
      rotate_left; (intro w'; go_simp; with_reducible rfl); rotate_left; (simp only [Act.put, sA, sZ, sS, i64_w]; rfl)
      refine done_ (by kernel_rfl) ?_
      try go_wp2
      have n0_ := Aside0.mk (Kd.R_drew HO184.out)
      have n1_ := Aside0.mk (Kd.R_drew HO189.out)
      have n2_ := Aside0.mk (Kd.R_drew HO196.out)
      have n3_ := Aside0.mk (Kd.R_drew HO201.out)
      have n4_ := Aside0.mk (Kd.R_drew HO209.out)
      have n5_ := Aside0.mk (Kd.R_drew HO214.out)
      have n6_ := Aside0.mk (Kd.R_drew HO222.out)
      have n7_ := Aside0.mk (Kd.R_drew HO227.out)
      have n8_ := Aside0.mk (Kd.R_drew HO236.out)
      have n9_ := Aside0.mk (Kd.R_drew HO241.out)
      have n10_ := Aside0.mk (blk_drew BK176.out)
      have n11_ := Aside0.mk (blk_drew BK177.out)
      have n12_ := Aside0.mk (blk_drew BK217.out)
      have n13_ := Aside0.mk (blk_drew BK230.out)
      have n14_ := Aside0.mk (below_drew1 HB.out)
      clear HO184
      clear HO189
      clear HO196
      clear HO201
      clear HO209
      clear HO214
      clear HO222
      clear HO227
      clear HO236
      clear HO241
      clear BK176
      clear BK177
      clear BK217
      clear BK230
      clear HB
      have HO184 := n0_
      have HO189 := n1_
      have HO196 := n2_
      have HO201 := n3_
      have HO209 := n4_
      have HO214 := n5_
      have HO222 := n6_
      have HO227 := n7_
      have HO236 := n8_
      have HO241 := n9_
      have BK176 := n10_
      have BK177 := n11_
      have BK217 := n12_
      have BK230 := n13_
      have HB := n14_
      clear n0_ n1_ n2_ n3_ n4_ n5_ n6_ n7_ n8_ n9_ n10_ n11_ n12_ n13_ n14_
      refine start_ (n := 5) (S := fun w' => w'.cell? ⟨gb230, 0, none⟩ = some (.int .i64 t218) ∧ w'.cell? ⟨gb230, 1, none⟩ = some (.int .i64 t219) ∧ w'.cell? ⟨gb230, 2, none⟩ = some (.slice Ao140 t220.length co140) ∧ w'.cell? ⟨gb230, 3, none⟩ = some (.int .i64 t223) ∧ w'.cell? ⟨gb230, 4, none⟩ = some (.int .i64 t224) ∧ w'.cell? ⟨gb230, 5, none⟩ = some (.slice Ao141 t225.length co141) ∧ w'.cell? ⟨gb230, 6, none⟩ = some (.int .i64 t228) ∧ w'.cell? ⟨gb230, 7, none⟩ = some (.int .i64 t229) ∧ w'.cell? ⟨gb177, 0, none⟩ = some (.int .i64 a1_0) ∧ w'.cell? ⟨gb177, 1, none⟩ = some (.int .i64 a1_1) ∧ w'.cell? ⟨gb177, 2, none⟩ = some (.slice A1_2 l1_2.length c1_2) ∧ w'.cell? ⟨gb177, 3, none⟩ = some (.int .i64 a1_3) ∧ w'.cell? ⟨gb177, 4, none⟩ = some (.int .i64 a1_4) ∧ w'.cell? ⟨gb177, 5, none⟩ = some (.slice A1_5 l1_5.length c1_5) ∧ w'.cell? ⟨gb177, 6, none⟩ = some (.int .i64 a1_6) ∧ w'.cell? ⟨gb177, 7, none⟩ = some (.int .i64 a1_7)) (ds := []) #[false, false, false, false, false] (by kernel_rfl) rfl rfl ⟨cC BK230 0, cC BK230 1, cC BK230 2, cC BK230 3, cC BK230 4, cC BK230 5, cC BK230 6, cC BK230 7, cC BK177 0, cC BK177 1, cC BK177 2, cC BK177 3, cC BK177 4, cC BK177 5, cC BK177 6, cC BK177 7⟩ (fun hHeld => ?_)
      generalize w148.drew = w149 at HO184 HO189 HO196 HO201 HO209 HO214 HO222 HO227 HO236 HO241 BK176 BK177 BK217 BK230 HB hHeld ⊢
      refine take_ (i := 0) (N := some 40) (v := ?_) (a' := ?_) #[true, false, false, false, false] rfl rfl (by kernel_rfl) (fun _ _ _ h => h) (Or.inl ⟨by rfl, ?_⟩) hHeld ?_ ?_
      rotate_left; (rintro w' ⟨s0, s1, s2, s3, s4, s5, s6, s7, s8, s9, s10, s11, s12, s13, s14, s15⟩; go_simp; with_reducible rfl); rotate_left; (simp only [Act.put, sA, sZ, sS, i64_w]; rfl)
      refine take_ (i := 1) (N := some 41) (v := ?_) (a' := ?_) #[true, true, false, false, false] rfl rfl (by kernel_rfl) (fun _ _ _ h => h) (Or.inl ⟨by rfl, ?_⟩) hHeld ?_ ?_
      rotate_left; (rintro w' ⟨s0, s1, s2, s3, s4, s5, s6, s7, s8, s9, s10, s11, s12, s13, s14, s15⟩; go_simp; with_reducible rfl); rotate_left; (simp only [Act.put, sA, sZ, sS, i64_w]; rfl)
      refine one_ (i := 2) (N := some 42) #[true, true, true, false, false] rfl rfl (by kernel_rfl) (by decide) (fun K hK => ?_)
      refine goes_ Try.func30 (by kernel_rfl) rfl #[.agg #[.int .i64 a1_0, .int .i64 a1_1, .slice A1_2 l1_2.length c1_2, .int .i64 a1_3, .int .i64 a1_4, .slice A1_5 l1_5.length c1_5, .int .i64 a1_6, .int .i64 a1_7]] (by rfl) rfl rfl (by (try simp only [mA, mC, mN]); first | done | rfl | (simp only [lD, lT]; rfl)) ?_
      with_reducible refine (laws_toReport.calls k a1_0 a1_1 _ _ l1_2 a1_3 a1_4 _ _ l1_5 a1_6 a1_7 t245 t246 t247 t250 t251 t252 t255 t256 _ ?side1 ?side2 ?side3 ?side4 A63.out).mono ?_
      (case side1 => exact qC (Kd.C_below HR1_2.out HB.out))
      (case side2 => exact HC1_2.out)
      (case side3 => exact qC (Kd.C_below HR1_5.out HB.out))
      (case side4 => exact HC1_5.out)
      rintro e w150 ⟨v248, v253, rfl, ho0, ho1, hb⟩
      refine ⟨_, rfl, ?_⟩
      have n0_ := tO (qR HO184) hb ho0 ho1
      have n1_ := tO (qR HO189) hb ho0 ho1
      have n2_ := tO (qR HO196) hb ho0 ho1
      have n3_ := tO (qR HO201) hb ho0 ho1
      have n4_ := tO (qR HO209) hb ho0 ho1
      have n5_ := tO (qR HO214) hb ho0 ho1
      have n6_ := tO (qR HO222) hb ho0 ho1
      have n7_ := tO (qR HO227) hb ho0 ho1
      have n8_ := tO (qR HO236) hb ho0 ho1
      have n9_ := tO (qR HO241) hb ho0 ho1
      have n10_ := Aside0.mk (Kd.R_lower (Kd.R_new' (Kd.R_new' (Kd.R_new' (Kd.R_new' (Kd.R_new' (Kd.R_new' (Kd.R_new' (Kd.R_new' (Kd.R_new' (Kd.R_new' ho0 (Kd.R_lt (qR HO184))) (Kd.R_lt (qR HO189))) (Kd.R_lt (qR HO196))) (Kd.R_lt (qR HO201))) (Kd.R_lt (qR HO209))) (Kd.R_lt (qR HO214))) (Kd.R_lt (qR HO222))) (Kd.R_lt (qR HO227))) (Kd.R_lt (qR HO236))) (Kd.R_lt (qR HO241))) (below_size (by repeat (with_reducible first | exact HB.out | apply bA | apply bN | apply bD | refine bS ?_ GE176.out | refine bS ?_ GE177.out | refine bS ?_ GE217.out | refine bS ?_ GE230.out))))
      have n11_ := Aside0.mk (Kd.R_lower (Kd.R_new' (Kd.R_new' (Kd.R_new' (Kd.R_new' (Kd.R_new' (Kd.R_new' (Kd.R_new' (Kd.R_new' (Kd.R_new' (Kd.R_new' ho1 (Kd.R_lt (qR HO184))) (Kd.R_lt (qR HO189))) (Kd.R_lt (qR HO196))) (Kd.R_lt (qR HO201))) (Kd.R_lt (qR HO209))) (Kd.R_lt (qR HO214))) (Kd.R_lt (qR HO222))) (Kd.R_lt (qR HO227))) (Kd.R_lt (qR HO236))) (Kd.R_lt (qR HO241))) (below_size (by repeat (with_reducible first | exact HB.out | apply bA | apply bN | apply bD | refine bS ?_ GE176.out | refine bS ?_ GE177.out | refine bS ?_ GE217.out | refine bS ?_ GE230.out))))
      have n12_ := Aside0.mk (blk_below (qK BK176) hb)
      have n13_ := Aside0.mk (blk_below (qK BK177) hb)
      have n14_ := Aside0.mk (blk_below (qK BK217) hb)
      have n15_ := Aside0.mk (blk_below (qK BK230) hb)
      have n16_ := Aside0.mk (below_step (by repeat (with_reducible first | exact HB.out | apply bA | apply bN | apply bD | refine bS ?_ GE176.out | refine bS ?_ GE177.out | refine bS ?_ GE217.out | refine bS ?_ GE230.out)) hb)
      clear HO184
      clear HO189
      clear HO196
      clear HO201
      clear HO209
      clear HO214
      clear HO222
      clear HO227
      clear HO236
      clear HO241
      clear BK176
      clear BK177
      clear BK217
      clear BK230
      clear HB
      have HO184 := n0_
      have HO189 := n1_
      have HO196 := n2_
      have HO201 := n3_
      have HO209 := n4_
      have HO214 := n5_
      have HO222 := n6_
      have HO227 := n7_
      have HO236 := n8_
      have HO241 := n9_
      have HO249 := n10_
      have HO254 := n11_
      have BK176 := n12_
      have BK177 := n13_
      have BK217 := n14_
      have BK230 := n15_
      have HB := n16_
      clear n0_ n1_ n2_ n3_ n4_ n5_ n6_ n7_ n8_ n9_ n10_ n11_ n12_ n13_ n14_ n15_ n16_
      (try clear hb)
      (try clear hb2)
      (try clear hk)
      (try clear hi)
      (try clear ho0)
      (try clear ho1)
      obtain ⟨Ao151, co151, eo151⟩ := Kd.R_slice HO249.out
      (first | subst eo151 | (injection eo151 with f1_ f2_ f3_; have f4_ := f1_.symm; have f5_ := f3_.symm; clear f1_ f2_ f3_; subst f4_; subst f5_))
      obtain ⟨Ao152, co152, eo152⟩ := Kd.R_slice HO254.out
      (first | subst eo152 | (injection eo152 with f1_ f2_ f3_; have f4_ := f1_.symm; have f5_ := f3_.symm; clear f1_ f2_ f3_; subst f4_; subst f5_))
      refine hK.out _ _ ⟨cC BK230 0, cC BK230 1, cC BK230 2, cC BK230 3, cC BK230 4, cC BK230 5, cC BK230 6, cC BK230 7, cC BK177 0, cC BK177 1, cC BK177 2, cC BK177 3, cC BK177 4, cC BK177 5, cC BK177 6, cC BK177 7⟩ (fun hHeld => ?_)
      clear hK K
      refine norm_ (a' := ?_) ?_ ?_
      rotate_left
      ·show Act.put _ (some 42) _ = _
       simp only [Act.put, sA, sZ, sS, i64_w]
       rfl
      refine one_ (i := 3) (N := some 43) #[true, true, true, true, false] rfl rfl (by kernel_rfl) (by decide) (fun K hK => ?_)
      refine goes_ Try.func32 (by kernel_rfl) rfl #[.agg #[.int .i64 t218, .int .i64 t219, .slice Ao140 t220.length co140, .int .i64 t223, .int .i64 t224, .slice Ao141 t225.length co141, .int .i64 t228, .int .i64 t229], .agg #[.int .i64 t245, .int .i64 t246, .slice Ao151 t247.length co151, .int .i64 t250, .int .i64 t251, .slice Ao152 t252.length co152, .int .i64 t255, .int .i64 t256]] (by rfl) rfl rfl (by (try simp only [mA, mC, mN]); first | done | rfl | (simp only [lD, lT]; rfl)) ?_
      with_reducible refine (laws_eqReport.calls k t218 t219 _ _ t220 t223 t224 _ _ t225 t228 t229 t245 t246 _ _ t247 t250 t251 _ _ t252 t255 t256 false _ ?side1 ?side2 ?side3 ?side4 ?side5 ?side6 ?side7 ?side8 A64.out).mono ?_
      (case side1 => repeat (first | exact (Kd.R_reads' HO222.out).2.2 | (with_reducible refine Kd.C_alloc ?_ _) | (with_reducible refine Kd.C_drewN ?_ _) | (with_reducible refine Kd.C_drew ?_)))
      (case side2 => exact (Kd.R_reads' HO222.out).2.1)
      (case side3 => repeat (first | exact (Kd.R_reads' HO227.out).2.2 | (with_reducible refine Kd.C_alloc ?_ _) | (with_reducible refine Kd.C_drewN ?_ _) | (with_reducible refine Kd.C_drew ?_)))
      (case side4 => exact (Kd.R_reads' HO227.out).2.1)
      (case side5 => repeat (first | exact (Kd.R_reads' HO249.out).2.2 | (with_reducible refine Kd.C_alloc ?_ _) | (with_reducible refine Kd.C_drewN ?_ _) | (with_reducible refine Kd.C_drew ?_)))
      (case side6 => exact (Kd.R_reads' HO249.out).2.1)
      (case side7 => repeat (first | exact (Kd.R_reads' HO254.out).2.2 | (with_reducible refine Kd.C_alloc ?_ _) | (with_reducible refine Kd.C_drewN ?_ _) | (with_reducible refine Kd.C_drew ?_)))
      (case side8 => exact (Kd.R_reads' HO254.out).2.1)
      rintro e w153 ⟨rfl, hb⟩
      refine ⟨_, rfl, ?_⟩
      have n0_ := Aside0.mk (Kd.R_below (qR HO184) hb)
      have n1_ := Aside0.mk (Kd.R_below (qR HO189) hb)
      have n2_ := Aside0.mk (Kd.R_below (qR HO196) hb)
      have n3_ := Aside0.mk (Kd.R_below (qR HO201) hb)
      have n4_ := Aside0.mk (Kd.R_below (qR HO209) hb)
      have n5_ := Aside0.mk (Kd.R_below (qR HO214) hb)
      have n6_ := Aside0.mk (Kd.R_below (qR HO222) hb)
      have n7_ := Aside0.mk (Kd.R_below (qR HO227) hb)
      have n8_ := Aside0.mk (Kd.R_below (qR HO236) hb)
      have n9_ := Aside0.mk (Kd.R_below (qR HO241) hb)
      have n10_ := Aside0.mk (Kd.R_below (qR HO249) hb)
      have n11_ := Aside0.mk (Kd.R_below (qR HO254) hb)
      have n12_ := Aside0.mk (blk_below (qK BK176) hb)
      have n13_ := Aside0.mk (blk_below (qK BK177) hb)
      have n14_ := Aside0.mk (blk_below (qK BK217) hb)
      have n15_ := Aside0.mk (blk_below (qK BK230) hb)
      have n16_ := Aside0.mk (below_step (by repeat (with_reducible first | exact HB.out | apply bA | apply bN | apply bD | refine bS ?_ GE176.out | refine bS ?_ GE177.out | refine bS ?_ GE217.out | refine bS ?_ GE230.out)) hb)
      clear HO184
      clear HO189
      clear HO196
      clear HO201
      clear HO209
      clear HO214
      clear HO222
      clear HO227
      clear HO236
      clear HO241
      clear HO249
      clear HO254
      clear BK176
      clear BK177
      clear BK217
      clear BK230
      clear HB
      have HO184 := n0_
      have HO189 := n1_
      have HO196 := n2_
      have HO201 := n3_
      have HO209 := n4_
      have HO214 := n5_
      have HO222 := n6_
      have HO227 := n7_
      have HO236 := n8_
      have HO241 := n9_
      have HO249 := n10_
      have HO254 := n11_
      have BK176 := n12_
      have BK177 := n13_
      have BK217 := n14_
      have BK230 := n15_
      have HB := n16_
      clear n0_ n1_ n2_ n3_ n4_ n5_ n6_ n7_ n8_ n9_ n10_ n11_ n12_ n13_ n14_ n15_ n16_
      (try clear hb)
      (try clear hb2)
      (try clear hk)
      (try clear hi)
      refine hK.out _ _ ⟨cC BK230 0, cC BK230 1, cC BK230 2, cC BK230 3, cC BK230 4, cC BK230 5, cC BK230 6, cC BK230 7, cC BK177 0, cC BK177 1, cC BK177 2, cC BK177 3, cC BK177 4, cC BK177 5, cC BK177 6, cC BK177 7⟩ (fun hHeld => ?_)
      clear hK K
      refine norm_ (a' := ?_) ?_ ?_
      rotate_left
      ·show Act.put _ (some 43) _ = _
       simp only [Act.put, sA, sZ, sS, i64_w]
       rfl
      refine pure_ (i := 4) (N := some 44) (v := ?_) (a' := ?_) #[true, true, true, true, true] rfl rfl (by kernel_rfl) (fun _ _ _ h => h) (Or.inl ⟨by rfl, ?_⟩) ?_ ?_
      rotate_left; (intro w'; go_simp; with_reducible rfl); rotate_left; (simp only [Act.put, sA, sZ, sS, i64_w]; rfl)
      refine done_ (by kernel_rfl) ?_
      try go_wp2
      go_ret
      exact ⟨by first | rfl | (simp [errW_none, errW_some] <;> rfl) | (simp [*, errW_none, errW_some] <;> rfl), by repeat (first | (with_reducible first | exact HB.out | apply bA | apply bN | apply bD | refine bS ?_ GE176.out | refine bS ?_ GE177.out | refine bS ?_ GE217.out | refine bS ?_ GE230.out) | exact HB.out)⟩
    ·replace c62 := Bool.eq_false_iff.mpr c62
     subst c62
     have H1 : (some false) = some r := by rw [if_neg (show ¬ (false = true) by decide)] at H; exact H
     clear H
     have H := H1
     clear H1
     obtain rfl := Option.some.inj H
     go_enter Try.func5, Try.ntmps5
     try go_wp2_with (first | ((with_reducible refine gate_dst (N := 2) rfl ?_); refine box_event ?hg (N := 2) ?hd (cs := #[.int .i64 a0_0, .int .i64 a0_1, .slice A0_2 l0_2.length c0_2, .int .i64 a0_3, .int .i64 a0_4, .slice A0_5 l0_5.length c0_5, .int .i64 a0_6, .int .i64 a0_7]) (t := 46) ?hr ?_; (case hd => rfl); (case hg => rfl); (case hr => first | (go_simp; done) | (go_simp; rfl)); intro gb176 hg w154 hbox hb; have n0_ := Aside0.mk (below_step (qB HB) hb); have n1_ := Aside0.mk (hbox); have n2_ := Aside0.mk ((by rw [hg]; exact (below_size (qB HB)) : w.heap.size ≤ gb176)); have n3_ := Aside0.mk ((by rw [hg]; exact (below_size (qB HB)) : w.heap.size ≤ gb176)); clear HB; have HB := n0_; have BK176 := n1_; have GW176 := n2_; have GE176 := n3_; clear n0_ n1_ n2_ n3_; clear hb hbox hg) | ((with_reducible refine gate_dst (N := 3) rfl ?_); refine box_event ?hg (N := 3) ?hd (cs := #[.int .i64 a1_0, .int .i64 a1_1, .slice A1_2 l1_2.length c1_2, .int .i64 a1_3, .int .i64 a1_4, .slice A1_5 l1_5.length c1_5, .int .i64 a1_6, .int .i64 a1_7]) (t := 46) ?hr ?_; (case hd => rfl); (case hg => rfl); (case hr => first | (go_simp; done) | (go_simp; rfl)); intro gb177 hg w155 hbox hb; have n0_ := Aside0.mk (blk_below (qK BK176) hb); have n1_ := Aside0.mk (below_step (by repeat (with_reducible first | exact HB.out | apply bA | apply bN | apply bD | refine bS ?_ GE176.out)) hb); have n2_ := Aside0.mk (hbox); have n3_ := Aside0.mk ((by rw [hg]; exact (below_size (by repeat (with_reducible first | exact HB.out | apply bA | apply bN | apply bD | refine bS ?_ GE176.out))) : w.heap.size ≤ gb177)); have n4_ := Aside0.mk ((by rw [hg]; exact (below_size (by repeat (with_reducible first | exact HB.out | apply bA | apply bN | apply bD | refine bS ?_ GE176.out))) : w.heap.size ≤ gb177)); have n5_ := Aside0.mk ((by rw [hg]; exact Nat.ne_of_lt (blk_lt (qK BK176)) : gb176 ≠ gb177)); have n6_ := Aside0.mk ((by rw [hg]; exact Nat.ne_of_gt (blk_lt (qK BK176)) : gb177 ≠ gb176)); clear BK176; clear HB; have BK176 := n0_; have HB := n1_; have BK177 := n2_; have GW177 := n3_; have GE177 := n4_; have NB176_177 := n5_; have NB177_176 := n6_; clear n0_ n1_ n2_ n3_ n4_ n5_ n6_; clear hb hbox hg; have hnb156 := NB176_177.out; have hnc156 := NB177_176.out; have hcz157_0 : w155.cell? ⟨gb176, 0, none⟩ = some (.int .i64 a0_0) := cC BK176 0; have hcz157_1 : w155.cell? ⟨gb176, 1, none⟩ = some (.int .i64 a0_1) := cC BK176 1; have hcz157_2 : w155.cell? ⟨gb176, 2, none⟩ = some (.slice A0_2 l0_2.length c0_2) := cC BK176 2; have hcz157_3 : w155.cell? ⟨gb176, 3, none⟩ = some (.int .i64 a0_3) := cC BK176 3; have hcz157_4 : w155.cell? ⟨gb176, 4, none⟩ = some (.int .i64 a0_4) := cC BK176 4; have hcz157_5 : w155.cell? ⟨gb176, 5, none⟩ = some (.slice A0_5 l0_5.length c0_5) := cC BK176 5; have hcz157_6 : w155.cell? ⟨gb176, 6, none⟩ = some (.int .i64 a0_6) := cC BK176 6; have hcz157_7 : w155.cell? ⟨gb176, 7, none⟩ = some (.int .i64 a0_7) := cC BK176 7; have hfz157_0 := blk_frozen BK176.out 0; have hfz157_1 := blk_frozen BK176.out 1; have hfz157_2 := blk_frozen BK176.out 2; have hfz157_3 := blk_frozen BK176.out 3; have hfz157_4 := blk_frozen BK176.out 4; have hfz157_5 := blk_frozen BK176.out 5; have hfz157_6 := blk_frozen BK176.out 6; have hfz157_7 := blk_frozen BK176.out 7) | ((with_reducible refine gate_callee (f := 28) rfl ?_); refine goesL_ (some 12) rfl rfl Try.func28 (by kernel_rfl) rfl #[.agg #[.int .i64 a0_0, .int .i64 a0_1, .slice A0_2 l0_2.length c0_2, .int .i64 a0_3, .int .i64 a0_4, .slice A0_5 l0_5.length c0_5, .int .i64 a0_6, .int .i64 a0_7], .int .i64 1048576] rfl (by (try simp only [mA, mC, mN]); first | done | rfl | (simp only [lD, lT]; rfl)) ?_; (with_reducible refine (laws_szReport.calls a0_0 a0_1 _ _ l0_2 a0_3 a0_4 _ _ l0_5 a0_6 a0_7 1048576 t178 _ ?side1 ?side2 ?side3 ?side4 A3.out).mono ?_); (case side1 => exact qC (Kd.C_below HR0_2.out HB.out)); (case side2 => exact HC0_2.out); (case side3 => exact qC (Kd.C_below HR0_5.out HB.out)); (case side4 => exact HC0_5.out); rintro e w158 ⟨rfl, hb⟩; refine ⟨_, rfl, ?_⟩; have n0_ := Aside0.mk (blk_below (qK BK176) hb); have n1_ := Aside0.mk (blk_below (qK BK177) hb); have n2_ := Aside0.mk (below_step (by repeat (with_reducible first | exact HB.out | apply bA | apply bN | apply bD | refine bS ?_ GE176.out | refine bS ?_ GE177.out)) hb); clear BK176; clear BK177; clear HB; have BK176 := n0_; have BK177 := n1_; have HB := n2_; clear n0_ n1_ n2_; (try clear hb); (try clear hb2); (try clear hk); (try clear hi); have hcz159_0 : w158.cell? ⟨gb177, 0, none⟩ = some (.int .i64 a1_0) := cC BK177 0; have hcz159_1 : w158.cell? ⟨gb177, 1, none⟩ = some (.int .i64 a1_1) := cC BK177 1; have hcz159_2 : w158.cell? ⟨gb177, 2, none⟩ = some (.slice A1_2 l1_2.length c1_2) := cC BK177 2; have hcz159_3 : w158.cell? ⟨gb177, 3, none⟩ = some (.int .i64 a1_3) := cC BK177 3; have hcz159_4 : w158.cell? ⟨gb177, 4, none⟩ = some (.int .i64 a1_4) := cC BK177 4; have hcz159_5 : w158.cell? ⟨gb177, 5, none⟩ = some (.slice A1_5 l1_5.length c1_5) := cC BK177 5; have hcz159_6 : w158.cell? ⟨gb177, 6, none⟩ = some (.int .i64 a1_6) := cC BK177 6; have hcz159_7 : w158.cell? ⟨gb177, 7, none⟩ = some (.int .i64 a1_7) := cC BK177 7; have hfz159_0 := blk_frozen BK177.out 0; have hfz159_1 := blk_frozen BK177.out 1; have hfz159_2 := blk_frozen BK177.out 2; have hfz159_3 := blk_frozen BK177.out 3; have hfz159_4 := blk_frozen BK177.out 4; have hfz159_5 := blk_frozen BK177.out 5; have hfz159_6 := blk_frozen BK177.out 6; have hfz159_7 := blk_frozen BK177.out 7) | ((with_reducible refine gate_callee (f := 28) rfl ?_); refine goesL_ (some 17) rfl rfl Try.func28 (by kernel_rfl) rfl #[.agg #[.int .i64 a1_0, .int .i64 a1_1, .slice A1_2 l1_2.length c1_2, .int .i64 a1_3, .int .i64 a1_4, .slice A1_5 l1_5.length c1_5, .int .i64 a1_6, .int .i64 a1_7], .int .i64 t178] rfl (by (try simp only [mA, mC, mN]); first | done | rfl | (simp only [lD, lT]; rfl)) ?_; (with_reducible refine (laws_szReport.calls a1_0 a1_1 _ _ l1_2 a1_3 a1_4 _ _ l1_5 a1_6 a1_7 t178 t179 _ ?side1 ?side2 ?side3 ?side4 A10.out).mono ?_); (case side1 => exact qC (Kd.C_below HR1_2.out HB.out)); (case side2 => exact HC1_2.out); (case side3 => exact qC (Kd.C_below HR1_5.out HB.out)); (case side4 => exact HC1_5.out); rintro e w160 ⟨rfl, hb⟩; refine ⟨_, rfl, ?_⟩; have n0_ := Aside0.mk (blk_below (qK BK176) hb); have n1_ := Aside0.mk (blk_below (qK BK177) hb); have n2_ := Aside0.mk (below_step (by repeat (with_reducible first | exact HB.out | apply bA | apply bN | apply bD | refine bS ?_ GE176.out | refine bS ?_ GE177.out)) hb); clear BK176; clear BK177; clear HB; have BK176 := n0_; have BK177 := n1_; have HB := n2_; clear n0_ n1_ n2_; (try clear hb); (try clear hb2); (try clear hk); (try clear hi)))
     have n0_ := Aside0.mk (blk_drew BK176.out)
     have n1_ := Aside0.mk (blk_drew BK177.out)
     have n2_ := Aside0.mk (below_drew1 HB.out)
     clear BK176
     clear BK177
     clear HB
     have BK176 := n0_
     have BK177 := n1_
     have HB := n2_
     clear n0_ n1_ n2_
     refine start_ (n := 6) (S := fun w' => w'.cell? ⟨gb176, 0, none⟩ = some (.int .i64 a0_0) ∧ w'.cell? ⟨gb176, 1, none⟩ = some (.int .i64 a0_1) ∧ w'.cell? ⟨gb176, 2, none⟩ = some (.slice A0_2 l0_2.length c0_2) ∧ w'.cell? ⟨gb176, 3, none⟩ = some (.int .i64 a0_3) ∧ w'.cell? ⟨gb176, 4, none⟩ = some (.int .i64 a0_4) ∧ w'.cell? ⟨gb176, 5, none⟩ = some (.slice A0_5 l0_5.length c0_5) ∧ w'.cell? ⟨gb176, 6, none⟩ = some (.int .i64 a0_6) ∧ w'.cell? ⟨gb176, 7, none⟩ = some (.int .i64 a0_7) ∧ w'.cell? ⟨gb177, 0, none⟩ = some (.int .i64 a1_0) ∧ w'.cell? ⟨gb177, 1, none⟩ = some (.int .i64 a1_1) ∧ w'.cell? ⟨gb177, 2, none⟩ = some (.slice A1_2 l1_2.length c1_2) ∧ w'.cell? ⟨gb177, 3, none⟩ = some (.int .i64 a1_3) ∧ w'.cell? ⟨gb177, 4, none⟩ = some (.int .i64 a1_4) ∧ w'.cell? ⟨gb177, 5, none⟩ = some (.slice A1_5 l1_5.length c1_5) ∧ w'.cell? ⟨gb177, 6, none⟩ = some (.int .i64 a1_6) ∧ w'.cell? ⟨gb177, 7, none⟩ = some (.int .i64 a1_7)) (ds := []) (bR [0, 6]) (by kernel_rfl) rfl rfl ⟨cC BK176 0, cC BK176 1, cC BK176 2, cC BK176 3, cC BK176 4, cC BK176 5, cC BK176 6, cC BK176 7, cC BK177 0, cC BK177 1, cC BK177 2, cC BK177 3, cC BK177 4, cC BK177 5, cC BK177 6, cC BK177 7⟩ (fun hHeld => ?_)
     generalize w160.drew = w161 at BK176 BK177 HB hHeld ⊢
     refine take_ (i := 0) (N := some 20) (v := ?_) (a' := ?_) (bR [1, 5]) rfl rfl (by kernel_rfl) (fun _ _ _ h => h) (Or.inl ⟨by rfl, ?_⟩) hHeld ?_ ?_
     rotate_left; (rintro w' ⟨s0, s1, s2, s3, s4, s5, s6, s7, s8, s9, s10, s11, s12, s13, s14, s15⟩; go_simp; with_reducible rfl); rotate_left; (simp only [Act.put, sA, sZ, sS, i64_w]; rfl)
     refine take_ (i := 2) (N := some 22) (v := ?_) (a' := ?_) (bR [1, 1, 1, 3]) rfl rfl (by kernel_rfl) (fun _ _ _ h => h) (Or.inl ⟨by rfl, ?_⟩) hHeld ?_ ?_
     rotate_left; (rintro w' ⟨s0, s1, s2, s3, s4, s5, s6, s7, s8, s9, s10, s11, s12, s13, s14, s15⟩; go_simp; with_reducible rfl); rotate_left; (simp only [Act.put, sA, sZ, sS, i64_w]; rfl)
     refine one_ (i := 1) (N := some 21) (bR [3, 3]) rfl rfl (by kernel_rfl) (by decide) (fun K hK => ?_)
     refine goes_ Try.func30 (by kernel_rfl) rfl #[.agg #[.int .i64 a0_0, .int .i64 a0_1, .slice A0_2 l0_2.length c0_2, .int .i64 a0_3, .int .i64 a0_4, .slice A0_5 l0_5.length c0_5, .int .i64 a0_6, .int .i64 a0_7]] (by rfl) rfl rfl (by (try simp only [mA, mC, mN]); first | done | rfl | (simp only [lD, lT]; rfl)) ?_
     with_reducible refine (laws_toReport.calls k a0_0 a0_1 _ _ l0_2 a0_3 a0_4 _ _ l0_5 a0_6 a0_7 t180 t181 t182 t185 t186 t187 t190 t191 _ ?side1 ?side2 ?side3 ?side4 A19.out).mono ?_
     (case side1 => exact qC (Kd.C_below HR0_2.out HB.out))
     (case side2 => exact HC0_2.out)
     (case side3 => exact qC (Kd.C_below HR0_5.out HB.out))
     (case side4 => exact HC0_5.out)
     rintro e w162 ⟨v183, v188, rfl, ho0, ho1, hb⟩
     refine ⟨_, rfl, ?_⟩
     have n0_ := Aside0.mk (Kd.R_lower ho0 (below_size (by repeat (with_reducible first | exact HB.out | apply bA | apply bN | apply bD | refine bS ?_ GE176.out | refine bS ?_ GE177.out))))
     have n1_ := Aside0.mk (Kd.R_lower ho1 (below_size (by repeat (with_reducible first | exact HB.out | apply bA | apply bN | apply bD | refine bS ?_ GE176.out | refine bS ?_ GE177.out))))
     have n2_ := Aside0.mk (blk_below (qK BK176) hb)
     have n3_ := Aside0.mk (blk_below (qK BK177) hb)
     have n4_ := Aside0.mk (below_step (by repeat (with_reducible first | exact HB.out | apply bA | apply bN | apply bD | refine bS ?_ GE176.out | refine bS ?_ GE177.out)) hb)
     clear BK176
     clear BK177
     clear HB
     have HO184 := n0_
     have HO189 := n1_
     have BK176 := n2_
     have BK177 := n3_
     have HB := n4_
     clear n0_ n1_ n2_ n3_ n4_
     (try clear hb)
     (try clear hb2)
     (try clear hk)
     (try clear hi)
     (try clear ho0)
     (try clear ho1)
     refine hK.out _ _ ⟨cC BK176 0, cC BK176 1, cC BK176 2, cC BK176 3, cC BK176 4, cC BK176 5, cC BK176 6, cC BK176 7, cC BK177 0, cC BK177 1, cC BK177 2, cC BK177 3, cC BK177 4, cC BK177 5, cC BK177 6, cC BK177 7⟩ (fun hHeld => ?_)
     clear hK K
     refine norm_ (a' := ?_) ?_ ?_
     rotate_left
     ·show Act.put _ (some 21) _ = _
      simp only [Act.put, sA, sZ, sS, i64_w]
      rfl
     refine one_ (i := 3) (N := some 23) (bR [4, 2]) rfl rfl (by kernel_rfl) (by decide) (fun K hK => ?_)
     refine goes_ Try.func30 (by kernel_rfl) rfl #[.agg #[.int .i64 a1_0, .int .i64 a1_1, .slice A1_2 l1_2.length c1_2, .int .i64 a1_3, .int .i64 a1_4, .slice A1_5 l1_5.length c1_5, .int .i64 a1_6, .int .i64 a1_7]] (by rfl) rfl rfl (by (try simp only [mA, mC, mN]); first | done | rfl | (simp only [lD, lT]; rfl)) ?_
     with_reducible refine (laws_toReport.calls k a1_0 a1_1 _ _ l1_2 a1_3 a1_4 _ _ l1_5 a1_6 a1_7 t192 t193 t194 t197 t198 t199 t202 t203 _ ?side1 ?side2 ?side3 ?side4 A20.out).mono ?_
     (case side1 => exact qC (Kd.C_below HR1_2.out HB.out))
     (case side2 => exact HC1_2.out)
     (case side3 => exact qC (Kd.C_below HR1_5.out HB.out))
     (case side4 => exact HC1_5.out)
     rintro e w163 ⟨v195, v200, rfl, ho0, ho1, hb⟩
     refine ⟨_, rfl, ?_⟩
     have n0_ := tO (qR HO184) hb ho0 ho1
     have n1_ := tO (qR HO189) hb ho0 ho1
     have n2_ := Aside0.mk (Kd.R_lower (Kd.R_new' (Kd.R_new' ho0 (Kd.R_lt (qR HO184))) (Kd.R_lt (qR HO189))) (below_size (by repeat (with_reducible first | exact HB.out | apply bA | apply bN | apply bD | refine bS ?_ GE176.out | refine bS ?_ GE177.out))))
     have n3_ := Aside0.mk (Kd.R_lower (Kd.R_new' (Kd.R_new' ho1 (Kd.R_lt (qR HO184))) (Kd.R_lt (qR HO189))) (below_size (by repeat (with_reducible first | exact HB.out | apply bA | apply bN | apply bD | refine bS ?_ GE176.out | refine bS ?_ GE177.out))))
     have n4_ := Aside0.mk (blk_below (qK BK176) hb)
     have n5_ := Aside0.mk (blk_below (qK BK177) hb)
     have n6_ := Aside0.mk (below_step (by repeat (with_reducible first | exact HB.out | apply bA | apply bN | apply bD | refine bS ?_ GE176.out | refine bS ?_ GE177.out)) hb)
     clear HO184
     clear HO189
     clear BK176
     clear BK177
     clear HB
     have HO184 := n0_
     have HO189 := n1_
     have HO196 := n2_
     have HO201 := n3_
     have BK176 := n4_
     have BK177 := n5_
     have HB := n6_
     clear n0_ n1_ n2_ n3_ n4_ n5_ n6_
     (try clear hb)
     (try clear hb2)
     (try clear hk)
     (try clear hi)
     (try clear ho0)
     (try clear ho1)
     obtain ⟨Ao164, co164, eo164⟩ := Kd.R_slice HO184.out
     (first | subst eo164 | (injection eo164 with f1_ f2_ f3_; have f4_ := f1_.symm; have f5_ := f3_.symm; clear f1_ f2_ f3_; subst f4_; subst f5_))
     obtain ⟨Ao165, co165, eo165⟩ := Kd.R_slice HO189.out
     (first | subst eo165 | (injection eo165 with f1_ f2_ f3_; have f4_ := f1_.symm; have f5_ := f3_.symm; clear f1_ f2_ f3_; subst f4_; subst f5_))
     obtain ⟨Ao166, co166, eo166⟩ := Kd.R_slice HO196.out
     (first | subst eo166 | (injection eo166 with f1_ f2_ f3_; have f4_ := f1_.symm; have f5_ := f3_.symm; clear f1_ f2_ f3_; subst f4_; subst f5_))
     obtain ⟨Ao167, co167, eo167⟩ := Kd.R_slice HO201.out
     (first | subst eo167 | (injection eo167 with f1_ f2_ f3_; have f4_ := f1_.symm; have f5_ := f3_.symm; clear f1_ f2_ f3_; subst f4_; subst f5_))
     refine hK.out _ _ ⟨cC BK176 0, cC BK176 1, cC BK176 2, cC BK176 3, cC BK176 4, cC BK176 5, cC BK176 6, cC BK176 7, cC BK177 0, cC BK177 1, cC BK177 2, cC BK177 3, cC BK177 4, cC BK177 5, cC BK177 6, cC BK177 7⟩ (fun hHeld => ?_)
     clear hK K
     refine norm_ (a' := ?_) ?_ ?_
     rotate_left
     ·show Act.put _ (some 23) _ = _
      simp only [Act.put, sA, sZ, sS, i64_w]
      rfl
     refine one_ (i := 4) (N := some 24) (bR [5, 1]) rfl rfl (by kernel_rfl) (by decide) (fun K hK => ?_)
     refine goes_ Try.func29 (by kernel_rfl) rfl #[.agg #[.int .i64 t180, .int .i64 t181, .slice Ao164 t182.length co164, .int .i64 t185, .int .i64 t186, .slice Ao165 t187.length co165, .int .i64 t190, .int .i64 t191], .agg #[.int .i64 t192, .int .i64 t193, .slice Ao166 t194.length co166, .int .i64 t197, .int .i64 t198, .slice Ao167 t199.length co167, .int .i64 t202, .int .i64 t203]] (by rfl) rfl rfl (by (try simp only [mA, mC, mN]); first | done | rfl | (simp only [lD, lT]; rfl)) ?_
     with_reducible refine (spec_IsWider.calls k t180 t181 _ _ t182 t185 t186 _ _ t187 t190 t191 t192 t193 _ _ t194 t197 t198 _ _ t199 t202 t203 t204 _ ?side1 ?side2 ?side3 ?side4 ?side5 ?side6 ?side7 ?side8 A21.out).mono ?_
     (case side1 => repeat (first | exact (Kd.R_reads' HO184.out).2.2 | (with_reducible refine Kd.C_alloc ?_ _) | (with_reducible refine Kd.C_drewN ?_ _) | (with_reducible refine Kd.C_drew ?_)))
     (case side2 => exact (Kd.R_reads' HO184.out).2.1)
     (case side3 => repeat (first | exact (Kd.R_reads' HO189.out).2.2 | (with_reducible refine Kd.C_alloc ?_ _) | (with_reducible refine Kd.C_drewN ?_ _) | (with_reducible refine Kd.C_drew ?_)))
     (case side4 => exact (Kd.R_reads' HO189.out).2.1)
     (case side5 => repeat (first | exact (Kd.R_reads' HO196.out).2.2 | (with_reducible refine Kd.C_alloc ?_ _) | (with_reducible refine Kd.C_drewN ?_ _) | (with_reducible refine Kd.C_drew ?_)))
     (case side6 => exact (Kd.R_reads' HO196.out).2.1)
     (case side7 => repeat (first | exact (Kd.R_reads' HO201.out).2.2 | (with_reducible refine Kd.C_alloc ?_ _) | (with_reducible refine Kd.C_drewN ?_ _) | (with_reducible refine Kd.C_drew ?_)))
     (case side8 => exact (Kd.R_reads' HO201.out).2.1)
     rintro e w168 ⟨rfl, hb⟩
     refine ⟨_, rfl, ?_⟩
     have n0_ := Aside0.mk (Kd.R_below (qR HO184) hb)
     have n1_ := Aside0.mk (Kd.R_below (qR HO189) hb)
     have n2_ := Aside0.mk (Kd.R_below (qR HO196) hb)
     have n3_ := Aside0.mk (Kd.R_below (qR HO201) hb)
     have n4_ := Aside0.mk (blk_below (qK BK176) hb)
     have n5_ := Aside0.mk (blk_below (qK BK177) hb)
     have n6_ := Aside0.mk (below_step (by repeat (with_reducible first | exact HB.out | apply bA | apply bN | apply bD | refine bS ?_ GE176.out | refine bS ?_ GE177.out)) hb)
     clear HO184
     clear HO189
     clear HO196
     clear HO201
     clear BK176
     clear BK177
     clear HB
     have HO184 := n0_
     have HO189 := n1_
     have HO196 := n2_
     have HO201 := n3_
     have BK176 := n4_
     have BK177 := n5_
     have HB := n6_
     clear n0_ n1_ n2_ n3_ n4_ n5_ n6_
     (try clear hb)
     (try clear hb2)
     (try clear hk)
     (try clear hi)
     refine hK.out _ _ ⟨cC BK176 0, cC BK176 1, cC BK176 2, cC BK176 3, cC BK176 4, cC BK176 5, cC BK176 6, cC BK176 7, cC BK177 0, cC BK177 1, cC BK177 2, cC BK177 3, cC BK177 4, cC BK177 5, cC BK177 6, cC BK177 7⟩ (fun hHeld => ?_)
     clear hK K
     refine norm_ (a' := ?_) ?_ ?_
     rotate_left
     ·show Act.put _ (some 24) _ = _
      simp only [Act.put, sA, sZ, sS, i64_w]
      rfl
     refine pure_ (i := 5) (N := some 6) (v := ?_) (a' := ?_) (bR [6]) rfl rfl (by kernel_rfl) (fun _ _ _ h => h) (Or.inl ⟨by rfl, ?_⟩) ?_ ?_
     rotate_left; (intro w'; go_simp; with_reducible rfl); rotate_left; (simp only [Act.put, sA, sZ, sS, i64_w]; rfl)
     refine done_ (by kernel_rfl) ?_
     have hcz169_0 : w168.cell? ⟨gb176, 0, none⟩ = some (.int .i64 a0_0) := cC BK176 0
     have hcz169_1 : w168.cell? ⟨gb176, 1, none⟩ = some (.int .i64 a0_1) := cC BK176 1
     have hcz169_2 : w168.cell? ⟨gb176, 2, none⟩ = some (.slice A0_2 l0_2.length c0_2) := cC BK176 2
     have hcz169_3 : w168.cell? ⟨gb176, 3, none⟩ = some (.int .i64 a0_3) := cC BK176 3
     have hcz169_4 : w168.cell? ⟨gb176, 4, none⟩ = some (.int .i64 a0_4) := cC BK176 4
     have hcz169_5 : w168.cell? ⟨gb176, 5, none⟩ = some (.slice A0_5 l0_5.length c0_5) := cC BK176 5
     have hcz169_6 : w168.cell? ⟨gb176, 6, none⟩ = some (.int .i64 a0_6) := cC BK176 6
     have hcz169_7 : w168.cell? ⟨gb176, 7, none⟩ = some (.int .i64 a0_7) := cC BK176 7
     have hfz169_0 := blk_frozen BK176.out 0
     have hfz169_1 := blk_frozen BK176.out 1
     have hfz169_2 := blk_frozen BK176.out 2
     have hfz169_3 := blk_frozen BK176.out 3
     have hfz169_4 := blk_frozen BK176.out 4
     have hfz169_5 := blk_frozen BK176.out 5
     have hfz169_6 := blk_frozen BK176.out 6
     have hfz169_7 := blk_frozen BK176.out 7
     try go_wp2_with (first | ((with_reducible refine gate_callee (f := 30) rfl ?_); refine goesL_ (some 26) rfl rfl Try.func30 (by kernel_rfl) rfl #[.agg #[.int .i64 a0_0, .int .i64 a0_1, .slice A0_2 l0_2.length c0_2, .int .i64 a0_3, .int .i64 a0_4, .slice A0_5 l0_5.length c0_5, .int .i64 a0_6, .int .i64 a0_7]] rfl (by (try simp only [mA, mC, mN]); first | done | rfl | (simp only [lD, lT]; rfl)) ?_; (with_reducible refine (laws_toReport.calls k a0_0 a0_1 _ _ l0_2 a0_3 a0_4 _ _ l0_5 a0_6 a0_7 t205 t206 t207 t210 t211 t212 t215 t216 _ ?side1 ?side2 ?side3 ?side4 A22.out).mono ?_); (case side1 => exact qC (Kd.C_below HR0_2.out HB.out)); (case side2 => exact HC0_2.out); (case side3 => exact qC (Kd.C_below HR0_5.out HB.out)); (case side4 => exact HC0_5.out); rintro e w170 ⟨v208, v213, rfl, ho0, ho1, hb⟩; refine ⟨_, rfl, ?_⟩; have n0_ := tO (qR HO184) hb ho0 ho1; have n1_ := tO (qR HO189) hb ho0 ho1; have n2_ := tO (qR HO196) hb ho0 ho1; have n3_ := tO (qR HO201) hb ho0 ho1; have n4_ := Aside0.mk (Kd.R_lower (Kd.R_new' (Kd.R_new' (Kd.R_new' (Kd.R_new' ho0 (Kd.R_lt (qR HO184))) (Kd.R_lt (qR HO189))) (Kd.R_lt (qR HO196))) (Kd.R_lt (qR HO201))) (below_size (by repeat (with_reducible first | exact HB.out | apply bA | apply bN | apply bD | refine bS ?_ GE176.out | refine bS ?_ GE177.out)))); have n5_ := Aside0.mk (Kd.R_lower (Kd.R_new' (Kd.R_new' (Kd.R_new' (Kd.R_new' ho1 (Kd.R_lt (qR HO184))) (Kd.R_lt (qR HO189))) (Kd.R_lt (qR HO196))) (Kd.R_lt (qR HO201))) (below_size (by repeat (with_reducible first | exact HB.out | apply bA | apply bN | apply bD | refine bS ?_ GE176.out | refine bS ?_ GE177.out)))); have n6_ := Aside0.mk (blk_below (qK BK176) hb); have n7_ := Aside0.mk (blk_below (qK BK177) hb); have n8_ := Aside0.mk (below_step (by repeat (with_reducible first | exact HB.out | apply bA | apply bN | apply bD | refine bS ?_ GE176.out | refine bS ?_ GE177.out)) hb); clear HO184; clear HO189; clear HO196; clear HO201; clear BK176; clear BK177; clear HB; have HO184 := n0_; have HO189 := n1_; have HO196 := n2_; have HO201 := n3_; have HO209 := n4_; have HO214 := n5_; have BK176 := n6_; have BK177 := n7_; have HB := n8_; clear n0_ n1_ n2_ n3_ n4_ n5_ n6_ n7_ n8_; (try clear hb); (try clear hb2); (try clear hk); (try clear hi); (try clear ho0); (try clear ho1)) | ((with_reducible refine gate_dst (N := 7) rfl ?_); refine box_event ?hg (N := 7) ?hd (cs := #[.int .i64 0, .int .i64 0, .slice none 0 0, .int .i64 0, .int .i64 0, .slice none 0 0, .int .i64 0, .int .i64 0]) (t := 51) ?hr ?_; (case hd => rfl); (case hg => rfl); (case hr => first | (go_simp; done) | (go_simp; rfl)); intro gb217 hg w171 hbox hb; have n0_ := Aside0.mk (Kd.R_below (qR HO184) hb); have n1_ := Aside0.mk (Kd.R_below (qR HO189) hb); have n2_ := Aside0.mk (Kd.R_below (qR HO196) hb); have n3_ := Aside0.mk (Kd.R_below (qR HO201) hb); have n4_ := Aside0.mk (Kd.R_below (qR HO209) hb); have n5_ := Aside0.mk (Kd.R_below (qR HO214) hb); have n6_ := Aside0.mk (blk_below (qK BK176) hb); have n7_ := Aside0.mk (blk_below (qK BK177) hb); have n8_ := Aside0.mk (below_step (by repeat (with_reducible first | exact HB.out | apply bA | apply bN | apply bD | refine bS ?_ GE176.out | refine bS ?_ GE177.out)) hb); have n9_ := Aside0.mk (hbox); have n10_ := Aside0.mk ((by rw [hg]; exact (below_size (by repeat (with_reducible first | exact HB.out | apply bA | apply bN | apply bD | refine bS ?_ GE176.out | refine bS ?_ GE177.out))) : w.heap.size ≤ gb217)); have n11_ := Aside0.mk ((by rw [hg]; exact (below_size (by repeat (with_reducible first | exact HB.out | apply bA | apply bN | apply bD | refine bS ?_ GE176.out | refine bS ?_ GE177.out))) : w.heap.size ≤ gb217)); have n12_ := Aside0.mk ((by rw [hg]; exact Nat.ne_of_lt (blk_lt (qK BK176)) : gb176 ≠ gb217)); have n13_ := Aside0.mk ((by rw [hg]; exact Nat.ne_of_gt (blk_lt (qK BK176)) : gb217 ≠ gb176)); have n14_ := Aside0.mk ((by rw [hg]; exact Nat.ne_of_lt (blk_lt (qK BK177)) : gb177 ≠ gb217)); have n15_ := Aside0.mk ((by rw [hg]; exact Nat.ne_of_gt (blk_lt (qK BK177)) : gb217 ≠ gb177)); clear HO184; clear HO189; clear HO196; clear HO201; clear HO209; clear HO214; clear BK176; clear BK177; clear HB; have HO184 := n0_; have HO189 := n1_; have HO196 := n2_; have HO201 := n3_; have HO209 := n4_; have HO214 := n5_; have BK176 := n6_; have BK177 := n7_; have HB := n8_; have BK217 := n9_; have GW217 := n10_; have GE217 := n11_; have NB176_217 := n12_; have NB217_176 := n13_; have NB177_217 := n14_; have NB217_177 := n15_; clear n0_ n1_ n2_ n3_ n4_ n5_ n6_ n7_ n8_ n9_ n10_ n11_ n12_ n13_ n14_ n15_; clear hb hbox hg; have hnb172 := NB217_176.out; have hnc172 := NB176_217.out; have hnb173 := NB217_177.out; have hnc173 := NB177_217.out; have hcz174_0 : w171.cell? ⟨gb217, 0, none⟩ = some (.int .i64 0) := cC BK217 0; have hcz174_1 : w171.cell? ⟨gb217, 1, none⟩ = some (.int .i64 0) := cC BK217 1; have hcz174_2 : w171.cell? ⟨gb217, 2, none⟩ = some (.slice none 0 0) := cC BK217 2; have hcz174_3 : w171.cell? ⟨gb217, 3, none⟩ = some (.int .i64 0) := cC BK217 3; have hcz174_4 : w171.cell? ⟨gb217, 4, none⟩ = some (.int .i64 0) := cC BK217 4; have hcz174_5 : w171.cell? ⟨gb217, 5, none⟩ = some (.slice none 0 0) := cC BK217 5; have hcz174_6 : w171.cell? ⟨gb217, 6, none⟩ = some (.int .i64 0) := cC BK217 6; have hcz174_7 : w171.cell? ⟨gb217, 7, none⟩ = some (.int .i64 0) := cC BK217 7; have hfz174_0 := blk_frozen BK217.out 0; have hfz174_1 := blk_frozen BK217.out 1; have hfz174_2 := blk_frozen BK217.out 2; have hfz174_3 := blk_frozen BK217.out 3; have hfz174_4 := blk_frozen BK217.out 4; have hfz174_5 := blk_frozen BK217.out 5; have hfz174_6 := blk_frozen BK217.out 6; have hfz174_7 := blk_frozen BK217.out 7; obtain ⟨Ao175, co175, eo175⟩ := Kd.R_slice HO209.out; subst eo175; obtain ⟨Ao176, co176, eo176⟩ := Kd.R_slice HO214.out; subst eo176; have hcz177_0 : w171.cell? ⟨gb177, 0, none⟩ = some (.int .i64 a1_0) := cC BK177 0; have hcz177_1 : w171.cell? ⟨gb177, 1, none⟩ = some (.int .i64 a1_1) := cC BK177 1; have hcz177_2 : w171.cell? ⟨gb177, 2, none⟩ = some (.slice A1_2 l1_2.length c1_2) := cC BK177 2; have hcz177_3 : w171.cell? ⟨gb177, 3, none⟩ = some (.int .i64 a1_3) := cC BK177 3; have hcz177_4 : w171.cell? ⟨gb177, 4, none⟩ = some (.int .i64 a1_4) := cC BK177 4; have hcz177_5 : w171.cell? ⟨gb177, 5, none⟩ = some (.slice A1_5 l1_5.length c1_5) := cC BK177 5; have hcz177_6 : w171.cell? ⟨gb177, 6, none⟩ = some (.int .i64 a1_6) := cC BK177 6; have hcz177_7 : w171.cell? ⟨gb177, 7, none⟩ = some (.int .i64 a1_7) := cC BK177 7; have hfz177_0 := blk_frozen BK177.out 0; have hfz177_1 := blk_frozen BK177.out 1; have hfz177_2 := blk_frozen BK177.out 2; have hfz177_3 := blk_frozen BK177.out 3; have hfz177_4 := blk_frozen BK177.out 4; have hfz177_5 := blk_frozen BK177.out 5; have hfz177_6 := blk_frozen BK177.out 6; have hfz177_7 := blk_frozen BK177.out 7) | ((with_reducible refine gate_callee (f := 30) rfl ?_); refine goesL_ (some 28) rfl rfl Try.func30 (by kernel_rfl) rfl #[.agg #[.int .i64 a1_0, .int .i64 a1_1, .slice A1_2 l1_2.length c1_2, .int .i64 a1_3, .int .i64 a1_4, .slice A1_5 l1_5.length c1_5, .int .i64 a1_6, .int .i64 a1_7]] rfl (by (try simp only [mA, mC, mN]); first | done | rfl | (simp only [lD, lT]; rfl)) ?_; (with_reducible refine (laws_toReport.calls k a1_0 a1_1 _ _ l1_2 a1_3 a1_4 _ _ l1_5 a1_6 a1_7 t218 t219 t220 t223 t224 t225 t228 t229 _ ?side1 ?side2 ?side3 ?side4 A23.out).mono ?_); (case side1 => exact Kd.C_below HR1_2.out (by repeat (with_reducible first | exact HB.out | apply bA | apply bN | apply bD | refine bS ?_ GE176.out | refine bS ?_ GE177.out | refine bS ?_ GE217.out))); (case side2 => exact HC1_2.out); (case side3 => exact Kd.C_below HR1_5.out (by repeat (with_reducible first | exact HB.out | apply bA | apply bN | apply bD | refine bS ?_ GE176.out | refine bS ?_ GE177.out | refine bS ?_ GE217.out))); (case side4 => exact HC1_5.out); rintro e w178 ⟨v221, v226, rfl, ho0, ho1, hb⟩; refine ⟨_, rfl, ?_⟩; have n0_ := tO (by (with_reducible repeat first | apply rA | apply rN | apply rD); exact (far8 HO184 BK217)) hb ho0 ho1; have n1_ := tO (by (with_reducible repeat first | apply rA | apply rN | apply rD); exact (far8 HO189 BK217)) hb ho0 ho1; have n2_ := tO (by (with_reducible repeat first | apply rA | apply rN | apply rD); exact (far8 HO196 BK217)) hb ho0 ho1; have n3_ := tO (by (with_reducible repeat first | apply rA | apply rN | apply rD); exact (far8 HO201 BK217)) hb ho0 ho1; have n4_ := tO (by (with_reducible repeat first | apply rA | apply rN | apply rD); exact (far8 HO209 BK217)) hb ho0 ho1; have n5_ := tO (by (with_reducible repeat first | apply rA | apply rN | apply rD); exact (far8 HO214 BK217)) hb ho0 ho1; have n6_ := Aside0.mk (Kd.R_lower (Kd.R_new' (Kd.R_new' (Kd.R_new' (Kd.R_new' (Kd.R_new' (Kd.R_new' ho0 (Kd.R_lt (by (with_reducible repeat first | apply rA | apply rN | apply rD); exact (far8 HO184 BK217)))) (Kd.R_lt (by (with_reducible repeat first | apply rA | apply rN | apply rD); exact (far8 HO189 BK217)))) (Kd.R_lt (by (with_reducible repeat first | apply rA | apply rN | apply rD); exact (far8 HO196 BK217)))) (Kd.R_lt (by (with_reducible repeat first | apply rA | apply rN | apply rD); exact (far8 HO201 BK217)))) (Kd.R_lt (by (with_reducible repeat first | apply rA | apply rN | apply rD); exact (far8 HO209 BK217)))) (Kd.R_lt (by (with_reducible repeat first | apply rA | apply rN | apply rD); exact (far8 HO214 BK217)))) (below_size (by repeat (with_reducible first | exact HB.out | apply bA | apply bN | apply bD | refine bS ?_ GE176.out | refine bS ?_ GE177.out | refine bS ?_ GE217.out)))); have n7_ := Aside0.mk (Kd.R_lower (Kd.R_new' (Kd.R_new' (Kd.R_new' (Kd.R_new' (Kd.R_new' (Kd.R_new' ho1 (Kd.R_lt (by (with_reducible repeat first | apply rA | apply rN | apply rD); exact (far8 HO184 BK217)))) (Kd.R_lt (by (with_reducible repeat first | apply rA | apply rN | apply rD); exact (far8 HO189 BK217)))) (Kd.R_lt (by (with_reducible repeat first | apply rA | apply rN | apply rD); exact (far8 HO196 BK217)))) (Kd.R_lt (by (with_reducible repeat first | apply rA | apply rN | apply rD); exact (far8 HO201 BK217)))) (Kd.R_lt (by (with_reducible repeat first | apply rA | apply rN | apply rD); exact (far8 HO209 BK217)))) (Kd.R_lt (by (with_reducible repeat first | apply rA | apply rN | apply rD); exact (far8 HO214 BK217)))) (below_size (by repeat (with_reducible first | exact HB.out | apply bA | apply bN | apply bD | refine bS ?_ GE176.out | refine bS ?_ GE177.out | refine bS ?_ GE217.out)))); have n8_ := Aside0.mk (blk_below (g := gb176) (o := .cells #[.int .i64 a0_0, .int .i64 a0_1, .slice A0_2 l0_2.length c0_2, .int .i64 a0_3, .int .i64 a0_4, .slice A0_5 l0_5.length c0_5, .int .i64 a0_6, .int .i64 a0_7] 46 (0, 0)) (by (with_reducible repeat first | refine kN ?_ _ | refine kD ?_ | refine kA ?_ _); exact blk8 BK176.out NB176_217) hb); have n9_ := Aside0.mk (blk_below (g := gb177) (o := .cells #[.int .i64 a1_0, .int .i64 a1_1, .slice A1_2 l1_2.length c1_2, .int .i64 a1_3, .int .i64 a1_4, .slice A1_5 l1_5.length c1_5, .int .i64 a1_6, .int .i64 a1_7] 46 (0, 0)) (by (with_reducible repeat first | refine kN ?_ _ | refine kD ?_ | refine kA ?_ _); exact blk8 BK177.out NB177_217) hb); have n10_ := Aside0.mk (blk_below (g := gb217) (o := .cells #[.int .i64 t205, .int .i64 t206, .slice Ao175 t207.length co175, .int .i64 t210, .int .i64 t211, .slice Ao176 t212.length co176, .int .i64 t215, .int .i64 t216] 51 (0, 0)) (by (with_reducible repeat first | refine kN ?_ _ | refine kD ?_ | refine kA ?_ _); refine blk_put (cs := #[.int .i64 t205, .int .i64 t206, .slice Ao175 t207.length co175, .int .i64 t210, .int .i64 t211, .slice Ao176 t212.length co176, .int .i64 t215, .int .i64 0]) ?_ 7 _ rfl; (with_reducible repeat first | refine kN ?_ _ | refine kD ?_ | refine kA ?_ _); refine blk_put (cs := #[.int .i64 t205, .int .i64 t206, .slice Ao175 t207.length co175, .int .i64 t210, .int .i64 t211, .slice Ao176 t212.length co176, .int .i64 0, .int .i64 0]) ?_ 6 _ rfl; (with_reducible repeat first | refine kN ?_ _ | refine kD ?_ | refine kA ?_ _); refine blk_put (cs := #[.int .i64 t205, .int .i64 t206, .slice Ao175 t207.length co175, .int .i64 t210, .int .i64 t211, .slice none 0 0, .int .i64 0, .int .i64 0]) ?_ 5 _ rfl; (with_reducible repeat first | refine kN ?_ _ | refine kD ?_ | refine kA ?_ _); refine blk_put (cs := #[.int .i64 t205, .int .i64 t206, .slice Ao175 t207.length co175, .int .i64 t210, .int .i64 0, .slice none 0 0, .int .i64 0, .int .i64 0]) ?_ 4 _ rfl; (with_reducible repeat first | refine kN ?_ _ | refine kD ?_ | refine kA ?_ _); refine blk_put (cs := #[.int .i64 t205, .int .i64 t206, .slice Ao175 t207.length co175, .int .i64 0, .int .i64 0, .slice none 0 0, .int .i64 0, .int .i64 0]) ?_ 3 _ rfl; (with_reducible repeat first | refine kN ?_ _ | refine kD ?_ | refine kA ?_ _); refine blk_put (cs := #[.int .i64 t205, .int .i64 t206, .slice none 0 0, .int .i64 0, .int .i64 0, .slice none 0 0, .int .i64 0, .int .i64 0]) ?_ 2 _ rfl; (with_reducible repeat first | refine kN ?_ _ | refine kD ?_ | refine kA ?_ _); refine blk_put (cs := #[.int .i64 t205, .int .i64 0, .slice none 0 0, .int .i64 0, .int .i64 0, .slice none 0 0, .int .i64 0, .int .i64 0]) ?_ 1 _ rfl; (with_reducible repeat first | refine kN ?_ _ | refine kD ?_ | refine kA ?_ _); refine blk_put (cs := #[.int .i64 0, .int .i64 0, .slice none 0 0, .int .i64 0, .int .i64 0, .slice none 0 0, .int .i64 0, .int .i64 0]) ?_ 0 _ rfl; (with_reducible repeat first | refine kN ?_ _ | refine kD ?_ | refine kA ?_ _); exact BK217.out) hb); have n11_ := Aside0.mk (below_step (by repeat (with_reducible first | exact HB.out | apply bA | apply bN | apply bD | refine bS ?_ GE176.out | refine bS ?_ GE177.out | refine bS ?_ GE217.out)) hb); clear HO184; clear HO189; clear HO196; clear HO201; clear HO209; clear HO214; clear BK176; clear BK177; clear BK217; clear HB; have HO184 := n0_; have HO189 := n1_; have HO196 := n2_; have HO201 := n3_; have HO209 := n4_; have HO214 := n5_; have HO222 := n6_; have HO227 := n7_; have BK176 := n8_; have BK177 := n9_; have BK217 := n10_; have HB := n11_; clear n0_ n1_ n2_ n3_ n4_ n5_ n6_ n7_ n8_ n9_ n10_ n11_; (try clear hb); (try clear hb2); (try clear hk); (try clear hi); (try clear ho0); (try clear ho1)) | ((with_reducible refine gate_dst (N := 8) rfl ?_); refine box_event ?hg (N := 8) ?hd (cs := #[.int .i64 0, .int .i64 0, .slice none 0 0, .int .i64 0, .int .i64 0, .slice none 0 0, .int .i64 0, .int .i64 0]) (t := 51) ?hr ?_; (case hd => rfl); (case hg => rfl); (case hr => first | (go_simp; done) | (go_simp; rfl)); intro gb230 hg w179 hbox hb; have n0_ := Aside0.mk (Kd.R_below (qR HO184) hb); have n1_ := Aside0.mk (Kd.R_below (qR HO189) hb); have n2_ := Aside0.mk (Kd.R_below (qR HO196) hb); have n3_ := Aside0.mk (Kd.R_below (qR HO201) hb); have n4_ := Aside0.mk (Kd.R_below (qR HO209) hb); have n5_ := Aside0.mk (Kd.R_below (qR HO214) hb); have n6_ := Aside0.mk (Kd.R_below (qR HO222) hb); have n7_ := Aside0.mk (Kd.R_below (qR HO227) hb); have n8_ := Aside0.mk (blk_below (qK BK176) hb); have n9_ := Aside0.mk (blk_below (qK BK177) hb); have n10_ := Aside0.mk (blk_below (qK BK217) hb); have n11_ := Aside0.mk (below_step (by repeat (with_reducible first | exact HB.out | apply bA | apply bN | apply bD | refine bS ?_ GE176.out | refine bS ?_ GE177.out | refine bS ?_ GE217.out)) hb); have n12_ := Aside0.mk (hbox); have n13_ := Aside0.mk ((by rw [hg]; exact (below_size (by repeat (with_reducible first | exact HB.out | apply bA | apply bN | apply bD | refine bS ?_ GE176.out | refine bS ?_ GE177.out | refine bS ?_ GE217.out))) : w.heap.size ≤ gb230)); have n14_ := Aside0.mk ((by rw [hg]; exact (below_size (by repeat (with_reducible first | exact HB.out | apply bA | apply bN | apply bD | refine bS ?_ GE176.out | refine bS ?_ GE177.out | refine bS ?_ GE217.out))) : w.heap.size ≤ gb230)); have n15_ := Aside0.mk ((by rw [hg]; exact Nat.ne_of_lt (blk_lt (qK BK176)) : gb176 ≠ gb230)); have n16_ := Aside0.mk ((by rw [hg]; exact Nat.ne_of_gt (blk_lt (qK BK176)) : gb230 ≠ gb176)); have n17_ := Aside0.mk ((by rw [hg]; exact Nat.ne_of_lt (blk_lt (qK BK177)) : gb177 ≠ gb230)); have n18_ := Aside0.mk ((by rw [hg]; exact Nat.ne_of_gt (blk_lt (qK BK177)) : gb230 ≠ gb177)); have n19_ := Aside0.mk ((by rw [hg]; exact Nat.ne_of_lt (blk_lt (qK BK217)) : gb217 ≠ gb230)); have n20_ := Aside0.mk ((by rw [hg]; exact Nat.ne_of_gt (blk_lt (qK BK217)) : gb230 ≠ gb217)); clear HO184; clear HO189; clear HO196; clear HO201; clear HO209; clear HO214; clear HO222; clear HO227; clear BK176; clear BK177; clear BK217; clear HB; have HO184 := n0_; have HO189 := n1_; have HO196 := n2_; have HO201 := n3_; have HO209 := n4_; have HO214 := n5_; have HO222 := n6_; have HO227 := n7_; have BK176 := n8_; have BK177 := n9_; have BK217 := n10_; have HB := n11_; have BK230 := n12_; have GW230 := n13_; have GE230 := n14_; have NB176_230 := n15_; have NB230_176 := n16_; have NB177_230 := n17_; have NB230_177 := n18_; have NB217_230 := n19_; have NB230_217 := n20_; clear n0_ n1_ n2_ n3_ n4_ n5_ n6_ n7_ n8_ n9_ n10_ n11_ n12_ n13_ n14_ n15_ n16_ n17_ n18_ n19_ n20_; clear hb hbox hg; have hnb180 := NB230_176.out; have hnc180 := NB176_230.out; have hnb181 := NB230_177.out; have hnc181 := NB177_230.out; have hnb182 := NB230_217.out; have hnc182 := NB217_230.out; have hcz183_0 : w179.cell? ⟨gb230, 0, none⟩ = some (.int .i64 0) := cC BK230 0; have hcz183_1 : w179.cell? ⟨gb230, 1, none⟩ = some (.int .i64 0) := cC BK230 1; have hcz183_2 : w179.cell? ⟨gb230, 2, none⟩ = some (.slice none 0 0) := cC BK230 2; have hcz183_3 : w179.cell? ⟨gb230, 3, none⟩ = some (.int .i64 0) := cC BK230 3; have hcz183_4 : w179.cell? ⟨gb230, 4, none⟩ = some (.int .i64 0) := cC BK230 4; have hcz183_5 : w179.cell? ⟨gb230, 5, none⟩ = some (.slice none 0 0) := cC BK230 5; have hcz183_6 : w179.cell? ⟨gb230, 6, none⟩ = some (.int .i64 0) := cC BK230 6; have hcz183_7 : w179.cell? ⟨gb230, 7, none⟩ = some (.int .i64 0) := cC BK230 7; have hfz183_0 := blk_frozen BK230.out 0; have hfz183_1 := blk_frozen BK230.out 1; have hfz183_2 := blk_frozen BK230.out 2; have hfz183_3 := blk_frozen BK230.out 3; have hfz183_4 := blk_frozen BK230.out 4; have hfz183_5 := blk_frozen BK230.out 5; have hfz183_6 := blk_frozen BK230.out 6; have hfz183_7 := blk_frozen BK230.out 7; obtain ⟨Ao184, co184, eo184⟩ := Kd.R_slice HO222.out; subst eo184; obtain ⟨Ao185, co185, eo185⟩ := Kd.R_slice HO227.out; subst eo185; have hcz186_0 : w179.cell? ⟨gb217, 0, none⟩ = some (.int .i64 t205) := cC BK217 0; have hcz186_1 : w179.cell? ⟨gb217, 1, none⟩ = some (.int .i64 t206) := cC BK217 1; have hcz186_2 : w179.cell? ⟨gb217, 2, none⟩ = some (.slice Ao175 t207.length co175) := cC BK217 2; have hcz186_3 : w179.cell? ⟨gb217, 3, none⟩ = some (.int .i64 t210) := cC BK217 3; have hcz186_4 : w179.cell? ⟨gb217, 4, none⟩ = some (.int .i64 t211) := cC BK217 4; have hcz186_5 : w179.cell? ⟨gb217, 5, none⟩ = some (.slice Ao176 t212.length co176) := cC BK217 5; have hcz186_6 : w179.cell? ⟨gb217, 6, none⟩ = some (.int .i64 t215) := cC BK217 6; have hcz186_7 : w179.cell? ⟨gb217, 7, none⟩ = some (.int .i64 t216) := cC BK217 7; have hfz186_0 := blk_frozen BK217.out 0; have hfz186_1 := blk_frozen BK217.out 1; have hfz186_2 := blk_frozen BK217.out 2; have hfz186_3 := blk_frozen BK217.out 3; have hfz186_4 := blk_frozen BK217.out 4; have hfz186_5 := blk_frozen BK217.out 5; have hfz186_6 := blk_frozen BK217.out 6; have hfz186_7 := blk_frozen BK217.out 7) | ((with_reducible refine gate_callee (f := 31) rfl ?_); refine goesL_ (some 31) rfl rfl Try.func31 (by kernel_rfl) rfl #[.agg #[.int .i64 t205, .int .i64 t206, .slice Ao175 t207.length co175, .int .i64 t210, .int .i64 t211, .slice Ao176 t212.length co176, .int .i64 t215, .int .i64 t216], .agg #[.int .i64 t218, .int .i64 t219, .slice Ao184 t220.length co184, .int .i64 t223, .int .i64 t224, .slice Ao185 t225.length co185, .int .i64 t228, .int .i64 t229]] rfl (by (try simp only [mA, mC, mN]); first | done | rfl | (simp only [lD, lT]; rfl)) ?_; (with_reducible refine (impl_IsWider.calls k t205 t206 _ _ t207 t210 t211 _ _ t212 t215 t216 t218 t219 _ _ t220 t223 t224 _ _ t225 t228 t229 t231 _ ?side1 ?side2 ?side3 ?side4 ?side5 ?side6 ?side7 ?side8 A24.out).mono ?_); (case side1 => refine (Kd.R_reads' (e := 3) (base := w.heap.size) (ok := fun k_ => ((((((some k_ ≠ (.slice Ao176 t212.length co176 : Value).ownBlock ∧ some k_ ≠ (.slice Ao164 t182.length co164 : Value).ownBlock) ∧ some k_ ≠ (.slice Ao165 t187.length co165 : Value).ownBlock) ∧ some k_ ≠ (.slice Ao166 t194.length co166 : Value).ownBlock) ∧ some k_ ≠ (.slice Ao167 t199.length co167 : Value).ownBlock) ∧ some k_ ≠ (.slice Ao184 t220.length co184 : Value).ownBlock) ∧ some k_ ≠ (.slice Ao185 t225.length co185 : Value).ownBlock)) (n := t207.length) (c := co175) ?_).2.2; exact (by (with_reducible repeat first | apply rA | apply rN | apply rD); exact (far8 HO209 BK230))); (case side2 => exact (Kd.R_reads' HO209.out).2.1); (case side3 => refine (Kd.R_reads' (e := 3) (base := w.heap.size) (ok := fun k_ => ((((((some k_ ≠ (.slice Ao175 t207.length co175 : Value).ownBlock ∧ some k_ ≠ (.slice Ao164 t182.length co164 : Value).ownBlock) ∧ some k_ ≠ (.slice Ao165 t187.length co165 : Value).ownBlock) ∧ some k_ ≠ (.slice Ao166 t194.length co166 : Value).ownBlock) ∧ some k_ ≠ (.slice Ao167 t199.length co167 : Value).ownBlock) ∧ some k_ ≠ (.slice Ao184 t220.length co184 : Value).ownBlock) ∧ some k_ ≠ (.slice Ao185 t225.length co185 : Value).ownBlock)) (n := t212.length) (c := co176) ?_).2.2; exact (by (with_reducible repeat first | apply rA | apply rN | apply rD); exact (far8 HO214 BK230))); (case side4 => exact (Kd.R_reads' HO214.out).2.1); (case side5 => refine (Kd.R_reads' (e := 3) (base := w.heap.size) (ok := fun k_ => ((((((some k_ ≠ (.slice Ao185 t225.length co185 : Value).ownBlock ∧ some k_ ≠ (.slice Ao164 t182.length co164 : Value).ownBlock) ∧ some k_ ≠ (.slice Ao165 t187.length co165 : Value).ownBlock) ∧ some k_ ≠ (.slice Ao166 t194.length co166 : Value).ownBlock) ∧ some k_ ≠ (.slice Ao167 t199.length co167 : Value).ownBlock) ∧ some k_ ≠ (.slice Ao175 t207.length co175 : Value).ownBlock) ∧ some k_ ≠ (.slice Ao176 t212.length co176 : Value).ownBlock)) (n := t220.length) (c := co184) ?_).2.2; exact (by (with_reducible repeat first | apply rA | apply rN | apply rD); exact (far8 HO222 BK230))); (case side6 => exact (Kd.R_reads' HO222.out).2.1); (case side7 => refine (Kd.R_reads' (e := 3) (base := w.heap.size) (ok := fun k_ => ((((((some k_ ≠ (.slice Ao184 t220.length co184 : Value).ownBlock ∧ some k_ ≠ (.slice Ao164 t182.length co164 : Value).ownBlock) ∧ some k_ ≠ (.slice Ao165 t187.length co165 : Value).ownBlock) ∧ some k_ ≠ (.slice Ao166 t194.length co166 : Value).ownBlock) ∧ some k_ ≠ (.slice Ao167 t199.length co167 : Value).ownBlock) ∧ some k_ ≠ (.slice Ao175 t207.length co175 : Value).ownBlock) ∧ some k_ ≠ (.slice Ao176 t212.length co176 : Value).ownBlock)) (n := t225.length) (c := co185) ?_).2.2; exact (by (with_reducible repeat first | apply rA | apply rN | apply rD); exact (far8 HO227 BK230))); (case side8 => exact (Kd.R_reads' HO227.out).2.1); rintro e w187 ⟨rfl, hb⟩; refine ⟨_, rfl, ?_⟩; have n0_ := Aside0.mk (Kd.R_below (by (with_reducible repeat first | apply rA | apply rN | apply rD); exact (far8 HO184 BK230)) hb); have n1_ := Aside0.mk (Kd.R_below (by (with_reducible repeat first | apply rA | apply rN | apply rD); exact (far8 HO189 BK230)) hb); have n2_ := Aside0.mk (Kd.R_below (by (with_reducible repeat first | apply rA | apply rN | apply rD); exact (far8 HO196 BK230)) hb); have n3_ := Aside0.mk (Kd.R_below (by (with_reducible repeat first | apply rA | apply rN | apply rD); exact (far8 HO201 BK230)) hb); have n4_ := Aside0.mk (Kd.R_below (by (with_reducible repeat first | apply rA | apply rN | apply rD); exact (far8 HO209 BK230)) hb); have n5_ := Aside0.mk (Kd.R_below (by (with_reducible repeat first | apply rA | apply rN | apply rD); exact (far8 HO214 BK230)) hb); have n6_ := Aside0.mk (Kd.R_below (by (with_reducible repeat first | apply rA | apply rN | apply rD); exact (far8 HO222 BK230)) hb); have n7_ := Aside0.mk (Kd.R_below (by (with_reducible repeat first | apply rA | apply rN | apply rD); exact (far8 HO227 BK230)) hb); have n8_ := Aside0.mk (blk_below (g := gb176) (o := .cells #[.int .i64 a0_0, .int .i64 a0_1, .slice A0_2 l0_2.length c0_2, .int .i64 a0_3, .int .i64 a0_4, .slice A0_5 l0_5.length c0_5, .int .i64 a0_6, .int .i64 a0_7] 46 (0, 0)) (by (with_reducible repeat first | refine kN ?_ _ | refine kD ?_ | refine kA ?_ _); exact blk8 BK176.out NB176_230) hb); have n9_ := Aside0.mk (blk_below (g := gb177) (o := .cells #[.int .i64 a1_0, .int .i64 a1_1, .slice A1_2 l1_2.length c1_2, .int .i64 a1_3, .int .i64 a1_4, .slice A1_5 l1_5.length c1_5, .int .i64 a1_6, .int .i64 a1_7] 46 (0, 0)) (by (with_reducible repeat first | refine kN ?_ _ | refine kD ?_ | refine kA ?_ _); exact blk8 BK177.out NB177_230) hb); have n10_ := Aside0.mk (blk_below (g := gb217) (o := .cells #[.int .i64 t205, .int .i64 t206, .slice Ao175 t207.length co175, .int .i64 t210, .int .i64 t211, .slice Ao176 t212.length co176, .int .i64 t215, .int .i64 t216] 51 (0, 0)) (by (with_reducible repeat first | refine kN ?_ _ | refine kD ?_ | refine kA ?_ _); exact blk8 BK217.out NB217_230) hb); have n11_ := Aside0.mk (blk_below (g := gb230) (o := .cells #[.int .i64 t218, .int .i64 t219, .slice Ao184 t220.length co184, .int .i64 t223, .int .i64 t224, .slice Ao185 t225.length co185, .int .i64 t228, .int .i64 t229] 51 (0, 0)) (by (with_reducible repeat first | refine kN ?_ _ | refine kD ?_ | refine kA ?_ _); refine blk_put (cs := #[.int .i64 t218, .int .i64 t219, .slice Ao184 t220.length co184, .int .i64 t223, .int .i64 t224, .slice Ao185 t225.length co185, .int .i64 t228, .int .i64 0]) ?_ 7 _ rfl; (with_reducible repeat first | refine kN ?_ _ | refine kD ?_ | refine kA ?_ _); refine blk_put (cs := #[.int .i64 t218, .int .i64 t219, .slice Ao184 t220.length co184, .int .i64 t223, .int .i64 t224, .slice Ao185 t225.length co185, .int .i64 0, .int .i64 0]) ?_ 6 _ rfl; (with_reducible repeat first | refine kN ?_ _ | refine kD ?_ | refine kA ?_ _); refine blk_put (cs := #[.int .i64 t218, .int .i64 t219, .slice Ao184 t220.length co184, .int .i64 t223, .int .i64 t224, .slice none 0 0, .int .i64 0, .int .i64 0]) ?_ 5 _ rfl; (with_reducible repeat first | refine kN ?_ _ | refine kD ?_ | refine kA ?_ _); refine blk_put (cs := #[.int .i64 t218, .int .i64 t219, .slice Ao184 t220.length co184, .int .i64 t223, .int .i64 0, .slice none 0 0, .int .i64 0, .int .i64 0]) ?_ 4 _ rfl; (with_reducible repeat first | refine kN ?_ _ | refine kD ?_ | refine kA ?_ _); refine blk_put (cs := #[.int .i64 t218, .int .i64 t219, .slice Ao184 t220.length co184, .int .i64 0, .int .i64 0, .slice none 0 0, .int .i64 0, .int .i64 0]) ?_ 3 _ rfl; (with_reducible repeat first | refine kN ?_ _ | refine kD ?_ | refine kA ?_ _); refine blk_put (cs := #[.int .i64 t218, .int .i64 t219, .slice none 0 0, .int .i64 0, .int .i64 0, .slice none 0 0, .int .i64 0, .int .i64 0]) ?_ 2 _ rfl; (with_reducible repeat first | refine kN ?_ _ | refine kD ?_ | refine kA ?_ _); refine blk_put (cs := #[.int .i64 t218, .int .i64 0, .slice none 0 0, .int .i64 0, .int .i64 0, .slice none 0 0, .int .i64 0, .int .i64 0]) ?_ 1 _ rfl; (with_reducible repeat first | refine kN ?_ _ | refine kD ?_ | refine kA ?_ _); refine blk_put (cs := #[.int .i64 0, .int .i64 0, .slice none 0 0, .int .i64 0, .int .i64 0, .slice none 0 0, .int .i64 0, .int .i64 0]) ?_ 0 _ rfl; (with_reducible repeat first | refine kN ?_ _ | refine kD ?_ | refine kA ?_ _); exact BK230.out) hb); have n12_ := Aside0.mk (below_step (by repeat (with_reducible first | exact HB.out | apply bA | apply bN | apply bD | refine bS ?_ GE176.out | refine bS ?_ GE177.out | refine bS ?_ GE217.out | refine bS ?_ GE230.out)) hb); clear HO184; clear HO189; clear HO196; clear HO201; clear HO209; clear HO214; clear HO222; clear HO227; clear BK176; clear BK177; clear BK217; clear BK230; clear HB; have HO184 := n0_; have HO189 := n1_; have HO196 := n2_; have HO201 := n3_; have HO209 := n4_; have HO214 := n5_; have HO222 := n6_; have HO227 := n7_; have BK176 := n8_; have BK177 := n9_; have BK217 := n10_; have BK230 := n11_; have HB := n12_; clear n0_ n1_ n2_ n3_ n4_ n5_ n6_ n7_ n8_ n9_ n10_ n11_ n12_; (try clear hb); (try clear hb2); (try clear hk); (try clear hi)))
     have n0_ := Aside0.mk (Kd.R_drew HO184.out)
     have n1_ := Aside0.mk (Kd.R_drew HO189.out)
     have n2_ := Aside0.mk (Kd.R_drew HO196.out)
     have n3_ := Aside0.mk (Kd.R_drew HO201.out)
     have n4_ := Aside0.mk (Kd.R_drew HO209.out)
     have n5_ := Aside0.mk (Kd.R_drew HO214.out)
     have n6_ := Aside0.mk (Kd.R_drew HO222.out)
     have n7_ := Aside0.mk (Kd.R_drew HO227.out)
     have n8_ := Aside0.mk (blk_drew BK176.out)
     have n9_ := Aside0.mk (blk_drew BK177.out)
     have n10_ := Aside0.mk (blk_drew BK217.out)
     have n11_ := Aside0.mk (blk_drew BK230.out)
     have n12_ := Aside0.mk (below_drew1 HB.out)
     clear HO184
     clear HO189
     clear HO196
     clear HO201
     clear HO209
     clear HO214
     clear HO222
     clear HO227
     clear BK176
     clear BK177
     clear BK217
     clear BK230
     clear HB
     have HO184 := n0_
     have HO189 := n1_
     have HO196 := n2_
     have HO201 := n3_
     have HO209 := n4_
     have HO214 := n5_
     have HO222 := n6_
     have HO227 := n7_
     have BK176 := n8_
     have BK177 := n9_
     have BK217 := n10_
     have BK230 := n11_
     have HB := n12_
     clear n0_ n1_ n2_ n3_ n4_ n5_ n6_ n7_ n8_ n9_ n10_ n11_ n12_
     refine start_ (n := 5) (S := fun w' => w'.cell? ⟨gb217, 0, none⟩ = some (.int .i64 t205) ∧ w'.cell? ⟨gb217, 1, none⟩ = some (.int .i64 t206) ∧ w'.cell? ⟨gb217, 2, none⟩ = some (.slice Ao175 t207.length co175) ∧ w'.cell? ⟨gb217, 3, none⟩ = some (.int .i64 t210) ∧ w'.cell? ⟨gb217, 4, none⟩ = some (.int .i64 t211) ∧ w'.cell? ⟨gb217, 5, none⟩ = some (.slice Ao176 t212.length co176) ∧ w'.cell? ⟨gb217, 6, none⟩ = some (.int .i64 t215) ∧ w'.cell? ⟨gb217, 7, none⟩ = some (.int .i64 t216) ∧ w'.cell? ⟨gb176, 0, none⟩ = some (.int .i64 a0_0) ∧ w'.cell? ⟨gb176, 1, none⟩ = some (.int .i64 a0_1) ∧ w'.cell? ⟨gb176, 2, none⟩ = some (.slice A0_2 l0_2.length c0_2) ∧ w'.cell? ⟨gb176, 3, none⟩ = some (.int .i64 a0_3) ∧ w'.cell? ⟨gb176, 4, none⟩ = some (.int .i64 a0_4) ∧ w'.cell? ⟨gb176, 5, none⟩ = some (.slice A0_5 l0_5.length c0_5) ∧ w'.cell? ⟨gb176, 6, none⟩ = some (.int .i64 a0_6) ∧ w'.cell? ⟨gb176, 7, none⟩ = some (.int .i64 a0_7)) (ds := []) #[false, false, false, false, false] (by kernel_rfl) rfl rfl ⟨cC BK217 0, cC BK217 1, cC BK217 2, cC BK217 3, cC BK217 4, cC BK217 5, cC BK217 6, cC BK217 7, cC BK176 0, cC BK176 1, cC BK176 2, cC BK176 3, cC BK176 4, cC BK176 5, cC BK176 6, cC BK176 7⟩ (fun hHeld => ?_)
     generalize w187.drew = w188 at HO184 HO189 HO196 HO201 HO209 HO214 HO222 HO227 BK176 BK177 BK217 BK230 HB hHeld ⊢
     refine take_ (i := 0) (N := some 35) (v := ?_) (a' := ?_) #[true, false, false, false, false] rfl rfl (by kernel_rfl) (fun _ _ _ h => h) (Or.inl ⟨by rfl, ?_⟩) hHeld ?_ ?_
     rotate_left; (rintro w' ⟨s0, s1, s2, s3, s4, s5, s6, s7, s8, s9, s10, s11, s12, s13, s14, s15⟩; go_simp; with_reducible rfl); rotate_left; (simp only [Act.put, sA, sZ, sS, i64_w]; rfl)
     refine take_ (i := 1) (N := some 36) (v := ?_) (a' := ?_) #[true, true, false, false, false] rfl rfl (by kernel_rfl) (fun _ _ _ h => h) (Or.inl ⟨by rfl, ?_⟩) hHeld ?_ ?_
     rotate_left; (rintro w' ⟨s0, s1, s2, s3, s4, s5, s6, s7, s8, s9, s10, s11, s12, s13, s14, s15⟩; go_simp; with_reducible rfl); rotate_left; (simp only [Act.put, sA, sZ, sS, i64_w]; rfl)
     refine one_ (i := 2) (N := some 37) #[true, true, true, false, false] rfl rfl (by kernel_rfl) (by decide) (fun K hK => ?_)
     refine goes_ Try.func30 (by kernel_rfl) rfl #[.agg #[.int .i64 a0_0, .int .i64 a0_1, .slice A0_2 l0_2.length c0_2, .int .i64 a0_3, .int .i64 a0_4, .slice A0_5 l0_5.length c0_5, .int .i64 a0_6, .int .i64 a0_7]] (by rfl) rfl rfl (by (try simp only [mA, mC, mN]); first | done | rfl | (simp only [lD, lT]; rfl)) ?_
     with_reducible refine (laws_toReport.calls k a0_0 a0_1 _ _ l0_2 a0_3 a0_4 _ _ l0_5 a0_6 a0_7 t232 t233 t234 t237 t238 t239 t242 t243 _ ?side1 ?side2 ?side3 ?side4 A60.out).mono ?_
     (case side1 => exact qC (Kd.C_below HR0_2.out HB.out))
     (case side2 => exact HC0_2.out)
     (case side3 => exact qC (Kd.C_below HR0_5.out HB.out))
     (case side4 => exact HC0_5.out)
     rintro e w189 ⟨v235, v240, rfl, ho0, ho1, hb⟩
     refine ⟨_, rfl, ?_⟩
     have n0_ := tO (qR HO184) hb ho0 ho1
     have n1_ := tO (qR HO189) hb ho0 ho1
     have n2_ := tO (qR HO196) hb ho0 ho1
     have n3_ := tO (qR HO201) hb ho0 ho1
     have n4_ := tO (qR HO209) hb ho0 ho1
     have n5_ := tO (qR HO214) hb ho0 ho1
     have n6_ := tO (qR HO222) hb ho0 ho1
     have n7_ := tO (qR HO227) hb ho0 ho1
     have n8_ := Aside0.mk (Kd.R_lower (Kd.R_new' (Kd.R_new' (Kd.R_new' (Kd.R_new' (Kd.R_new' (Kd.R_new' (Kd.R_new' (Kd.R_new' ho0 (Kd.R_lt (qR HO184))) (Kd.R_lt (qR HO189))) (Kd.R_lt (qR HO196))) (Kd.R_lt (qR HO201))) (Kd.R_lt (qR HO209))) (Kd.R_lt (qR HO214))) (Kd.R_lt (qR HO222))) (Kd.R_lt (qR HO227))) (below_size (by repeat (with_reducible first | exact HB.out | apply bA | apply bN | apply bD | refine bS ?_ GE176.out | refine bS ?_ GE177.out | refine bS ?_ GE217.out | refine bS ?_ GE230.out))))
     have n9_ := Aside0.mk (Kd.R_lower (Kd.R_new' (Kd.R_new' (Kd.R_new' (Kd.R_new' (Kd.R_new' (Kd.R_new' (Kd.R_new' (Kd.R_new' ho1 (Kd.R_lt (qR HO184))) (Kd.R_lt (qR HO189))) (Kd.R_lt (qR HO196))) (Kd.R_lt (qR HO201))) (Kd.R_lt (qR HO209))) (Kd.R_lt (qR HO214))) (Kd.R_lt (qR HO222))) (Kd.R_lt (qR HO227))) (below_size (by repeat (with_reducible first | exact HB.out | apply bA | apply bN | apply bD | refine bS ?_ GE176.out | refine bS ?_ GE177.out | refine bS ?_ GE217.out | refine bS ?_ GE230.out))))
     have n10_ := Aside0.mk (blk_below (qK BK176) hb)
     have n11_ := Aside0.mk (blk_below (qK BK177) hb)
     have n12_ := Aside0.mk (blk_below (qK BK217) hb)
     have n13_ := Aside0.mk (blk_below (qK BK230) hb)
     have n14_ := Aside0.mk (below_step (by repeat (with_reducible first | exact HB.out | apply bA | apply bN | apply bD | refine bS ?_ GE176.out | refine bS ?_ GE177.out | refine bS ?_ GE217.out | refine bS ?_ GE230.out)) hb)
     clear HO184
     clear HO189
     clear HO196
     clear HO201
     clear HO209
     clear HO214
     clear HO222
     clear HO227
     clear BK176
     clear BK177
     clear BK217
     clear BK230
     clear HB
     have HO184 := n0_
     have HO189 := n1_
     have HO196 := n2_
     have HO201 := n3_
     have HO209 := n4_
     have HO214 := n5_
     have HO222 := n6_
     have HO227 := n7_
     have HO236 := n8_
     have HO241 := n9_
     have BK176 := n10_
     have BK177 := n11_
     have BK217 := n12_
     have BK230 := n13_
     have HB := n14_
     clear n0_ n1_ n2_ n3_ n4_ n5_ n6_ n7_ n8_ n9_ n10_ n11_ n12_ n13_ n14_
     (try clear hb)
     (try clear hb2)
     (try clear hk)
     (try clear hi)
     (try clear ho0)
     (try clear ho1)
     obtain ⟨Ao190, co190, eo190⟩ := Kd.R_slice HO236.out
     (first | subst eo190 | (injection eo190 with f1_ f2_ f3_; have f4_ := f1_.symm; have f5_ := f3_.symm; clear f1_ f2_ f3_; subst f4_; subst f5_))
     obtain ⟨Ao191, co191, eo191⟩ := Kd.R_slice HO241.out
     (first | subst eo191 | (injection eo191 with f1_ f2_ f3_; have f4_ := f1_.symm; have f5_ := f3_.symm; clear f1_ f2_ f3_; subst f4_; subst f5_))
     refine hK.out _ _ ⟨cC BK217 0, cC BK217 1, cC BK217 2, cC BK217 3, cC BK217 4, cC BK217 5, cC BK217 6, cC BK217 7, cC BK176 0, cC BK176 1, cC BK176 2, cC BK176 3, cC BK176 4, cC BK176 5, cC BK176 6, cC BK176 7⟩ (fun hHeld => ?_)
     clear hK K
     refine norm_ (a' := ?_) ?_ ?_
     rotate_left
     ·show Act.put _ (some 37) _ = _
      simp only [Act.put, sA, sZ, sS, i64_w]
      rfl
     refine one_ (i := 3) (N := some 38) #[true, true, true, true, false] rfl rfl (by kernel_rfl) (by decide) (fun K hK => ?_)
     refine goes_ Try.func32 (by kernel_rfl) rfl #[.agg #[.int .i64 t205, .int .i64 t206, .slice Ao175 t207.length co175, .int .i64 t210, .int .i64 t211, .slice Ao176 t212.length co176, .int .i64 t215, .int .i64 t216], .agg #[.int .i64 t232, .int .i64 t233, .slice Ao190 t234.length co190, .int .i64 t237, .int .i64 t238, .slice Ao191 t239.length co191, .int .i64 t242, .int .i64 t243]] (by rfl) rfl rfl (by (try simp only [mA, mC, mN]); first | done | rfl | (simp only [lD, lT]; rfl)) ?_
     with_reducible refine (laws_eqReport.calls k t205 t206 _ _ t207 t210 t211 _ _ t212 t215 t216 t232 t233 _ _ t234 t237 t238 _ _ t239 t242 t243 false _ ?side1 ?side2 ?side3 ?side4 ?side5 ?side6 ?side7 ?side8 A61.out).mono ?_
     (case side1 => repeat (first | exact (Kd.R_reads' HO209.out).2.2 | (with_reducible refine Kd.C_alloc ?_ _) | (with_reducible refine Kd.C_drewN ?_ _) | (with_reducible refine Kd.C_drew ?_)))
     (case side2 => exact (Kd.R_reads' HO209.out).2.1)
     (case side3 => repeat (first | exact (Kd.R_reads' HO214.out).2.2 | (with_reducible refine Kd.C_alloc ?_ _) | (with_reducible refine Kd.C_drewN ?_ _) | (with_reducible refine Kd.C_drew ?_)))
     (case side4 => exact (Kd.R_reads' HO214.out).2.1)
     (case side5 => repeat (first | exact (Kd.R_reads' HO236.out).2.2 | (with_reducible refine Kd.C_alloc ?_ _) | (with_reducible refine Kd.C_drewN ?_ _) | (with_reducible refine Kd.C_drew ?_)))
     (case side6 => exact (Kd.R_reads' HO236.out).2.1)
     (case side7 => repeat (first | exact (Kd.R_reads' HO241.out).2.2 | (with_reducible refine Kd.C_alloc ?_ _) | (with_reducible refine Kd.C_drewN ?_ _) | (with_reducible refine Kd.C_drew ?_)))
     (case side8 => exact (Kd.R_reads' HO241.out).2.1)
     rintro e w192 ⟨rfl, hb⟩
     refine ⟨_, rfl, ?_⟩
     have n0_ := Aside0.mk (Kd.R_below (qR HO184) hb)
     have n1_ := Aside0.mk (Kd.R_below (qR HO189) hb)
     have n2_ := Aside0.mk (Kd.R_below (qR HO196) hb)
     have n3_ := Aside0.mk (Kd.R_below (qR HO201) hb)
     have n4_ := Aside0.mk (Kd.R_below (qR HO209) hb)
     have n5_ := Aside0.mk (Kd.R_below (qR HO214) hb)
     have n6_ := Aside0.mk (Kd.R_below (qR HO222) hb)
     have n7_ := Aside0.mk (Kd.R_below (qR HO227) hb)
     have n8_ := Aside0.mk (Kd.R_below (qR HO236) hb)
     have n9_ := Aside0.mk (Kd.R_below (qR HO241) hb)
     have n10_ := Aside0.mk (blk_below (qK BK176) hb)
     have n11_ := Aside0.mk (blk_below (qK BK177) hb)
     have n12_ := Aside0.mk (blk_below (qK BK217) hb)
     have n13_ := Aside0.mk (blk_below (qK BK230) hb)
     have n14_ := Aside0.mk (below_step (by repeat (with_reducible first | exact HB.out | apply bA | apply bN | apply bD | refine bS ?_ GE176.out | refine bS ?_ GE177.out | refine bS ?_ GE217.out | refine bS ?_ GE230.out)) hb)
     clear HO184
     clear HO189
     clear HO196
     clear HO201
     clear HO209
     clear HO214
     clear HO222
     clear HO227
     clear HO236
     clear HO241
     clear BK176
     clear BK177
     clear BK217
     clear BK230
     clear HB
     have HO184 := n0_
     have HO189 := n1_
     have HO196 := n2_
     have HO201 := n3_
     have HO209 := n4_
     have HO214 := n5_
     have HO222 := n6_
     have HO227 := n7_
     have HO236 := n8_
     have HO241 := n9_
     have BK176 := n10_
     have BK177 := n11_
     have BK217 := n12_
     have BK230 := n13_
     have HB := n14_
     clear n0_ n1_ n2_ n3_ n4_ n5_ n6_ n7_ n8_ n9_ n10_ n11_ n12_ n13_ n14_
     (try clear hb)
     (try clear hb2)
     (try clear hk)
     (try clear hi)
     refine hK.out _ _ ⟨cC BK217 0, cC BK217 1, cC BK217 2, cC BK217 3, cC BK217 4, cC BK217 5, cC BK217 6, cC BK217 7, cC BK176 0, cC BK176 1, cC BK176 2, cC BK176 3, cC BK176 4, cC BK176 5, cC BK176 6, cC BK176 7⟩ (fun hHeld => ?_)
     clear hK K
     refine norm_ (a' := ?_) ?_ ?_
     rotate_left
     ·show Act.put _ (some 38) _ = _
      simp only [Act.put, sA, sZ, sS, i64_w]
      rfl
     refine pure_ (i := 4) (N := some 39) (v := ?_) (a' := ?_) #[true, true, true, true, true] rfl rfl (by kernel_rfl) (fun _ _ _ h => h) (Or.inl ⟨by rfl, ?_⟩) ?_ ?_
     rotate_left; (intro w'; go_simp; with_reducible rfl); rotate_left; (simp only [Act.put, sA, sZ, sS, i64_w]; rfl)
     refine done_ (by kernel_rfl) ?_
     try go_wp2
     go_ret
     exact ⟨by first | rfl | (simp [errW_none, errW_some] <;> rfl) | (simp [*, errW_none, errW_some] <;> rfl), by repeat (first | (with_reducible first | exact HB.out | apply bA | apply bN | apply bD | refine bS ?_ GE176.out | refine bS ?_ GE177.out | refine bS ?_ GE217.out | refine bS ?_ GE230.out) | exact HB.out)⟩

end Go.Proofs.Ytbbfelgojaioaaa.PFnExactIsWider
