-- The printed functions of one law and their contracts, over contracts of this session's own (hand.py).
import Derived.Test.YtmammjfomgfjhaaPFnExactRememberx0
import Derived.Test.YtmammjfomgfjhaaLay
namespace Go.Proofs.Ytmammjfomgfjhaa.PFnExactRemember
open Go.RowKit Go.Proofs.YtmammjfomgfjhaaW.PrintWords Go.Proofs.YtmammjfomgfjhaaW.PrintLast Go.Proofs.YtmammjfomgfjhaaW.PrintMore Go.Proofs.Ytmammjfomgfjhaa.Short
attribute [local go_sem] max2_int min2_int max_two min_two max_three min_three max_four min_four   -- for this text's walks alone
set_option linter.unusedVariables false
set_option linter.unusedSimpArgs false

/-! ### slices.Grow of the nil row, slices.Concat of two rows of whole numbers: functions 109 and 99 -/
open Go.Proofs.Ytmammjfomgfjhaa.Srt Go.Proofs.Ytmammjfomgfjhaa.Lay
theorem grow0 (w : World) (n : Nat) (hn : n ≤ 4000000) : Calls Try.prog 109 #[.slice none 0 0, .int .i64 (n : Int)] w fun e w' => ∃ v : Value, e = .returned v ∧ Kd.R (Kd.int .i64) 3 w' w.heap.size (fun _ => True) v [] ∧ Below w.heap.size w w' := by
  by_cases h0 : n = 0
  · subst h0
    refine (Any8.slices_Grow_room laysGrow none 0 0 0 w (by omega) (by omega) (by omega) (by omega)).mono ?_; rintro e w' ⟨rfl, rfl⟩; exact ⟨_, rfl, Kd.R_nil _ _ _ _ _, Below.refl _ _⟩
  · have hinfo : (Try.prog.info? 3).map (fun i => (i.zero, i.size, i.bytes)) = some (some (.int .i64 0), 1, 8) := by kernel_rfl
    obtain ⟨i0, hi, hzz⟩ := Option.map_eq_some_iff.1 hinfo; simp only [Prod.mk.injEq] at hzz; obtain ⟨hz0, hz1, hz2⟩ := hzz; refine (Any8.slices_Grow_grow laysGrow i0 (.int .i64 0) hi hz0 (by omega) none 0 0 n [] w (by omega) (by omega) (by rw [hz2]; omega) (by omega) (by simp) (fun _ => rfl) (fun a ha => by cases ha)).mono ?_; rintro e w' ⟨rfl, rfl⟩; have hG : 0 + n ≤ grownCap w (0 + n) 0 3 := grownCap_ge w _ _ _; have hM := grownCap_le_maxLen w (0 + n) 0 3 (by unfold maxLen; omega); refine ⟨_, rfl, Kd.R_of_own (enc := Value.int .i64) (h1 := fun _ => rfl) (xs := ([] : List Int)) ?_ (fun _ _ => trivial), below_alloc (below_drew (Below.refl _ w)) _⟩; refine ⟨by simp [encs], .inr ⟨w.heap.size, _, _, rfl, Nat.le_refl _, heap_alloc_new w.drew _, Nat.zero_le _, hM, ?_, by simp [encs]⟩⟩; rw [Array.size_append, Array.size_append, size_zeroCells, size_zeroCells]; simp only [Value.cells, List.size_toArray, List.length_nil]; show 0 + (0 + n - 0) * 1 + (grownCap w (0 + n) 0 3 - (0 + n)) * 1 = grownCap w (0 + n) 0 3 * 1; omega
set_option maxHeartbeats 4000000 in
set_option maxRecDepth 100000 in
theorem concat2 (w : World) (g : Nat) (A0 A1 : Option Addr) (c0 c1 : Nat) (l0 l1 : List Int) (hblk : w.heap[g]? = some (.cells #[.slice A0 l0.length c0, .slice A1 l1.length c1] 22 (0, 0)))
  (hr0 : Kd.C (Kd.int .i64) w A0 l0.length l0) (hr1 : Kd.C (Kd.int .i64) w A1 l1.length l1) (hbig : l0.length + l1.length ≤ 4000000) :
  Calls Try.prog 99 #[.slice (some ⟨g, 0, none⟩) 2 2] w fun e w' => ∃ v : Value, e = .returned v ∧ Kd.R (Kd.int .i64) 3 w' w.heap.size (fun _ => True) v (l0 ++ l1) ∧ Below w.heap.size w w' := by
  have hg : g < w.heap.size := blk_lt hblk; have HX0 := aM (show w.cell? ⟨g, 0, none⟩ = some (.slice A0 l0.length c0) from blk_cell hblk 0); have HX1 := aM (show w.cell? ⟨g, 1, none⟩ = some (.slice A1 l1.length c1) from blk_cell hblk 1); have HG := Aside0.mk hg; have aa := Aside0.mk hr0; have ab := Aside0.mk hr1; have HL := Aside0.mk hbig; have hw0 : wrap64 (l0.length : Int) = (l0.length : Int) := by unfold wrap64; omega
  have hw1 : wrap64 ((l0.length : Int) + (l1.length : Int)) = ((l0.length + l1.length : Nat) : Int) := by unfold wrap64; omega
  have hn0 : ¬ ((l0.length : Int) < 0) := by omega
  have hn1 : ¬ (((l0.length + l1.length : Nat) : Int) < 0) := by omega
  have hinfo : (Try.prog.info? 3).map (fun i => (i.zero, i.size, i.bytes)) = some (some (.int .i64 0), 1, 8) := by kernel_rfl
  clear hblk hr0 hr1 hbig hg; go_enter Try.func99, Try.ntmps99; go_wp2; go_loopg [3, 11] 3 (fun gg D J wr => Aside0 (Below w.heap.size w wr) ∧ ((gg = 3 ∧ D = .int .i64 0 ∧ J = .int .i64 0) ∨ (gg = 2 ∧ D = .int .i64 (l0.length : Int) ∧ J = .int .i64 1) ∨ (gg = 1 ∧ D = .int .i64 ((l0.length + l1.length : Nat) : Int) ∧ J = .int .i64 2)))
  case atStart => exact ⟨⟨Below.refl _ w⟩, .inl ⟨rfl, rfl, rfl⟩⟩
  case round =>
    obtain ⟨HB, h⟩ := hrel; have hx0 := (HB.out.cell (p := ⟨g, 0, none⟩) HG.out).trans HX0.out; have hx1 := (HB.out.cell (p := ⟨g, 1, none⟩) HG.out).trans HX1.out; rcases h with ⟨rfl, rfl, rfl⟩ | ⟨rfl, rfl, rfl⟩ | ⟨rfl, rfl, rfl⟩
    · go_wp2
      go_roundg 2
      case measure => decide
      case rel => exact ⟨HB, .inr (.inl ⟨rfl, by rw [hw0], rfl⟩)⟩
    · go_wp2
      go_roundg 1
      case measure => decide
      case rel => exact ⟨HB, .inr (.inr ⟨rfl, by rw [hw1], rfl⟩)⟩
    · go_wp2_with (go_at_call 109; refine (grow0 wr (l0.length + l1.length) HL.out).mono ?_; rintro e Y ⟨v, rfl, hv, hb⟩)
      have HB1 := aM (HB.out.trans (hb.mono HB.out.size)); have HV := aM (Kd.R_lower hv HB.out.size); clear hv hb; go_loopg [6, 27] 3 (fun gg L X wr => Aside0 (Below w.heap.size w wr) ∧ ((gg = 3 ∧ X = .int .i64 0 ∧ Aside0 (Kd.R (Kd.int .i64) 3 wr w.heap.size (fun _ => True) L [])) ∨ (gg = 2 ∧ X = .int .i64 1 ∧ Aside0 (Kd.R (Kd.int .i64) 3 wr w.heap.size (fun _ => True) L l0)) ∨ (gg = 1 ∧ X = .int .i64 2 ∧ Aside0 (Kd.R (Kd.int .i64) 3 wr w.heap.size (fun _ => True) L (l0 ++ l1)))))
      case atStart => exact ⟨HB1, .inl ⟨rfl, rfl, HV⟩⟩
      case round =>
        obtain ⟨HB, h⟩ := hrel; have hx0 := (HB.out.cell (p := ⟨g, 0, none⟩) HG.out).trans HX0.out; have hx1 := (HB.out.cell (p := ⟨g, 1, none⟩) HG.out).trans HX1.out; rcases h with ⟨rfl, rfl, hs⟩ | ⟨rfl, rfl, hs⟩ | ⟨rfl, rfl, hs⟩
        · have HS := hs
          go_wp2_with (first | (at_builtin; refine Kd.R_append_row (Value.int .i64) (0 : Int) (w0 := w) w.heap.size rfl (.tmp 31) (.tmp 32) 22 3 (.int .i64 0) 8 rfl Try.underlying22 hinfo rfl (by decide) _ [] l0 A0 l0.length c0 (fun _ => True) rfl rfl (fun _ _ => trivial) HS.out (Kd.C_below aa.out HB.out) HB.out HB.out.size (by have := HL.out; (try simp only [List.length_nil]); omega) ?_; intro v1 Y h1 h2 hg hat)); have HB2 := Aside0.mk h2; have HV2 := Aside0.mk h1; clear h1 h2 hg hat; go_roundg 2
          case measure => decide
          case rel => exact ⟨HB2, .inr (.inl ⟨rfl, rfl, HV2⟩)⟩
        · have HS := hs
          go_wp2_with (first | (at_builtin; refine Kd.R_append_row (Value.int .i64) (0 : Int) (w0 := w) w.heap.size rfl (.tmp 31) (.tmp 32) 22 3 (.int .i64 0) 8 rfl Try.underlying22 hinfo rfl (by decide) _ l0 l1 A1 l1.length c1 (fun _ => True) rfl rfl (fun _ _ => trivial) HS.out (Kd.C_below ab.out HB.out) HB.out HB.out.size (by have := HL.out; (try simp only [List.length_nil]); omega) ?_; intro v1 Y h1 h2 hg hat)); have HB2 := Aside0.mk h2; have HV2 := Aside0.mk h1; clear h1 h2 hg hat; go_roundg 1
          case measure => decide
          case rel => exact ⟨HB2, .inr (.inr ⟨rfl, rfl, HV2⟩)⟩
        · go_wp2
          go_ret; exact ⟨_, rfl, hs.out, HB.out⟩
/-! ### impl.united: function 76 -/
def impl_united.f (l0 l1 : List Int) : Option (List Int) := if l0.length + l1.length ≤ 4000000 then some (Go.Lib.compact (sorted (l0 ++ l1))) else none
set_option maxHeartbeats 4000000 in
set_option maxRecDepth 100000 in
theorem impl_united.calls (A0 : Option Addr) (c0 : Nat) (l0 : List Int) (A1 : Option Addr) (c1 : Nat) (l1 : List Int) (r : List Int) (w : World) (hr0 : Kd.C (Kd.int .i64) w A0 l0.length l0) (hc0 : l0.length ≤ c0) (hr1 : Kd.C (Kd.int .i64) w A1 l1.length l1) (hc1 : l1.length ≤ c1) (h : impl_united.f l0 l1 = some r) :
  Calls Try.prog 76 #[.slice A0 l0.length c0, .slice A1 l1.length c1] w fun e w' => ∃ v0_ : Value, e = .returned v0_ ∧ Kd.R (Kd.int .i64) 3 w' w.heap.size (fun _ => True) v0_ r ∧ Below w.heap.size w w' := by
  unfold impl_united.f at h
  by_cases hb : l0.length + l1.length ≤ 4000000
  · rw [if_pos hb] at h
    injection h with h
    subst h; have hb0 : Below w.heap.size w (w.alloc (.cells #[.slice A0 l0.length c0, .slice A1 l1.length c1] 22)) := (Below.refl _ w).alloc (Nat.le_refl _) _; have HC := aM (concat2 (w.alloc (.cells #[.slice A0 l0.length c0, .slice A1 l1.length c1] 22)) w.heap.size A0 A1 c0 c1 l0 l1 (heap_alloc_new w _) (Kd.C_alloc hr0 _) (Kd.C_alloc hr1 _) hb); have HB := Aside0.mk hb0; have HL := Aside0.mk hb; clear hr0 hr1 hb hb0 hc0 hc1; go_enter Try.func76, Try.ntmps76
    go_wp2_with (first
      | (go_at_call 99; refine HC.out.mono ?_; rintro e w1 ⟨v, rfl, hv, hb1⟩)
      | (go_at_call 100; refine (sort_own laysSort 3 (fun _ => True) v (l0 ++ l1) w w1 (HB.out.trans (hb1.mono HB.out.size)) (Kd.R_lower hv HB.out.size) (by have := HL.out; rw [List.length_append]; omega)).mono ?_; rintro e w2 ⟨rfl, hv2, hb2, _⟩)
      | (go_at_call 101; refine (compact_own laysCompact 3 _ v (sorted (l0 ++ l1)) w w2 hb2 hv2).mono ?_; rintro e w3 ⟨v3, rfl, hv3, hb3, _⟩))
    go_ret; exact ⟨_, rfl, Kd.R_mono hv3 (fun _ _ => trivial), hb3⟩
  · rw [if_neg hb] at h
    cases h

end Go.Proofs.Ytmammjfomgfjhaa.PFnExactRemember
