-- The printed functions of one law and their contracts, over contracts of this session's own (hand.py).
import Derived.Test.YtbacepkkamfeoaaPFnPackedx0
import Derived.Test.YtbacepkkamfeoaaPFnPackedx6
import Derived.Test.YtbacepkkamfeoaaPFnPackedx9
namespace Go.Proofs.Ytbacepkkamfeoaa.PFnPacked
open Go.RowKit Go.Proofs.YtbacepkkamfeoaaW.PrintWords Go.Proofs.YtbacepkkamfeoaaW.PrintLast Go.Proofs.YtbacepkkamfeoaaW.PrintMore Go.Proofs.Ytbacepkkamfeoaa.Short
attribute [local go_sem] max2_int min2_int max_two min_two max_three min_three max_four min_four   -- for this text's walks alone
set_option linter.unusedVariables false
set_option linter.unusedSimpArgs false

/-! ### spec_l4List: function 67 -/
mutual
def spec_l4List.l0 : Nat → List (S47) → Int → List Int → Int → Int → Option ((List (S47)) × Int × Int)
 | 0, _, _, _, _, _ => none
 | k + 1, x3, x4, L, aa, ab => (spec_l1Below.f L aa ab 7).bind fun D => (if x4 ≤ D.1 then ((spec_l4Draw.f L D.2.1 D.2.2 (wrap64 (2 * x4))).bind fun J => (if x3.length < 3518437208883 then (spec_l4List.l0 k (x3 ++ [(⟨J.1, J.2.1, J.2.2.1, J.2.2.2.1, J.2.2.2.2.1⟩ : S47)]) (wrap64 (x4 + 1)) L J.2.2.2.2.2.1 J.2.2.2.2.2.2) else (none))) else (if (x3.length : Int) > 0 then ((spec_l1Once.f L D.2.1 D.2.2 8).bind fun Y => (spec_l4List.j1 k x3 Y.1 L Y.2.1 Y.2.2)) else (spec_l4List.j1 k x3 false L D.2.1 D.2.2)))
def spec_l4List.j1 : Nat → List (S47) → Bool → List Int → Int → Int → Option ((List (S47)) × Int × Int)
 | 0, _, _, _, _, _ => none
 | k + 1, x3, ab, L, Y, aa => if ab = true then ((spec_l1Below.f L Y aa (x3.length : Int)).bind fun J => ((spec_l4Any.f L J.2.1 J.2.2).bind fun D => (if 0 ≤ J.1 then (if J.1 < (x3.length : Int) then (some ((x3.set (J.1 : Int).toNat (⟨D.1, D.2.1, D.2.2.1, D.2.2.2.1, D.2.2.2.2.1⟩ : S47)), D.2.2.2.2.2.1, D.2.2.2.2.2.2)) else (none)) else (none)))) else (some (x3, Y, aa))
end
def spec_l4List.f (k : Nat) (s0_0 : List Int) (s0_1 : Int) (s0_2 : Int) : Option ((List (S47)) × Int × Int) := spec_l4List.l0 k (([] : List (S47))) 1 s0_0 s0_1 s0_2
theorem spec_l4List.mono_l : ∀ k, (∀ y0 y1 y2 y3 y4, LeO (spec_l4List.l0 k y0 y1 y2 y3 y4) (spec_l4List.l0 (k + 1) y0 y1 y2 y3 y4)) ∧ (∀ y0 y1 y2 y3 y4, LeO (spec_l4List.j1 k y0 y1 y2 y3 y4) (spec_l4List.j1 (k + 1) y0 y1 y2 y3 y4))
 | 0 => ⟨fun _ _ _ _ _ r h => by simp [spec_l4List.l0] at h, fun _ _ _ _ _ r h => by simp [spec_l4List.j1] at h⟩
 | k + 1 => by
  obtain ⟨ih0, ih1⟩ := spec_l4List.mono_l k; refine ⟨?_, ?_⟩; all_goals (intros; (first | unfold spec_l4List.l0 | unfold spec_l4List.j1); repeat' first | (with_reducible exact ih0 _ _ _ _ _) | (with_reducible exact ih1 _ _ _ _ _) | (with_reducible exact LeO.refl _) | (with_reducible exact LeO.none _) | (with_reducible refine LeO.ite ?_ ?_) | (with_reducible refine LeO.bind ?_ (fun _ => ?_)) | exact ih0 _ _ _ _ _ | exact ih1 _ _ _ _ _ | exact LeO.none _ | refine LeO.ite ?_ ?_ | refine LeO.bind ?_ (fun _ => ?_))
theorem spec_l4List.mono : ∀ a0 a1 a2 k, LeO (spec_l4List.f k a0 a1 a2) (spec_l4List.f (k + 1) a0 a1 a2) := by
 intro a0 a1 a2 k; obtain ⟨ih0, ih1⟩ := spec_l4List.mono_l k; unfold spec_l4List.f
 repeat' first
   | (with_reducible exact ih0 _ _ _ _ _)
   | (with_reducible exact ih1 _ _ _ _ _)
   | (with_reducible exact LeO.refl _)
   | (with_reducible exact LeO.none _)
   | (with_reducible refine LeO.ite ?_ ?_)
   | (with_reducible refine LeO.bind ?_ (fun _ => ?_))
   | exact ih0 _ _ _ _ _
   | exact ih1 _ _ _ _ _
   | exact LeO.none _
   | refine LeO.ite ?_ ?_
   | refine LeO.bind ?_ (fun _ => ?_)
set_option maxHeartbeats 8000000 in
set_option maxRecDepth 100000 in
theorem spec_l4List.calls (k : Nat) (g : Nat) (s0_0 : List Int) (s0_1 : Int) (s0_2 : Int) (r1 : List (S47)) (r2 : Int) (r3 : Int) (w0 w : World) (hI : IsS124 w0 w g s0_0 s0_1 s0_2) (hB : Below w0.heap.size w0 w) (h : spec_l4List.f k s0_0 s0_1 s0_2 = some (r1, r2, r3)) :
  Calls Try.prog 67 #[.pointer (some ⟨g, 0, none⟩)] w fun e w' => ∃ v0_ : Value, e = .returned (v0_) ∧ Kd.R k47 47 w' w.heap.size (fun _ => True) v0_ r1 ∧ IsS124 w0 w' g s0_0 r2 r3 ∧ Below w0.heap.size w0 w' ∧ KeepBut w w' g none := by
 have hu47 := Try.underlying47; have HI0 := Aside0.mk hI; have HK := aM (KeepBut.refl w g none); have HL := Aside0.mk hB.size; clear hI; have bK := Aside0.mk hB.size; have HB := Aside0.mk hB; clear hB; have H : (spec_l4List.l0 k (([] : List (S47))) 1 s0_0 s0_1 s0_2) = some (r1, r2, r3) := h; clear h; obtain ⟨bh, aA⟩ : ∃ y_ : List (S47), y_ = (([] : List (S47))) := ⟨_, rfl⟩
 (first | replace H := bY H aA | rw [← aA] at H | skip); have aW := Aside0.mk aA; clear aA; have H' := Aside0.mk H; clear H; go_enter Try.func67, Try.ntmps67; go_wp2_with (first | ((with_reducible refine gate_dst (N := 5) rfl ?_); refine Kd.R_lit k47 _ 47 ?hg (N := 5) ?hd (xs := ([] : List (S47))) (inner := []) (ok := fun _ => True) (okp := fun _ => True) ?hr ?hp (fun _ hk => hk) trivial (Below.refl _ _) (Nat.le_refl _) (by simp) ?_; (case hd => rfl); (case hg => rfl); (case hr => first | (go_simp; done) | (go_simp; rfl)); (case hp => exact (Reps.none _ _)); intro bL w2 ao hb hg_ hnew_; clear hg_ hnew_; (first | rw [← aW.out] at ao | (simp only [Int.reduceToNat] at ao; rw [← aW.out] at ao)); have bi := aM (Kd.R_lower ao (keep_size (w := w) (g := g) (row := none) (tH))); replace HK := aM (KeepBut.trans (tH) (KeepBut.of_below hb g none) (.inl rfl)); replace HB := aM (below_step (tB1 (aM (IsS124.ge HI0.out))) hb); replace HI0 := aM (IsS124.below (by repeat (first | (with_reducible first | exact HI0.out | apply IsS124.alloc | apply IsS124.drewN | apply IsS124.drew | apply IsS124.set_1 | apply IsS124.set_2) | exact HI0.out)) hb); clear hb ao)); go_loopg [3, 4] k (fun kq v3 v4 w' => ∃ (L : List (S47)) (aa : Int) (ab : Int) (ac : Int), v4 = .int .i64 aa ∧ Aside0 (spec_l4List.l0 kq L aa s0_0 ab ac = some (r1, r2, r3)) ∧ Aside0 (kq ≤ k) ∧ Aside0 (Kd.R k47 47 w' w.heap.size (fun _ => True) v3 L) ∧ Aside0 (IsS124 w0 w' g s0_0 ab ac) ∧ Aside0 (KeepBut w w' g none) ∧ Aside0 (Below w0.heap.size w0 w'))
 case atStart => exact ⟨(bh), (1), (s0_1), (s0_2), tS, H', ⟨Nat.le_refl _⟩, ⟨tR bi⟩, ⟨by repeat (first | (with_reducible first | exact HI0.out | apply IsS124.alloc | apply IsS124.drewN | apply IsS124.drew | apply IsS124.set_1 | apply IsS124.set_2) | exact HI0.out)⟩, ⟨tH⟩, ⟨tB1 (aM (IsS124.ge HI0.out))⟩⟩
 case round =>
  clear H'; try clear p2
  obtain ⟨L, aa, ab, ac, rfl, HA, aC, J, HI0, HK, HB⟩ := hrel; cases gk with
  | zero => exact absurd HA.out (by simp [spec_l4List.l0])
  | succ k1 =>
   have H := HA.out; clear HA; simp only [spec_l4List.l0] at H; replace H := Option.bind_eq_some_iff.mp H; obtain ⟨⟨ap, ad, ae⟩, aX, H⟩ := H; have A4 := Aside0.mk aX; clear aX; by_cases c5 : aa ≤ ap
   ·rw [if_pos c5] at H; have aZ : decide (aa ≤ ap) = true := decide_eq_true c5; clear c5; replace H := Option.bind_eq_some_iff.mp H; obtain ⟨⟨aq, ar, au, av, aw, a3, a6⟩, a7, H⟩ := H; have A6 := Aside0.mk a7; clear a7; by_cases c7 : L.length < 3518437208883
    ·rw [if_pos c7] at H; have bm := Aside0.mk c7; clear c7; obtain ⟨bn, aD⟩ : ∃ y_ : List (S47), y_ = (L ++ [(⟨aq, ar, au, av, aw⟩ : S47)]) := ⟨_, rfl⟩
     (first | replace H := bY H aD | rw [← aD] at H | skip); have bo := Aside0.mk aD; clear aD; have H' := Aside0.mk H; clear H; go_wp2_with (first | ((with_reducible refine gate_callee (f := 106) rfl ?_); refine gl 8 Try.func106 #[.pointer (some ⟨g, 0, none⟩), .int .i64 7] ?_; (with_reducible refine (spec_l1Below.calls g s0_0 ab ac 7 ap ad ae w0 _ ?side1 ?side2 A4.out).mono ?_); (case side1 => repeat (first | (with_reducible first | exact HI0.out | apply IsS124.alloc | apply IsS124.drewN | apply IsS124.drew | apply IsS124.set_1 | apply IsS124.set_2) | exact HI0.out)); (case side2 => repeat (first | (with_reducible first | exact HB.out | apply bA | apply bN | apply bD | refine bS ?_ (IsS124.ge HI0.out)) | exact HB.out)); rintro e w8 ⟨rfl, hi, hb, hk⟩; refine ⟨_, rfl, ?_⟩; replace J := aM (Kd.R_mono (Kd.R_keep (IsS124.apart (show IsS124 w0 _ g s0_0 ab ac from by repeat (first | (with_reducible first | exact HI0.out | apply IsS124.alloc | apply IsS124.drewN | apply IsS124.drew | apply IsS124.set_1 | apply IsS124.set_2) | exact HI0.out)) (qR J) (by decide)) hk (fun _ h => h.2)) (fun _ h => h.1)); replace HK := aM (KeepBut.trans (tH) hk (.inl rfl)); replace HB := aM hb; replace HI0 := aM hi; (try clear hb); (try clear hb2); (try clear hk); (try clear hi)) | ((with_reducible refine gate_callee (f := 109) rfl ?_); refine gl 16 Try.func109 #[.pointer (some ⟨g, 0, none⟩), .int .i64 (wrap64 (2 * aa))] ?_; (with_reducible refine (spec_l4Draw.calls g s0_0 ad ae (wrap64 (2 * aa)) aq ar au av aw a3 a6 w0 _ ?side1 ?side2 A6.out).mono ?_); (case side1 => repeat (first | (with_reducible first | exact HI0.out | apply IsS124.alloc | apply IsS124.drewN | apply IsS124.drew | apply IsS124.set_1 | apply IsS124.set_2) | exact HI0.out)); (case side2 => repeat (first | (with_reducible first | exact HB.out | apply bA | apply bN | apply bD | refine bS ?_ (IsS124.ge HI0.out)) | exact HB.out)); rintro e w9 ⟨rfl, hi, hb, hk⟩; refine ⟨_, rfl, ?_⟩; replace J := aM (Kd.R_mono (Kd.R_keep (IsS124.apart (show IsS124 w0 _ g s0_0 ad ae from by repeat (first | (with_reducible first | exact HI0.out | apply IsS124.alloc | apply IsS124.drewN | apply IsS124.drew | apply IsS124.set_1 | apply IsS124.set_2) | exact HI0.out)) (qR J) (by decide)) hk (fun _ h => h.2)) (fun _ h => h.1)); replace HK := aM (KeepBut.trans (tH) hk (.inl rfl)); replace HB := aM hb; replace HI0 := aM hi; (try clear hb); (try clear hb2); (try clear hk); (try clear hi)) | ((with_reducible refine gate_builtin (b := .append) (xs := #[.tmp 12, .tmp 17]) rfl ?_); at_builtin; refine Kd.R_append k47 w.heap.size rfl (.tmp 12) (.tmp 17) 29 47 (.agg #[(.int .i64 0), (.int .i64 0), (.int .i64 0), (.int .i64 0), (.int .i64 0)]) 40 rfl Try.underlying29 info47 rfl (by decide) (by omega) u3 L (⟨aq, ar, au, av, aw⟩ : S47) [.int .i64 aq, .int .i64 ar, .int .i64 au, .int .i64 av, .int .i64 aw] (fun _ => True) (fun _ => False) rfl rfl ?aP (fun _ hk => hk.elim) ?aF ?aO (Below.refl _ _) ?aS ?aL ?_; (case aP => exact k47_mkM _ _ _ (⟨aq, ar, au, av, aw⟩ : S47)); (case aF => exact (fun _ _ => trivial)); (case aO => exact (qR J)); (case aS => exact (keep_size (w := w) (g := g) (row := none) (tH))); (case aL => have := bm.out; omega); intro bQ bT ho hb hg hat; rw [← bo.out] at ho; replace HB := aM (below_weaken (tB1 (aM (IsS124.ge HI0.out))) HL.out hb); replace HI0 := aM (IsS124.grown (by repeat (first | (with_reducible first | exact HI0.out | apply IsS124.alloc | apply IsS124.drewN | apply IsS124.drew | apply IsS124.set_1 | apply IsS124.set_2) | exact HI0.out)) hg (IsS124.own_ne HI0.out J.out (by decide))); replace HK := aM (KeepBut.trans (tH) (KeepBut.of_grown hg g) (Kd.R_base2 J.out)); have bp := aM ho; clear J; clear ho hb hg hat)); go_roundg k1
     case measure => have := aC.out; omega
     case rel => exact ⟨(bn), (wrap64 (aa + 1)), (a3), (a6), tS, H', ⟨by have := aC.out; omega⟩, ⟨tR bp⟩, ⟨by repeat (first | (with_reducible first | exact HI0.out | apply IsS124.alloc | apply IsS124.drewN | apply IsS124.drew | apply IsS124.set_1 | apply IsS124.set_2) | exact HI0.out)⟩, ⟨tH⟩, ⟨tB1 (aM (IsS124.ge HI0.out))⟩⟩
    ·rw [if_neg c7] at H; exact absurd H (by simp)
   ·rw [if_neg c5] at H; have aZ : decide (aa ≤ ap) = false := decide_eq_false c5; clear c5; have aK := Aside0.mk H; clear H; go_upto_region 6 with (first | ((with_reducible refine gate_callee (f := 106) rfl ?_); refine gl 8 Try.func106 #[.pointer (some ⟨g, 0, none⟩), .int .i64 7] ?_; (with_reducible refine (spec_l1Below.calls g s0_0 ab ac 7 ap ad ae w0 _ ?side1 ?side2 A4.out).mono ?_); (case side1 => repeat (first | (with_reducible first | exact HI0.out | apply IsS124.alloc | apply IsS124.drewN | apply IsS124.drew | apply IsS124.set_1 | apply IsS124.set_2) | exact HI0.out)); (case side2 => repeat (first | (with_reducible first | exact HB.out | apply bA | apply bN | apply bD | refine bS ?_ (IsS124.ge HI0.out)) | exact HB.out)); rintro e bU ⟨rfl, hi, hb, hk⟩; refine ⟨_, rfl, ?_⟩; replace J := aM (Kd.R_mono (Kd.R_keep (IsS124.apart (show IsS124 w0 _ g s0_0 ab ac from by repeat (first | (with_reducible first | exact HI0.out | apply IsS124.alloc | apply IsS124.drewN | apply IsS124.drew | apply IsS124.set_1 | apply IsS124.set_2) | exact HI0.out)) (qR J) (by decide)) hk (fun _ h => h.2)) (fun _ h => h.1)); replace HK := aM (KeepBut.trans (tH) hk (.inl rfl)); replace HB := aM hb; replace HI0 := aM hi; (try clear hb); (try clear hb2); (try clear hk); (try clear hi)))
    (try simp only [Act.put, sA, sZ, sS]); go_cut [25] (fun bq wc => ∃ (kq : Nat) (aE : Bool) (ay : Int) (az : Int), bq = .bool aE ∧ Aside0 (spec_l4List.j1 kq L aE s0_0 ay az = some (r1, r2, r3)) ∧ Aside0 (kq ≤ k1) ∧ Aside0 (Kd.R k47 47 wc w.heap.size (fun _ => True) u3 L) ∧ Aside0 (IsS124 w0 wc g s0_0 ay az) ∧ Aside0 (KeepBut w wc g none) ∧ Aside0 (Below w0.heap.size w0 wc))
    case first =>
     have H := aK.out; clear aK; by_cases ag : (L.length : Int) > 0
     ·rw [if_pos ag] at H; have ah : decide (0 < (L.length : Int)) = true := decide_eq_true ag; have a8 : decide (0 < L.length) = true := decide_eq_true (by omega); clear ag; (first | rw [ah] | (simp only [i64_w, i32_w]; rw [ah]) | skip); replace H := Option.bind_eq_some_iff.mp H; obtain ⟨⟨a9, a_, ba⟩, bb, H⟩ := H; have br := Aside0.mk bb; clear bb; have H' := Aside0.mk H; clear H; obtain ⟨bV, bW, bs⟩ := Kd.R_slice J.out; subst bs; go_wp2_with (first | (go_at_call 93; (with_reducible refine (spec_l1Once.calls g s0_0 ad ae 8 a9 a_ ba w0 _ ?side1 ?side2 br.out).mono ?_); (case side1 => repeat (first | (with_reducible first | exact HI0.out | apply IsS124.alloc | apply IsS124.drewN | apply IsS124.drew | apply IsS124.set_1 | apply IsS124.set_2) | exact HI0.out)); (case side2 => repeat (first | (with_reducible first | exact HB.out | apply bA | apply bN | apply bD | refine bS ?_ (IsS124.ge HI0.out)) | exact HB.out)); rintro e bX ⟨rfl, hi, hb, hk⟩; replace J := aM (Kd.R_mono (Kd.R_keep (IsS124.apart (show IsS124 w0 _ g s0_0 ad ae from by repeat (first | (with_reducible first | exact HI0.out | apply IsS124.alloc | apply IsS124.drewN | apply IsS124.drew | apply IsS124.set_1 | apply IsS124.set_2) | exact HI0.out)) (qR J) (by decide)) hk (fun _ h => h.2)) (fun _ h => h.1)); replace HK := aM (KeepBut.trans (tH) hk (.inl rfl)); replace HB := aM hb; replace HI0 := aM hi; (try clear hb); (try clear hb2); (try clear hk); (try clear hi))); go_meet
      case rel => exact ⟨_, (a9), (a_), (ba), tS, H', ⟨by have := aC.out; first | omega | exact Nat.le_refl _⟩, ⟨tR J⟩, ⟨by repeat (first | (with_reducible first | exact HI0.out | apply IsS124.alloc | apply IsS124.drewN | apply IsS124.drew | apply IsS124.set_1 | apply IsS124.set_2) | exact HI0.out)⟩, ⟨tH⟩, ⟨tB1 (aM (IsS124.ge HI0.out))⟩⟩
     ·rw [if_neg ag] at H; have ah : decide (0 < (L.length : Int)) = false := decide_eq_false ag; have a8 : decide (0 < L.length) = false := decide_eq_false (by omega); clear ag; (first | rw [ah] | (simp only [i64_w, i32_w]; rw [ah]) | skip); have H' := Aside0.mk H; clear H; obtain ⟨bZ, b0, bt⟩ := Kd.R_slice J.out; subst bt; go_wp2; go_meet
      case rel => exact ⟨_, (false), (ad), (ae), tS, H', ⟨by have := aC.out; first | omega | exact Nat.le_refl _⟩, ⟨tR J⟩, ⟨by repeat (first | (with_reducible first | exact HI0.out | apply IsS124.alloc | apply IsS124.drewN | apply IsS124.drew | apply IsS124.set_1 | apply IsS124.set_2) | exact HI0.out)⟩, ⟨tH⟩, ⟨tB1 (aM (IsS124.ge HI0.out))⟩⟩
    case rest =>
     clear aK; try clear c1
     try clear p2
     try clear c5
     try clear aZ
     try clear c6
     try clear p6
     try clear c7
     try clear b3
     try clear ag
     try clear ah
     try clear a8
     try clear p2
     obtain ⟨kq, aE, ay, az, rfl, HA, b4, J, HI0, HK, HB⟩ := hcut; cases kq with
     | zero => exact absurd HA.out (by simp [spec_l4List.j1])
     | succ b5 =>
      have H := HA.out; clear HA; simp only [spec_l4List.j1] at H; by_cases aG : aE = true
      ·subst aG; rw [if_pos rfl] at H; replace H := Option.bind_eq_some_iff.mp H; obtain ⟨⟨D, aN, aQ⟩, bc, H⟩ := H; have bu := Aside0.mk bc; clear bc; replace H := Option.bind_eq_some_iff.mp H; obtain ⟨⟨ai, aj, ak, al, am, bv, bw⟩, bd, H⟩ := H; have bz := Aside0.mk bd; clear bd; by_cases aH : 0 ≤ D
       ·rw [if_pos aH] at H; have b6 : decide (0 ≤ D) = true := decide_eq_true aH; clear aH; by_cases aI : D < (L.length : Int)
        ·rw [if_pos aI] at H; have b7 : decide (D < (L.length : Int)) = true := decide_eq_true aI; clear aI; obtain ⟨bB, aJ⟩ : ∃ y_ : List (S47), y_ = (L.set (D : Int).toNat (⟨ai, aj, ak, al, am⟩ : S47)) := ⟨_, rfl⟩
         (first | replace H := bY H aJ | rw [← aJ] at H | skip); have bC := Aside0.mk aJ; clear aJ; simp only [Option.some.injEq, Prod.mk.injEq] at H; obtain ⟨rfl, rfl, rfl⟩ := H; obtain ⟨b8, be, bE⟩ := Kd.R_slice J.out; subst bE; go_wp2_with (first | ((with_reducible refine gate_callee (f := 106) rfl ?_); refine gl 30 Try.func106 #[.pointer (some ⟨g, 0, none⟩), .int .i64 (L.length : Int)] ?_; (with_reducible refine (spec_l1Below.calls g s0_0 ay az (L.length : Int) D aN aQ w0 _ ?side1 ?side2 bu.out).mono ?_); (case side1 => repeat (first | (with_reducible first | exact HI0.out | apply IsS124.alloc | apply IsS124.drewN | apply IsS124.drew | apply IsS124.set_1 | apply IsS124.set_2) | exact HI0.out)); (case side2 => repeat (first | (with_reducible first | exact HB.out | apply bA | apply bN | apply bD | refine bS ?_ (IsS124.ge HI0.out)) | exact HB.out)); rintro e b9 ⟨rfl, hi, hb, hk⟩; refine ⟨_, rfl, ?_⟩; replace J := aM (Kd.R_mono (Kd.R_keep (IsS124.apart (show IsS124 w0 _ g s0_0 ay az from by repeat (first | (with_reducible first | exact HI0.out | apply IsS124.alloc | apply IsS124.drewN | apply IsS124.drew | apply IsS124.set_1 | apply IsS124.set_2) | exact HI0.out)) (qR J) (by decide)) hk (fun _ h => h.2)) (fun _ h => h.1)); replace HK := aM (KeepBut.trans (tH) hk (.inl rfl)); replace HB := aM hb; replace HI0 := aM hi; (try clear hb); (try clear hb2); (try clear hk); (try clear hi)) | ((with_reducible refine gate_callee (f := 110) rfl ?_); refine gl 32 Try.func110 #[.pointer (some ⟨g, 0, none⟩)] ?_; (with_reducible refine (spec_l4Any.calls g s0_0 aN aQ ai aj ak al am bv bw w0 _ ?side1 ?side2 bz.out).mono ?_); (case side1 => repeat (first | (with_reducible first | exact HI0.out | apply IsS124.alloc | apply IsS124.drewN | apply IsS124.drew | apply IsS124.set_1 | apply IsS124.set_2) | exact HI0.out)); (case side2 => repeat (first | (with_reducible first | exact HB.out | apply bA | apply bN | apply bD | refine bS ?_ (IsS124.ge HI0.out)) | exact HB.out)); rintro e Y ⟨rfl, hi, hb, hk⟩; refine ⟨_, rfl, ?_⟩; replace J := aM (Kd.R_mono (Kd.R_keep (IsS124.apart (show IsS124 w0 _ g s0_0 aN aQ from by repeat (first | (with_reducible first | exact HI0.out | apply IsS124.alloc | apply IsS124.drewN | apply IsS124.drew | apply IsS124.set_1 | apply IsS124.set_2) | exact HI0.out)) (qR J) (by decide)) hk (fun _ h => h.2)) (fun _ h => h.1)); replace HK := aM (KeepBut.trans (tH) hk (.inl rfl)); replace HB := aM hb; replace HI0 := aM hi; (try clear hb); (try clear hb2); (try clear hk); (try clear hi); have aT : 0 ≤ (D : Int) := of_decide_eq_true ‹_›; have aU : (D : Int) < ((L.length : Int) : Int) := of_decide_eq_true ‹_›; obtain ⟨go23, b_, bf, bg, gl23, cl23, HG23⟩ := Kd.R_form J.out (by omega); (first | cases bf | (injection bf with ea_ en_ ec_; (first | subst ea_ | (injection ea_ with ea_; subst ea_)); subst ec_; clear en_)); have GB23 := Aside0.mk bg; have GG23 := Aside0.mk HG23; clear bg gl23 HG23; obtain ⟨ce23, hcl23, hM23, hcc23, hfr23⟩ := Kd.R_elem J.out z47 (D : Int) aT aU; obtain rfl := k47_openM hM23; have ca : Y.cell? ⟨go23, (D : Int).toNat * 5, none⟩ = some (.int .i64 ((rd_T47 L D).f0)) := hcc23 0 _ rfl; have cc : Y.cell? ⟨go23, (D : Int).toNat * 5 + 1, none⟩ = some (.int .i64 ((rd_T47 L D).f1)) := hcc23 1 _ rfl; have cd : Y.cell? ⟨go23, (D : Int).toNat * 5 + 2, none⟩ = some (.int .i64 ((rd_T47 L D).f2)) := hcc23 2 _ rfl; have ce : Y.cell? ⟨go23, (D : Int).toNat * 5 + 3, none⟩ = some (.int .i64 ((rd_T47 L D).f3)) := hcc23 3 _ rfl; have cf : Y.cell? ⟨go23, (D : Int).toNat * 5 + 4, none⟩ = some (.int .i64 ((rd_T47 L D).f4)) := hcc23 4 _ rfl; have hf23_0 : Y.frozen? ⟨go23, (D : Int).toNat * 5, none⟩ = false := hfr23 0; have hf23_1 : Y.frozen? ⟨go23, (D : Int).toNat * 5 + 1, none⟩ = false := hfr23 1; have hf23_2 : Y.frozen? ⟨go23, (D : Int).toNat * 5 + 2, none⟩ = false := hfr23 2; have hf23_3 : Y.frozen? ⟨go23, (D : Int).toNat * 5 + 3, none⟩ = false := hfr23 3; have hf23_4 : Y.frozen? ⟨go23, (D : Int).toNat * 5 + 4, none⟩ = false := hfr23 4; clear hcl23 hcc23 hfr23 hM23; replace aT := eq_true aT; replace aU := eq_true aU; have HX27 := aM (show Kd.R k47 47 Y w.heap.size (fun _ => True) (.slice (some ⟨go23, 0, none⟩) L.length be) L from (qR J)); obtain ⟨ce27, hcl27, hM27, hcc27, hfr27⟩ := Kd.R_elem HX27.out z47 (D : Int) (of_decide_eq_true ‹_›) (tL D L.length J); obtain rfl := k47_openM hM27; have HP27 := Kd.R_seg HX27.out (D : Int) (of_decide_eq_true ‹_›) (tL D L.length J) (seg := [.int .i64 ai, .int .i64 aj, .int .i64 ak, .int .i64 al, .int .i64 am]) (j := 0) hcl27 hcc27 (show 5 ≤ 5 from by decide) (x' := (⟨ai, aj, ak, al, am⟩ : S47)) (k47_mkM _ _ _ (⟨ai, aj, ak, al, am⟩ : S47) ) (fun _ hk => hk); have bF := hcc27 0 _ rfl; (try simp only [show (k47).sz = 5 from rfl, Nat.mul_one, Nat.add_zero] at bF); have hf27_0 := hfr27 0; (try simp only [show (k47).sz = 5 from rfl, Nat.mul_one, Nat.add_zero] at hf27_0); have bG := hcc27 1 _ rfl; (try simp only [show (k47).sz = 5 from rfl, Nat.mul_one, Nat.add_zero] at bG); have hf27_1 := hfr27 1; (try simp only [show (k47).sz = 5 from rfl, Nat.mul_one, Nat.add_zero] at hf27_1); have bH := hcc27 2 _ rfl; (try simp only [show (k47).sz = 5 from rfl, Nat.mul_one, Nat.add_zero] at bH); have hf27_2 := hfr27 2; (try simp only [show (k47).sz = 5 from rfl, Nat.mul_one, Nat.add_zero] at hf27_2); have bI := hcc27 3 _ rfl; (try simp only [show (k47).sz = 5 from rfl, Nat.mul_one, Nat.add_zero] at bI); have hf27_3 := hfr27 3; (try simp only [show (k47).sz = 5 from rfl, Nat.mul_one, Nat.add_zero] at hf27_3); have bJ := hcc27 4 _ rfl; (try simp only [show (k47).sz = 5 from rfl, Nat.mul_one, Nat.add_zero] at bJ); have hf27_4 := hfr27 4; (try simp only [show (k47).sz = 5 from rfl, Nat.mul_one, Nat.add_zero] at hf27_4); clear hcl27 hcc27 hfr27 hM27) | ((with_reducible refine gate_store (t := 47) (p := 33) rfl ?_); refine store_event (t := 47) (p := 33) (v := ?vo_w28) (w1 := (((((Y.setCell ⟨go23, (D : Int).toNat * 5, none⟩ (.int .i64 ai)).setCell ⟨go23, (D : Int).toNat * 5 + 1, none⟩ (.int .i64 aj)).setCell ⟨go23, (D : Int).toNat * 5 + 2, none⟩ (.int .i64 ak)).setCell ⟨go23, (D : Int).toNat * 5 + 3, none⟩ (.int .i64 al)).setCell ⟨go23, (D : Int).toNat * 5 + 4, none⟩ (.int .i64 am))) ?hg ?ho ?hn ?hr ?_; (case ho => rfl); (case hg => rfl); (case hn => rfl); (case hr => first | (go_simp; done) | (go_simp; rfl)); intro aV hw; have hg : Y.grownBy aV (some go23) := (by rw [hw]; exact HP27.2); have hp_ : Kd.R k47 47 aV w.heap.size (fun _ => True) (.slice (some ⟨go23, 0, none⟩) L.length be) bB := (by rw [hw, bC.out]; exact HP27.1); clear HP27; replace HI0 := aM (IsS124.grown (by repeat (first | (with_reducible first | exact HI0.out | apply IsS124.alloc | apply IsS124.drewN | apply IsS124.drew | apply IsS124.set_1 | apply IsS124.set_2) | exact HI0.out)) hg (IsS124.own_ne HI0.out J.out (by decide))); replace HB := aM ((by rw [hw]; exact below_set (below_set (below_set (below_set (below_set (HB.out) (Nat.le_trans HL.out GB23.out)) (Nat.le_trans HL.out GB23.out)) (Nat.le_trans HL.out GB23.out)) (Nat.le_trans HL.out GB23.out)) (Nat.le_trans HL.out GB23.out) : Below w0.heap.size w0 aV)); replace HK := aM (KeepBut.trans (tH) (KeepBut.of_grown hg g) (Kd.R_base2 J.out)); replace J := aM hp_; clear hg hw hp_)); go_ret; exact ⟨_, tE, tR J, by repeat (first | (with_reducible first | exact HI0.out | apply IsS124.alloc | apply IsS124.drewN | apply IsS124.drew | apply IsS124.set_1 | apply IsS124.set_2) | exact HI0.out), tB1 (aM (IsS124.ge HI0.out)), tH⟩
        ·rw [if_neg aI] at H; exact absurd H (by simp)
       ·rw [if_neg aH] at H; exact absurd H (by simp)
      ·replace aG := Bool.eq_false_iff.mpr aG; subst aG; rw [if_neg ff_] at H; simp only [Option.some.injEq, Prod.mk.injEq] at H; obtain ⟨rfl, rfl, rfl⟩ := H; go_wp2; go_ret; exact ⟨_, tE, tR J, by repeat (first | (with_reducible first | exact HI0.out | apply IsS124.alloc | apply IsS124.drewN | apply IsS124.drew | apply IsS124.set_1 | apply IsS124.set_2) | exact HI0.out), tB1 (aM (IsS124.ge HI0.out)), tH⟩

/-! ### spec_DrawPutAll: function 18 -/
def spec_DrawPutAll.f (k : Nat) (l0 : List Int) : Option ((List (S51)) × (List (S47))) := (spec_l1New.f k l0).bind fun bt396 => ((spec_l14Any.f k bt396.1 bt396.2.1 bt396.2.2).bind fun bt400 => ((spec_l4List.f k bt396.1 bt400.2.1 bt400.2.2).bind fun bt405 => (some (bt400.1, bt405.1))))
theorem spec_DrawPutAll.mono : ∀ a0 k, LeO (spec_DrawPutAll.f k a0) (spec_DrawPutAll.f (k + 1) a0) := by
 intro a0 k; unfold spec_DrawPutAll.f
 repeat' first
   | (with_reducible exact spec_l14Any.mono _ _ _ _)
   | (with_reducible exact spec_l1New.mono _ _)
   | (with_reducible exact spec_l4List.mono _ _ _ _)
   | (with_reducible exact LeO.refl _)
   | (with_reducible exact LeO.none _)
   | (with_reducible refine LeO.ite ?_ ?_)
   | (with_reducible refine LeO.bind ?_ (fun _ => ?_))
   | exact spec_l14Any.mono _ _ _ _
   | exact spec_l1New.mono _ _
   | exact spec_l4List.mono _ _ _ _
   | exact LeO.none _
   | refine LeO.ite ?_ ?_
   | refine LeO.bind ?_ (fun _ => ?_)
set_option maxHeartbeats 8000000 in
set_option maxRecDepth 100000 in
theorem spec_DrawPutAll.calls (k : Nat) (A0 : Option Addr) (c0 : Nat) (l0 : List Int) (r1 : List (S51)) (r2 : List (S47)) (w : World) (hr0 : Kd.C (Kd.int .u8) w A0 l0.length l0) (hc0 : l0.length ≤ c0) (h : spec_DrawPutAll.f k l0 = some (r1, r2)) :
  Calls Try.prog 18 #[.slice A0 l0.length c0] w fun e w' => ∃ v0_ v1_ : Value, e = .returned (.tuple #[v0_, v1_]) ∧ Kd.R k51 51 w' w.heap.size (fun _ => True) v0_ r1 ∧ Kd.R k47 47 w' w.heap.size (fun _ => True) v1_ r2 ∧ Below w.heap.size w w' := by
 have ai := Aside0.mk hr0; have aj := Aside0.mk hc0; clear hr0 hc0; have HB := aM (Below.refl w.heap.size w); have H : ((spec_l1New.f k l0).bind fun J => ((spec_l14Any.f k J.1 J.2.1 J.2.2).bind fun Y => ((spec_l4List.f k J.1 Y.2.1 Y.2.2).bind fun ak => (some (Y.1, ak.1))))) = some (r1, r2) := h; clear h; replace H := Option.bind_eq_some_iff.mp H; obtain ⟨⟨L, ad, ae⟩, af, H⟩ := H; have A2 := Aside0.mk af; clear af; replace H := Option.bind_eq_some_iff.mp H; obtain ⟨⟨am, aa, ab⟩, ag, H⟩ := H; have A3 := Aside0.mk ag; clear ag; replace H := Option.bind_eq_some_iff.mp H; obtain ⟨⟨ap, aq, ar⟩, ah, H⟩ := H; have A4 := Aside0.mk ah; clear ah; simp only [Option.some.injEq, Prod.mk.injEq] at H; obtain ⟨rfl, rfl⟩ := H; go_enter Try.func18, Try.ntmps18; go_wp2_with (first | ((with_reducible refine gate_callee (f := 65) rfl ?_); refine gl 7 Try.func65 #[.slice A0 l0.length c0] ?_; (with_reducible refine (spec_l1New.calls k _ _ l0 L ad ae w _ ?side1 ?side2 ?side3 A2.out).mono ?_); (case side1 => repeat (first | (with_reducible first | exact HB.out | apply bA | apply bN | apply bD) | exact HB.out)); (case side2 => exact ai.out); (case side3 => exact aj.out); rintro e w5 ⟨g399, rfl, hi, hb, hb2⟩; refine ⟨_, rfl, ?_⟩; replace HB := aM hb; have HI399 := aM hi; (try clear hb); (try clear hb2); (try clear hk); (try clear hi)) | ((with_reducible refine gate_callee (f := 66) rfl ?_); refine gl 9 Try.func66 #[.pointer (some ⟨g399, 0, none⟩)] ?_; (with_reducible refine (spec_l14Any.calls k g399 L ad ae am aa ab w _ ?side1 ?side2 A3.out).mono ?_); (case side1 => repeat (first | (with_reducible first | exact HI399.out | apply IsS124.alloc | apply IsS124.drewN | apply IsS124.drew | apply IsS124.set_1 | apply IsS124.set_2) | exact HI399.out)); (case side2 => repeat (first | (with_reducible first | exact HB.out | apply bA | apply bN | apply bD | refine bS ?_ (IsS124.ge HI399.out)) | exact HB.out)); rintro e w6 ⟨ay, rfl, D, hi, hb, hk⟩; refine ⟨_, rfl, ?_⟩; have ac := aM (Kd.R_lower D (below_size (tB1 (aM (IsS124.ge HI399.out))))); replace HB := aM hb; replace HI399 := aM hi; (try clear hb); (try clear hb2); (try clear hk); (try clear hi); (try clear D)) | ((with_reducible refine gate_callee (f := 67) rfl ?_); refine gl 12 Try.func67 #[.pointer (some ⟨g399, 0, none⟩)] ?_; (with_reducible refine (spec_l4List.calls k g399 L aa ab ap aq ar w _ ?side1 ?side2 A4.out).mono ?_); (case side1 => repeat (first | (with_reducible first | exact HI399.out | apply IsS124.alloc | apply IsS124.drewN | apply IsS124.drew | apply IsS124.set_1 | apply IsS124.set_2) | exact HI399.out)); (case side2 => repeat (first | (with_reducible first | exact HB.out | apply bA | apply bN | apply bD | refine bS ?_ (IsS124.ge HI399.out)) | exact HB.out)); rintro e w7 ⟨aA, rfl, D, hi, hb, hk⟩; refine ⟨_, rfl, ?_⟩; replace ac := aM (Kd.R_mono (Kd.R_keep (IsS124.apart (show IsS124 w _ g399 L aa ab from by repeat (first | (with_reducible first | exact HI399.out | apply IsS124.alloc | apply IsS124.drewN | apply IsS124.drew | apply IsS124.set_1 | apply IsS124.set_2) | exact HI399.out)) (qR ac) (by decide)) hk (fun _ h => h.2)) (fun _ h => h.1)); have av := aM (Kd.R_lower D (below_size (tB1 (aM (IsS124.ge HI399.out))))); replace HB := aM hb; replace HI399 := aM hi; (try clear hb); (try clear hb2); (try clear hk); (try clear hi); (try clear D))); go_ret2; exact ⟨_, _, tE, tR ac, tR av, tB1 (aM (IsS124.ge HI399.out))⟩

/-! ### laws_ascends: function 20 -/
def laws_ascends.l0 : Nat → List Int → Int → Option (Bool)
 | 0, _, _ => none
 | k + 1, x0, x3 => if x3 < (x0.length : Int) then (if 0 ≤ (wrap64 (x3 - 1)) then (if (wrap64 (x3 - 1)) < (x0.length : Int) then (if 0 ≤ x3 then (if (rd x0 (wrap64 (x3 - 1))) ≥ (rd x0 x3) then (some false) else (laws_ascends.l0 k x0 (wrap64 (x3 + 1)))) else (none)) else (none)) else (none)) else (some true)
def laws_ascends.f (k : Nat) (l0 : List Int) : Option (Bool) := laws_ascends.l0 k l0 1
theorem laws_ascends.mono_l : ∀ k, (∀ y0 y1, LeO (laws_ascends.l0 k y0 y1) (laws_ascends.l0 (k + 1) y0 y1))
 | 0 => fun _ _ r h => by simp [laws_ascends.l0] at h
 | k + 1 => by
  have ih0 := laws_ascends.mono_l k
  ·intro y0 y1; unfold laws_ascends.l0
   repeat' first
   | (with_reducible exact ih0 _ _)
   | (with_reducible exact LeO.refl _)
   | (with_reducible exact LeO.none _)
   | (with_reducible refine LeO.ite ?_ ?_)
   | (with_reducible refine LeO.bind ?_ (fun _ => ?_))
   | exact ih0 _ _
   | exact LeO.none _
   | refine LeO.ite ?_ ?_
   | refine LeO.bind ?_ (fun _ => ?_)
theorem laws_ascends.mono : ∀ a0 k, LeO (laws_ascends.f k a0) (laws_ascends.f (k + 1) a0) := by
 intro a0 k; have ih0 := laws_ascends.mono_l k; unfold laws_ascends.f
 repeat' first
   | (with_reducible exact ih0 _ _)
   | (with_reducible exact LeO.refl _)
   | (with_reducible exact LeO.none _)
   | (with_reducible refine LeO.ite ?_ ?_)
   | (with_reducible refine LeO.bind ?_ (fun _ => ?_))
   | exact ih0 _ _
   | exact LeO.none _
   | refine LeO.ite ?_ ?_
   | refine LeO.bind ?_ (fun _ => ?_)
set_option maxHeartbeats 8000000 in
set_option maxRecDepth 100000 in
theorem laws_ascends.calls (k : Nat) (A0 : Option Addr) (c0 : Nat) (l0 : List Int) (r : Bool) (w : World) (hr0 : Kd.C (Kd.int .i64) w A0 l0.length l0) (hc0 : l0.length ≤ c0) (h : laws_ascends.f k l0 = some r) :
  Calls Try.prog 20 #[.slice A0 l0.length c0] w fun e w' => e = .returned (.bool r) ∧ Drawn0 w w' := by
 have ad := Aside0.mk hr0; have av := Aside0.mk hc0; clear hr0 hc0; have H : (laws_ascends.l0 k l0 1) = some r := h; clear h; have H' := Aside0.mk H; clear H; go_enter Try.func20, Try.ntmps20; go_wp2; repeat (go_quiet (fail); try go_wp2)
 go_loopg [3] k (fun kq v3 w' => ∃ (D : Int), v3 = .int .i64 D ∧ Aside0 (laws_ascends.l0 kq l0 D = some r) ∧ Aside0 (kq ≤ k) ∧ Drawn0 w w')
 case atStart => exact ⟨(1), tS, H', ⟨Nat.le_refl _⟩, by repeat (first | exact Drawn0.refl _ | apply Drawn0.step)⟩
 case round =>
  clear H'; obtain ⟨D, rfl, HA, am, ⟨m1, rfl⟩⟩ := hrel; cases gk with
  | zero => exact absurd HA.out (by simp [laws_ascends.l0])
  | succ k1 =>
   have H := HA.out; clear HA; simp only [laws_ascends.l0] at H; by_cases c2 : D < (l0.length : Int)
   ·rw [if_pos c2] at H; have ap : decide (D < (l0.length : Int)) = true := decide_eq_true c2; clear c2; obtain ⟨ji3, ae⟩ : ∃ j_ : Int, (wrap64 (D - 1)) = j_ := ⟨_, rfl⟩
    replace H : (if 0 ≤ (ji3) then (if (ji3) < (l0.length : Int) then (if 0 ≤ D then (if (rd l0 (ji3)) ≥ (rd l0 D) then (some false) else (laws_ascends.l0 k1 l0 (wrap64 (D + 1)))) else (none)) else (none)) else (none)) = some r := by first | (rw [ae] at H; exact H) | (simp only [ae] at H ⊢; exact H)
    have hji3w : (IntKind.i64.wrap (D - 1)) = ji3 := (i64_w _).trans ae; by_cases c4 : 0 ≤ (ji3)
    ·rw [if_pos c4] at H; have aw : decide (0 ≤ (ji3)) = true := decide_eq_true c4; clear c4; by_cases c5 : (ji3) < (l0.length : Int)
     ·rw [if_pos c5] at H; have ax : decide ((ji3) < (l0.length : Int)) = true := decide_eq_true c5; clear c5; by_cases c6 : 0 ≤ D
      ·rw [if_pos c6] at H; have ay : decide (0 ≤ D) = true := decide_eq_true c6; clear c6; by_cases c7 : (rd l0 (ji3)) ≥ (rd l0 D)
       ·rw [if_pos c7] at H; have aq : decide ((rd l0 D) ≤ (rd l0 (ji3))) = true := decide_eq_true c7; clear c7; obtain rfl := Option.some.inj H; have J : 0 ≤ ((ji3) : Int) := of_decide_eq_true ‹_›; have L : (ji3) < (l0.length : Int) := of_decide_eq_true ‹_›; obtain ⟨ai, aj, ar⟩ := Kd.at_int ad.out (ji3) J L; cases aj
        replace J := eq_true J; replace L := eq_true L; have Y : 0 ≤ (D : Int) := of_decide_eq_true ‹_›; have aa : D < (l0.length : Int) := of_decide_eq_true ‹_›; obtain ⟨ak, al, au⟩ := Kd.at_int ad.out D Y aa; obtain rfl : ai = ak := (by injection al)
        replace Y := eq_true Y; replace aa := eq_true aa; go_wp2; repeat (go_quiet (fail); try go_wp2)
        go_ret; exact ⟨by first | rfl | (simp; done) | (simp only [← ae] <;> (first | rfl | simp)) | (simp [*]; done), by repeat (first | exact Drawn0.refl _ | apply Drawn0.step)⟩
       ·rw [if_neg c7] at H; have aq : decide ((rd l0 D) ≤ (rd l0 (ji3))) = false := decide_eq_false c7; clear c7; have H' := Aside0.mk H; clear H; have J : 0 ≤ ((ji3) : Int) := of_decide_eq_true ‹_›; have L : (ji3) < (l0.length : Int) := of_decide_eq_true ‹_›; obtain ⟨ai, aj, ar⟩ := Kd.at_int ad.out (ji3) J L; cases aj
        replace J := eq_true J; replace L := eq_true L; have Y : 0 ≤ (D : Int) := of_decide_eq_true ‹_›; have aa : D < (l0.length : Int) := of_decide_eq_true ‹_›; obtain ⟨ak, al, au⟩ := Kd.at_int ad.out D Y aa; obtain rfl : ai = ak := (by injection al)
        replace Y := eq_true Y; replace aa := eq_true aa; go_wp2; repeat (go_quiet (fail); try go_wp2)
        go_roundg k1
        case measure => have := am.out; omega
        case rel => exact ⟨(wrap64 (D + 1)), tS, H', ⟨by have := am.out; omega⟩, by repeat (first | exact Drawn0.refl _ | apply Drawn0.step)⟩
      ·rw [if_neg c6] at H; exact absurd H (by simp)
     ·rw [if_neg c5] at H; exact absurd H (by simp)
    ·rw [if_neg c4] at H; exact absurd H (by simp)
   ·rw [if_neg c2] at H; have ap : decide (D < (l0.length : Int)) = false := decide_eq_false c2; clear c2; obtain rfl := Option.some.inj H; go_wp2; repeat (go_quiet (fail); try go_wp2)
    go_ret; exact ⟨by first | rfl | (simp; done) | (simp [*]; done), by repeat (first | exact Drawn0.refl _ | apply Drawn0.step)⟩

/-! ### impl_FreeSlots: function 23 -/
def impl_FreeSlots.l0 : Nat → Int → List (S51) → Int → Int → Option (Int)
 | 0, _, _, _, _ => none
 | k + 1, x3, x6, x7, x8 => if x8 < x7 then (if 0 ≤ x8 then (if x8 < (x6.length : Int) then (if ((rd_T51 x6 x8).f2) = 0 then (impl_FreeSlots.l0 k (wrap64 (x3 + 1)) x6 x7 (wrap64 (x8 + 1))) else (impl_FreeSlots.l0 k x3 x6 x7 (wrap64 (x8 + 1)))) else (none)) else (none)) else (some x3)
def impl_FreeSlots.f (k : Nat) (l0 : List (S51)) : Option (Int) := impl_FreeSlots.l0 k 0 l0 (l0.length : Int) 0
theorem impl_FreeSlots.mono_l : ∀ k, (∀ y0 y1 y2 y3, LeO (impl_FreeSlots.l0 k y0 y1 y2 y3) (impl_FreeSlots.l0 (k + 1) y0 y1 y2 y3))
 | 0 => fun _ _ _ _ r h => by simp [impl_FreeSlots.l0] at h
 | k + 1 => by
  have ih0 := impl_FreeSlots.mono_l k
  ·intro y0 y1 y2 y3; unfold impl_FreeSlots.l0
   repeat' first
   | (with_reducible exact ih0 _ _ _ _)
   | (with_reducible exact LeO.refl _)
   | (with_reducible exact LeO.none _)
   | (with_reducible refine LeO.ite ?_ ?_)
   | (with_reducible refine LeO.bind ?_ (fun _ => ?_))
   | exact ih0 _ _ _ _
   | exact LeO.none _
   | refine LeO.ite ?_ ?_
   | refine LeO.bind ?_ (fun _ => ?_)
theorem impl_FreeSlots.mono : ∀ a0 k, LeO (impl_FreeSlots.f k a0) (impl_FreeSlots.f (k + 1) a0) := by
 intro a0 k; have ih0 := impl_FreeSlots.mono_l k; unfold impl_FreeSlots.f
 repeat' first
   | (with_reducible exact ih0 _ _ _ _)
   | (with_reducible exact LeO.refl _)
   | (with_reducible exact LeO.none _)
   | (with_reducible refine LeO.ite ?_ ?_)
   | (with_reducible refine LeO.bind ?_ (fun _ => ?_))
   | exact ih0 _ _ _ _
   | exact LeO.none _
   | refine LeO.ite ?_ ?_
   | refine LeO.bind ?_ (fun _ => ?_)
set_option maxHeartbeats 8000000 in
set_option maxRecDepth 100000 in
theorem impl_FreeSlots.calls (k : Nat) (A0 : Option Addr) (c0 : Nat) (l0 : List (S51)) (r : Int) (w : World) (hr0 : Kd.C k51 w A0 l0.length l0) (hc0 : l0.length ≤ c0) (h : impl_FreeSlots.f k l0 = some r) :
  Calls Try.prog 23 #[.slice A0 l0.length c0] w fun e w' => e = .returned (.int .i64 r) ∧ Below w.heap.size w w' := by
 have hu51 := Try.underlying51; have am := Aside0.mk hr0; have ax := Aside0.mk hc0; clear hr0 hc0; have HB := aM (Below.refl w.heap.size w); have H : (impl_FreeSlots.l0 k 0 l0 (l0.length : Int) 0) = some r := h; clear h; have H' := Aside0.mk H; clear H; go_enter Try.func23, Try.ntmps23; go_wp2; go_loopg [3, 8] k (fun kq v3 v8 w' => ∃ (ab : Int) (D : Int), v3 = .int .i64 ab ∧ v8 = .int .i64 D ∧ Aside0 (impl_FreeSlots.l0 kq ab l0 (l0.length : Int) D = some r) ∧ Aside0 (kq ≤ k) ∧ Aside0 (Below w.heap.size w w'))
 case atStart => exact ⟨(0), (0), tS, tS, H', ⟨Nat.le_refl _⟩, ⟨tB0⟩⟩
 case round =>
  clear H'; obtain ⟨ab, D, rfl, rfl, HA, ah, HB⟩ := hrel; cases gk with
  | zero => exact absurd HA.out (by simp [impl_FreeSlots.l0])
  | succ k1 =>
   have H := HA.out; clear HA; simp only [impl_FreeSlots.l0] at H; by_cases c2 : D < (l0.length : Int)
   ·rw [if_pos c2] at H; have aq : decide (D < (l0.length : Int)) = true := decide_eq_true c2; clear c2; by_cases c3 : 0 ≤ D
    ·rw [if_pos c3] at H; have ay : decide (0 ≤ D) = true := decide_eq_true c3; clear c3; by_cases c4 : D < (l0.length : Int)
     ·rw [if_pos c4] at H; have az : decide (D < (l0.length : Int)) = true := decide_eq_true c4; clear c4; by_cases J : ((rd_T51 l0 D).f2) = 0
      ·rw [if_pos J] at H; have ar : (((rd_T51 l0 D).f2) == 0) = true := beq_iff_eq.mpr J; have au : (((rd_T51 l0 D).f2) != 0) = false := bne_eq_false_iff_eq.mpr J; clear J; have H' := Aside0.mk H; clear H; have L : 0 ≤ (D : Int) := of_decide_eq_true ‹_›; have Y : D < (l0.length : Int) := of_decide_eq_true ‹_›; obtain ⟨av, ak, ac, ad, ae⟩ := at_T51 am.out D L Y; cases ak
       replace ac := cB HB ac; replace ad := cB HB ad; replace ae := cB HB ae; replace L := eq_true L; replace Y := eq_true Y; go_wp2_with (first | ((with_reducible refine gate_dst (N := 5) rfl ?_); refine bx 5 #[.int .i64 0, .int .i64 0, .int .i64 0] 51 ?_; intro af hg w6 hbox hb; have ag := aM hbox; have aw := aM ((by rw [hg]; exact (below_size (qB HB)) : w.heap.size ≤ af)); have al := aM ((by rw [hg]; exact (below_size (qB HB)) : w.heap.size ≤ af)); replace HB := aM (below_step (qB HB) hb); clear hb hbox hg; obtain ⟨aC, aD, aE⟩ := cz3 ag; obtain ⟨aG, aH, aI⟩ := fz3 ag)); go_roundg k1
       case measure => have := ah.out; omega
       case rel => exact ⟨(wrap64 (ab + 1)), (wrap64 (D + 1)), tS, tS, H', ⟨by have := ah.out; omega⟩, ⟨tB1 al⟩⟩
      ·rw [if_neg J] at H; have ar : (((rd_T51 l0 D).f2) == 0) = false := beq_eq_false_iff_ne.mpr J; have au : (((rd_T51 l0 D).f2) != 0) = true := bne_iff_ne.mpr J; have H' := Aside0.mk H; clear H; have L : 0 ≤ (D : Int) := of_decide_eq_true ‹_›; have Y : D < (l0.length : Int) := of_decide_eq_true ‹_›; obtain ⟨av, ak, ac, ad, ae⟩ := at_T51 am.out D L Y; cases ak
       replace ac := cB HB ac; replace ad := cB HB ad; replace ae := cB HB ae; replace L := eq_true L; replace Y := eq_true Y; go_wp2_with (first | ((with_reducible refine gate_dst (N := 5) rfl ?_); refine bx 5 #[.int .i64 0, .int .i64 0, .int .i64 0] 51 ?_; intro af hg w8 hbox hb; have ag := aM hbox; have aw := aM ((by rw [hg]; exact (below_size (qB HB)) : w.heap.size ≤ af)); have al := aM ((by rw [hg]; exact (below_size (qB HB)) : w.heap.size ≤ af)); replace HB := aM (below_step (qB HB) hb); clear hb hbox hg; obtain ⟨aK, aN, aQ⟩ := cz3 ag; obtain ⟨aT, aU, aV⟩ := fz3 ag)); go_roundg k1
       case measure => have := ah.out; omega
       case rel => exact ⟨(ab), (wrap64 (D + 1)), tS, tS, H', ⟨by have := ah.out; omega⟩, ⟨tB1 al⟩⟩
     ·rw [if_neg c4] at H; exact absurd H (by simp)
    ·rw [if_neg c3] at H; exact absurd H (by simp)
   ·rw [if_neg c2] at H; have aq : decide (D < (l0.length : Int)) = false := decide_eq_false c2; clear c2; obtain rfl := Option.some.inj H; go_wp2; go_ret; exact ⟨tE, tB0⟩

/-! ### laws_contains: function 24 -/
def laws_contains.l0 : Nat → List Int → Int → Int → Option (Bool)
 | 0, _, _, _ => none
 | k + 1, x0, x1, x5 => if x5 < (x0.length : Int) then (if 0 ≤ x5 then (if (rd x0 x5) = x1 then (some true) else (laws_contains.l0 k x0 x1 (wrap64 (x5 + 1)))) else (none)) else (some false)
def laws_contains.f (k : Nat) (l0 : List Int) (a1 : Int) : Option (Bool) := laws_contains.l0 k l0 a1 0
theorem laws_contains.mono_l : ∀ k, (∀ y0 y1 y2, LeO (laws_contains.l0 k y0 y1 y2) (laws_contains.l0 (k + 1) y0 y1 y2))
 | 0 => fun _ _ _ r h => by simp [laws_contains.l0] at h
 | k + 1 => by
  have ih0 := laws_contains.mono_l k
  ·intro y0 y1 y2; unfold laws_contains.l0
   repeat' first
   | (with_reducible exact ih0 _ _ _)
   | (with_reducible exact LeO.refl _)
   | (with_reducible exact LeO.none _)
   | (with_reducible refine LeO.ite ?_ ?_)
   | (with_reducible refine LeO.bind ?_ (fun _ => ?_))
   | exact ih0 _ _ _
   | exact LeO.none _
   | refine LeO.ite ?_ ?_
   | refine LeO.bind ?_ (fun _ => ?_)
theorem laws_contains.mono : ∀ a0 a1 k, LeO (laws_contains.f k a0 a1) (laws_contains.f (k + 1) a0 a1) := by
 intro a0 a1 k; have ih0 := laws_contains.mono_l k; unfold laws_contains.f
 repeat' first
   | (with_reducible exact ih0 _ _ _)
   | (with_reducible exact LeO.refl _)
   | (with_reducible exact LeO.none _)
   | (with_reducible refine LeO.ite ?_ ?_)
   | (with_reducible refine LeO.bind ?_ (fun _ => ?_))
   | exact ih0 _ _ _
   | exact LeO.none _
   | refine LeO.ite ?_ ?_
   | refine LeO.bind ?_ (fun _ => ?_)
set_option maxHeartbeats 8000000 in
set_option maxRecDepth 100000 in
theorem laws_contains.calls (k : Nat) (A0 : Option Addr) (c0 : Nat) (l0 : List Int) (a1 : Int) (r : Bool) (w : World) (hr0 : Kd.C (Kd.int .i64) w A0 l0.length l0) (hc0 : l0.length ≤ c0) (h : laws_contains.f k l0 a1 = some r) :
  Calls Try.prog 24 #[.slice A0 l0.length c0, .int .i64 a1] w fun e w' => e = .returned (.bool r) ∧ Drawn0 w w' := by
 have ad := Aside0.mk hr0; have al := Aside0.mk hc0; clear hr0 hc0; have H : (laws_contains.l0 k l0 a1 0) = some r := h; clear h; have H' := Aside0.mk H; clear H; go_enter Try.func24, Try.ntmps24; go_wp2; go_loopg [5] k (fun kq v5 w' => ∃ (D : Int), v5 = .int .i64 D ∧ Aside0 (laws_contains.l0 kq l0 a1 D = some r) ∧ Aside0 (kq ≤ k) ∧ Drawn0 w w')
 case atStart => exact ⟨(0), tS, H', ⟨Nat.le_refl _⟩, by repeat (first | exact Drawn0.refl _ | apply Drawn0.step)⟩
 case round =>
  clear H'; try clear c2
  try clear p2
  obtain ⟨D, rfl, HA, ae, ⟨m1, rfl⟩⟩ := hrel; cases gk with
  | zero => exact absurd HA.out (by simp [laws_contains.l0])
  | succ k1 =>
   have H := HA.out; clear HA; simp only [laws_contains.l0] at H; by_cases c3 : D < (l0.length : Int)
   ·rw [if_pos c3] at H; have ag : decide (D < (l0.length : Int)) = true := decide_eq_true c3; clear c3; by_cases c4 : 0 ≤ D
    ·rw [if_pos c4] at H; have ao : decide (0 ≤ D) = true := decide_eq_true c4; clear c4; by_cases J : (rd l0 D) = a1
     ·rw [if_pos J] at H; have ah : ((rd l0 D) == a1) = true := beq_iff_eq.mpr J; have ai : ((rd l0 D) != a1) = false := bne_eq_false_iff_eq.mpr J; clear J; obtain rfl := Option.some.inj H; have L : 0 ≤ (D : Int) := of_decide_eq_true ‹_›; have Y : D < (l0.length : Int) := of_decide_eq_true ‹_›; obtain ⟨aj, ac, ak⟩ := Kd.at_int ad.out D L Y; cases ac
      replace L := eq_true L; replace Y := eq_true Y; go_wp2; go_ret; exact ⟨by first | rfl | (simp; done) | (simp [*]; done), by repeat (first | exact Drawn0.refl _ | apply Drawn0.step)⟩
     ·rw [if_neg J] at H; have ah : ((rd l0 D) == a1) = false := beq_eq_false_iff_ne.mpr J; have ai : ((rd l0 D) != a1) = true := bne_iff_ne.mpr J; have H' := Aside0.mk H; clear H; have L : 0 ≤ (D : Int) := of_decide_eq_true ‹_›; have Y : D < (l0.length : Int) := of_decide_eq_true ‹_›; obtain ⟨aj, ac, ak⟩ := Kd.at_int ad.out D L Y; cases ac
      replace L := eq_true L; replace Y := eq_true Y; go_wp2; go_roundg k1
      case measure => have := ae.out; omega
      case rel => exact ⟨(wrap64 (D + 1)), tS, H', ⟨by have := ae.out; omega⟩, by repeat (first | exact Drawn0.refl _ | apply Drawn0.step)⟩
    ·rw [if_neg c4] at H; exact absurd H (by simp)
   ·rw [if_neg c3] at H; have ag : decide (D < (l0.length : Int)) = false := decide_eq_false c3; clear c3; obtain rfl := Option.some.inj H; go_wp2; go_ret; exact ⟨by first | rfl | (simp; done) | (simp [*]; done), by repeat (first | exact Drawn0.refl _ | apply Drawn0.step)⟩

end Go.Proofs.Ytbacepkkamfeoaa.PFnPacked
