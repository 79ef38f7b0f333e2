-- The printed functions of one law and their contracts, over contracts of this session's own (hand.py).
import Derived.Test.YtppgealmedaihaaPFnMarksx0
import Derived.Test.YtppgealmedaihaaPFnMarksx1
import Derived.Test.YtppgealmedaihaaPFnMarksx4
import Derived.Test.YtppgealmedaihaaPFnMarksx5
import Derived.Test.YtppgealmedaihaaPFnMarksx6
namespace Go.Proofs.Ytppgealmedaihaa.PFnMarks
open Go.RowKit Go.Proofs.YtppgealmedaihaaW.PrintWords Go.Proofs.YtppgealmedaihaaW.PrintLast Go.Proofs.YtppgealmedaihaaW.PrintMore Go.Proofs.Ytppgealmedaihaa.Short
attribute [local go_sem] max2_int min2_int max_two min_two max_three min_three max_four min_four   -- for this text's walks alone
set_option linter.unusedVariables false
set_option linter.unusedSimpArgs false

/-! ### laws_FnMarks: function 5 -/
mutual
def laws_FnMarks.j0 : Nat → List Int → List (S62) → Int → Bool → Option (Bool)
 | 0, _, _, _, _ => none
 | k + 1, x0, x5, x6, x69 => if x69 = true then (some false) else (laws_FnMarks.l0 k x0 x5 x6 0 0)
def laws_FnMarks.l0 : Nat → List Int → List (S62) → Int → Int → Int → Option (Bool)
 | 0, _, _, _, _, _ => none
 | k + 1, x0, x5, x6, x9, x10 => if x10 < (x5.length : Int) then ((impl_AreMarks.f k x5).bind fun t350 => (laws_FnMarks.j2 k x0 x5 x6 x9 x10 t350)) else (laws_FnMarks.j2 k x0 x5 x6 x9 x10 false)
def laws_FnMarks.j2 : Nat → List Int → List (S62) → Int → Int → Int → Bool → Option (Bool)
 | 0, _, _, _, _, _, _ => none
 | k + 1, x0, x5, x6, x9, x10, x77 => if x77 = true then (laws_FnMarks.l1 k x0 x5 x6 x9 x10 0) else ((impl_AreMarks.f k x5).bind fun t353 => (if t353 = true then (laws_FnMarks.j4 k x0 (x9 != (x5.length : Int))) else (laws_FnMarks.j4 k x0 false)))
def laws_FnMarks.l1 : Nat → List Int → List (S62) → Int → Int → Int → Int → Option (Bool)
 | 0, _, _, _, _, _, _ => none
 | k + 1, x0, x5, x6, x9, x10, x11 => if x11 < (x5.length : Int) then ((impl_QuestionFor.f k x5 x6 x11).bind fun t351 => (if 0 ≤ x10 then (if x10 < (x5.length : Int) then (if t351 = ((rd_T62 x5 x10).f0) then (laws_FnMarks.l1 k x0 x5 x6 (wrap64 (x9 + 1)) x10 (wrap64 (x11 + 1))) else (laws_FnMarks.l1 k x0 x5 x6 x9 x10 (wrap64 (x11 + 1)))) else (none)) else (none))) else (laws_FnMarks.l0 k x0 x5 x6 x9 (wrap64 (x10 + 1)))
def laws_FnMarks.j4 : Nat → List Int → Bool → Option (Bool)
 | 0, _, _ => none
 | k + 1, x0, x105 => if x105 = true then (some false) else ((spec_DrawPutMark.f k x0).bind fun bt354 => ((impl_PutMark.f k bt354.1 bt354.2.1 bt354.2.2).bind fun bt360 => (if bt360.2 = true then ((impl_AreMarks.f k bt360.1).bind fun t364 => (if t364 = true then ((impl_AnswerOf.f k bt360.1 bt354.2.1).bind fun t365 => (if t365 = bt354.2.2 then (some true) else (some false))) else (some false))) else (some ((bt360.1.length : Int) == (bt354.1.length : Int))))))
end
def laws_FnMarks.f (k : Nat) (l0 : List Int) : Option (Bool) := (laws_big.f l0).bind fun t331 => (if t331 = true then (some true) else ((spec_DrawSealMarks.f k l0).bind fun bt332 => ((impl_SealMarks.f k bt332.1 bt332.2).bind fun t336 => ((impl_OpensSeal.f k bt332.1 bt332.2 t336).bind fun t337 => ((impl_AreMarks.f k bt332.1).bind fun t338 => (if (t337 != t338) = true then (some false) else ((spec_DrawQuestionFor.f k l0).bind fun bt339 => ((impl_QuestionFor.f k bt339.1 bt339.2.1 bt339.2.2).bind fun t344 => (if (bt339.1.length : Int) > 0 then ((impl_AreMarks.f k bt339.1).bind fun t345 => (if t345 = true then (if bt339.2.2 ≥ 0 then (if ((t344 != 0) != (decide (bt339.2.2 ≤ 1000))) = true then (laws_FnMarks.j0 k l0 bt339.1 bt339.2.1 true) else (if t344 = 0 then (laws_FnMarks.j0 k l0 bt339.1 bt339.2.1 false) else ((impl_AnswerOf.f k bt339.1 t344).bind fun t346 => (laws_FnMarks.j0 k l0 bt339.1 bt339.2.1 (decide (t346 < 0)))))) else (if ((t344 != 0) != false) = true then (laws_FnMarks.j0 k l0 bt339.1 bt339.2.1 true) else (if t344 = 0 then (laws_FnMarks.j0 k l0 bt339.1 bt339.2.1 false) else ((impl_AnswerOf.f k bt339.1 t344).bind fun t347 => (laws_FnMarks.j0 k l0 bt339.1 bt339.2.1 (decide (t347 < 0))))))) else (if ((t344 != 0) != false) = true then (laws_FnMarks.j0 k l0 bt339.1 bt339.2.1 true) else (if t344 = 0 then (laws_FnMarks.j0 k l0 bt339.1 bt339.2.1 false) else ((impl_AnswerOf.f k bt339.1 t344).bind fun t348 => (laws_FnMarks.j0 k l0 bt339.1 bt339.2.1 (decide (t348 < 0)))))))) else (if ((t344 != 0) != false) = true then (laws_FnMarks.j0 k l0 bt339.1 bt339.2.1 true) else (if t344 = 0 then (laws_FnMarks.j0 k l0 bt339.1 bt339.2.1 false) else ((impl_AnswerOf.f k bt339.1 t344).bind fun t349 => (laws_FnMarks.j0 k l0 bt339.1 bt339.2.1 (decide (t349 < 0)))))))))))))))
theorem laws_FnMarks.mono_l : ∀ k, (∀ y0 y1 y2 y3, LeO (laws_FnMarks.j0 k y0 y1 y2 y3) (laws_FnMarks.j0 (k + 1) y0 y1 y2 y3)) ∧ (∀ y0 y1 y2 y3 y4, LeO (laws_FnMarks.l0 k y0 y1 y2 y3 y4) (laws_FnMarks.l0 (k + 1) y0 y1 y2 y3 y4)) ∧ (∀ y0 y1 y2 y3 y4 y5, LeO (laws_FnMarks.j2 k y0 y1 y2 y3 y4 y5) (laws_FnMarks.j2 (k + 1) y0 y1 y2 y3 y4 y5)) ∧ (∀ y0 y1 y2 y3 y4 y5, LeO (laws_FnMarks.l1 k y0 y1 y2 y3 y4 y5) (laws_FnMarks.l1 (k + 1) y0 y1 y2 y3 y4 y5)) ∧ (∀ y0 y1, LeO (laws_FnMarks.j4 k y0 y1) (laws_FnMarks.j4 (k + 1) y0 y1))
 | 0 => ⟨fun _ _ _ _ r h => by simp [laws_FnMarks.j0] at h, fun _ _ _ _ _ r h => by simp [laws_FnMarks.l0] at h, fun _ _ _ _ _ _ r h => by simp [laws_FnMarks.j2] at h, fun _ _ _ _ _ _ r h => by simp [laws_FnMarks.l1] at h, fun _ _ r h => by simp [laws_FnMarks.j4] at h⟩
 | k + 1 => by
  obtain ⟨ih0, ih1, ih2, ih3, ih4⟩ := laws_FnMarks.mono_l k
  refine ⟨?_, ?_, ?_, ?_, ?_⟩
  ·intro y0 y1 y2 y3
   unfold laws_FnMarks.j0
   repeat' first
   | (with_reducible exact ih0 _ _ _ _)
   | (with_reducible exact ih1 _ _ _ _ _)
   | (with_reducible exact ih2 _ _ _ _ _ _)
   | (with_reducible exact ih3 _ _ _ _ _ _)
   | (with_reducible exact ih4 _ _)
   | (with_reducible exact impl_AnswerOf.mono _ _ _)
   | (with_reducible exact impl_AreMarks.mono _ _)
   | (with_reducible exact impl_OpensSeal.mono _ _ _ _)
   | (with_reducible exact impl_PutMark.mono _ _ _ _)
   | (with_reducible exact impl_QuestionFor.mono _ _ _ _)
   | (with_reducible exact impl_SealMarks.mono _ _ _)
   | (with_reducible exact spec_DrawPutMark.mono _ _)
   | (with_reducible exact spec_DrawQuestionFor.mono _ _)
   | (with_reducible exact spec_DrawSealMarks.mono _ _)
   | (with_reducible exact LeO.refl _)
   | (with_reducible exact LeO.none _)
   | (with_reducible refine LeO.ite ?_ ?_)
   | (with_reducible refine LeO.bind ?_ (fun _ => ?_))
   | exact ih0 _ _ _ _
   | exact ih1 _ _ _ _ _
   | exact ih2 _ _ _ _ _ _
   | exact ih3 _ _ _ _ _ _
   | exact ih4 _ _
   | exact impl_AnswerOf.mono _ _ _
   | exact impl_AreMarks.mono _ _
   | exact impl_OpensSeal.mono _ _ _ _
   | exact impl_PutMark.mono _ _ _ _
   | exact impl_QuestionFor.mono _ _ _ _
   | exact impl_SealMarks.mono _ _ _
   | exact spec_DrawPutMark.mono _ _
   | exact spec_DrawQuestionFor.mono _ _
   | exact spec_DrawSealMarks.mono _ _
   | exact LeO.none _
   | refine LeO.ite ?_ ?_
   | refine LeO.bind ?_ (fun _ => ?_)
  ·intro y0 y1 y2 y3 y4
   unfold laws_FnMarks.l0
   repeat' first
   | (with_reducible exact ih0 _ _ _ _)
   | (with_reducible exact ih1 _ _ _ _ _)
   | (with_reducible exact ih2 _ _ _ _ _ _)
   | (with_reducible exact ih3 _ _ _ _ _ _)
   | (with_reducible exact ih4 _ _)
   | (with_reducible exact impl_AnswerOf.mono _ _ _)
   | (with_reducible exact impl_AreMarks.mono _ _)
   | (with_reducible exact impl_OpensSeal.mono _ _ _ _)
   | (with_reducible exact impl_PutMark.mono _ _ _ _)
   | (with_reducible exact impl_QuestionFor.mono _ _ _ _)
   | (with_reducible exact impl_SealMarks.mono _ _ _)
   | (with_reducible exact spec_DrawPutMark.mono _ _)
   | (with_reducible exact spec_DrawQuestionFor.mono _ _)
   | (with_reducible exact spec_DrawSealMarks.mono _ _)
   | (with_reducible exact LeO.refl _)
   | (with_reducible exact LeO.none _)
   | (with_reducible refine LeO.ite ?_ ?_)
   | (with_reducible refine LeO.bind ?_ (fun _ => ?_))
   | exact ih0 _ _ _ _
   | exact ih1 _ _ _ _ _
   | exact ih2 _ _ _ _ _ _
   | exact ih3 _ _ _ _ _ _
   | exact ih4 _ _
   | exact impl_AnswerOf.mono _ _ _
   | exact impl_AreMarks.mono _ _
   | exact impl_OpensSeal.mono _ _ _ _
   | exact impl_PutMark.mono _ _ _ _
   | exact impl_QuestionFor.mono _ _ _ _
   | exact impl_SealMarks.mono _ _ _
   | exact spec_DrawPutMark.mono _ _
   | exact spec_DrawQuestionFor.mono _ _
   | exact spec_DrawSealMarks.mono _ _
   | exact LeO.none _
   | refine LeO.ite ?_ ?_
   | refine LeO.bind ?_ (fun _ => ?_)
  ·intro y0 y1 y2 y3 y4 y5
   unfold laws_FnMarks.j2
   repeat' first
   | (with_reducible exact ih0 _ _ _ _)
   | (with_reducible exact ih1 _ _ _ _ _)
   | (with_reducible exact ih2 _ _ _ _ _ _)
   | (with_reducible exact ih3 _ _ _ _ _ _)
   | (with_reducible exact ih4 _ _)
   | (with_reducible exact impl_AnswerOf.mono _ _ _)
   | (with_reducible exact impl_AreMarks.mono _ _)
   | (with_reducible exact impl_OpensSeal.mono _ _ _ _)
   | (with_reducible exact impl_PutMark.mono _ _ _ _)
   | (with_reducible exact impl_QuestionFor.mono _ _ _ _)
   | (with_reducible exact impl_SealMarks.mono _ _ _)
   | (with_reducible exact spec_DrawPutMark.mono _ _)
   | (with_reducible exact spec_DrawQuestionFor.mono _ _)
   | (with_reducible exact spec_DrawSealMarks.mono _ _)
   | (with_reducible exact LeO.refl _)
   | (with_reducible exact LeO.none _)
   | (with_reducible refine LeO.ite ?_ ?_)
   | (with_reducible refine LeO.bind ?_ (fun _ => ?_))
   | exact ih0 _ _ _ _
   | exact ih1 _ _ _ _ _
   | exact ih2 _ _ _ _ _ _
   | exact ih3 _ _ _ _ _ _
   | exact ih4 _ _
   | exact impl_AnswerOf.mono _ _ _
   | exact impl_AreMarks.mono _ _
   | exact impl_OpensSeal.mono _ _ _ _
   | exact impl_PutMark.mono _ _ _ _
   | exact impl_QuestionFor.mono _ _ _ _
   | exact impl_SealMarks.mono _ _ _
   | exact spec_DrawPutMark.mono _ _
   | exact spec_DrawQuestionFor.mono _ _
   | exact spec_DrawSealMarks.mono _ _
   | exact LeO.none _
   | refine LeO.ite ?_ ?_
   | refine LeO.bind ?_ (fun _ => ?_)
  ·intro y0 y1 y2 y3 y4 y5
   unfold laws_FnMarks.l1
   repeat' first
   | (with_reducible exact ih0 _ _ _ _)
   | (with_reducible exact ih1 _ _ _ _ _)
   | (with_reducible exact ih2 _ _ _ _ _ _)
   | (with_reducible exact ih3 _ _ _ _ _ _)
   | (with_reducible exact ih4 _ _)
   | (with_reducible exact impl_AnswerOf.mono _ _ _)
   | (with_reducible exact impl_AreMarks.mono _ _)
   | (with_reducible exact impl_OpensSeal.mono _ _ _ _)
   | (with_reducible exact impl_PutMark.mono _ _ _ _)
   | (with_reducible exact impl_QuestionFor.mono _ _ _ _)
   | (with_reducible exact impl_SealMarks.mono _ _ _)
   | (with_reducible exact spec_DrawPutMark.mono _ _)
   | (with_reducible exact spec_DrawQuestionFor.mono _ _)
   | (with_reducible exact spec_DrawSealMarks.mono _ _)
   | (with_reducible exact LeO.refl _)
   | (with_reducible exact LeO.none _)
   | (with_reducible refine LeO.ite ?_ ?_)
   | (with_reducible refine LeO.bind ?_ (fun _ => ?_))
   | exact ih0 _ _ _ _
   | exact ih1 _ _ _ _ _
   | exact ih2 _ _ _ _ _ _
   | exact ih3 _ _ _ _ _ _
   | exact ih4 _ _
   | exact impl_AnswerOf.mono _ _ _
   | exact impl_AreMarks.mono _ _
   | exact impl_OpensSeal.mono _ _ _ _
   | exact impl_PutMark.mono _ _ _ _
   | exact impl_QuestionFor.mono _ _ _ _
   | exact impl_SealMarks.mono _ _ _
   | exact spec_DrawPutMark.mono _ _
   | exact spec_DrawQuestionFor.mono _ _
   | exact spec_DrawSealMarks.mono _ _
   | exact LeO.none _
   | refine LeO.ite ?_ ?_
   | refine LeO.bind ?_ (fun _ => ?_)
  ·intro y0 y1
   unfold laws_FnMarks.j4
   repeat' first
   | (with_reducible exact ih0 _ _ _ _)
   | (with_reducible exact ih1 _ _ _ _ _)
   | (with_reducible exact ih2 _ _ _ _ _ _)
   | (with_reducible exact ih3 _ _ _ _ _ _)
   | (with_reducible exact ih4 _ _)
   | (with_reducible exact impl_AnswerOf.mono _ _ _)
   | (with_reducible exact impl_AreMarks.mono _ _)
   | (with_reducible exact impl_OpensSeal.mono _ _ _ _)
   | (with_reducible exact impl_PutMark.mono _ _ _ _)
   | (with_reducible exact impl_QuestionFor.mono _ _ _ _)
   | (with_reducible exact impl_SealMarks.mono _ _ _)
   | (with_reducible exact spec_DrawPutMark.mono _ _)
   | (with_reducible exact spec_DrawQuestionFor.mono _ _)
   | (with_reducible exact spec_DrawSealMarks.mono _ _)
   | (with_reducible exact LeO.refl _)
   | (with_reducible exact LeO.none _)
   | (with_reducible refine LeO.ite ?_ ?_)
   | (with_reducible refine LeO.bind ?_ (fun _ => ?_))
   | exact ih0 _ _ _ _
   | exact ih1 _ _ _ _ _
   | exact ih2 _ _ _ _ _ _
   | exact ih3 _ _ _ _ _ _
   | exact ih4 _ _
   | exact impl_AnswerOf.mono _ _ _
   | exact impl_AreMarks.mono _ _
   | exact impl_OpensSeal.mono _ _ _ _
   | exact impl_PutMark.mono _ _ _ _
   | exact impl_QuestionFor.mono _ _ _ _
   | exact impl_SealMarks.mono _ _ _
   | exact spec_DrawPutMark.mono _ _
   | exact spec_DrawQuestionFor.mono _ _
   | exact spec_DrawSealMarks.mono _ _
   | exact LeO.none _
   | refine LeO.ite ?_ ?_
   | refine LeO.bind ?_ (fun _ => ?_)
theorem laws_FnMarks.mono : ∀ a0 k, LeO (laws_FnMarks.f k a0) (laws_FnMarks.f (k + 1) a0) := by
 intro a0 k
 obtain ⟨ih0, ih1, ih2, ih3, ih4⟩ := laws_FnMarks.mono_l k
 unfold laws_FnMarks.f
 repeat' first
   | (with_reducible exact ih0 _ _ _ _)
   | (with_reducible exact ih1 _ _ _ _ _)
   | (with_reducible exact ih2 _ _ _ _ _ _)
   | (with_reducible exact ih3 _ _ _ _ _ _)
   | (with_reducible exact ih4 _ _)
   | (with_reducible exact impl_AnswerOf.mono _ _ _)
   | (with_reducible exact impl_AreMarks.mono _ _)
   | (with_reducible exact impl_OpensSeal.mono _ _ _ _)
   | (with_reducible exact impl_PutMark.mono _ _ _ _)
   | (with_reducible exact impl_QuestionFor.mono _ _ _ _)
   | (with_reducible exact impl_SealMarks.mono _ _ _)
   | (with_reducible exact spec_DrawPutMark.mono _ _)
   | (with_reducible exact spec_DrawQuestionFor.mono _ _)
   | (with_reducible exact spec_DrawSealMarks.mono _ _)
   | (with_reducible exact LeO.refl _)
   | (with_reducible exact LeO.none _)
   | (with_reducible refine LeO.ite ?_ ?_)
   | (with_reducible refine LeO.bind ?_ (fun _ => ?_))
   | exact ih0 _ _ _ _
   | exact ih1 _ _ _ _ _
   | exact ih2 _ _ _ _ _ _
   | exact ih3 _ _ _ _ _ _
   | exact ih4 _ _
   | exact impl_AnswerOf.mono _ _ _
   | exact impl_AreMarks.mono _ _
   | exact impl_OpensSeal.mono _ _ _ _
   | exact impl_PutMark.mono _ _ _ _
   | exact impl_QuestionFor.mono _ _ _ _
   | exact impl_SealMarks.mono _ _ _
   | exact spec_DrawPutMark.mono _ _
   | exact spec_DrawQuestionFor.mono _ _
   | exact spec_DrawSealMarks.mono _ _
   | exact LeO.none _
   | refine LeO.ite ?_ ?_
   | refine LeO.bind ?_ (fun _ => ?_)
def laws_FnMarks.T17 : Bool × List (List Nat × List Nat) := (true, [([], []), ([], []), ([], []), ([0, 1, 2], [0, 1, 2]), ([], []), ([], []), ([4, 5], [4, 5]), ([6], [6]), ([7], [7]), ([3, 8], [3, 8])])
def laws_FnMarks.B17 : List Nat := [0, 0, 0, 7, 0, 0, 48, 112, 240, 511]
theorem laws_FnMarks.tab17 : rtab .any (opsOf Try.f5 17) = laws_FnMarks.T17 := by kernel_rfl
theorem laws_FnMarks.bits17 : waitsOk laws_FnMarks.T17.2 laws_FnMarks.B17 = true := by kernel_rfl
def laws_FnMarks.T23 : Bool × List (List Nat × List Nat) := (true, [([], []), ([0], [0]), ([1], [1]), ([2, 1, 1], [1, 2]), ([1, 3], [1, 3]), ([4, 3], [4]), ([5], [5]), ([5], [5]), ([7, 5], [5, 7]), ([6, 8, 5, 5], [5, 6, 8]), ([5], [5]), ([10, 5], [5, 10]), ([9, 11, 5], [5, 9, 11]), ([5, 12], [5, 12]), ([13, 9], [13]), ([14], [14]), ([15, 14], [14, 15]), ([16, 14, 14], [14, 16]), ([17], [17]), ([18, 17], [17, 18]), ([17], [17]), ([20, 17], [17, 20]), ([19, 21, 17], [17, 19, 21]), ([17, 22, 14], [14, 17, 22]), ([14, 23], [14, 23]), ([24, 17, 0, 1, 2, 3, 4, 5, 6, 7, 8, 9, 10, 11, 12, 13, 14, 15, 16, 17, 18, 19, 20, 21, 22, 23, 24], [24])])
def laws_FnMarks.B23 : List Nat := [0, 1, 3, 7, 15, 31, 63, 63, 191, 511, 63, 1087, 4095, 8191, 16383, 32767, 65535, 131071, 262143, 524287, 262143, 1310719, 4194303, 8388607, 16777215, 33554431]
theorem laws_FnMarks.tab23 : rtab .any (opsOf Try.f5 23) = laws_FnMarks.T23 := by kernel_rfl
theorem laws_FnMarks.bits23 : waitsOk laws_FnMarks.T23.2 laws_FnMarks.B23 = true := by kernel_rfl
set_option maxHeartbeats 8000000 in
set_option maxRecDepth 100000 in
theorem laws_FnMarks.calls (k : Nat) (A0 : Option Addr) (c0 : Nat) (l0 : List Int) (r : Bool) (w : World) (hr0 : Kd.C (Kd.int .u8) w A0 l0.length l0) (hc0 : l0.length ≤ c0) (h : laws_FnMarks.f k l0 = some r) :
  Calls Try.prog 5 #[.slice A0 l0.length c0] w fun e w' => e = .returned (.bool r) ∧ Below w.heap.size w w' := by
 have hu62 := Try.underlying62
 have HR0 := Aside0.mk hr0
 have HC0 := Aside0.mk hc0
 clear hr0 hc0
 have HB := Aside0.mk (Below.refl w.heap.size w)
 have H : ((laws_big.f l0).bind fun t331 => (if t331 = true then (some true) else ((spec_DrawSealMarks.f k l0).bind fun bt332 => ((impl_SealMarks.f k bt332.1 bt332.2).bind fun t336 => ((impl_OpensSeal.f k bt332.1 bt332.2 t336).bind fun t337 => ((impl_AreMarks.f k bt332.1).bind fun t338 => (if (t337 != t338) = true then (some false) else ((spec_DrawQuestionFor.f k l0).bind fun bt339 => ((impl_QuestionFor.f k bt339.1 bt339.2.1 bt339.2.2).bind fun t344 => (if (bt339.1.length : Int) > 0 then ((impl_AreMarks.f k bt339.1).bind fun t345 => (if t345 = true then (if bt339.2.2 ≥ 0 then (if ((t344 != 0) != (decide (bt339.2.2 ≤ 1000))) = true then (laws_FnMarks.j0 k l0 bt339.1 bt339.2.1 true) else (if t344 = 0 then (laws_FnMarks.j0 k l0 bt339.1 bt339.2.1 false) else ((impl_AnswerOf.f k bt339.1 t344).bind fun t346 => (laws_FnMarks.j0 k l0 bt339.1 bt339.2.1 (decide (t346 < 0)))))) else (if ((t344 != 0) != false) = true then (laws_FnMarks.j0 k l0 bt339.1 bt339.2.1 true) else (if t344 = 0 then (laws_FnMarks.j0 k l0 bt339.1 bt339.2.1 false) else ((impl_AnswerOf.f k bt339.1 t344).bind fun t347 => (laws_FnMarks.j0 k l0 bt339.1 bt339.2.1 (decide (t347 < 0))))))) else (if ((t344 != 0) != false) = true then (laws_FnMarks.j0 k l0 bt339.1 bt339.2.1 true) else (if t344 = 0 then (laws_FnMarks.j0 k l0 bt339.1 bt339.2.1 false) else ((impl_AnswerOf.f k bt339.1 t344).bind fun t348 => (laws_FnMarks.j0 k l0 bt339.1 bt339.2.1 (decide (t348 < 0)))))))) else (if ((t344 != 0) != false) = true then (laws_FnMarks.j0 k l0 bt339.1 bt339.2.1 true) else (if t344 = 0 then (laws_FnMarks.j0 k l0 bt339.1 bt339.2.1 false) else ((impl_AnswerOf.f k bt339.1 t344).bind fun t349 => (laws_FnMarks.j0 k l0 bt339.1 bt339.2.1 (decide (t349 < 0)))))))))))))))) = some r := h
 clear h
 replace H := Option.bind_eq_some_iff.mp H
 obtain ⟨t331, A20, H⟩ := H
 replace H : (if t331 = true then (some true) else ((spec_DrawSealMarks.f k l0).bind fun bt332 => ((impl_SealMarks.f k bt332.1 bt332.2).bind fun t336 => ((impl_OpensSeal.f k bt332.1 bt332.2 t336).bind fun t337 => ((impl_AreMarks.f k bt332.1).bind fun t338 => (if (t337 != t338) = true then (some false) else ((spec_DrawQuestionFor.f k l0).bind fun bt339 => ((impl_QuestionFor.f k bt339.1 bt339.2.1 bt339.2.2).bind fun t344 => (if (bt339.1.length : Int) > 0 then ((impl_AreMarks.f k bt339.1).bind fun t345 => (if t345 = true then (if bt339.2.2 ≥ 0 then (if ((t344 != 0) != (decide (bt339.2.2 ≤ 1000))) = true then (laws_FnMarks.j0 k l0 bt339.1 bt339.2.1 true) else (if t344 = 0 then (laws_FnMarks.j0 k l0 bt339.1 bt339.2.1 false) else ((impl_AnswerOf.f k bt339.1 t344).bind fun t346 => (laws_FnMarks.j0 k l0 bt339.1 bt339.2.1 (decide (t346 < 0)))))) else (if ((t344 != 0) != false) = true then (laws_FnMarks.j0 k l0 bt339.1 bt339.2.1 true) else (if t344 = 0 then (laws_FnMarks.j0 k l0 bt339.1 bt339.2.1 false) else ((impl_AnswerOf.f k bt339.1 t344).bind fun t347 => (laws_FnMarks.j0 k l0 bt339.1 bt339.2.1 (decide (t347 < 0))))))) else (if ((t344 != 0) != false) = true then (laws_FnMarks.j0 k l0 bt339.1 bt339.2.1 true) else (if t344 = 0 then (laws_FnMarks.j0 k l0 bt339.1 bt339.2.1 false) else ((impl_AnswerOf.f k bt339.1 t344).bind fun t348 => (laws_FnMarks.j0 k l0 bt339.1 bt339.2.1 (decide (t348 < 0)))))))) else (if ((t344 != 0) != false) = true then (laws_FnMarks.j0 k l0 bt339.1 bt339.2.1 true) else (if t344 = 0 then (laws_FnMarks.j0 k l0 bt339.1 bt339.2.1 false) else ((impl_AnswerOf.f k bt339.1 t344).bind fun t349 => (laws_FnMarks.j0 k l0 bt339.1 bt339.2.1 (decide (t349 < 0))))))))))))))) = some r := H
 have A2 := Aside0.mk A20
 clear A20
 by_cases c3 : t331 = true
 ·subst c3
  have H1 : (some true) = some r := by rw [if_pos rfl] at H; exact H
  clear H
  have H := H1
  clear H1
  obtain rfl := Option.some.inj H
  go_enter Try.func5, Try.ntmps5
  go_wp2_with (first | ((with_reducible refine gate_callee (f := 30) rfl ?_); refine goesL_ (some 17) rfl rfl Try.func30 (by kernel_rfl) rfl #[.slice A0 l0.length c0] rfl (by (try simp only [mA, mC, mN]); first | done | rfl | (simp only [lD, lT]; rfl)) ?_; (with_reducible refine (laws_big.calls _ _ l0 true _ ?side1 ?side2 A2.out).mono ?_); (case side1 => repeat (first | exact HR0.out | (with_reducible refine Kd.C_alloc ?_ _) | (with_reducible refine Kd.C_drewN ?_ _) | (with_reducible refine Kd.C_drew ?_))); (case side2 => exact HC0.out); rintro e w' ⟨rfl, ⟨nd, rfl⟩⟩; refine ⟨_, rfl, ?_⟩))
  go_ret
  exact ⟨by first | rfl | (simp [errW_none, errW_some] <;> rfl) | (simp [*, errW_none, errW_some] <;> rfl), by repeat (first | (with_reducible first | exact HB.out | apply bA | apply bN | apply bD) | exact HB.out)⟩
 ·replace c3 := Bool.eq_false_iff.mpr c3
  subst c3
  have H1 : ((spec_DrawSealMarks.f k l0).bind fun bt332 => ((impl_SealMarks.f k bt332.1 bt332.2).bind fun t336 => ((impl_OpensSeal.f k bt332.1 bt332.2 t336).bind fun t337 => ((impl_AreMarks.f k bt332.1).bind fun t338 => (if (t337 != t338) = true then (some false) else ((spec_DrawQuestionFor.f k l0).bind fun bt339 => ((impl_QuestionFor.f k bt339.1 bt339.2.1 bt339.2.2).bind fun t344 => (if (bt339.1.length : Int) > 0 then ((impl_AreMarks.f k bt339.1).bind fun t345 => (if t345 = true then (if bt339.2.2 ≥ 0 then (if ((t344 != 0) != (decide (bt339.2.2 ≤ 1000))) = true then (laws_FnMarks.j0 k l0 bt339.1 bt339.2.1 true) else (if t344 = 0 then (laws_FnMarks.j0 k l0 bt339.1 bt339.2.1 false) else ((impl_AnswerOf.f k bt339.1 t344).bind fun t346 => (laws_FnMarks.j0 k l0 bt339.1 bt339.2.1 (decide (t346 < 0)))))) else (if ((t344 != 0) != false) = true then (laws_FnMarks.j0 k l0 bt339.1 bt339.2.1 true) else (if t344 = 0 then (laws_FnMarks.j0 k l0 bt339.1 bt339.2.1 false) else ((impl_AnswerOf.f k bt339.1 t344).bind fun t347 => (laws_FnMarks.j0 k l0 bt339.1 bt339.2.1 (decide (t347 < 0))))))) else (if ((t344 != 0) != false) = true then (laws_FnMarks.j0 k l0 bt339.1 bt339.2.1 true) else (if t344 = 0 then (laws_FnMarks.j0 k l0 bt339.1 bt339.2.1 false) else ((impl_AnswerOf.f k bt339.1 t344).bind fun t348 => (laws_FnMarks.j0 k l0 bt339.1 bt339.2.1 (decide (t348 < 0)))))))) else (if ((t344 != 0) != false) = true then (laws_FnMarks.j0 k l0 bt339.1 bt339.2.1 true) else (if t344 = 0 then (laws_FnMarks.j0 k l0 bt339.1 bt339.2.1 false) else ((impl_AnswerOf.f k bt339.1 t344).bind fun t349 => (laws_FnMarks.j0 k l0 bt339.1 bt339.2.1 (decide (t349 < 0)))))))))))))) = some r := by rw [if_neg (show ¬ (false = true) by decide)] at H; exact H
  clear H
  have H := H1
  clear H1
  replace H := Option.bind_eq_some_iff.mp H
  obtain ⟨⟨t332, t333⟩, A40, H⟩ := H
  replace H : ((impl_SealMarks.f k t332 t333).bind fun t336 => ((impl_OpensSeal.f k t332 t333 t336).bind fun t337 => ((impl_AreMarks.f k t332).bind fun t338 => (if (t337 != t338) = true then (some false) else ((spec_DrawQuestionFor.f k l0).bind fun bt339 => ((impl_QuestionFor.f k bt339.1 bt339.2.1 bt339.2.2).bind fun t344 => (if (bt339.1.length : Int) > 0 then ((impl_AreMarks.f k bt339.1).bind fun t345 => (if t345 = true then (if bt339.2.2 ≥ 0 then (if ((t344 != 0) != (decide (bt339.2.2 ≤ 1000))) = true then (laws_FnMarks.j0 k l0 bt339.1 bt339.2.1 true) else (if t344 = 0 then (laws_FnMarks.j0 k l0 bt339.1 bt339.2.1 false) else ((impl_AnswerOf.f k bt339.1 t344).bind fun t346 => (laws_FnMarks.j0 k l0 bt339.1 bt339.2.1 (decide (t346 < 0)))))) else (if ((t344 != 0) != false) = true then (laws_FnMarks.j0 k l0 bt339.1 bt339.2.1 true) else (if t344 = 0 then (laws_FnMarks.j0 k l0 bt339.1 bt339.2.1 false) else ((impl_AnswerOf.f k bt339.1 t344).bind fun t347 => (laws_FnMarks.j0 k l0 bt339.1 bt339.2.1 (decide (t347 < 0))))))) else (if ((t344 != 0) != false) = true then (laws_FnMarks.j0 k l0 bt339.1 bt339.2.1 true) else (if t344 = 0 then (laws_FnMarks.j0 k l0 bt339.1 bt339.2.1 false) else ((impl_AnswerOf.f k bt339.1 t344).bind fun t348 => (laws_FnMarks.j0 k l0 bt339.1 bt339.2.1 (decide (t348 < 0)))))))) else (if ((t344 != 0) != false) = true then (laws_FnMarks.j0 k l0 bt339.1 bt339.2.1 true) else (if t344 = 0 then (laws_FnMarks.j0 k l0 bt339.1 bt339.2.1 false) else ((impl_AnswerOf.f k bt339.1 t344).bind fun t349 => (laws_FnMarks.j0 k l0 bt339.1 bt339.2.1 (decide (t349 < 0))))))))))))) = some r := H
  have A4 := Aside0.mk A40
  clear A40
  replace H := Option.bind_eq_some_iff.mp H
  obtain ⟨t336, A50, H⟩ := H
  replace H : ((impl_OpensSeal.f k t332 t333 t336).bind fun t337 => ((impl_AreMarks.f k t332).bind fun t338 => (if (t337 != t338) = true then (some false) else ((spec_DrawQuestionFor.f k l0).bind fun bt339 => ((impl_QuestionFor.f k bt339.1 bt339.2.1 bt339.2.2).bind fun t344 => (if (bt339.1.length : Int) > 0 then ((impl_AreMarks.f k bt339.1).bind fun t345 => (if t345 = true then (if bt339.2.2 ≥ 0 then (if ((t344 != 0) != (decide (bt339.2.2 ≤ 1000))) = true then (laws_FnMarks.j0 k l0 bt339.1 bt339.2.1 true) else (if t344 = 0 then (laws_FnMarks.j0 k l0 bt339.1 bt339.2.1 false) else ((impl_AnswerOf.f k bt339.1 t344).bind fun t346 => (laws_FnMarks.j0 k l0 bt339.1 bt339.2.1 (decide (t346 < 0)))))) else (if ((t344 != 0) != false) = true then (laws_FnMarks.j0 k l0 bt339.1 bt339.2.1 true) else (if t344 = 0 then (laws_FnMarks.j0 k l0 bt339.1 bt339.2.1 false) else ((impl_AnswerOf.f k bt339.1 t344).bind fun t347 => (laws_FnMarks.j0 k l0 bt339.1 bt339.2.1 (decide (t347 < 0))))))) else (if ((t344 != 0) != false) = true then (laws_FnMarks.j0 k l0 bt339.1 bt339.2.1 true) else (if t344 = 0 then (laws_FnMarks.j0 k l0 bt339.1 bt339.2.1 false) else ((impl_AnswerOf.f k bt339.1 t344).bind fun t348 => (laws_FnMarks.j0 k l0 bt339.1 bt339.2.1 (decide (t348 < 0)))))))) else (if ((t344 != 0) != false) = true then (laws_FnMarks.j0 k l0 bt339.1 bt339.2.1 true) else (if t344 = 0 then (laws_FnMarks.j0 k l0 bt339.1 bt339.2.1 false) else ((impl_AnswerOf.f k bt339.1 t344).bind fun t349 => (laws_FnMarks.j0 k l0 bt339.1 bt339.2.1 (decide (t349 < 0)))))))))))) = some r := H
  have A5 := Aside0.mk A50
  clear A50
  replace H := Option.bind_eq_some_iff.mp H
  obtain ⟨t337, A60, H⟩ := H
  replace H : ((impl_AreMarks.f k t332).bind fun t338 => (if (t337 != t338) = true then (some false) else ((spec_DrawQuestionFor.f k l0).bind fun bt339 => ((impl_QuestionFor.f k bt339.1 bt339.2.1 bt339.2.2).bind fun t344 => (if (bt339.1.length : Int) > 0 then ((impl_AreMarks.f k bt339.1).bind fun t345 => (if t345 = true then (if bt339.2.2 ≥ 0 then (if ((t344 != 0) != (decide (bt339.2.2 ≤ 1000))) = true then (laws_FnMarks.j0 k l0 bt339.1 bt339.2.1 true) else (if t344 = 0 then (laws_FnMarks.j0 k l0 bt339.1 bt339.2.1 false) else ((impl_AnswerOf.f k bt339.1 t344).bind fun t346 => (laws_FnMarks.j0 k l0 bt339.1 bt339.2.1 (decide (t346 < 0)))))) else (if ((t344 != 0) != false) = true then (laws_FnMarks.j0 k l0 bt339.1 bt339.2.1 true) else (if t344 = 0 then (laws_FnMarks.j0 k l0 bt339.1 bt339.2.1 false) else ((impl_AnswerOf.f k bt339.1 t344).bind fun t347 => (laws_FnMarks.j0 k l0 bt339.1 bt339.2.1 (decide (t347 < 0))))))) else (if ((t344 != 0) != false) = true then (laws_FnMarks.j0 k l0 bt339.1 bt339.2.1 true) else (if t344 = 0 then (laws_FnMarks.j0 k l0 bt339.1 bt339.2.1 false) else ((impl_AnswerOf.f k bt339.1 t344).bind fun t348 => (laws_FnMarks.j0 k l0 bt339.1 bt339.2.1 (decide (t348 < 0)))))))) else (if ((t344 != 0) != false) = true then (laws_FnMarks.j0 k l0 bt339.1 bt339.2.1 true) else (if t344 = 0 then (laws_FnMarks.j0 k l0 bt339.1 bt339.2.1 false) else ((impl_AnswerOf.f k bt339.1 t344).bind fun t349 => (laws_FnMarks.j0 k l0 bt339.1 bt339.2.1 (decide (t349 < 0))))))))))) = some r := H
  have A6 := Aside0.mk A60
  clear A60
  replace H := Option.bind_eq_some_iff.mp H
  obtain ⟨t338, A70, H⟩ := H
  replace H : (if (t337 != t338) = true then (some false) else ((spec_DrawQuestionFor.f k l0).bind fun bt339 => ((impl_QuestionFor.f k bt339.1 bt339.2.1 bt339.2.2).bind fun t344 => (if (bt339.1.length : Int) > 0 then ((impl_AreMarks.f k bt339.1).bind fun t345 => (if t345 = true then (if bt339.2.2 ≥ 0 then (if ((t344 != 0) != (decide (bt339.2.2 ≤ 1000))) = true then (laws_FnMarks.j0 k l0 bt339.1 bt339.2.1 true) else (if t344 = 0 then (laws_FnMarks.j0 k l0 bt339.1 bt339.2.1 false) else ((impl_AnswerOf.f k bt339.1 t344).bind fun t346 => (laws_FnMarks.j0 k l0 bt339.1 bt339.2.1 (decide (t346 < 0)))))) else (if ((t344 != 0) != false) = true then (laws_FnMarks.j0 k l0 bt339.1 bt339.2.1 true) else (if t344 = 0 then (laws_FnMarks.j0 k l0 bt339.1 bt339.2.1 false) else ((impl_AnswerOf.f k bt339.1 t344).bind fun t347 => (laws_FnMarks.j0 k l0 bt339.1 bt339.2.1 (decide (t347 < 0))))))) else (if ((t344 != 0) != false) = true then (laws_FnMarks.j0 k l0 bt339.1 bt339.2.1 true) else (if t344 = 0 then (laws_FnMarks.j0 k l0 bt339.1 bt339.2.1 false) else ((impl_AnswerOf.f k bt339.1 t344).bind fun t348 => (laws_FnMarks.j0 k l0 bt339.1 bt339.2.1 (decide (t348 < 0)))))))) else (if ((t344 != 0) != false) = true then (laws_FnMarks.j0 k l0 bt339.1 bt339.2.1 true) else (if t344 = 0 then (laws_FnMarks.j0 k l0 bt339.1 bt339.2.1 false) else ((impl_AnswerOf.f k bt339.1 t344).bind fun t349 => (laws_FnMarks.j0 k l0 bt339.1 bt339.2.1 (decide (t349 < 0)))))))))) = some r := H
  have A7 := Aside0.mk A70
  clear A70
  by_cases c8 : (t337 != t338) = true
  ·rw [if_pos c8] at H
   have c8b0 : (t337 != t338) = true := c8
   (try (have c8b1 : decide (t337 = t338) = false := by simpa using c8))
   (try (have c8b2 : (t337 == t338) = false := by simpa using c8))
   (try (have c8b3 : ¬ (t337 = t338) := by simpa using c8))
   clear c8
   obtain rfl := Option.some.inj H
   go_enter Try.func5, Try.ntmps5
   go_wp2_with (first | ((with_reducible refine gate_callee (f := 30) rfl ?_); refine goesL_ (some 17) rfl rfl Try.func30 (by kernel_rfl) rfl #[.slice A0 l0.length c0] rfl (by (try simp only [mA, mC, mN]); first | done | rfl | (simp only [lD, lT]; rfl)) ?_; (with_reducible refine (laws_big.calls _ _ l0 false _ ?side1 ?side2 A2.out).mono ?_); (case side1 => repeat (first | exact HR0.out | (with_reducible refine Kd.C_alloc ?_ _) | (with_reducible refine Kd.C_drewN ?_ _) | (with_reducible refine Kd.C_drew ?_))); (case side2 => exact HC0.out); rintro e w' ⟨rfl, ⟨nd, rfl⟩⟩; refine ⟨_, rfl, ?_⟩) | ((with_reducible refine gate_callee (f := 31) rfl ?_); refine goesL_ (some 20) rfl rfl Try.func31 (by kernel_rfl) rfl #[.slice A0 l0.length c0] rfl (by (try simp only [mA, mC, mN]); first | done | rfl | (simp only [lD, lT]; rfl)) ?_; (with_reducible refine (spec_DrawSealMarks.calls k _ _ l0 t332 t333 _ ?side1 ?side2 A4.out).mono ?_); (case side1 => repeat (first | exact HR0.out | (with_reducible refine Kd.C_alloc ?_ _) | (with_reducible refine Kd.C_drewN ?_ _) | (with_reducible refine Kd.C_drew ?_))); (case side2 => exact HC0.out); rintro e w9 ⟨v334, rfl, ho0, hb⟩; refine ⟨_, rfl, ?_⟩; have n0_ := Aside0.mk (Kd.R_lower ho0 (below_size (by repeat (first | (with_reducible first | exact HB.out | apply bA | apply bN | apply bD) | exact HB.out)))); have n1_ := Aside0.mk (below_step (by repeat (first | (with_reducible first | exact HB.out | apply bA | apply bN | apply bD) | exact HB.out)) hb); clear HB; have HO335 := n0_; have HB := n1_; clear n0_ n1_; (try clear hb); (try clear hb2); (try clear hk); (try clear hi); (try clear ho0); obtain ⟨Ao10, co10, eo10⟩ := Kd.R_slice HO335.out; subst eo10) | ((with_reducible refine gate_callee (f := 33) rfl ?_); refine goesL_ (some 27) rfl rfl Try.func33 (by kernel_rfl) rfl #[.slice Ao10 t332.length co10, .int .i64 t333] rfl (by (try simp only [mA, mC, mN]); first | done | rfl | (simp only [lD, lT]; rfl)) ?_; (with_reducible refine (impl_SealMarks.calls k _ _ t332 t333 t336 _ ?side1 ?side2 A5.out).mono ?_); (case side1 => repeat (first | exact (Kd.R_reads' HO335.out).2.2 | (with_reducible refine Kd.C_alloc ?_ _) | (with_reducible refine Kd.C_drewN ?_ _) | (with_reducible refine Kd.C_drew ?_))); (case side2 => exact (Kd.R_reads' HO335.out).2.1); rintro e w11 ⟨rfl, hb⟩; refine ⟨_, rfl, ?_⟩; have n0_ := Aside0.mk (Kd.R_below (by (with_reducible repeat first | apply rA | apply rN | apply rD); exact HO335.out) hb); have n1_ := Aside0.mk (below_step (by repeat (first | (with_reducible first | exact HB.out | apply bA | apply bN | apply bD) | exact HB.out)) hb); clear HO335; clear HB; have HO335 := n0_; have HB := n1_; clear n0_ n1_; (try clear hb); (try clear hb2); (try clear hk); (try clear hi)) | ((with_reducible refine gate_callee (f := 32) rfl ?_); refine goesL_ (some 28) rfl rfl Try.func32 (by kernel_rfl) rfl #[.slice Ao10 t332.length co10, .int .i64 t333, .int .i64 t336] rfl (by (try simp only [mA, mC, mN]); first | done | rfl | (simp only [lD, lT]; rfl)) ?_; (with_reducible refine (impl_OpensSeal.calls k _ _ t332 t333 t336 t337 _ ?side1 ?side2 A6.out).mono ?_); (case side1 => repeat (first | exact (Kd.R_reads' HO335.out).2.2 | (with_reducible refine Kd.C_alloc ?_ _) | (with_reducible refine Kd.C_drewN ?_ _) | (with_reducible refine Kd.C_drew ?_))); (case side2 => exact (Kd.R_reads' HO335.out).2.1); rintro e w12 ⟨rfl, hb⟩; refine ⟨_, rfl, ?_⟩; have n0_ := Aside0.mk (Kd.R_below (by (with_reducible repeat first | apply rA | apply rN | apply rD); exact HO335.out) hb); have n1_ := Aside0.mk (below_step (by repeat (first | (with_reducible first | exact HB.out | apply bA | apply bN | apply bD) | exact HB.out)) hb); clear HO335; clear HB; have HO335 := n0_; have HB := n1_; clear n0_ n1_; (try clear hb); (try clear hb2); (try clear hk); (try clear hi)) | ((with_reducible refine gate_callee (f := 34) rfl ?_); refine goesL_ (some 30) rfl rfl Try.func34 (by kernel_rfl) rfl #[.slice Ao10 t332.length co10] rfl (by (try simp only [mA, mC, mN]); first | done | rfl | (simp only [lD, lT]; rfl)) ?_; (with_reducible refine (impl_AreMarks.calls k _ _ t332 t338 _ ?side1 ?side2 A7.out).mono ?_); (case side1 => repeat (first | exact (Kd.R_reads' HO335.out).2.2 | (with_reducible refine Kd.C_alloc ?_ _) | (with_reducible refine Kd.C_drewN ?_ _) | (with_reducible refine Kd.C_drew ?_))); (case side2 => exact (Kd.R_reads' HO335.out).2.1); rintro e w13 ⟨rfl, hb⟩; refine ⟨_, rfl, ?_⟩; have n0_ := Aside0.mk (Kd.R_below (by (with_reducible repeat first | apply rA | apply rN | apply rD); exact HO335.out) hb); have n1_ := Aside0.mk (below_step (by repeat (first | (with_reducible first | exact HB.out | apply bA | apply bN | apply bD) | exact HB.out)) hb); clear HO335; clear HB; have HO335 := n0_; have HB := n1_; clear n0_ n1_; (try clear hb); (try clear hb2); (try clear hk); (try clear hi)))
   go_ret
   exact ⟨by first | rfl | (simp [errW_none, errW_some] <;> rfl) | (simp [*, errW_none, errW_some] <;> rfl), by repeat (first | (with_reducible first | exact HB.out | apply bA | apply bN | apply bD) | exact HB.out)⟩
  ·rw [if_neg c8] at H
   have c8b0 : (t337 != t338) = false := by simpa using c8
   (try (have c8b1 : decide (t337 = t338) = true := by simpa using c8))
   (try (have c8b2 : (t337 == t338) = true := by simpa using c8))
   clear c8
   replace H := Option.bind_eq_some_iff.mp H
   obtain ⟨⟨t339, t340, t341⟩, A140, H⟩ := H
   replace H : ((impl_QuestionFor.f k t339 t340 t341).bind fun t344 => (if (t339.length : Int) > 0 then ((impl_AreMarks.f k t339).bind fun t345 => (if t345 = true then (if t341 ≥ 0 then (if ((t344 != 0) != (decide (t341 ≤ 1000))) = true then (laws_FnMarks.j0 k l0 t339 t340 true) else (if t344 = 0 then (laws_FnMarks.j0 k l0 t339 t340 false) else ((impl_AnswerOf.f k t339 t344).bind fun t346 => (laws_FnMarks.j0 k l0 t339 t340 (decide (t346 < 0)))))) else (if ((t344 != 0) != false) = true then (laws_FnMarks.j0 k l0 t339 t340 true) else (if t344 = 0 then (laws_FnMarks.j0 k l0 t339 t340 false) else ((impl_AnswerOf.f k t339 t344).bind fun t347 => (laws_FnMarks.j0 k l0 t339 t340 (decide (t347 < 0))))))) else (if ((t344 != 0) != false) = true then (laws_FnMarks.j0 k l0 t339 t340 true) else (if t344 = 0 then (laws_FnMarks.j0 k l0 t339 t340 false) else ((impl_AnswerOf.f k t339 t344).bind fun t348 => (laws_FnMarks.j0 k l0 t339 t340 (decide (t348 < 0)))))))) else (if ((t344 != 0) != false) = true then (laws_FnMarks.j0 k l0 t339 t340 true) else (if t344 = 0 then (laws_FnMarks.j0 k l0 t339 t340 false) else ((impl_AnswerOf.f k t339 t344).bind fun t349 => (laws_FnMarks.j0 k l0 t339 t340 (decide (t349 < 0)))))))) = some r := H
   have A14 := Aside0.mk A140
   clear A140
   replace H := Option.bind_eq_some_iff.mp H
   obtain ⟨t344, A150, H⟩ := H
   replace H : (if (t339.length : Int) > 0 then ((impl_AreMarks.f k t339).bind fun t345 => (if t345 = true then (if t341 ≥ 0 then (if ((t344 != 0) != (decide (t341 ≤ 1000))) = true then (laws_FnMarks.j0 k l0 t339 t340 true) else (if t344 = 0 then (laws_FnMarks.j0 k l0 t339 t340 false) else ((impl_AnswerOf.f k t339 t344).bind fun t346 => (laws_FnMarks.j0 k l0 t339 t340 (decide (t346 < 0)))))) else (if ((t344 != 0) != false) = true then (laws_FnMarks.j0 k l0 t339 t340 true) else (if t344 = 0 then (laws_FnMarks.j0 k l0 t339 t340 false) else ((impl_AnswerOf.f k t339 t344).bind fun t347 => (laws_FnMarks.j0 k l0 t339 t340 (decide (t347 < 0))))))) else (if ((t344 != 0) != false) = true then (laws_FnMarks.j0 k l0 t339 t340 true) else (if t344 = 0 then (laws_FnMarks.j0 k l0 t339 t340 false) else ((impl_AnswerOf.f k t339 t344).bind fun t348 => (laws_FnMarks.j0 k l0 t339 t340 (decide (t348 < 0)))))))) else (if ((t344 != 0) != false) = true then (laws_FnMarks.j0 k l0 t339 t340 true) else (if t344 = 0 then (laws_FnMarks.j0 k l0 t339 t340 false) else ((impl_AnswerOf.f k t339 t344).bind fun t349 => (laws_FnMarks.j0 k l0 t339 t340 (decide (t349 < 0))))))) = some r := H
   have A15 := Aside0.mk A150
   clear A150
   have HC16 := Aside0.mk H
   clear H
   go_enter Try.func5, Try.ntmps5
   go_upto_region 8 with (first | ((with_reducible refine gate_callee (f := 30) rfl ?_); refine goesL_ (some 17) rfl rfl Try.func30 (by kernel_rfl) rfl #[.slice A0 l0.length c0] rfl (by (try simp only [mA, mC, mN]); first | done | rfl | (simp only [lD, lT]; rfl)) ?_; (with_reducible refine (laws_big.calls _ _ l0 false _ ?side1 ?side2 A2.out).mono ?_); (case side1 => repeat (first | exact HR0.out | (with_reducible refine Kd.C_alloc ?_ _) | (with_reducible refine Kd.C_drewN ?_ _) | (with_reducible refine Kd.C_drew ?_))); (case side2 => exact HC0.out); rintro e w' ⟨rfl, ⟨nd, rfl⟩⟩; refine ⟨_, rfl, ?_⟩) | ((with_reducible refine gate_callee (f := 31) rfl ?_); refine goesL_ (some 20) rfl rfl Try.func31 (by kernel_rfl) rfl #[.slice A0 l0.length c0] rfl (by (try simp only [mA, mC, mN]); first | done | rfl | (simp only [lD, lT]; rfl)) ?_; (with_reducible refine (spec_DrawSealMarks.calls k _ _ l0 t332 t333 _ ?side1 ?side2 A4.out).mono ?_); (case side1 => repeat (first | exact HR0.out | (with_reducible refine Kd.C_alloc ?_ _) | (with_reducible refine Kd.C_drewN ?_ _) | (with_reducible refine Kd.C_drew ?_))); (case side2 => exact HC0.out); rintro e w17 ⟨v334, rfl, ho0, hb⟩; refine ⟨_, rfl, ?_⟩; have n0_ := Aside0.mk (Kd.R_lower ho0 (below_size (by repeat (first | (with_reducible first | exact HB.out | apply bA | apply bN | apply bD) | exact HB.out)))); have n1_ := Aside0.mk (below_step (by repeat (first | (with_reducible first | exact HB.out | apply bA | apply bN | apply bD) | exact HB.out)) hb); clear HB; have HO335 := n0_; have HB := n1_; clear n0_ n1_; (try clear hb); (try clear hb2); (try clear hk); (try clear hi); (try clear ho0); obtain ⟨Ao18, co18, eo18⟩ := Kd.R_slice HO335.out; subst eo18) | ((with_reducible refine gate_callee (f := 33) rfl ?_); refine goesL_ (some 27) rfl rfl Try.func33 (by kernel_rfl) rfl #[.slice Ao18 t332.length co18, .int .i64 t333] rfl (by (try simp only [mA, mC, mN]); first | done | rfl | (simp only [lD, lT]; rfl)) ?_; (with_reducible refine (impl_SealMarks.calls k _ _ t332 t333 t336 _ ?side1 ?side2 A5.out).mono ?_); (case side1 => repeat (first | exact (Kd.R_reads' HO335.out).2.2 | (with_reducible refine Kd.C_alloc ?_ _) | (with_reducible refine Kd.C_drewN ?_ _) | (with_reducible refine Kd.C_drew ?_))); (case side2 => exact (Kd.R_reads' HO335.out).2.1); rintro e w19 ⟨rfl, hb⟩; refine ⟨_, rfl, ?_⟩; have n0_ := Aside0.mk (Kd.R_below (by (with_reducible repeat first | apply rA | apply rN | apply rD); exact HO335.out) hb); have n1_ := Aside0.mk (below_step (by repeat (first | (with_reducible first | exact HB.out | apply bA | apply bN | apply bD) | exact HB.out)) hb); clear HO335; clear HB; have HO335 := n0_; have HB := n1_; clear n0_ n1_; (try clear hb); (try clear hb2); (try clear hk); (try clear hi)) | ((with_reducible refine gate_callee (f := 32) rfl ?_); refine goesL_ (some 28) rfl rfl Try.func32 (by kernel_rfl) rfl #[.slice Ao18 t332.length co18, .int .i64 t333, .int .i64 t336] rfl (by (try simp only [mA, mC, mN]); first | done | rfl | (simp only [lD, lT]; rfl)) ?_; (with_reducible refine (impl_OpensSeal.calls k _ _ t332 t333 t336 t337 _ ?side1 ?side2 A6.out).mono ?_); (case side1 => repeat (first | exact (Kd.R_reads' HO335.out).2.2 | (with_reducible refine Kd.C_alloc ?_ _) | (with_reducible refine Kd.C_drewN ?_ _) | (with_reducible refine Kd.C_drew ?_))); (case side2 => exact (Kd.R_reads' HO335.out).2.1); rintro e w20 ⟨rfl, hb⟩; refine ⟨_, rfl, ?_⟩; have n0_ := Aside0.mk (Kd.R_below (by (with_reducible repeat first | apply rA | apply rN | apply rD); exact HO335.out) hb); have n1_ := Aside0.mk (below_step (by repeat (first | (with_reducible first | exact HB.out | apply bA | apply bN | apply bD) | exact HB.out)) hb); clear HO335; clear HB; have HO335 := n0_; have HB := n1_; clear n0_ n1_; (try clear hb); (try clear hb2); (try clear hk); (try clear hi)) | ((with_reducible refine gate_callee (f := 34) rfl ?_); refine goesL_ (some 30) rfl rfl Try.func34 (by kernel_rfl) rfl #[.slice Ao18 t332.length co18] rfl (by (try simp only [mA, mC, mN]); first | done | rfl | (simp only [lD, lT]; rfl)) ?_; (with_reducible refine (impl_AreMarks.calls k _ _ t332 t338 _ ?side1 ?side2 A7.out).mono ?_); (case side1 => repeat (first | exact (Kd.R_reads' HO335.out).2.2 | (with_reducible refine Kd.C_alloc ?_ _) | (with_reducible refine Kd.C_drewN ?_ _) | (with_reducible refine Kd.C_drew ?_))); (case side2 => exact (Kd.R_reads' HO335.out).2.1); rintro e w21 ⟨rfl, hb⟩; refine ⟨_, rfl, ?_⟩; have n0_ := Aside0.mk (Kd.R_below (by (with_reducible repeat first | apply rA | apply rN | apply rD); exact HO335.out) hb); have n1_ := Aside0.mk (below_step (by repeat (first | (with_reducible first | exact HB.out | apply bA | apply bN | apply bD) | exact HB.out)) hb); clear HO335; clear HB; have HO335 := n0_; have HB := n1_; clear n0_ n1_; (try clear hb); (try clear hb2); (try clear hk); (try clear hi)) | ((with_reducible refine gate_callee (f := 35) rfl ?_); refine goesL_ (some 34) rfl rfl Try.func35 (by kernel_rfl) rfl #[.slice A0 l0.length c0] rfl (by (try simp only [mA, mC, mN]); first | done | rfl | (simp only [lD, lT]; rfl)) ?_; (with_reducible refine (spec_DrawQuestionFor.calls k _ _ l0 t339 t340 t341 _ ?side1 ?side2 A14.out).mono ?_); (case side1 => repeat (first | exact (Kd.C_below HR0.out HB.out) | (with_reducible refine Kd.C_alloc ?_ _) | (with_reducible refine Kd.C_drewN ?_ _) | (with_reducible refine Kd.C_drew ?_))); (case side2 => exact HC0.out); rintro e w22 ⟨v342, rfl, ho0, hb⟩; refine ⟨_, rfl, ?_⟩; have n0_ := Aside0.mk (Kd.R_elder' (by (with_reducible repeat first | apply rA | apply rN | apply rD); exact HO335.out) (Kd.R_base ho0) hb); have n1_ := Aside0.mk (Kd.R_lower (Kd.R_new' ho0 (Kd.R_lt (by (with_reducible repeat first | apply rA | apply rN | apply rD); exact HO335.out))) (below_size (by repeat (first | (with_reducible first | exact HB.out | apply bA | apply bN | apply bD) | exact HB.out)))); have n2_ := Aside0.mk (below_step (by repeat (first | (with_reducible first | exact HB.out | apply bA | apply bN | apply bD) | exact HB.out)) hb); clear HO335; clear HB; have HO335 := n0_; have HO343 := n1_; have HB := n2_; clear n0_ n1_ n2_; (try clear hb); (try clear hb2); (try clear hk); (try clear hi); (try clear ho0); obtain ⟨Ao23, co23, eo23⟩ := Kd.R_slice HO343.out; subst eo23) | ((with_reducible refine gate_callee (f := 36) rfl ?_); refine goesL_ (some 41) rfl rfl Try.func36 (by kernel_rfl) rfl #[.slice Ao23 t339.length co23, .int .i64 t340, .int .i64 t341] rfl (by (try simp only [mA, mC, mN]); first | done | rfl | (simp only [lD, lT]; rfl)) ?_; (with_reducible refine (impl_QuestionFor.calls k _ _ t339 t340 t341 t344 _ ?side1 ?side2 A15.out).mono ?_); (case side1 => repeat (first | exact (Kd.R_reads' HO343.out).2.2 | (with_reducible refine Kd.C_alloc ?_ _) | (with_reducible refine Kd.C_drewN ?_ _) | (with_reducible refine Kd.C_drew ?_))); (case side2 => exact (Kd.R_reads' HO343.out).2.1); rintro e w24 ⟨rfl, hb⟩; refine ⟨_, rfl, ?_⟩; have n0_ := Aside0.mk (Kd.R_below (by (with_reducible repeat first | apply rA | apply rN | apply rD); exact HO335.out) hb); have n1_ := Aside0.mk (Kd.R_below (by (with_reducible repeat first | apply rA | apply rN | apply rD); exact HO343.out) hb); have n2_ := Aside0.mk (below_step (by repeat (first | (with_reducible first | exact HB.out | apply bA | apply bN | apply bD) | exact HB.out)) hb); clear HO335; clear HO343; clear HB; have HO335 := n0_; have HO343 := n1_; have HB := n2_; clear n0_ n1_ n2_; (try clear hb); (try clear hb2); (try clear hk); (try clear hi)))
   (try simp only [Act.put, sA, sZ, sS])
   go_cut [69] (fun v69 wc => ∃ (kq : Nat) (x69_15 : Bool), v69 = .bool x69_15 ∧ Aside0 (laws_FnMarks.j0 kq l0 t339 t340 x69_15 = some r) ∧ Aside0 (kq ≤ k) ∧ Aside0 (Kd.R k62 62 wc w.heap.size (fun _ => True) (.slice Ao23 t339.length co23) t339) ∧ Aside0 (Below w.heap.size w wc))
   case first =>
    have H := HC16.out
    clear HC16
    by_cases c25 : (t339.length : Int) > 0
    ·rw [if_pos c25] at H
     have c25b0 : decide (0 < (t339.length : Int)) = true := decide_eq_true c25
     have c25b1 : decide (0 < t339.length) = true := decide_eq_true (by omega)
     clear c25
     (first | rw [c25b0] | (simp only [i64_w, i32_w]; rw [c25b0]) | skip)
     replace H := Option.bind_eq_some_iff.mp H
     obtain ⟨t345, A260, H⟩ := H
     replace H : (if t345 = true then (if t341 ≥ 0 then (if ((t344 != 0) != (decide (t341 ≤ 1000))) = true then (laws_FnMarks.j0 k l0 t339 t340 true) else (if t344 = 0 then (laws_FnMarks.j0 k l0 t339 t340 false) else ((impl_AnswerOf.f k t339 t344).bind fun t346 => (laws_FnMarks.j0 k l0 t339 t340 (decide (t346 < 0)))))) else (if ((t344 != 0) != false) = true then (laws_FnMarks.j0 k l0 t339 t340 true) else (if t344 = 0 then (laws_FnMarks.j0 k l0 t339 t340 false) else ((impl_AnswerOf.f k t339 t344).bind fun t347 => (laws_FnMarks.j0 k l0 t339 t340 (decide (t347 < 0))))))) else (if ((t344 != 0) != false) = true then (laws_FnMarks.j0 k l0 t339 t340 true) else (if t344 = 0 then (laws_FnMarks.j0 k l0 t339 t340 false) else ((impl_AnswerOf.f k t339 t344).bind fun t348 => (laws_FnMarks.j0 k l0 t339 t340 (decide (t348 < 0))))))) = some r := H
     have A26 := Aside0.mk A260
     clear A260
     by_cases c27 : t345 = true
     ·subst c27
      have H1 : (if t341 ≥ 0 then (if ((t344 != 0) != (decide (t341 ≤ 1000))) = true then (laws_FnMarks.j0 k l0 t339 t340 true) else (if t344 = 0 then (laws_FnMarks.j0 k l0 t339 t340 false) else ((impl_AnswerOf.f k t339 t344).bind fun t346 => (laws_FnMarks.j0 k l0 t339 t340 (decide (t346 < 0)))))) else (if ((t344 != 0) != false) = true then (laws_FnMarks.j0 k l0 t339 t340 true) else (if t344 = 0 then (laws_FnMarks.j0 k l0 t339 t340 false) else ((impl_AnswerOf.f k t339 t344).bind fun t347 => (laws_FnMarks.j0 k l0 t339 t340 (decide (t347 < 0))))))) = some r := by rw [if_pos rfl] at H; exact H
      clear H
      have H := H1
      clear H1
      by_cases c28 : t341 ≥ 0
      ·rw [if_pos c28] at H
       have c28b0 : decide (0 ≤ t341) = true := decide_eq_true c28
       clear c28
       by_cases c29 : ((t344 != 0) != (decide (t341 ≤ 1000))) = true
       ·rw [if_pos c29] at H
        have c29b0 : ((t344 != 0) != (decide (t341 ≤ 1000))) = true := c29
        (try (have c29b1 : decide ((t344 != 0) = (decide (t341 ≤ 1000))) = false := by simpa using c29))
        (try (have c29b2 : ((t344 != 0) == (decide (t341 ≤ 1000))) = false := by simpa using c29))
        (try (have c29b3 : ¬ ((t344 != 0) = (decide (t341 ≤ 1000))) := by simpa using c29))
        clear c29
        have H' := Aside0.mk H
        clear H
        go_wp2_with (first | (go_at_call 34; (with_reducible refine (impl_AreMarks.calls k _ _ t339 true _ ?side1 ?side2 A26.out).mono ?_); (case side1 => repeat (first | exact (Kd.R_reads' HO343.out).2.2 | (with_reducible refine Kd.C_alloc ?_ _) | (with_reducible refine Kd.C_drewN ?_ _) | (with_reducible refine Kd.C_drew ?_))); (case side2 => exact (Kd.R_reads' HO343.out).2.1); rintro e w30 ⟨rfl, hb⟩; have n0_ := Aside0.mk (Kd.R_below (by (with_reducible repeat first | apply rA | apply rN | apply rD); exact HO335.out) hb); have n1_ := Aside0.mk (Kd.R_below (by (with_reducible repeat first | apply rA | apply rN | apply rD); exact HO343.out) hb); have n2_ := Aside0.mk (below_step (by repeat (first | (with_reducible first | exact HB.out | apply bA | apply bN | apply bD) | exact HB.out)) hb); clear HO335; clear HO343; clear HB; have HO335 := n0_; have HO343 := n1_; have HB := n2_; clear n0_ n1_ n2_; (try clear hb); (try clear hb2); (try clear hk); (try clear hi)))
        go_meet
        case rel => exact ⟨_, (true), (by first | rfl | (simp; done) | (simp [*]; done)), H', ⟨by first | omega | exact Nat.le_refl _⟩, ⟨by (with_reducible repeat first | apply rA | apply rN | apply rD); exact Kd.R_mono HO343.out (fun _ hk => trivial)⟩, ⟨by repeat (first | (with_reducible first | exact HB.out | apply bA | apply bN | apply bD) | exact HB.out)⟩⟩
       ·rw [if_neg c29] at H
        have c29b0 : ((t344 != 0) != (decide (t341 ≤ 1000))) = false := by simpa using c29
        (try (have c29b1 : decide ((t344 != 0) = (decide (t341 ≤ 1000))) = true := by simpa using c29))
        (try (have c29b2 : ((t344 != 0) == (decide (t341 ≤ 1000))) = true := by simpa using c29))
        clear c29
        by_cases c31 : t344 = 0
        ·rw [if_pos c31] at H
         have c31b0 : (t344 == 0) = true := beq_iff_eq.mpr c31
         have c31b1 : (t344 != 0) = false := bne_eq_false_iff_eq.mpr c31
         have c31b1x : (decide (t341 ≤ 1000)) = false := by cases hh_ : (decide (t341 ≤ 1000)) <;> simp [c31b1, hh_] at c29b0 ⊢
         clear c31
         have H' := Aside0.mk H
         clear H
         go_wp2_with (first | (go_at_call 34; (with_reducible refine (impl_AreMarks.calls k _ _ t339 true _ ?side1 ?side2 A26.out).mono ?_); (case side1 => repeat (first | exact (Kd.R_reads' HO343.out).2.2 | (with_reducible refine Kd.C_alloc ?_ _) | (with_reducible refine Kd.C_drewN ?_ _) | (with_reducible refine Kd.C_drew ?_))); (case side2 => exact (Kd.R_reads' HO343.out).2.1); rintro e w32 ⟨rfl, hb⟩; have n0_ := Aside0.mk (Kd.R_below (by (with_reducible repeat first | apply rA | apply rN | apply rD); exact HO335.out) hb); have n1_ := Aside0.mk (Kd.R_below (by (with_reducible repeat first | apply rA | apply rN | apply rD); exact HO343.out) hb); have n2_ := Aside0.mk (below_step (by repeat (first | (with_reducible first | exact HB.out | apply bA | apply bN | apply bD) | exact HB.out)) hb); clear HO335; clear HO343; clear HB; have HO335 := n0_; have HO343 := n1_; have HB := n2_; clear n0_ n1_ n2_; (try clear hb); (try clear hb2); (try clear hk); (try clear hi)))
         go_meet
         case rel => exact ⟨_, (false), (by first | rfl | (simp; done) | (simp [*]; done)), H', ⟨by first | omega | exact Nat.le_refl _⟩, ⟨by (with_reducible repeat first | apply rA | apply rN | apply rD); exact Kd.R_mono HO343.out (fun _ hk => trivial)⟩, ⟨by repeat (first | (with_reducible first | exact HB.out | apply bA | apply bN | apply bD) | exact HB.out)⟩⟩
        ·rw [if_neg c31] at H
         have c31b0 : (t344 == 0) = false := beq_eq_false_iff_ne.mpr c31
         have c31b1 : (t344 != 0) = true := bne_iff_ne.mpr c31
         have c31b1x : (decide (t341 ≤ 1000)) = true := by cases hh_ : (decide (t341 ≤ 1000)) <;> simp [c31b1, hh_] at c29b0 ⊢
         replace H := Option.bind_eq_some_iff.mp H
         obtain ⟨t346, A330, H⟩ := H
         replace H : (laws_FnMarks.j0 k l0 t339 t340 (decide (t346 < 0))) = some r := H
         have A33 := Aside0.mk A330
         clear A330
         have H' := Aside0.mk H
         clear H
         go_wp2_with (first | (go_at_call 34; (with_reducible refine (impl_AreMarks.calls k _ _ t339 true _ ?side1 ?side2 A26.out).mono ?_); (case side1 => repeat (first | exact (Kd.R_reads' HO343.out).2.2 | (with_reducible refine Kd.C_alloc ?_ _) | (with_reducible refine Kd.C_drewN ?_ _) | (with_reducible refine Kd.C_drew ?_))); (case side2 => exact (Kd.R_reads' HO343.out).2.1); rintro e w34 ⟨rfl, hb⟩; have n0_ := Aside0.mk (Kd.R_below (by (with_reducible repeat first | apply rA | apply rN | apply rD); exact HO335.out) hb); have n1_ := Aside0.mk (Kd.R_below (by (with_reducible repeat first | apply rA | apply rN | apply rD); exact HO343.out) hb); have n2_ := Aside0.mk (below_step (by repeat (first | (with_reducible first | exact HB.out | apply bA | apply bN | apply bD) | exact HB.out)) hb); clear HO335; clear HO343; clear HB; have HO335 := n0_; have HO343 := n1_; have HB := n2_; clear n0_ n1_ n2_; (try clear hb); (try clear hb2); (try clear hk); (try clear hi)) | (go_at_call 37; (with_reducible refine (impl_AnswerOf.calls k _ _ t339 t344 t346 _ ?side1 ?side2 A33.out).mono ?_); (case side1 => repeat (first | exact (Kd.R_reads' HO343.out).2.2 | (with_reducible refine Kd.C_alloc ?_ _) | (with_reducible refine Kd.C_drewN ?_ _) | (with_reducible refine Kd.C_drew ?_))); (case side2 => exact (Kd.R_reads' HO343.out).2.1); rintro e w35 ⟨rfl, hb⟩; have n0_ := Aside0.mk (Kd.R_below (by (with_reducible repeat first | apply rA | apply rN | apply rD); exact HO335.out) hb); have n1_ := Aside0.mk (Kd.R_below (by (with_reducible repeat first | apply rA | apply rN | apply rD); exact HO343.out) hb); have n2_ := Aside0.mk (below_step (by repeat (first | (with_reducible first | exact HB.out | apply bA | apply bN | apply bD) | exact HB.out)) hb); clear HO335; clear HO343; clear HB; have HO335 := n0_; have HO343 := n1_; have HB := n2_; clear n0_ n1_ n2_; (try clear hb); (try clear hb2); (try clear hk); (try clear hi)))
         go_meet
         case rel => exact ⟨_, (decide (t346 < 0)), (by first | rfl | (simp; done) | (simp [*]; done)), H', ⟨by first | omega | exact Nat.le_refl _⟩, ⟨by (with_reducible repeat first | apply rA | apply rN | apply rD); exact Kd.R_mono HO343.out (fun _ hk => trivial)⟩, ⟨by repeat (first | (with_reducible first | exact HB.out | apply bA | apply bN | apply bD) | exact HB.out)⟩⟩
      ·rw [if_neg c28] at H
       have c28b0 : decide (0 ≤ t341) = false := decide_eq_false c28
       clear c28
       by_cases c36 : ((t344 != 0) != false) = true
       ·rw [if_pos c36] at H
        have c36b0 : ((t344 != 0) != false) = true := c36
        (try (have c36b1 : decide ((t344 != 0) = false) = false := by simpa using c36))
        (try (have c36b2 : ((t344 != 0) == false) = false := by simpa using c36))
        (try (have c36b3 : ¬ ((t344 != 0) = false) := by simpa using c36))
        clear c36
        have H' := Aside0.mk H
        clear H
        go_wp2_with (first | (go_at_call 34; (with_reducible refine (impl_AreMarks.calls k _ _ t339 true _ ?side1 ?side2 A26.out).mono ?_); (case side1 => repeat (first | exact (Kd.R_reads' HO343.out).2.2 | (with_reducible refine Kd.C_alloc ?_ _) | (with_reducible refine Kd.C_drewN ?_ _) | (with_reducible refine Kd.C_drew ?_))); (case side2 => exact (Kd.R_reads' HO343.out).2.1); rintro e w37 ⟨rfl, hb⟩; have n0_ := Aside0.mk (Kd.R_below (by (with_reducible repeat first | apply rA | apply rN | apply rD); exact HO335.out) hb); have n1_ := Aside0.mk (Kd.R_below (by (with_reducible repeat first | apply rA | apply rN | apply rD); exact HO343.out) hb); have n2_ := Aside0.mk (below_step (by repeat (first | (with_reducible first | exact HB.out | apply bA | apply bN | apply bD) | exact HB.out)) hb); clear HO335; clear HO343; clear HB; have HO335 := n0_; have HO343 := n1_; have HB := n2_; clear n0_ n1_ n2_; (try clear hb); (try clear hb2); (try clear hk); (try clear hi)))
        go_meet
        case rel => exact ⟨_, (true), (by first | rfl | (simp; done) | (simp [*]; done)), H', ⟨by first | omega | exact Nat.le_refl _⟩, ⟨by (with_reducible repeat first | apply rA | apply rN | apply rD); exact Kd.R_mono HO343.out (fun _ hk => trivial)⟩, ⟨by repeat (first | (with_reducible first | exact HB.out | apply bA | apply bN | apply bD) | exact HB.out)⟩⟩
       ·rw [if_neg c36] at H
        have c36b0 : ((t344 != 0) != false) = false := by simpa using c36
        (try (have c36b1 : decide ((t344 != 0) = false) = true := by simpa using c36))
        (try (have c36b2 : ((t344 != 0) == false) = true := by simpa using c36))
        clear c36
        by_cases c38 : t344 = 0
        ·rw [if_pos c38] at H
         have c38b0 : (t344 == 0) = true := beq_iff_eq.mpr c38
         have c38b1 : (t344 != 0) = false := bne_eq_false_iff_eq.mpr c38
         clear c38
         have H' := Aside0.mk H
         clear H
         go_wp2_with (first | (go_at_call 34; (with_reducible refine (impl_AreMarks.calls k _ _ t339 true _ ?side1 ?side2 A26.out).mono ?_); (case side1 => repeat (first | exact (Kd.R_reads' HO343.out).2.2 | (with_reducible refine Kd.C_alloc ?_ _) | (with_reducible refine Kd.C_drewN ?_ _) | (with_reducible refine Kd.C_drew ?_))); (case side2 => exact (Kd.R_reads' HO343.out).2.1); rintro e w39 ⟨rfl, hb⟩; have n0_ := Aside0.mk (Kd.R_below (by (with_reducible repeat first | apply rA | apply rN | apply rD); exact HO335.out) hb); have n1_ := Aside0.mk (Kd.R_below (by (with_reducible repeat first | apply rA | apply rN | apply rD); exact HO343.out) hb); have n2_ := Aside0.mk (below_step (by repeat (first | (with_reducible first | exact HB.out | apply bA | apply bN | apply bD) | exact HB.out)) hb); clear HO335; clear HO343; clear HB; have HO335 := n0_; have HO343 := n1_; have HB := n2_; clear n0_ n1_ n2_; (try clear hb); (try clear hb2); (try clear hk); (try clear hi)))
         go_meet
         case rel => exact ⟨_, (false), (by first | rfl | (simp; done) | (simp [*]; done)), H', ⟨by first | omega | exact Nat.le_refl _⟩, ⟨by (with_reducible repeat first | apply rA | apply rN | apply rD); exact Kd.R_mono HO343.out (fun _ hk => trivial)⟩, ⟨by repeat (first | (with_reducible first | exact HB.out | apply bA | apply bN | apply bD) | exact HB.out)⟩⟩
        ·rw [if_neg c38] at H
         have c38b0 : (t344 == 0) = false := beq_eq_false_iff_ne.mpr c38
         have c38b1 : (t344 != 0) = true := bne_iff_ne.mpr c38
         exact absurd c36b0 (by rw [c38b1]; decide)
     ·replace c27 := Bool.eq_false_iff.mpr c27
      subst c27
      have H1 : (if ((t344 != 0) != false) = true then (laws_FnMarks.j0 k l0 t339 t340 true) else (if t344 = 0 then (laws_FnMarks.j0 k l0 t339 t340 false) else ((impl_AnswerOf.f k t339 t344).bind fun t348 => (laws_FnMarks.j0 k l0 t339 t340 (decide (t348 < 0)))))) = some r := by rw [if_neg (show ¬ (false = true) by decide)] at H; exact H
      clear H
      have H := H1
      clear H1
      by_cases c43 : ((t344 != 0) != false) = true
      ·rw [if_pos c43] at H
       have c43b0 : ((t344 != 0) != false) = true := c43
       (try (have c43b1 : decide ((t344 != 0) = false) = false := by simpa using c43))
       (try (have c43b2 : ((t344 != 0) == false) = false := by simpa using c43))
       (try (have c43b3 : ¬ ((t344 != 0) = false) := by simpa using c43))
       clear c43
       have H' := Aside0.mk H
       clear H
       go_wp2_with (first | (go_at_call 34; (with_reducible refine (impl_AreMarks.calls k _ _ t339 false _ ?side1 ?side2 A26.out).mono ?_); (case side1 => repeat (first | exact (Kd.R_reads' HO343.out).2.2 | (with_reducible refine Kd.C_alloc ?_ _) | (with_reducible refine Kd.C_drewN ?_ _) | (with_reducible refine Kd.C_drew ?_))); (case side2 => exact (Kd.R_reads' HO343.out).2.1); rintro e w44 ⟨rfl, hb⟩; have n0_ := Aside0.mk (Kd.R_below (by (with_reducible repeat first | apply rA | apply rN | apply rD); exact HO335.out) hb); have n1_ := Aside0.mk (Kd.R_below (by (with_reducible repeat first | apply rA | apply rN | apply rD); exact HO343.out) hb); have n2_ := Aside0.mk (below_step (by repeat (first | (with_reducible first | exact HB.out | apply bA | apply bN | apply bD) | exact HB.out)) hb); clear HO335; clear HO343; clear HB; have HO335 := n0_; have HO343 := n1_; have HB := n2_; clear n0_ n1_ n2_; (try clear hb); (try clear hb2); (try clear hk); (try clear hi)))
       go_meet
       case rel => exact ⟨_, (true), (by first | rfl | (simp; done) | (simp [*]; done)), H', ⟨by first | omega | exact Nat.le_refl _⟩, ⟨by (with_reducible repeat first | apply rA | apply rN | apply rD); exact Kd.R_mono HO343.out (fun _ hk => trivial)⟩, ⟨by repeat (first | (with_reducible first | exact HB.out | apply bA | apply bN | apply bD) | exact HB.out)⟩⟩
      ·rw [if_neg c43] at H
       have c43b0 : ((t344 != 0) != false) = false := by simpa using c43
       (try (have c43b1 : decide ((t344 != 0) = false) = true := by simpa using c43))
       (try (have c43b2 : ((t344 != 0) == false) = true := by simpa using c43))
       clear c43
       by_cases c45 : t344 = 0
       ·rw [if_pos c45] at H
        have c45b0 : (t344 == 0) = true := beq_iff_eq.mpr c45
        have c45b1 : (t344 != 0) = false := bne_eq_false_iff_eq.mpr c45
        clear c45
        have H' := Aside0.mk H
        clear H
        go_wp2_with (first | (go_at_call 34; (with_reducible refine (impl_AreMarks.calls k _ _ t339 false _ ?side1 ?side2 A26.out).mono ?_); (case side1 => repeat (first | exact (Kd.R_reads' HO343.out).2.2 | (with_reducible refine Kd.C_alloc ?_ _) | (with_reducible refine Kd.C_drewN ?_ _) | (with_reducible refine Kd.C_drew ?_))); (case side2 => exact (Kd.R_reads' HO343.out).2.1); rintro e w46 ⟨rfl, hb⟩; have n0_ := Aside0.mk (Kd.R_below (by (with_reducible repeat first | apply rA | apply rN | apply rD); exact HO335.out) hb); have n1_ := Aside0.mk (Kd.R_below (by (with_reducible repeat first | apply rA | apply rN | apply rD); exact HO343.out) hb); have n2_ := Aside0.mk (below_step (by repeat (first | (with_reducible first | exact HB.out | apply bA | apply bN | apply bD) | exact HB.out)) hb); clear HO335; clear HO343; clear HB; have HO335 := n0_; have HO343 := n1_; have HB := n2_; clear n0_ n1_ n2_; (try clear hb); (try clear hb2); (try clear hk); (try clear hi)))
        go_meet
        case rel => exact ⟨_, (false), (by first | rfl | (simp; done) | (simp [*]; done)), H', ⟨by first | omega | exact Nat.le_refl _⟩, ⟨by (with_reducible repeat first | apply rA | apply rN | apply rD); exact Kd.R_mono HO343.out (fun _ hk => trivial)⟩, ⟨by repeat (first | (with_reducible first | exact HB.out | apply bA | apply bN | apply bD) | exact HB.out)⟩⟩
       ·rw [if_neg c45] at H
        have c45b0 : (t344 == 0) = false := beq_eq_false_iff_ne.mpr c45
        have c45b1 : (t344 != 0) = true := bne_iff_ne.mpr c45
        exact absurd c43b0 (by rw [c45b1]; decide)
    ·rw [if_neg c25] at H
     have c25b0 : decide (0 < (t339.length : Int)) = false := decide_eq_false c25
     have c25b1 : decide (0 < t339.length) = false := decide_eq_false (by omega)
     clear c25
     (first | rw [c25b0] | (simp only [i64_w, i32_w]; rw [c25b0]) | skip)
     by_cases c50 : ((t344 != 0) != false) = true
     ·rw [if_pos c50] at H
      have c50b0 : ((t344 != 0) != false) = true := c50
      (try (have c50b1 : decide ((t344 != 0) = false) = false := by simpa using c50))
      (try (have c50b2 : ((t344 != 0) == false) = false := by simpa using c50))
      (try (have c50b3 : ¬ ((t344 != 0) = false) := by simpa using c50))
      clear c50
      have H' := Aside0.mk H
      clear H
      go_wp2
      go_meet
      case rel => exact ⟨_, (true), (by first | rfl | (simp; done) | (simp [*]; done)), H', ⟨by first | omega | exact Nat.le_refl _⟩, ⟨by (with_reducible repeat first | apply rA | apply rN | apply rD); exact Kd.R_mono HO343.out (fun _ hk => trivial)⟩, ⟨by repeat (first | (with_reducible first | exact HB.out | apply bA | apply bN | apply bD) | exact HB.out)⟩⟩
     ·rw [if_neg c50] at H
      have c50b0 : ((t344 != 0) != false) = false := by simpa using c50
      (try (have c50b1 : decide ((t344 != 0) = false) = true := by simpa using c50))
      (try (have c50b2 : ((t344 != 0) == false) = true := by simpa using c50))
      clear c50
      by_cases c51 : t344 = 0
      ·rw [if_pos c51] at H
       have c51b0 : (t344 == 0) = true := beq_iff_eq.mpr c51
       have c51b1 : (t344 != 0) = false := bne_eq_false_iff_eq.mpr c51
       clear c51
       have H' := Aside0.mk H
       clear H
       go_wp2
       go_meet
       case rel => exact ⟨_, (false), (by first | rfl | (simp; done) | (simp [*]; done)), H', ⟨by first | omega | exact Nat.le_refl _⟩, ⟨by (with_reducible repeat first | apply rA | apply rN | apply rD); exact Kd.R_mono HO343.out (fun _ hk => trivial)⟩, ⟨by repeat (first | (with_reducible first | exact HB.out | apply bA | apply bN | apply bD) | exact HB.out)⟩⟩
      ·rw [if_neg c51] at H
       have c51b0 : (t344 == 0) = false := beq_eq_false_iff_ne.mpr c51
       have c51b1 : (t344 != 0) = true := bne_iff_ne.mpr c51
       exact absurd c50b0 (by rw [c51b1]; decide)
   case rest =>
    clear HC16
    try clear c2
    try clear p2
    try clear c3
    try clear c4
    try clear c5
    try clear c8
    try clear c8b0
    try clear c8b1
    try clear c8b2
    try clear c25
    try clear c25b0
    try clear c25b1
    try clear c27
    try clear c28
    try clear c28b0
    try clear c29
    try clear c29b0
    try clear c29b1
    try clear c29b2
    try clear c30
    try clear c31
    try clear c31b0
    try clear c31b1
    try clear c32
    try clear c33
    try clear c34
    try clear c35
    try clear c36
    try clear c36b0
    try clear c36b1
    try clear c36b2
    try clear c38
    try clear c38b0
    try clear c38b1
    try clear c43
    try clear c43b0
    try clear c43b1
    try clear c43b2
    try clear c45
    try clear c45b0
    try clear c45b1
    try clear c50
    try clear c50b0
    try clear c50b1
    try clear c50b2
    try clear c51
    try clear c51b0
    try clear c51b1
    obtain ⟨kq, x69_15, rfl, HA, HJ15, HO_5, HB⟩ := hcut
    cases kq with
    | zero => exact absurd HA.out (by simp [laws_FnMarks.j0])
    | succ kj15 =>
     have H := HA.out
     clear HA
     simp only [laws_FnMarks.j0] at H
     by_cases c54 : x69_15 = true
     ·subst c54
      have H1 : (some false) = some r := by rw [if_pos rfl] at H; exact H
      clear H
      have H := H1
      clear H1
      obtain rfl := Option.some.inj H
      go_wp2
      go_ret
      exact ⟨by first | rfl | (simp [errW_none, errW_some] <;> rfl) | (simp [*, errW_none, errW_some] <;> rfl), by repeat (first | (with_reducible first | exact HB.out | apply bA | apply bN | apply bD) | exact HB.out)⟩
     ·replace c54 := Bool.eq_false_iff.mpr c54
      subst c54
      have H1 : (laws_FnMarks.l0 kj15 l0 t339 t340 0 0) = some r := by rw [if_neg (show ¬ (false = true) by decide)] at H; exact H
      clear H
      have H := H1
      clear H1
      have H' := Aside0.mk H
      clear H
      go_wp2
      go_loopg [9, 10] kj15 (fun kq v9 v10 w' => ∃ (x9_2 : Int) (x10_2 : Int), v9 = .int .i64 x9_2 ∧ v10 = .int .i64 x10_2 ∧ Aside0 (laws_FnMarks.l0 kq l0 t339 t340 x9_2 x10_2 = some r) ∧ Aside0 (kq ≤ kj15) ∧ Aside0 (Kd.R k62 62 w' w.heap.size (fun _ => True) (.slice Ao23 t339.length co23) t339) ∧ Aside0 (Below w.heap.size w w'))
      case atStart => exact ⟨(0), (0), (by first | rfl | (simp; done) | (simp [*]; done)), (by first | rfl | (simp; done) | (simp [*]; done)), H', ⟨Nat.le_refl _⟩, ⟨by (with_reducible repeat first | apply rA | apply rN | apply rD); exact HO_5.out⟩, ⟨by repeat (first | (with_reducible first | exact HB.out | apply bA | apply bN | apply bD) | exact HB.out)⟩⟩
      case round =>
       clear H'
       try clear c2
       try clear p2
       try clear c3
       try clear c4
       try clear c5
       try clear c8
       try clear c8b0
       try clear c8b1
       try clear c8b2
       try clear c25
       try clear c25b0
       try clear c25b1
       try clear c27
       try clear c28
       try clear c28b0
       try clear c29
       try clear c29b0
       try clear c29b1
       try clear c29b2
       try clear c30
       try clear c31
       try clear c31b0
       try clear c31b1
       try clear c32
       try clear c33
       try clear c34
       try clear c35
       try clear c36
       try clear c36b0
       try clear c36b1
       try clear c36b2
       try clear c38
       try clear c38b0
       try clear c38b1
       try clear c43
       try clear c43b0
       try clear c43b1
       try clear c43b2
       try clear c45
       try clear c45b0
       try clear c45b1
       try clear c50
       try clear c50b0
       try clear c50b1
       try clear c50b2
       try clear c51
       try clear c51b0
       try clear c51b1
       try clear c54
       try clear p2
       obtain ⟨x9_2, x10_2, rfl, rfl, HA, HK2, HO_5, HB⟩ := hrel
       cases gk with
       | zero => exact absurd HA.out (by simp [laws_FnMarks.l0])
       | succ k2 =>
        have H := HA.out
        clear HA
        simp only [laws_FnMarks.l0] at H
        have HC55 := Aside0.mk H
        clear H
        go_upto_region 12 with (fail)
        go_cut [77] (fun v77 wc => ∃ (kq : Nat) (x77_54 : Bool), v77 = .bool x77_54 ∧ Aside0 (laws_FnMarks.j2 kq l0 t339 t340 x9_2 x10_2 x77_54 = some r) ∧ Aside0 (kq ≤ k2) ∧ Aside0 (Kd.R k62 62 wc w.heap.size (fun _ => True) (.slice Ao23 t339.length co23) t339) ∧ Aside0 (Below w.heap.size w wc))
        case first =>
         have H := HC55.out
         clear HC55
         by_cases c56 : x10_2 < (t339.length : Int)
         ·rw [if_pos c56] at H
          have c56b0 : decide (x10_2 < (t339.length : Int)) = true := decide_eq_true c56
          clear c56
          (first | rw [c56b0] | (simp only [i64_w, i32_w]; rw [c56b0]) | skip)
          replace H := Option.bind_eq_some_iff.mp H
          obtain ⟨t350, A570, H⟩ := H
          replace H : (laws_FnMarks.j2 k2 l0 t339 t340 x9_2 x10_2 t350) = some r := H
          have A57 := Aside0.mk A570
          clear A570
          have H' := Aside0.mk H
          clear H
          go_wp2_with (first | (go_at_call 34; (with_reducible refine (impl_AreMarks.calls k2 _ _ t339 t350 _ ?side1 ?side2 A57.out).mono ?_); (case side1 => repeat (first | exact (Kd.R_reads' HO_5.out).2.2 | (with_reducible refine Kd.C_alloc ?_ _) | (with_reducible refine Kd.C_drewN ?_ _) | (with_reducible refine Kd.C_drew ?_))); (case side2 => exact (Kd.R_reads' HO_5.out).2.1); rintro e w58 ⟨rfl, hb⟩; have n0_ := Aside0.mk (Kd.R_below (by (with_reducible repeat first | apply rA | apply rN | apply rD); exact HO_5.out) hb); have n1_ := Aside0.mk (below_step (by repeat (first | (with_reducible first | exact HB.out | apply bA | apply bN | apply bD) | exact HB.out)) hb); clear HO_5; clear HB; have HO_5 := n0_; have HB := n1_; clear n0_ n1_; (try clear hb); (try clear hb2); (try clear hk); (try clear hi)))
          go_meet
          case rel => exact ⟨_, (t350), (by first | rfl | (simp; done) | (simp [*]; done)), H', ⟨by have := HJ15.out; have := HK2.out; first | omega | exact Nat.le_refl _⟩, ⟨by (with_reducible repeat first | apply rA | apply rN | apply rD); exact HO_5.out⟩, ⟨by repeat (first | (with_reducible first | exact HB.out | apply bA | apply bN | apply bD) | exact HB.out)⟩⟩
         ·rw [if_neg c56] at H
          have c56b0 : decide (x10_2 < (t339.length : Int)) = false := decide_eq_false c56
          clear c56
          (first | rw [c56b0] | (simp only [i64_w, i32_w]; rw [c56b0]) | skip)
          have H' := Aside0.mk H
          clear H
          go_wp2
          go_meet
          case rel => exact ⟨_, (false), (by first | rfl | (simp; done) | (simp [*]; done)), H', ⟨by have := HJ15.out; have := HK2.out; first | omega | exact Nat.le_refl _⟩, ⟨by (with_reducible repeat first | apply rA | apply rN | apply rD); exact HO_5.out⟩, ⟨by repeat (first | (with_reducible first | exact HB.out | apply bA | apply bN | apply bD) | exact HB.out)⟩⟩
        case rest =>
         clear HC55
         try clear c2
         try clear p2
         try clear c3
         try clear c4
         try clear c5
         try clear c8
         try clear c8b0
         try clear c8b1
         try clear c8b2
         try clear c25
         try clear c25b0
         try clear c25b1
         try clear c27
         try clear c28
         try clear c28b0
         try clear c29
         try clear c29b0
         try clear c29b1
         try clear c29b2
         try clear c30
         try clear c31
         try clear c31b0
         try clear c31b1
         try clear c32
         try clear c33
         try clear c34
         try clear c35
         try clear c36
         try clear c36b0
         try clear c36b1
         try clear c36b2
         try clear c38
         try clear c38b0
         try clear c38b1
         try clear c43
         try clear c43b0
         try clear c43b1
         try clear c43b2
         try clear c45
         try clear c45b0
         try clear c45b1
         try clear c50
         try clear c50b0
         try clear c50b1
         try clear c50b2
         try clear c51
         try clear c51b0
         try clear c51b1
         try clear c54
         try clear c56
         try clear c56b0
         try clear p2
         obtain ⟨kq, x77_54, rfl, HA, HJ54, HO_5, HB⟩ := hcut
         cases kq with
         | zero => exact absurd HA.out (by simp [laws_FnMarks.j2])
         | succ kj54 =>
          have H := HA.out
          clear HA
          simp only [laws_FnMarks.j2] at H
          by_cases c59 : x77_54 = true
          ·subst c59
           have H1 : (laws_FnMarks.l1 kj54 l0 t339 t340 x9_2 x10_2 0) = some r := by rw [if_pos rfl] at H; exact H
           clear H
           have H := H1
           clear H1
           have H' := Aside0.mk H
           clear H
           go_wp2
           go_loopg [9, 11] kj54 (fun kq v9 v11 w' => ∃ (x9_4 : Int) (x11_4 : Int), v9 = .int .i64 x9_4 ∧ v11 = .int .i64 x11_4 ∧ Aside0 (laws_FnMarks.l1 kq l0 t339 t340 x9_4 x10_2 x11_4 = some r) ∧ Aside0 (kq ≤ kj54) ∧ Aside0 (Kd.R k62 62 w' w.heap.size (fun _ => True) (.slice Ao23 t339.length co23) t339) ∧ Aside0 (Below w.heap.size w w'))
           case atStart => exact ⟨(x9_2), (0), (by first | rfl | (simp; done) | (simp [*]; done)), (by first | rfl | (simp; done) | (simp [*]; done)), H', ⟨Nat.le_refl _⟩, ⟨by (with_reducible repeat first | apply rA | apply rN | apply rD); exact HO_5.out⟩, ⟨by repeat (first | (with_reducible first | exact HB.out | apply bA | apply bN | apply bD) | exact HB.out)⟩⟩
           case round =>
            clear H'
            try clear c2
            try clear p2
            try clear c3
            try clear c4
            try clear c5
            try clear c8
            try clear c8b0
            try clear c8b1
            try clear c8b2
            try clear c25
            try clear c25b0
            try clear c25b1
            try clear c27
            try clear c28
            try clear c28b0
            try clear c29
            try clear c29b0
            try clear c29b1
            try clear c29b2
            try clear c30
            try clear c31
            try clear c31b0
            try clear c31b1
            try clear c32
            try clear c33
            try clear c34
            try clear c35
            try clear c36
            try clear c36b0
            try clear c36b1
            try clear c36b2
            try clear c38
            try clear c38b0
            try clear c38b1
            try clear c43
            try clear c43b0
            try clear c43b1
            try clear c43b2
            try clear c45
            try clear c45b0
            try clear c45b1
            try clear c50
            try clear c50b0
            try clear c50b1
            try clear c50b2
            try clear c51
            try clear c51b0
            try clear c51b1
            try clear c54
            try clear c56
            try clear c56b0
            try clear c59
            try clear p2
            obtain ⟨x9_4, x11_4, rfl, rfl, HA, HK4, HO_5, HB⟩ := hrel
            cases gk with
            | zero => exact absurd HA.out (by simp [laws_FnMarks.l1])
            | succ k4 =>
             have H := HA.out
             clear HA
             simp only [laws_FnMarks.l1] at H
             by_cases c60 : x11_4 < (t339.length : Int)
             ·rw [if_pos c60] at H
              have c60b0 : decide (x11_4 < (t339.length : Int)) = true := decide_eq_true c60
              clear c60
              replace H := Option.bind_eq_some_iff.mp H
              obtain ⟨t351, A610, H⟩ := H
              replace H : (if 0 ≤ x10_2 then (if x10_2 < (t339.length : Int) then (if t351 = ((rd_T62 t339 x10_2).f0) then (laws_FnMarks.l1 k4 l0 t339 t340 (wrap64 (x9_4 + 1)) x10_2 (wrap64 (x11_4 + 1))) else (laws_FnMarks.l1 k4 l0 t339 t340 x9_4 x10_2 (wrap64 (x11_4 + 1)))) else (none)) else (none)) = some r := H
              have A61 := Aside0.mk A610
              clear A610
              by_cases c62 : 0 ≤ x10_2
              ·rw [if_pos c62] at H
               have c62b0 : decide (0 ≤ x10_2) = true := decide_eq_true c62
               clear c62
               by_cases c63 : x10_2 < (t339.length : Int)
               ·rw [if_pos c63] at H
                have c63b0 : decide (x10_2 < (t339.length : Int)) = true := decide_eq_true c63
                clear c63
                by_cases c64 : t351 = ((rd_T62 t339 x10_2).f0)
                ·rw [if_pos c64] at H
                 have c64b0 : (t351 == ((rd_T62 t339 x10_2).f0)) = true := beq_iff_eq.mpr c64
                 have c64b1 : (t351 != ((rd_T62 t339 x10_2).f0)) = false := bne_eq_false_iff_eq.mpr c64
                 clear c64
                 have H' := Aside0.mk H
                 clear H
                 try go_wp2
                 have n0_ := Aside0.mk (Kd.R_drew HO_5.out)
                 have n1_ := Aside0.mk (below_drew1 HB.out)
                 clear HO_5
                 clear HB
                 have HO_5 := n0_
                 have HB := n1_
                 clear n0_ n1_
                 have p352 : 0 ≤ (x10_2 : Int) := of_decide_eq_true ‹_›
                 have q352 : x10_2 < (t339.length : Int) := of_decide_eq_true ‹_›
                 obtain ⟨ad352, e352, hx352_0, hx352_1⟩ := at_T62 (Kd.R_reads' HO_5.out).2.2 x10_2 p352 q352
                 cases e352
                 replace p352 := eq_true p352
                 replace q352 := eq_true q352
                 refine start_ (n := 10) (S := fun w' => w'.cell? (ad352.add ((x10_2).toNat * 2)) = some (.int .i64 ((rd_T62 t339 x10_2).f0)) ∧ w'.cell? ⟨(ad352.add ((x10_2).toNat * 2)).block, (ad352.add ((x10_2).toNat * 2)).off + 1, none⟩ = some (.int .i64 ((rd_T62 t339 x10_2).f1))) (ds := []) (bR [0, 10]) (by kernel_rfl) rfl rfl ⟨hx352_0, hx352_1⟩ (fun hHeld => ?_); refine with_tabW laws_FnMarks.tab17 laws_FnMarks.bits17 (fun HT_ HW_ => ?_)
                 generalize wr.drew = w65 at HO_5 HB hx352_0 hx352_1 hHeld ⊢
                 refine pP 0 86 (bR [1, 9]) rfl rfl HT_ ?_
                 refine pP 1 87 (bR [2, 8]) rfl rfl HT_ ?_
                 refine pP 2 88 (bR [3, 7]) rfl rfl HT_ ?_
                 refine pP 4 90 (bR [3, 1, 1, 5]) rfl rfl HT_ ?_
                 refine pP 5 91 (bR [3, 1, 2, 4]) rfl rfl HT_ ?_
                 refine pP 6 92 (bR [3, 1, 3, 3]) rfl rfl HT_ ?_
                 refine pP 7 93 (bR [3, 1, 4, 2]) rfl rfl HT_ ?_
                 refine take_ (i := 8) (N := some 94) (v := ?_) (a' := ?_) (bR [3, 1, 5, 1]) rfl rfl (take_ofW HT_.out HW_.out (by kernel_rfl)) (fun _ _ _ h => h) (Or.inl ⟨by rfl, ?_⟩) hHeld ?_ ?_
                 rotate_left; (rintro w' ⟨s0, s1⟩; go_simp; with_reducible rfl); rotate_left; (simp only [Act.put, sA, sZ, sS, i64_w]; rfl)
                 refine one_ (i := 3) (N := some 89) (bR [9, 1]) rfl rfl (one_of HT_.out (by kernel_rfl)) (by decide) (fun K hK => ?_)
                 refine goes_ Try.func36 (by kernel_rfl) rfl #[.slice (some ad352) t339.length co23, .int .i64 t340, .int .i64 x11_4] (by rfl) rfl rfl (by (try simp only [mA, mC, mN]); first | done | rfl | (simp only [lD, lT]; rfl)) ?_
                 with_reducible refine (impl_QuestionFor.calls k4 _ _ t339 t340 x11_4 t351 _ ?side1 ?side2 A61.out).mono ?_
                 (case side1 => repeat (first | exact (Kd.R_reads' HO_5.out).2.2 | (with_reducible refine Kd.C_alloc ?_ _) | (with_reducible refine Kd.C_drewN ?_ _) | (with_reducible refine Kd.C_drew ?_)))
                 (case side2 => exact (Kd.R_reads' HO_5.out).2.1)
                 rintro e w66 ⟨rfl, hb⟩
                 have HS0_ := (hb.cell (World.block_lt_of_cell? _ _ (hHeld.1))).trans (hHeld.1)
                 have HS1_ := (hb.cell (World.block_lt_of_cell? _ _ (hHeld.2))).trans (hHeld.2)
                 refine ⟨_, rfl, ?_⟩
                 have n0_ := Aside0.mk (Kd.R_below (by (with_reducible repeat first | apply rA | apply rN | apply rD); exact HO_5.out) hb)
                 have n1_ := Aside0.mk (below_step (by repeat (first | (with_reducible first | exact HB.out | apply bA | apply bN | apply bD) | exact HB.out)) hb)
                 clear HO_5
                 clear HB
                 have HO_5 := n0_
                 have HB := n1_
                 clear n0_ n1_
                 (try clear hb)
                 (try clear hb2)
                 (try clear hk)
                 (try clear hi)
                 refine hK.out _ _ ⟨HS0_, HS1_⟩ (fun hHeld => ?_)
                 clear hK K
                 refine norm_ (a' := ?_) ?_ ?_
                 rotate_left
                 ·show Act.put _ (some 89) _ = _
                  simp only [Act.put, sA, sZ, sS, i64_w]
                  rfl
                 refine pP 9 95 (bR [10]) rfl rfl HT_ ?_
                 refine done_ (done_of HT_.out (by kernel_rfl)) ?_
                 try go_wp2
                 go_roundg k4
                 case measure => have := HJ15.out; have := HK2.out; have := HJ54.out; have := HK4.out; omega
                 case rel => exact ⟨(wrap64 (x9_4 + 1)), (wrap64 (x11_4 + 1)), (by first | rfl | (simp; done) | (simp [*]; done)), (by first | rfl | (simp; done) | (simp [*]; done)), H', ⟨by have := HJ15.out; have := HK2.out; have := HJ54.out; have := HK4.out; omega⟩, ⟨by (with_reducible repeat first | apply rA | apply rN | apply rD); exact HO_5.out⟩, ⟨by repeat (first | (with_reducible first | exact HB.out | apply bA | apply bN | apply bD) | exact HB.out)⟩⟩
                ·rw [if_neg c64] at H
                 have c64b0 : (t351 == ((rd_T62 t339 x10_2).f0)) = false := beq_eq_false_iff_ne.mpr c64
                 have c64b1 : (t351 != ((rd_T62 t339 x10_2).f0)) = true := bne_iff_ne.mpr c64
                 have H' := Aside0.mk H
                 clear H
                 try go_wp2
                 have n0_ := Aside0.mk (Kd.R_drew HO_5.out)
                 have n1_ := Aside0.mk (below_drew1 HB.out)
                 clear HO_5
                 clear HB
                 have HO_5 := n0_
                 have HB := n1_
                 clear n0_ n1_
                 have p352 : 0 ≤ (x10_2 : Int) := of_decide_eq_true ‹_›
                 have q352 : x10_2 < (t339.length : Int) := of_decide_eq_true ‹_›
                 obtain ⟨ad352, e352, hx352_0, hx352_1⟩ := at_T62 (Kd.R_reads' HO_5.out).2.2 x10_2 p352 q352
                 cases e352
                 replace p352 := eq_true p352
                 replace q352 := eq_true q352
                 refine start_ (n := 10) (S := fun w' => w'.cell? (ad352.add ((x10_2).toNat * 2)) = some (.int .i64 ((rd_T62 t339 x10_2).f0)) ∧ w'.cell? ⟨(ad352.add ((x10_2).toNat * 2)).block, (ad352.add ((x10_2).toNat * 2)).off + 1, none⟩ = some (.int .i64 ((rd_T62 t339 x10_2).f1))) (ds := []) (bR [0, 10]) (by kernel_rfl) rfl rfl ⟨hx352_0, hx352_1⟩ (fun hHeld => ?_); refine with_tabW laws_FnMarks.tab17 laws_FnMarks.bits17 (fun HT_ HW_ => ?_)
                 generalize wr.drew = w67 at HO_5 HB hx352_0 hx352_1 hHeld ⊢
                 refine pP 0 86 (bR [1, 9]) rfl rfl HT_ ?_
                 refine pP 1 87 (bR [2, 8]) rfl rfl HT_ ?_
                 refine pP 2 88 (bR [3, 7]) rfl rfl HT_ ?_
                 refine pP 4 90 (bR [3, 1, 1, 5]) rfl rfl HT_ ?_
                 refine pP 5 91 (bR [3, 1, 2, 4]) rfl rfl HT_ ?_
                 refine pP 6 92 (bR [3, 1, 3, 3]) rfl rfl HT_ ?_
                 refine pP 7 93 (bR [3, 1, 4, 2]) rfl rfl HT_ ?_
                 refine take_ (i := 8) (N := some 94) (v := ?_) (a' := ?_) (bR [3, 1, 5, 1]) rfl rfl (take_ofW HT_.out HW_.out (by kernel_rfl)) (fun _ _ _ h => h) (Or.inl ⟨by rfl, ?_⟩) hHeld ?_ ?_
                 rotate_left; (rintro w' ⟨s0, s1⟩; go_simp; with_reducible rfl); rotate_left; (simp only [Act.put, sA, sZ, sS, i64_w]; rfl)
                 refine one_ (i := 3) (N := some 89) (bR [9, 1]) rfl rfl (one_of HT_.out (by kernel_rfl)) (by decide) (fun K hK => ?_)
                 refine goes_ Try.func36 (by kernel_rfl) rfl #[.slice (some ad352) t339.length co23, .int .i64 t340, .int .i64 x11_4] (by rfl) rfl rfl (by (try simp only [mA, mC, mN]); first | done | rfl | (simp only [lD, lT]; rfl)) ?_
                 with_reducible refine (impl_QuestionFor.calls k4 _ _ t339 t340 x11_4 t351 _ ?side1 ?side2 A61.out).mono ?_
                 (case side1 => repeat (first | exact (Kd.R_reads' HO_5.out).2.2 | (with_reducible refine Kd.C_alloc ?_ _) | (with_reducible refine Kd.C_drewN ?_ _) | (with_reducible refine Kd.C_drew ?_)))
                 (case side2 => exact (Kd.R_reads' HO_5.out).2.1)
                 rintro e w68 ⟨rfl, hb⟩
                 have HS0_ := (hb.cell (World.block_lt_of_cell? _ _ (hHeld.1))).trans (hHeld.1)
                 have HS1_ := (hb.cell (World.block_lt_of_cell? _ _ (hHeld.2))).trans (hHeld.2)
                 refine ⟨_, rfl, ?_⟩
                 have n0_ := Aside0.mk (Kd.R_below (by (with_reducible repeat first | apply rA | apply rN | apply rD); exact HO_5.out) hb)
                 have n1_ := Aside0.mk (below_step (by repeat (first | (with_reducible first | exact HB.out | apply bA | apply bN | apply bD) | exact HB.out)) hb)
                 clear HO_5
                 clear HB
                 have HO_5 := n0_
                 have HB := n1_
                 clear n0_ n1_
                 (try clear hb)
                 (try clear hb2)
                 (try clear hk)
                 (try clear hi)
                 refine hK.out _ _ ⟨HS0_, HS1_⟩ (fun hHeld => ?_)
                 clear hK K
                 refine norm_ (a' := ?_) ?_ ?_
                 rotate_left
                 ·show Act.put _ (some 89) _ = _
                  simp only [Act.put, sA, sZ, sS, i64_w]
                  rfl
                 refine pP 9 95 (bR [10]) rfl rfl HT_ ?_
                 refine done_ (done_of HT_.out (by kernel_rfl)) ?_
                 try go_wp2
                 go_roundg k4
                 case measure => have := HJ15.out; have := HK2.out; have := HJ54.out; have := HK4.out; omega
                 case rel => exact ⟨(x9_4), (wrap64 (x11_4 + 1)), (by first | rfl | (simp; done) | (simp [*]; done)), (by first | rfl | (simp; done) | (simp [*]; done)), H', ⟨by have := HJ15.out; have := HK2.out; have := HJ54.out; have := HK4.out; omega⟩, ⟨by (with_reducible repeat first | apply rA | apply rN | apply rD); exact HO_5.out⟩, ⟨by repeat (first | (with_reducible first | exact HB.out | apply bA | apply bN | apply bD) | exact HB.out)⟩⟩
               ·rw [if_neg c63] at H
                exact absurd H (by simp)
              ·rw [if_neg c62] at H
               exact absurd H (by simp)
             ·rw [if_neg c60] at H
              have c60b0 : decide (x11_4 < (t339.length : Int)) = false := decide_eq_false c60
              clear c60
              have H' := Aside0.mk H
              clear H
              go_wp2
              go_roundg k4
              case measure => have := HJ15.out; have := HK2.out; have := HJ54.out; have := HK4.out; omega
              case rel => exact ⟨(x9_4), (wrap64 (x10_2 + 1)), (by first | rfl | (simp; done) | (simp [*]; done)), (by first | rfl | (simp; done) | (simp [*]; done)), H', ⟨by have := HJ15.out; have := HK2.out; have := HJ54.out; have := HK4.out; omega⟩, ⟨by (with_reducible repeat first | apply rA | apply rN | apply rD); exact HO_5.out⟩, ⟨by repeat (first | (with_reducible first | exact HB.out | apply bA | apply bN | apply bD) | exact HB.out)⟩⟩
          ·replace c59 := Bool.eq_false_iff.mpr c59
           subst c59
           have H1 : ((impl_AreMarks.f kj54 t339).bind fun t353 => (if t353 = true then (laws_FnMarks.j4 kj54 l0 (x9_2 != (t339.length : Int))) else (laws_FnMarks.j4 kj54 l0 false))) = some r := by rw [if_neg (show ¬ (false = true) by decide)] at H; exact H
           clear H
           have H := H1
           clear H1
           have HC69 := Aside0.mk H
           clear H
           go_upto_region 19 with (fail)
           go_cut [105] (fun v105 wc => ∃ (kq : Nat) (x105_68 : Bool), v105 = .bool x105_68 ∧ Aside0 (laws_FnMarks.j4 kq l0 x105_68 = some r) ∧ Aside0 (kq ≤ kj54) ∧ Aside0 (Below w.heap.size w wc))
           case first =>
            have H := HC69.out
            clear HC69
            replace H := Option.bind_eq_some_iff.mp H
            obtain ⟨t353, A700, H⟩ := H
            replace H : (if t353 = true then (laws_FnMarks.j4 kj54 l0 (x9_2 != (t339.length : Int))) else (laws_FnMarks.j4 kj54 l0 false)) = some r := H
            have A70 := Aside0.mk A700
            clear A700
            by_cases c71 : t353 = true
            ·subst c71
             have H1 : (laws_FnMarks.j4 kj54 l0 (x9_2 != (t339.length : Int))) = some r := by rw [if_pos rfl] at H; exact H
             clear H
             have H := H1
             clear H1
             have H' := Aside0.mk H
             clear H
             go_wp2_with (first | ((with_reducible refine gate_callee (f := 34) rfl ?_); refine goesL_ (some 99) rfl rfl Try.func34 (by kernel_rfl) rfl #[.slice Ao23 t339.length co23] rfl (by (try simp only [mA, mC, mN]); first | done | rfl | (simp only [lD, lT]; rfl)) ?_; (with_reducible refine (impl_AreMarks.calls kj54 _ _ t339 true _ ?side1 ?side2 A70.out).mono ?_); (case side1 => repeat (first | exact (Kd.R_reads' HO_5.out).2.2 | (with_reducible refine Kd.C_alloc ?_ _) | (with_reducible refine Kd.C_drewN ?_ _) | (with_reducible refine Kd.C_drew ?_))); (case side2 => exact (Kd.R_reads' HO_5.out).2.1); rintro e w72 ⟨rfl, hb⟩; refine ⟨_, rfl, ?_⟩; have n0_ := Aside0.mk (Kd.R_below (by (with_reducible repeat first | apply rA | apply rN | apply rD); exact HO_5.out) hb); have n1_ := Aside0.mk (below_step (by repeat (first | (with_reducible first | exact HB.out | apply bA | apply bN | apply bD) | exact HB.out)) hb); clear HO_5; clear HB; have HO_5 := n0_; have HB := n1_; clear n0_ n1_; (try clear hb); (try clear hb2); (try clear hk); (try clear hi)))
             go_meet
             case rel => exact ⟨_, ((x9_2 != (t339.length : Int))), (by first | rfl | (simp; done) | (simp [*]; done)), H', ⟨by have := HJ15.out; have := HK2.out; have := HJ54.out; first | omega | exact Nat.le_refl _⟩, ⟨by repeat (first | (with_reducible first | exact HB.out | apply bA | apply bN | apply bD) | exact HB.out)⟩⟩
            ·replace c71 := Bool.eq_false_iff.mpr c71
             subst c71
             have H1 : (laws_FnMarks.j4 kj54 l0 false) = some r := by rw [if_neg (show ¬ (false = true) by decide)] at H; exact H
             clear H
             have H := H1
             clear H1
             have H' := Aside0.mk H
             clear H
             go_wp2_with (first | ((with_reducible refine gate_callee (f := 34) rfl ?_); refine goesL_ (some 99) rfl rfl Try.func34 (by kernel_rfl) rfl #[.slice Ao23 t339.length co23] rfl (by (try simp only [mA, mC, mN]); first | done | rfl | (simp only [lD, lT]; rfl)) ?_; (with_reducible refine (impl_AreMarks.calls kj54 _ _ t339 false _ ?side1 ?side2 A70.out).mono ?_); (case side1 => repeat (first | exact (Kd.R_reads' HO_5.out).2.2 | (with_reducible refine Kd.C_alloc ?_ _) | (with_reducible refine Kd.C_drewN ?_ _) | (with_reducible refine Kd.C_drew ?_))); (case side2 => exact (Kd.R_reads' HO_5.out).2.1); rintro e w73 ⟨rfl, hb⟩; refine ⟨_, rfl, ?_⟩; have n0_ := Aside0.mk (Kd.R_below (by (with_reducible repeat first | apply rA | apply rN | apply rD); exact HO_5.out) hb); have n1_ := Aside0.mk (below_step (by repeat (first | (with_reducible first | exact HB.out | apply bA | apply bN | apply bD) | exact HB.out)) hb); clear HO_5; clear HB; have HO_5 := n0_; have HB := n1_; clear n0_ n1_; (try clear hb); (try clear hb2); (try clear hk); (try clear hi)))
             go_meet
             case rel => exact ⟨_, (false), (by first | rfl | (simp; done) | (simp [*]; done)), H', ⟨by have := HJ15.out; have := HK2.out; have := HJ54.out; first | omega | exact Nat.le_refl _⟩, ⟨by repeat (first | (with_reducible first | exact HB.out | apply bA | apply bN | apply bD) | exact HB.out)⟩⟩
           case rest =>
            clear HC69
            try clear c2
            try clear p2
            try clear c3
            try clear p3
            try clear q3
            try clear hx3
            try clear c4
            try clear c5
            try clear c6
            try clear p6
            try clear c7
            try clear c8
            try clear c8b0
            try clear c8b1
            try clear c8b2
            try clear c25
            try clear c25b0
            try clear c25b1
            try clear c27
            try clear c28
            try clear c28b0
            try clear c29
            try clear c29b0
            try clear c29b1
            try clear c29b2
            try clear c30
            try clear c31
            try clear c31b0
            try clear c31b1
            try clear c32
            try clear c33
            try clear c34
            try clear c35
            try clear p35
            try clear q35
            try clear hx35
            try clear c36
            try clear c36b0
            try clear c36b1
            try clear c36b2
            try clear c38
            try clear c38b0
            try clear c38b1
            try clear c43
            try clear c43b0
            try clear c43b1
            try clear c43b2
            try clear c45
            try clear c45b0
            try clear c45b1
            try clear c50
            try clear c50b0
            try clear c50b1
            try clear c50b2
            try clear c51
            try clear c51b0
            try clear c51b1
            try clear c54
            try clear c56
            try clear c56b0
            try clear c59
            try clear c60
            try clear c60b0
            try clear c62
            try clear c62b0
            try clear c63
            try clear c63b0
            try clear c64
            try clear c64b0
            try clear c64b1
            try clear p64
            try clear c71
            try clear hx352_0
            try clear hx352_1
            try clear p2
            try clear p352
            try clear q352
            obtain ⟨kq, x105_68, rfl, HA, HJ68, HB⟩ := hcut
            cases kq with
            | zero => exact absurd HA.out (by simp [laws_FnMarks.j4])
            | succ kj68 =>
             have H := HA.out
             clear HA
             simp only [laws_FnMarks.j4] at H
             by_cases c74 : x105_68 = true
             ·subst c74
              have H1 : (some false) = some r := by rw [if_pos rfl] at H; exact H
              clear H
              have H := H1
              clear H1
              obtain rfl := Option.some.inj H
              go_wp2
              go_ret
              exact ⟨by first | rfl | (simp [errW_none, errW_some] <;> rfl) | (simp [*, errW_none, errW_some] <;> rfl), by repeat (first | (with_reducible first | exact HB.out | apply bA | apply bN | apply bD) | exact HB.out)⟩
             ·replace c74 := Bool.eq_false_iff.mpr c74
              subst c74
              have H1 : ((spec_DrawPutMark.f kj68 l0).bind fun bt354 => ((impl_PutMark.f kj68 bt354.1 bt354.2.1 bt354.2.2).bind fun bt360 => (if bt360.2 = true then ((impl_AreMarks.f kj68 bt360.1).bind fun t364 => (if t364 = true then ((impl_AnswerOf.f kj68 bt360.1 bt354.2.1).bind fun t365 => (if t365 = bt354.2.2 then (some true) else (some false))) else (some false))) else (some ((bt360.1.length : Int) == (bt354.1.length : Int)))))) = some r := by rw [if_neg (show ¬ (false = true) by decide)] at H; exact H
              clear H
              have H := H1
              clear H1
              replace H := Option.bind_eq_some_iff.mp H
              obtain ⟨⟨t354, t357, t358⟩, A750, H⟩ := H
              replace H : ((impl_PutMark.f kj68 t354 t357 t358).bind fun bt360 => (if bt360.2 = true then ((impl_AreMarks.f kj68 bt360.1).bind fun t364 => (if t364 = true then ((impl_AnswerOf.f kj68 bt360.1 t357).bind fun t365 => (if t365 = t358 then (some true) else (some false))) else (some false))) else (some ((bt360.1.length : Int) == (t354.length : Int))))) = some r := H
              have A75 := Aside0.mk A750
              clear A750
              replace H := Option.bind_eq_some_iff.mp H
              obtain ⟨⟨t360, t363⟩, A760, H⟩ := H
              replace H : (if t363 = true then ((impl_AreMarks.f kj68 t360).bind fun t364 => (if t364 = true then ((impl_AnswerOf.f kj68 t360 t357).bind fun t365 => (if t365 = t358 then (some true) else (some false))) else (some false))) else (some ((t360.length : Int) == (t354.length : Int)))) = some r := H
              have A76 := Aside0.mk A760
              clear A760
              by_cases c77 : t363 = true
              ·subst c77
               have H1 : ((impl_AreMarks.f kj68 t360).bind fun t364 => (if t364 = true then ((impl_AnswerOf.f kj68 t360 t357).bind fun t365 => (if t365 = t358 then (some true) else (some false))) else (some false))) = some r := by rw [if_pos rfl] at H; exact H
               clear H
               have H := H1
               clear H1
               replace H := Option.bind_eq_some_iff.mp H
               obtain ⟨t364, A780, H⟩ := H
               replace H : (if t364 = true then ((impl_AnswerOf.f kj68 t360 t357).bind fun t365 => (if t365 = t358 then (some true) else (some false))) else (some false)) = some r := H
               have A78 := Aside0.mk A780
               clear A780
               by_cases c79 : t364 = true
               ·subst c79
                have H1 : ((impl_AnswerOf.f kj68 t360 t357).bind fun t365 => (if t365 = t358 then (some true) else (some false))) = some r := by rw [if_pos rfl] at H; exact H
                clear H
                have H := H1
                clear H1
                replace H := Option.bind_eq_some_iff.mp H
                obtain ⟨t365, A800, H⟩ := H
                replace H : (if t365 = t358 then (some true) else (some false)) = some r := H
                have A80 := Aside0.mk A800
                clear A800
                by_cases c81 : t365 = t358
                ·rw [if_pos c81] at H
                 have c81b0 : (t365 == t358) = true := beq_iff_eq.mpr c81
                 have c81b1 : (t365 != t358) = false := bne_eq_false_iff_eq.mpr c81
                 clear c81
                 obtain rfl := Option.some.inj H
                 try go_wp2_with (first | ((with_reducible refine gate_callee (f := 38) rfl ?_); refine goesL_ (some 108) rfl rfl Try.func38 (by kernel_rfl) rfl #[.slice A0 l0.length c0] rfl (by (try simp only [mA, mC, mN]); first | done | rfl | (simp only [lD, lT]; rfl)) ?_; (with_reducible refine (spec_DrawPutMark.calls kj68 _ _ l0 t354 t357 t358 _ ?side1 ?side2 A75.out).mono ?_); (case side1 => repeat (first | exact (Kd.C_below HR0.out HB.out) | (with_reducible refine Kd.C_alloc ?_ _) | (with_reducible refine Kd.C_drewN ?_ _) | (with_reducible refine Kd.C_drew ?_))); (case side2 => exact HC0.out); rintro e w82 ⟨v355, rfl, ho0, hb⟩; refine ⟨_, rfl, ?_⟩; have n0_ := Aside0.mk (Kd.R_lower ho0 (below_size (by repeat (first | (with_reducible first | exact HB.out | apply bA | apply bN | apply bD) | exact HB.out)))); have n1_ := Aside0.mk (below_step (by repeat (first | (with_reducible first | exact HB.out | apply bA | apply bN | apply bD) | exact HB.out)) hb); clear HB; have HO356 := n0_; have HB := n1_; clear n0_ n1_; (try clear hb); (try clear hb2); (try clear hk); (try clear hi); (try clear ho0)) | ((with_reducible refine gate_dst (N := 13) rfl ?_); (try (refine gate_guard (by rfl) ?_; dsimp only)); refine box_event ?hg (N := 13) ?hd (cs := #[.int .i64 0, .int .i64 0]) (t := 62) ?hr ?_; (case hd => rfl); (case hg => rfl); (case hr => first | (go_simp; done) | (go_simp; rfl)); intro gb359 hg w83 hbox hb; have n0_ := Aside0.mk (Kd.R_below (Kd.R_elderB (by (with_reducible repeat first | apply rA | apply rN | apply rD); exact HO356.out) gb359 (Nat.le_of_eq hg.symm)) hb); have n1_ := Aside0.mk (below_step (by repeat (first | (with_reducible first | exact HB.out | apply bA | apply bN | apply bD) | exact HB.out)) hb); have n2_ := Aside0.mk (hbox); have n3_ := Aside0.mk ((by rw [hg]; exact (below_size (by repeat (first | (with_reducible first | exact HB.out | apply bA | apply bN | apply bD) | exact HB.out))) : w.heap.size ≤ gb359)); have n4_ := Aside0.mk ((by rw [hg]; exact (below_size (by repeat (first | (with_reducible first | exact HB.out | apply bA | apply bN | apply bD) | exact HB.out))) : w.heap.size ≤ gb359)); clear HO356; clear HB; have HO356 := n0_; have HB := n1_; have BK359 := n2_; have GW359 := n3_; have GE359 := n4_; clear n0_ n1_ n2_ n3_ n4_; clear hb hbox hg; have hcz84_0 : w83.cell? ⟨gb359, 0, none⟩ = some (.int .i64 0) := cC BK359 0; have hcz84_1 : w83.cell? ⟨gb359, 1, none⟩ = some (.int .i64 0) := cC BK359 1; have hfz84_0 := blk_frozen BK359.out 0; have hfz84_1 := blk_frozen BK359.out 1; obtain ⟨Ao85, co85, eo85⟩ := Kd.R_slice HO356.out; subst eo85) | ((with_reducible refine gate_callee (f := 39) rfl ?_); refine goesL_ (some 114) rfl rfl Try.func39 (by kernel_rfl) rfl #[.slice Ao85 t354.length co85, .agg #[.int .i64 t357, .int .i64 t358]] rfl (by (try simp only [mA, mC, mN]); first | done | rfl | (simp only [lD, lT]; rfl)) ?_; (with_reducible refine (impl_PutMark.calls kj68 _ _ t354 t357 t358 t360 true _ ?side1 ?side2 A76.out).mono ?_); (case side1 => refine (Kd.R_reads' (e := 62) (base := w.heap.size) (ok := fun k_ => (True ∧ k_ ≠ gb359)) (n := t354.length) (c := co85) ?_).2.2; exact (by (with_reducible repeat first | apply rA | apply rN | apply rD); exact (Kd.R_mono (Kd.R_far (p := ⟨gb359, 1, none⟩) (Kd.R_far (p := ⟨gb359, 0, none⟩) (Kd.R_mono HO356.out (fun k_ hk => (⟨hk, hk.2⟩ : _ ∧ k_ ≠ gb359))) (fun _ hk => hk.2) (.int .i64 t357)) (fun _ hk => hk.2) (.int .i64 t358)) (fun _ h_ => h_.1)))); (case side2 => exact (Kd.R_reads' HO356.out).2.1); rintro e w86 ⟨v361, rfl, ho0, hb⟩; refine ⟨_, rfl, ?_⟩; have n0_ := Aside0.mk (Kd.R_elder' (by (with_reducible repeat first | apply rA | apply rN | apply rD); exact (Kd.R_mono (Kd.R_far (p := ⟨gb359, 1, none⟩) (Kd.R_far (p := ⟨gb359, 0, none⟩) (Kd.R_mono HO356.out (fun k_ hk => (⟨hk, hk.2⟩ : _ ∧ k_ ≠ gb359))) (fun _ hk => hk.2) (.int .i64 t357)) (fun _ hk => hk.2) (.int .i64 t358)) (fun _ h_ => h_.1))) (Kd.R_base ho0) hb); have n1_ := Aside0.mk (Kd.R_lower (Kd.R_newB (Kd.R_new' ho0 (Kd.R_lt (by (with_reducible repeat first | apply rA | apply rN | apply rD); exact (Kd.R_mono (Kd.R_far (p := ⟨gb359, 1, none⟩) (Kd.R_far (p := ⟨gb359, 0, none⟩) (Kd.R_mono HO356.out (fun k_ hk => (⟨hk, hk.2⟩ : _ ∧ k_ ≠ gb359))) (fun _ hk => hk.2) (.int .i64 t357)) (fun _ hk => hk.2) (.int .i64 t358)) (fun _ h_ => h_.1))))) (g := gb359) (o := .cells #[.int .i64 t357, .int .i64 t358] 62 (0, 0)) (by (with_reducible repeat first | refine kN ?_ _ | refine kD ?_ | refine kA ?_ _); refine blk_put (cs := #[.int .i64 t357, .int .i64 0]) ?_ 1 _ rfl; (with_reducible repeat first | refine kN ?_ _ | refine kD ?_ | refine kA ?_ _); refine blk_put (cs := #[.int .i64 0, .int .i64 0]) ?_ 0 _ rfl; (with_reducible repeat first | refine kN ?_ _ | refine kD ?_ | refine kA ?_ _); exact BK359.out)) (below_size (by repeat first | (with_reducible first | exact HB.out | apply bA | apply bN | apply bD | refine bS ?_ GE359.out) | exact HB.out))); have n2_ := Aside0.mk (blk_below (g := gb359) (o := .cells #[.int .i64 t357, .int .i64 t358] 62 (0, 0)) (by (with_reducible repeat first | refine kN ?_ _ | refine kD ?_ | refine kA ?_ _); refine blk_put (cs := #[.int .i64 t357, .int .i64 0]) ?_ 1 _ rfl; (with_reducible repeat first | refine kN ?_ _ | refine kD ?_ | refine kA ?_ _); refine blk_put (cs := #[.int .i64 0, .int .i64 0]) ?_ 0 _ rfl; (with_reducible repeat first | refine kN ?_ _ | refine kD ?_ | refine kA ?_ _); exact BK359.out) hb); have n3_ := Aside0.mk (below_step (by repeat first | (with_reducible first | exact HB.out | apply bA | apply bN | apply bD | refine bS ?_ GE359.out) | exact HB.out) hb); clear HO356; clear BK359; clear HB; have HO356 := n0_; have HO362 := n1_; have BK359 := n2_; have HB := n3_; clear n0_ n1_ n2_ n3_; (try clear hb); (try clear hb2); (try clear hk); (try clear hi); (try clear ho0)))
                 have n0_ := Aside0.mk (Kd.R_drew HO356.out)
                 have n1_ := Aside0.mk (Kd.R_drew HO362.out)
                 have n2_ := Aside0.mk (blk_drew BK359.out)
                 have n3_ := Aside0.mk (below_drew1 HB.out)
                 clear HO356
                 clear HO362
                 clear BK359
                 clear HB
                 have HO356 := n0_
                 have HO362 := n1_
                 have BK359 := n2_
                 have HB := n3_
                 clear n0_ n1_ n2_ n3_
                 obtain ⟨Ao88, co88, eo88⟩ := Kd.R_slice HO362.out
                 (first | subst eo88 | (injection eo88 with f1_ f2_ f3_; have f4_ := f1_.symm; have f5_ := f3_.symm; clear f1_ f2_ f3_; subst f4_; subst f5_))
                 refine start_ (n := 26) (S := fun w' => w'.cell? ⟨gb359, 0, none⟩ = some (.int .i64 t357) ∧ w'.cell? ⟨gb359, 1, none⟩ = some (.int .i64 t358)) (ds := []) (bR [0, 26]) (by kernel_rfl) rfl rfl ⟨cC BK359 0, cC BK359 1⟩ (fun hHeld => ?_); refine with_tabW laws_FnMarks.tab23 laws_FnMarks.bits23 (fun HT_ HW_ => ?_)
                 generalize w86.drew = w87 at HO356 HO362 BK359 HB hHeld ⊢
                 refine pP 0 117 (bR [1, 25]) rfl rfl HT_ ?_
                 refine pP 1 118 (bR [2, 24]) rfl rfl HT_ ?_
                 refine pP 2 119 (bR [3, 23]) rfl rfl HT_ ?_
                 refine one_ (i := 3) (N := some 120) (bR [4, 22]) rfl rfl (one_of HT_.out (by kernel_rfl)) (by decide) (fun K hK => ?_)
                 refine goes_ Try.func34 (by kernel_rfl) rfl #[.slice Ao88 t360.length co88] (by rfl) rfl rfl (by (try simp only [mA, mC, mN]); first | done | rfl | (simp only [lD, lT]; rfl)) ?_
                 with_reducible refine (impl_AreMarks.calls kj68 _ _ t360 true _ ?side1 ?side2 A78.out).mono ?_
                 (case side1 => repeat (first | exact (Kd.R_reads' HO362.out).2.2 | (with_reducible refine Kd.C_alloc ?_ _) | (with_reducible refine Kd.C_drewN ?_ _) | (with_reducible refine Kd.C_drew ?_)))
                 (case side2 => exact (Kd.R_reads' HO362.out).2.1)
                 rintro e w89 ⟨rfl, hb⟩
                 refine ⟨_, rfl, ?_⟩
                 have n0_ := Aside0.mk (Kd.R_below (by (with_reducible repeat first | apply rA | apply rN | apply rD); exact HO356.out) hb)
                 have n1_ := Aside0.mk (Kd.R_below (by (with_reducible repeat first | apply rA | apply rN | apply rD); exact HO362.out) hb)
                 have n2_ := Aside0.mk (blk_below (g := gb359) (o := .cells #[.int .i64 t357, .int .i64 t358] 62 (0, 0)) (by (with_reducible repeat first | refine kN ?_ _ | refine kD ?_ | refine kA ?_ _); exact BK359.out) hb)
                 have n3_ := Aside0.mk (below_step (by repeat first | (with_reducible first | exact HB.out | apply bA | apply bN | apply bD | refine bS ?_ GE359.out) | exact HB.out) hb)
                 clear HO356
                 clear HO362
                 clear BK359
                 clear HB
                 have HO356 := n0_
                 have HO362 := n1_
                 have BK359 := n2_
                 have HB := n3_
                 clear n0_ n1_ n2_ n3_
                 (try clear hb)
                 (try clear hb2)
                 (try clear hk)
                 (try clear hi)
                 refine hK.out _ _ ⟨cC BK359 0, cC BK359 1⟩ (fun hHeld => ?_)
                 clear hK K
                 refine norm_ (a' := ?_) ?_ ?_
                 rotate_left
                 ·show Act.put _ (some 120) _ = _
                  simp only [Act.put, sA, sZ, sS, i64_w]
                  rfl
                 refine pP 4 121 (bR [5, 21]) rfl rfl HT_ ?_
                 refine pP 5 122 (bR [6, 20]) rfl rfl HT_ ?_
                 refine pP 6 123 (bR [7, 19]) rfl rfl HT_ ?_
                 refine pP 7 124 (bR [8, 18]) rfl rfl HT_ ?_
                 refine pP 10 127 (bR [8, 2, 1, 15]) rfl rfl HT_ ?_
                 refine take_ (i := 8) (N := some 125) (v := ?_) (a' := ?_) (bR [9, 1, 1, 15]) rfl rfl (take_ofW HT_.out HW_.out (by kernel_rfl)) (fun _ _ _ h => h) (Or.inl ⟨by rfl, ?_⟩) hHeld ?_ ?_
                 rotate_left; (rintro w' ⟨s0, s1⟩; go_simp; with_reducible rfl); rotate_left; (simp only [Act.put, sA, sZ, sS, i64_w]; rfl)
                 refine take_ (i := 11) (N := some 128) (v := ?_) (a' := ?_) (bR [9, 1, 2, 14]) rfl rfl (take_ofW HT_.out HW_.out (by kernel_rfl)) (fun _ _ _ h => h) (Or.inl ⟨by rfl, ?_⟩) hHeld ?_ ?_
                 rotate_left; (rintro w' ⟨s0, s1⟩; go_simp; with_reducible rfl); rotate_left; (simp only [Act.put, sA, sZ, sS, i64_w]; rfl)
                 refine one_ (i := 9) (N := some 126) (bR [12, 14]) rfl rfl (one_of HT_.out (by kernel_rfl)) (by decide) (fun K hK => ?_)
                 refine goes_ Try.func37 (by kernel_rfl) rfl #[.slice Ao88 t360.length co88, .int .i64 t357] (by rfl) rfl rfl (by (try simp only [mA, mC, mN]); first | done | rfl | (simp only [lD, lT]; rfl)) ?_
                 with_reducible refine (impl_AnswerOf.calls kj68 _ _ t360 t357 t365 _ ?side1 ?side2 A80.out).mono ?_
                 (case side1 => repeat (first | exact (Kd.R_reads' HO362.out).2.2 | (with_reducible refine Kd.C_alloc ?_ _) | (with_reducible refine Kd.C_drewN ?_ _) | (with_reducible refine Kd.C_drew ?_)))
                 (case side2 => exact (Kd.R_reads' HO362.out).2.1)
                 rintro e w90 ⟨rfl, hb⟩
                 refine ⟨_, rfl, ?_⟩
                 have n0_ := Aside0.mk (Kd.R_below (by (with_reducible repeat first | apply rA | apply rN | apply rD); exact HO356.out) hb)
                 have n1_ := Aside0.mk (Kd.R_below (by (with_reducible repeat first | apply rA | apply rN | apply rD); exact HO362.out) hb)
                 have n2_ := Aside0.mk (blk_below (g := gb359) (o := .cells #[.int .i64 t357, .int .i64 t358] 62 (0, 0)) (by (with_reducible repeat first | refine kN ?_ _ | refine kD ?_ | refine kA ?_ _); exact BK359.out) hb)
                 have n3_ := Aside0.mk (below_step (by repeat first | (with_reducible first | exact HB.out | apply bA | apply bN | apply bD | refine bS ?_ GE359.out) | exact HB.out) hb)
                 clear HO356
                 clear HO362
                 clear BK359
                 clear HB
                 have HO356 := n0_
                 have HO362 := n1_
                 have BK359 := n2_
                 have HB := n3_
                 clear n0_ n1_ n2_ n3_
                 (try clear hb)
                 (try clear hb2)
                 (try clear hk)
                 (try clear hi)
                 refine hK.out _ _ ⟨cC BK359 0, cC BK359 1⟩ (fun hHeld => ?_)
                 clear hK K
                 refine norm_ (a' := ?_) ?_ ?_
                 rotate_left
                 ·show Act.put _ (some 126) _ = _
                  simp only [Act.put, sA, sZ, sS, i64_w]
                  rfl
                 refine pP 12 129 (bR [13, 13]) rfl rfl HT_ ?_
                 refine pP 13 130 (bR [14, 12]) rfl rfl HT_ ?_
                 refine pP 14 131 (bR [15, 11]) rfl rfl HT_ ?_
                 refine pU 15 132 (bR [16, 10]) rfl rfl HT_ ?_
                 refine pU 16 133 (bR [17, 9]) rfl rfl HT_ ?_
                 refine pU 17 134 (bR [18, 8]) rfl rfl HT_ ?_
                 refine pU 18 135 (bR [19, 7]) rfl rfl HT_ ?_
                 refine pU 19 136 (bR [20, 6]) rfl rfl HT_ ?_
                 refine pU 20 137 (bR [21, 5]) rfl rfl HT_ ?_
                 refine pU 21 138 (bR [22, 4]) rfl rfl HT_ ?_
                 refine pU 22 139 (bR [23, 3]) rfl rfl HT_ ?_
                 refine pU 23 140 (bR [24, 2]) rfl rfl HT_ ?_
                 refine pP 24 141 (bR [25, 1]) rfl rfl HT_ ?_
                 refine pP 25 2 (bR [26]) rfl rfl HT_ ?_
                 refine done_ (done_of HT_.out (by kernel_rfl)) ?_
                 try go_wp2
                 go_ret
                 exact ⟨by first | rfl | (simp [errW_none, errW_some] <;> rfl) | (simp [*, errW_none, errW_some] <;> rfl), by repeat (first | (with_reducible first | exact HB.out | apply bA | apply bN | apply bD | refine bS ?_ GE359.out) | exact HB.out)⟩
                ·rw [if_neg c81] at H
                 have c81b0 : (t365 == t358) = false := beq_eq_false_iff_ne.mpr c81
                 have c81b1 : (t365 != t358) = true := bne_iff_ne.mpr c81
                 obtain rfl := Option.some.inj H
                 try go_wp2_with (first | ((with_reducible refine gate_callee (f := 38) rfl ?_); refine goesL_ (some 108) rfl rfl Try.func38 (by kernel_rfl) rfl #[.slice A0 l0.length c0] rfl (by (try simp only [mA, mC, mN]); first | done | rfl | (simp only [lD, lT]; rfl)) ?_; (with_reducible refine (spec_DrawPutMark.calls kj68 _ _ l0 t354 t357 t358 _ ?side1 ?side2 A75.out).mono ?_); (case side1 => repeat (first | exact (Kd.C_below HR0.out HB.out) | (with_reducible refine Kd.C_alloc ?_ _) | (with_reducible refine Kd.C_drewN ?_ _) | (with_reducible refine Kd.C_drew ?_))); (case side2 => exact HC0.out); rintro e w91 ⟨v355, rfl, ho0, hb⟩; refine ⟨_, rfl, ?_⟩; have n0_ := Aside0.mk (Kd.R_lower ho0 (below_size (by repeat (first | (with_reducible first | exact HB.out | apply bA | apply bN | apply bD) | exact HB.out)))); have n1_ := Aside0.mk (below_step (by repeat (first | (with_reducible first | exact HB.out | apply bA | apply bN | apply bD) | exact HB.out)) hb); clear HB; have HO356 := n0_; have HB := n1_; clear n0_ n1_; (try clear hb); (try clear hb2); (try clear hk); (try clear hi); (try clear ho0)) | ((with_reducible refine gate_dst (N := 13) rfl ?_); (try (refine gate_guard (by rfl) ?_; dsimp only)); refine box_event ?hg (N := 13) ?hd (cs := #[.int .i64 0, .int .i64 0]) (t := 62) ?hr ?_; (case hd => rfl); (case hg => rfl); (case hr => first | (go_simp; done) | (go_simp; rfl)); intro gb359 hg w92 hbox hb; have n0_ := Aside0.mk (Kd.R_below (Kd.R_elderB (by (with_reducible repeat first | apply rA | apply rN | apply rD); exact HO356.out) gb359 (Nat.le_of_eq hg.symm)) hb); have n1_ := Aside0.mk (below_step (by repeat (first | (with_reducible first | exact HB.out | apply bA | apply bN | apply bD) | exact HB.out)) hb); have n2_ := Aside0.mk (hbox); have n3_ := Aside0.mk ((by rw [hg]; exact (below_size (by repeat (first | (with_reducible first | exact HB.out | apply bA | apply bN | apply bD) | exact HB.out))) : w.heap.size ≤ gb359)); have n4_ := Aside0.mk ((by rw [hg]; exact (below_size (by repeat (first | (with_reducible first | exact HB.out | apply bA | apply bN | apply bD) | exact HB.out))) : w.heap.size ≤ gb359)); clear HO356; clear HB; have HO356 := n0_; have HB := n1_; have BK359 := n2_; have GW359 := n3_; have GE359 := n4_; clear n0_ n1_ n2_ n3_ n4_; clear hb hbox hg; have hcz93_0 : w92.cell? ⟨gb359, 0, none⟩ = some (.int .i64 0) := cC BK359 0; have hcz93_1 : w92.cell? ⟨gb359, 1, none⟩ = some (.int .i64 0) := cC BK359 1; have hfz93_0 := blk_frozen BK359.out 0; have hfz93_1 := blk_frozen BK359.out 1; obtain ⟨Ao94, co94, eo94⟩ := Kd.R_slice HO356.out; subst eo94) | ((with_reducible refine gate_callee (f := 39) rfl ?_); refine goesL_ (some 114) rfl rfl Try.func39 (by kernel_rfl) rfl #[.slice Ao94 t354.length co94, .agg #[.int .i64 t357, .int .i64 t358]] rfl (by (try simp only [mA, mC, mN]); first | done | rfl | (simp only [lD, lT]; rfl)) ?_; (with_reducible refine (impl_PutMark.calls kj68 _ _ t354 t357 t358 t360 true _ ?side1 ?side2 A76.out).mono ?_); (case side1 => refine (Kd.R_reads' (e := 62) (base := w.heap.size) (ok := fun k_ => (True ∧ k_ ≠ gb359)) (n := t354.length) (c := co94) ?_).2.2; exact (by (with_reducible repeat first | apply rA | apply rN | apply rD); exact (Kd.R_mono (Kd.R_far (p := ⟨gb359, 1, none⟩) (Kd.R_far (p := ⟨gb359, 0, none⟩) (Kd.R_mono HO356.out (fun k_ hk => (⟨hk, hk.2⟩ : _ ∧ k_ ≠ gb359))) (fun _ hk => hk.2) (.int .i64 t357)) (fun _ hk => hk.2) (.int .i64 t358)) (fun _ h_ => h_.1)))); (case side2 => exact (Kd.R_reads' HO356.out).2.1); rintro e w95 ⟨v361, rfl, ho0, hb⟩; refine ⟨_, rfl, ?_⟩; have n0_ := Aside0.mk (Kd.R_elder' (by (with_reducible repeat first | apply rA | apply rN | apply rD); exact (Kd.R_mono (Kd.R_far (p := ⟨gb359, 1, none⟩) (Kd.R_far (p := ⟨gb359, 0, none⟩) (Kd.R_mono HO356.out (fun k_ hk => (⟨hk, hk.2⟩ : _ ∧ k_ ≠ gb359))) (fun _ hk => hk.2) (.int .i64 t357)) (fun _ hk => hk.2) (.int .i64 t358)) (fun _ h_ => h_.1))) (Kd.R_base ho0) hb); have n1_ := Aside0.mk (Kd.R_lower (Kd.R_newB (Kd.R_new' ho0 (Kd.R_lt (by (with_reducible repeat first | apply rA | apply rN | apply rD); exact (Kd.R_mono (Kd.R_far (p := ⟨gb359, 1, none⟩) (Kd.R_far (p := ⟨gb359, 0, none⟩) (Kd.R_mono HO356.out (fun k_ hk => (⟨hk, hk.2⟩ : _ ∧ k_ ≠ gb359))) (fun _ hk => hk.2) (.int .i64 t357)) (fun _ hk => hk.2) (.int .i64 t358)) (fun _ h_ => h_.1))))) (g := gb359) (o := .cells #[.int .i64 t357, .int .i64 t358] 62 (0, 0)) (by (with_reducible repeat first | refine kN ?_ _ | refine kD ?_ | refine kA ?_ _); refine blk_put (cs := #[.int .i64 t357, .int .i64 0]) ?_ 1 _ rfl; (with_reducible repeat first | refine kN ?_ _ | refine kD ?_ | refine kA ?_ _); refine blk_put (cs := #[.int .i64 0, .int .i64 0]) ?_ 0 _ rfl; (with_reducible repeat first | refine kN ?_ _ | refine kD ?_ | refine kA ?_ _); exact BK359.out)) (below_size (by repeat first | (with_reducible first | exact HB.out | apply bA | apply bN | apply bD | refine bS ?_ GE359.out) | exact HB.out))); have n2_ := Aside0.mk (blk_below (g := gb359) (o := .cells #[.int .i64 t357, .int .i64 t358] 62 (0, 0)) (by (with_reducible repeat first | refine kN ?_ _ | refine kD ?_ | refine kA ?_ _); refine blk_put (cs := #[.int .i64 t357, .int .i64 0]) ?_ 1 _ rfl; (with_reducible repeat first | refine kN ?_ _ | refine kD ?_ | refine kA ?_ _); refine blk_put (cs := #[.int .i64 0, .int .i64 0]) ?_ 0 _ rfl; (with_reducible repeat first | refine kN ?_ _ | refine kD ?_ | refine kA ?_ _); exact BK359.out) hb); have n3_ := Aside0.mk (below_step (by repeat first | (with_reducible first | exact HB.out | apply bA | apply bN | apply bD | refine bS ?_ GE359.out) | exact HB.out) hb); clear HO356; clear BK359; clear HB; have HO356 := n0_; have HO362 := n1_; have BK359 := n2_; have HB := n3_; clear n0_ n1_ n2_ n3_; (try clear hb); (try clear hb2); (try clear hk); (try clear hi); (try clear ho0)))
                 have n0_ := Aside0.mk (Kd.R_drew HO356.out)
                 have n1_ := Aside0.mk (Kd.R_drew HO362.out)
                 have n2_ := Aside0.mk (blk_drew BK359.out)
                 have n3_ := Aside0.mk (below_drew1 HB.out)
                 clear HO356
                 clear HO362
                 clear BK359
                 clear HB
                 have HO356 := n0_
                 have HO362 := n1_
                 have BK359 := n2_
                 have HB := n3_
                 clear n0_ n1_ n2_ n3_
                 obtain ⟨Ao97, co97, eo97⟩ := Kd.R_slice HO362.out
                 (first | subst eo97 | (injection eo97 with f1_ f2_ f3_; have f4_ := f1_.symm; have f5_ := f3_.symm; clear f1_ f2_ f3_; subst f4_; subst f5_))
                 refine start_ (n := 26) (S := fun w' => w'.cell? ⟨gb359, 0, none⟩ = some (.int .i64 t357) ∧ w'.cell? ⟨gb359, 1, none⟩ = some (.int .i64 t358)) (ds := []) (bR [0, 26]) (by kernel_rfl) rfl rfl ⟨cC BK359 0, cC BK359 1⟩ (fun hHeld => ?_); refine with_tabW laws_FnMarks.tab23 laws_FnMarks.bits23 (fun HT_ HW_ => ?_)
                 generalize w95.drew = w96 at HO356 HO362 BK359 HB hHeld ⊢
                 refine pP 0 117 (bR [1, 25]) rfl rfl HT_ ?_
                 refine pP 1 118 (bR [2, 24]) rfl rfl HT_ ?_
                 refine pP 2 119 (bR [3, 23]) rfl rfl HT_ ?_
                 refine one_ (i := 3) (N := some 120) (bR [4, 22]) rfl rfl (one_of HT_.out (by kernel_rfl)) (by decide) (fun K hK => ?_)
                 refine goes_ Try.func34 (by kernel_rfl) rfl #[.slice Ao97 t360.length co97] (by rfl) rfl rfl (by (try simp only [mA, mC, mN]); first | done | rfl | (simp only [lD, lT]; rfl)) ?_
                 with_reducible refine (impl_AreMarks.calls kj68 _ _ t360 true _ ?side1 ?side2 A78.out).mono ?_
                 (case side1 => repeat (first | exact (Kd.R_reads' HO362.out).2.2 | (with_reducible refine Kd.C_alloc ?_ _) | (with_reducible refine Kd.C_drewN ?_ _) | (with_reducible refine Kd.C_drew ?_)))
                 (case side2 => exact (Kd.R_reads' HO362.out).2.1)
                 rintro e w98 ⟨rfl, hb⟩
                 refine ⟨_, rfl, ?_⟩
                 have n0_ := Aside0.mk (Kd.R_below (by (with_reducible repeat first | apply rA | apply rN | apply rD); exact HO356.out) hb)
                 have n1_ := Aside0.mk (Kd.R_below (by (with_reducible repeat first | apply rA | apply rN | apply rD); exact HO362.out) hb)
                 have n2_ := Aside0.mk (blk_below (g := gb359) (o := .cells #[.int .i64 t357, .int .i64 t358] 62 (0, 0)) (by (with_reducible repeat first | refine kN ?_ _ | refine kD ?_ | refine kA ?_ _); exact BK359.out) hb)
                 have n3_ := Aside0.mk (below_step (by repeat first | (with_reducible first | exact HB.out | apply bA | apply bN | apply bD | refine bS ?_ GE359.out) | exact HB.out) hb)
                 clear HO356
                 clear HO362
                 clear BK359
                 clear HB
                 have HO356 := n0_
                 have HO362 := n1_
                 have BK359 := n2_
                 have HB := n3_
                 clear n0_ n1_ n2_ n3_
                 (try clear hb)
                 (try clear hb2)
                 (try clear hk)
                 (try clear hi)
                 refine hK.out _ _ ⟨cC BK359 0, cC BK359 1⟩ (fun hHeld => ?_)
                 clear hK K
                 refine norm_ (a' := ?_) ?_ ?_
                 rotate_left
                 ·show Act.put _ (some 120) _ = _
                  simp only [Act.put, sA, sZ, sS, i64_w]
                  rfl
                 refine pP 4 121 (bR [5, 21]) rfl rfl HT_ ?_
                 refine pP 5 122 (bR [6, 20]) rfl rfl HT_ ?_
                 refine pP 6 123 (bR [7, 19]) rfl rfl HT_ ?_
                 refine pP 7 124 (bR [8, 18]) rfl rfl HT_ ?_
                 refine pP 10 127 (bR [8, 2, 1, 15]) rfl rfl HT_ ?_
                 refine take_ (i := 8) (N := some 125) (v := ?_) (a' := ?_) (bR [9, 1, 1, 15]) rfl rfl (take_ofW HT_.out HW_.out (by kernel_rfl)) (fun _ _ _ h => h) (Or.inl ⟨by rfl, ?_⟩) hHeld ?_ ?_
                 rotate_left; (rintro w' ⟨s0, s1⟩; go_simp; with_reducible rfl); rotate_left; (simp only [Act.put, sA, sZ, sS, i64_w]; rfl)
                 refine take_ (i := 11) (N := some 128) (v := ?_) (a' := ?_) (bR [9, 1, 2, 14]) rfl rfl (take_ofW HT_.out HW_.out (by kernel_rfl)) (fun _ _ _ h => h) (Or.inl ⟨by rfl, ?_⟩) hHeld ?_ ?_
                 rotate_left; (rintro w' ⟨s0, s1⟩; go_simp; with_reducible rfl); rotate_left; (simp only [Act.put, sA, sZ, sS, i64_w]; rfl)
                 refine one_ (i := 9) (N := some 126) (bR [12, 14]) rfl rfl (one_of HT_.out (by kernel_rfl)) (by decide) (fun K hK => ?_)
                 refine goes_ Try.func37 (by kernel_rfl) rfl #[.slice Ao97 t360.length co97, .int .i64 t357] (by rfl) rfl rfl (by (try simp only [mA, mC, mN]); first | done | rfl | (simp only [lD, lT]; rfl)) ?_
                 with_reducible refine (impl_AnswerOf.calls kj68 _ _ t360 t357 t365 _ ?side1 ?side2 A80.out).mono ?_
                 (case side1 => repeat (first | exact (Kd.R_reads' HO362.out).2.2 | (with_reducible refine Kd.C_alloc ?_ _) | (with_reducible refine Kd.C_drewN ?_ _) | (with_reducible refine Kd.C_drew ?_)))
                 (case side2 => exact (Kd.R_reads' HO362.out).2.1)
                 rintro e w99 ⟨rfl, hb⟩
                 refine ⟨_, rfl, ?_⟩
                 have n0_ := Aside0.mk (Kd.R_below (by (with_reducible repeat first | apply rA | apply rN | apply rD); exact HO356.out) hb)
                 have n1_ := Aside0.mk (Kd.R_below (by (with_reducible repeat first | apply rA | apply rN | apply rD); exact HO362.out) hb)
                 have n2_ := Aside0.mk (blk_below (g := gb359) (o := .cells #[.int .i64 t357, .int .i64 t358] 62 (0, 0)) (by (with_reducible repeat first | refine kN ?_ _ | refine kD ?_ | refine kA ?_ _); exact BK359.out) hb)
                 have n3_ := Aside0.mk (below_step (by repeat first | (with_reducible first | exact HB.out | apply bA | apply bN | apply bD | refine bS ?_ GE359.out) | exact HB.out) hb)
                 clear HO356
                 clear HO362
                 clear BK359
                 clear HB
                 have HO356 := n0_
                 have HO362 := n1_
                 have BK359 := n2_
                 have HB := n3_
                 clear n0_ n1_ n2_ n3_
                 (try clear hb)
                 (try clear hb2)
                 (try clear hk)
                 (try clear hi)
                 refine hK.out _ _ ⟨cC BK359 0, cC BK359 1⟩ (fun hHeld => ?_)
                 clear hK K
                 refine norm_ (a' := ?_) ?_ ?_
                 rotate_left
                 ·show Act.put _ (some 126) _ = _
                  simp only [Act.put, sA, sZ, sS, i64_w]
                  rfl
                 refine pP 12 129 (bR [13, 13]) rfl rfl HT_ ?_
                 refine pP 13 130 (bR [14, 12]) rfl rfl HT_ ?_
                 refine pP 14 131 (bR [15, 11]) rfl rfl HT_ ?_
                 refine pP 15 132 (bR [16, 10]) rfl rfl HT_ ?_
                 refine pP 16 133 (bR [17, 9]) rfl rfl HT_ ?_
                 refine pP 17 134 (bR [18, 8]) rfl rfl HT_ ?_
                 refine pU 18 135 (bR [19, 7]) rfl rfl HT_ ?_
                 refine pU 19 136 (bR [20, 6]) rfl rfl HT_ ?_
                 refine pU 20 137 (bR [21, 5]) rfl rfl HT_ ?_
                 refine pU 21 138 (bR [22, 4]) rfl rfl HT_ ?_
                 refine pU 22 139 (bR [23, 3]) rfl rfl HT_ ?_
                 refine pP 23 140 (bR [24, 2]) rfl rfl HT_ ?_
                 refine pP 24 141 (bR [25, 1]) rfl rfl HT_ ?_
                 refine pP 25 2 (bR [26]) rfl rfl HT_ ?_
                 refine done_ (done_of HT_.out (by kernel_rfl)) ?_
                 try go_wp2
                 go_ret
                 exact ⟨by first | rfl | (simp [errW_none, errW_some] <;> rfl) | (simp [*, errW_none, errW_some] <;> rfl), by repeat (first | (with_reducible first | exact HB.out | apply bA | apply bN | apply bD | refine bS ?_ GE359.out) | exact HB.out)⟩
               ·replace c79 := Bool.eq_false_iff.mpr c79
                subst c79
                have H1 : (some false) = some r := by rw [if_neg (show ¬ (false = true) by decide)] at H; exact H
                clear H
                have H := H1
                clear H1
                obtain rfl := Option.some.inj H
                try go_wp2_with (first | ((with_reducible refine gate_callee (f := 38) rfl ?_); refine goesL_ (some 108) rfl rfl Try.func38 (by kernel_rfl) rfl #[.slice A0 l0.length c0] rfl (by (try simp only [mA, mC, mN]); first | done | rfl | (simp only [lD, lT]; rfl)) ?_; (with_reducible refine (spec_DrawPutMark.calls kj68 _ _ l0 t354 t357 t358 _ ?side1 ?side2 A75.out).mono ?_); (case side1 => repeat (first | exact (Kd.C_below HR0.out HB.out) | (with_reducible refine Kd.C_alloc ?_ _) | (with_reducible refine Kd.C_drewN ?_ _) | (with_reducible refine Kd.C_drew ?_))); (case side2 => exact HC0.out); rintro e w100 ⟨v355, rfl, ho0, hb⟩; refine ⟨_, rfl, ?_⟩; have n0_ := Aside0.mk (Kd.R_lower ho0 (below_size (by repeat (first | (with_reducible first | exact HB.out | apply bA | apply bN | apply bD) | exact HB.out)))); have n1_ := Aside0.mk (below_step (by repeat (first | (with_reducible first | exact HB.out | apply bA | apply bN | apply bD) | exact HB.out)) hb); clear HB; have HO356 := n0_; have HB := n1_; clear n0_ n1_; (try clear hb); (try clear hb2); (try clear hk); (try clear hi); (try clear ho0)) | ((with_reducible refine gate_dst (N := 13) rfl ?_); (try (refine gate_guard (by rfl) ?_; dsimp only)); refine box_event ?hg (N := 13) ?hd (cs := #[.int .i64 0, .int .i64 0]) (t := 62) ?hr ?_; (case hd => rfl); (case hg => rfl); (case hr => first | (go_simp; done) | (go_simp; rfl)); intro gb359 hg w101 hbox hb; have n0_ := Aside0.mk (Kd.R_below (Kd.R_elderB (by (with_reducible repeat first | apply rA | apply rN | apply rD); exact HO356.out) gb359 (Nat.le_of_eq hg.symm)) hb); have n1_ := Aside0.mk (below_step (by repeat (first | (with_reducible first | exact HB.out | apply bA | apply bN | apply bD) | exact HB.out)) hb); have n2_ := Aside0.mk (hbox); have n3_ := Aside0.mk ((by rw [hg]; exact (below_size (by repeat (first | (with_reducible first | exact HB.out | apply bA | apply bN | apply bD) | exact HB.out))) : w.heap.size ≤ gb359)); have n4_ := Aside0.mk ((by rw [hg]; exact (below_size (by repeat (first | (with_reducible first | exact HB.out | apply bA | apply bN | apply bD) | exact HB.out))) : w.heap.size ≤ gb359)); clear HO356; clear HB; have HO356 := n0_; have HB := n1_; have BK359 := n2_; have GW359 := n3_; have GE359 := n4_; clear n0_ n1_ n2_ n3_ n4_; clear hb hbox hg; have hcz102_0 : w101.cell? ⟨gb359, 0, none⟩ = some (.int .i64 0) := cC BK359 0; have hcz102_1 : w101.cell? ⟨gb359, 1, none⟩ = some (.int .i64 0) := cC BK359 1; have hfz102_0 := blk_frozen BK359.out 0; have hfz102_1 := blk_frozen BK359.out 1; obtain ⟨Ao103, co103, eo103⟩ := Kd.R_slice HO356.out; subst eo103) | ((with_reducible refine gate_callee (f := 39) rfl ?_); refine goesL_ (some 114) rfl rfl Try.func39 (by kernel_rfl) rfl #[.slice Ao103 t354.length co103, .agg #[.int .i64 t357, .int .i64 t358]] rfl (by (try simp only [mA, mC, mN]); first | done | rfl | (simp only [lD, lT]; rfl)) ?_; (with_reducible refine (impl_PutMark.calls kj68 _ _ t354 t357 t358 t360 true _ ?side1 ?side2 A76.out).mono ?_); (case side1 => refine (Kd.R_reads' (e := 62) (base := w.heap.size) (ok := fun k_ => (True ∧ k_ ≠ gb359)) (n := t354.length) (c := co103) ?_).2.2; exact (by (with_reducible repeat first | apply rA | apply rN | apply rD); exact (Kd.R_mono (Kd.R_far (p := ⟨gb359, 1, none⟩) (Kd.R_far (p := ⟨gb359, 0, none⟩) (Kd.R_mono HO356.out (fun k_ hk => (⟨hk, hk.2⟩ : _ ∧ k_ ≠ gb359))) (fun _ hk => hk.2) (.int .i64 t357)) (fun _ hk => hk.2) (.int .i64 t358)) (fun _ h_ => h_.1)))); (case side2 => exact (Kd.R_reads' HO356.out).2.1); rintro e w104 ⟨v361, rfl, ho0, hb⟩; refine ⟨_, rfl, ?_⟩; have n0_ := Aside0.mk (Kd.R_elder' (by (with_reducible repeat first | apply rA | apply rN | apply rD); exact (Kd.R_mono (Kd.R_far (p := ⟨gb359, 1, none⟩) (Kd.R_far (p := ⟨gb359, 0, none⟩) (Kd.R_mono HO356.out (fun k_ hk => (⟨hk, hk.2⟩ : _ ∧ k_ ≠ gb359))) (fun _ hk => hk.2) (.int .i64 t357)) (fun _ hk => hk.2) (.int .i64 t358)) (fun _ h_ => h_.1))) (Kd.R_base ho0) hb); have n1_ := Aside0.mk (Kd.R_lower (Kd.R_newB (Kd.R_new' ho0 (Kd.R_lt (by (with_reducible repeat first | apply rA | apply rN | apply rD); exact (Kd.R_mono (Kd.R_far (p := ⟨gb359, 1, none⟩) (Kd.R_far (p := ⟨gb359, 0, none⟩) (Kd.R_mono HO356.out (fun k_ hk => (⟨hk, hk.2⟩ : _ ∧ k_ ≠ gb359))) (fun _ hk => hk.2) (.int .i64 t357)) (fun _ hk => hk.2) (.int .i64 t358)) (fun _ h_ => h_.1))))) (g := gb359) (o := .cells #[.int .i64 t357, .int .i64 t358] 62 (0, 0)) (by (with_reducible repeat first | refine kN ?_ _ | refine kD ?_ | refine kA ?_ _); refine blk_put (cs := #[.int .i64 t357, .int .i64 0]) ?_ 1 _ rfl; (with_reducible repeat first | refine kN ?_ _ | refine kD ?_ | refine kA ?_ _); refine blk_put (cs := #[.int .i64 0, .int .i64 0]) ?_ 0 _ rfl; (with_reducible repeat first | refine kN ?_ _ | refine kD ?_ | refine kA ?_ _); exact BK359.out)) (below_size (by repeat first | (with_reducible first | exact HB.out | apply bA | apply bN | apply bD | refine bS ?_ GE359.out) | exact HB.out))); have n2_ := Aside0.mk (blk_below (g := gb359) (o := .cells #[.int .i64 t357, .int .i64 t358] 62 (0, 0)) (by (with_reducible repeat first | refine kN ?_ _ | refine kD ?_ | refine kA ?_ _); refine blk_put (cs := #[.int .i64 t357, .int .i64 0]) ?_ 1 _ rfl; (with_reducible repeat first | refine kN ?_ _ | refine kD ?_ | refine kA ?_ _); refine blk_put (cs := #[.int .i64 0, .int .i64 0]) ?_ 0 _ rfl; (with_reducible repeat first | refine kN ?_ _ | refine kD ?_ | refine kA ?_ _); exact BK359.out) hb); have n3_ := Aside0.mk (below_step (by repeat first | (with_reducible first | exact HB.out | apply bA | apply bN | apply bD | refine bS ?_ GE359.out) | exact HB.out) hb); clear HO356; clear BK359; clear HB; have HO356 := n0_; have HO362 := n1_; have BK359 := n2_; have HB := n3_; clear n0_ n1_ n2_ n3_; (try clear hb); (try clear hb2); (try clear hk); (try clear hi); (try clear ho0)))
                have n0_ := Aside0.mk (Kd.R_drew HO356.out)
                have n1_ := Aside0.mk (Kd.R_drew HO362.out)
                have n2_ := Aside0.mk (blk_drew BK359.out)
                have n3_ := Aside0.mk (below_drew1 HB.out)
                clear HO356
                clear HO362
                clear BK359
                clear HB
                have HO356 := n0_
                have HO362 := n1_
                have BK359 := n2_
                have HB := n3_
                clear n0_ n1_ n2_ n3_
                obtain ⟨Ao106, co106, eo106⟩ := Kd.R_slice HO362.out
                (first | subst eo106 | (injection eo106 with f1_ f2_ f3_; have f4_ := f1_.symm; have f5_ := f3_.symm; clear f1_ f2_ f3_; subst f4_; subst f5_))
                refine start_ (n := 26) (S := fun w' => True) (ds := []) (bR [0, 26]) (by kernel_rfl) rfl rfl trivial (fun hHeld => ?_); refine with_tabW laws_FnMarks.tab23 laws_FnMarks.bits23 (fun HT_ HW_ => ?_)
                generalize w104.drew = w105 at HO356 HO362 BK359 HB hHeld ⊢
                refine pP 0 117 (bR [1, 25]) rfl rfl HT_ ?_
                refine pP 1 118 (bR [2, 24]) rfl rfl HT_ ?_
                refine pP 2 119 (bR [3, 23]) rfl rfl HT_ ?_
                refine one_ (i := 3) (N := some 120) (bR [4, 22]) rfl rfl (one_of HT_.out (by kernel_rfl)) (by decide) (fun K hK => ?_)
                refine goes_ Try.func34 (by kernel_rfl) rfl #[.slice Ao106 t360.length co106] (by rfl) rfl rfl (by (try simp only [mA, mC, mN]); first | done | rfl | (simp only [lD, lT]; rfl)) ?_
                with_reducible refine (impl_AreMarks.calls kj68 _ _ t360 false _ ?side1 ?side2 A78.out).mono ?_
                (case side1 => repeat (first | exact (Kd.R_reads' HO362.out).2.2 | (with_reducible refine Kd.C_alloc ?_ _) | (with_reducible refine Kd.C_drewN ?_ _) | (with_reducible refine Kd.C_drew ?_)))
                (case side2 => exact (Kd.R_reads' HO362.out).2.1)
                rintro e w107 ⟨rfl, hb⟩
                refine ⟨_, rfl, ?_⟩
                have n0_ := Aside0.mk (Kd.R_below (by (with_reducible repeat first | apply rA | apply rN | apply rD); exact HO356.out) hb)
                have n1_ := Aside0.mk (Kd.R_below (by (with_reducible repeat first | apply rA | apply rN | apply rD); exact HO362.out) hb)
                have n2_ := Aside0.mk (blk_below (g := gb359) (o := .cells #[.int .i64 t357, .int .i64 t358] 62 (0, 0)) (by (with_reducible repeat first | refine kN ?_ _ | refine kD ?_ | refine kA ?_ _); exact BK359.out) hb)
                have n3_ := Aside0.mk (below_step (by repeat first | (with_reducible first | exact HB.out | apply bA | apply bN | apply bD | refine bS ?_ GE359.out) | exact HB.out) hb)
                clear HO356
                clear HO362
                clear BK359
                clear HB
                have HO356 := n0_
                have HO362 := n1_
                have BK359 := n2_
                have HB := n3_
                clear n0_ n1_ n2_ n3_
                (try clear hb)
                (try clear hb2)
                (try clear hk)
                (try clear hi)
                refine hK.out _ _ trivial (fun hHeld => ?_)
                clear hK K
                refine norm_ (a' := ?_) ?_ ?_
                rotate_left
                ·show Act.put _ (some 120) _ = _
                 simp only [Act.put, sA, sZ, sS, i64_w]
                 rfl
                refine pP 4 121 (bR [5, 21]) rfl rfl HT_ ?_
                refine pP 5 122 (bR [6, 20]) rfl rfl HT_ ?_
                refine pU 6 123 (bR [7, 19]) rfl rfl HT_ ?_
                refine pU 7 124 (bR [8, 18]) rfl rfl HT_ ?_
                refine pU 8 125 (bR [9, 17]) rfl rfl HT_ ?_
                refine pU 9 126 (bR [10, 16]) rfl rfl HT_ ?_
                refine pU 10 127 (bR [11, 15]) rfl rfl HT_ ?_
                refine pU 11 128 (bR [12, 14]) rfl rfl HT_ ?_
                refine pU 12 129 (bR [13, 13]) rfl rfl HT_ ?_
                refine pP 13 130 (bR [14, 12]) rfl rfl HT_ ?_
                refine pP 14 131 (bR [15, 11]) rfl rfl HT_ ?_
                refine pP 15 132 (bR [16, 10]) rfl rfl HT_ ?_
                refine pP 16 133 (bR [17, 9]) rfl rfl HT_ ?_
                refine pP 17 134 (bR [18, 8]) rfl rfl HT_ ?_
                refine pU 18 135 (bR [19, 7]) rfl rfl HT_ ?_
                refine pU 19 136 (bR [20, 6]) rfl rfl HT_ ?_
                refine pU 20 137 (bR [21, 5]) rfl rfl HT_ ?_
                refine pU 21 138 (bR [22, 4]) rfl rfl HT_ ?_
                refine pU 22 139 (bR [23, 3]) rfl rfl HT_ ?_
                refine pP 23 140 (bR [24, 2]) rfl rfl HT_ ?_
                refine pP 24 141 (bR [25, 1]) rfl rfl HT_ ?_
                refine pP 25 2 (bR [26]) rfl rfl HT_ ?_
                refine done_ (done_of HT_.out (by kernel_rfl)) ?_
                try go_wp2
                go_ret
                exact ⟨by first | rfl | (simp [errW_none, errW_some] <;> rfl) | (simp [*, errW_none, errW_some] <;> rfl), by repeat (first | (with_reducible first | exact HB.out | apply bA | apply bN | apply bD | refine bS ?_ GE359.out) | exact HB.out)⟩
              ·replace c77 := Bool.eq_false_iff.mpr c77
               subst c77
               have H1 : (some ((t360.length : Int) == (t354.length : Int))) = some r := by rw [if_neg (show ¬ (false = true) by decide)] at H; exact H
               clear H
               have H := H1
               clear H1
               obtain rfl := Option.some.inj H
               try go_wp2_with (first | ((with_reducible refine gate_callee (f := 38) rfl ?_); refine goesL_ (some 108) rfl rfl Try.func38 (by kernel_rfl) rfl #[.slice A0 l0.length c0] rfl (by (try simp only [mA, mC, mN]); first | done | rfl | (simp only [lD, lT]; rfl)) ?_; (with_reducible refine (spec_DrawPutMark.calls kj68 _ _ l0 t354 t357 t358 _ ?side1 ?side2 A75.out).mono ?_); (case side1 => repeat (first | exact (Kd.C_below HR0.out HB.out) | (with_reducible refine Kd.C_alloc ?_ _) | (with_reducible refine Kd.C_drewN ?_ _) | (with_reducible refine Kd.C_drew ?_))); (case side2 => exact HC0.out); rintro e w108 ⟨v355, rfl, ho0, hb⟩; refine ⟨_, rfl, ?_⟩; have n0_ := Aside0.mk (Kd.R_lower ho0 (below_size (by repeat (first | (with_reducible first | exact HB.out | apply bA | apply bN | apply bD) | exact HB.out)))); have n1_ := Aside0.mk (below_step (by repeat (first | (with_reducible first | exact HB.out | apply bA | apply bN | apply bD) | exact HB.out)) hb); clear HB; have HO356 := n0_; have HB := n1_; clear n0_ n1_; (try clear hb); (try clear hb2); (try clear hk); (try clear hi); (try clear ho0)) | ((with_reducible refine gate_dst (N := 13) rfl ?_); (try (refine gate_guard (by rfl) ?_; dsimp only)); refine box_event ?hg (N := 13) ?hd (cs := #[.int .i64 0, .int .i64 0]) (t := 62) ?hr ?_; (case hd => rfl); (case hg => rfl); (case hr => first | (go_simp; done) | (go_simp; rfl)); intro gb359 hg w109 hbox hb; have n0_ := Aside0.mk (Kd.R_below (Kd.R_elderB (by (with_reducible repeat first | apply rA | apply rN | apply rD); exact HO356.out) gb359 (Nat.le_of_eq hg.symm)) hb); have n1_ := Aside0.mk (below_step (by repeat (first | (with_reducible first | exact HB.out | apply bA | apply bN | apply bD) | exact HB.out)) hb); have n2_ := Aside0.mk (hbox); have n3_ := Aside0.mk ((by rw [hg]; exact (below_size (by repeat (first | (with_reducible first | exact HB.out | apply bA | apply bN | apply bD) | exact HB.out))) : w.heap.size ≤ gb359)); have n4_ := Aside0.mk ((by rw [hg]; exact (below_size (by repeat (first | (with_reducible first | exact HB.out | apply bA | apply bN | apply bD) | exact HB.out))) : w.heap.size ≤ gb359)); clear HO356; clear HB; have HO356 := n0_; have HB := n1_; have BK359 := n2_; have GW359 := n3_; have GE359 := n4_; clear n0_ n1_ n2_ n3_ n4_; clear hb hbox hg; have hcz110_0 : w109.cell? ⟨gb359, 0, none⟩ = some (.int .i64 0) := cC BK359 0; have hcz110_1 : w109.cell? ⟨gb359, 1, none⟩ = some (.int .i64 0) := cC BK359 1; have hfz110_0 := blk_frozen BK359.out 0; have hfz110_1 := blk_frozen BK359.out 1; obtain ⟨Ao111, co111, eo111⟩ := Kd.R_slice HO356.out; subst eo111) | ((with_reducible refine gate_callee (f := 39) rfl ?_); refine goesL_ (some 114) rfl rfl Try.func39 (by kernel_rfl) rfl #[.slice Ao111 t354.length co111, .agg #[.int .i64 t357, .int .i64 t358]] rfl (by (try simp only [mA, mC, mN]); first | done | rfl | (simp only [lD, lT]; rfl)) ?_; (with_reducible refine (impl_PutMark.calls kj68 _ _ t354 t357 t358 t360 false _ ?side1 ?side2 A76.out).mono ?_); (case side1 => refine (Kd.R_reads' (e := 62) (base := w.heap.size) (ok := fun k_ => (True ∧ k_ ≠ gb359)) (n := t354.length) (c := co111) ?_).2.2; exact (by (with_reducible repeat first | apply rA | apply rN | apply rD); exact (Kd.R_mono (Kd.R_far (p := ⟨gb359, 1, none⟩) (Kd.R_far (p := ⟨gb359, 0, none⟩) (Kd.R_mono HO356.out (fun k_ hk => (⟨hk, hk.2⟩ : _ ∧ k_ ≠ gb359))) (fun _ hk => hk.2) (.int .i64 t357)) (fun _ hk => hk.2) (.int .i64 t358)) (fun _ h_ => h_.1)))); (case side2 => exact (Kd.R_reads' HO356.out).2.1); rintro e w112 ⟨v361, rfl, ho0, hb⟩; refine ⟨_, rfl, ?_⟩; have n0_ := Aside0.mk (Kd.R_elder' (by (with_reducible repeat first | apply rA | apply rN | apply rD); exact (Kd.R_mono (Kd.R_far (p := ⟨gb359, 1, none⟩) (Kd.R_far (p := ⟨gb359, 0, none⟩) (Kd.R_mono HO356.out (fun k_ hk => (⟨hk, hk.2⟩ : _ ∧ k_ ≠ gb359))) (fun _ hk => hk.2) (.int .i64 t357)) (fun _ hk => hk.2) (.int .i64 t358)) (fun _ h_ => h_.1))) (Kd.R_base ho0) hb); have n1_ := Aside0.mk (Kd.R_lower (Kd.R_newB (Kd.R_new' ho0 (Kd.R_lt (by (with_reducible repeat first | apply rA | apply rN | apply rD); exact (Kd.R_mono (Kd.R_far (p := ⟨gb359, 1, none⟩) (Kd.R_far (p := ⟨gb359, 0, none⟩) (Kd.R_mono HO356.out (fun k_ hk => (⟨hk, hk.2⟩ : _ ∧ k_ ≠ gb359))) (fun _ hk => hk.2) (.int .i64 t357)) (fun _ hk => hk.2) (.int .i64 t358)) (fun _ h_ => h_.1))))) (g := gb359) (o := .cells #[.int .i64 t357, .int .i64 t358] 62 (0, 0)) (by (with_reducible repeat first | refine kN ?_ _ | refine kD ?_ | refine kA ?_ _); refine blk_put (cs := #[.int .i64 t357, .int .i64 0]) ?_ 1 _ rfl; (with_reducible repeat first | refine kN ?_ _ | refine kD ?_ | refine kA ?_ _); refine blk_put (cs := #[.int .i64 0, .int .i64 0]) ?_ 0 _ rfl; (with_reducible repeat first | refine kN ?_ _ | refine kD ?_ | refine kA ?_ _); exact BK359.out)) (below_size (by repeat first | (with_reducible first | exact HB.out | apply bA | apply bN | apply bD | refine bS ?_ GE359.out) | exact HB.out))); have n2_ := Aside0.mk (blk_below (g := gb359) (o := .cells #[.int .i64 t357, .int .i64 t358] 62 (0, 0)) (by (with_reducible repeat first | refine kN ?_ _ | refine kD ?_ | refine kA ?_ _); refine blk_put (cs := #[.int .i64 t357, .int .i64 0]) ?_ 1 _ rfl; (with_reducible repeat first | refine kN ?_ _ | refine kD ?_ | refine kA ?_ _); refine blk_put (cs := #[.int .i64 0, .int .i64 0]) ?_ 0 _ rfl; (with_reducible repeat first | refine kN ?_ _ | refine kD ?_ | refine kA ?_ _); exact BK359.out) hb); have n3_ := Aside0.mk (below_step (by repeat first | (with_reducible first | exact HB.out | apply bA | apply bN | apply bD | refine bS ?_ GE359.out) | exact HB.out) hb); clear HO356; clear BK359; clear HB; have HO356 := n0_; have HO362 := n1_; have BK359 := n2_; have HB := n3_; clear n0_ n1_ n2_ n3_; (try clear hb); (try clear hb2); (try clear hk); (try clear hi); (try clear ho0)))
               have n0_ := Aside0.mk (Kd.R_drew HO356.out)
               have n1_ := Aside0.mk (Kd.R_drew HO362.out)
               have n2_ := Aside0.mk (blk_drew BK359.out)
               have n3_ := Aside0.mk (below_drew1 HB.out)
               clear HO356
               clear HO362
               clear BK359
               clear HB
               have HO356 := n0_
               have HO362 := n1_
               have BK359 := n2_
               have HB := n3_
               clear n0_ n1_ n2_ n3_
               obtain ⟨Ao114, co114, eo114⟩ := Kd.R_slice HO362.out
               (first | subst eo114 | (injection eo114 with f1_ f2_ f3_; have f4_ := f1_.symm; have f5_ := f3_.symm; clear f1_ f2_ f3_; subst f4_; subst f5_))
               refine start_ (n := 26) (S := fun w' => True) (ds := []) (bR [0, 26]) (by kernel_rfl) rfl rfl trivial (fun hHeld => ?_); refine with_tabW laws_FnMarks.tab23 laws_FnMarks.bits23 (fun HT_ HW_ => ?_)
               generalize w112.drew = w113 at HO356 HO362 BK359 HB hHeld ⊢
               refine pP 0 117 (bR [1, 25]) rfl rfl HT_ ?_
               refine pP 1 118 (bR [2, 24]) rfl rfl HT_ ?_
               refine pU 2 119 (bR [3, 23]) rfl rfl HT_ ?_
               refine pU 3 120 (bR [4, 22]) rfl rfl HT_ ?_
               refine pP 4 121 (bR [5, 21]) rfl rfl HT_ ?_
               refine pP 5 122 (bR [6, 20]) rfl rfl HT_ ?_
               refine pU 6 123 (bR [7, 19]) rfl rfl HT_ ?_
               refine pU 7 124 (bR [8, 18]) rfl rfl HT_ ?_
               refine pU 8 125 (bR [9, 17]) rfl rfl HT_ ?_
               refine pU 9 126 (bR [10, 16]) rfl rfl HT_ ?_
               refine pU 10 127 (bR [11, 15]) rfl rfl HT_ ?_
               refine pU 11 128 (bR [12, 14]) rfl rfl HT_ ?_
               refine pU 12 129 (bR [13, 13]) rfl rfl HT_ ?_
               refine pP 13 130 (bR [14, 12]) rfl rfl HT_ ?_
               refine pP 14 131 (bR [15, 11]) rfl rfl HT_ ?_
               refine pP 15 132 (bR [16, 10]) rfl rfl HT_ ?_
               refine pP 16 133 (bR [17, 9]) rfl rfl HT_ ?_
               refine pP 17 134 (bR [18, 8]) rfl rfl HT_ ?_
               refine pP 18 135 (bR [19, 7]) rfl rfl HT_ ?_
               refine pP 19 136 (bR [20, 6]) rfl rfl HT_ ?_
               refine pP 20 137 (bR [21, 5]) rfl rfl HT_ ?_
               refine pP 21 138 (bR [22, 4]) rfl rfl HT_ ?_
               refine pP 22 139 (bR [23, 3]) rfl rfl HT_ ?_
               refine pP 23 140 (bR [24, 2]) rfl rfl HT_ ?_
               refine pP 24 141 (bR [25, 1]) rfl rfl HT_ ?_
               refine pP 25 2 (bR [26]) rfl rfl HT_ ?_
               refine done_ (done_of HT_.out (by kernel_rfl)) ?_
               try go_wp2
               go_ret
               exact ⟨by first | rfl | (simp [errW_none, errW_some] <;> rfl) | (simp [*, errW_none, errW_some] <;> rfl), by repeat (first | (with_reducible first | exact HB.out | apply bA | apply bN | apply bD | refine bS ?_ GE359.out) | exact HB.out)⟩

/-- THE ONE PURE STATEMENT of laws_FnMarks: yours. -/
def laws_FnMarks.Pure : Prop := ∀ (l0 : List Int), l0.length ≤ maxLen → l0.length * 1 ≤ 140737488351232 → (∀ x ∈ l0, (Lit.int .u8 x).wf = true) → ∃ k, laws_FnMarks.f k l0 = some true
theorem laws_FnMarks.walk (P : laws_FnMarks.Pure) (a0 : Option Addr) (len0 cap0 : Nat) (z0 : List Int) (w : World) (w0 : (a0 = none ∧ len0 = 0 ∧ cap0 = 0 ∧ z0 = []) ∨ ∃ x, a0 = some x ∧ len0 ≤ cap0 ∧ cap0 ≤ maxLen ∧ z0.length = cap0 ∧ (∀ i, i < z0.length → w.cell? (x.add i) = some (.int .u8 (z0.getD i 0))) ∧ ∀ n ∈ z0, (Lit.int .u8 n).wf = true) (y0 : len0 * 1 ≤ 140737488351232) :
  Calls Try.prog 5 #[.slice a0 len0 cap0] w fun e w' => e = .returned (.bool true) ∧ Below w.heap.size w w' := by
 obtain ⟨l0, rfl, hr0, hm0, hw0, hc0⟩ := ReadsInt.ofRowC w0
 obtain ⟨k, h⟩ := P l0 hm0 y0 hw0
 refine (laws_FnMarks.calls k _ _ l0 true w (Kd.C_of_reads (d := (0 : Int)) (h1 := fun _ => rfl) hr0) hc0 h).mono ?_
 rintro e w' ⟨rfl, hd⟩
 exact ⟨rfl, hd⟩

end Go.Proofs.Ytppgealmedaihaa.PFnMarks
