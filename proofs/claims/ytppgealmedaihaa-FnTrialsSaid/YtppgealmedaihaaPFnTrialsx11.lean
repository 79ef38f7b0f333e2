-- The printed functions of one law and their contracts, over contracts of this session's own (hand.py).
import Derived.Test.YtppgealmedaihaaPFnTrialsx0
import Derived.Test.YtppgealmedaihaaPFnTrialsx1
import Derived.Test.YtppgealmedaihaaPFnTrialsx2
import Derived.Test.YtppgealmedaihaaPFnTrialsx3
import Derived.Test.YtppgealmedaihaaPFnTrialsx9
import Derived.Test.YtppgealmedaihaaPFnTrialsx10
namespace Go.Proofs.Ytppgealmedaihaa.PFnTrials
open Go.RowKit Go.Proofs.YtppgealmedaihaaW.PrintWords Go.Proofs.YtppgealmedaihaaW.PrintLast Go.Proofs.YtppgealmedaihaaW.PrintMore Go.Proofs.Ytppgealmedaihaa.Short
attribute [local go_sem] max2_int min2_int max_two min_two max_three min_three max_four min_four   -- for this text's walks alone
set_option linter.unusedVariables false
set_option linter.unusedSimpArgs false

attribute [local go_sem high] eqA27
/-! ### laws_FnTrials: function 6 -/
mutual
def laws_FnTrials.j0 : Nat → List Int → List (S62) → Bool → Int → Int → Int → Int → Option (Bool)
 | 0, _, _, _, _, _, _, _ => none
 | k + 1, x0, x3, x61, x434000, x434001, x434002, x434003 => if x61 = true then (some false) else ((impl_TrialState.f k x3 x434000 x434001 x434002 x434003).bind fun t442 => (if t442 = 0 then (laws_FnTrials.j1 k x0 x3 false) else ((impl_NextQuestion.f k x3 x434000 x434001 x434002 x434003).bind fun t443 => (laws_FnTrials.j1 k x0 x3 (t443 != 0)))))
def laws_FnTrials.j1 : Nat → List Int → List (S62) → Bool → Option (Bool)
 | 0, _, _, _ => none
 | k + 1, x0, x3, x72 => if x72 = true then (some false) else ((impl_AreMarks.f k x3).bind fun t444 => (if t444 = true then (laws_FnTrials.j2 k x0 x3 (decide ((x3.length : Int) > 0))) else (laws_FnTrials.j2 k x0 x3 false)))
def laws_FnTrials.j2 : Nat → List Int → List (S62) → Bool → Option (Bool)
 | 0, _, _, _ => none
 | k + 1, x0, x3, x79 => if x79 = true then (laws_FnTrials.l0 k x0 x3 0 7 0 0 0) else ((spec_DrawAnswerAll.f k x0).bind fun bt480 => ((impl_AnswerAll.f k bt480.1 bt480.2.1 bt480.2.2.1 bt480.2.2.2.1 bt480.2.2.2.2.1 bt480.2.2.2.2.2).bind fun bt491 => (if bt491.2.2.1 ≥ bt480.2.2.2.1 then (if bt491.2.2.2 ≥ bt480.2.2.2.2.1 then (some (decide ((wrap64 (bt491.2.1 - bt480.2.2.1)) ≤ (bt480.2.2.2.2.2.length : Int)))) else (some false)) else (some false))))
def laws_FnTrials.l0 : Nat → List Int → List (S62) → Int → Int → Int → Int → Int → Option (Bool)
 | 0, _, _, _, _, _, _, _ => none
 | k + 1, x0, x3, x10, x446000, x446001, x446002, x446003 => (impl_NeedFor.f x3).bind fun t446 => (if x10 < t446 then ((impl_NextQuestion.f k x3 x446000 x446001 x446002 x446003).bind fun t447 => ((impl_AnswerOf.f k x3 t447).bind fun t448 => ((impl_GiveAnswer.f k x3 x446000 x446001 x446002 x446003 t448).bind fun bt449 => (laws_FnTrials.l0 k x0 x3 (wrap64 (x10 + 1)) bt449.1 bt449.2.1 bt449.2.2.1 bt449.2.2.2.1)))) else ((impl_AnswerAll.f k x3 7 0 0 0 (([(-5), (-5), (-5)] : List Int))).bind fun bt457 => ((impl_TrialState.f k x3 x446000 x446001 x446002 x446003).bind fun t462 => (if t462 = 1 then ((impl_TrialState.f k x3 bt457.1 bt457.2.1 bt457.2.2.1 bt457.2.2.2).bind fun t463 => (if t463 = 2 then (laws_FnTrials.j4 k x0 (bt457.2.2.2 != 2)) else (laws_FnTrials.j4 k x0 true))) else (laws_FnTrials.j4 k x0 true)))))
def laws_FnTrials.j4 : Nat → List Int → Bool → Option (Bool)
 | 0, _, _ => none
 | k + 1, x0, x116 => if x116 = true then (some false) else ((spec_DrawAnswerAll.f k x0).bind fun bt464 => ((impl_AnswerAll.f k bt464.1 bt464.2.1 bt464.2.2.1 bt464.2.2.2.1 bt464.2.2.2.2.1 bt464.2.2.2.2.2).bind fun bt475 => (if bt475.2.2.1 ≥ bt464.2.2.2.1 then (if bt475.2.2.2 ≥ bt464.2.2.2.2.1 then (some (decide ((wrap64 (bt475.2.1 - bt464.2.2.1)) ≤ (bt464.2.2.2.2.2.length : Int)))) else (some false)) else (some false))))
end
def laws_FnTrials.f (k : Nat) (l0 : List Int) : Option (Bool) := (laws_big.f l0).bind fun t424 => (if t424 = true then (some true) else ((spec_DrawGiveAnswer.f k l0).bind fun bt425 => ((impl_GiveAnswer.f k bt425.1 bt425.2.1 bt425.2.2.1 bt425.2.2.2.1 bt425.2.2.2.2.1 bt425.2.2.2.2.2).bind fun bt434 => ((impl_NextQuestion.f k bt425.1 bt425.2.1 bt425.2.2.1 bt425.2.2.2.1 bt425.2.2.2.2.1).bind fun t440 => (if (bt434.2.2.2.2 != (t440 != 0)) = true then (laws_FnTrials.j0 k l0 bt425.1 true bt425.2.1 bt425.2.2.1 bt425.2.2.2.1 bt425.2.2.2.2.1) else (if bt434.2.2.2.2 = true then ((impl_IsTrial.f bt434.1 bt434.2.1 bt434.2.2.1 bt434.2.2.2.1).bind fun t441 => (if t441 = true then (if bt434.2.1 = (wrap64 (bt425.2.2.1 + 1)) then (laws_FnTrials.j0 k l0 bt425.1 false bt425.2.1 bt425.2.2.1 bt425.2.2.2.1 bt425.2.2.2.2.1) else (laws_FnTrials.j0 k l0 bt425.1 true bt425.2.1 bt425.2.2.1 bt425.2.2.2.1 bt425.2.2.2.2.1)) else (laws_FnTrials.j0 k l0 bt425.1 true bt425.2.1 bt425.2.2.1 bt425.2.2.2.1 bt425.2.2.2.2.1))) else (laws_FnTrials.j0 k l0 bt425.1 (!(bt434.1 == bt425.2.1) || (!(bt434.2.1 == bt425.2.2.1) || (!(bt434.2.2.1 == bt425.2.2.2.1) || (!(bt434.2.2.2.1 == bt425.2.2.2.2.1))))) bt425.2.1 bt425.2.2.1 bt425.2.2.2.1 bt425.2.2.2.2.1)))))))
theorem laws_FnTrials.mono_l : ∀ k, (∀ y0 y1 y2 y3 y4 y5 y6, LeO (laws_FnTrials.j0 k y0 y1 y2 y3 y4 y5 y6) (laws_FnTrials.j0 (k + 1) y0 y1 y2 y3 y4 y5 y6)) ∧ (∀ y0 y1 y2, LeO (laws_FnTrials.j1 k y0 y1 y2) (laws_FnTrials.j1 (k + 1) y0 y1 y2)) ∧ (∀ y0 y1 y2, LeO (laws_FnTrials.j2 k y0 y1 y2) (laws_FnTrials.j2 (k + 1) y0 y1 y2)) ∧ (∀ y0 y1 y2 y3 y4 y5 y6, LeO (laws_FnTrials.l0 k y0 y1 y2 y3 y4 y5 y6) (laws_FnTrials.l0 (k + 1) y0 y1 y2 y3 y4 y5 y6)) ∧ (∀ y0 y1, LeO (laws_FnTrials.j4 k y0 y1) (laws_FnTrials.j4 (k + 1) y0 y1))
 | 0 => ⟨fun _ _ _ _ _ _ _ r h => by simp [laws_FnTrials.j0] at h, fun _ _ _ r h => by simp [laws_FnTrials.j1] at h, fun _ _ _ r h => by simp [laws_FnTrials.j2] at h, fun _ _ _ _ _ _ _ r h => by simp [laws_FnTrials.l0] at h, fun _ _ r h => by simp [laws_FnTrials.j4] at h⟩
 | k + 1 => by
  obtain ⟨ih0, ih1, ih2, ih3, ih4⟩ := laws_FnTrials.mono_l k
  refine ⟨?_, ?_, ?_, ?_, ?_⟩
  ·intro y0 y1 y2 y3 y4 y5 y6
   unfold laws_FnTrials.j0
   repeat' first
   | (with_reducible exact ih0 _ _ _ _ _ _ _)
   | (with_reducible exact ih1 _ _ _)
   | (with_reducible exact ih2 _ _ _)
   | (with_reducible exact ih3 _ _ _ _ _ _ _)
   | (with_reducible exact ih4 _ _)
   | (with_reducible exact impl_AnswerAll.mono _ _ _ _ _ _ _)
   | (with_reducible exact impl_AnswerOf.mono _ _ _)
   | (with_reducible exact impl_AreMarks.mono _ _)
   | (with_reducible exact impl_GiveAnswer.mono _ _ _ _ _ _ _)
   | (with_reducible exact impl_NextQuestion.mono _ _ _ _ _ _)
   | (with_reducible exact impl_TrialState.mono _ _ _ _ _ _)
   | (with_reducible exact spec_DrawAnswerAll.mono _ _)
   | (with_reducible exact spec_DrawGiveAnswer.mono _ _)
   | (with_reducible exact LeO.refl _)
   | (with_reducible exact LeO.none _)
   | (with_reducible refine LeO.ite ?_ ?_)
   | (with_reducible refine LeO.bind ?_ (fun _ => ?_))
   | exact ih0 _ _ _ _ _ _ _
   | exact ih1 _ _ _
   | exact ih2 _ _ _
   | exact ih3 _ _ _ _ _ _ _
   | exact ih4 _ _
   | exact impl_AnswerAll.mono _ _ _ _ _ _ _
   | exact impl_AnswerOf.mono _ _ _
   | exact impl_AreMarks.mono _ _
   | exact impl_GiveAnswer.mono _ _ _ _ _ _ _
   | exact impl_NextQuestion.mono _ _ _ _ _ _
   | exact impl_TrialState.mono _ _ _ _ _ _
   | exact spec_DrawAnswerAll.mono _ _
   | exact spec_DrawGiveAnswer.mono _ _
   | exact LeO.none _
   | refine LeO.ite ?_ ?_
   | refine LeO.bind ?_ (fun _ => ?_)
  ·intro y0 y1 y2
   unfold laws_FnTrials.j1
   repeat' first
   | (with_reducible exact ih0 _ _ _ _ _ _ _)
   | (with_reducible exact ih1 _ _ _)
   | (with_reducible exact ih2 _ _ _)
   | (with_reducible exact ih3 _ _ _ _ _ _ _)
   | (with_reducible exact ih4 _ _)
   | (with_reducible exact impl_AnswerAll.mono _ _ _ _ _ _ _)
   | (with_reducible exact impl_AnswerOf.mono _ _ _)
   | (with_reducible exact impl_AreMarks.mono _ _)
   | (with_reducible exact impl_GiveAnswer.mono _ _ _ _ _ _ _)
   | (with_reducible exact impl_NextQuestion.mono _ _ _ _ _ _)
   | (with_reducible exact impl_TrialState.mono _ _ _ _ _ _)
   | (with_reducible exact spec_DrawAnswerAll.mono _ _)
   | (with_reducible exact spec_DrawGiveAnswer.mono _ _)
   | (with_reducible exact LeO.refl _)
   | (with_reducible exact LeO.none _)
   | (with_reducible refine LeO.ite ?_ ?_)
   | (with_reducible refine LeO.bind ?_ (fun _ => ?_))
   | exact ih0 _ _ _ _ _ _ _
   | exact ih1 _ _ _
   | exact ih2 _ _ _
   | exact ih3 _ _ _ _ _ _ _
   | exact ih4 _ _
   | exact impl_AnswerAll.mono _ _ _ _ _ _ _
   | exact impl_AnswerOf.mono _ _ _
   | exact impl_AreMarks.mono _ _
   | exact impl_GiveAnswer.mono _ _ _ _ _ _ _
   | exact impl_NextQuestion.mono _ _ _ _ _ _
   | exact impl_TrialState.mono _ _ _ _ _ _
   | exact spec_DrawAnswerAll.mono _ _
   | exact spec_DrawGiveAnswer.mono _ _
   | exact LeO.none _
   | refine LeO.ite ?_ ?_
   | refine LeO.bind ?_ (fun _ => ?_)
  ·intro y0 y1 y2
   unfold laws_FnTrials.j2
   repeat' first
   | (with_reducible exact ih0 _ _ _ _ _ _ _)
   | (with_reducible exact ih1 _ _ _)
   | (with_reducible exact ih2 _ _ _)
   | (with_reducible exact ih3 _ _ _ _ _ _ _)
   | (with_reducible exact ih4 _ _)
   | (with_reducible exact impl_AnswerAll.mono _ _ _ _ _ _ _)
   | (with_reducible exact impl_AnswerOf.mono _ _ _)
   | (with_reducible exact impl_AreMarks.mono _ _)
   | (with_reducible exact impl_GiveAnswer.mono _ _ _ _ _ _ _)
   | (with_reducible exact impl_NextQuestion.mono _ _ _ _ _ _)
   | (with_reducible exact impl_TrialState.mono _ _ _ _ _ _)
   | (with_reducible exact spec_DrawAnswerAll.mono _ _)
   | (with_reducible exact spec_DrawGiveAnswer.mono _ _)
   | (with_reducible exact LeO.refl _)
   | (with_reducible exact LeO.none _)
   | (with_reducible refine LeO.ite ?_ ?_)
   | (with_reducible refine LeO.bind ?_ (fun _ => ?_))
   | exact ih0 _ _ _ _ _ _ _
   | exact ih1 _ _ _
   | exact ih2 _ _ _
   | exact ih3 _ _ _ _ _ _ _
   | exact ih4 _ _
   | exact impl_AnswerAll.mono _ _ _ _ _ _ _
   | exact impl_AnswerOf.mono _ _ _
   | exact impl_AreMarks.mono _ _
   | exact impl_GiveAnswer.mono _ _ _ _ _ _ _
   | exact impl_NextQuestion.mono _ _ _ _ _ _
   | exact impl_TrialState.mono _ _ _ _ _ _
   | exact spec_DrawAnswerAll.mono _ _
   | exact spec_DrawGiveAnswer.mono _ _
   | exact LeO.none _
   | refine LeO.ite ?_ ?_
   | refine LeO.bind ?_ (fun _ => ?_)
  ·intro y0 y1 y2 y3 y4 y5 y6
   unfold laws_FnTrials.l0
   repeat' first
   | (with_reducible exact ih0 _ _ _ _ _ _ _)
   | (with_reducible exact ih1 _ _ _)
   | (with_reducible exact ih2 _ _ _)
   | (with_reducible exact ih3 _ _ _ _ _ _ _)
   | (with_reducible exact ih4 _ _)
   | (with_reducible exact impl_AnswerAll.mono _ _ _ _ _ _ _)
   | (with_reducible exact impl_AnswerOf.mono _ _ _)
   | (with_reducible exact impl_AreMarks.mono _ _)
   | (with_reducible exact impl_GiveAnswer.mono _ _ _ _ _ _ _)
   | (with_reducible exact impl_NextQuestion.mono _ _ _ _ _ _)
   | (with_reducible exact impl_TrialState.mono _ _ _ _ _ _)
   | (with_reducible exact spec_DrawAnswerAll.mono _ _)
   | (with_reducible exact spec_DrawGiveAnswer.mono _ _)
   | (with_reducible exact LeO.refl _)
   | (with_reducible exact LeO.none _)
   | (with_reducible refine LeO.ite ?_ ?_)
   | (with_reducible refine LeO.bind ?_ (fun _ => ?_))
   | exact ih0 _ _ _ _ _ _ _
   | exact ih1 _ _ _
   | exact ih2 _ _ _
   | exact ih3 _ _ _ _ _ _ _
   | exact ih4 _ _
   | exact impl_AnswerAll.mono _ _ _ _ _ _ _
   | exact impl_AnswerOf.mono _ _ _
   | exact impl_AreMarks.mono _ _
   | exact impl_GiveAnswer.mono _ _ _ _ _ _ _
   | exact impl_NextQuestion.mono _ _ _ _ _ _
   | exact impl_TrialState.mono _ _ _ _ _ _
   | exact spec_DrawAnswerAll.mono _ _
   | exact spec_DrawGiveAnswer.mono _ _
   | exact LeO.none _
   | refine LeO.ite ?_ ?_
   | refine LeO.bind ?_ (fun _ => ?_)
  ·intro y0 y1
   unfold laws_FnTrials.j4
   repeat' first
   | (with_reducible exact ih0 _ _ _ _ _ _ _)
   | (with_reducible exact ih1 _ _ _)
   | (with_reducible exact ih2 _ _ _)
   | (with_reducible exact ih3 _ _ _ _ _ _ _)
   | (with_reducible exact ih4 _ _)
   | (with_reducible exact impl_AnswerAll.mono _ _ _ _ _ _ _)
   | (with_reducible exact impl_AnswerOf.mono _ _ _)
   | (with_reducible exact impl_AreMarks.mono _ _)
   | (with_reducible exact impl_GiveAnswer.mono _ _ _ _ _ _ _)
   | (with_reducible exact impl_NextQuestion.mono _ _ _ _ _ _)
   | (with_reducible exact impl_TrialState.mono _ _ _ _ _ _)
   | (with_reducible exact spec_DrawAnswerAll.mono _ _)
   | (with_reducible exact spec_DrawGiveAnswer.mono _ _)
   | (with_reducible exact LeO.refl _)
   | (with_reducible exact LeO.none _)
   | (with_reducible refine LeO.ite ?_ ?_)
   | (with_reducible refine LeO.bind ?_ (fun _ => ?_))
   | exact ih0 _ _ _ _ _ _ _
   | exact ih1 _ _ _
   | exact ih2 _ _ _
   | exact ih3 _ _ _ _ _ _ _
   | exact ih4 _ _
   | exact impl_AnswerAll.mono _ _ _ _ _ _ _
   | exact impl_AnswerOf.mono _ _ _
   | exact impl_AreMarks.mono _ _
   | exact impl_GiveAnswer.mono _ _ _ _ _ _ _
   | exact impl_NextQuestion.mono _ _ _ _ _ _
   | exact impl_TrialState.mono _ _ _ _ _ _
   | exact spec_DrawAnswerAll.mono _ _
   | exact spec_DrawGiveAnswer.mono _ _
   | exact LeO.none _
   | refine LeO.ite ?_ ?_
   | refine LeO.bind ?_ (fun _ => ?_)
theorem laws_FnTrials.mono : ∀ a0 k, LeO (laws_FnTrials.f k a0) (laws_FnTrials.f (k + 1) a0) := by
 intro a0 k
 obtain ⟨ih0, ih1, ih2, ih3, ih4⟩ := laws_FnTrials.mono_l k
 unfold laws_FnTrials.f
 repeat' first
   | (with_reducible exact ih0 _ _ _ _ _ _ _)
   | (with_reducible exact ih1 _ _ _)
   | (with_reducible exact ih2 _ _ _)
   | (with_reducible exact ih3 _ _ _ _ _ _ _)
   | (with_reducible exact ih4 _ _)
   | (with_reducible exact impl_AnswerAll.mono _ _ _ _ _ _ _)
   | (with_reducible exact impl_AnswerOf.mono _ _ _)
   | (with_reducible exact impl_AreMarks.mono _ _)
   | (with_reducible exact impl_GiveAnswer.mono _ _ _ _ _ _ _)
   | (with_reducible exact impl_NextQuestion.mono _ _ _ _ _ _)
   | (with_reducible exact impl_TrialState.mono _ _ _ _ _ _)
   | (with_reducible exact spec_DrawAnswerAll.mono _ _)
   | (with_reducible exact spec_DrawGiveAnswer.mono _ _)
   | (with_reducible exact LeO.refl _)
   | (with_reducible exact LeO.none _)
   | (with_reducible refine LeO.ite ?_ ?_)
   | (with_reducible refine LeO.bind ?_ (fun _ => ?_))
   | exact ih0 _ _ _ _ _ _ _
   | exact ih1 _ _ _
   | exact ih2 _ _ _
   | exact ih3 _ _ _ _ _ _ _
   | exact ih4 _ _
   | exact impl_AnswerAll.mono _ _ _ _ _ _ _
   | exact impl_AnswerOf.mono _ _ _
   | exact impl_AreMarks.mono _ _
   | exact impl_GiveAnswer.mono _ _ _ _ _ _ _
   | exact impl_NextQuestion.mono _ _ _ _ _ _
   | exact impl_TrialState.mono _ _ _ _ _ _
   | exact spec_DrawAnswerAll.mono _ _
   | exact spec_DrawGiveAnswer.mono _ _
   | exact LeO.none _
   | refine LeO.ite ?_ ?_
   | refine LeO.bind ?_ (fun _ => ?_)
def laws_FnTrials.T15 : Bool × List (List Nat × List Nat) := (true, [([], []), ([], []), ([], []), ([], []), ([], []), ([3, 4], [3, 4]), ([2, 5, 5], [2, 5]), ([0, 1, 6, 6], [0, 1, 6]), ([7], [7]), ([8], [8]), ([8], [8]), ([9, 7, 0, 1, 2, 3, 4, 5, 6, 7, 8, 9], [9])])
def laws_FnTrials.B15 : List Nat := [0, 0, 0, 0, 0, 24, 60, 127, 255, 511, 511, 1023]
theorem laws_FnTrials.tab15 : rtab .any (opsOf Try.f6 15) = laws_FnTrials.T15 := by kernel_rfl
theorem laws_FnTrials.bits15 : waitsOk laws_FnTrials.T15.2 laws_FnTrials.B15 = true := by kernel_rfl
set_option maxHeartbeats 8000000 in
set_option maxRecDepth 100000 in
theorem laws_FnTrials.calls (k : Nat) (A0 : Option Addr) (c0 : Nat) (l0 : List Int) (r : Bool) (w : World) (hr0 : Kd.C (Kd.int .u8) w A0 l0.length l0) (hc0 : l0.length ≤ c0) (h : laws_FnTrials.f k l0 = some r) :
  Calls Try.prog 6 #[.slice A0 l0.length c0] w fun e w' => e = .returned (.bool r) ∧ Below w.heap.size w w' := by
 have hu27 := Try.underlying27
 have HR0 := Aside0.mk hr0
 have HC0 := Aside0.mk hc0
 clear hr0 hc0
 have HB := Aside0.mk (Below.refl w.heap.size w)
 have H : ((laws_big.f l0).bind fun t424 => (if t424 = true then (some true) else ((spec_DrawGiveAnswer.f k l0).bind fun bt425 => ((impl_GiveAnswer.f k bt425.1 bt425.2.1 bt425.2.2.1 bt425.2.2.2.1 bt425.2.2.2.2.1 bt425.2.2.2.2.2).bind fun bt434 => ((impl_NextQuestion.f k bt425.1 bt425.2.1 bt425.2.2.1 bt425.2.2.2.1 bt425.2.2.2.2.1).bind fun t440 => (if (bt434.2.2.2.2 != (t440 != 0)) = true then (laws_FnTrials.j0 k l0 bt425.1 true bt425.2.1 bt425.2.2.1 bt425.2.2.2.1 bt425.2.2.2.2.1) else (if bt434.2.2.2.2 = true then ((impl_IsTrial.f bt434.1 bt434.2.1 bt434.2.2.1 bt434.2.2.2.1).bind fun t441 => (if t441 = true then (if bt434.2.1 = (wrap64 (bt425.2.2.1 + 1)) then (laws_FnTrials.j0 k l0 bt425.1 false bt425.2.1 bt425.2.2.1 bt425.2.2.2.1 bt425.2.2.2.2.1) else (laws_FnTrials.j0 k l0 bt425.1 true bt425.2.1 bt425.2.2.1 bt425.2.2.2.1 bt425.2.2.2.2.1)) else (laws_FnTrials.j0 k l0 bt425.1 true bt425.2.1 bt425.2.2.1 bt425.2.2.2.1 bt425.2.2.2.2.1))) else (laws_FnTrials.j0 k l0 bt425.1 (!(bt434.1 == bt425.2.1) || (!(bt434.2.1 == bt425.2.2.1) || (!(bt434.2.2.1 == bt425.2.2.2.1) || (!(bt434.2.2.2.1 == bt425.2.2.2.2.1))))) bt425.2.1 bt425.2.2.1 bt425.2.2.2.1 bt425.2.2.2.2.1)))))))) = some r := h
 clear h
 replace H := Option.bind_eq_some_iff.mp H
 obtain ⟨t424, A20, H⟩ := H
 replace H : (if t424 = true then (some true) else ((spec_DrawGiveAnswer.f k l0).bind fun bt425 => ((impl_GiveAnswer.f k bt425.1 bt425.2.1 bt425.2.2.1 bt425.2.2.2.1 bt425.2.2.2.2.1 bt425.2.2.2.2.2).bind fun bt434 => ((impl_NextQuestion.f k bt425.1 bt425.2.1 bt425.2.2.1 bt425.2.2.2.1 bt425.2.2.2.2.1).bind fun t440 => (if (bt434.2.2.2.2 != (t440 != 0)) = true then (laws_FnTrials.j0 k l0 bt425.1 true bt425.2.1 bt425.2.2.1 bt425.2.2.2.1 bt425.2.2.2.2.1) else (if bt434.2.2.2.2 = true then ((impl_IsTrial.f bt434.1 bt434.2.1 bt434.2.2.1 bt434.2.2.2.1).bind fun t441 => (if t441 = true then (if bt434.2.1 = (wrap64 (bt425.2.2.1 + 1)) then (laws_FnTrials.j0 k l0 bt425.1 false bt425.2.1 bt425.2.2.1 bt425.2.2.2.1 bt425.2.2.2.2.1) else (laws_FnTrials.j0 k l0 bt425.1 true bt425.2.1 bt425.2.2.1 bt425.2.2.2.1 bt425.2.2.2.2.1)) else (laws_FnTrials.j0 k l0 bt425.1 true bt425.2.1 bt425.2.2.1 bt425.2.2.2.1 bt425.2.2.2.2.1))) else (laws_FnTrials.j0 k l0 bt425.1 (!(bt434.1 == bt425.2.1) || (!(bt434.2.1 == bt425.2.2.1) || (!(bt434.2.2.1 == bt425.2.2.2.1) || (!(bt434.2.2.2.1 == bt425.2.2.2.2.1))))) bt425.2.1 bt425.2.2.1 bt425.2.2.2.1 bt425.2.2.2.2.1))))))) = some r := H
 have A2 := Aside0.mk A20
 clear A20
 by_cases c3 : t424 = true
 ·subst c3
  have H1 : (some true) = some r := by rw [if_pos rfl] at H; exact H
  clear H
  have H := H1
  clear H1
  obtain rfl := Option.some.inj H
  go_enter Try.func6, Try.ntmps6
  go_wp2_with (first | ((with_reducible refine gate_callee (f := 30) rfl ?_); refine goesL_ (some 17) rfl rfl Try.func30 (by kernel_rfl) rfl #[.slice A0 l0.length c0] rfl (by (try simp only [mA, mC, mN]); first | done | rfl | (simp only [lD, lT]; rfl)) ?_; (with_reducible refine (laws_big.calls _ _ l0 true _ ?side1 ?side2 A2.out).mono ?_); (case side1 => repeat (first | exact HR0.out | (with_reducible refine Kd.C_alloc ?_ _) | (with_reducible refine Kd.C_drewN ?_ _) | (with_reducible refine Kd.C_drew ?_))); (case side2 => exact HC0.out); rintro e w' ⟨rfl, ⟨nd, rfl⟩⟩; refine ⟨_, rfl, ?_⟩))
  go_ret
  exact ⟨by first | rfl | (simp [errW_none, errW_some] <;> rfl) | (simp [*, errW_none, errW_some] <;> rfl), by repeat (first | (with_reducible first | exact HB.out | apply bA | apply bN | apply bD) | exact HB.out)⟩
 ·replace c3 := Bool.eq_false_iff.mpr c3
  subst c3
  have H1 : ((spec_DrawGiveAnswer.f k l0).bind fun bt425 => ((impl_GiveAnswer.f k bt425.1 bt425.2.1 bt425.2.2.1 bt425.2.2.2.1 bt425.2.2.2.2.1 bt425.2.2.2.2.2).bind fun bt434 => ((impl_NextQuestion.f k bt425.1 bt425.2.1 bt425.2.2.1 bt425.2.2.2.1 bt425.2.2.2.2.1).bind fun t440 => (if (bt434.2.2.2.2 != (t440 != 0)) = true then (laws_FnTrials.j0 k l0 bt425.1 true bt425.2.1 bt425.2.2.1 bt425.2.2.2.1 bt425.2.2.2.2.1) else (if bt434.2.2.2.2 = true then ((impl_IsTrial.f bt434.1 bt434.2.1 bt434.2.2.1 bt434.2.2.2.1).bind fun t441 => (if t441 = true then (if bt434.2.1 = (wrap64 (bt425.2.2.1 + 1)) then (laws_FnTrials.j0 k l0 bt425.1 false bt425.2.1 bt425.2.2.1 bt425.2.2.2.1 bt425.2.2.2.2.1) else (laws_FnTrials.j0 k l0 bt425.1 true bt425.2.1 bt425.2.2.1 bt425.2.2.2.1 bt425.2.2.2.2.1)) else (laws_FnTrials.j0 k l0 bt425.1 true bt425.2.1 bt425.2.2.1 bt425.2.2.2.1 bt425.2.2.2.2.1))) else (laws_FnTrials.j0 k l0 bt425.1 (!(bt434.1 == bt425.2.1) || (!(bt434.2.1 == bt425.2.2.1) || (!(bt434.2.2.1 == bt425.2.2.2.1) || (!(bt434.2.2.2.1 == bt425.2.2.2.2.1))))) bt425.2.1 bt425.2.2.1 bt425.2.2.2.1 bt425.2.2.2.2.1)))))) = some r := by rw [if_neg (show ¬ (false = true) by decide)] at H; exact H
  clear H
  have H := H1
  clear H1
  replace H := Option.bind_eq_some_iff.mp H
  obtain ⟨⟨t425, t428, t429, t430, t431, t432⟩, A40, H⟩ := H
  replace H : ((impl_GiveAnswer.f k t425 t428 t429 t430 t431 t432).bind fun bt434 => ((impl_NextQuestion.f k t425 t428 t429 t430 t431).bind fun t440 => (if (bt434.2.2.2.2 != (t440 != 0)) = true then (laws_FnTrials.j0 k l0 t425 true t428 t429 t430 t431) else (if bt434.2.2.2.2 = true then ((impl_IsTrial.f bt434.1 bt434.2.1 bt434.2.2.1 bt434.2.2.2.1).bind fun t441 => (if t441 = true then (if bt434.2.1 = (wrap64 (t429 + 1)) then (laws_FnTrials.j0 k l0 t425 false t428 t429 t430 t431) else (laws_FnTrials.j0 k l0 t425 true t428 t429 t430 t431)) else (laws_FnTrials.j0 k l0 t425 true t428 t429 t430 t431))) else (laws_FnTrials.j0 k l0 t425 (!(bt434.1 == t428) || (!(bt434.2.1 == t429) || (!(bt434.2.2.1 == t430) || (!(bt434.2.2.2.1 == t431))))) t428 t429 t430 t431))))) = some r := H
  have A4 := Aside0.mk A40
  clear A40
  replace H := Option.bind_eq_some_iff.mp H
  obtain ⟨⟨t434, t435, t436, t437, t438⟩, A50, H⟩ := H
  replace H : ((impl_NextQuestion.f k t425 t428 t429 t430 t431).bind fun t440 => (if (t438 != (t440 != 0)) = true then (laws_FnTrials.j0 k l0 t425 true t428 t429 t430 t431) else (if t438 = true then ((impl_IsTrial.f t434 t435 t436 t437).bind fun t441 => (if t441 = true then (if t435 = (wrap64 (t429 + 1)) then (laws_FnTrials.j0 k l0 t425 false t428 t429 t430 t431) else (laws_FnTrials.j0 k l0 t425 true t428 t429 t430 t431)) else (laws_FnTrials.j0 k l0 t425 true t428 t429 t430 t431))) else (laws_FnTrials.j0 k l0 t425 (!(t434 == t428) || (!(t435 == t429) || (!(t436 == t430) || (!(t437 == t431))))) t428 t429 t430 t431)))) = some r := H
  have A5 := Aside0.mk A50
  clear A50
  have HC6 := Aside0.mk H
  clear H
  go_enter Try.func6, Try.ntmps6
  go_upto_region 5 with (first | ((with_reducible refine gate_callee (f := 30) rfl ?_); refine goesL_ (some 17) rfl rfl Try.func30 (by kernel_rfl) rfl #[.slice A0 l0.length c0] rfl (by (try simp only [mA, mC, mN]); first | done | rfl | (simp only [lD, lT]; rfl)) ?_; (with_reducible refine (laws_big.calls _ _ l0 false _ ?side1 ?side2 A2.out).mono ?_); (case side1 => repeat (first | exact HR0.out | (with_reducible refine Kd.C_alloc ?_ _) | (with_reducible refine Kd.C_drewN ?_ _) | (with_reducible refine Kd.C_drew ?_))); (case side2 => exact HC0.out); rintro e w' ⟨rfl, ⟨nd, rfl⟩⟩; refine ⟨_, rfl, ?_⟩) | ((with_reducible refine gate_callee (f := 40) rfl ?_); refine goesL_ (some 20) rfl rfl Try.func40 (by kernel_rfl) rfl #[.slice A0 l0.length c0] rfl (by (try simp only [mA, mC, mN]); first | done | rfl | (simp only [lD, lT]; rfl)) ?_; (with_reducible refine (spec_DrawGiveAnswer.calls k _ _ l0 t425 t428 t429 t430 t431 t432 _ ?side1 ?side2 A4.out).mono ?_); (case side1 => repeat (first | exact HR0.out | (with_reducible refine Kd.C_alloc ?_ _) | (with_reducible refine Kd.C_drewN ?_ _) | (with_reducible refine Kd.C_drew ?_))); (case side2 => exact HC0.out); rintro e w7 ⟨v426, rfl, ho0, hb⟩; refine ⟨_, rfl, ?_⟩; have n0_ := Aside0.mk (Kd.R_lower ho0 (below_size (qB HB))); have n1_ := Aside0.mk (below_step (qB HB) hb); clear HB; have HO427 := n0_; have HB := n1_; clear n0_ n1_; (try clear hb); (try clear hb2); (try clear hk); (try clear hi); (try clear ho0)) | ((with_reducible refine gate_dst (N := 4) rfl ?_); (try (refine gate_guard (by rfl) ?_; dsimp only)); refine box_event ?hg (N := 4) ?hd (cs := #[.int .i64 0, .int .i64 0, .int .i64 0, .int .i64 0]) (t := 27) ?hr ?_; (case hd => rfl); (case hg => rfl); (case hr => first | (go_simp; done) | (go_simp; rfl)); intro gb433 hg w8 hbox hb; have n0_ := Aside0.mk (Kd.R_below (qR HO427) hb); have n1_ := Aside0.mk (below_step (qB HB) hb); have n2_ := Aside0.mk (hbox); have n3_ := Aside0.mk ((by rw [hg]; exact (below_size (qB HB)) : w.heap.size ≤ gb433)); have n4_ := Aside0.mk ((by rw [hg]; exact (below_size (qB HB)) : w.heap.size ≤ gb433)); clear HO427; clear HB; have HO427 := n0_; have HB := n1_; have BK433 := n2_; have GW433 := n3_; have GE433 := n4_; clear n0_ n1_ n2_ n3_ n4_; clear hb hbox hg; have hcz9_0 : w8.cell? ⟨gb433, 0, none⟩ = some (.int .i64 0) := cC BK433 0; have hcz9_1 : w8.cell? ⟨gb433, 1, none⟩ = some (.int .i64 0) := cC BK433 1; have hcz9_2 : w8.cell? ⟨gb433, 2, none⟩ = some (.int .i64 0) := cC BK433 2; have hcz9_3 : w8.cell? ⟨gb433, 3, none⟩ = some (.int .i64 0) := cC BK433 3; have hfz9_0 := blk_frozen BK433.out 0; have hfz9_1 := blk_frozen BK433.out 1; have hfz9_2 := blk_frozen BK433.out 2; have hfz9_3 := blk_frozen BK433.out 3; obtain ⟨Ao10, co10, eo10⟩ := Kd.R_slice HO427.out; subst eo10) | ((with_reducible refine gate_callee (f := 41) rfl ?_); refine goesL_ (some 28) rfl rfl Try.func41 (by kernel_rfl) rfl #[.slice Ao10 t425.length co10, .agg #[.int .i64 t428, .int .i64 t429, .int .i64 t430, .int .i64 t431], .int .i64 t432] rfl (by (try simp only [mA, mC, mN]); first | done | rfl | (simp only [lD, lT]; rfl)) ?_; (with_reducible refine (impl_GiveAnswer.calls k _ _ t425 t428 t429 t430 t431 t432 t434 t435 t436 t437 t438 _ ?side1 ?side2 A5.out).mono ?_); (case side1 => refine (Kd.R_reads' (e := 62) (base := w.heap.size) (ok := fun k_ => True) (n := t425.length) (c := co10) ?_).2.2; exact (by (with_reducible repeat first | apply rA | apply rN | apply rD); exact (far4 HO427 BK433))); (case side2 => exact (Kd.R_reads' HO427.out).2.1); rintro e w11 ⟨rfl, hb⟩; refine ⟨_, rfl, ?_⟩; have n0_ := Aside0.mk (Kd.R_below (by (with_reducible repeat first | apply rA | apply rN | apply rD); exact (far4 HO427 BK433)) hb); have n1_ := Aside0.mk (blk_below (g := gb433) (o := .cells #[.int .i64 t428, .int .i64 t429, .int .i64 t430, .int .i64 t431] 27 (0, 0)) (by (with_reducible repeat first | refine kN ?_ _ | refine kD ?_ | refine kA ?_ _); refine blk_put (cs := #[.int .i64 t428, .int .i64 t429, .int .i64 t430, .int .i64 0]) ?_ 3 _ rfl; (with_reducible repeat first | refine kN ?_ _ | refine kD ?_ | refine kA ?_ _); refine blk_put (cs := #[.int .i64 t428, .int .i64 t429, .int .i64 0, .int .i64 0]) ?_ 2 _ rfl; (with_reducible repeat first | refine kN ?_ _ | refine kD ?_ | refine kA ?_ _); refine blk_put (cs := #[.int .i64 t428, .int .i64 0, .int .i64 0, .int .i64 0]) ?_ 1 _ rfl; (with_reducible repeat first | refine kN ?_ _ | refine kD ?_ | refine kA ?_ _); refine blk_put (cs := #[.int .i64 0, .int .i64 0, .int .i64 0, .int .i64 0]) ?_ 0 _ rfl; (with_reducible repeat first | refine kN ?_ _ | refine kD ?_ | refine kA ?_ _); exact BK433.out) hb); have n2_ := Aside0.mk (below_step (by repeat first | (with_reducible first | exact HB.out | apply bA | apply bN | apply bD | refine bS ?_ GE433.out) | exact HB.out) hb); clear HO427; clear BK433; clear HB; have HO427 := n0_; have BK433 := n1_; have HB := n2_; clear n0_ n1_ n2_; (try clear hb); (try clear hb2); (try clear hk); (try clear hi)) | ((with_reducible refine gate_dst (N := 6) rfl ?_); (try (refine gate_guard (by rfl) ?_; dsimp only)); refine box_event ?hg (N := 6) ?hd (cs := #[.int .i64 0, .int .i64 0, .int .i64 0, .int .i64 0]) (t := 27) ?hr ?_; (case hd => rfl); (case hg => rfl); (case hr => first | (go_simp; done) | (go_simp; rfl)); intro gb439 hg w12 hbox hb; have n0_ := Aside0.mk (Kd.R_below (qR HO427) hb); have n1_ := Aside0.mk (blk_below (qK BK433) hb); have n2_ := Aside0.mk (below_step (by repeat first | (with_reducible first | exact HB.out | apply bA | apply bN | apply bD | refine bS ?_ GE433.out) | exact HB.out) hb); have n3_ := Aside0.mk (hbox); have n4_ := Aside0.mk ((by rw [hg]; exact (below_size (by repeat first | (with_reducible first | exact HB.out | apply bA | apply bN | apply bD | refine bS ?_ GE433.out) | exact HB.out)) : w.heap.size ≤ gb439)); have n5_ := Aside0.mk ((by rw [hg]; exact (below_size (by repeat first | (with_reducible first | exact HB.out | apply bA | apply bN | apply bD | refine bS ?_ GE433.out) | exact HB.out)) : w.heap.size ≤ gb439)); have n6_ := Aside0.mk ((by rw [hg]; exact Nat.ne_of_lt (blk_lt (qK BK433)) : gb433 ≠ gb439)); have n7_ := Aside0.mk ((by rw [hg]; exact Nat.ne_of_gt (blk_lt (qK BK433)) : gb439 ≠ gb433)); clear HO427; clear BK433; clear HB; have HO427 := n0_; have BK433 := n1_; have HB := n2_; have BK439 := n3_; have GW439 := n4_; have GE439 := n5_; have NB433_439 := n6_; have NB439_433 := n7_; clear n0_ n1_ n2_ n3_ n4_ n5_ n6_ n7_; clear hb hbox hg; have hnb13 := NB439_433.out; have hnc13 := NB433_439.out; have hcz14_0 : w12.cell? ⟨gb439, 0, none⟩ = some (.int .i64 0) := cC BK439 0; have hcz14_1 : w12.cell? ⟨gb439, 1, none⟩ = some (.int .i64 0) := cC BK439 1; have hcz14_2 : w12.cell? ⟨gb439, 2, none⟩ = some (.int .i64 0) := cC BK439 2; have hcz14_3 : w12.cell? ⟨gb439, 3, none⟩ = some (.int .i64 0) := cC BK439 3; have hfz14_0 := blk_frozen BK439.out 0; have hfz14_1 := blk_frozen BK439.out 1; have hfz14_2 := blk_frozen BK439.out 2; have hfz14_3 := blk_frozen BK439.out 3))
  (try simp only [Act.put, sA, sZ, sS])
  go_cut [61] (fun v61 wc => ∃ (kq : Nat) (x61_5 : Bool), v61 = .bool x61_5 ∧ Aside0 (laws_FnTrials.j0 kq l0 t425 x61_5 t428 t429 t430 t431 = some r) ∧ Aside0 (kq ≤ k) ∧ Aside0 (Kd.R k62 62 wc w.heap.size (fun _ => True) (.slice Ao10 t425.length co10) t425) ∧ Aside0 (wc.heap[gb433]? = some (.cells #[.int .i64 t428, .int .i64 t429, .int .i64 t430, .int .i64 t431] 27 (0, 0))) ∧ Aside0 (wc.heap[gb439]? = some (.cells #[.int .i64 t434, .int .i64 t435, .int .i64 t436, .int .i64 t437] 27 (0, 0))) ∧ Aside0 (Below w.heap.size w wc))
  case first =>
   have H := HC6.out
   clear HC6
   replace H := Option.bind_eq_some_iff.mp H
   obtain ⟨t440, A150, H⟩ := H
   replace H : (if (t438 != (t440 != 0)) = true then (laws_FnTrials.j0 k l0 t425 true t428 t429 t430 t431) else (if t438 = true then ((impl_IsTrial.f t434 t435 t436 t437).bind fun t441 => (if t441 = true then (if t435 = (wrap64 (t429 + 1)) then (laws_FnTrials.j0 k l0 t425 false t428 t429 t430 t431) else (laws_FnTrials.j0 k l0 t425 true t428 t429 t430 t431)) else (laws_FnTrials.j0 k l0 t425 true t428 t429 t430 t431))) else (laws_FnTrials.j0 k l0 t425 (!(t434 == t428) || (!(t435 == t429) || (!(t436 == t430) || (!(t437 == t431))))) t428 t429 t430 t431))) = some r := H
   have A15 := Aside0.mk A150
   clear A150
   by_cases c16 : (t438 != (t440 != 0)) = true
   ·rw [if_pos c16] at H
    have c16b0 : (t438 != (t440 != 0)) = true := c16
    (try (have c16b1 : decide (t438 = (t440 != 0)) = false := by simpa using c16))
    (try (have c16b2 : (t438 == (t440 != 0)) = false := by simpa using c16))
    (try (have c16b3 : ¬ (t438 = (t440 != 0)) := by simpa using c16))
    clear c16
    (first | rw [c16b0] | (simp only [i64_w, i32_w]; rw [c16b0]) | skip)
    have H' := Aside0.mk H
    clear H
    have hnb17 := NB433_439.out
    have hnc17 := NB439_433.out
    have hcz18_0 : w12.cell? ⟨gb433, 0, none⟩ = some (.int .i64 t428) := cC BK433 0
    have hcz18_1 : w12.cell? ⟨gb433, 1, none⟩ = some (.int .i64 t429) := cC BK433 1
    have hcz18_2 : w12.cell? ⟨gb433, 2, none⟩ = some (.int .i64 t430) := cC BK433 2
    have hcz18_3 : w12.cell? ⟨gb433, 3, none⟩ = some (.int .i64 t431) := cC BK433 3
    have hfz18_0 := blk_frozen BK433.out 0
    have hfz18_1 := blk_frozen BK433.out 1
    have hfz18_2 := blk_frozen BK433.out 2
    have hfz18_3 := blk_frozen BK433.out 3
    go_wp2_with (first | ((with_reducible refine gate_callee (f := 42) rfl ?_); refine goesL_ (some 34) rfl rfl Try.func42 (by kernel_rfl) rfl #[.slice Ao10 t425.length co10, .agg #[.int .i64 t428, .int .i64 t429, .int .i64 t430, .int .i64 t431]] rfl (by (try simp only [mA, mC, mN]); first | done | rfl | (simp only [lD, lT]; rfl)) ?_; (with_reducible refine (impl_NextQuestion.calls k _ _ t425 t428 t429 t430 t431 t440 _ ?side1 ?side2 A15.out).mono ?_); (case side1 => refine (Kd.R_reads' (e := 62) (base := w.heap.size) (ok := fun k_ => True) (n := t425.length) (c := co10) ?_).2.2; exact (by (with_reducible repeat first | apply rA | apply rN | apply rD); exact (far4 HO427 BK439))); (case side2 => exact (Kd.R_reads' HO427.out).2.1); rintro e w19 ⟨rfl, hb⟩; refine ⟨_, rfl, ?_⟩; have n0_ := Aside0.mk (Kd.R_below (by (with_reducible repeat first | apply rA | apply rN | apply rD); exact (far4 HO427 BK439)) hb); have n1_ := Aside0.mk (blk_below (g := gb433) (o := .cells #[.int .i64 t428, .int .i64 t429, .int .i64 t430, .int .i64 t431] 27 (0, 0)) (by (with_reducible repeat first | refine kN ?_ _ | refine kD ?_ | refine kA ?_ _); exact blk4 BK433.out NB433_439) hb); have n2_ := Aside0.mk (blk_below (g := gb439) (o := .cells #[.int .i64 t434, .int .i64 t435, .int .i64 t436, .int .i64 t437] 27 (0, 0)) (by (with_reducible repeat first | refine kN ?_ _ | refine kD ?_ | refine kA ?_ _); refine blk_put (cs := #[.int .i64 t434, .int .i64 t435, .int .i64 t436, .int .i64 0]) ?_ 3 _ rfl; (with_reducible repeat first | refine kN ?_ _ | refine kD ?_ | refine kA ?_ _); refine blk_put (cs := #[.int .i64 t434, .int .i64 t435, .int .i64 0, .int .i64 0]) ?_ 2 _ rfl; (with_reducible repeat first | refine kN ?_ _ | refine kD ?_ | refine kA ?_ _); refine blk_put (cs := #[.int .i64 t434, .int .i64 0, .int .i64 0, .int .i64 0]) ?_ 1 _ rfl; (with_reducible repeat first | refine kN ?_ _ | refine kD ?_ | refine kA ?_ _); refine blk_put (cs := #[.int .i64 0, .int .i64 0, .int .i64 0, .int .i64 0]) ?_ 0 _ rfl; (with_reducible repeat first | refine kN ?_ _ | refine kD ?_ | refine kA ?_ _); exact BK439.out) hb); have n3_ := Aside0.mk (below_step (by repeat first | (with_reducible first | exact HB.out | apply bA | apply bN | apply bD | refine bS ?_ GE433.out | refine bS ?_ GE439.out) | exact HB.out) hb); clear HO427; clear BK433; clear BK439; clear HB; have HO427 := n0_; have BK433 := n1_; have BK439 := n2_; have HB := n3_; clear n0_ n1_ n2_ n3_; (try clear hb); (try clear hb2); (try clear hk); (try clear hi)))
    go_meet
    case rel => exact ⟨_, (true), (by first | rfl | (simp; done) | (simp [*]; done)), H', ⟨by first | omega | exact Nat.le_refl _⟩, ⟨by (with_reducible repeat first | apply rA | apply rN | apply rD); exact HO427.out⟩, ⟨by (with_reducible repeat first | refine kN ?_ _ | refine kD ?_ | refine kA ?_ _); exact BK433.out⟩, ⟨by (with_reducible repeat first | refine kN ?_ _ | refine kD ?_ | refine kA ?_ _); exact BK439.out⟩, ⟨by repeat (first | (with_reducible first | exact HB.out | apply bA | apply bN | apply bD | refine bS ?_ GE433.out | refine bS ?_ GE439.out) | exact HB.out)⟩⟩
   ·rw [if_neg c16] at H
    have c16b0 : (t438 != (t440 != 0)) = false := by simpa using c16
    (try (have c16b1 : decide (t438 = (t440 != 0)) = true := by simpa using c16))
    (try (have c16b2 : (t438 == (t440 != 0)) = true := by simpa using c16))
    clear c16
    (first | rw [c16b0] | (simp only [i64_w, i32_w]; rw [c16b0]) | skip)
    by_cases c20 : t438 = true
    ·subst c20
     have H1 : ((impl_IsTrial.f t434 t435 t436 t437).bind fun t441 => (if t441 = true then (if t435 = (wrap64 (t429 + 1)) then (laws_FnTrials.j0 k l0 t425 false t428 t429 t430 t431) else (laws_FnTrials.j0 k l0 t425 true t428 t429 t430 t431)) else (laws_FnTrials.j0 k l0 t425 true t428 t429 t430 t431))) = some r := by rw [if_pos rfl] at H; exact H
     clear H
     have H := H1
     clear H1
     replace H := Option.bind_eq_some_iff.mp H
     obtain ⟨t441, A210, H⟩ := H
     replace H : (if t441 = true then (if t435 = (wrap64 (t429 + 1)) then (laws_FnTrials.j0 k l0 t425 false t428 t429 t430 t431) else (laws_FnTrials.j0 k l0 t425 true t428 t429 t430 t431)) else (laws_FnTrials.j0 k l0 t425 true t428 t429 t430 t431)) = some r := H
     have A21 := Aside0.mk A210
     clear A210
     by_cases c22 : t441 = true
     ·subst c22
      have H1 : (if t435 = (wrap64 (t429 + 1)) then (laws_FnTrials.j0 k l0 t425 false t428 t429 t430 t431) else (laws_FnTrials.j0 k l0 t425 true t428 t429 t430 t431)) = some r := by rw [if_pos rfl] at H; exact H
      clear H
      have H := H1
      clear H1
      by_cases c23 : t435 = (wrap64 (t429 + 1))
      ·rw [if_pos c23] at H
       have c23b0 : (t435 == (wrap64 (t429 + 1))) = true := beq_iff_eq.mpr c23
       have c23b1 : (t435 != (wrap64 (t429 + 1))) = false := bne_eq_false_iff_eq.mpr c23
       clear c23
       have H' := Aside0.mk H
       clear H
       have hnb24 := NB433_439.out
       have hnc24 := NB439_433.out
       have hcz25_0 : w12.cell? ⟨gb433, 0, none⟩ = some (.int .i64 t428) := cC BK433 0
       have hcz25_1 : w12.cell? ⟨gb433, 1, none⟩ = some (.int .i64 t429) := cC BK433 1
       have hcz25_2 : w12.cell? ⟨gb433, 2, none⟩ = some (.int .i64 t430) := cC BK433 2
       have hcz25_3 : w12.cell? ⟨gb433, 3, none⟩ = some (.int .i64 t431) := cC BK433 3
       have hfz25_0 := blk_frozen BK433.out 0
       have hfz25_1 := blk_frozen BK433.out 1
       have hfz25_2 := blk_frozen BK433.out 2
       have hfz25_3 := blk_frozen BK433.out 3
       go_wp2_with (first | ((with_reducible refine gate_callee (f := 42) rfl ?_); refine goesL_ (some 34) rfl rfl Try.func42 (by kernel_rfl) rfl #[.slice Ao10 t425.length co10, .agg #[.int .i64 t428, .int .i64 t429, .int .i64 t430, .int .i64 t431]] rfl (by (try simp only [mA, mC, mN]); first | done | rfl | (simp only [lD, lT]; rfl)) ?_; (with_reducible refine (impl_NextQuestion.calls k _ _ t425 t428 t429 t430 t431 t440 _ ?side1 ?side2 A15.out).mono ?_); (case side1 => refine (Kd.R_reads' (e := 62) (base := w.heap.size) (ok := fun k_ => True) (n := t425.length) (c := co10) ?_).2.2; exact (by (with_reducible repeat first | apply rA | apply rN | apply rD); exact (far4 HO427 BK439))); (case side2 => exact (Kd.R_reads' HO427.out).2.1); rintro e w26 ⟨rfl, hb⟩; refine ⟨_, rfl, ?_⟩; have n0_ := Aside0.mk (Kd.R_below (by (with_reducible repeat first | apply rA | apply rN | apply rD); exact (far4 HO427 BK439)) hb); have n1_ := Aside0.mk (blk_below (g := gb433) (o := .cells #[.int .i64 t428, .int .i64 t429, .int .i64 t430, .int .i64 t431] 27 (0, 0)) (by (with_reducible repeat first | refine kN ?_ _ | refine kD ?_ | refine kA ?_ _); exact blk4 BK433.out NB433_439) hb); have n2_ := Aside0.mk (blk_below (g := gb439) (o := .cells #[.int .i64 t434, .int .i64 t435, .int .i64 t436, .int .i64 t437] 27 (0, 0)) (by (with_reducible repeat first | refine kN ?_ _ | refine kD ?_ | refine kA ?_ _); refine blk_put (cs := #[.int .i64 t434, .int .i64 t435, .int .i64 t436, .int .i64 0]) ?_ 3 _ rfl; (with_reducible repeat first | refine kN ?_ _ | refine kD ?_ | refine kA ?_ _); refine blk_put (cs := #[.int .i64 t434, .int .i64 t435, .int .i64 0, .int .i64 0]) ?_ 2 _ rfl; (with_reducible repeat first | refine kN ?_ _ | refine kD ?_ | refine kA ?_ _); refine blk_put (cs := #[.int .i64 t434, .int .i64 0, .int .i64 0, .int .i64 0]) ?_ 1 _ rfl; (with_reducible repeat first | refine kN ?_ _ | refine kD ?_ | refine kA ?_ _); refine blk_put (cs := #[.int .i64 0, .int .i64 0, .int .i64 0, .int .i64 0]) ?_ 0 _ rfl; (with_reducible repeat first | refine kN ?_ _ | refine kD ?_ | refine kA ?_ _); exact BK439.out) hb); have n3_ := Aside0.mk (below_step (by repeat first | (with_reducible first | exact HB.out | apply bA | apply bN | apply bD | refine bS ?_ GE433.out | refine bS ?_ GE439.out) | exact HB.out) hb); clear HO427; clear BK433; clear BK439; clear HB; have HO427 := n0_; have BK433 := n1_; have BK439 := n2_; have HB := n3_; clear n0_ n1_ n2_ n3_; (try clear hb); (try clear hb2); (try clear hk); (try clear hi); have hcz27_0 : w26.cell? ⟨gb439, 0, none⟩ = some (.int .i64 t434) := cC BK439 0; have hcz27_1 : w26.cell? ⟨gb439, 1, none⟩ = some (.int .i64 t435) := cC BK439 1; have hcz27_2 : w26.cell? ⟨gb439, 2, none⟩ = some (.int .i64 t436) := cC BK439 2; have hcz27_3 : w26.cell? ⟨gb439, 3, none⟩ = some (.int .i64 t437) := cC BK439 3; have hfz27_0 := blk_frozen BK439.out 0; have hfz27_1 := blk_frozen BK439.out 1; have hfz27_2 := blk_frozen BK439.out 2; have hfz27_3 := blk_frozen BK439.out 3) | (go_at_call 43; (with_reducible refine (impl_IsTrial.calls t434 t435 t436 t437 true _ A21.out).mono ?_); rintro e w28 ⟨rfl, hb⟩; have n0_ := Aside0.mk (Kd.R_below (qR HO427) hb); have n1_ := Aside0.mk (blk_below (qK BK433) hb); have n2_ := Aside0.mk (blk_below (qK BK439) hb); have n3_ := Aside0.mk (below_step (by repeat first | (with_reducible first | exact HB.out | apply bA | apply bN | apply bD | refine bS ?_ GE433.out | refine bS ?_ GE439.out) | exact HB.out) hb); clear HO427; clear BK433; clear BK439; clear HB; have HO427 := n0_; have BK433 := n1_; have BK439 := n2_; have HB := n3_; clear n0_ n1_ n2_ n3_; (try clear hb); (try clear hb2); (try clear hk); (try clear hi); have hcz29_0 : w28.cell? ⟨gb439, 0, none⟩ = some (.int .i64 t434) := cC BK439 0; have hcz29_1 : w28.cell? ⟨gb439, 1, none⟩ = some (.int .i64 t435) := cC BK439 1; have hcz29_2 : w28.cell? ⟨gb439, 2, none⟩ = some (.int .i64 t436) := cC BK439 2; have hcz29_3 : w28.cell? ⟨gb439, 3, none⟩ = some (.int .i64 t437) := cC BK439 3; have hfz29_0 := blk_frozen BK439.out 0; have hfz29_1 := blk_frozen BK439.out 1; have hfz29_2 := blk_frozen BK439.out 2; have hfz29_3 := blk_frozen BK439.out 3; have hcz30_0 : w28.cell? ⟨gb433, 0, none⟩ = some (.int .i64 t428) := cC BK433 0; have hcz30_1 : w28.cell? ⟨gb433, 1, none⟩ = some (.int .i64 t429) := cC BK433 1; have hcz30_2 : w28.cell? ⟨gb433, 2, none⟩ = some (.int .i64 t430) := cC BK433 2; have hcz30_3 : w28.cell? ⟨gb433, 3, none⟩ = some (.int .i64 t431) := cC BK433 3; have hfz30_0 := blk_frozen BK433.out 0; have hfz30_1 := blk_frozen BK433.out 1; have hfz30_2 := blk_frozen BK433.out 2; have hfz30_3 := blk_frozen BK433.out 3))
       go_meet
       case rel => exact ⟨_, (false), (by first | rfl | (simp; done) | (simp [*]; done)), H', ⟨by first | omega | exact Nat.le_refl _⟩, ⟨by (with_reducible repeat first | apply rA | apply rN | apply rD); exact HO427.out⟩, ⟨by (with_reducible repeat first | refine kN ?_ _ | refine kD ?_ | refine kA ?_ _); exact BK433.out⟩, ⟨by (with_reducible repeat first | refine kN ?_ _ | refine kD ?_ | refine kA ?_ _); exact BK439.out⟩, ⟨by repeat (first | (with_reducible first | exact HB.out | apply bA | apply bN | apply bD | refine bS ?_ GE433.out | refine bS ?_ GE439.out) | exact HB.out)⟩⟩
      ·rw [if_neg c23] at H
       have c23b0 : (t435 == (wrap64 (t429 + 1))) = false := beq_eq_false_iff_ne.mpr c23
       have c23b1 : (t435 != (wrap64 (t429 + 1))) = true := bne_iff_ne.mpr c23
       have H' := Aside0.mk H
       clear H
       have hnb31 := NB433_439.out
       have hnc31 := NB439_433.out
       have hcz32_0 : w12.cell? ⟨gb433, 0, none⟩ = some (.int .i64 t428) := cC BK433 0
       have hcz32_1 : w12.cell? ⟨gb433, 1, none⟩ = some (.int .i64 t429) := cC BK433 1
       have hcz32_2 : w12.cell? ⟨gb433, 2, none⟩ = some (.int .i64 t430) := cC BK433 2
       have hcz32_3 : w12.cell? ⟨gb433, 3, none⟩ = some (.int .i64 t431) := cC BK433 3
       have hfz32_0 := blk_frozen BK433.out 0
       have hfz32_1 := blk_frozen BK433.out 1
       have hfz32_2 := blk_frozen BK433.out 2
       have hfz32_3 := blk_frozen BK433.out 3
       go_wp2_with (first | ((with_reducible refine gate_callee (f := 42) rfl ?_); refine goesL_ (some 34) rfl rfl Try.func42 (by kernel_rfl) rfl #[.slice Ao10 t425.length co10, .agg #[.int .i64 t428, .int .i64 t429, .int .i64 t430, .int .i64 t431]] rfl (by (try simp only [mA, mC, mN]); first | done | rfl | (simp only [lD, lT]; rfl)) ?_; (with_reducible refine (impl_NextQuestion.calls k _ _ t425 t428 t429 t430 t431 t440 _ ?side1 ?side2 A15.out).mono ?_); (case side1 => refine (Kd.R_reads' (e := 62) (base := w.heap.size) (ok := fun k_ => True) (n := t425.length) (c := co10) ?_).2.2; exact (by (with_reducible repeat first | apply rA | apply rN | apply rD); exact (far4 HO427 BK439))); (case side2 => exact (Kd.R_reads' HO427.out).2.1); rintro e w33 ⟨rfl, hb⟩; refine ⟨_, rfl, ?_⟩; have n0_ := Aside0.mk (Kd.R_below (by (with_reducible repeat first | apply rA | apply rN | apply rD); exact (far4 HO427 BK439)) hb); have n1_ := Aside0.mk (blk_below (g := gb433) (o := .cells #[.int .i64 t428, .int .i64 t429, .int .i64 t430, .int .i64 t431] 27 (0, 0)) (by (with_reducible repeat first | refine kN ?_ _ | refine kD ?_ | refine kA ?_ _); exact blk4 BK433.out NB433_439) hb); have n2_ := Aside0.mk (blk_below (g := gb439) (o := .cells #[.int .i64 t434, .int .i64 t435, .int .i64 t436, .int .i64 t437] 27 (0, 0)) (by (with_reducible repeat first | refine kN ?_ _ | refine kD ?_ | refine kA ?_ _); refine blk_put (cs := #[.int .i64 t434, .int .i64 t435, .int .i64 t436, .int .i64 0]) ?_ 3 _ rfl; (with_reducible repeat first | refine kN ?_ _ | refine kD ?_ | refine kA ?_ _); refine blk_put (cs := #[.int .i64 t434, .int .i64 t435, .int .i64 0, .int .i64 0]) ?_ 2 _ rfl; (with_reducible repeat first | refine kN ?_ _ | refine kD ?_ | refine kA ?_ _); refine blk_put (cs := #[.int .i64 t434, .int .i64 0, .int .i64 0, .int .i64 0]) ?_ 1 _ rfl; (with_reducible repeat first | refine kN ?_ _ | refine kD ?_ | refine kA ?_ _); refine blk_put (cs := #[.int .i64 0, .int .i64 0, .int .i64 0, .int .i64 0]) ?_ 0 _ rfl; (with_reducible repeat first | refine kN ?_ _ | refine kD ?_ | refine kA ?_ _); exact BK439.out) hb); have n3_ := Aside0.mk (below_step (by repeat first | (with_reducible first | exact HB.out | apply bA | apply bN | apply bD | refine bS ?_ GE433.out | refine bS ?_ GE439.out) | exact HB.out) hb); clear HO427; clear BK433; clear BK439; clear HB; have HO427 := n0_; have BK433 := n1_; have BK439 := n2_; have HB := n3_; clear n0_ n1_ n2_ n3_; (try clear hb); (try clear hb2); (try clear hk); (try clear hi); have hcz34_0 : w33.cell? ⟨gb439, 0, none⟩ = some (.int .i64 t434) := cC BK439 0; have hcz34_1 : w33.cell? ⟨gb439, 1, none⟩ = some (.int .i64 t435) := cC BK439 1; have hcz34_2 : w33.cell? ⟨gb439, 2, none⟩ = some (.int .i64 t436) := cC BK439 2; have hcz34_3 : w33.cell? ⟨gb439, 3, none⟩ = some (.int .i64 t437) := cC BK439 3; have hfz34_0 := blk_frozen BK439.out 0; have hfz34_1 := blk_frozen BK439.out 1; have hfz34_2 := blk_frozen BK439.out 2; have hfz34_3 := blk_frozen BK439.out 3) | (go_at_call 43; (with_reducible refine (impl_IsTrial.calls t434 t435 t436 t437 true _ A21.out).mono ?_); rintro e w35 ⟨rfl, hb⟩; have n0_ := Aside0.mk (Kd.R_below (qR HO427) hb); have n1_ := Aside0.mk (blk_below (qK BK433) hb); have n2_ := Aside0.mk (blk_below (qK BK439) hb); have n3_ := Aside0.mk (below_step (by repeat first | (with_reducible first | exact HB.out | apply bA | apply bN | apply bD | refine bS ?_ GE433.out | refine bS ?_ GE439.out) | exact HB.out) hb); clear HO427; clear BK433; clear BK439; clear HB; have HO427 := n0_; have BK433 := n1_; have BK439 := n2_; have HB := n3_; clear n0_ n1_ n2_ n3_; (try clear hb); (try clear hb2); (try clear hk); (try clear hi); have hcz36_0 : w35.cell? ⟨gb439, 0, none⟩ = some (.int .i64 t434) := cC BK439 0; have hcz36_1 : w35.cell? ⟨gb439, 1, none⟩ = some (.int .i64 t435) := cC BK439 1; have hcz36_2 : w35.cell? ⟨gb439, 2, none⟩ = some (.int .i64 t436) := cC BK439 2; have hcz36_3 : w35.cell? ⟨gb439, 3, none⟩ = some (.int .i64 t437) := cC BK439 3; have hfz36_0 := blk_frozen BK439.out 0; have hfz36_1 := blk_frozen BK439.out 1; have hfz36_2 := blk_frozen BK439.out 2; have hfz36_3 := blk_frozen BK439.out 3; have hcz37_0 : w35.cell? ⟨gb433, 0, none⟩ = some (.int .i64 t428) := cC BK433 0; have hcz37_1 : w35.cell? ⟨gb433, 1, none⟩ = some (.int .i64 t429) := cC BK433 1; have hcz37_2 : w35.cell? ⟨gb433, 2, none⟩ = some (.int .i64 t430) := cC BK433 2; have hcz37_3 : w35.cell? ⟨gb433, 3, none⟩ = some (.int .i64 t431) := cC BK433 3; have hfz37_0 := blk_frozen BK433.out 0; have hfz37_1 := blk_frozen BK433.out 1; have hfz37_2 := blk_frozen BK433.out 2; have hfz37_3 := blk_frozen BK433.out 3))
       go_meet
       case rel => exact ⟨_, (true), (by first | rfl | (simp; done) | (simp [*]; done)), H', ⟨by first | omega | exact Nat.le_refl _⟩, ⟨by (with_reducible repeat first | apply rA | apply rN | apply rD); exact HO427.out⟩, ⟨by (with_reducible repeat first | refine kN ?_ _ | refine kD ?_ | refine kA ?_ _); exact BK433.out⟩, ⟨by (with_reducible repeat first | refine kN ?_ _ | refine kD ?_ | refine kA ?_ _); exact BK439.out⟩, ⟨by repeat (first | (with_reducible first | exact HB.out | apply bA | apply bN | apply bD | refine bS ?_ GE433.out | refine bS ?_ GE439.out) | exact HB.out)⟩⟩
     ·replace c22 := Bool.eq_false_iff.mpr c22
      subst c22
      have H1 : (laws_FnTrials.j0 k l0 t425 true t428 t429 t430 t431) = some r := by rw [if_neg (show ¬ (false = true) by decide)] at H; exact H
      clear H
      have H := H1
      clear H1
      have H' := Aside0.mk H
      clear H
      have hnb38 := NB433_439.out
      have hnc38 := NB439_433.out
      have hcz39_0 : w12.cell? ⟨gb433, 0, none⟩ = some (.int .i64 t428) := cC BK433 0
      have hcz39_1 : w12.cell? ⟨gb433, 1, none⟩ = some (.int .i64 t429) := cC BK433 1
      have hcz39_2 : w12.cell? ⟨gb433, 2, none⟩ = some (.int .i64 t430) := cC BK433 2
      have hcz39_3 : w12.cell? ⟨gb433, 3, none⟩ = some (.int .i64 t431) := cC BK433 3
      have hfz39_0 := blk_frozen BK433.out 0
      have hfz39_1 := blk_frozen BK433.out 1
      have hfz39_2 := blk_frozen BK433.out 2
      have hfz39_3 := blk_frozen BK433.out 3
      go_wp2_with (first | ((with_reducible refine gate_callee (f := 42) rfl ?_); refine goesL_ (some 34) rfl rfl Try.func42 (by kernel_rfl) rfl #[.slice Ao10 t425.length co10, .agg #[.int .i64 t428, .int .i64 t429, .int .i64 t430, .int .i64 t431]] rfl (by (try simp only [mA, mC, mN]); first | done | rfl | (simp only [lD, lT]; rfl)) ?_; (with_reducible refine (impl_NextQuestion.calls k _ _ t425 t428 t429 t430 t431 t440 _ ?side1 ?side2 A15.out).mono ?_); (case side1 => refine (Kd.R_reads' (e := 62) (base := w.heap.size) (ok := fun k_ => True) (n := t425.length) (c := co10) ?_).2.2; exact (by (with_reducible repeat first | apply rA | apply rN | apply rD); exact (far4 HO427 BK439))); (case side2 => exact (Kd.R_reads' HO427.out).2.1); rintro e w40 ⟨rfl, hb⟩; refine ⟨_, rfl, ?_⟩; have n0_ := Aside0.mk (Kd.R_below (by (with_reducible repeat first | apply rA | apply rN | apply rD); exact (far4 HO427 BK439)) hb); have n1_ := Aside0.mk (blk_below (g := gb433) (o := .cells #[.int .i64 t428, .int .i64 t429, .int .i64 t430, .int .i64 t431] 27 (0, 0)) (by (with_reducible repeat first | refine kN ?_ _ | refine kD ?_ | refine kA ?_ _); exact blk4 BK433.out NB433_439) hb); have n2_ := Aside0.mk (blk_below (g := gb439) (o := .cells #[.int .i64 t434, .int .i64 t435, .int .i64 t436, .int .i64 t437] 27 (0, 0)) (by (with_reducible repeat first | refine kN ?_ _ | refine kD ?_ | refine kA ?_ _); refine blk_put (cs := #[.int .i64 t434, .int .i64 t435, .int .i64 t436, .int .i64 0]) ?_ 3 _ rfl; (with_reducible repeat first | refine kN ?_ _ | refine kD ?_ | refine kA ?_ _); refine blk_put (cs := #[.int .i64 t434, .int .i64 t435, .int .i64 0, .int .i64 0]) ?_ 2 _ rfl; (with_reducible repeat first | refine kN ?_ _ | refine kD ?_ | refine kA ?_ _); refine blk_put (cs := #[.int .i64 t434, .int .i64 0, .int .i64 0, .int .i64 0]) ?_ 1 _ rfl; (with_reducible repeat first | refine kN ?_ _ | refine kD ?_ | refine kA ?_ _); refine blk_put (cs := #[.int .i64 0, .int .i64 0, .int .i64 0, .int .i64 0]) ?_ 0 _ rfl; (with_reducible repeat first | refine kN ?_ _ | refine kD ?_ | refine kA ?_ _); exact BK439.out) hb); have n3_ := Aside0.mk (below_step (by repeat first | (with_reducible first | exact HB.out | apply bA | apply bN | apply bD | refine bS ?_ GE433.out | refine bS ?_ GE439.out) | exact HB.out) hb); clear HO427; clear BK433; clear BK439; clear HB; have HO427 := n0_; have BK433 := n1_; have BK439 := n2_; have HB := n3_; clear n0_ n1_ n2_ n3_; (try clear hb); (try clear hb2); (try clear hk); (try clear hi); have hcz41_0 : w40.cell? ⟨gb439, 0, none⟩ = some (.int .i64 t434) := cC BK439 0; have hcz41_1 : w40.cell? ⟨gb439, 1, none⟩ = some (.int .i64 t435) := cC BK439 1; have hcz41_2 : w40.cell? ⟨gb439, 2, none⟩ = some (.int .i64 t436) := cC BK439 2; have hcz41_3 : w40.cell? ⟨gb439, 3, none⟩ = some (.int .i64 t437) := cC BK439 3; have hfz41_0 := blk_frozen BK439.out 0; have hfz41_1 := blk_frozen BK439.out 1; have hfz41_2 := blk_frozen BK439.out 2; have hfz41_3 := blk_frozen BK439.out 3) | (go_at_call 43; (with_reducible refine (impl_IsTrial.calls t434 t435 t436 t437 false _ A21.out).mono ?_); rintro e w42 ⟨rfl, hb⟩; have n0_ := Aside0.mk (Kd.R_below (qR HO427) hb); have n1_ := Aside0.mk (blk_below (qK BK433) hb); have n2_ := Aside0.mk (blk_below (qK BK439) hb); have n3_ := Aside0.mk (below_step (by repeat first | (with_reducible first | exact HB.out | apply bA | apply bN | apply bD | refine bS ?_ GE433.out | refine bS ?_ GE439.out) | exact HB.out) hb); clear HO427; clear BK433; clear BK439; clear HB; have HO427 := n0_; have BK433 := n1_; have BK439 := n2_; have HB := n3_; clear n0_ n1_ n2_ n3_; (try clear hb); (try clear hb2); (try clear hk); (try clear hi)))
      go_meet
      case rel => exact ⟨_, (true), (by first | rfl | (simp; done) | (simp [*]; done)), H', ⟨by first | omega | exact Nat.le_refl _⟩, ⟨by (with_reducible repeat first | apply rA | apply rN | apply rD); exact HO427.out⟩, ⟨by (with_reducible repeat first | refine kN ?_ _ | refine kD ?_ | refine kA ?_ _); exact BK433.out⟩, ⟨by (with_reducible repeat first | refine kN ?_ _ | refine kD ?_ | refine kA ?_ _); exact BK439.out⟩, ⟨by repeat (first | (with_reducible first | exact HB.out | apply bA | apply bN | apply bD | refine bS ?_ GE433.out | refine bS ?_ GE439.out) | exact HB.out)⟩⟩
    ·replace c20 := Bool.eq_false_iff.mpr c20
     subst c20
     have H1 : (laws_FnTrials.j0 k l0 t425 (!(t434 == t428) || (!(t435 == t429) || (!(t436 == t430) || (!(t437 == t431))))) t428 t429 t430 t431) = some r := by rw [if_neg (show ¬ (false = true) by decide)] at H; exact H
     clear H
     have H := H1
     clear H1
     have H' := Aside0.mk H
     clear H
     have hnb43 := NB433_439.out
     have hnc43 := NB439_433.out
     have hcz44_0 : w12.cell? ⟨gb433, 0, none⟩ = some (.int .i64 t428) := cC BK433 0
     have hcz44_1 : w12.cell? ⟨gb433, 1, none⟩ = some (.int .i64 t429) := cC BK433 1
     have hcz44_2 : w12.cell? ⟨gb433, 2, none⟩ = some (.int .i64 t430) := cC BK433 2
     have hcz44_3 : w12.cell? ⟨gb433, 3, none⟩ = some (.int .i64 t431) := cC BK433 3
     have hfz44_0 := blk_frozen BK433.out 0
     have hfz44_1 := blk_frozen BK433.out 1
     have hfz44_2 := blk_frozen BK433.out 2
     have hfz44_3 := blk_frozen BK433.out 3
     go_wp2_with (first | ((with_reducible refine gate_callee (f := 42) rfl ?_); refine goesL_ (some 34) rfl rfl Try.func42 (by kernel_rfl) rfl #[.slice Ao10 t425.length co10, .agg #[.int .i64 t428, .int .i64 t429, .int .i64 t430, .int .i64 t431]] rfl (by (try simp only [mA, mC, mN]); first | done | rfl | (simp only [lD, lT]; rfl)) ?_; (with_reducible refine (impl_NextQuestion.calls k _ _ t425 t428 t429 t430 t431 t440 _ ?side1 ?side2 A15.out).mono ?_); (case side1 => refine (Kd.R_reads' (e := 62) (base := w.heap.size) (ok := fun k_ => True) (n := t425.length) (c := co10) ?_).2.2; exact (by (with_reducible repeat first | apply rA | apply rN | apply rD); exact (far4 HO427 BK439))); (case side2 => exact (Kd.R_reads' HO427.out).2.1); rintro e w45 ⟨rfl, hb⟩; refine ⟨_, rfl, ?_⟩; have n0_ := Aside0.mk (Kd.R_below (by (with_reducible repeat first | apply rA | apply rN | apply rD); exact (far4 HO427 BK439)) hb); have n1_ := Aside0.mk (blk_below (g := gb433) (o := .cells #[.int .i64 t428, .int .i64 t429, .int .i64 t430, .int .i64 t431] 27 (0, 0)) (by (with_reducible repeat first | refine kN ?_ _ | refine kD ?_ | refine kA ?_ _); exact blk4 BK433.out NB433_439) hb); have n2_ := Aside0.mk (blk_below (g := gb439) (o := .cells #[.int .i64 t434, .int .i64 t435, .int .i64 t436, .int .i64 t437] 27 (0, 0)) (by (with_reducible repeat first | refine kN ?_ _ | refine kD ?_ | refine kA ?_ _); refine blk_put (cs := #[.int .i64 t434, .int .i64 t435, .int .i64 t436, .int .i64 0]) ?_ 3 _ rfl; (with_reducible repeat first | refine kN ?_ _ | refine kD ?_ | refine kA ?_ _); refine blk_put (cs := #[.int .i64 t434, .int .i64 t435, .int .i64 0, .int .i64 0]) ?_ 2 _ rfl; (with_reducible repeat first | refine kN ?_ _ | refine kD ?_ | refine kA ?_ _); refine blk_put (cs := #[.int .i64 t434, .int .i64 0, .int .i64 0, .int .i64 0]) ?_ 1 _ rfl; (with_reducible repeat first | refine kN ?_ _ | refine kD ?_ | refine kA ?_ _); refine blk_put (cs := #[.int .i64 0, .int .i64 0, .int .i64 0, .int .i64 0]) ?_ 0 _ rfl; (with_reducible repeat first | refine kN ?_ _ | refine kD ?_ | refine kA ?_ _); exact BK439.out) hb); have n3_ := Aside0.mk (below_step (by repeat first | (with_reducible first | exact HB.out | apply bA | apply bN | apply bD | refine bS ?_ GE433.out | refine bS ?_ GE439.out) | exact HB.out) hb); clear HO427; clear BK433; clear BK439; clear HB; have HO427 := n0_; have BK433 := n1_; have BK439 := n2_; have HB := n3_; clear n0_ n1_ n2_ n3_; (try clear hb); (try clear hb2); (try clear hk); (try clear hi); have hcz46_0 : w45.cell? ⟨gb439, 0, none⟩ = some (.int .i64 t434) := cC BK439 0; have hcz46_1 : w45.cell? ⟨gb439, 1, none⟩ = some (.int .i64 t435) := cC BK439 1; have hcz46_2 : w45.cell? ⟨gb439, 2, none⟩ = some (.int .i64 t436) := cC BK439 2; have hcz46_3 : w45.cell? ⟨gb439, 3, none⟩ = some (.int .i64 t437) := cC BK439 3; have hfz46_0 := blk_frozen BK439.out 0; have hfz46_1 := blk_frozen BK439.out 1; have hfz46_2 := blk_frozen BK439.out 2; have hfz46_3 := blk_frozen BK439.out 3; have hcz47_0 : w45.cell? ⟨gb433, 0, none⟩ = some (.int .i64 t428) := cC BK433 0; have hcz47_1 : w45.cell? ⟨gb433, 1, none⟩ = some (.int .i64 t429) := cC BK433 1; have hcz47_2 : w45.cell? ⟨gb433, 2, none⟩ = some (.int .i64 t430) := cC BK433 2; have hcz47_3 : w45.cell? ⟨gb433, 3, none⟩ = some (.int .i64 t431) := cC BK433 3; have hfz47_0 := blk_frozen BK433.out 0; have hfz47_1 := blk_frozen BK433.out 1; have hfz47_2 := blk_frozen BK433.out 2; have hfz47_3 := blk_frozen BK433.out 3))
     go_meet
     case rel => exact ⟨_, ((!(t434 == t428) || (!(t435 == t429) || (!(t436 == t430) || (!(t437 == t431)))))), (by first | rfl | (simp; done) | (simp [*]; done)), H', ⟨by first | omega | exact Nat.le_refl _⟩, ⟨by (with_reducible repeat first | apply rA | apply rN | apply rD); exact HO427.out⟩, ⟨by (with_reducible repeat first | refine kN ?_ _ | refine kD ?_ | refine kA ?_ _); exact BK433.out⟩, ⟨by (with_reducible repeat first | refine kN ?_ _ | refine kD ?_ | refine kA ?_ _); exact BK439.out⟩, ⟨by repeat (first | (with_reducible first | exact HB.out | apply bA | apply bN | apply bD | refine bS ?_ GE433.out | refine bS ?_ GE439.out) | exact HB.out)⟩⟩
  case rest =>
   clear HC6
   try clear c1
   try clear c2
   try clear p2
   try clear c3
   try clear c4
   try clear c6
   try clear p6
   try clear c13
   try clear c16
   try clear c16b0
   try clear c16b1
   try clear c16b2
   try clear c17
   try clear c20
   try clear c22
   try clear c23
   try clear c23b0
   try clear c23b1
   try clear c24
   try clear c30
   try clear c31
   try clear c38
   try clear c40
   try clear c41
   try clear c42
   try clear c43
   try clear hcz14_0
   try clear hcz14_1
   try clear hcz14_2
   try clear hcz14_3
   try clear hcz18_0
   try clear hcz18_1
   try clear hcz18_2
   try clear hcz18_3
   try clear hcz25_0
   try clear hcz25_1
   try clear hcz25_2
   try clear hcz25_3
   try clear hcz27_0
   try clear hcz27_1
   try clear hcz27_2
   try clear hcz27_3
   try clear hcz29_0
   try clear hcz29_1
   try clear hcz29_2
   try clear hcz29_3
   try clear hcz30_0
   try clear hcz30_1
   try clear hcz30_2
   try clear hcz30_3
   try clear hcz32_0
   try clear hcz32_1
   try clear hcz32_2
   try clear hcz32_3
   try clear hcz34_0
   try clear hcz34_1
   try clear hcz34_2
   try clear hcz34_3
   try clear hcz36_0
   try clear hcz36_1
   try clear hcz36_2
   try clear hcz36_3
   try clear hcz37_0
   try clear hcz37_1
   try clear hcz37_2
   try clear hcz37_3
   try clear hcz39_0
   try clear hcz39_1
   try clear hcz39_2
   try clear hcz39_3
   try clear hcz41_0
   try clear hcz41_1
   try clear hcz41_2
   try clear hcz41_3
   try clear hcz44_0
   try clear hcz44_1
   try clear hcz44_2
   try clear hcz44_3
   try clear hcz46_0
   try clear hcz46_1
   try clear hcz46_2
   try clear hcz46_3
   try clear hcz47_0
   try clear hcz47_1
   try clear hcz47_2
   try clear hcz47_3
   try clear hcz9_0
   try clear hcz9_1
   try clear hcz9_2
   try clear hcz9_3
   try clear hfz14_0
   try clear hfz14_1
   try clear hfz14_2
   try clear hfz14_3
   try clear hfz18_0
   try clear hfz18_1
   try clear hfz18_2
   try clear hfz18_3
   try clear hfz25_0
   try clear hfz25_1
   try clear hfz25_2
   try clear hfz25_3
   try clear hfz27_0
   try clear hfz27_1
   try clear hfz27_2
   try clear hfz27_3
   try clear hfz29_0
   try clear hfz29_1
   try clear hfz29_2
   try clear hfz29_3
   try clear hfz30_0
   try clear hfz30_1
   try clear hfz30_2
   try clear hfz30_3
   try clear hfz32_0
   try clear hfz32_1
   try clear hfz32_2
   try clear hfz32_3
   try clear hfz34_0
   try clear hfz34_1
   try clear hfz34_2
   try clear hfz34_3
   try clear hfz36_0
   try clear hfz36_1
   try clear hfz36_2
   try clear hfz36_3
   try clear hfz37_0
   try clear hfz37_1
   try clear hfz37_2
   try clear hfz37_3
   try clear hfz39_0
   try clear hfz39_1
   try clear hfz39_2
   try clear hfz39_3
   try clear hfz41_0
   try clear hfz41_1
   try clear hfz41_2
   try clear hfz41_3
   try clear hfz44_0
   try clear hfz44_1
   try clear hfz44_2
   try clear hfz44_3
   try clear hfz46_0
   try clear hfz46_1
   try clear hfz46_2
   try clear hfz46_3
   try clear hfz47_0
   try clear hfz47_1
   try clear hfz47_2
   try clear hfz47_3
   try clear hfz9_0
   try clear hfz9_1
   try clear hfz9_2
   try clear hfz9_3
   obtain ⟨kq, x61_5, rfl, HA, HJ5, HO_3, BK433, BK439, HB⟩ := hcut
   cases kq with
   | zero => exact absurd HA.out (by simp [laws_FnTrials.j0])
   | succ kj5 =>
    have H := HA.out
    clear HA
    simp only [laws_FnTrials.j0] at H
    by_cases c48 : x61_5 = true
    ·subst c48
     have H1 : (some false) = some r := by rw [if_pos rfl] at H; exact H
     clear H
     have H := H1
     clear H1
     obtain rfl := Option.some.inj H
     go_wp2
     go_ret
     exact ⟨by first | rfl | (simp [errW_none, errW_some] <;> rfl) | (simp [*, errW_none, errW_some] <;> rfl), by repeat (first | (with_reducible first | exact HB.out | apply bA | apply bN | apply bD | refine bS ?_ GE433.out | refine bS ?_ GE439.out) | exact HB.out)⟩
    ·replace c48 := Bool.eq_false_iff.mpr c48
     subst c48
     have H1 : ((impl_TrialState.f kj5 t425 t428 t429 t430 t431).bind fun t442 => (if t442 = 0 then (laws_FnTrials.j1 kj5 l0 t425 false) else ((impl_NextQuestion.f kj5 t425 t428 t429 t430 t431).bind fun t443 => (laws_FnTrials.j1 kj5 l0 t425 (t443 != 0))))) = some r := by rw [if_neg (show ¬ (false = true) by decide)] at H; exact H
     clear H
     have H := H1
     clear H1
     replace H := Option.bind_eq_some_iff.mp H
     obtain ⟨t442, A490, H⟩ := H
     replace H : (if t442 = 0 then (laws_FnTrials.j1 kj5 l0 t425 false) else ((impl_NextQuestion.f kj5 t425 t428 t429 t430 t431).bind fun t443 => (laws_FnTrials.j1 kj5 l0 t425 (t443 != 0)))) = some r := H
     have A49 := Aside0.mk A490
     clear A490
     have HC50 := Aside0.mk H
     clear H
     have hnb51 := NB433_439.out
     have hnc51 := NB439_433.out
     have hcz52_0 : wc.cell? ⟨gb433, 0, none⟩ = some (.int .i64 t428) := cC BK433 0
     have hcz52_1 : wc.cell? ⟨gb433, 1, none⟩ = some (.int .i64 t429) := cC BK433 1
     have hcz52_2 : wc.cell? ⟨gb433, 2, none⟩ = some (.int .i64 t430) := cC BK433 2
     have hcz52_3 : wc.cell? ⟨gb433, 3, none⟩ = some (.int .i64 t431) := cC BK433 3
     have hfz52_0 := blk_frozen BK433.out 0
     have hfz52_1 := blk_frozen BK433.out 1
     have hfz52_2 := blk_frozen BK433.out 2
     have hfz52_3 := blk_frozen BK433.out 3
     go_upto_region 8 with (first | ((with_reducible refine gate_callee (f := 44) rfl ?_); refine goesL_ (some 64) rfl rfl Try.func44 (by kernel_rfl) rfl #[.slice Ao10 t425.length co10, .agg #[.int .i64 t428, .int .i64 t429, .int .i64 t430, .int .i64 t431]] rfl (by (try simp only [mA, mC, mN]); first | done | rfl | (simp only [lD, lT]; rfl)) ?_; (with_reducible refine (impl_TrialState.calls kj5 _ _ t425 t428 t429 t430 t431 t442 _ ?side1 ?side2 A49.out).mono ?_); (case side1 => repeat (first | exact (Kd.R_reads' HO_3.out).2.2 | (with_reducible refine Kd.C_alloc ?_ _) | (with_reducible refine Kd.C_drewN ?_ _) | (with_reducible refine Kd.C_drew ?_))); (case side2 => exact (Kd.R_reads' HO_3.out).2.1); rintro e w53 ⟨rfl, hb⟩; refine ⟨_, rfl, ?_⟩; have n0_ := Aside0.mk (Kd.R_below (qR HO_3) hb); have n1_ := Aside0.mk (blk_below (qK BK433) hb); have n2_ := Aside0.mk (blk_below (qK BK439) hb); have n3_ := Aside0.mk (below_step (by repeat first | (with_reducible first | exact HB.out | apply bA | apply bN | apply bD | refine bS ?_ GE433.out | refine bS ?_ GE439.out) | exact HB.out) hb); clear HO_3; clear BK433; clear BK439; clear HB; have HO_3 := n0_; have BK433 := n1_; have BK439 := n2_; have HB := n3_; clear n0_ n1_ n2_ n3_; (try clear hb); (try clear hb2); (try clear hk); (try clear hi)))
     (try simp only [Act.put, sA, sZ, sS])
     go_cut [72] (fun v72 wc => ∃ (kq : Nat) (x72_49 : Bool), v72 = .bool x72_49 ∧ Aside0 (laws_FnTrials.j1 kq l0 t425 x72_49 = some r) ∧ Aside0 (kq ≤ kj5) ∧ Aside0 (Kd.R k62 62 wc w.heap.size (fun _ => True) (.slice Ao10 t425.length co10) t425) ∧ Aside0 (wc.heap[gb433]? = some (.cells #[.int .i64 t428, .int .i64 t429, .int .i64 t430, .int .i64 t431] 27 (0, 0))) ∧ Aside0 (wc.heap[gb439]? = some (.cells #[.int .i64 t434, .int .i64 t435, .int .i64 t436, .int .i64 t437] 27 (0, 0))) ∧ Aside0 (Below w.heap.size w wc))
     case first =>
      have H := HC50.out
      clear HC50
      by_cases c54 : t442 = 0
      ·rw [if_pos c54] at H
       have c54b0 : (t442 == 0) = true := beq_iff_eq.mpr c54
       have c54b1 : (t442 != 0) = false := bne_eq_false_iff_eq.mpr c54
       clear c54
       (first | rw [c54b0] | (simp only [i64_w, i32_w]; rw [c54b0]) | skip)
       have H' := Aside0.mk H
       clear H
       go_wp2
       go_meet
       case rel => exact ⟨_, (false), (by first | rfl | (simp; done) | (simp [*]; done)), H', ⟨by have := HJ5.out; first | omega | exact Nat.le_refl _⟩, ⟨by (with_reducible repeat first | apply rA | apply rN | apply rD); exact HO_3.out⟩, ⟨by (with_reducible repeat first | refine kN ?_ _ | refine kD ?_ | refine kA ?_ _); exact BK433.out⟩, ⟨by (with_reducible repeat first | refine kN ?_ _ | refine kD ?_ | refine kA ?_ _); exact BK439.out⟩, ⟨by repeat (first | (with_reducible first | exact HB.out | apply bA | apply bN | apply bD | refine bS ?_ GE433.out | refine bS ?_ GE439.out) | exact HB.out)⟩⟩
      ·rw [if_neg c54] at H
       have c54b0 : (t442 == 0) = false := beq_eq_false_iff_ne.mpr c54
       have c54b1 : (t442 != 0) = true := bne_iff_ne.mpr c54
       (first | rw [c54b0] | (simp only [i64_w, i32_w]; rw [c54b0]) | skip)
       replace H := Option.bind_eq_some_iff.mp H
       obtain ⟨t443, A550, H⟩ := H
       replace H : (laws_FnTrials.j1 kj5 l0 t425 (t443 != 0)) = some r := H
       have A55 := Aside0.mk A550
       clear A550
       have H' := Aside0.mk H
       clear H
       have hnb56 := NB433_439.out
       have hnc56 := NB439_433.out
       have hcz57_0 : w53.cell? ⟨gb433, 0, none⟩ = some (.int .i64 t428) := cC BK433 0
       have hcz57_1 : w53.cell? ⟨gb433, 1, none⟩ = some (.int .i64 t429) := cC BK433 1
       have hcz57_2 : w53.cell? ⟨gb433, 2, none⟩ = some (.int .i64 t430) := cC BK433 2
       have hcz57_3 : w53.cell? ⟨gb433, 3, none⟩ = some (.int .i64 t431) := cC BK433 3
       have hfz57_0 := blk_frozen BK433.out 0
       have hfz57_1 := blk_frozen BK433.out 1
       have hfz57_2 := blk_frozen BK433.out 2
       have hfz57_3 := blk_frozen BK433.out 3
       go_wp2_with (first | (go_at_call 42; (with_reducible refine (impl_NextQuestion.calls kj5 _ _ t425 t428 t429 t430 t431 t443 _ ?side1 ?side2 A55.out).mono ?_); (case side1 => repeat (first | exact (Kd.R_reads' HO_3.out).2.2 | (with_reducible refine Kd.C_alloc ?_ _) | (with_reducible refine Kd.C_drewN ?_ _) | (with_reducible refine Kd.C_drew ?_))); (case side2 => exact (Kd.R_reads' HO_3.out).2.1); rintro e w58 ⟨rfl, hb⟩; have n0_ := Aside0.mk (Kd.R_below (qR HO_3) hb); have n1_ := Aside0.mk (blk_below (qK BK433) hb); have n2_ := Aside0.mk (blk_below (qK BK439) hb); have n3_ := Aside0.mk (below_step (by repeat first | (with_reducible first | exact HB.out | apply bA | apply bN | apply bD | refine bS ?_ GE433.out | refine bS ?_ GE439.out) | exact HB.out) hb); clear HO_3; clear BK433; clear BK439; clear HB; have HO_3 := n0_; have BK433 := n1_; have BK439 := n2_; have HB := n3_; clear n0_ n1_ n2_ n3_; (try clear hb); (try clear hb2); (try clear hk); (try clear hi)))
       go_meet
       case rel => exact ⟨_, ((t443 != 0)), (by first | rfl | (simp; done) | (simp [*]; done)), H', ⟨by have := HJ5.out; first | omega | exact Nat.le_refl _⟩, ⟨by (with_reducible repeat first | apply rA | apply rN | apply rD); exact HO_3.out⟩, ⟨by (with_reducible repeat first | refine kN ?_ _ | refine kD ?_ | refine kA ?_ _); exact BK433.out⟩, ⟨by (with_reducible repeat first | refine kN ?_ _ | refine kD ?_ | refine kA ?_ _); exact BK439.out⟩, ⟨by repeat (first | (with_reducible first | exact HB.out | apply bA | apply bN | apply bD | refine bS ?_ GE433.out | refine bS ?_ GE439.out) | exact HB.out)⟩⟩
     case rest =>
      clear HC50
      try clear c1
      try clear c2
      try clear p2
      try clear c3
      try clear c4
      try clear c5
      try clear c6
      try clear p6
      try clear c13
      try clear c16
      try clear c16b0
      try clear c16b1
      try clear c16b2
      try clear c17
      try clear c20
      try clear c22
      try clear c23
      try clear c23b0
      try clear c23b1
      try clear c24
      try clear c30
      try clear c31
      try clear c38
      try clear c40
      try clear c41
      try clear c42
      try clear c43
      try clear c44
      try clear c48
      try clear c51
      try clear c54
      try clear c54b0
      try clear c54b1
      try clear c56
      try clear hcz14_0
      try clear hcz14_1
      try clear hcz14_2
      try clear hcz14_3
      try clear hcz18_0
      try clear hcz18_1
      try clear hcz18_2
      try clear hcz18_3
      try clear hcz25_0
      try clear hcz25_1
      try clear hcz25_2
      try clear hcz25_3
      try clear hcz27_0
      try clear hcz27_1
      try clear hcz27_2
      try clear hcz27_3
      try clear hcz29_0
      try clear hcz29_1
      try clear hcz29_2
      try clear hcz29_3
      try clear hcz30_0
      try clear hcz30_1
      try clear hcz30_2
      try clear hcz30_3
      try clear hcz32_0
      try clear hcz32_1
      try clear hcz32_2
      try clear hcz32_3
      try clear hcz34_0
      try clear hcz34_1
      try clear hcz34_2
      try clear hcz34_3
      try clear hcz36_0
      try clear hcz36_1
      try clear hcz36_2
      try clear hcz36_3
      try clear hcz37_0
      try clear hcz37_1
      try clear hcz37_2
      try clear hcz37_3
      try clear hcz39_0
      try clear hcz39_1
      try clear hcz39_2
      try clear hcz39_3
      try clear hcz41_0
      try clear hcz41_1
      try clear hcz41_2
      try clear hcz41_3
      try clear hcz44_0
      try clear hcz44_1
      try clear hcz44_2
      try clear hcz44_3
      try clear hcz46_0
      try clear hcz46_1
      try clear hcz46_2
      try clear hcz46_3
      try clear hcz47_0
      try clear hcz47_1
      try clear hcz47_2
      try clear hcz47_3
      try clear hcz52_0
      try clear hcz52_1
      try clear hcz52_2
      try clear hcz52_3
      try clear hcz57_0
      try clear hcz57_1
      try clear hcz57_2
      try clear hcz57_3
      try clear hcz9_0
      try clear hcz9_1
      try clear hcz9_2
      try clear hcz9_3
      try clear hfz14_0
      try clear hfz14_1
      try clear hfz14_2
      try clear hfz14_3
      try clear hfz18_0
      try clear hfz18_1
      try clear hfz18_2
      try clear hfz18_3
      try clear hfz25_0
      try clear hfz25_1
      try clear hfz25_2
      try clear hfz25_3
      try clear hfz27_0
      try clear hfz27_1
      try clear hfz27_2
      try clear hfz27_3
      try clear hfz29_0
      try clear hfz29_1
      try clear hfz29_2
      try clear hfz29_3
      try clear hfz30_0
      try clear hfz30_1
      try clear hfz30_2
      try clear hfz30_3
      try clear hfz32_0
      try clear hfz32_1
      try clear hfz32_2
      try clear hfz32_3
      try clear hfz34_0
      try clear hfz34_1
      try clear hfz34_2
      try clear hfz34_3
      try clear hfz36_0
      try clear hfz36_1
      try clear hfz36_2
      try clear hfz36_3
      try clear hfz37_0
      try clear hfz37_1
      try clear hfz37_2
      try clear hfz37_3
      try clear hfz39_0
      try clear hfz39_1
      try clear hfz39_2
      try clear hfz39_3
      try clear hfz41_0
      try clear hfz41_1
      try clear hfz41_2
      try clear hfz41_3
      try clear hfz44_0
      try clear hfz44_1
      try clear hfz44_2
      try clear hfz44_3
      try clear hfz46_0
      try clear hfz46_1
      try clear hfz46_2
      try clear hfz46_3
      try clear hfz47_0
      try clear hfz47_1
      try clear hfz47_2
      try clear hfz47_3
      try clear hfz52_0
      try clear hfz52_1
      try clear hfz52_2
      try clear hfz52_3
      try clear hfz57_0
      try clear hfz57_1
      try clear hfz57_2
      try clear hfz57_3
      try clear hfz9_0
      try clear hfz9_1
      try clear hfz9_2
      try clear hfz9_3
      try clear p2
      try clear p6
      obtain ⟨kq, x72_49, rfl, HA, HJ49, HO_3, BK433, BK439, HB⟩ := hcut
      cases kq with
      | zero => exact absurd HA.out (by simp [laws_FnTrials.j1])
      | succ kj49 =>
       have H := HA.out
       clear HA
       simp only [laws_FnTrials.j1] at H
       by_cases c59 : x72_49 = true
       ·subst c59
        have H1 : (some false) = some r := by rw [if_pos rfl] at H; exact H
        clear H
        have H := H1
        clear H1
        obtain rfl := Option.some.inj H
        go_wp2
        go_ret
        exact ⟨by first | rfl | (simp [errW_none, errW_some] <;> rfl) | (simp [*, errW_none, errW_some] <;> rfl), by repeat (first | (with_reducible first | exact HB.out | apply bA | apply bN | apply bD | refine bS ?_ GE433.out | refine bS ?_ GE439.out) | exact HB.out)⟩
       ·replace c59 := Bool.eq_false_iff.mpr c59
        subst c59
        have H1 : ((impl_AreMarks.f kj49 t425).bind fun t444 => (if t444 = true then (laws_FnTrials.j2 kj49 l0 t425 (decide ((t425.length : Int) > 0))) else (laws_FnTrials.j2 kj49 l0 t425 false))) = some r := by rw [if_neg (show ¬ (false = true) by decide)] at H; exact H
        clear H
        have H := H1
        clear H1
        have HC60 := Aside0.mk H
        clear H
        go_upto_region 10 with (fail)
        go_cut [79] (fun v79 wc => ∃ (kq : Nat) (x79_59 : Bool), v79 = .bool x79_59 ∧ Aside0 (laws_FnTrials.j2 kq l0 t425 x79_59 = some r) ∧ Aside0 (kq ≤ kj49) ∧ Aside0 (Kd.R k62 62 wc w.heap.size (fun _ => True) (.slice Ao10 t425.length co10) t425) ∧ Aside0 (wc.heap[gb433]? = some (.cells #[.int .i64 t428, .int .i64 t429, .int .i64 t430, .int .i64 t431] 27 (0, 0))) ∧ Aside0 (wc.heap[gb439]? = some (.cells #[.int .i64 t434, .int .i64 t435, .int .i64 t436, .int .i64 t437] 27 (0, 0))) ∧ Aside0 (Below w.heap.size w wc))
        case first =>
         have H := HC60.out
         clear HC60
         replace H := Option.bind_eq_some_iff.mp H
         obtain ⟨t444, A610, H⟩ := H
         replace H : (if t444 = true then (laws_FnTrials.j2 kj49 l0 t425 (decide ((t425.length : Int) > 0))) else (laws_FnTrials.j2 kj49 l0 t425 false)) = some r := H
         have A61 := Aside0.mk A610
         clear A610
         by_cases c62 : t444 = true
         ·subst c62
          have H1 : (laws_FnTrials.j2 kj49 l0 t425 (decide ((t425.length : Int) > 0))) = some r := by rw [if_pos rfl] at H; exact H
          clear H
          have H := H1
          clear H1
          have H' := Aside0.mk H
          clear H
          go_wp2_with (first | ((with_reducible refine gate_callee (f := 34) rfl ?_); refine goesL_ (some 74) rfl rfl Try.func34 (by kernel_rfl) rfl #[.slice Ao10 t425.length co10] rfl (by (try simp only [mA, mC, mN]); first | done | rfl | (simp only [lD, lT]; rfl)) ?_; (with_reducible refine (impl_AreMarks.calls kj49 _ _ t425 true _ ?side1 ?side2 A61.out).mono ?_); (case side1 => repeat (first | exact (Kd.R_reads' HO_3.out).2.2 | (with_reducible refine Kd.C_alloc ?_ _) | (with_reducible refine Kd.C_drewN ?_ _) | (with_reducible refine Kd.C_drew ?_))); (case side2 => exact (Kd.R_reads' HO_3.out).2.1); rintro e w63 ⟨rfl, hb⟩; refine ⟨_, rfl, ?_⟩; have n0_ := Aside0.mk (Kd.R_below (qR HO_3) hb); have n1_ := Aside0.mk (blk_below (qK BK433) hb); have n2_ := Aside0.mk (blk_below (qK BK439) hb); have n3_ := Aside0.mk (below_step (by repeat first | (with_reducible first | exact HB.out | apply bA | apply bN | apply bD | refine bS ?_ GE433.out | refine bS ?_ GE439.out) | exact HB.out) hb); clear HO_3; clear BK433; clear BK439; clear HB; have HO_3 := n0_; have BK433 := n1_; have BK439 := n2_; have HB := n3_; clear n0_ n1_ n2_ n3_; (try clear hb); (try clear hb2); (try clear hk); (try clear hi)))
          go_meet
          case rel => exact ⟨_, (decide ((t425.length : Int) > 0)), (by first | rfl | (simp; done) | (simp [*]; done)), H', ⟨by have := HJ5.out; have := HJ49.out; first | omega | exact Nat.le_refl _⟩, ⟨by (with_reducible repeat first | apply rA | apply rN | apply rD); exact HO_3.out⟩, ⟨by (with_reducible repeat first | refine kN ?_ _ | refine kD ?_ | refine kA ?_ _); exact BK433.out⟩, ⟨by (with_reducible repeat first | refine kN ?_ _ | refine kD ?_ | refine kA ?_ _); exact BK439.out⟩, ⟨by repeat (first | (with_reducible first | exact HB.out | apply bA | apply bN | apply bD | refine bS ?_ GE433.out | refine bS ?_ GE439.out) | exact HB.out)⟩⟩
         ·replace c62 := Bool.eq_false_iff.mpr c62
          subst c62
          have H1 : (laws_FnTrials.j2 kj49 l0 t425 false) = some r := by rw [if_neg (show ¬ (false = true) by decide)] at H; exact H
          clear H
          have H := H1
          clear H1
          have H' := Aside0.mk H
          clear H
          go_wp2_with (first | ((with_reducible refine gate_callee (f := 34) rfl ?_); refine goesL_ (some 74) rfl rfl Try.func34 (by kernel_rfl) rfl #[.slice Ao10 t425.length co10] rfl (by (try simp only [mA, mC, mN]); first | done | rfl | (simp only [lD, lT]; rfl)) ?_; (with_reducible refine (impl_AreMarks.calls kj49 _ _ t425 false _ ?side1 ?side2 A61.out).mono ?_); (case side1 => repeat (first | exact (Kd.R_reads' HO_3.out).2.2 | (with_reducible refine Kd.C_alloc ?_ _) | (with_reducible refine Kd.C_drewN ?_ _) | (with_reducible refine Kd.C_drew ?_))); (case side2 => exact (Kd.R_reads' HO_3.out).2.1); rintro e w64 ⟨rfl, hb⟩; refine ⟨_, rfl, ?_⟩; have n0_ := Aside0.mk (Kd.R_below (qR HO_3) hb); have n1_ := Aside0.mk (blk_below (qK BK433) hb); have n2_ := Aside0.mk (blk_below (qK BK439) hb); have n3_ := Aside0.mk (below_step (by repeat first | (with_reducible first | exact HB.out | apply bA | apply bN | apply bD | refine bS ?_ GE433.out | refine bS ?_ GE439.out) | exact HB.out) hb); clear HO_3; clear BK433; clear BK439; clear HB; have HO_3 := n0_; have BK433 := n1_; have BK439 := n2_; have HB := n3_; clear n0_ n1_ n2_ n3_; (try clear hb); (try clear hb2); (try clear hk); (try clear hi)))
          go_meet
          case rel => exact ⟨_, (false), (by first | rfl | (simp; done) | (simp [*]; done)), H', ⟨by have := HJ5.out; have := HJ49.out; first | omega | exact Nat.le_refl _⟩, ⟨by (with_reducible repeat first | apply rA | apply rN | apply rD); exact HO_3.out⟩, ⟨by (with_reducible repeat first | refine kN ?_ _ | refine kD ?_ | refine kA ?_ _); exact BK433.out⟩, ⟨by (with_reducible repeat first | refine kN ?_ _ | refine kD ?_ | refine kA ?_ _); exact BK439.out⟩, ⟨by repeat (first | (with_reducible first | exact HB.out | apply bA | apply bN | apply bD | refine bS ?_ GE433.out | refine bS ?_ GE439.out) | exact HB.out)⟩⟩
        case rest =>
         clear HC60
         try clear c1
         try clear c2
         try clear p2
         try clear c3
         try clear c4
         try clear c5
         try clear c6
         try clear p6
         try clear c13
         try clear c16
         try clear c16b0
         try clear c16b1
         try clear c16b2
         try clear c17
         try clear c20
         try clear c22
         try clear c23
         try clear c23b0
         try clear c23b1
         try clear c24
         try clear c30
         try clear c31
         try clear c34
         try clear c38
         try clear c40
         try clear c41
         try clear c42
         try clear c43
         try clear c44
         try clear c48
         try clear c51
         try clear c54
         try clear c54b0
         try clear c54b1
         try clear c56
         try clear c59
         try clear c62
         try clear p64
         try clear hcz14_0
         try clear hcz14_1
         try clear hcz14_2
         try clear hcz14_3
         try clear hcz18_0
         try clear hcz18_1
         try clear hcz18_2
         try clear hcz18_3
         try clear hcz25_0
         try clear hcz25_1
         try clear hcz25_2
         try clear hcz25_3
         try clear hcz27_0
         try clear hcz27_1
         try clear hcz27_2
         try clear hcz27_3
         try clear hcz29_0
         try clear hcz29_1
         try clear hcz29_2
         try clear hcz29_3
         try clear hcz30_0
         try clear hcz30_1
         try clear hcz30_2
         try clear hcz30_3
         try clear hcz32_0
         try clear hcz32_1
         try clear hcz32_2
         try clear hcz32_3
         try clear hcz34_0
         try clear hcz34_1
         try clear hcz34_2
         try clear hcz34_3
         try clear hcz36_0
         try clear hcz36_1
         try clear hcz36_2
         try clear hcz36_3
         try clear hcz37_0
         try clear hcz37_1
         try clear hcz37_2
         try clear hcz37_3
         try clear hcz39_0
         try clear hcz39_1
         try clear hcz39_2
         try clear hcz39_3
         try clear hcz41_0
         try clear hcz41_1
         try clear hcz41_2
         try clear hcz41_3
         try clear hcz44_0
         try clear hcz44_1
         try clear hcz44_2
         try clear hcz44_3
         try clear hcz46_0
         try clear hcz46_1
         try clear hcz46_2
         try clear hcz46_3
         try clear hcz47_0
         try clear hcz47_1
         try clear hcz47_2
         try clear hcz47_3
         try clear hcz52_0
         try clear hcz52_1
         try clear hcz52_2
         try clear hcz52_3
         try clear hcz57_0
         try clear hcz57_1
         try clear hcz57_2
         try clear hcz57_3
         try clear hcz9_0
         try clear hcz9_1
         try clear hcz9_2
         try clear hcz9_3
         try clear hfz14_0
         try clear hfz14_1
         try clear hfz14_2
         try clear hfz14_3
         try clear hfz18_0
         try clear hfz18_1
         try clear hfz18_2
         try clear hfz18_3
         try clear hfz25_0
         try clear hfz25_1
         try clear hfz25_2
         try clear hfz25_3
         try clear hfz27_0
         try clear hfz27_1
         try clear hfz27_2
         try clear hfz27_3
         try clear hfz29_0
         try clear hfz29_1
         try clear hfz29_2
         try clear hfz29_3
         try clear hfz30_0
         try clear hfz30_1
         try clear hfz30_2
         try clear hfz30_3
         try clear hfz32_0
         try clear hfz32_1
         try clear hfz32_2
         try clear hfz32_3
         try clear hfz34_0
         try clear hfz34_1
         try clear hfz34_2
         try clear hfz34_3
         try clear hfz36_0
         try clear hfz36_1
         try clear hfz36_2
         try clear hfz36_3
         try clear hfz37_0
         try clear hfz37_1
         try clear hfz37_2
         try clear hfz37_3
         try clear hfz39_0
         try clear hfz39_1
         try clear hfz39_2
         try clear hfz39_3
         try clear hfz41_0
         try clear hfz41_1
         try clear hfz41_2
         try clear hfz41_3
         try clear hfz44_0
         try clear hfz44_1
         try clear hfz44_2
         try clear hfz44_3
         try clear hfz46_0
         try clear hfz46_1
         try clear hfz46_2
         try clear hfz46_3
         try clear hfz47_0
         try clear hfz47_1
         try clear hfz47_2
         try clear hfz47_3
         try clear hfz52_0
         try clear hfz52_1
         try clear hfz52_2
         try clear hfz52_3
         try clear hfz57_0
         try clear hfz57_1
         try clear hfz57_2
         try clear hfz57_3
         try clear hfz9_0
         try clear hfz9_1
         try clear hfz9_2
         try clear hfz9_3
         try clear p2
         try clear p6
         obtain ⟨kq, x79_59, rfl, HA, HJ59, HO_3, BK433, BK439, HB⟩ := hcut
         cases kq with
         | zero => exact absurd HA.out (by simp [laws_FnTrials.j2])
         | succ kj59 =>
          have H := HA.out
          clear HA
          simp only [laws_FnTrials.j2] at H
          by_cases c65 : x79_59 = true
          ·subst c65
           have H1 : (laws_FnTrials.l0 kj59 l0 t425 0 7 0 0 0) = some r := by rw [if_pos rfl] at H; exact H
           clear H
           have H := H1
           clear H1
           have H' := Aside0.mk H
           clear H
           go_wp2_with (first | ((with_reducible refine gate_dst (N := 9) rfl ?_); (try (refine gate_guard (by rfl) ?_; dsimp only)); refine box_event ?hg (N := 9) ?hd (cs := #[.int .i64 0, .int .i64 0, .int .i64 0, .int .i64 0]) (t := 27) ?hr ?_; (case hd => rfl); (case hg => rfl); (case hr => first | (go_simp; done) | (go_simp; rfl)); intro gb445 hg w66 hbox hb; have n0_ := Aside0.mk (Kd.R_below (qR HO_3) hb); have n1_ := Aside0.mk (blk_below (qK BK433) hb); have n2_ := Aside0.mk (blk_below (qK BK439) hb); have n3_ := Aside0.mk (below_step (by repeat first | (with_reducible first | exact HB.out | apply bA | apply bN | apply bD | refine bS ?_ GE433.out | refine bS ?_ GE439.out) | exact HB.out) hb); have n4_ := Aside0.mk (hbox); have n5_ := Aside0.mk ((by rw [hg]; exact (below_size (by repeat first | (with_reducible first | exact HB.out | apply bA | apply bN | apply bD | refine bS ?_ GE433.out | refine bS ?_ GE439.out) | exact HB.out)) : w.heap.size ≤ gb445)); have n6_ := Aside0.mk ((by rw [hg]; exact (below_size (by repeat first | (with_reducible first | exact HB.out | apply bA | apply bN | apply bD | refine bS ?_ GE433.out | refine bS ?_ GE439.out) | exact HB.out)) : w.heap.size ≤ gb445)); have n7_ := Aside0.mk ((by rw [hg]; exact Nat.ne_of_lt (blk_lt (qK BK433)) : gb433 ≠ gb445)); have n8_ := Aside0.mk ((by rw [hg]; exact Nat.ne_of_gt (blk_lt (qK BK433)) : gb445 ≠ gb433)); have n9_ := Aside0.mk ((by rw [hg]; exact Nat.ne_of_lt (blk_lt (qK BK439)) : gb439 ≠ gb445)); have n10_ := Aside0.mk ((by rw [hg]; exact Nat.ne_of_gt (blk_lt (qK BK439)) : gb445 ≠ gb439)); clear HO_3; clear BK433; clear BK439; clear HB; have HO_3 := n0_; have BK433 := n1_; have BK439 := n2_; have HB := n3_; have BK445 := n4_; have GW445 := n5_; have GE445 := n6_; have NB433_445 := n7_; have NB445_433 := n8_; have NB439_445 := n9_; have NB445_439 := n10_; clear n0_ n1_ n2_ n3_ n4_ n5_ n6_ n7_ n8_ n9_ n10_; clear hb hbox hg; have hnb67 := NB445_433.out; have hnc67 := NB433_445.out; have hnb68 := NB445_439.out; have hnc68 := NB439_445.out; have hcz69_0 : w66.cell? ⟨gb445, 0, none⟩ = some (.int .i64 0) := cC BK445 0; have hcz69_1 : w66.cell? ⟨gb445, 1, none⟩ = some (.int .i64 0) := cC BK445 1; have hcz69_2 : w66.cell? ⟨gb445, 2, none⟩ = some (.int .i64 0) := cC BK445 2; have hcz69_3 : w66.cell? ⟨gb445, 3, none⟩ = some (.int .i64 0) := cC BK445 3; have hfz69_0 := blk_frozen BK445.out 0; have hfz69_1 := blk_frozen BK445.out 1; have hfz69_2 := blk_frozen BK445.out 2; have hfz69_3 := blk_frozen BK445.out 3))
           go_loopg [10] kj59 (fun kq v10 w' => ∃ (x10_4 : Int) (x446000_4 : Int) (x446001_4 : Int) (x446002_4 : Int) (x446003_4 : Int), v10 = .int .i64 x10_4 ∧ Aside0 (laws_FnTrials.l0 kq l0 t425 x10_4 x446000_4 x446001_4 x446002_4 x446003_4 = some r) ∧ Aside0 (kq ≤ kj59) ∧ Aside0 (Kd.R k62 62 w' w.heap.size (fun _ => True) (.slice Ao10 t425.length co10) t425) ∧ Aside0 (w'.heap[gb433]? = some (.cells #[.int .i64 t428, .int .i64 t429, .int .i64 t430, .int .i64 t431] 27 (0, 0))) ∧ Aside0 (w'.heap[gb439]? = some (.cells #[.int .i64 t434, .int .i64 t435, .int .i64 t436, .int .i64 t437] 27 (0, 0))) ∧ Aside0 (w'.heap[gb445]? = some (.cells #[.int .i64 x446000_4, .int .i64 x446001_4, .int .i64 x446002_4, .int .i64 x446003_4] 27 (0, 0))) ∧ Aside0 (Below w.heap.size w w'))
           case atStart => exact ⟨(0), (7), (0), (0), (0), (by first | rfl | (simp; done) | (simp [*]; done)), H', ⟨Nat.le_refl _⟩, ⟨by (with_reducible repeat first | apply rA | apply rN | apply rD); exact Kd.R_mono (Kd.R_far (p := ⟨gb445, 3, none⟩) (Kd.R_far (p := ⟨gb445, 2, none⟩) (Kd.R_far (p := ⟨gb445, 1, none⟩) (Kd.R_far (p := ⟨gb445, 0, none⟩) (Kd.R_types HO_3.out BK445.out (by decide)) (fun _ hk => hk.2) (.int .i64 7)) (fun _ hk => hk.2) (.int .i64 0)) (fun _ hk => hk.2) (.int .i64 0)) (fun _ hk => hk.2) (.int .i64 0)) (fun _ hk => trivial)⟩, ⟨by (with_reducible repeat first | refine kN ?_ _ | refine kD ?_ | refine kA ?_ _); exact blk4 BK433.out NB433_445⟩, ⟨by (with_reducible repeat first | refine kN ?_ _ | refine kD ?_ | refine kA ?_ _); exact blk4 BK439.out NB439_445⟩, ⟨by (with_reducible repeat first | refine kN ?_ _ | refine kD ?_ | refine kA ?_ _); refine blk_put (cs := #[.int .i64 7, .int .i64 0, .int .i64 0, .int .i64 0]) ?_ 3 _ rfl; (with_reducible repeat first | refine kN ?_ _ | refine kD ?_ | refine kA ?_ _); refine blk_put (cs := #[.int .i64 7, .int .i64 0, .int .i64 0, .int .i64 0]) ?_ 2 _ rfl; (with_reducible repeat first | refine kN ?_ _ | refine kD ?_ | refine kA ?_ _); refine blk_put (cs := #[.int .i64 7, .int .i64 0, .int .i64 0, .int .i64 0]) ?_ 1 _ rfl; (with_reducible repeat first | refine kN ?_ _ | refine kD ?_ | refine kA ?_ _); refine blk_put (cs := #[.int .i64 0, .int .i64 0, .int .i64 0, .int .i64 0]) ?_ 0 _ rfl; (with_reducible repeat first | refine kN ?_ _ | refine kD ?_ | refine kA ?_ _); exact BK445.out⟩, ⟨by repeat (first | (with_reducible first | exact HB.out | apply bA | apply bN | apply bD | refine bS ?_ GE433.out | refine bS ?_ GE439.out | refine bS ?_ GE445.out) | exact HB.out)⟩⟩
           case round =>
            clear H'
            try clear c1
            try clear c2
            try clear p2
            try clear c3
            try clear c4
            try clear c5
            try clear c6
            try clear p6
            try clear c13
            try clear c16
            try clear c16b0
            try clear c16b1
            try clear c16b2
            try clear c17
            try clear c20
            try clear c22
            try clear c23
            try clear c23b0
            try clear c23b1
            try clear c24
            try clear c30
            try clear c31
            try clear c34
            try clear c38
            try clear c40
            try clear c41
            try clear c42
            try clear c43
            try clear c44
            try clear c48
            try clear c51
            try clear c54
            try clear c54b0
            try clear c54b1
            try clear c56
            try clear c59
            try clear c62
            try clear p64
            try clear c65
            try clear c67
            try clear c68
            try clear hcz14_0
            try clear hcz14_1
            try clear hcz14_2
            try clear hcz14_3
            try clear hcz18_0
            try clear hcz18_1
            try clear hcz18_2
            try clear hcz18_3
            try clear hcz25_0
            try clear hcz25_1
            try clear hcz25_2
            try clear hcz25_3
            try clear hcz27_0
            try clear hcz27_1
            try clear hcz27_2
            try clear hcz27_3
            try clear hcz29_0
            try clear hcz29_1
            try clear hcz29_2
            try clear hcz29_3
            try clear hcz30_0
            try clear hcz30_1
            try clear hcz30_2
            try clear hcz30_3
            try clear hcz32_0
            try clear hcz32_1
            try clear hcz32_2
            try clear hcz32_3
            try clear hcz34_0
            try clear hcz34_1
            try clear hcz34_2
            try clear hcz34_3
            try clear hcz36_0
            try clear hcz36_1
            try clear hcz36_2
            try clear hcz36_3
            try clear hcz37_0
            try clear hcz37_1
            try clear hcz37_2
            try clear hcz37_3
            try clear hcz39_0
            try clear hcz39_1
            try clear hcz39_2
            try clear hcz39_3
            try clear hcz41_0
            try clear hcz41_1
            try clear hcz41_2
            try clear hcz41_3
            try clear hcz44_0
            try clear hcz44_1
            try clear hcz44_2
            try clear hcz44_3
            try clear hcz46_0
            try clear hcz46_1
            try clear hcz46_2
            try clear hcz46_3
            try clear hcz47_0
            try clear hcz47_1
            try clear hcz47_2
            try clear hcz47_3
            try clear hcz52_0
            try clear hcz52_1
            try clear hcz52_2
            try clear hcz52_3
            try clear hcz57_0
            try clear hcz57_1
            try clear hcz57_2
            try clear hcz57_3
            try clear hcz69_0
            try clear hcz69_1
            try clear hcz69_2
            try clear hcz69_3
            try clear hcz9_0
            try clear hcz9_1
            try clear hcz9_2
            try clear hcz9_3
            try clear hfz14_0
            try clear hfz14_1
            try clear hfz14_2
            try clear hfz14_3
            try clear hfz18_0
            try clear hfz18_1
            try clear hfz18_2
            try clear hfz18_3
            try clear hfz25_0
            try clear hfz25_1
            try clear hfz25_2
            try clear hfz25_3
            try clear hfz27_0
            try clear hfz27_1
            try clear hfz27_2
            try clear hfz27_3
            try clear hfz29_0
            try clear hfz29_1
            try clear hfz29_2
            try clear hfz29_3
            try clear hfz30_0
            try clear hfz30_1
            try clear hfz30_2
            try clear hfz30_3
            try clear hfz32_0
            try clear hfz32_1
            try clear hfz32_2
            try clear hfz32_3
            try clear hfz34_0
            try clear hfz34_1
            try clear hfz34_2
            try clear hfz34_3
            try clear hfz36_0
            try clear hfz36_1
            try clear hfz36_2
            try clear hfz36_3
            try clear hfz37_0
            try clear hfz37_1
            try clear hfz37_2
            try clear hfz37_3
            try clear hfz39_0
            try clear hfz39_1
            try clear hfz39_2
            try clear hfz39_3
            try clear hfz41_0
            try clear hfz41_1
            try clear hfz41_2
            try clear hfz41_3
            try clear hfz44_0
            try clear hfz44_1
            try clear hfz44_2
            try clear hfz44_3
            try clear hfz46_0
            try clear hfz46_1
            try clear hfz46_2
            try clear hfz46_3
            try clear hfz47_0
            try clear hfz47_1
            try clear hfz47_2
            try clear hfz47_3
            try clear hfz52_0
            try clear hfz52_1
            try clear hfz52_2
            try clear hfz52_3
            try clear hfz57_0
            try clear hfz57_1
            try clear hfz57_2
            try clear hfz57_3
            try clear hfz69_0
            try clear hfz69_1
            try clear hfz69_2
            try clear hfz69_3
            try clear hfz9_0
            try clear hfz9_1
            try clear hfz9_2
            try clear hfz9_3
            try clear p2
            try clear p6
            try clear p64
            obtain ⟨x10_4, x446000_4, x446001_4, x446002_4, x446003_4, rfl, HA, HK4, HO_3, BK433, BK439, BK445, HB⟩ := hrel
            cases gk with
            | zero => exact absurd HA.out (by simp [laws_FnTrials.l0])
            | succ k4 =>
             have H := HA.out
             clear HA
             simp only [laws_FnTrials.l0] at H
             replace H := Option.bind_eq_some_iff.mp H
             obtain ⟨t446, A700, H⟩ := H
             replace H : (if x10_4 < t446 then ((impl_NextQuestion.f k4 t425 x446000_4 x446001_4 x446002_4 x446003_4).bind fun t447 => ((impl_AnswerOf.f k4 t425 t447).bind fun t448 => ((impl_GiveAnswer.f k4 t425 x446000_4 x446001_4 x446002_4 x446003_4 t448).bind fun bt449 => (laws_FnTrials.l0 k4 l0 t425 (wrap64 (x10_4 + 1)) bt449.1 bt449.2.1 bt449.2.2.1 bt449.2.2.2.1)))) else ((impl_AnswerAll.f k4 t425 7 0 0 0 (([(-5), (-5), (-5)] : List Int))).bind fun bt457 => ((impl_TrialState.f k4 t425 x446000_4 x446001_4 x446002_4 x446003_4).bind fun t462 => (if t462 = 1 then ((impl_TrialState.f k4 t425 bt457.1 bt457.2.1 bt457.2.2.1 bt457.2.2.2).bind fun t463 => (if t463 = 2 then (laws_FnTrials.j4 k4 l0 (bt457.2.2.2 != 2)) else (laws_FnTrials.j4 k4 l0 true))) else (laws_FnTrials.j4 k4 l0 true))))) = some r := H
             have A70 := Aside0.mk A700
             clear A700
             by_cases c71 : x10_4 < t446
             ·rw [if_pos c71] at H
              have c71b0 : decide (x10_4 < t446) = true := decide_eq_true c71
              clear c71
              replace H := Option.bind_eq_some_iff.mp H
              obtain ⟨t447, A720, H⟩ := H
              replace H : ((impl_AnswerOf.f k4 t425 t447).bind fun t448 => ((impl_GiveAnswer.f k4 t425 x446000_4 x446001_4 x446002_4 x446003_4 t448).bind fun bt449 => (laws_FnTrials.l0 k4 l0 t425 (wrap64 (x10_4 + 1)) bt449.1 bt449.2.1 bt449.2.2.1 bt449.2.2.2.1))) = some r := H
              have A72 := Aside0.mk A720
              clear A720
              replace H := Option.bind_eq_some_iff.mp H
              obtain ⟨t448, A730, H⟩ := H
              replace H : ((impl_GiveAnswer.f k4 t425 x446000_4 x446001_4 x446002_4 x446003_4 t448).bind fun bt449 => (laws_FnTrials.l0 k4 l0 t425 (wrap64 (x10_4 + 1)) bt449.1 bt449.2.1 bt449.2.2.1 bt449.2.2.2.1)) = some r := H
              have A73 := Aside0.mk A730
              clear A730
              replace H := Option.bind_eq_some_iff.mp H
              obtain ⟨⟨t449, t450, t451, t452, t453⟩, A740, H⟩ := H
              replace H : (laws_FnTrials.l0 k4 l0 t425 (wrap64 (x10_4 + 1)) t449 t450 t451 t452) = some r := H
              have A74 := Aside0.mk A740
              clear A740
              have H' := Aside0.mk H
              clear H
              try go_wp2_with (first | ((with_reducible refine gate_callee (f := 45) rfl ?_); refine goesL_ (some 83) rfl rfl Try.func45 (by kernel_rfl) rfl #[.slice Ao10 t425.length co10] rfl (by (try simp only [mA, mC, mN]); first | done | rfl | (simp only [lD, lT]; rfl)) ?_; (with_reducible refine (impl_NeedFor.calls _ _ t425 t446 _ ?side1 ?side2 A70.out).mono ?_); (case side1 => repeat (first | exact (Kd.R_reads' HO_3.out).2.2 | (with_reducible refine Kd.C_alloc ?_ _) | (with_reducible refine Kd.C_drewN ?_ _) | (with_reducible refine Kd.C_drew ?_))); (case side2 => exact (Kd.R_reads' HO_3.out).2.1); rintro e w75 ⟨rfl, hb⟩; refine ⟨_, rfl, ?_⟩; have n0_ := Aside0.mk (Kd.R_below (qR HO_3) hb); have n1_ := Aside0.mk (blk_below (qK BK433) hb); have n2_ := Aside0.mk (blk_below (qK BK439) hb); have n3_ := Aside0.mk (blk_below (qK BK445) hb); have n4_ := Aside0.mk (below_step (by repeat first | (with_reducible first | exact HB.out | apply bA | apply bN | apply bD | refine bS ?_ GE433.out | refine bS ?_ GE439.out | refine bS ?_ GE445.out) | exact HB.out) hb); clear HO_3; clear BK433; clear BK439; clear BK445; clear HB; have HO_3 := n0_; have BK433 := n1_; have BK439 := n2_; have BK445 := n3_; have HB := n4_; clear n0_ n1_ n2_ n3_ n4_; (try clear hb); (try clear hb2); (try clear hk); (try clear hi)))
              have n0_ := Aside0.mk (Kd.R_drew HO_3.out)
              have n1_ := Aside0.mk (blk_drew BK433.out)
              have n2_ := Aside0.mk (blk_drew BK439.out)
              have n3_ := Aside0.mk (blk_drew BK445.out)
              have n4_ := Aside0.mk (below_drew1 HB.out)
              clear HO_3
              clear BK433
              clear BK439
              clear BK445
              clear HB
              have HO_3 := n0_
              have BK433 := n1_
              have BK439 := n2_
              have BK445 := n3_
              have HB := n4_
              clear n0_ n1_ n2_ n3_ n4_
              refine start_ (n := 12) (S := fun w' => w'.cell? ⟨gb445, 0, none⟩ = some (.int .i64 x446000_4) ∧ w'.cell? ⟨gb445, 1, none⟩ = some (.int .i64 x446001_4) ∧ w'.cell? ⟨gb445, 2, none⟩ = some (.int .i64 x446002_4) ∧ w'.cell? ⟨gb445, 3, none⟩ = some (.int .i64 x446003_4)) (ds := [11]) (bR [0, 12]) (by kernel_rfl) rfl rfl ⟨cC BK445 0, cC BK445 1, cC BK445 2, cC BK445 3⟩ (fun hHeld => ?_); refine with_tabW laws_FnTrials.tab15 laws_FnTrials.bits15 (fun HT_ HW_ => ?_)
              generalize w75.drew = w76 at HO_3 BK433 BK439 BK445 HB hHeld ⊢
              refine pP 0 88 (bR [1, 11]) rfl rfl HT_ ?_
              refine pP 2 90 (bR [1, 1, 1, 9]) rfl rfl HT_ ?_
              refine pP 3 91 (bR [1, 1, 2, 8]) rfl rfl HT_ ?_
              refine take_ (i := 1) (N := some 89) (v := ?_) (a' := ?_) (bR [4, 8]) rfl rfl (take_ofW HT_.out HW_.out (by kernel_rfl)) (fun _ _ _ h => h) (Or.inl ⟨by rfl, ?_⟩) hHeld ?_ ?_
              rotate_left; (rintro w' ⟨s0, s1, s2, s3⟩; go_simp; with_reducible rfl); rotate_left; (simp only [Act.put, sA, sZ, sS, i64_w]; rfl)
              refine take_ (i := 4) (N := some 92) (v := ?_) (a' := ?_) (bR [5, 7]) rfl rfl (take_ofW HT_.out HW_.out (by kernel_rfl)) (fun _ _ _ h => h) (Or.inl ⟨by rfl, ?_⟩) hHeld ?_ ?_
              rotate_left; (rintro w' ⟨s0, s1, s2, s3⟩; go_simp; with_reducible rfl); rotate_left; (simp only [Act.put, sA, sZ, sS, i64_w]; rfl)
              refine one_ (i := 5) (N := some 93) (bR [6, 6]) rfl rfl (one_of HT_.out (by kernel_rfl)) (by decide) (fun K hK => ?_)
              refine goes_ Try.func42 (by kernel_rfl) rfl #[.slice Ao10 t425.length co10, .agg #[.int .i64 x446000_4, .int .i64 x446001_4, .int .i64 x446002_4, .int .i64 x446003_4]] (by rfl) rfl rfl (by (try simp only [mA, mC, mN]); first | done | rfl | (simp only [lD, lT]; rfl)) ?_
              with_reducible refine (impl_NextQuestion.calls k4 _ _ t425 x446000_4 x446001_4 x446002_4 x446003_4 t447 _ ?side1 ?side2 A72.out).mono ?_
              (case side1 => repeat (first | exact (Kd.R_reads' HO_3.out).2.2 | (with_reducible refine Kd.C_alloc ?_ _) | (with_reducible refine Kd.C_drewN ?_ _) | (with_reducible refine Kd.C_drew ?_)))
              (case side2 => exact (Kd.R_reads' HO_3.out).2.1)
              rintro e w77 ⟨rfl, hb⟩
              refine ⟨_, rfl, ?_⟩
              have n0_ := Aside0.mk (Kd.R_below (qR HO_3) hb)
              have n1_ := Aside0.mk (blk_below (qK BK433) hb)
              have n2_ := Aside0.mk (blk_below (qK BK439) hb)
              have n3_ := Aside0.mk (blk_below (qK BK445) hb)
              have n4_ := Aside0.mk (below_step (by repeat first | (with_reducible first | exact HB.out | apply bA | apply bN | apply bD | refine bS ?_ GE433.out | refine bS ?_ GE439.out | refine bS ?_ GE445.out) | exact HB.out) hb)
              clear HO_3
              clear BK433
              clear BK439
              clear BK445
              clear HB
              have HO_3 := n0_
              have BK433 := n1_
              have BK439 := n2_
              have BK445 := n3_
              have HB := n4_
              clear n0_ n1_ n2_ n3_ n4_
              (try clear hb)
              (try clear hb2)
              (try clear hk)
              (try clear hi)
              refine hK.out _ _ ⟨cC BK445 0, cC BK445 1, cC BK445 2, cC BK445 3⟩ (fun hHeld => ?_)
              clear hK K
              refine norm_ (a' := ?_) ?_ ?_
              rotate_left
              ·show Act.put _ (some 93) _ = _
               simp only [Act.put, sA, sZ, sS, i64_w]
               rfl
              refine one_ (i := 6) (N := some 94) (bR [7, 5]) rfl rfl (one_of HT_.out (by kernel_rfl)) (by decide) (fun K hK => ?_)
              refine goes_ Try.func37 (by kernel_rfl) rfl #[.slice Ao10 t425.length co10, .int .i64 t447] (by rfl) rfl rfl (by (try simp only [mA, mC, mN]); first | done | rfl | (simp only [lD, lT]; rfl)) ?_
              with_reducible refine (impl_AnswerOf.calls k4 _ _ t425 t447 t448 _ ?side1 ?side2 A73.out).mono ?_
              (case side1 => repeat (first | exact (Kd.R_reads' HO_3.out).2.2 | (with_reducible refine Kd.C_alloc ?_ _) | (with_reducible refine Kd.C_drewN ?_ _) | (with_reducible refine Kd.C_drew ?_)))
              (case side2 => exact (Kd.R_reads' HO_3.out).2.1)
              rintro e w78 ⟨rfl, hb⟩
              refine ⟨_, rfl, ?_⟩
              have n0_ := Aside0.mk (Kd.R_below (qR HO_3) hb)
              have n1_ := Aside0.mk (blk_below (qK BK433) hb)
              have n2_ := Aside0.mk (blk_below (qK BK439) hb)
              have n3_ := Aside0.mk (blk_below (qK BK445) hb)
              have n4_ := Aside0.mk (below_step (by repeat first | (with_reducible first | exact HB.out | apply bA | apply bN | apply bD | refine bS ?_ GE433.out | refine bS ?_ GE439.out | refine bS ?_ GE445.out) | exact HB.out) hb)
              clear HO_3
              clear BK433
              clear BK439
              clear BK445
              clear HB
              have HO_3 := n0_
              have BK433 := n1_
              have BK439 := n2_
              have BK445 := n3_
              have HB := n4_
              clear n0_ n1_ n2_ n3_ n4_
              (try clear hb)
              (try clear hb2)
              (try clear hk)
              (try clear hi)
              refine hK.out _ _ ⟨cC BK445 0, cC BK445 1, cC BK445 2, cC BK445 3⟩ (fun hHeld => ?_)
              clear hK K
              refine norm_ (a' := ?_) ?_ ?_
              rotate_left
              ·show Act.put _ (some 94) _ = _
               simp only [Act.put, sA, sZ, sS, i64_w]
               rfl
              refine one_ (i := 7) (N := some 95) (bR [8, 4]) rfl rfl (one_of HT_.out (by kernel_rfl)) (by decide) (fun K hK => ?_)
              refine goes_ Try.func41 (by kernel_rfl) rfl #[.slice Ao10 t425.length co10, .agg #[.int .i64 x446000_4, .int .i64 x446001_4, .int .i64 x446002_4, .int .i64 x446003_4], .int .i64 t448] (by rfl) rfl rfl (by (try simp only [mA, mC, mN]); first | done | rfl | (simp only [lD, lT]; rfl)) ?_
              with_reducible refine (impl_GiveAnswer.calls k4 _ _ t425 x446000_4 x446001_4 x446002_4 x446003_4 t448 t449 t450 t451 t452 t453 _ ?side1 ?side2 A74.out).mono ?_
              (case side1 => repeat (first | exact (Kd.R_reads' HO_3.out).2.2 | (with_reducible refine Kd.C_alloc ?_ _) | (with_reducible refine Kd.C_drewN ?_ _) | (with_reducible refine Kd.C_drew ?_)))
              (case side2 => exact (Kd.R_reads' HO_3.out).2.1)
              rintro e w79 ⟨rfl, hb⟩
              refine ⟨_, rfl, ?_⟩
              have n0_ := Aside0.mk (Kd.R_below (qR HO_3) hb)
              have n1_ := Aside0.mk (blk_below (qK BK433) hb)
              have n2_ := Aside0.mk (blk_below (qK BK439) hb)
              have n3_ := Aside0.mk (blk_below (qK BK445) hb)
              have n4_ := Aside0.mk (below_step (by repeat first | (with_reducible first | exact HB.out | apply bA | apply bN | apply bD | refine bS ?_ GE433.out | refine bS ?_ GE439.out | refine bS ?_ GE445.out) | exact HB.out) hb)
              clear HO_3
              clear BK433
              clear BK439
              clear BK445
              clear HB
              have HO_3 := n0_
              have BK433 := n1_
              have BK439 := n2_
              have BK445 := n3_
              have HB := n4_
              clear n0_ n1_ n2_ n3_ n4_
              (try clear hb)
              (try clear hb2)
              (try clear hk)
              (try clear hi)
              refine hK.out _ _ ⟨cC BK445 0, cC BK445 1, cC BK445 2, cC BK445 3⟩ (fun hHeld => ?_)
              clear hK K
              refine norm_ (a' := ?_) ?_ ?_
              rotate_left
              ·show Act.put _ (some 95) _ = _
               simp only [Act.put, sA, sZ, sS, i64_w]
               rfl
              refine pP 8 87 (bR [9, 3]) rfl rfl HT_ ?_
              refine pP 9 96 (bR [10, 2]) rfl rfl HT_ ?_
              refine pP 10 97 (bR [11, 1]) rfl rfl HT_ ?_
              refine last_ (i := 11) (N := none) (bR [12]) rfl rfl (one_of HT_.out (by kernel_rfl)) (by decide) (fun K hK => ?_)
              have hs80 : w79.cell? ⟨gb445, 0, none⟩ = some (.int .i64 x446000_4) := cC BK445 0
              have hfs80 := blk_frozen BK445.out 0
              have hns80_0 := NB433_445.out
              have hns80_1 := NB439_445.out
              have hms80_0 := NB445_433.out
              have hms80_1 := NB445_439.out
              have hs81 : w79.cell? ⟨gb445, 1, none⟩ = some (.int .i64 x446001_4) := cC BK445 1
              have hfs81 := blk_frozen BK445.out 1
              have hns81_0 := NB433_445.out
              have hns81_1 := NB439_445.out
              have hms81_0 := NB445_433.out
              have hms81_1 := NB445_439.out
              have hs82 : w79.cell? ⟨gb445, 2, none⟩ = some (.int .i64 x446002_4) := cC BK445 2
              have hfs82 := blk_frozen BK445.out 2
              have hns82_0 := NB433_445.out
              have hns82_1 := NB439_445.out
              have hms82_0 := NB445_433.out
              have hms82_1 := NB445_439.out
              have hs83 : w79.cell? ⟨gb445, 3, none⟩ = some (.int .i64 x446003_4) := cC BK445 3
              have hfs83 := blk_frozen BK445.out 3
              have hns83_0 := NB433_445.out
              have hns83_1 := NB439_445.out
              have hms83_0 := NB445_433.out
              have hms83_1 := NB445_439.out
              refine skip_ (w1 := ?_) (by rfl) rfl ?_ ?_
              rotate_left
              ·go_simp
               rfl
              refine hK.out _ _ ?_
              clear hK K
              refine done_ (done_of HT_.out (by kernel_rfl)) ?_
              try go_wp2
              go_roundg k4
              case measure => have := HJ5.out; have := HJ49.out; have := HJ59.out; have := HK4.out; omega
              case rel => exact ⟨(wrap64 (x10_4 + 1)), (t449), (t450), (t451), (t452), (by first | rfl | (simp; done) | (simp [*]; done)), H', ⟨by have := HJ5.out; have := HJ49.out; have := HJ59.out; have := HK4.out; omega⟩, ⟨by (with_reducible repeat first | apply rA | apply rN | apply rD); exact Kd.R_mono (Kd.R_far (p := ⟨gb445, 3, none⟩) (Kd.R_far (p := ⟨gb445, 2, none⟩) (Kd.R_far (p := ⟨gb445, 1, none⟩) (Kd.R_far (p := ⟨gb445, 0, none⟩) (Kd.R_types HO_3.out BK445.out (by decide)) (fun _ hk => hk.2) (.int .i64 t449)) (fun _ hk => hk.2) (.int .i64 t450)) (fun _ hk => hk.2) (.int .i64 t451)) (fun _ hk => hk.2) (.int .i64 t452)) (fun _ hk => trivial)⟩, ⟨by (with_reducible repeat first | refine kN ?_ _ | refine kD ?_ | refine kA ?_ _); exact blk4 BK433.out NB433_445⟩, ⟨by (with_reducible repeat first | refine kN ?_ _ | refine kD ?_ | refine kA ?_ _); exact blk4 BK439.out NB439_445⟩, ⟨by (with_reducible repeat first | refine kN ?_ _ | refine kD ?_ | refine kA ?_ _); refine blk_put (cs := #[.int .i64 t449, .int .i64 t450, .int .i64 t451, .int .i64 x446003_4]) ?_ 3 _ rfl; (with_reducible repeat first | refine kN ?_ _ | refine kD ?_ | refine kA ?_ _); refine blk_put (cs := #[.int .i64 t449, .int .i64 t450, .int .i64 x446002_4, .int .i64 x446003_4]) ?_ 2 _ rfl; (with_reducible repeat first | refine kN ?_ _ | refine kD ?_ | refine kA ?_ _); refine blk_put (cs := #[.int .i64 t449, .int .i64 x446001_4, .int .i64 x446002_4, .int .i64 x446003_4]) ?_ 1 _ rfl; (with_reducible repeat first | refine kN ?_ _ | refine kD ?_ | refine kA ?_ _); refine blk_put (cs := #[.int .i64 x446000_4, .int .i64 x446001_4, .int .i64 x446002_4, .int .i64 x446003_4]) ?_ 0 _ rfl; (with_reducible repeat first | refine kN ?_ _ | refine kD ?_ | refine kA ?_ _); exact BK445.out⟩, ⟨by repeat (first | (with_reducible first | exact HB.out | apply bA | apply bN | apply bD | refine bS ?_ GE433.out | refine bS ?_ GE439.out | refine bS ?_ GE445.out) | exact HB.out)⟩⟩
             ·rw [if_neg c71] at H
              have c71b0 : decide (x10_4 < t446) = false := decide_eq_false c71
              clear c71
              obtain ⟨y454, hy454⟩ : ∃ y_ : List Int, y_ = (([(-5), (-5), (-5)] : List Int)) := ⟨_, rfl⟩
              replace H : ((impl_AnswerAll.f k4 t425 7 0 0 0 y454).bind fun bt457 => ((impl_TrialState.f k4 t425 x446000_4 x446001_4 x446002_4 x446003_4).bind fun t462 => (if t462 = 1 then ((impl_TrialState.f k4 t425 bt457.1 bt457.2.1 bt457.2.2.1 bt457.2.2.2).bind fun t463 => (if t463 = 2 then (laws_FnTrials.j4 k4 l0 (bt457.2.2.2 != 2)) else (laws_FnTrials.j4 k4 l0 true))) else (laws_FnTrials.j4 k4 l0 true)))) = some r := by first | (rw [hy454]; with_reducible exact H) | (have H2_ := (Option.bind_some _ _).symm.trans H; rw [hy454]; with_reducible exact H2_) | (have H2_ := (Option.bind_some _ _).symm.trans H; with_reducible exact H2_) | with_reducible exact H | (rw [hy454]; exact H) | exact H
              have Ny454 := Aside0.mk hy454
              clear hy454
              replace H := Option.bind_eq_some_iff.mp H
              obtain ⟨⟨t457, t458, t459, t460⟩, A840, H⟩ := H
              replace H : ((impl_TrialState.f k4 t425 x446000_4 x446001_4 x446002_4 x446003_4).bind fun t462 => (if t462 = 1 then ((impl_TrialState.f k4 t425 t457 t458 t459 t460).bind fun t463 => (if t463 = 2 then (laws_FnTrials.j4 k4 l0 (t460 != 2)) else (laws_FnTrials.j4 k4 l0 true))) else (laws_FnTrials.j4 k4 l0 true))) = some r := H
              have A84 := Aside0.mk A840
              clear A840
              have HC85 := Aside0.mk H
              clear H
              go_upto_region 17 with (first | ((with_reducible refine gate_callee (f := 45) rfl ?_); refine goesL_ (some 83) rfl rfl Try.func45 (by kernel_rfl) rfl #[.slice Ao10 t425.length co10] rfl (by (try simp only [mA, mC, mN]); first | done | rfl | (simp only [lD, lT]; rfl)) ?_; (with_reducible refine (impl_NeedFor.calls _ _ t425 t446 _ ?side1 ?side2 A70.out).mono ?_); (case side1 => repeat (first | exact (Kd.R_reads' HO_3.out).2.2 | (with_reducible refine Kd.C_alloc ?_ _) | (with_reducible refine Kd.C_drewN ?_ _) | (with_reducible refine Kd.C_drew ?_))); (case side2 => exact (Kd.R_reads' HO_3.out).2.1); rintro e w86 ⟨rfl, hb⟩; refine ⟨_, rfl, ?_⟩; have n0_ := Aside0.mk (Kd.R_below (qR HO_3) hb); have n1_ := Aside0.mk (blk_below (qK BK433) hb); have n2_ := Aside0.mk (blk_below (qK BK439) hb); have n3_ := Aside0.mk (blk_below (qK BK445) hb); have n4_ := Aside0.mk (below_step (by repeat first | (with_reducible first | exact HB.out | apply bA | apply bN | apply bD | refine bS ?_ GE433.out | refine bS ?_ GE439.out | refine bS ?_ GE445.out) | exact HB.out) hb); clear HO_3; clear BK433; clear BK439; clear BK445; clear HB; have HO_3 := n0_; have BK433 := n1_; have BK439 := n2_; have BK445 := n3_; have HB := n4_; clear n0_ n1_ n2_ n3_ n4_; (try clear hb); (try clear hb2); (try clear hk); (try clear hi)) | ((with_reducible refine gate_dst (N := 100) rfl ?_); (try (refine gate_guard (by rfl) ?_; dsimp only)); refine Kd.R_lit (Kd.int .i64) _ 3 ?hg (N := 100) ?hd (xs := ([(-5), (-5), (-5)] : List Int)) (inner := [.int .i64 (-5), .int .i64 (-5), .int .i64 (-5)]) (ok := fun _ => True) (okp := fun _ => True) ?hr ?hp (fun _ hk => hk) trivial (Below.refl _ _) (Nat.le_refl _) (by simp) ?_; (case hd => rfl); (case hg => rfl); (case hr => first | (go_simp; done) | (go_simp; rfl)); (case hp => exact (Reps.one (show Kd.M (Kd.int .i64) _ _ _ (-5) [.int .i64 (-5)] from rfl) (Reps.one (show Kd.M (Kd.int .i64) _ _ _ (-5) [.int .i64 (-5)] from rfl) (Reps.one (show Kd.M (Kd.int .i64) _ _ _ (-5) [.int .i64 (-5)] from rfl) (Reps.none _ _))))); intro v455 w87 ho88 hb hg_ hnew_; clear hg_ hnew_; (first | rw [← Ny454.out] at ho88 | (simp only [Int.reduceToNat] at ho88; rw [← Ny454.out] at ho88)); have n0_ := Aside0.mk (Kd.R_below (qR HO_3) hb); have n1_ := Aside0.mk (Kd.R_lower ho88 (below_size (by repeat first | (with_reducible first | exact HB.out | apply bA | apply bN | apply bD | refine bS ?_ GE433.out | refine bS ?_ GE439.out | refine bS ?_ GE445.out) | exact HB.out))); have n2_ := Aside0.mk (blk_below (qK BK433) hb); have n3_ := Aside0.mk (blk_below (qK BK439) hb); have n4_ := Aside0.mk (blk_below (qK BK445) hb); have n5_ := Aside0.mk (below_step (by repeat first | (with_reducible first | exact HB.out | apply bA | apply bN | apply bD | refine bS ?_ GE433.out | refine bS ?_ GE439.out | refine bS ?_ GE445.out) | exact HB.out) hb); clear HO_3; clear BK433; clear BK439; clear BK445; clear HB; have HO_3 := n0_; have HO456 := n1_; have BK433 := n2_; have BK439 := n3_; have BK445 := n4_; have HB := n5_; clear n0_ n1_ n2_ n3_ n4_ n5_; clear hb ho88; obtain ⟨Ao89, co89, eo89⟩ := Kd.R_slice HO456.out; subst eo89) | ((with_reducible refine gate_callee (f := 19) rfl ?_); refine goesL_ (some 101) rfl rfl Try.func19 (by kernel_rfl) rfl #[.slice Ao10 t425.length co10, .agg #[.int .i64 7, .int .i64 0, .int .i64 0, .int .i64 0], .slice Ao89 y454.length co89] rfl (by (try simp only [mA, mC, mN]); first | done | rfl | (simp only [lD, lT]; rfl)) ?_; (with_reducible refine (impl_AnswerAll.calls k4 _ _ t425 7 0 0 0 _ _ y454 t457 t458 t459 t460 _ ?side1 ?side2 ?side3 ?side4 A84.out).mono ?_); (case side1 => repeat (first | exact (Kd.R_reads' HO_3.out).2.2 | (with_reducible refine Kd.C_alloc ?_ _) | (with_reducible refine Kd.C_drewN ?_ _) | (with_reducible refine Kd.C_drew ?_))); (case side2 => exact (Kd.R_reads' HO_3.out).2.1); (case side3 => repeat (first | exact (Kd.R_reads' HO456.out).2.2 | (with_reducible refine Kd.C_alloc ?_ _) | (with_reducible refine Kd.C_drewN ?_ _) | (with_reducible refine Kd.C_drew ?_))); (case side4 => exact (Kd.R_reads' HO456.out).2.1); rintro e w90 ⟨rfl, hb⟩; refine ⟨_, rfl, ?_⟩; have n0_ := Aside0.mk (Kd.R_below (qR HO_3) hb); have n1_ := Aside0.mk (Kd.R_below (qR HO456) hb); have n2_ := Aside0.mk (blk_below (qK BK433) hb); have n3_ := Aside0.mk (blk_below (qK BK439) hb); have n4_ := Aside0.mk (blk_below (qK BK445) hb); have n5_ := Aside0.mk (below_step (by repeat first | (with_reducible first | exact HB.out | apply bA | apply bN | apply bD | refine bS ?_ GE433.out | refine bS ?_ GE439.out | refine bS ?_ GE445.out) | exact HB.out) hb); clear HO_3; clear HO456; clear BK433; clear BK439; clear BK445; clear HB; have HO_3 := n0_; have HO456 := n1_; have BK433 := n2_; have BK439 := n3_; have BK445 := n4_; have HB := n5_; clear n0_ n1_ n2_ n3_ n4_ n5_; (try clear hb); (try clear hb2); (try clear hk); (try clear hi)) | ((with_reducible refine gate_dst (N := 11) rfl ?_); (try (refine gate_guard (by rfl) ?_; dsimp only)); refine box_event ?hg (N := 11) ?hd (cs := #[.int .i64 0, .int .i64 0, .int .i64 0, .int .i64 0]) (t := 27) ?hr ?_; (case hd => rfl); (case hg => rfl); (case hr => first | (go_simp; done) | (go_simp; rfl)); intro gb461 hg w91 hbox hb; have n0_ := Aside0.mk (Kd.R_below (qR HO_3) hb); have n1_ := Aside0.mk (Kd.R_below (qR HO456) hb); have n2_ := Aside0.mk (blk_below (qK BK433) hb); have n3_ := Aside0.mk (blk_below (qK BK439) hb); have n4_ := Aside0.mk (blk_below (qK BK445) hb); have n5_ := Aside0.mk (below_step (by repeat first | (with_reducible first | exact HB.out | apply bA | apply bN | apply bD | refine bS ?_ GE433.out | refine bS ?_ GE439.out | refine bS ?_ GE445.out) | exact HB.out) hb); have n6_ := Aside0.mk (hbox); have n7_ := Aside0.mk ((by rw [hg]; exact (below_size (by repeat first | (with_reducible first | exact HB.out | apply bA | apply bN | apply bD | refine bS ?_ GE433.out | refine bS ?_ GE439.out | refine bS ?_ GE445.out) | exact HB.out)) : w.heap.size ≤ gb461)); have n8_ := Aside0.mk ((by rw [hg]; exact (below_size (by repeat first | (with_reducible first | exact HB.out | apply bA | apply bN | apply bD | refine bS ?_ GE433.out | refine bS ?_ GE439.out | refine bS ?_ GE445.out) | exact HB.out)) : w.heap.size ≤ gb461)); have n9_ := Aside0.mk ((by rw [hg]; exact Nat.ne_of_lt (blk_lt (qK BK433)) : gb433 ≠ gb461)); have n10_ := Aside0.mk ((by rw [hg]; exact Nat.ne_of_gt (blk_lt (qK BK433)) : gb461 ≠ gb433)); have n11_ := Aside0.mk ((by rw [hg]; exact Nat.ne_of_lt (blk_lt (qK BK439)) : gb439 ≠ gb461)); have n12_ := Aside0.mk ((by rw [hg]; exact Nat.ne_of_gt (blk_lt (qK BK439)) : gb461 ≠ gb439)); have n13_ := Aside0.mk ((by rw [hg]; exact Nat.ne_of_lt (blk_lt (qK BK445)) : gb445 ≠ gb461)); have n14_ := Aside0.mk ((by rw [hg]; exact Nat.ne_of_gt (blk_lt (qK BK445)) : gb461 ≠ gb445)); clear HO_3; clear HO456; clear BK433; clear BK439; clear BK445; clear HB; have HO_3 := n0_; have HO456 := n1_; have BK433 := n2_; have BK439 := n3_; have BK445 := n4_; have HB := n5_; have BK461 := n6_; have GW461 := n7_; have GE461 := n8_; have NB433_461 := n9_; have NB461_433 := n10_; have NB439_461 := n11_; have NB461_439 := n12_; have NB445_461 := n13_; have NB461_445 := n14_; clear n0_ n1_ n2_ n3_ n4_ n5_ n6_ n7_ n8_ n9_ n10_ n11_ n12_ n13_ n14_; clear hb hbox hg; have hnb92 := NB461_433.out; have hnc92 := NB433_461.out; have hnb93 := NB461_439.out; have hnc93 := NB439_461.out; have hnb94 := NB461_445.out; have hnc94 := NB445_461.out; have hcz95_0 : w91.cell? ⟨gb461, 0, none⟩ = some (.int .i64 0) := cC BK461 0; have hcz95_1 : w91.cell? ⟨gb461, 1, none⟩ = some (.int .i64 0) := cC BK461 1; have hcz95_2 : w91.cell? ⟨gb461, 2, none⟩ = some (.int .i64 0) := cC BK461 2; have hcz95_3 : w91.cell? ⟨gb461, 3, none⟩ = some (.int .i64 0) := cC BK461 3; have hfz95_0 := blk_frozen BK461.out 0; have hfz95_1 := blk_frozen BK461.out 1; have hfz95_2 := blk_frozen BK461.out 2; have hfz95_3 := blk_frozen BK461.out 3))
              (try simp only [Act.put, sA, sZ, sS])
              go_cut [116] (fun v116 wc => ∃ (kq : Nat) (x116_84 : Bool), v116 = .bool x116_84 ∧ Aside0 (laws_FnTrials.j4 kq l0 x116_84 = some r) ∧ Aside0 (kq ≤ k4) ∧ Aside0 (wc.heap[gb433]? = some (.cells #[.int .i64 t428, .int .i64 t429, .int .i64 t430, .int .i64 t431] 27 (0, 0))) ∧ Aside0 (wc.heap[gb439]? = some (.cells #[.int .i64 t434, .int .i64 t435, .int .i64 t436, .int .i64 t437] 27 (0, 0))) ∧ Aside0 (wc.heap[gb445]? = some (.cells #[.int .i64 x446000_4, .int .i64 x446001_4, .int .i64 x446002_4, .int .i64 x446003_4] 27 (0, 0))) ∧ Aside0 (wc.heap[gb461]? = some (.cells #[.int .i64 t457, .int .i64 t458, .int .i64 t459, .int .i64 t460] 27 (0, 0))) ∧ Aside0 (Below w.heap.size w wc))
              case first =>
               have H := HC85.out
               clear HC85
               replace H := Option.bind_eq_some_iff.mp H
               obtain ⟨t462, A960, H⟩ := H
               replace H : (if t462 = 1 then ((impl_TrialState.f k4 t425 t457 t458 t459 t460).bind fun t463 => (if t463 = 2 then (laws_FnTrials.j4 k4 l0 (t460 != 2)) else (laws_FnTrials.j4 k4 l0 true))) else (laws_FnTrials.j4 k4 l0 true)) = some r := H
               have A96 := Aside0.mk A960
               clear A960
               by_cases c97 : t462 = 1
               ·rw [if_pos c97] at H
                have c97b0 : (t462 == 1) = true := beq_iff_eq.mpr c97
                have c97b1 : (t462 != 1) = false := bne_eq_false_iff_eq.mpr c97
                clear c97
                (first | rw [c97b0] | (simp only [i64_w, i32_w]; rw [c97b0]) | skip)
                replace H := Option.bind_eq_some_iff.mp H
                obtain ⟨t463, A980, H⟩ := H
                replace H : (if t463 = 2 then (laws_FnTrials.j4 k4 l0 (t460 != 2)) else (laws_FnTrials.j4 k4 l0 true)) = some r := H
                have A98 := Aside0.mk A980
                clear A980
                by_cases c99 : t463 = 2
                ·rw [if_pos c99] at H
                 have c99b0 : (t463 == 2) = true := beq_iff_eq.mpr c99
                 have c99b1 : (t463 != 2) = false := bne_eq_false_iff_eq.mpr c99
                 clear c99
                 have H' := Aside0.mk H
                 clear H
                 have hnb100 := NB445_433.out
                 have hnc100 := NB433_445.out
                 have hnb101 := NB445_439.out
                 have hnc101 := NB439_445.out
                 have hnb102 := NB445_461.out
                 have hnc102 := NB461_445.out
                 have hcz103_0 : w91.cell? ⟨gb445, 0, none⟩ = some (.int .i64 x446000_4) := cC BK445 0
                 have hcz103_1 : w91.cell? ⟨gb445, 1, none⟩ = some (.int .i64 x446001_4) := cC BK445 1
                 have hcz103_2 : w91.cell? ⟨gb445, 2, none⟩ = some (.int .i64 x446002_4) := cC BK445 2
                 have hcz103_3 : w91.cell? ⟨gb445, 3, none⟩ = some (.int .i64 x446003_4) := cC BK445 3
                 have hfz103_0 := blk_frozen BK445.out 0
                 have hfz103_1 := blk_frozen BK445.out 1
                 have hfz103_2 := blk_frozen BK445.out 2
                 have hfz103_3 := blk_frozen BK445.out 3
                 go_wp2_with (first | ((with_reducible refine gate_callee (f := 44) rfl ?_); refine goesL_ (some 104) rfl rfl Try.func44 (by kernel_rfl) rfl #[.slice Ao10 t425.length co10, .agg #[.int .i64 x446000_4, .int .i64 x446001_4, .int .i64 x446002_4, .int .i64 x446003_4]] rfl (by (try simp only [mA, mC, mN]); first | done | rfl | (simp only [lD, lT]; rfl)) ?_; (with_reducible refine (impl_TrialState.calls k4 _ _ t425 x446000_4 x446001_4 x446002_4 x446003_4 t462 _ ?side1 ?side2 A96.out).mono ?_); (case side1 => refine (Kd.R_reads' (e := 62) (base := w.heap.size) (ok := fun k_ => True) (n := t425.length) (c := co10) ?_).2.2; exact (by (with_reducible repeat first | apply rA | apply rN | apply rD); exact (far4 HO_3 BK461))); (case side2 => exact (Kd.R_reads' HO_3.out).2.1); rintro e w104 ⟨rfl, hb⟩; refine ⟨_, rfl, ?_⟩; have n0_ := Aside0.mk (Kd.R_below (by (with_reducible repeat first | apply rA | apply rN | apply rD); exact (far4 HO_3 BK461)) hb); have n1_ := Aside0.mk (Kd.R_below (by (with_reducible repeat first | apply rA | apply rN | apply rD); exact (far4 HO456 BK461)) hb); have n2_ := Aside0.mk (blk_below (g := gb433) (o := .cells #[.int .i64 t428, .int .i64 t429, .int .i64 t430, .int .i64 t431] 27 (0, 0)) (by (with_reducible repeat first | refine kN ?_ _ | refine kD ?_ | refine kA ?_ _); exact blk4 BK433.out NB433_461) hb); have n3_ := Aside0.mk (blk_below (g := gb439) (o := .cells #[.int .i64 t434, .int .i64 t435, .int .i64 t436, .int .i64 t437] 27 (0, 0)) (by (with_reducible repeat first | refine kN ?_ _ | refine kD ?_ | refine kA ?_ _); exact blk4 BK439.out NB439_461) hb); have n4_ := Aside0.mk (blk_below (g := gb445) (o := .cells #[.int .i64 x446000_4, .int .i64 x446001_4, .int .i64 x446002_4, .int .i64 x446003_4] 27 (0, 0)) (by (with_reducible repeat first | refine kN ?_ _ | refine kD ?_ | refine kA ?_ _); exact blk4 BK445.out NB445_461) hb); have n5_ := Aside0.mk (blk_below (g := gb461) (o := .cells #[.int .i64 t457, .int .i64 t458, .int .i64 t459, .int .i64 t460] 27 (0, 0)) (by (with_reducible repeat first | refine kN ?_ _ | refine kD ?_ | refine kA ?_ _); refine blk_put (cs := #[.int .i64 t457, .int .i64 t458, .int .i64 t459, .int .i64 0]) ?_ 3 _ rfl; (with_reducible repeat first | refine kN ?_ _ | refine kD ?_ | refine kA ?_ _); refine blk_put (cs := #[.int .i64 t457, .int .i64 t458, .int .i64 0, .int .i64 0]) ?_ 2 _ rfl; (with_reducible repeat first | refine kN ?_ _ | refine kD ?_ | refine kA ?_ _); refine blk_put (cs := #[.int .i64 t457, .int .i64 0, .int .i64 0, .int .i64 0]) ?_ 1 _ rfl; (with_reducible repeat first | refine kN ?_ _ | refine kD ?_ | refine kA ?_ _); refine blk_put (cs := #[.int .i64 0, .int .i64 0, .int .i64 0, .int .i64 0]) ?_ 0 _ rfl; (with_reducible repeat first | refine kN ?_ _ | refine kD ?_ | refine kA ?_ _); exact BK461.out) hb); have n6_ := Aside0.mk (below_step (by repeat first | (with_reducible first | exact HB.out | apply bA | apply bN | apply bD | refine bS ?_ GE433.out | refine bS ?_ GE439.out | refine bS ?_ GE445.out | refine bS ?_ GE461.out) | exact HB.out) hb); clear HO_3; clear HO456; clear BK433; clear BK439; clear BK445; clear BK461; clear HB; have HO_3 := n0_; have HO456 := n1_; have BK433 := n2_; have BK439 := n3_; have BK445 := n4_; have BK461 := n5_; have HB := n6_; clear n0_ n1_ n2_ n3_ n4_ n5_ n6_; (try clear hb); (try clear hb2); (try clear hk); (try clear hi); have hnb105 := NB461_433.out; have hnc105 := NB433_461.out; have hnb106 := NB461_439.out; have hnc106 := NB439_461.out; have hcz107_0 : w104.cell? ⟨gb461, 0, none⟩ = some (.int .i64 t457) := cC BK461 0; have hcz107_1 : w104.cell? ⟨gb461, 1, none⟩ = some (.int .i64 t458) := cC BK461 1; have hcz107_2 : w104.cell? ⟨gb461, 2, none⟩ = some (.int .i64 t459) := cC BK461 2; have hcz107_3 : w104.cell? ⟨gb461, 3, none⟩ = some (.int .i64 t460) := cC BK461 3; have hfz107_0 := blk_frozen BK461.out 0; have hfz107_1 := blk_frozen BK461.out 1; have hfz107_2 := blk_frozen BK461.out 2; have hfz107_3 := blk_frozen BK461.out 3) | (go_at_call 44; (with_reducible refine (impl_TrialState.calls k4 _ _ t425 t457 t458 t459 t460 t463 _ ?side1 ?side2 A98.out).mono ?_); (case side1 => repeat (first | exact (Kd.R_reads' HO_3.out).2.2 | (with_reducible refine Kd.C_alloc ?_ _) | (with_reducible refine Kd.C_drewN ?_ _) | (with_reducible refine Kd.C_drew ?_))); (case side2 => exact (Kd.R_reads' HO_3.out).2.1); rintro e w108 ⟨rfl, hb⟩; have n0_ := Aside0.mk (Kd.R_below (qR HO_3) hb); have n1_ := Aside0.mk (Kd.R_below (qR HO456) hb); have n2_ := Aside0.mk (blk_below (qK BK433) hb); have n3_ := Aside0.mk (blk_below (qK BK439) hb); have n4_ := Aside0.mk (blk_below (qK BK445) hb); have n5_ := Aside0.mk (blk_below (qK BK461) hb); have n6_ := Aside0.mk (below_step (by repeat first | (with_reducible first | exact HB.out | apply bA | apply bN | apply bD | refine bS ?_ GE433.out | refine bS ?_ GE439.out | refine bS ?_ GE445.out | refine bS ?_ GE461.out) | exact HB.out) hb); clear HO_3; clear HO456; clear BK433; clear BK439; clear BK445; clear BK461; clear HB; have HO_3 := n0_; have HO456 := n1_; have BK433 := n2_; have BK439 := n3_; have BK445 := n4_; have BK461 := n5_; have HB := n6_; clear n0_ n1_ n2_ n3_ n4_ n5_ n6_; (try clear hb); (try clear hb2); (try clear hk); (try clear hi); have hcz109_0 : w108.cell? ⟨gb461, 0, none⟩ = some (.int .i64 t457) := cC BK461 0; have hcz109_1 : w108.cell? ⟨gb461, 1, none⟩ = some (.int .i64 t458) := cC BK461 1; have hcz109_2 : w108.cell? ⟨gb461, 2, none⟩ = some (.int .i64 t459) := cC BK461 2; have hcz109_3 : w108.cell? ⟨gb461, 3, none⟩ = some (.int .i64 t460) := cC BK461 3; have hfz109_0 := blk_frozen BK461.out 0; have hfz109_1 := blk_frozen BK461.out 1; have hfz109_2 := blk_frozen BK461.out 2; have hfz109_3 := blk_frozen BK461.out 3))
                 go_meet
                 case rel => exact ⟨_, ((t460 != 2)), (by first | rfl | (simp; done) | (simp [*]; done)), H', ⟨by have := HJ5.out; have := HJ49.out; have := HJ59.out; have := HK4.out; first | omega | exact Nat.le_refl _⟩, ⟨by (with_reducible repeat first | refine kN ?_ _ | refine kD ?_ | refine kA ?_ _); exact BK433.out⟩, ⟨by (with_reducible repeat first | refine kN ?_ _ | refine kD ?_ | refine kA ?_ _); exact BK439.out⟩, ⟨by (with_reducible repeat first | refine kN ?_ _ | refine kD ?_ | refine kA ?_ _); exact BK445.out⟩, ⟨by (with_reducible repeat first | refine kN ?_ _ | refine kD ?_ | refine kA ?_ _); exact BK461.out⟩, ⟨by repeat (first | (with_reducible first | exact HB.out | apply bA | apply bN | apply bD | refine bS ?_ GE433.out | refine bS ?_ GE439.out | refine bS ?_ GE445.out | refine bS ?_ GE461.out) | exact HB.out)⟩⟩
                ·rw [if_neg c99] at H
                 have c99b0 : (t463 == 2) = false := beq_eq_false_iff_ne.mpr c99
                 have c99b1 : (t463 != 2) = true := bne_iff_ne.mpr c99
                 have H' := Aside0.mk H
                 clear H
                 have hnb110 := NB445_433.out
                 have hnc110 := NB433_445.out
                 have hnb111 := NB445_439.out
                 have hnc111 := NB439_445.out
                 have hnb112 := NB445_461.out
                 have hnc112 := NB461_445.out
                 have hcz113_0 : w91.cell? ⟨gb445, 0, none⟩ = some (.int .i64 x446000_4) := cC BK445 0
                 have hcz113_1 : w91.cell? ⟨gb445, 1, none⟩ = some (.int .i64 x446001_4) := cC BK445 1
                 have hcz113_2 : w91.cell? ⟨gb445, 2, none⟩ = some (.int .i64 x446002_4) := cC BK445 2
                 have hcz113_3 : w91.cell? ⟨gb445, 3, none⟩ = some (.int .i64 x446003_4) := cC BK445 3
                 have hfz113_0 := blk_frozen BK445.out 0
                 have hfz113_1 := blk_frozen BK445.out 1
                 have hfz113_2 := blk_frozen BK445.out 2
                 have hfz113_3 := blk_frozen BK445.out 3
                 go_wp2_with (first | ((with_reducible refine gate_callee (f := 44) rfl ?_); refine goesL_ (some 104) rfl rfl Try.func44 (by kernel_rfl) rfl #[.slice Ao10 t425.length co10, .agg #[.int .i64 x446000_4, .int .i64 x446001_4, .int .i64 x446002_4, .int .i64 x446003_4]] rfl (by (try simp only [mA, mC, mN]); first | done | rfl | (simp only [lD, lT]; rfl)) ?_; (with_reducible refine (impl_TrialState.calls k4 _ _ t425 x446000_4 x446001_4 x446002_4 x446003_4 t462 _ ?side1 ?side2 A96.out).mono ?_); (case side1 => refine (Kd.R_reads' (e := 62) (base := w.heap.size) (ok := fun k_ => True) (n := t425.length) (c := co10) ?_).2.2; exact (by (with_reducible repeat first | apply rA | apply rN | apply rD); exact (far4 HO_3 BK461))); (case side2 => exact (Kd.R_reads' HO_3.out).2.1); rintro e w114 ⟨rfl, hb⟩; refine ⟨_, rfl, ?_⟩; have n0_ := Aside0.mk (Kd.R_below (by (with_reducible repeat first | apply rA | apply rN | apply rD); exact (far4 HO_3 BK461)) hb); have n1_ := Aside0.mk (Kd.R_below (by (with_reducible repeat first | apply rA | apply rN | apply rD); exact (far4 HO456 BK461)) hb); have n2_ := Aside0.mk (blk_below (g := gb433) (o := .cells #[.int .i64 t428, .int .i64 t429, .int .i64 t430, .int .i64 t431] 27 (0, 0)) (by (with_reducible repeat first | refine kN ?_ _ | refine kD ?_ | refine kA ?_ _); exact blk4 BK433.out NB433_461) hb); have n3_ := Aside0.mk (blk_below (g := gb439) (o := .cells #[.int .i64 t434, .int .i64 t435, .int .i64 t436, .int .i64 t437] 27 (0, 0)) (by (with_reducible repeat first | refine kN ?_ _ | refine kD ?_ | refine kA ?_ _); exact blk4 BK439.out NB439_461) hb); have n4_ := Aside0.mk (blk_below (g := gb445) (o := .cells #[.int .i64 x446000_4, .int .i64 x446001_4, .int .i64 x446002_4, .int .i64 x446003_4] 27 (0, 0)) (by (with_reducible repeat first | refine kN ?_ _ | refine kD ?_ | refine kA ?_ _); exact blk4 BK445.out NB445_461) hb); have n5_ := Aside0.mk (blk_below (g := gb461) (o := .cells #[.int .i64 t457, .int .i64 t458, .int .i64 t459, .int .i64 t460] 27 (0, 0)) (by (with_reducible repeat first | refine kN ?_ _ | refine kD ?_ | refine kA ?_ _); refine blk_put (cs := #[.int .i64 t457, .int .i64 t458, .int .i64 t459, .int .i64 0]) ?_ 3 _ rfl; (with_reducible repeat first | refine kN ?_ _ | refine kD ?_ | refine kA ?_ _); refine blk_put (cs := #[.int .i64 t457, .int .i64 t458, .int .i64 0, .int .i64 0]) ?_ 2 _ rfl; (with_reducible repeat first | refine kN ?_ _ | refine kD ?_ | refine kA ?_ _); refine blk_put (cs := #[.int .i64 t457, .int .i64 0, .int .i64 0, .int .i64 0]) ?_ 1 _ rfl; (with_reducible repeat first | refine kN ?_ _ | refine kD ?_ | refine kA ?_ _); refine blk_put (cs := #[.int .i64 0, .int .i64 0, .int .i64 0, .int .i64 0]) ?_ 0 _ rfl; (with_reducible repeat first | refine kN ?_ _ | refine kD ?_ | refine kA ?_ _); exact BK461.out) hb); have n6_ := Aside0.mk (below_step (by repeat first | (with_reducible first | exact HB.out | apply bA | apply bN | apply bD | refine bS ?_ GE433.out | refine bS ?_ GE439.out | refine bS ?_ GE445.out | refine bS ?_ GE461.out) | exact HB.out) hb); clear HO_3; clear HO456; clear BK433; clear BK439; clear BK445; clear BK461; clear HB; have HO_3 := n0_; have HO456 := n1_; have BK433 := n2_; have BK439 := n3_; have BK445 := n4_; have BK461 := n5_; have HB := n6_; clear n0_ n1_ n2_ n3_ n4_ n5_ n6_; (try clear hb); (try clear hb2); (try clear hk); (try clear hi); have hnb115 := NB461_433.out; have hnc115 := NB433_461.out; have hnb116 := NB461_439.out; have hnc116 := NB439_461.out; have hcz117_0 : w114.cell? ⟨gb461, 0, none⟩ = some (.int .i64 t457) := cC BK461 0; have hcz117_1 : w114.cell? ⟨gb461, 1, none⟩ = some (.int .i64 t458) := cC BK461 1; have hcz117_2 : w114.cell? ⟨gb461, 2, none⟩ = some (.int .i64 t459) := cC BK461 2; have hcz117_3 : w114.cell? ⟨gb461, 3, none⟩ = some (.int .i64 t460) := cC BK461 3; have hfz117_0 := blk_frozen BK461.out 0; have hfz117_1 := blk_frozen BK461.out 1; have hfz117_2 := blk_frozen BK461.out 2; have hfz117_3 := blk_frozen BK461.out 3) | (go_at_call 44; (with_reducible refine (impl_TrialState.calls k4 _ _ t425 t457 t458 t459 t460 t463 _ ?side1 ?side2 A98.out).mono ?_); (case side1 => repeat (first | exact (Kd.R_reads' HO_3.out).2.2 | (with_reducible refine Kd.C_alloc ?_ _) | (with_reducible refine Kd.C_drewN ?_ _) | (with_reducible refine Kd.C_drew ?_))); (case side2 => exact (Kd.R_reads' HO_3.out).2.1); rintro e w118 ⟨rfl, hb⟩; have n0_ := Aside0.mk (Kd.R_below (qR HO_3) hb); have n1_ := Aside0.mk (Kd.R_below (qR HO456) hb); have n2_ := Aside0.mk (blk_below (qK BK433) hb); have n3_ := Aside0.mk (blk_below (qK BK439) hb); have n4_ := Aside0.mk (blk_below (qK BK445) hb); have n5_ := Aside0.mk (blk_below (qK BK461) hb); have n6_ := Aside0.mk (below_step (by repeat first | (with_reducible first | exact HB.out | apply bA | apply bN | apply bD | refine bS ?_ GE433.out | refine bS ?_ GE439.out | refine bS ?_ GE445.out | refine bS ?_ GE461.out) | exact HB.out) hb); clear HO_3; clear HO456; clear BK433; clear BK439; clear BK445; clear BK461; clear HB; have HO_3 := n0_; have HO456 := n1_; have BK433 := n2_; have BK439 := n3_; have BK445 := n4_; have BK461 := n5_; have HB := n6_; clear n0_ n1_ n2_ n3_ n4_ n5_ n6_; (try clear hb); (try clear hb2); (try clear hk); (try clear hi)))
                 go_meet
                 case rel => exact ⟨_, (true), (by first | rfl | (simp; done) | (simp [*]; done)), H', ⟨by have := HJ5.out; have := HJ49.out; have := HJ59.out; have := HK4.out; first | omega | exact Nat.le_refl _⟩, ⟨by (with_reducible repeat first | refine kN ?_ _ | refine kD ?_ | refine kA ?_ _); exact BK433.out⟩, ⟨by (with_reducible repeat first | refine kN ?_ _ | refine kD ?_ | refine kA ?_ _); exact BK439.out⟩, ⟨by (with_reducible repeat first | refine kN ?_ _ | refine kD ?_ | refine kA ?_ _); exact BK445.out⟩, ⟨by (with_reducible repeat first | refine kN ?_ _ | refine kD ?_ | refine kA ?_ _); exact BK461.out⟩, ⟨by repeat (first | (with_reducible first | exact HB.out | apply bA | apply bN | apply bD | refine bS ?_ GE433.out | refine bS ?_ GE439.out | refine bS ?_ GE445.out | refine bS ?_ GE461.out) | exact HB.out)⟩⟩
               ·rw [if_neg c97] at H
                have c97b0 : (t462 == 1) = false := beq_eq_false_iff_ne.mpr c97
                have c97b1 : (t462 != 1) = true := bne_iff_ne.mpr c97
                (first | rw [c97b0] | (simp only [i64_w, i32_w]; rw [c97b0]) | skip)
                have H' := Aside0.mk H
                clear H
                have hnb119 := NB445_433.out
                have hnc119 := NB433_445.out
                have hnb120 := NB445_439.out
                have hnc120 := NB439_445.out
                have hnb121 := NB445_461.out
                have hnc121 := NB461_445.out
                have hcz122_0 : w91.cell? ⟨gb445, 0, none⟩ = some (.int .i64 x446000_4) := cC BK445 0
                have hcz122_1 : w91.cell? ⟨gb445, 1, none⟩ = some (.int .i64 x446001_4) := cC BK445 1
                have hcz122_2 : w91.cell? ⟨gb445, 2, none⟩ = some (.int .i64 x446002_4) := cC BK445 2
                have hcz122_3 : w91.cell? ⟨gb445, 3, none⟩ = some (.int .i64 x446003_4) := cC BK445 3
                have hfz122_0 := blk_frozen BK445.out 0
                have hfz122_1 := blk_frozen BK445.out 1
                have hfz122_2 := blk_frozen BK445.out 2
                have hfz122_3 := blk_frozen BK445.out 3
                go_wp2_with (first | ((with_reducible refine gate_callee (f := 44) rfl ?_); refine goesL_ (some 104) rfl rfl Try.func44 (by kernel_rfl) rfl #[.slice Ao10 t425.length co10, .agg #[.int .i64 x446000_4, .int .i64 x446001_4, .int .i64 x446002_4, .int .i64 x446003_4]] rfl (by (try simp only [mA, mC, mN]); first | done | rfl | (simp only [lD, lT]; rfl)) ?_; (with_reducible refine (impl_TrialState.calls k4 _ _ t425 x446000_4 x446001_4 x446002_4 x446003_4 t462 _ ?side1 ?side2 A96.out).mono ?_); (case side1 => refine (Kd.R_reads' (e := 62) (base := w.heap.size) (ok := fun k_ => True) (n := t425.length) (c := co10) ?_).2.2; exact (by (with_reducible repeat first | apply rA | apply rN | apply rD); exact (far4 HO_3 BK461))); (case side2 => exact (Kd.R_reads' HO_3.out).2.1); rintro e w123 ⟨rfl, hb⟩; refine ⟨_, rfl, ?_⟩; have n0_ := Aside0.mk (Kd.R_below (by (with_reducible repeat first | apply rA | apply rN | apply rD); exact (far4 HO_3 BK461)) hb); have n1_ := Aside0.mk (Kd.R_below (by (with_reducible repeat first | apply rA | apply rN | apply rD); exact (far4 HO456 BK461)) hb); have n2_ := Aside0.mk (blk_below (g := gb433) (o := .cells #[.int .i64 t428, .int .i64 t429, .int .i64 t430, .int .i64 t431] 27 (0, 0)) (by (with_reducible repeat first | refine kN ?_ _ | refine kD ?_ | refine kA ?_ _); exact blk4 BK433.out NB433_461) hb); have n3_ := Aside0.mk (blk_below (g := gb439) (o := .cells #[.int .i64 t434, .int .i64 t435, .int .i64 t436, .int .i64 t437] 27 (0, 0)) (by (with_reducible repeat first | refine kN ?_ _ | refine kD ?_ | refine kA ?_ _); exact blk4 BK439.out NB439_461) hb); have n4_ := Aside0.mk (blk_below (g := gb445) (o := .cells #[.int .i64 x446000_4, .int .i64 x446001_4, .int .i64 x446002_4, .int .i64 x446003_4] 27 (0, 0)) (by (with_reducible repeat first | refine kN ?_ _ | refine kD ?_ | refine kA ?_ _); exact blk4 BK445.out NB445_461) hb); have n5_ := Aside0.mk (blk_below (g := gb461) (o := .cells #[.int .i64 t457, .int .i64 t458, .int .i64 t459, .int .i64 t460] 27 (0, 0)) (by (with_reducible repeat first | refine kN ?_ _ | refine kD ?_ | refine kA ?_ _); refine blk_put (cs := #[.int .i64 t457, .int .i64 t458, .int .i64 t459, .int .i64 0]) ?_ 3 _ rfl; (with_reducible repeat first | refine kN ?_ _ | refine kD ?_ | refine kA ?_ _); refine blk_put (cs := #[.int .i64 t457, .int .i64 t458, .int .i64 0, .int .i64 0]) ?_ 2 _ rfl; (with_reducible repeat first | refine kN ?_ _ | refine kD ?_ | refine kA ?_ _); refine blk_put (cs := #[.int .i64 t457, .int .i64 0, .int .i64 0, .int .i64 0]) ?_ 1 _ rfl; (with_reducible repeat first | refine kN ?_ _ | refine kD ?_ | refine kA ?_ _); refine blk_put (cs := #[.int .i64 0, .int .i64 0, .int .i64 0, .int .i64 0]) ?_ 0 _ rfl; (with_reducible repeat first | refine kN ?_ _ | refine kD ?_ | refine kA ?_ _); exact BK461.out) hb); have n6_ := Aside0.mk (below_step (by repeat first | (with_reducible first | exact HB.out | apply bA | apply bN | apply bD | refine bS ?_ GE433.out | refine bS ?_ GE439.out | refine bS ?_ GE445.out | refine bS ?_ GE461.out) | exact HB.out) hb); clear HO_3; clear HO456; clear BK433; clear BK439; clear BK445; clear BK461; clear HB; have HO_3 := n0_; have HO456 := n1_; have BK433 := n2_; have BK439 := n3_; have BK445 := n4_; have BK461 := n5_; have HB := n6_; clear n0_ n1_ n2_ n3_ n4_ n5_ n6_; (try clear hb); (try clear hb2); (try clear hk); (try clear hi)))
                go_meet
                case rel => exact ⟨_, (true), (by first | rfl | (simp; done) | (simp [*]; done)), H', ⟨by have := HJ5.out; have := HJ49.out; have := HJ59.out; have := HK4.out; first | omega | exact Nat.le_refl _⟩, ⟨by (with_reducible repeat first | refine kN ?_ _ | refine kD ?_ | refine kA ?_ _); exact BK433.out⟩, ⟨by (with_reducible repeat first | refine kN ?_ _ | refine kD ?_ | refine kA ?_ _); exact BK439.out⟩, ⟨by (with_reducible repeat first | refine kN ?_ _ | refine kD ?_ | refine kA ?_ _); exact BK445.out⟩, ⟨by (with_reducible repeat first | refine kN ?_ _ | refine kD ?_ | refine kA ?_ _); exact BK461.out⟩, ⟨by repeat (first | (with_reducible first | exact HB.out | apply bA | apply bN | apply bD | refine bS ?_ GE433.out | refine bS ?_ GE439.out | refine bS ?_ GE445.out | refine bS ?_ GE461.out) | exact HB.out)⟩⟩
              case rest =>
               clear HC85
               try clear c1
               try clear c2
               try clear p2
               try clear c3
               try clear c4
               try clear c5
               try clear c6
               try clear p6
               try clear c7
               try clear c9
               try clear c10
               try clear c11
               try clear c12
               try clear c13
               try clear c16
               try clear c16b0
               try clear c16b1
               try clear c16b2
               try clear c17
               try clear c19
               try clear c20
               try clear c22
               try clear c23
               try clear c23b0
               try clear c23b1
               try clear c24
               try clear c30
               try clear c31
               try clear c34
               try clear c37
               try clear c38
               try clear c40
               try clear c41
               try clear c42
               try clear c43
               try clear c44
               try clear c45
               try clear c48
               try clear c51
               try clear c54
               try clear c54b0
               try clear c54b1
               try clear c56
               try clear c59
               try clear c62
               try clear p64
               try clear c65
               try clear c67
               try clear c68
               try clear c71
               try clear c71b0
               try clear c92
               try clear c93
               try clear c94
               try clear c97
               try clear c97b0
               try clear c97b1
               try clear c99
               try clear c99b0
               try clear c99b1
               try clear c100
               try clear c101
               try clear c102
               try clear c105
               try clear c106
               try clear c110
               try clear c111
               try clear c112
               try clear c115
               try clear c116
               try clear c119
               try clear c120
               try clear c121
               try clear hcz103_0
               try clear hcz103_1
               try clear hcz103_2
               try clear hcz103_3
               try clear hcz107_0
               try clear hcz107_1
               try clear hcz107_2
               try clear hcz107_3
               try clear hcz109_0
               try clear hcz109_1
               try clear hcz109_2
               try clear hcz109_3
               try clear hcz113_0
               try clear hcz113_1
               try clear hcz113_2
               try clear hcz113_3
               try clear hcz117_0
               try clear hcz117_1
               try clear hcz117_2
               try clear hcz117_3
               try clear hcz122_0
               try clear hcz122_1
               try clear hcz122_2
               try clear hcz122_3
               try clear hcz14_0
               try clear hcz14_1
               try clear hcz14_2
               try clear hcz14_3
               try clear hcz18_0
               try clear hcz18_1
               try clear hcz18_2
               try clear hcz18_3
               try clear hcz25_0
               try clear hcz25_1
               try clear hcz25_2
               try clear hcz25_3
               try clear hcz27_0
               try clear hcz27_1
               try clear hcz27_2
               try clear hcz27_3
               try clear hcz29_0
               try clear hcz29_1
               try clear hcz29_2
               try clear hcz29_3
               try clear hcz30_0
               try clear hcz30_1
               try clear hcz30_2
               try clear hcz30_3
               try clear hcz32_0
               try clear hcz32_1
               try clear hcz32_2
               try clear hcz32_3
               try clear hcz34_0
               try clear hcz34_1
               try clear hcz34_2
               try clear hcz34_3
               try clear hcz36_0
               try clear hcz36_1
               try clear hcz36_2
               try clear hcz36_3
               try clear hcz37_0
               try clear hcz37_1
               try clear hcz37_2
               try clear hcz37_3
               try clear hcz39_0
               try clear hcz39_1
               try clear hcz39_2
               try clear hcz39_3
               try clear hcz41_0
               try clear hcz41_1
               try clear hcz41_2
               try clear hcz41_3
               try clear hcz44_0
               try clear hcz44_1
               try clear hcz44_2
               try clear hcz44_3
               try clear hcz46_0
               try clear hcz46_1
               try clear hcz46_2
               try clear hcz46_3
               try clear hcz47_0
               try clear hcz47_1
               try clear hcz47_2
               try clear hcz47_3
               try clear hcz52_0
               try clear hcz52_1
               try clear hcz52_2
               try clear hcz52_3
               try clear hcz57_0
               try clear hcz57_1
               try clear hcz57_2
               try clear hcz57_3
               try clear hcz69_0
               try clear hcz69_1
               try clear hcz69_2
               try clear hcz69_3
               try clear hcz95_0
               try clear hcz95_1
               try clear hcz95_2
               try clear hcz95_3
               try clear hcz9_0
               try clear hcz9_1
               try clear hcz9_2
               try clear hcz9_3
               try clear hfz103_0
               try clear hfz103_1
               try clear hfz103_2
               try clear hfz103_3
               try clear hfz107_0
               try clear hfz107_1
               try clear hfz107_2
               try clear hfz107_3
               try clear hfz109_0
               try clear hfz109_1
               try clear hfz109_2
               try clear hfz109_3
               try clear hfz113_0
               try clear hfz113_1
               try clear hfz113_2
               try clear hfz113_3
               try clear hfz117_0
               try clear hfz117_1
               try clear hfz117_2
               try clear hfz117_3
               try clear hfz122_0
               try clear hfz122_1
               try clear hfz122_2
               try clear hfz122_3
               try clear hfz14_0
               try clear hfz14_1
               try clear hfz14_2
               try clear hfz14_3
               try clear hfz18_0
               try clear hfz18_1
               try clear hfz18_2
               try clear hfz18_3
               try clear hfz25_0
               try clear hfz25_1
               try clear hfz25_2
               try clear hfz25_3
               try clear hfz27_0
               try clear hfz27_1
               try clear hfz27_2
               try clear hfz27_3
               try clear hfz29_0
               try clear hfz29_1
               try clear hfz29_2
               try clear hfz29_3
               try clear hfz30_0
               try clear hfz30_1
               try clear hfz30_2
               try clear hfz30_3
               try clear hfz32_0
               try clear hfz32_1
               try clear hfz32_2
               try clear hfz32_3
               try clear hfz34_0
               try clear hfz34_1
               try clear hfz34_2
               try clear hfz34_3
               try clear hfz36_0
               try clear hfz36_1
               try clear hfz36_2
               try clear hfz36_3
               try clear hfz37_0
               try clear hfz37_1
               try clear hfz37_2
               try clear hfz37_3
               try clear hfz39_0
               try clear hfz39_1
               try clear hfz39_2
               try clear hfz39_3
               try clear hfz41_0
               try clear hfz41_1
               try clear hfz41_2
               try clear hfz41_3
               try clear hfz44_0
               try clear hfz44_1
               try clear hfz44_2
               try clear hfz44_3
               try clear hfz46_0
               try clear hfz46_1
               try clear hfz46_2
               try clear hfz46_3
               try clear hfz47_0
               try clear hfz47_1
               try clear hfz47_2
               try clear hfz47_3
               try clear hfz52_0
               try clear hfz52_1
               try clear hfz52_2
               try clear hfz52_3
               try clear hfz57_0
               try clear hfz57_1
               try clear hfz57_2
               try clear hfz57_3
               try clear hfz69_0
               try clear hfz69_1
               try clear hfz69_2
               try clear hfz69_3
               try clear hfz95_0
               try clear hfz95_1
               try clear hfz95_2
               try clear hfz95_3
               try clear hfz9_0
               try clear hfz9_1
               try clear hfz9_2
               try clear hfz9_3
               try clear p2
               try clear p6
               try clear p64
               obtain ⟨kq, x116_84, rfl, HA, HJ84, BK433, BK439, BK445, BK461, HB⟩ := hcut
               cases kq with
               | zero => exact absurd HA.out (by simp [laws_FnTrials.j4])
               | succ kj84 =>
                have H := HA.out
                clear HA
                simp only [laws_FnTrials.j4] at H
                by_cases c124 : x116_84 = true
                ·subst c124
                 have H1 : (some false) = some r := by rw [if_pos rfl] at H; exact H
                 clear H
                 have H := H1
                 clear H1
                 obtain rfl := Option.some.inj H
                 go_wp2
                 go_ret
                 exact ⟨by first | rfl | (simp [errW_none, errW_some] <;> rfl) | (simp [*, errW_none, errW_some] <;> rfl), by repeat (first | (with_reducible first | exact HB.out | apply bA | apply bN | apply bD | refine bS ?_ GE433.out | refine bS ?_ GE439.out | refine bS ?_ GE445.out | refine bS ?_ GE461.out) | exact HB.out)⟩
                ·replace c124 := Bool.eq_false_iff.mpr c124
                 subst c124
                 have H1 : ((spec_DrawAnswerAll.f kj84 l0).bind fun bt464 => ((impl_AnswerAll.f kj84 bt464.1 bt464.2.1 bt464.2.2.1 bt464.2.2.2.1 bt464.2.2.2.2.1 bt464.2.2.2.2.2).bind fun bt475 => (if bt475.2.2.1 ≥ bt464.2.2.2.1 then (if bt475.2.2.2 ≥ bt464.2.2.2.2.1 then (some (decide ((wrap64 (bt475.2.1 - bt464.2.2.1)) ≤ (bt464.2.2.2.2.2.length : Int)))) else (some false)) else (some false)))) = some r := by rw [if_neg (show ¬ (false = true) by decide)] at H; exact H
                 clear H
                 have H := H1
                 clear H1
                 replace H := Option.bind_eq_some_iff.mp H
                 obtain ⟨⟨t464, t467, t468, t469, t470, t471⟩, A1250, H⟩ := H
                 replace H : ((impl_AnswerAll.f kj84 t464 t467 t468 t469 t470 t471).bind fun bt475 => (if bt475.2.2.1 ≥ t469 then (if bt475.2.2.2 ≥ t470 then (some (decide ((wrap64 (bt475.2.1 - t468)) ≤ (t471.length : Int)))) else (some false)) else (some false))) = some r := H
                 have A125 := Aside0.mk A1250
                 clear A1250
                 replace H := Option.bind_eq_some_iff.mp H
                 obtain ⟨⟨t475, t476, t477, t478⟩, A1260, H⟩ := H
                 replace H : (if t477 ≥ t469 then (if t478 ≥ t470 then (some (decide ((wrap64 (t476 - t468)) ≤ (t471.length : Int)))) else (some false)) else (some false)) = some r := H
                 have A126 := Aside0.mk A1260
                 clear A1260
                 by_cases c127 : t477 ≥ t469
                 ·rw [if_pos c127] at H
                  have c127b0 : decide (t469 ≤ t477) = true := decide_eq_true c127
                  clear c127
                  by_cases c128 : t478 ≥ t470
                  ·rw [if_pos c128] at H
                   have c128b0 : decide (t470 ≤ t478) = true := decide_eq_true c128
                   clear c128
                   obtain rfl := Option.some.inj H
                   go_wp2_with (first | ((with_reducible refine gate_callee (f := 46) rfl ?_); refine goesL_ (some 119) rfl rfl Try.func46 (by kernel_rfl) rfl #[.slice A0 l0.length c0] rfl (by (try simp only [mA, mC, mN]); first | done | rfl | (simp only [lD, lT]; rfl)) ?_; (with_reducible refine (spec_DrawAnswerAll.calls kj84 _ _ l0 t464 t467 t468 t469 t470 t471 _ ?side1 ?side2 A125.out).mono ?_); (case side1 => exact qC (Kd.C_below HR0.out HB.out)); (case side2 => exact HC0.out); rintro e w129 ⟨v465, v472, rfl, ho0, ho1, hb⟩; refine ⟨_, rfl, ?_⟩; have n0_ := Aside0.mk (Kd.R_lower ho0 (below_size (by repeat first | (with_reducible first | exact HB.out | apply bA | apply bN | apply bD | refine bS ?_ GE433.out | refine bS ?_ GE439.out | refine bS ?_ GE445.out | refine bS ?_ GE461.out) | exact HB.out))); have n1_ := Aside0.mk (Kd.R_lower ho1 (below_size (by repeat first | (with_reducible first | exact HB.out | apply bA | apply bN | apply bD | refine bS ?_ GE433.out | refine bS ?_ GE439.out | refine bS ?_ GE445.out | refine bS ?_ GE461.out) | exact HB.out))); have n2_ := Aside0.mk (blk_below (qK BK433) hb); have n3_ := Aside0.mk (blk_below (qK BK439) hb); have n4_ := Aside0.mk (blk_below (qK BK445) hb); have n5_ := Aside0.mk (blk_below (qK BK461) hb); have n6_ := Aside0.mk (below_step (by repeat first | (with_reducible first | exact HB.out | apply bA | apply bN | apply bD | refine bS ?_ GE433.out | refine bS ?_ GE439.out | refine bS ?_ GE445.out | refine bS ?_ GE461.out) | exact HB.out) hb); clear BK433; clear BK439; clear BK445; clear BK461; clear HB; have HO466 := n0_; have HO473 := n1_; have BK433 := n2_; have BK439 := n3_; have BK445 := n4_; have BK461 := n5_; have HB := n6_; clear n0_ n1_ n2_ n3_ n4_ n5_ n6_; (try clear hb); (try clear hb2); (try clear hk); (try clear hi); (try clear ho0); (try clear ho1)) | ((with_reducible refine gate_dst (N := 13) rfl ?_); (try (refine gate_guard (by rfl) ?_; dsimp only)); refine box_event ?hg (N := 13) ?hd (cs := #[.int .i64 0, .int .i64 0, .int .i64 0, .int .i64 0]) (t := 27) ?hr ?_; (case hd => rfl); (case hg => rfl); (case hr => first | (go_simp; done) | (go_simp; rfl)); intro gb474 hg w130 hbox hb; have n0_ := Aside0.mk (Kd.R_below (qR HO466) hb); have n1_ := Aside0.mk (Kd.R_below (qR HO473) hb); have n2_ := Aside0.mk (blk_below (qK BK433) hb); have n3_ := Aside0.mk (blk_below (qK BK439) hb); have n4_ := Aside0.mk (blk_below (qK BK445) hb); have n5_ := Aside0.mk (blk_below (qK BK461) hb); have n6_ := Aside0.mk (below_step (by repeat first | (with_reducible first | exact HB.out | apply bA | apply bN | apply bD | refine bS ?_ GE433.out | refine bS ?_ GE439.out | refine bS ?_ GE445.out | refine bS ?_ GE461.out) | exact HB.out) hb); have n7_ := Aside0.mk (hbox); have n8_ := Aside0.mk ((by rw [hg]; exact (below_size (by repeat first | (with_reducible first | exact HB.out | apply bA | apply bN | apply bD | refine bS ?_ GE433.out | refine bS ?_ GE439.out | refine bS ?_ GE445.out | refine bS ?_ GE461.out) | exact HB.out)) : w.heap.size ≤ gb474)); have n9_ := Aside0.mk ((by rw [hg]; exact (below_size (by repeat first | (with_reducible first | exact HB.out | apply bA | apply bN | apply bD | refine bS ?_ GE433.out | refine bS ?_ GE439.out | refine bS ?_ GE445.out | refine bS ?_ GE461.out) | exact HB.out)) : w.heap.size ≤ gb474)); have n10_ := Aside0.mk ((by rw [hg]; exact Nat.ne_of_lt (blk_lt (qK BK433)) : gb433 ≠ gb474)); have n11_ := Aside0.mk ((by rw [hg]; exact Nat.ne_of_gt (blk_lt (qK BK433)) : gb474 ≠ gb433)); have n12_ := Aside0.mk ((by rw [hg]; exact Nat.ne_of_lt (blk_lt (qK BK439)) : gb439 ≠ gb474)); have n13_ := Aside0.mk ((by rw [hg]; exact Nat.ne_of_gt (blk_lt (qK BK439)) : gb474 ≠ gb439)); have n14_ := Aside0.mk ((by rw [hg]; exact Nat.ne_of_lt (blk_lt (qK BK445)) : gb445 ≠ gb474)); have n15_ := Aside0.mk ((by rw [hg]; exact Nat.ne_of_gt (blk_lt (qK BK445)) : gb474 ≠ gb445)); have n16_ := Aside0.mk ((by rw [hg]; exact Nat.ne_of_lt (blk_lt (qK BK461)) : gb461 ≠ gb474)); have n17_ := Aside0.mk ((by rw [hg]; exact Nat.ne_of_gt (blk_lt (qK BK461)) : gb474 ≠ gb461)); clear HO466; clear HO473; clear BK433; clear BK439; clear BK445; clear BK461; clear HB; have HO466 := n0_; have HO473 := n1_; have BK433 := n2_; have BK439 := n3_; have BK445 := n4_; have BK461 := n5_; have HB := n6_; have BK474 := n7_; have GW474 := n8_; have GE474 := n9_; have NB433_474 := n10_; have NB474_433 := n11_; have NB439_474 := n12_; have NB474_439 := n13_; have NB445_474 := n14_; have NB474_445 := n15_; have NB461_474 := n16_; have NB474_461 := n17_; clear n0_ n1_ n2_ n3_ n4_ n5_ n6_ n7_ n8_ n9_ n10_ n11_ n12_ n13_ n14_ n15_ n16_ n17_; clear hb hbox hg; have hnb131 := NB474_433.out; have hnc131 := NB433_474.out; have hnb132 := NB474_439.out; have hnc132 := NB439_474.out; have hnb133 := NB474_445.out; have hnc133 := NB445_474.out; have hnb134 := NB474_461.out; have hnc134 := NB461_474.out; have hcz135_0 : w130.cell? ⟨gb474, 0, none⟩ = some (.int .i64 0) := cC BK474 0; have hcz135_1 : w130.cell? ⟨gb474, 1, none⟩ = some (.int .i64 0) := cC BK474 1; have hcz135_2 : w130.cell? ⟨gb474, 2, none⟩ = some (.int .i64 0) := cC BK474 2; have hcz135_3 : w130.cell? ⟨gb474, 3, none⟩ = some (.int .i64 0) := cC BK474 3; have hfz135_0 := blk_frozen BK474.out 0; have hfz135_1 := blk_frozen BK474.out 1; have hfz135_2 := blk_frozen BK474.out 2; have hfz135_3 := blk_frozen BK474.out 3; obtain ⟨Ao136, co136, eo136⟩ := Kd.R_slice HO466.out; subst eo136; obtain ⟨Ao137, co137, eo137⟩ := Kd.R_slice HO473.out; subst eo137) | ((with_reducible refine gate_callee (f := 19) rfl ?_); refine goesL_ (some 126) rfl rfl Try.func19 (by kernel_rfl) rfl #[.slice Ao136 t464.length co136, .agg #[.int .i64 t467, .int .i64 t468, .int .i64 t469, .int .i64 t470], .slice Ao137 t471.length co137] rfl (by (try simp only [mA, mC, mN]); first | done | rfl | (simp only [lD, lT]; rfl)) ?_; (with_reducible refine (impl_AnswerAll.calls kj84 _ _ t464 t467 t468 t469 t470 _ _ t471 t475 t476 t477 t478 _ ?side1 ?side2 ?side3 ?side4 A126.out).mono ?_); (case side1 => refine (Kd.R_reads' (e := 62) (base := w.heap.size) (ok := fun k_ => True) (n := t464.length) (c := co136) ?_).2.2; exact (by (with_reducible repeat first | apply rA | apply rN | apply rD); exact (far4 HO466 BK474))); (case side2 => exact (Kd.R_reads' HO466.out).2.1); (case side3 => refine (Kd.R_reads' (e := 3) (base := w.heap.size) (ok := fun k_ => True) (n := t471.length) (c := co137) ?_).2.2; exact (by (with_reducible repeat first | apply rA | apply rN | apply rD); exact (far4 HO473 BK474))); (case side4 => exact (Kd.R_reads' HO473.out).2.1); rintro e w138 ⟨rfl, hb⟩; refine ⟨_, rfl, ?_⟩; have n0_ := Aside0.mk (Kd.R_below (by (with_reducible repeat first | apply rA | apply rN | apply rD); exact (far4 HO466 BK474)) hb); have n1_ := Aside0.mk (Kd.R_below (by (with_reducible repeat first | apply rA | apply rN | apply rD); exact (far4 HO473 BK474)) hb); have n2_ := Aside0.mk (blk_below (g := gb433) (o := .cells #[.int .i64 t428, .int .i64 t429, .int .i64 t430, .int .i64 t431] 27 (0, 0)) (by (with_reducible repeat first | refine kN ?_ _ | refine kD ?_ | refine kA ?_ _); exact blk4 BK433.out NB433_474) hb); have n3_ := Aside0.mk (blk_below (g := gb439) (o := .cells #[.int .i64 t434, .int .i64 t435, .int .i64 t436, .int .i64 t437] 27 (0, 0)) (by (with_reducible repeat first | refine kN ?_ _ | refine kD ?_ | refine kA ?_ _); exact blk4 BK439.out NB439_474) hb); have n4_ := Aside0.mk (blk_below (g := gb445) (o := .cells #[.int .i64 x446000_4, .int .i64 x446001_4, .int .i64 x446002_4, .int .i64 x446003_4] 27 (0, 0)) (by (with_reducible repeat first | refine kN ?_ _ | refine kD ?_ | refine kA ?_ _); exact blk4 BK445.out NB445_474) hb); have n5_ := Aside0.mk (blk_below (g := gb461) (o := .cells #[.int .i64 t457, .int .i64 t458, .int .i64 t459, .int .i64 t460] 27 (0, 0)) (by (with_reducible repeat first | refine kN ?_ _ | refine kD ?_ | refine kA ?_ _); exact blk4 BK461.out NB461_474) hb); have n6_ := Aside0.mk (blk_below (g := gb474) (o := .cells #[.int .i64 t467, .int .i64 t468, .int .i64 t469, .int .i64 t470] 27 (0, 0)) (by (with_reducible repeat first | refine kN ?_ _ | refine kD ?_ | refine kA ?_ _); refine blk_put (cs := #[.int .i64 t467, .int .i64 t468, .int .i64 t469, .int .i64 0]) ?_ 3 _ rfl; (with_reducible repeat first | refine kN ?_ _ | refine kD ?_ | refine kA ?_ _); refine blk_put (cs := #[.int .i64 t467, .int .i64 t468, .int .i64 0, .int .i64 0]) ?_ 2 _ rfl; (with_reducible repeat first | refine kN ?_ _ | refine kD ?_ | refine kA ?_ _); refine blk_put (cs := #[.int .i64 t467, .int .i64 0, .int .i64 0, .int .i64 0]) ?_ 1 _ rfl; (with_reducible repeat first | refine kN ?_ _ | refine kD ?_ | refine kA ?_ _); refine blk_put (cs := #[.int .i64 0, .int .i64 0, .int .i64 0, .int .i64 0]) ?_ 0 _ rfl; (with_reducible repeat first | refine kN ?_ _ | refine kD ?_ | refine kA ?_ _); exact BK474.out) hb); have n7_ := Aside0.mk (below_step (by repeat first | (with_reducible first | exact HB.out | apply bA | apply bN | apply bD | refine bS ?_ GE433.out | refine bS ?_ GE439.out | refine bS ?_ GE445.out | refine bS ?_ GE461.out | refine bS ?_ GE474.out) | exact HB.out) hb); clear HO466; clear HO473; clear BK433; clear BK439; clear BK445; clear BK461; clear BK474; clear HB; have HO466 := n0_; have HO473 := n1_; have BK433 := n2_; have BK439 := n3_; have BK445 := n4_; have BK461 := n5_; have BK474 := n6_; have HB := n7_; clear n0_ n1_ n2_ n3_ n4_ n5_ n6_ n7_; (try clear hb); (try clear hb2); (try clear hk); (try clear hi)) | ((with_reducible refine gate_dst (N := 15) rfl ?_); (try (refine gate_guard (by rfl) ?_; dsimp only)); refine box_event ?hg (N := 15) ?hd (cs := #[.int .i64 0, .int .i64 0, .int .i64 0, .int .i64 0]) (t := 27) ?hr ?_; (case hd => rfl); (case hg => rfl); (case hr => first | (go_simp; done) | (go_simp; rfl)); intro gb479 hg w139 hbox hb; have n0_ := Aside0.mk (Kd.R_below (qR HO466) hb); have n1_ := Aside0.mk (Kd.R_below (qR HO473) hb); have n2_ := Aside0.mk (blk_below (qK BK433) hb); have n3_ := Aside0.mk (blk_below (qK BK439) hb); have n4_ := Aside0.mk (blk_below (qK BK445) hb); have n5_ := Aside0.mk (blk_below (qK BK461) hb); have n6_ := Aside0.mk (blk_below (qK BK474) hb); have n7_ := Aside0.mk (below_step (by repeat first | (with_reducible first | exact HB.out | apply bA | apply bN | apply bD | refine bS ?_ GE433.out | refine bS ?_ GE439.out | refine bS ?_ GE445.out | refine bS ?_ GE461.out | refine bS ?_ GE474.out) | exact HB.out) hb); have n8_ := Aside0.mk (hbox); have n9_ := Aside0.mk ((by rw [hg]; exact (below_size (by repeat first | (with_reducible first | exact HB.out | apply bA | apply bN | apply bD | refine bS ?_ GE433.out | refine bS ?_ GE439.out | refine bS ?_ GE445.out | refine bS ?_ GE461.out | refine bS ?_ GE474.out) | exact HB.out)) : w.heap.size ≤ gb479)); have n10_ := Aside0.mk ((by rw [hg]; exact (below_size (by repeat first | (with_reducible first | exact HB.out | apply bA | apply bN | apply bD | refine bS ?_ GE433.out | refine bS ?_ GE439.out | refine bS ?_ GE445.out | refine bS ?_ GE461.out | refine bS ?_ GE474.out) | exact HB.out)) : w.heap.size ≤ gb479)); have n11_ := Aside0.mk ((by rw [hg]; exact Nat.ne_of_lt (blk_lt (qK BK433)) : gb433 ≠ gb479)); have n12_ := Aside0.mk ((by rw [hg]; exact Nat.ne_of_gt (blk_lt (qK BK433)) : gb479 ≠ gb433)); have n13_ := Aside0.mk ((by rw [hg]; exact Nat.ne_of_lt (blk_lt (qK BK439)) : gb439 ≠ gb479)); have n14_ := Aside0.mk ((by rw [hg]; exact Nat.ne_of_gt (blk_lt (qK BK439)) : gb479 ≠ gb439)); have n15_ := Aside0.mk ((by rw [hg]; exact Nat.ne_of_lt (blk_lt (qK BK445)) : gb445 ≠ gb479)); have n16_ := Aside0.mk ((by rw [hg]; exact Nat.ne_of_gt (blk_lt (qK BK445)) : gb479 ≠ gb445)); have n17_ := Aside0.mk ((by rw [hg]; exact Nat.ne_of_lt (blk_lt (qK BK461)) : gb461 ≠ gb479)); have n18_ := Aside0.mk ((by rw [hg]; exact Nat.ne_of_gt (blk_lt (qK BK461)) : gb479 ≠ gb461)); have n19_ := Aside0.mk ((by rw [hg]; exact Nat.ne_of_lt (blk_lt (qK BK474)) : gb474 ≠ gb479)); have n20_ := Aside0.mk ((by rw [hg]; exact Nat.ne_of_gt (blk_lt (qK BK474)) : gb479 ≠ gb474)); clear HO466; clear HO473; clear BK433; clear BK439; clear BK445; clear BK461; clear BK474; clear HB; have HO466 := n0_; have HO473 := n1_; have BK433 := n2_; have BK439 := n3_; have BK445 := n4_; have BK461 := n5_; have BK474 := n6_; have HB := n7_; have BK479 := n8_; have GW479 := n9_; have GE479 := n10_; have NB433_479 := n11_; have NB479_433 := n12_; have NB439_479 := n13_; have NB479_439 := n14_; have NB445_479 := n15_; have NB479_445 := n16_; have NB461_479 := n17_; have NB479_461 := n18_; have NB474_479 := n19_; have NB479_474 := n20_; clear n0_ n1_ n2_ n3_ n4_ n5_ n6_ n7_ n8_ n9_ n10_ n11_ n12_ n13_ n14_ n15_ n16_ n17_ n18_ n19_ n20_; clear hb hbox hg; have hnb140 := NB479_433.out; have hnc140 := NB433_479.out; have hnb141 := NB479_439.out; have hnc141 := NB439_479.out; have hnb142 := NB479_445.out; have hnc142 := NB445_479.out; have hnb143 := NB479_461.out; have hnc143 := NB461_479.out; have hnb144 := NB479_474.out; have hnc144 := NB474_479.out; have hcz145_0 : w139.cell? ⟨gb479, 0, none⟩ = some (.int .i64 0) := cC BK479 0; have hcz145_1 : w139.cell? ⟨gb479, 1, none⟩ = some (.int .i64 0) := cC BK479 1; have hcz145_2 : w139.cell? ⟨gb479, 2, none⟩ = some (.int .i64 0) := cC BK479 2; have hcz145_3 : w139.cell? ⟨gb479, 3, none⟩ = some (.int .i64 0) := cC BK479 3; have hfz145_0 := blk_frozen BK479.out 0; have hfz145_1 := blk_frozen BK479.out 1; have hfz145_2 := blk_frozen BK479.out 2; have hfz145_3 := blk_frozen BK479.out 3; have hcz146_0 : w139.cell? ⟨gb474, 0, none⟩ = some (.int .i64 t467) := cC BK474 0; have hcz146_1 : w139.cell? ⟨gb474, 1, none⟩ = some (.int .i64 t468) := cC BK474 1; have hcz146_2 : w139.cell? ⟨gb474, 2, none⟩ = some (.int .i64 t469) := cC BK474 2; have hcz146_3 : w139.cell? ⟨gb474, 3, none⟩ = some (.int .i64 t470) := cC BK474 3; have hfz146_0 := blk_frozen BK474.out 0; have hfz146_1 := blk_frozen BK474.out 1; have hfz146_2 := blk_frozen BK474.out 2; have hfz146_3 := blk_frozen BK474.out 3))
                   go_ret
                   exact ⟨by first | rfl | (simp [errW_none, errW_some] <;> rfl) | (simp [*, errW_none, errW_some] <;> rfl), by repeat (first | (with_reducible first | exact HB.out | apply bA | apply bN | apply bD | refine bS ?_ GE433.out | refine bS ?_ GE439.out | refine bS ?_ GE445.out | refine bS ?_ GE461.out | refine bS ?_ GE474.out | refine bS ?_ GE479.out) | exact HB.out)⟩
                  ·rw [if_neg c128] at H
                   have c128b0 : decide (t470 ≤ t478) = false := decide_eq_false c128
                   clear c128
                   obtain rfl := Option.some.inj H
                   go_wp2_with (first | ((with_reducible refine gate_callee (f := 46) rfl ?_); refine goesL_ (some 119) rfl rfl Try.func46 (by kernel_rfl) rfl #[.slice A0 l0.length c0] rfl (by (try simp only [mA, mC, mN]); first | done | rfl | (simp only [lD, lT]; rfl)) ?_; (with_reducible refine (spec_DrawAnswerAll.calls kj84 _ _ l0 t464 t467 t468 t469 t470 t471 _ ?side1 ?side2 A125.out).mono ?_); (case side1 => exact qC (Kd.C_below HR0.out HB.out)); (case side2 => exact HC0.out); rintro e w147 ⟨v465, v472, rfl, ho0, ho1, hb⟩; refine ⟨_, rfl, ?_⟩; have n0_ := Aside0.mk (Kd.R_lower ho0 (below_size (by repeat first | (with_reducible first | exact HB.out | apply bA | apply bN | apply bD | refine bS ?_ GE433.out | refine bS ?_ GE439.out | refine bS ?_ GE445.out | refine bS ?_ GE461.out) | exact HB.out))); have n1_ := Aside0.mk (Kd.R_lower ho1 (below_size (by repeat first | (with_reducible first | exact HB.out | apply bA | apply bN | apply bD | refine bS ?_ GE433.out | refine bS ?_ GE439.out | refine bS ?_ GE445.out | refine bS ?_ GE461.out) | exact HB.out))); have n2_ := Aside0.mk (blk_below (qK BK433) hb); have n3_ := Aside0.mk (blk_below (qK BK439) hb); have n4_ := Aside0.mk (blk_below (qK BK445) hb); have n5_ := Aside0.mk (blk_below (qK BK461) hb); have n6_ := Aside0.mk (below_step (by repeat first | (with_reducible first | exact HB.out | apply bA | apply bN | apply bD | refine bS ?_ GE433.out | refine bS ?_ GE439.out | refine bS ?_ GE445.out | refine bS ?_ GE461.out) | exact HB.out) hb); clear BK433; clear BK439; clear BK445; clear BK461; clear HB; have HO466 := n0_; have HO473 := n1_; have BK433 := n2_; have BK439 := n3_; have BK445 := n4_; have BK461 := n5_; have HB := n6_; clear n0_ n1_ n2_ n3_ n4_ n5_ n6_; (try clear hb); (try clear hb2); (try clear hk); (try clear hi); (try clear ho0); (try clear ho1)) | ((with_reducible refine gate_dst (N := 13) rfl ?_); (try (refine gate_guard (by rfl) ?_; dsimp only)); refine box_event ?hg (N := 13) ?hd (cs := #[.int .i64 0, .int .i64 0, .int .i64 0, .int .i64 0]) (t := 27) ?hr ?_; (case hd => rfl); (case hg => rfl); (case hr => first | (go_simp; done) | (go_simp; rfl)); intro gb474 hg w148 hbox hb; have n0_ := Aside0.mk (Kd.R_below (qR HO466) hb); have n1_ := Aside0.mk (Kd.R_below (qR HO473) hb); have n2_ := Aside0.mk (blk_below (qK BK433) hb); have n3_ := Aside0.mk (blk_below (qK BK439) hb); have n4_ := Aside0.mk (blk_below (qK BK445) hb); have n5_ := Aside0.mk (blk_below (qK BK461) hb); have n6_ := Aside0.mk (below_step (by repeat first | (with_reducible first | exact HB.out | apply bA | apply bN | apply bD | refine bS ?_ GE433.out | refine bS ?_ GE439.out | refine bS ?_ GE445.out | refine bS ?_ GE461.out) | exact HB.out) hb); have n7_ := Aside0.mk (hbox); have n8_ := Aside0.mk ((by rw [hg]; exact (below_size (by repeat first | (with_reducible first | exact HB.out | apply bA | apply bN | apply bD | refine bS ?_ GE433.out | refine bS ?_ GE439.out | refine bS ?_ GE445.out | refine bS ?_ GE461.out) | exact HB.out)) : w.heap.size ≤ gb474)); have n9_ := Aside0.mk ((by rw [hg]; exact (below_size (by repeat first | (with_reducible first | exact HB.out | apply bA | apply bN | apply bD | refine bS ?_ GE433.out | refine bS ?_ GE439.out | refine bS ?_ GE445.out | refine bS ?_ GE461.out) | exact HB.out)) : w.heap.size ≤ gb474)); have n10_ := Aside0.mk ((by rw [hg]; exact Nat.ne_of_lt (blk_lt (qK BK433)) : gb433 ≠ gb474)); have n11_ := Aside0.mk ((by rw [hg]; exact Nat.ne_of_gt (blk_lt (qK BK433)) : gb474 ≠ gb433)); have n12_ := Aside0.mk ((by rw [hg]; exact Nat.ne_of_lt (blk_lt (qK BK439)) : gb439 ≠ gb474)); have n13_ := Aside0.mk ((by rw [hg]; exact Nat.ne_of_gt (blk_lt (qK BK439)) : gb474 ≠ gb439)); have n14_ := Aside0.mk ((by rw [hg]; exact Nat.ne_of_lt (blk_lt (qK BK445)) : gb445 ≠ gb474)); have n15_ := Aside0.mk ((by rw [hg]; exact Nat.ne_of_gt (blk_lt (qK BK445)) : gb474 ≠ gb445)); have n16_ := Aside0.mk ((by rw [hg]; exact Nat.ne_of_lt (blk_lt (qK BK461)) : gb461 ≠ gb474)); have n17_ := Aside0.mk ((by rw [hg]; exact Nat.ne_of_gt (blk_lt (qK BK461)) : gb474 ≠ gb461)); clear HO466; clear HO473; clear BK433; clear BK439; clear BK445; clear BK461; clear HB; have HO466 := n0_; have HO473 := n1_; have BK433 := n2_; have BK439 := n3_; have BK445 := n4_; have BK461 := n5_; have HB := n6_; have BK474 := n7_; have GW474 := n8_; have GE474 := n9_; have NB433_474 := n10_; have NB474_433 := n11_; have NB439_474 := n12_; have NB474_439 := n13_; have NB445_474 := n14_; have NB474_445 := n15_; have NB461_474 := n16_; have NB474_461 := n17_; clear n0_ n1_ n2_ n3_ n4_ n5_ n6_ n7_ n8_ n9_ n10_ n11_ n12_ n13_ n14_ n15_ n16_ n17_; clear hb hbox hg; have hnb149 := NB474_433.out; have hnc149 := NB433_474.out; have hnb150 := NB474_439.out; have hnc150 := NB439_474.out; have hnb151 := NB474_445.out; have hnc151 := NB445_474.out; have hnb152 := NB474_461.out; have hnc152 := NB461_474.out; have hcz153_0 : w148.cell? ⟨gb474, 0, none⟩ = some (.int .i64 0) := cC BK474 0; have hcz153_1 : w148.cell? ⟨gb474, 1, none⟩ = some (.int .i64 0) := cC BK474 1; have hcz153_2 : w148.cell? ⟨gb474, 2, none⟩ = some (.int .i64 0) := cC BK474 2; have hcz153_3 : w148.cell? ⟨gb474, 3, none⟩ = some (.int .i64 0) := cC BK474 3; have hfz153_0 := blk_frozen BK474.out 0; have hfz153_1 := blk_frozen BK474.out 1; have hfz153_2 := blk_frozen BK474.out 2; have hfz153_3 := blk_frozen BK474.out 3; obtain ⟨Ao154, co154, eo154⟩ := Kd.R_slice HO466.out; subst eo154; obtain ⟨Ao155, co155, eo155⟩ := Kd.R_slice HO473.out; subst eo155) | ((with_reducible refine gate_callee (f := 19) rfl ?_); refine goesL_ (some 126) rfl rfl Try.func19 (by kernel_rfl) rfl #[.slice Ao154 t464.length co154, .agg #[.int .i64 t467, .int .i64 t468, .int .i64 t469, .int .i64 t470], .slice Ao155 t471.length co155] rfl (by (try simp only [mA, mC, mN]); first | done | rfl | (simp only [lD, lT]; rfl)) ?_; (with_reducible refine (impl_AnswerAll.calls kj84 _ _ t464 t467 t468 t469 t470 _ _ t471 t475 t476 t477 t478 _ ?side1 ?side2 ?side3 ?side4 A126.out).mono ?_); (case side1 => refine (Kd.R_reads' (e := 62) (base := w.heap.size) (ok := fun k_ => True) (n := t464.length) (c := co154) ?_).2.2; exact (by (with_reducible repeat first | apply rA | apply rN | apply rD); exact (far4 HO466 BK474))); (case side2 => exact (Kd.R_reads' HO466.out).2.1); (case side3 => refine (Kd.R_reads' (e := 3) (base := w.heap.size) (ok := fun k_ => True) (n := t471.length) (c := co155) ?_).2.2; exact (by (with_reducible repeat first | apply rA | apply rN | apply rD); exact (far4 HO473 BK474))); (case side4 => exact (Kd.R_reads' HO473.out).2.1); rintro e w156 ⟨rfl, hb⟩; refine ⟨_, rfl, ?_⟩; have n0_ := Aside0.mk (Kd.R_below (by (with_reducible repeat first | apply rA | apply rN | apply rD); exact (far4 HO466 BK474)) hb); have n1_ := Aside0.mk (Kd.R_below (by (with_reducible repeat first | apply rA | apply rN | apply rD); exact (far4 HO473 BK474)) hb); have n2_ := Aside0.mk (blk_below (g := gb433) (o := .cells #[.int .i64 t428, .int .i64 t429, .int .i64 t430, .int .i64 t431] 27 (0, 0)) (by (with_reducible repeat first | refine kN ?_ _ | refine kD ?_ | refine kA ?_ _); exact blk4 BK433.out NB433_474) hb); have n3_ := Aside0.mk (blk_below (g := gb439) (o := .cells #[.int .i64 t434, .int .i64 t435, .int .i64 t436, .int .i64 t437] 27 (0, 0)) (by (with_reducible repeat first | refine kN ?_ _ | refine kD ?_ | refine kA ?_ _); exact blk4 BK439.out NB439_474) hb); have n4_ := Aside0.mk (blk_below (g := gb445) (o := .cells #[.int .i64 x446000_4, .int .i64 x446001_4, .int .i64 x446002_4, .int .i64 x446003_4] 27 (0, 0)) (by (with_reducible repeat first | refine kN ?_ _ | refine kD ?_ | refine kA ?_ _); exact blk4 BK445.out NB445_474) hb); have n5_ := Aside0.mk (blk_below (g := gb461) (o := .cells #[.int .i64 t457, .int .i64 t458, .int .i64 t459, .int .i64 t460] 27 (0, 0)) (by (with_reducible repeat first | refine kN ?_ _ | refine kD ?_ | refine kA ?_ _); exact blk4 BK461.out NB461_474) hb); have n6_ := Aside0.mk (blk_below (g := gb474) (o := .cells #[.int .i64 t467, .int .i64 t468, .int .i64 t469, .int .i64 t470] 27 (0, 0)) (by (with_reducible repeat first | refine kN ?_ _ | refine kD ?_ | refine kA ?_ _); refine blk_put (cs := #[.int .i64 t467, .int .i64 t468, .int .i64 t469, .int .i64 0]) ?_ 3 _ rfl; (with_reducible repeat first | refine kN ?_ _ | refine kD ?_ | refine kA ?_ _); refine blk_put (cs := #[.int .i64 t467, .int .i64 t468, .int .i64 0, .int .i64 0]) ?_ 2 _ rfl; (with_reducible repeat first | refine kN ?_ _ | refine kD ?_ | refine kA ?_ _); refine blk_put (cs := #[.int .i64 t467, .int .i64 0, .int .i64 0, .int .i64 0]) ?_ 1 _ rfl; (with_reducible repeat first | refine kN ?_ _ | refine kD ?_ | refine kA ?_ _); refine blk_put (cs := #[.int .i64 0, .int .i64 0, .int .i64 0, .int .i64 0]) ?_ 0 _ rfl; (with_reducible repeat first | refine kN ?_ _ | refine kD ?_ | refine kA ?_ _); exact BK474.out) hb); have n7_ := Aside0.mk (below_step (by repeat first | (with_reducible first | exact HB.out | apply bA | apply bN | apply bD | refine bS ?_ GE433.out | refine bS ?_ GE439.out | refine bS ?_ GE445.out | refine bS ?_ GE461.out | refine bS ?_ GE474.out) | exact HB.out) hb); clear HO466; clear HO473; clear BK433; clear BK439; clear BK445; clear BK461; clear BK474; clear HB; have HO466 := n0_; have HO473 := n1_; have BK433 := n2_; have BK439 := n3_; have BK445 := n4_; have BK461 := n5_; have BK474 := n6_; have HB := n7_; clear n0_ n1_ n2_ n3_ n4_ n5_ n6_ n7_; (try clear hb); (try clear hb2); (try clear hk); (try clear hi)) | ((with_reducible refine gate_dst (N := 15) rfl ?_); (try (refine gate_guard (by rfl) ?_; dsimp only)); refine box_event ?hg (N := 15) ?hd (cs := #[.int .i64 0, .int .i64 0, .int .i64 0, .int .i64 0]) (t := 27) ?hr ?_; (case hd => rfl); (case hg => rfl); (case hr => first | (go_simp; done) | (go_simp; rfl)); intro gb479 hg w157 hbox hb; have n0_ := Aside0.mk (Kd.R_below (qR HO466) hb); have n1_ := Aside0.mk (Kd.R_below (qR HO473) hb); have n2_ := Aside0.mk (blk_below (qK BK433) hb); have n3_ := Aside0.mk (blk_below (qK BK439) hb); have n4_ := Aside0.mk (blk_below (qK BK445) hb); have n5_ := Aside0.mk (blk_below (qK BK461) hb); have n6_ := Aside0.mk (blk_below (qK BK474) hb); have n7_ := Aside0.mk (below_step (by repeat first | (with_reducible first | exact HB.out | apply bA | apply bN | apply bD | refine bS ?_ GE433.out | refine bS ?_ GE439.out | refine bS ?_ GE445.out | refine bS ?_ GE461.out | refine bS ?_ GE474.out) | exact HB.out) hb); have n8_ := Aside0.mk (hbox); have n9_ := Aside0.mk ((by rw [hg]; exact (below_size (by repeat first | (with_reducible first | exact HB.out | apply bA | apply bN | apply bD | refine bS ?_ GE433.out | refine bS ?_ GE439.out | refine bS ?_ GE445.out | refine bS ?_ GE461.out | refine bS ?_ GE474.out) | exact HB.out)) : w.heap.size ≤ gb479)); have n10_ := Aside0.mk ((by rw [hg]; exact (below_size (by repeat first | (with_reducible first | exact HB.out | apply bA | apply bN | apply bD | refine bS ?_ GE433.out | refine bS ?_ GE439.out | refine bS ?_ GE445.out | refine bS ?_ GE461.out | refine bS ?_ GE474.out) | exact HB.out)) : w.heap.size ≤ gb479)); have n11_ := Aside0.mk ((by rw [hg]; exact Nat.ne_of_lt (blk_lt (qK BK433)) : gb433 ≠ gb479)); have n12_ := Aside0.mk ((by rw [hg]; exact Nat.ne_of_gt (blk_lt (qK BK433)) : gb479 ≠ gb433)); have n13_ := Aside0.mk ((by rw [hg]; exact Nat.ne_of_lt (blk_lt (qK BK439)) : gb439 ≠ gb479)); have n14_ := Aside0.mk ((by rw [hg]; exact Nat.ne_of_gt (blk_lt (qK BK439)) : gb479 ≠ gb439)); have n15_ := Aside0.mk ((by rw [hg]; exact Nat.ne_of_lt (blk_lt (qK BK445)) : gb445 ≠ gb479)); have n16_ := Aside0.mk ((by rw [hg]; exact Nat.ne_of_gt (blk_lt (qK BK445)) : gb479 ≠ gb445)); have n17_ := Aside0.mk ((by rw [hg]; exact Nat.ne_of_lt (blk_lt (qK BK461)) : gb461 ≠ gb479)); have n18_ := Aside0.mk ((by rw [hg]; exact Nat.ne_of_gt (blk_lt (qK BK461)) : gb479 ≠ gb461)); have n19_ := Aside0.mk ((by rw [hg]; exact Nat.ne_of_lt (blk_lt (qK BK474)) : gb474 ≠ gb479)); have n20_ := Aside0.mk ((by rw [hg]; exact Nat.ne_of_gt (blk_lt (qK BK474)) : gb479 ≠ gb474)); clear HO466; clear HO473; clear BK433; clear BK439; clear BK445; clear BK461; clear BK474; clear HB; have HO466 := n0_; have HO473 := n1_; have BK433 := n2_; have BK439 := n3_; have BK445 := n4_; have BK461 := n5_; have BK474 := n6_; have HB := n7_; have BK479 := n8_; have GW479 := n9_; have GE479 := n10_; have NB433_479 := n11_; have NB479_433 := n12_; have NB439_479 := n13_; have NB479_439 := n14_; have NB445_479 := n15_; have NB479_445 := n16_; have NB461_479 := n17_; have NB479_461 := n18_; have NB474_479 := n19_; have NB479_474 := n20_; clear n0_ n1_ n2_ n3_ n4_ n5_ n6_ n7_ n8_ n9_ n10_ n11_ n12_ n13_ n14_ n15_ n16_ n17_ n18_ n19_ n20_; clear hb hbox hg; have hnb158 := NB479_433.out; have hnc158 := NB433_479.out; have hnb159 := NB479_439.out; have hnc159 := NB439_479.out; have hnb160 := NB479_445.out; have hnc160 := NB445_479.out; have hnb161 := NB479_461.out; have hnc161 := NB461_479.out; have hnb162 := NB479_474.out; have hnc162 := NB474_479.out; have hcz163_0 : w157.cell? ⟨gb479, 0, none⟩ = some (.int .i64 0) := cC BK479 0; have hcz163_1 : w157.cell? ⟨gb479, 1, none⟩ = some (.int .i64 0) := cC BK479 1; have hcz163_2 : w157.cell? ⟨gb479, 2, none⟩ = some (.int .i64 0) := cC BK479 2; have hcz163_3 : w157.cell? ⟨gb479, 3, none⟩ = some (.int .i64 0) := cC BK479 3; have hfz163_0 := blk_frozen BK479.out 0; have hfz163_1 := blk_frozen BK479.out 1; have hfz163_2 := blk_frozen BK479.out 2; have hfz163_3 := blk_frozen BK479.out 3; have hcz164_0 : w157.cell? ⟨gb474, 0, none⟩ = some (.int .i64 t467) := cC BK474 0; have hcz164_1 : w157.cell? ⟨gb474, 1, none⟩ = some (.int .i64 t468) := cC BK474 1; have hcz164_2 : w157.cell? ⟨gb474, 2, none⟩ = some (.int .i64 t469) := cC BK474 2; have hcz164_3 : w157.cell? ⟨gb474, 3, none⟩ = some (.int .i64 t470) := cC BK474 3; have hfz164_0 := blk_frozen BK474.out 0; have hfz164_1 := blk_frozen BK474.out 1; have hfz164_2 := blk_frozen BK474.out 2; have hfz164_3 := blk_frozen BK474.out 3))
                   go_ret
                   exact ⟨by first | rfl | (simp [errW_none, errW_some] <;> rfl) | (simp [*, errW_none, errW_some] <;> rfl), by repeat (first | (with_reducible first | exact HB.out | apply bA | apply bN | apply bD | refine bS ?_ GE433.out | refine bS ?_ GE439.out | refine bS ?_ GE445.out | refine bS ?_ GE461.out | refine bS ?_ GE474.out | refine bS ?_ GE479.out) | exact HB.out)⟩
                 ·rw [if_neg c127] at H
                  have c127b0 : decide (t469 ≤ t477) = false := decide_eq_false c127
                  clear c127
                  obtain rfl := Option.some.inj H
                  go_wp2_with (first | ((with_reducible refine gate_callee (f := 46) rfl ?_); refine goesL_ (some 119) rfl rfl Try.func46 (by kernel_rfl) rfl #[.slice A0 l0.length c0] rfl (by (try simp only [mA, mC, mN]); first | done | rfl | (simp only [lD, lT]; rfl)) ?_; (with_reducible refine (spec_DrawAnswerAll.calls kj84 _ _ l0 t464 t467 t468 t469 t470 t471 _ ?side1 ?side2 A125.out).mono ?_); (case side1 => exact qC (Kd.C_below HR0.out HB.out)); (case side2 => exact HC0.out); rintro e w165 ⟨v465, v472, rfl, ho0, ho1, hb⟩; refine ⟨_, rfl, ?_⟩; have n0_ := Aside0.mk (Kd.R_lower ho0 (below_size (by repeat first | (with_reducible first | exact HB.out | apply bA | apply bN | apply bD | refine bS ?_ GE433.out | refine bS ?_ GE439.out | refine bS ?_ GE445.out | refine bS ?_ GE461.out) | exact HB.out))); have n1_ := Aside0.mk (Kd.R_lower ho1 (below_size (by repeat first | (with_reducible first | exact HB.out | apply bA | apply bN | apply bD | refine bS ?_ GE433.out | refine bS ?_ GE439.out | refine bS ?_ GE445.out | refine bS ?_ GE461.out) | exact HB.out))); have n2_ := Aside0.mk (blk_below (qK BK433) hb); have n3_ := Aside0.mk (blk_below (qK BK439) hb); have n4_ := Aside0.mk (blk_below (qK BK445) hb); have n5_ := Aside0.mk (blk_below (qK BK461) hb); have n6_ := Aside0.mk (below_step (by repeat first | (with_reducible first | exact HB.out | apply bA | apply bN | apply bD | refine bS ?_ GE433.out | refine bS ?_ GE439.out | refine bS ?_ GE445.out | refine bS ?_ GE461.out) | exact HB.out) hb); clear BK433; clear BK439; clear BK445; clear BK461; clear HB; have HO466 := n0_; have HO473 := n1_; have BK433 := n2_; have BK439 := n3_; have BK445 := n4_; have BK461 := n5_; have HB := n6_; clear n0_ n1_ n2_ n3_ n4_ n5_ n6_; (try clear hb); (try clear hb2); (try clear hk); (try clear hi); (try clear ho0); (try clear ho1)) | ((with_reducible refine gate_dst (N := 13) rfl ?_); (try (refine gate_guard (by rfl) ?_; dsimp only)); refine box_event ?hg (N := 13) ?hd (cs := #[.int .i64 0, .int .i64 0, .int .i64 0, .int .i64 0]) (t := 27) ?hr ?_; (case hd => rfl); (case hg => rfl); (case hr => first | (go_simp; done) | (go_simp; rfl)); intro gb474 hg w166 hbox hb; have n0_ := Aside0.mk (Kd.R_below (qR HO466) hb); have n1_ := Aside0.mk (Kd.R_below (qR HO473) hb); have n2_ := Aside0.mk (blk_below (qK BK433) hb); have n3_ := Aside0.mk (blk_below (qK BK439) hb); have n4_ := Aside0.mk (blk_below (qK BK445) hb); have n5_ := Aside0.mk (blk_below (qK BK461) hb); have n6_ := Aside0.mk (below_step (by repeat first | (with_reducible first | exact HB.out | apply bA | apply bN | apply bD | refine bS ?_ GE433.out | refine bS ?_ GE439.out | refine bS ?_ GE445.out | refine bS ?_ GE461.out) | exact HB.out) hb); have n7_ := Aside0.mk (hbox); have n8_ := Aside0.mk ((by rw [hg]; exact (below_size (by repeat first | (with_reducible first | exact HB.out | apply bA | apply bN | apply bD | refine bS ?_ GE433.out | refine bS ?_ GE439.out | refine bS ?_ GE445.out | refine bS ?_ GE461.out) | exact HB.out)) : w.heap.size ≤ gb474)); have n9_ := Aside0.mk ((by rw [hg]; exact (below_size (by repeat first | (with_reducible first | exact HB.out | apply bA | apply bN | apply bD | refine bS ?_ GE433.out | refine bS ?_ GE439.out | refine bS ?_ GE445.out | refine bS ?_ GE461.out) | exact HB.out)) : w.heap.size ≤ gb474)); have n10_ := Aside0.mk ((by rw [hg]; exact Nat.ne_of_lt (blk_lt (qK BK433)) : gb433 ≠ gb474)); have n11_ := Aside0.mk ((by rw [hg]; exact Nat.ne_of_gt (blk_lt (qK BK433)) : gb474 ≠ gb433)); have n12_ := Aside0.mk ((by rw [hg]; exact Nat.ne_of_lt (blk_lt (qK BK439)) : gb439 ≠ gb474)); have n13_ := Aside0.mk ((by rw [hg]; exact Nat.ne_of_gt (blk_lt (qK BK439)) : gb474 ≠ gb439)); have n14_ := Aside0.mk ((by rw [hg]; exact Nat.ne_of_lt (blk_lt (qK BK445)) : gb445 ≠ gb474)); have n15_ := Aside0.mk ((by rw [hg]; exact Nat.ne_of_gt (blk_lt (qK BK445)) : gb474 ≠ gb445)); have n16_ := Aside0.mk ((by rw [hg]; exact Nat.ne_of_lt (blk_lt (qK BK461)) : gb461 ≠ gb474)); have n17_ := Aside0.mk ((by rw [hg]; exact Nat.ne_of_gt (blk_lt (qK BK461)) : gb474 ≠ gb461)); clear HO466; clear HO473; clear BK433; clear BK439; clear BK445; clear BK461; clear HB; have HO466 := n0_; have HO473 := n1_; have BK433 := n2_; have BK439 := n3_; have BK445 := n4_; have BK461 := n5_; have HB := n6_; have BK474 := n7_; have GW474 := n8_; have GE474 := n9_; have NB433_474 := n10_; have NB474_433 := n11_; have NB439_474 := n12_; have NB474_439 := n13_; have NB445_474 := n14_; have NB474_445 := n15_; have NB461_474 := n16_; have NB474_461 := n17_; clear n0_ n1_ n2_ n3_ n4_ n5_ n6_ n7_ n8_ n9_ n10_ n11_ n12_ n13_ n14_ n15_ n16_ n17_; clear hb hbox hg; have hnb167 := NB474_433.out; have hnc167 := NB433_474.out; have hnb168 := NB474_439.out; have hnc168 := NB439_474.out; have hnb169 := NB474_445.out; have hnc169 := NB445_474.out; have hnb170 := NB474_461.out; have hnc170 := NB461_474.out; have hcz171_0 : w166.cell? ⟨gb474, 0, none⟩ = some (.int .i64 0) := cC BK474 0; have hcz171_1 : w166.cell? ⟨gb474, 1, none⟩ = some (.int .i64 0) := cC BK474 1; have hcz171_2 : w166.cell? ⟨gb474, 2, none⟩ = some (.int .i64 0) := cC BK474 2; have hcz171_3 : w166.cell? ⟨gb474, 3, none⟩ = some (.int .i64 0) := cC BK474 3; have hfz171_0 := blk_frozen BK474.out 0; have hfz171_1 := blk_frozen BK474.out 1; have hfz171_2 := blk_frozen BK474.out 2; have hfz171_3 := blk_frozen BK474.out 3; obtain ⟨Ao172, co172, eo172⟩ := Kd.R_slice HO466.out; subst eo172; obtain ⟨Ao173, co173, eo173⟩ := Kd.R_slice HO473.out; subst eo173) | ((with_reducible refine gate_callee (f := 19) rfl ?_); refine goesL_ (some 126) rfl rfl Try.func19 (by kernel_rfl) rfl #[.slice Ao172 t464.length co172, .agg #[.int .i64 t467, .int .i64 t468, .int .i64 t469, .int .i64 t470], .slice Ao173 t471.length co173] rfl (by (try simp only [mA, mC, mN]); first | done | rfl | (simp only [lD, lT]; rfl)) ?_; (with_reducible refine (impl_AnswerAll.calls kj84 _ _ t464 t467 t468 t469 t470 _ _ t471 t475 t476 t477 t478 _ ?side1 ?side2 ?side3 ?side4 A126.out).mono ?_); (case side1 => refine (Kd.R_reads' (e := 62) (base := w.heap.size) (ok := fun k_ => True) (n := t464.length) (c := co172) ?_).2.2; exact (by (with_reducible repeat first | apply rA | apply rN | apply rD); exact (far4 HO466 BK474))); (case side2 => exact (Kd.R_reads' HO466.out).2.1); (case side3 => refine (Kd.R_reads' (e := 3) (base := w.heap.size) (ok := fun k_ => True) (n := t471.length) (c := co173) ?_).2.2; exact (by (with_reducible repeat first | apply rA | apply rN | apply rD); exact (far4 HO473 BK474))); (case side4 => exact (Kd.R_reads' HO473.out).2.1); rintro e w174 ⟨rfl, hb⟩; refine ⟨_, rfl, ?_⟩; have n0_ := Aside0.mk (Kd.R_below (by (with_reducible repeat first | apply rA | apply rN | apply rD); exact (far4 HO466 BK474)) hb); have n1_ := Aside0.mk (Kd.R_below (by (with_reducible repeat first | apply rA | apply rN | apply rD); exact (far4 HO473 BK474)) hb); have n2_ := Aside0.mk (blk_below (g := gb433) (o := .cells #[.int .i64 t428, .int .i64 t429, .int .i64 t430, .int .i64 t431] 27 (0, 0)) (by (with_reducible repeat first | refine kN ?_ _ | refine kD ?_ | refine kA ?_ _); exact blk4 BK433.out NB433_474) hb); have n3_ := Aside0.mk (blk_below (g := gb439) (o := .cells #[.int .i64 t434, .int .i64 t435, .int .i64 t436, .int .i64 t437] 27 (0, 0)) (by (with_reducible repeat first | refine kN ?_ _ | refine kD ?_ | refine kA ?_ _); exact blk4 BK439.out NB439_474) hb); have n4_ := Aside0.mk (blk_below (g := gb445) (o := .cells #[.int .i64 x446000_4, .int .i64 x446001_4, .int .i64 x446002_4, .int .i64 x446003_4] 27 (0, 0)) (by (with_reducible repeat first | refine kN ?_ _ | refine kD ?_ | refine kA ?_ _); exact blk4 BK445.out NB445_474) hb); have n5_ := Aside0.mk (blk_below (g := gb461) (o := .cells #[.int .i64 t457, .int .i64 t458, .int .i64 t459, .int .i64 t460] 27 (0, 0)) (by (with_reducible repeat first | refine kN ?_ _ | refine kD ?_ | refine kA ?_ _); exact blk4 BK461.out NB461_474) hb); have n6_ := Aside0.mk (blk_below (g := gb474) (o := .cells #[.int .i64 t467, .int .i64 t468, .int .i64 t469, .int .i64 t470] 27 (0, 0)) (by (with_reducible repeat first | refine kN ?_ _ | refine kD ?_ | refine kA ?_ _); refine blk_put (cs := #[.int .i64 t467, .int .i64 t468, .int .i64 t469, .int .i64 0]) ?_ 3 _ rfl; (with_reducible repeat first | refine kN ?_ _ | refine kD ?_ | refine kA ?_ _); refine blk_put (cs := #[.int .i64 t467, .int .i64 t468, .int .i64 0, .int .i64 0]) ?_ 2 _ rfl; (with_reducible repeat first | refine kN ?_ _ | refine kD ?_ | refine kA ?_ _); refine blk_put (cs := #[.int .i64 t467, .int .i64 0, .int .i64 0, .int .i64 0]) ?_ 1 _ rfl; (with_reducible repeat first | refine kN ?_ _ | refine kD ?_ | refine kA ?_ _); refine blk_put (cs := #[.int .i64 0, .int .i64 0, .int .i64 0, .int .i64 0]) ?_ 0 _ rfl; (with_reducible repeat first | refine kN ?_ _ | refine kD ?_ | refine kA ?_ _); exact BK474.out) hb); have n7_ := Aside0.mk (below_step (by repeat first | (with_reducible first | exact HB.out | apply bA | apply bN | apply bD | refine bS ?_ GE433.out | refine bS ?_ GE439.out | refine bS ?_ GE445.out | refine bS ?_ GE461.out | refine bS ?_ GE474.out) | exact HB.out) hb); clear HO466; clear HO473; clear BK433; clear BK439; clear BK445; clear BK461; clear BK474; clear HB; have HO466 := n0_; have HO473 := n1_; have BK433 := n2_; have BK439 := n3_; have BK445 := n4_; have BK461 := n5_; have BK474 := n6_; have HB := n7_; clear n0_ n1_ n2_ n3_ n4_ n5_ n6_ n7_; (try clear hb); (try clear hb2); (try clear hk); (try clear hi)) | ((with_reducible refine gate_dst (N := 15) rfl ?_); (try (refine gate_guard (by rfl) ?_; dsimp only)); refine box_event ?hg (N := 15) ?hd (cs := #[.int .i64 0, .int .i64 0, .int .i64 0, .int .i64 0]) (t := 27) ?hr ?_; (case hd => rfl); (case hg => rfl); (case hr => first | (go_simp; done) | (go_simp; rfl)); intro gb479 hg w175 hbox hb; have n0_ := Aside0.mk (Kd.R_below (qR HO466) hb); have n1_ := Aside0.mk (Kd.R_below (qR HO473) hb); have n2_ := Aside0.mk (blk_below (qK BK433) hb); have n3_ := Aside0.mk (blk_below (qK BK439) hb); have n4_ := Aside0.mk (blk_below (qK BK445) hb); have n5_ := Aside0.mk (blk_below (qK BK461) hb); have n6_ := Aside0.mk (blk_below (qK BK474) hb); have n7_ := Aside0.mk (below_step (by repeat first | (with_reducible first | exact HB.out | apply bA | apply bN | apply bD | refine bS ?_ GE433.out | refine bS ?_ GE439.out | refine bS ?_ GE445.out | refine bS ?_ GE461.out | refine bS ?_ GE474.out) | exact HB.out) hb); have n8_ := Aside0.mk (hbox); have n9_ := Aside0.mk ((by rw [hg]; exact (below_size (by repeat first | (with_reducible first | exact HB.out | apply bA | apply bN | apply bD | refine bS ?_ GE433.out | refine bS ?_ GE439.out | refine bS ?_ GE445.out | refine bS ?_ GE461.out | refine bS ?_ GE474.out) | exact HB.out)) : w.heap.size ≤ gb479)); have n10_ := Aside0.mk ((by rw [hg]; exact (below_size (by repeat first | (with_reducible first | exact HB.out | apply bA | apply bN | apply bD | refine bS ?_ GE433.out | refine bS ?_ GE439.out | refine bS ?_ GE445.out | refine bS ?_ GE461.out | refine bS ?_ GE474.out) | exact HB.out)) : w.heap.size ≤ gb479)); have n11_ := Aside0.mk ((by rw [hg]; exact Nat.ne_of_lt (blk_lt (qK BK433)) : gb433 ≠ gb479)); have n12_ := Aside0.mk ((by rw [hg]; exact Nat.ne_of_gt (blk_lt (qK BK433)) : gb479 ≠ gb433)); have n13_ := Aside0.mk ((by rw [hg]; exact Nat.ne_of_lt (blk_lt (qK BK439)) : gb439 ≠ gb479)); have n14_ := Aside0.mk ((by rw [hg]; exact Nat.ne_of_gt (blk_lt (qK BK439)) : gb479 ≠ gb439)); have n15_ := Aside0.mk ((by rw [hg]; exact Nat.ne_of_lt (blk_lt (qK BK445)) : gb445 ≠ gb479)); have n16_ := Aside0.mk ((by rw [hg]; exact Nat.ne_of_gt (blk_lt (qK BK445)) : gb479 ≠ gb445)); have n17_ := Aside0.mk ((by rw [hg]; exact Nat.ne_of_lt (blk_lt (qK BK461)) : gb461 ≠ gb479)); have n18_ := Aside0.mk ((by rw [hg]; exact Nat.ne_of_gt (blk_lt (qK BK461)) : gb479 ≠ gb461)); have n19_ := Aside0.mk ((by rw [hg]; exact Nat.ne_of_lt (blk_lt (qK BK474)) : gb474 ≠ gb479)); have n20_ := Aside0.mk ((by rw [hg]; exact Nat.ne_of_gt (blk_lt (qK BK474)) : gb479 ≠ gb474)); clear HO466; clear HO473; clear BK433; clear BK439; clear BK445; clear BK461; clear BK474; clear HB; have HO466 := n0_; have HO473 := n1_; have BK433 := n2_; have BK439 := n3_; have BK445 := n4_; have BK461 := n5_; have BK474 := n6_; have HB := n7_; have BK479 := n8_; have GW479 := n9_; have GE479 := n10_; have NB433_479 := n11_; have NB479_433 := n12_; have NB439_479 := n13_; have NB479_439 := n14_; have NB445_479 := n15_; have NB479_445 := n16_; have NB461_479 := n17_; have NB479_461 := n18_; have NB474_479 := n19_; have NB479_474 := n20_; clear n0_ n1_ n2_ n3_ n4_ n5_ n6_ n7_ n8_ n9_ n10_ n11_ n12_ n13_ n14_ n15_ n16_ n17_ n18_ n19_ n20_; clear hb hbox hg; have hnb176 := NB479_433.out; have hnc176 := NB433_479.out; have hnb177 := NB479_439.out; have hnc177 := NB439_479.out; have hnb178 := NB479_445.out; have hnc178 := NB445_479.out; have hnb179 := NB479_461.out; have hnc179 := NB461_479.out; have hnb180 := NB479_474.out; have hnc180 := NB474_479.out; have hcz181_0 : w175.cell? ⟨gb479, 0, none⟩ = some (.int .i64 0) := cC BK479 0; have hcz181_1 : w175.cell? ⟨gb479, 1, none⟩ = some (.int .i64 0) := cC BK479 1; have hcz181_2 : w175.cell? ⟨gb479, 2, none⟩ = some (.int .i64 0) := cC BK479 2; have hcz181_3 : w175.cell? ⟨gb479, 3, none⟩ = some (.int .i64 0) := cC BK479 3; have hfz181_0 := blk_frozen BK479.out 0; have hfz181_1 := blk_frozen BK479.out 1; have hfz181_2 := blk_frozen BK479.out 2; have hfz181_3 := blk_frozen BK479.out 3; have hcz182_0 : w175.cell? ⟨gb474, 0, none⟩ = some (.int .i64 t467) := cC BK474 0; have hcz182_1 : w175.cell? ⟨gb474, 1, none⟩ = some (.int .i64 t468) := cC BK474 1; have hcz182_2 : w175.cell? ⟨gb474, 2, none⟩ = some (.int .i64 t469) := cC BK474 2; have hcz182_3 : w175.cell? ⟨gb474, 3, none⟩ = some (.int .i64 t470) := cC BK474 3; have hfz182_0 := blk_frozen BK474.out 0; have hfz182_1 := blk_frozen BK474.out 1; have hfz182_2 := blk_frozen BK474.out 2; have hfz182_3 := blk_frozen BK474.out 3))
                  go_ret
                  exact ⟨by first | rfl | (simp [errW_none, errW_some] <;> rfl) | (simp [*, errW_none, errW_some] <;> rfl), by repeat (first | (with_reducible first | exact HB.out | apply bA | apply bN | apply bD | refine bS ?_ GE433.out | refine bS ?_ GE439.out | refine bS ?_ GE445.out | refine bS ?_ GE461.out | refine bS ?_ GE474.out | refine bS ?_ GE479.out) | exact HB.out)⟩
          ·replace c65 := Bool.eq_false_iff.mpr c65
           subst c65
           have H1 : ((spec_DrawAnswerAll.f kj59 l0).bind fun bt480 => ((impl_AnswerAll.f kj59 bt480.1 bt480.2.1 bt480.2.2.1 bt480.2.2.2.1 bt480.2.2.2.2.1 bt480.2.2.2.2.2).bind fun bt491 => (if bt491.2.2.1 ≥ bt480.2.2.2.1 then (if bt491.2.2.2 ≥ bt480.2.2.2.2.1 then (some (decide ((wrap64 (bt491.2.1 - bt480.2.2.1)) ≤ (bt480.2.2.2.2.2.length : Int)))) else (some false)) else (some false)))) = some r := by rw [if_neg (show ¬ (false = true) by decide)] at H; exact H
           clear H
           have H := H1
           clear H1
           replace H := Option.bind_eq_some_iff.mp H
           obtain ⟨⟨t480, t483, t484, t485, t486, t487⟩, A1830, H⟩ := H
           replace H : ((impl_AnswerAll.f kj59 t480 t483 t484 t485 t486 t487).bind fun bt491 => (if bt491.2.2.1 ≥ t485 then (if bt491.2.2.2 ≥ t486 then (some (decide ((wrap64 (bt491.2.1 - t484)) ≤ (t487.length : Int)))) else (some false)) else (some false))) = some r := H
           have A183 := Aside0.mk A1830
           clear A1830
           replace H := Option.bind_eq_some_iff.mp H
           obtain ⟨⟨t491, t492, t493, t494⟩, A1840, H⟩ := H
           replace H : (if t493 ≥ t485 then (if t494 ≥ t486 then (some (decide ((wrap64 (t492 - t484)) ≤ (t487.length : Int)))) else (some false)) else (some false)) = some r := H
           have A184 := Aside0.mk A1840
           clear A1840
           by_cases c185 : t493 ≥ t485
           ·rw [if_pos c185] at H
            have c185b0 : decide (t485 ≤ t493) = true := decide_eq_true c185
            clear c185
            by_cases c186 : t494 ≥ t486
            ·rw [if_pos c186] at H
             have c186b0 : decide (t486 ≤ t494) = true := decide_eq_true c186
             clear c186
             obtain rfl := Option.some.inj H
             go_wp2_with (first | ((with_reducible refine gate_callee (f := 46) rfl ?_); refine goesL_ (some 119) rfl rfl Try.func46 (by kernel_rfl) rfl #[.slice A0 l0.length c0] rfl (by (try simp only [mA, mC, mN]); first | done | rfl | (simp only [lD, lT]; rfl)) ?_; (with_reducible refine (spec_DrawAnswerAll.calls kj59 _ _ l0 t480 t483 t484 t485 t486 t487 _ ?side1 ?side2 A183.out).mono ?_); (case side1 => exact qC (Kd.C_below HR0.out HB.out)); (case side2 => exact HC0.out); rintro e w187 ⟨v481, v488, rfl, ho0, ho1, hb⟩; refine ⟨_, rfl, ?_⟩; have n0_ := Aside0.mk (Kd.R_elder' (qR HO_3) (Kd.R_base ho0) hb); have n1_ := Aside0.mk (Kd.R_lower (Kd.R_new' ho0 (Kd.R_lt (qR HO_3))) (below_size (by repeat first | (with_reducible first | exact HB.out | apply bA | apply bN | apply bD | refine bS ?_ GE433.out | refine bS ?_ GE439.out) | exact HB.out))); have n2_ := Aside0.mk (Kd.R_lower ho1 (below_size (by repeat first | (with_reducible first | exact HB.out | apply bA | apply bN | apply bD | refine bS ?_ GE433.out | refine bS ?_ GE439.out) | exact HB.out))); have n3_ := Aside0.mk (blk_below (qK BK433) hb); have n4_ := Aside0.mk (blk_below (qK BK439) hb); have n5_ := Aside0.mk (below_step (by repeat first | (with_reducible first | exact HB.out | apply bA | apply bN | apply bD | refine bS ?_ GE433.out | refine bS ?_ GE439.out) | exact HB.out) hb); clear HO_3; clear BK433; clear BK439; clear HB; have HO_3 := n0_; have HO482 := n1_; have HO489 := n2_; have BK433 := n3_; have BK439 := n4_; have HB := n5_; clear n0_ n1_ n2_ n3_ n4_ n5_; (try clear hb); (try clear hb2); (try clear hk); (try clear hi); (try clear ho0); (try clear ho1)) | ((with_reducible refine gate_dst (N := 13) rfl ?_); (try (refine gate_guard (by rfl) ?_; dsimp only)); refine box_event ?hg (N := 13) ?hd (cs := #[.int .i64 0, .int .i64 0, .int .i64 0, .int .i64 0]) (t := 27) ?hr ?_; (case hd => rfl); (case hg => rfl); (case hr => first | (go_simp; done) | (go_simp; rfl)); intro gb490 hg w188 hbox hb; have n0_ := Aside0.mk (Kd.R_below (qR HO_3) hb); have n1_ := Aside0.mk (Kd.R_below (qR HO482) hb); have n2_ := Aside0.mk (Kd.R_below (qR HO489) hb); have n3_ := Aside0.mk (blk_below (qK BK433) hb); have n4_ := Aside0.mk (blk_below (qK BK439) hb); have n5_ := Aside0.mk (below_step (by repeat first | (with_reducible first | exact HB.out | apply bA | apply bN | apply bD | refine bS ?_ GE433.out | refine bS ?_ GE439.out) | exact HB.out) hb); have n6_ := Aside0.mk (hbox); have n7_ := Aside0.mk ((by rw [hg]; exact (below_size (by repeat first | (with_reducible first | exact HB.out | apply bA | apply bN | apply bD | refine bS ?_ GE433.out | refine bS ?_ GE439.out) | exact HB.out)) : w.heap.size ≤ gb490)); have n8_ := Aside0.mk ((by rw [hg]; exact (below_size (by repeat first | (with_reducible first | exact HB.out | apply bA | apply bN | apply bD | refine bS ?_ GE433.out | refine bS ?_ GE439.out) | exact HB.out)) : w.heap.size ≤ gb490)); have n9_ := Aside0.mk ((by rw [hg]; exact Nat.ne_of_lt (blk_lt (qK BK433)) : gb433 ≠ gb490)); have n10_ := Aside0.mk ((by rw [hg]; exact Nat.ne_of_gt (blk_lt (qK BK433)) : gb490 ≠ gb433)); have n11_ := Aside0.mk ((by rw [hg]; exact Nat.ne_of_lt (blk_lt (qK BK439)) : gb439 ≠ gb490)); have n12_ := Aside0.mk ((by rw [hg]; exact Nat.ne_of_gt (blk_lt (qK BK439)) : gb490 ≠ gb439)); clear HO_3; clear HO482; clear HO489; clear BK433; clear BK439; clear HB; have HO_3 := n0_; have HO482 := n1_; have HO489 := n2_; have BK433 := n3_; have BK439 := n4_; have HB := n5_; have BK490 := n6_; have GW490 := n7_; have GE490 := n8_; have NB433_490 := n9_; have NB490_433 := n10_; have NB439_490 := n11_; have NB490_439 := n12_; clear n0_ n1_ n2_ n3_ n4_ n5_ n6_ n7_ n8_ n9_ n10_ n11_ n12_; clear hb hbox hg; have hnb189 := NB490_433.out; have hnc189 := NB433_490.out; have hnb190 := NB490_439.out; have hnc190 := NB439_490.out; have hcz191_0 : w188.cell? ⟨gb490, 0, none⟩ = some (.int .i64 0) := cC BK490 0; have hcz191_1 : w188.cell? ⟨gb490, 1, none⟩ = some (.int .i64 0) := cC BK490 1; have hcz191_2 : w188.cell? ⟨gb490, 2, none⟩ = some (.int .i64 0) := cC BK490 2; have hcz191_3 : w188.cell? ⟨gb490, 3, none⟩ = some (.int .i64 0) := cC BK490 3; have hfz191_0 := blk_frozen BK490.out 0; have hfz191_1 := blk_frozen BK490.out 1; have hfz191_2 := blk_frozen BK490.out 2; have hfz191_3 := blk_frozen BK490.out 3; obtain ⟨Ao192, co192, eo192⟩ := Kd.R_slice HO482.out; subst eo192; obtain ⟨Ao193, co193, eo193⟩ := Kd.R_slice HO489.out; subst eo193) | ((with_reducible refine gate_callee (f := 19) rfl ?_); refine goesL_ (some 126) rfl rfl Try.func19 (by kernel_rfl) rfl #[.slice Ao192 t480.length co192, .agg #[.int .i64 t483, .int .i64 t484, .int .i64 t485, .int .i64 t486], .slice Ao193 t487.length co193] rfl (by (try simp only [mA, mC, mN]); first | done | rfl | (simp only [lD, lT]; rfl)) ?_; (with_reducible refine (impl_AnswerAll.calls kj59 _ _ t480 t483 t484 t485 t486 _ _ t487 t491 t492 t493 t494 _ ?side1 ?side2 ?side3 ?side4 A184.out).mono ?_); (case side1 => refine (Kd.R_reads' (e := 62) (base := w.heap.size) (ok := fun k_ => (True ∧ some k_ ≠ (.slice Ao10 t425.length co10 : Value).ownBlock)) (n := t480.length) (c := co192) ?_).2.2; exact (by (with_reducible repeat first | apply rA | apply rN | apply rD); exact (far4 HO482 BK490))); (case side2 => exact (Kd.R_reads' HO482.out).2.1); (case side3 => refine (Kd.R_reads' (e := 3) (base := w.heap.size) (ok := fun k_ => True) (n := t487.length) (c := co193) ?_).2.2; exact (by (with_reducible repeat first | apply rA | apply rN | apply rD); exact (far4 HO489 BK490))); (case side4 => exact (Kd.R_reads' HO489.out).2.1); rintro e w194 ⟨rfl, hb⟩; refine ⟨_, rfl, ?_⟩; have n0_ := Aside0.mk (Kd.R_below (by (with_reducible repeat first | apply rA | apply rN | apply rD); exact (far4 HO_3 BK490)) hb); have n1_ := Aside0.mk (Kd.R_below (by (with_reducible repeat first | apply rA | apply rN | apply rD); exact (far4 HO482 BK490)) hb); have n2_ := Aside0.mk (Kd.R_below (by (with_reducible repeat first | apply rA | apply rN | apply rD); exact (far4 HO489 BK490)) hb); have n3_ := Aside0.mk (blk_below (g := gb433) (o := .cells #[.int .i64 t428, .int .i64 t429, .int .i64 t430, .int .i64 t431] 27 (0, 0)) (by (with_reducible repeat first | refine kN ?_ _ | refine kD ?_ | refine kA ?_ _); exact blk4 BK433.out NB433_490) hb); have n4_ := Aside0.mk (blk_below (g := gb439) (o := .cells #[.int .i64 t434, .int .i64 t435, .int .i64 t436, .int .i64 t437] 27 (0, 0)) (by (with_reducible repeat first | refine kN ?_ _ | refine kD ?_ | refine kA ?_ _); exact blk4 BK439.out NB439_490) hb); have n5_ := Aside0.mk (blk_below (g := gb490) (o := .cells #[.int .i64 t483, .int .i64 t484, .int .i64 t485, .int .i64 t486] 27 (0, 0)) (by (with_reducible repeat first | refine kN ?_ _ | refine kD ?_ | refine kA ?_ _); refine blk_put (cs := #[.int .i64 t483, .int .i64 t484, .int .i64 t485, .int .i64 0]) ?_ 3 _ rfl; (with_reducible repeat first | refine kN ?_ _ | refine kD ?_ | refine kA ?_ _); refine blk_put (cs := #[.int .i64 t483, .int .i64 t484, .int .i64 0, .int .i64 0]) ?_ 2 _ rfl; (with_reducible repeat first | refine kN ?_ _ | refine kD ?_ | refine kA ?_ _); refine blk_put (cs := #[.int .i64 t483, .int .i64 0, .int .i64 0, .int .i64 0]) ?_ 1 _ rfl; (with_reducible repeat first | refine kN ?_ _ | refine kD ?_ | refine kA ?_ _); refine blk_put (cs := #[.int .i64 0, .int .i64 0, .int .i64 0, .int .i64 0]) ?_ 0 _ rfl; (with_reducible repeat first | refine kN ?_ _ | refine kD ?_ | refine kA ?_ _); exact BK490.out) hb); have n6_ := Aside0.mk (below_step (by repeat first | (with_reducible first | exact HB.out | apply bA | apply bN | apply bD | refine bS ?_ GE433.out | refine bS ?_ GE439.out | refine bS ?_ GE490.out) | exact HB.out) hb); clear HO_3; clear HO482; clear HO489; clear BK433; clear BK439; clear BK490; clear HB; have HO_3 := n0_; have HO482 := n1_; have HO489 := n2_; have BK433 := n3_; have BK439 := n4_; have BK490 := n5_; have HB := n6_; clear n0_ n1_ n2_ n3_ n4_ n5_ n6_; (try clear hb); (try clear hb2); (try clear hk); (try clear hi)) | ((with_reducible refine gate_dst (N := 15) rfl ?_); (try (refine gate_guard (by rfl) ?_; dsimp only)); refine box_event ?hg (N := 15) ?hd (cs := #[.int .i64 0, .int .i64 0, .int .i64 0, .int .i64 0]) (t := 27) ?hr ?_; (case hd => rfl); (case hg => rfl); (case hr => first | (go_simp; done) | (go_simp; rfl)); intro gb495 hg w195 hbox hb; have n0_ := Aside0.mk (Kd.R_below (qR HO_3) hb); have n1_ := Aside0.mk (Kd.R_below (qR HO482) hb); have n2_ := Aside0.mk (Kd.R_below (qR HO489) hb); have n3_ := Aside0.mk (blk_below (qK BK433) hb); have n4_ := Aside0.mk (blk_below (qK BK439) hb); have n5_ := Aside0.mk (blk_below (qK BK490) hb); have n6_ := Aside0.mk (below_step (by repeat first | (with_reducible first | exact HB.out | apply bA | apply bN | apply bD | refine bS ?_ GE433.out | refine bS ?_ GE439.out | refine bS ?_ GE490.out) | exact HB.out) hb); have n7_ := Aside0.mk (hbox); have n8_ := Aside0.mk ((by rw [hg]; exact (below_size (by repeat first | (with_reducible first | exact HB.out | apply bA | apply bN | apply bD | refine bS ?_ GE433.out | refine bS ?_ GE439.out | refine bS ?_ GE490.out) | exact HB.out)) : w.heap.size ≤ gb495)); have n9_ := Aside0.mk ((by rw [hg]; exact (below_size (by repeat first | (with_reducible first | exact HB.out | apply bA | apply bN | apply bD | refine bS ?_ GE433.out | refine bS ?_ GE439.out | refine bS ?_ GE490.out) | exact HB.out)) : w.heap.size ≤ gb495)); have n10_ := Aside0.mk ((by rw [hg]; exact Nat.ne_of_lt (blk_lt (qK BK433)) : gb433 ≠ gb495)); have n11_ := Aside0.mk ((by rw [hg]; exact Nat.ne_of_gt (blk_lt (qK BK433)) : gb495 ≠ gb433)); have n12_ := Aside0.mk ((by rw [hg]; exact Nat.ne_of_lt (blk_lt (qK BK439)) : gb439 ≠ gb495)); have n13_ := Aside0.mk ((by rw [hg]; exact Nat.ne_of_gt (blk_lt (qK BK439)) : gb495 ≠ gb439)); have n14_ := Aside0.mk ((by rw [hg]; exact Nat.ne_of_lt (blk_lt (qK BK490)) : gb490 ≠ gb495)); have n15_ := Aside0.mk ((by rw [hg]; exact Nat.ne_of_gt (blk_lt (qK BK490)) : gb495 ≠ gb490)); clear HO_3; clear HO482; clear HO489; clear BK433; clear BK439; clear BK490; clear HB; have HO_3 := n0_; have HO482 := n1_; have HO489 := n2_; have BK433 := n3_; have BK439 := n4_; have BK490 := n5_; have HB := n6_; have BK495 := n7_; have GW495 := n8_; have GE495 := n9_; have NB433_495 := n10_; have NB495_433 := n11_; have NB439_495 := n12_; have NB495_439 := n13_; have NB490_495 := n14_; have NB495_490 := n15_; clear n0_ n1_ n2_ n3_ n4_ n5_ n6_ n7_ n8_ n9_ n10_ n11_ n12_ n13_ n14_ n15_; clear hb hbox hg; have hnb196 := NB495_433.out; have hnc196 := NB433_495.out; have hnb197 := NB495_439.out; have hnc197 := NB439_495.out; have hnb198 := NB495_490.out; have hnc198 := NB490_495.out; have hcz199_0 : w195.cell? ⟨gb495, 0, none⟩ = some (.int .i64 0) := cC BK495 0; have hcz199_1 : w195.cell? ⟨gb495, 1, none⟩ = some (.int .i64 0) := cC BK495 1; have hcz199_2 : w195.cell? ⟨gb495, 2, none⟩ = some (.int .i64 0) := cC BK495 2; have hcz199_3 : w195.cell? ⟨gb495, 3, none⟩ = some (.int .i64 0) := cC BK495 3; have hfz199_0 := blk_frozen BK495.out 0; have hfz199_1 := blk_frozen BK495.out 1; have hfz199_2 := blk_frozen BK495.out 2; have hfz199_3 := blk_frozen BK495.out 3; have hcz200_0 : w195.cell? ⟨gb490, 0, none⟩ = some (.int .i64 t483) := cC BK490 0; have hcz200_1 : w195.cell? ⟨gb490, 1, none⟩ = some (.int .i64 t484) := cC BK490 1; have hcz200_2 : w195.cell? ⟨gb490, 2, none⟩ = some (.int .i64 t485) := cC BK490 2; have hcz200_3 : w195.cell? ⟨gb490, 3, none⟩ = some (.int .i64 t486) := cC BK490 3; have hfz200_0 := blk_frozen BK490.out 0; have hfz200_1 := blk_frozen BK490.out 1; have hfz200_2 := blk_frozen BK490.out 2; have hfz200_3 := blk_frozen BK490.out 3))
             go_ret
             exact ⟨by first | rfl | (simp [errW_none, errW_some] <;> rfl) | (simp [*, errW_none, errW_some] <;> rfl), by repeat (first | (with_reducible first | exact HB.out | apply bA | apply bN | apply bD | refine bS ?_ GE433.out | refine bS ?_ GE439.out | refine bS ?_ GE490.out | refine bS ?_ GE495.out) | exact HB.out)⟩
            ·rw [if_neg c186] at H
             have c186b0 : decide (t486 ≤ t494) = false := decide_eq_false c186
             clear c186
             obtain rfl := Option.some.inj H
             go_wp2_with (first | ((with_reducible refine gate_callee (f := 46) rfl ?_); refine goesL_ (some 119) rfl rfl Try.func46 (by kernel_rfl) rfl #[.slice A0 l0.length c0] rfl (by (try simp only [mA, mC, mN]); first | done | rfl | (simp only [lD, lT]; rfl)) ?_; (with_reducible refine (spec_DrawAnswerAll.calls kj59 _ _ l0 t480 t483 t484 t485 t486 t487 _ ?side1 ?side2 A183.out).mono ?_); (case side1 => exact qC (Kd.C_below HR0.out HB.out)); (case side2 => exact HC0.out); rintro e w201 ⟨v481, v488, rfl, ho0, ho1, hb⟩; refine ⟨_, rfl, ?_⟩; have n0_ := Aside0.mk (Kd.R_elder' (qR HO_3) (Kd.R_base ho0) hb); have n1_ := Aside0.mk (Kd.R_lower (Kd.R_new' ho0 (Kd.R_lt (qR HO_3))) (below_size (by repeat first | (with_reducible first | exact HB.out | apply bA | apply bN | apply bD | refine bS ?_ GE433.out | refine bS ?_ GE439.out) | exact HB.out))); have n2_ := Aside0.mk (Kd.R_lower ho1 (below_size (by repeat first | (with_reducible first | exact HB.out | apply bA | apply bN | apply bD | refine bS ?_ GE433.out | refine bS ?_ GE439.out) | exact HB.out))); have n3_ := Aside0.mk (blk_below (qK BK433) hb); have n4_ := Aside0.mk (blk_below (qK BK439) hb); have n5_ := Aside0.mk (below_step (by repeat first | (with_reducible first | exact HB.out | apply bA | apply bN | apply bD | refine bS ?_ GE433.out | refine bS ?_ GE439.out) | exact HB.out) hb); clear HO_3; clear BK433; clear BK439; clear HB; have HO_3 := n0_; have HO482 := n1_; have HO489 := n2_; have BK433 := n3_; have BK439 := n4_; have HB := n5_; clear n0_ n1_ n2_ n3_ n4_ n5_; (try clear hb); (try clear hb2); (try clear hk); (try clear hi); (try clear ho0); (try clear ho1)) | ((with_reducible refine gate_dst (N := 13) rfl ?_); (try (refine gate_guard (by rfl) ?_; dsimp only)); refine box_event ?hg (N := 13) ?hd (cs := #[.int .i64 0, .int .i64 0, .int .i64 0, .int .i64 0]) (t := 27) ?hr ?_; (case hd => rfl); (case hg => rfl); (case hr => first | (go_simp; done) | (go_simp; rfl)); intro gb490 hg w202 hbox hb; have n0_ := Aside0.mk (Kd.R_below (qR HO_3) hb); have n1_ := Aside0.mk (Kd.R_below (qR HO482) hb); have n2_ := Aside0.mk (Kd.R_below (qR HO489) hb); have n3_ := Aside0.mk (blk_below (qK BK433) hb); have n4_ := Aside0.mk (blk_below (qK BK439) hb); have n5_ := Aside0.mk (below_step (by repeat first | (with_reducible first | exact HB.out | apply bA | apply bN | apply bD | refine bS ?_ GE433.out | refine bS ?_ GE439.out) | exact HB.out) hb); have n6_ := Aside0.mk (hbox); have n7_ := Aside0.mk ((by rw [hg]; exact (below_size (by repeat first | (with_reducible first | exact HB.out | apply bA | apply bN | apply bD | refine bS ?_ GE433.out | refine bS ?_ GE439.out) | exact HB.out)) : w.heap.size ≤ gb490)); have n8_ := Aside0.mk ((by rw [hg]; exact (below_size (by repeat first | (with_reducible first | exact HB.out | apply bA | apply bN | apply bD | refine bS ?_ GE433.out | refine bS ?_ GE439.out) | exact HB.out)) : w.heap.size ≤ gb490)); have n9_ := Aside0.mk ((by rw [hg]; exact Nat.ne_of_lt (blk_lt (qK BK433)) : gb433 ≠ gb490)); have n10_ := Aside0.mk ((by rw [hg]; exact Nat.ne_of_gt (blk_lt (qK BK433)) : gb490 ≠ gb433)); have n11_ := Aside0.mk ((by rw [hg]; exact Nat.ne_of_lt (blk_lt (qK BK439)) : gb439 ≠ gb490)); have n12_ := Aside0.mk ((by rw [hg]; exact Nat.ne_of_gt (blk_lt (qK BK439)) : gb490 ≠ gb439)); clear HO_3; clear HO482; clear HO489; clear BK433; clear BK439; clear HB; have HO_3 := n0_; have HO482 := n1_; have HO489 := n2_; have BK433 := n3_; have BK439 := n4_; have HB := n5_; have BK490 := n6_; have GW490 := n7_; have GE490 := n8_; have NB433_490 := n9_; have NB490_433 := n10_; have NB439_490 := n11_; have NB490_439 := n12_; clear n0_ n1_ n2_ n3_ n4_ n5_ n6_ n7_ n8_ n9_ n10_ n11_ n12_; clear hb hbox hg; have hnb203 := NB490_433.out; have hnc203 := NB433_490.out; have hnb204 := NB490_439.out; have hnc204 := NB439_490.out; have hcz205_0 : w202.cell? ⟨gb490, 0, none⟩ = some (.int .i64 0) := cC BK490 0; have hcz205_1 : w202.cell? ⟨gb490, 1, none⟩ = some (.int .i64 0) := cC BK490 1; have hcz205_2 : w202.cell? ⟨gb490, 2, none⟩ = some (.int .i64 0) := cC BK490 2; have hcz205_3 : w202.cell? ⟨gb490, 3, none⟩ = some (.int .i64 0) := cC BK490 3; have hfz205_0 := blk_frozen BK490.out 0; have hfz205_1 := blk_frozen BK490.out 1; have hfz205_2 := blk_frozen BK490.out 2; have hfz205_3 := blk_frozen BK490.out 3; obtain ⟨Ao206, co206, eo206⟩ := Kd.R_slice HO482.out; subst eo206; obtain ⟨Ao207, co207, eo207⟩ := Kd.R_slice HO489.out; subst eo207) | ((with_reducible refine gate_callee (f := 19) rfl ?_); refine goesL_ (some 126) rfl rfl Try.func19 (by kernel_rfl) rfl #[.slice Ao206 t480.length co206, .agg #[.int .i64 t483, .int .i64 t484, .int .i64 t485, .int .i64 t486], .slice Ao207 t487.length co207] rfl (by (try simp only [mA, mC, mN]); first | done | rfl | (simp only [lD, lT]; rfl)) ?_; (with_reducible refine (impl_AnswerAll.calls kj59 _ _ t480 t483 t484 t485 t486 _ _ t487 t491 t492 t493 t494 _ ?side1 ?side2 ?side3 ?side4 A184.out).mono ?_); (case side1 => refine (Kd.R_reads' (e := 62) (base := w.heap.size) (ok := fun k_ => (True ∧ some k_ ≠ (.slice Ao10 t425.length co10 : Value).ownBlock)) (n := t480.length) (c := co206) ?_).2.2; exact (by (with_reducible repeat first | apply rA | apply rN | apply rD); exact (far4 HO482 BK490))); (case side2 => exact (Kd.R_reads' HO482.out).2.1); (case side3 => refine (Kd.R_reads' (e := 3) (base := w.heap.size) (ok := fun k_ => True) (n := t487.length) (c := co207) ?_).2.2; exact (by (with_reducible repeat first | apply rA | apply rN | apply rD); exact (far4 HO489 BK490))); (case side4 => exact (Kd.R_reads' HO489.out).2.1); rintro e w208 ⟨rfl, hb⟩; refine ⟨_, rfl, ?_⟩; have n0_ := Aside0.mk (Kd.R_below (by (with_reducible repeat first | apply rA | apply rN | apply rD); exact (far4 HO_3 BK490)) hb); have n1_ := Aside0.mk (Kd.R_below (by (with_reducible repeat first | apply rA | apply rN | apply rD); exact (far4 HO482 BK490)) hb); have n2_ := Aside0.mk (Kd.R_below (by (with_reducible repeat first | apply rA | apply rN | apply rD); exact (far4 HO489 BK490)) hb); have n3_ := Aside0.mk (blk_below (g := gb433) (o := .cells #[.int .i64 t428, .int .i64 t429, .int .i64 t430, .int .i64 t431] 27 (0, 0)) (by (with_reducible repeat first | refine kN ?_ _ | refine kD ?_ | refine kA ?_ _); exact blk4 BK433.out NB433_490) hb); have n4_ := Aside0.mk (blk_below (g := gb439) (o := .cells #[.int .i64 t434, .int .i64 t435, .int .i64 t436, .int .i64 t437] 27 (0, 0)) (by (with_reducible repeat first | refine kN ?_ _ | refine kD ?_ | refine kA ?_ _); exact blk4 BK439.out NB439_490) hb); have n5_ := Aside0.mk (blk_below (g := gb490) (o := .cells #[.int .i64 t483, .int .i64 t484, .int .i64 t485, .int .i64 t486] 27 (0, 0)) (by (with_reducible repeat first | refine kN ?_ _ | refine kD ?_ | refine kA ?_ _); refine blk_put (cs := #[.int .i64 t483, .int .i64 t484, .int .i64 t485, .int .i64 0]) ?_ 3 _ rfl; (with_reducible repeat first | refine kN ?_ _ | refine kD ?_ | refine kA ?_ _); refine blk_put (cs := #[.int .i64 t483, .int .i64 t484, .int .i64 0, .int .i64 0]) ?_ 2 _ rfl; (with_reducible repeat first | refine kN ?_ _ | refine kD ?_ | refine kA ?_ _); refine blk_put (cs := #[.int .i64 t483, .int .i64 0, .int .i64 0, .int .i64 0]) ?_ 1 _ rfl; (with_reducible repeat first | refine kN ?_ _ | refine kD ?_ | refine kA ?_ _); refine blk_put (cs := #[.int .i64 0, .int .i64 0, .int .i64 0, .int .i64 0]) ?_ 0 _ rfl; (with_reducible repeat first | refine kN ?_ _ | refine kD ?_ | refine kA ?_ _); exact BK490.out) hb); have n6_ := Aside0.mk (below_step (by repeat first | (with_reducible first | exact HB.out | apply bA | apply bN | apply bD | refine bS ?_ GE433.out | refine bS ?_ GE439.out | refine bS ?_ GE490.out) | exact HB.out) hb); clear HO_3; clear HO482; clear HO489; clear BK433; clear BK439; clear BK490; clear HB; have HO_3 := n0_; have HO482 := n1_; have HO489 := n2_; have BK433 := n3_; have BK439 := n4_; have BK490 := n5_; have HB := n6_; clear n0_ n1_ n2_ n3_ n4_ n5_ n6_; (try clear hb); (try clear hb2); (try clear hk); (try clear hi)) | ((with_reducible refine gate_dst (N := 15) rfl ?_); (try (refine gate_guard (by rfl) ?_; dsimp only)); refine box_event ?hg (N := 15) ?hd (cs := #[.int .i64 0, .int .i64 0, .int .i64 0, .int .i64 0]) (t := 27) ?hr ?_; (case hd => rfl); (case hg => rfl); (case hr => first | (go_simp; done) | (go_simp; rfl)); intro gb495 hg w209 hbox hb; have n0_ := Aside0.mk (Kd.R_below (qR HO_3) hb); have n1_ := Aside0.mk (Kd.R_below (qR HO482) hb); have n2_ := Aside0.mk (Kd.R_below (qR HO489) hb); have n3_ := Aside0.mk (blk_below (qK BK433) hb); have n4_ := Aside0.mk (blk_below (qK BK439) hb); have n5_ := Aside0.mk (blk_below (qK BK490) hb); have n6_ := Aside0.mk (below_step (by repeat first | (with_reducible first | exact HB.out | apply bA | apply bN | apply bD | refine bS ?_ GE433.out | refine bS ?_ GE439.out | refine bS ?_ GE490.out) | exact HB.out) hb); have n7_ := Aside0.mk (hbox); have n8_ := Aside0.mk ((by rw [hg]; exact (below_size (by repeat first | (with_reducible first | exact HB.out | apply bA | apply bN | apply bD | refine bS ?_ GE433.out | refine bS ?_ GE439.out | refine bS ?_ GE490.out) | exact HB.out)) : w.heap.size ≤ gb495)); have n9_ := Aside0.mk ((by rw [hg]; exact (below_size (by repeat first | (with_reducible first | exact HB.out | apply bA | apply bN | apply bD | refine bS ?_ GE433.out | refine bS ?_ GE439.out | refine bS ?_ GE490.out) | exact HB.out)) : w.heap.size ≤ gb495)); have n10_ := Aside0.mk ((by rw [hg]; exact Nat.ne_of_lt (blk_lt (qK BK433)) : gb433 ≠ gb495)); have n11_ := Aside0.mk ((by rw [hg]; exact Nat.ne_of_gt (blk_lt (qK BK433)) : gb495 ≠ gb433)); have n12_ := Aside0.mk ((by rw [hg]; exact Nat.ne_of_lt (blk_lt (qK BK439)) : gb439 ≠ gb495)); have n13_ := Aside0.mk ((by rw [hg]; exact Nat.ne_of_gt (blk_lt (qK BK439)) : gb495 ≠ gb439)); have n14_ := Aside0.mk ((by rw [hg]; exact Nat.ne_of_lt (blk_lt (qK BK490)) : gb490 ≠ gb495)); have n15_ := Aside0.mk ((by rw [hg]; exact Nat.ne_of_gt (blk_lt (qK BK490)) : gb495 ≠ gb490)); clear HO_3; clear HO482; clear HO489; clear BK433; clear BK439; clear BK490; clear HB; have HO_3 := n0_; have HO482 := n1_; have HO489 := n2_; have BK433 := n3_; have BK439 := n4_; have BK490 := n5_; have HB := n6_; have BK495 := n7_; have GW495 := n8_; have GE495 := n9_; have NB433_495 := n10_; have NB495_433 := n11_; have NB439_495 := n12_; have NB495_439 := n13_; have NB490_495 := n14_; have NB495_490 := n15_; clear n0_ n1_ n2_ n3_ n4_ n5_ n6_ n7_ n8_ n9_ n10_ n11_ n12_ n13_ n14_ n15_; clear hb hbox hg; have hnb210 := NB495_433.out; have hnc210 := NB433_495.out; have hnb211 := NB495_439.out; have hnc211 := NB439_495.out; have hnb212 := NB495_490.out; have hnc212 := NB490_495.out; have hcz213_0 : w209.cell? ⟨gb495, 0, none⟩ = some (.int .i64 0) := cC BK495 0; have hcz213_1 : w209.cell? ⟨gb495, 1, none⟩ = some (.int .i64 0) := cC BK495 1; have hcz213_2 : w209.cell? ⟨gb495, 2, none⟩ = some (.int .i64 0) := cC BK495 2; have hcz213_3 : w209.cell? ⟨gb495, 3, none⟩ = some (.int .i64 0) := cC BK495 3; have hfz213_0 := blk_frozen BK495.out 0; have hfz213_1 := blk_frozen BK495.out 1; have hfz213_2 := blk_frozen BK495.out 2; have hfz213_3 := blk_frozen BK495.out 3; have hcz214_0 : w209.cell? ⟨gb490, 0, none⟩ = some (.int .i64 t483) := cC BK490 0; have hcz214_1 : w209.cell? ⟨gb490, 1, none⟩ = some (.int .i64 t484) := cC BK490 1; have hcz214_2 : w209.cell? ⟨gb490, 2, none⟩ = some (.int .i64 t485) := cC BK490 2; have hcz214_3 : w209.cell? ⟨gb490, 3, none⟩ = some (.int .i64 t486) := cC BK490 3; have hfz214_0 := blk_frozen BK490.out 0; have hfz214_1 := blk_frozen BK490.out 1; have hfz214_2 := blk_frozen BK490.out 2; have hfz214_3 := blk_frozen BK490.out 3))
             go_ret
             exact ⟨by first | rfl | (simp [errW_none, errW_some] <;> rfl) | (simp [*, errW_none, errW_some] <;> rfl), by repeat (first | (with_reducible first | exact HB.out | apply bA | apply bN | apply bD | refine bS ?_ GE433.out | refine bS ?_ GE439.out | refine bS ?_ GE490.out | refine bS ?_ GE495.out) | exact HB.out)⟩
           ·rw [if_neg c185] at H
            have c185b0 : decide (t485 ≤ t493) = false := decide_eq_false c185
            clear c185
            obtain rfl := Option.some.inj H
            go_wp2_with (first | ((with_reducible refine gate_callee (f := 46) rfl ?_); refine goesL_ (some 119) rfl rfl Try.func46 (by kernel_rfl) rfl #[.slice A0 l0.length c0] rfl (by (try simp only [mA, mC, mN]); first | done | rfl | (simp only [lD, lT]; rfl)) ?_; (with_reducible refine (spec_DrawAnswerAll.calls kj59 _ _ l0 t480 t483 t484 t485 t486 t487 _ ?side1 ?side2 A183.out).mono ?_); (case side1 => exact qC (Kd.C_below HR0.out HB.out)); (case side2 => exact HC0.out); rintro e w215 ⟨v481, v488, rfl, ho0, ho1, hb⟩; refine ⟨_, rfl, ?_⟩; have n0_ := Aside0.mk (Kd.R_elder' (qR HO_3) (Kd.R_base ho0) hb); have n1_ := Aside0.mk (Kd.R_lower (Kd.R_new' ho0 (Kd.R_lt (qR HO_3))) (below_size (by repeat first | (with_reducible first | exact HB.out | apply bA | apply bN | apply bD | refine bS ?_ GE433.out | refine bS ?_ GE439.out) | exact HB.out))); have n2_ := Aside0.mk (Kd.R_lower ho1 (below_size (by repeat first | (with_reducible first | exact HB.out | apply bA | apply bN | apply bD | refine bS ?_ GE433.out | refine bS ?_ GE439.out) | exact HB.out))); have n3_ := Aside0.mk (blk_below (qK BK433) hb); have n4_ := Aside0.mk (blk_below (qK BK439) hb); have n5_ := Aside0.mk (below_step (by repeat first | (with_reducible first | exact HB.out | apply bA | apply bN | apply bD | refine bS ?_ GE433.out | refine bS ?_ GE439.out) | exact HB.out) hb); clear HO_3; clear BK433; clear BK439; clear HB; have HO_3 := n0_; have HO482 := n1_; have HO489 := n2_; have BK433 := n3_; have BK439 := n4_; have HB := n5_; clear n0_ n1_ n2_ n3_ n4_ n5_; (try clear hb); (try clear hb2); (try clear hk); (try clear hi); (try clear ho0); (try clear ho1)) | ((with_reducible refine gate_dst (N := 13) rfl ?_); (try (refine gate_guard (by rfl) ?_; dsimp only)); refine box_event ?hg (N := 13) ?hd (cs := #[.int .i64 0, .int .i64 0, .int .i64 0, .int .i64 0]) (t := 27) ?hr ?_; (case hd => rfl); (case hg => rfl); (case hr => first | (go_simp; done) | (go_simp; rfl)); intro gb490 hg w216 hbox hb; have n0_ := Aside0.mk (Kd.R_below (qR HO_3) hb); have n1_ := Aside0.mk (Kd.R_below (qR HO482) hb); have n2_ := Aside0.mk (Kd.R_below (qR HO489) hb); have n3_ := Aside0.mk (blk_below (qK BK433) hb); have n4_ := Aside0.mk (blk_below (qK BK439) hb); have n5_ := Aside0.mk (below_step (by repeat first | (with_reducible first | exact HB.out | apply bA | apply bN | apply bD | refine bS ?_ GE433.out | refine bS ?_ GE439.out) | exact HB.out) hb); have n6_ := Aside0.mk (hbox); have n7_ := Aside0.mk ((by rw [hg]; exact (below_size (by repeat first | (with_reducible first | exact HB.out | apply bA | apply bN | apply bD | refine bS ?_ GE433.out | refine bS ?_ GE439.out) | exact HB.out)) : w.heap.size ≤ gb490)); have n8_ := Aside0.mk ((by rw [hg]; exact (below_size (by repeat first | (with_reducible first | exact HB.out | apply bA | apply bN | apply bD | refine bS ?_ GE433.out | refine bS ?_ GE439.out) | exact HB.out)) : w.heap.size ≤ gb490)); have n9_ := Aside0.mk ((by rw [hg]; exact Nat.ne_of_lt (blk_lt (qK BK433)) : gb433 ≠ gb490)); have n10_ := Aside0.mk ((by rw [hg]; exact Nat.ne_of_gt (blk_lt (qK BK433)) : gb490 ≠ gb433)); have n11_ := Aside0.mk ((by rw [hg]; exact Nat.ne_of_lt (blk_lt (qK BK439)) : gb439 ≠ gb490)); have n12_ := Aside0.mk ((by rw [hg]; exact Nat.ne_of_gt (blk_lt (qK BK439)) : gb490 ≠ gb439)); clear HO_3; clear HO482; clear HO489; clear BK433; clear BK439; clear HB; have HO_3 := n0_; have HO482 := n1_; have HO489 := n2_; have BK433 := n3_; have BK439 := n4_; have HB := n5_; have BK490 := n6_; have GW490 := n7_; have GE490 := n8_; have NB433_490 := n9_; have NB490_433 := n10_; have NB439_490 := n11_; have NB490_439 := n12_; clear n0_ n1_ n2_ n3_ n4_ n5_ n6_ n7_ n8_ n9_ n10_ n11_ n12_; clear hb hbox hg; have hnb217 := NB490_433.out; have hnc217 := NB433_490.out; have hnb218 := NB490_439.out; have hnc218 := NB439_490.out; have hcz219_0 : w216.cell? ⟨gb490, 0, none⟩ = some (.int .i64 0) := cC BK490 0; have hcz219_1 : w216.cell? ⟨gb490, 1, none⟩ = some (.int .i64 0) := cC BK490 1; have hcz219_2 : w216.cell? ⟨gb490, 2, none⟩ = some (.int .i64 0) := cC BK490 2; have hcz219_3 : w216.cell? ⟨gb490, 3, none⟩ = some (.int .i64 0) := cC BK490 3; have hfz219_0 := blk_frozen BK490.out 0; have hfz219_1 := blk_frozen BK490.out 1; have hfz219_2 := blk_frozen BK490.out 2; have hfz219_3 := blk_frozen BK490.out 3; obtain ⟨Ao220, co220, eo220⟩ := Kd.R_slice HO482.out; subst eo220; obtain ⟨Ao221, co221, eo221⟩ := Kd.R_slice HO489.out; subst eo221) | ((with_reducible refine gate_callee (f := 19) rfl ?_); refine goesL_ (some 126) rfl rfl Try.func19 (by kernel_rfl) rfl #[.slice Ao220 t480.length co220, .agg #[.int .i64 t483, .int .i64 t484, .int .i64 t485, .int .i64 t486], .slice Ao221 t487.length co221] rfl (by (try simp only [mA, mC, mN]); first | done | rfl | (simp only [lD, lT]; rfl)) ?_; (with_reducible refine (impl_AnswerAll.calls kj59 _ _ t480 t483 t484 t485 t486 _ _ t487 t491 t492 t493 t494 _ ?side1 ?side2 ?side3 ?side4 A184.out).mono ?_); (case side1 => refine (Kd.R_reads' (e := 62) (base := w.heap.size) (ok := fun k_ => (True ∧ some k_ ≠ (.slice Ao10 t425.length co10 : Value).ownBlock)) (n := t480.length) (c := co220) ?_).2.2; exact (by (with_reducible repeat first | apply rA | apply rN | apply rD); exact (far4 HO482 BK490))); (case side2 => exact (Kd.R_reads' HO482.out).2.1); (case side3 => refine (Kd.R_reads' (e := 3) (base := w.heap.size) (ok := fun k_ => True) (n := t487.length) (c := co221) ?_).2.2; exact (by (with_reducible repeat first | apply rA | apply rN | apply rD); exact (far4 HO489 BK490))); (case side4 => exact (Kd.R_reads' HO489.out).2.1); rintro e w222 ⟨rfl, hb⟩; refine ⟨_, rfl, ?_⟩; have n0_ := Aside0.mk (Kd.R_below (by (with_reducible repeat first | apply rA | apply rN | apply rD); exact (far4 HO_3 BK490)) hb); have n1_ := Aside0.mk (Kd.R_below (by (with_reducible repeat first | apply rA | apply rN | apply rD); exact (far4 HO482 BK490)) hb); have n2_ := Aside0.mk (Kd.R_below (by (with_reducible repeat first | apply rA | apply rN | apply rD); exact (far4 HO489 BK490)) hb); have n3_ := Aside0.mk (blk_below (g := gb433) (o := .cells #[.int .i64 t428, .int .i64 t429, .int .i64 t430, .int .i64 t431] 27 (0, 0)) (by (with_reducible repeat first | refine kN ?_ _ | refine kD ?_ | refine kA ?_ _); exact blk4 BK433.out NB433_490) hb); have n4_ := Aside0.mk (blk_below (g := gb439) (o := .cells #[.int .i64 t434, .int .i64 t435, .int .i64 t436, .int .i64 t437] 27 (0, 0)) (by (with_reducible repeat first | refine kN ?_ _ | refine kD ?_ | refine kA ?_ _); exact blk4 BK439.out NB439_490) hb); have n5_ := Aside0.mk (blk_below (g := gb490) (o := .cells #[.int .i64 t483, .int .i64 t484, .int .i64 t485, .int .i64 t486] 27 (0, 0)) (by (with_reducible repeat first | refine kN ?_ _ | refine kD ?_ | refine kA ?_ _); refine blk_put (cs := #[.int .i64 t483, .int .i64 t484, .int .i64 t485, .int .i64 0]) ?_ 3 _ rfl; (with_reducible repeat first | refine kN ?_ _ | refine kD ?_ | refine kA ?_ _); refine blk_put (cs := #[.int .i64 t483, .int .i64 t484, .int .i64 0, .int .i64 0]) ?_ 2 _ rfl; (with_reducible repeat first | refine kN ?_ _ | refine kD ?_ | refine kA ?_ _); refine blk_put (cs := #[.int .i64 t483, .int .i64 0, .int .i64 0, .int .i64 0]) ?_ 1 _ rfl; (with_reducible repeat first | refine kN ?_ _ | refine kD ?_ | refine kA ?_ _); refine blk_put (cs := #[.int .i64 0, .int .i64 0, .int .i64 0, .int .i64 0]) ?_ 0 _ rfl; (with_reducible repeat first | refine kN ?_ _ | refine kD ?_ | refine kA ?_ _); exact BK490.out) hb); have n6_ := Aside0.mk (below_step (by repeat first | (with_reducible first | exact HB.out | apply bA | apply bN | apply bD | refine bS ?_ GE433.out | refine bS ?_ GE439.out | refine bS ?_ GE490.out) | exact HB.out) hb); clear HO_3; clear HO482; clear HO489; clear BK433; clear BK439; clear BK490; clear HB; have HO_3 := n0_; have HO482 := n1_; have HO489 := n2_; have BK433 := n3_; have BK439 := n4_; have BK490 := n5_; have HB := n6_; clear n0_ n1_ n2_ n3_ n4_ n5_ n6_; (try clear hb); (try clear hb2); (try clear hk); (try clear hi)) | ((with_reducible refine gate_dst (N := 15) rfl ?_); (try (refine gate_guard (by rfl) ?_; dsimp only)); refine box_event ?hg (N := 15) ?hd (cs := #[.int .i64 0, .int .i64 0, .int .i64 0, .int .i64 0]) (t := 27) ?hr ?_; (case hd => rfl); (case hg => rfl); (case hr => first | (go_simp; done) | (go_simp; rfl)); intro gb495 hg w223 hbox hb; have n0_ := Aside0.mk (Kd.R_below (qR HO_3) hb); have n1_ := Aside0.mk (Kd.R_below (qR HO482) hb); have n2_ := Aside0.mk (Kd.R_below (qR HO489) hb); have n3_ := Aside0.mk (blk_below (qK BK433) hb); have n4_ := Aside0.mk (blk_below (qK BK439) hb); have n5_ := Aside0.mk (blk_below (qK BK490) hb); have n6_ := Aside0.mk (below_step (by repeat first | (with_reducible first | exact HB.out | apply bA | apply bN | apply bD | refine bS ?_ GE433.out | refine bS ?_ GE439.out | refine bS ?_ GE490.out) | exact HB.out) hb); have n7_ := Aside0.mk (hbox); have n8_ := Aside0.mk ((by rw [hg]; exact (below_size (by repeat first | (with_reducible first | exact HB.out | apply bA | apply bN | apply bD | refine bS ?_ GE433.out | refine bS ?_ GE439.out | refine bS ?_ GE490.out) | exact HB.out)) : w.heap.size ≤ gb495)); have n9_ := Aside0.mk ((by rw [hg]; exact (below_size (by repeat first | (with_reducible first | exact HB.out | apply bA | apply bN | apply bD | refine bS ?_ GE433.out | refine bS ?_ GE439.out | refine bS ?_ GE490.out) | exact HB.out)) : w.heap.size ≤ gb495)); have n10_ := Aside0.mk ((by rw [hg]; exact Nat.ne_of_lt (blk_lt (qK BK433)) : gb433 ≠ gb495)); have n11_ := Aside0.mk ((by rw [hg]; exact Nat.ne_of_gt (blk_lt (qK BK433)) : gb495 ≠ gb433)); have n12_ := Aside0.mk ((by rw [hg]; exact Nat.ne_of_lt (blk_lt (qK BK439)) : gb439 ≠ gb495)); have n13_ := Aside0.mk ((by rw [hg]; exact Nat.ne_of_gt (blk_lt (qK BK439)) : gb495 ≠ gb439)); have n14_ := Aside0.mk ((by rw [hg]; exact Nat.ne_of_lt (blk_lt (qK BK490)) : gb490 ≠ gb495)); have n15_ := Aside0.mk ((by rw [hg]; exact Nat.ne_of_gt (blk_lt (qK BK490)) : gb495 ≠ gb490)); clear HO_3; clear HO482; clear HO489; clear BK433; clear BK439; clear BK490; clear HB; have HO_3 := n0_; have HO482 := n1_; have HO489 := n2_; have BK433 := n3_; have BK439 := n4_; have BK490 := n5_; have HB := n6_; have BK495 := n7_; have GW495 := n8_; have GE495 := n9_; have NB433_495 := n10_; have NB495_433 := n11_; have NB439_495 := n12_; have NB495_439 := n13_; have NB490_495 := n14_; have NB495_490 := n15_; clear n0_ n1_ n2_ n3_ n4_ n5_ n6_ n7_ n8_ n9_ n10_ n11_ n12_ n13_ n14_ n15_; clear hb hbox hg; have hnb224 := NB495_433.out; have hnc224 := NB433_495.out; have hnb225 := NB495_439.out; have hnc225 := NB439_495.out; have hnb226 := NB495_490.out; have hnc226 := NB490_495.out; have hcz227_0 : w223.cell? ⟨gb495, 0, none⟩ = some (.int .i64 0) := cC BK495 0; have hcz227_1 : w223.cell? ⟨gb495, 1, none⟩ = some (.int .i64 0) := cC BK495 1; have hcz227_2 : w223.cell? ⟨gb495, 2, none⟩ = some (.int .i64 0) := cC BK495 2; have hcz227_3 : w223.cell? ⟨gb495, 3, none⟩ = some (.int .i64 0) := cC BK495 3; have hfz227_0 := blk_frozen BK495.out 0; have hfz227_1 := blk_frozen BK495.out 1; have hfz227_2 := blk_frozen BK495.out 2; have hfz227_3 := blk_frozen BK495.out 3; have hcz228_0 : w223.cell? ⟨gb490, 0, none⟩ = some (.int .i64 t483) := cC BK490 0; have hcz228_1 : w223.cell? ⟨gb490, 1, none⟩ = some (.int .i64 t484) := cC BK490 1; have hcz228_2 : w223.cell? ⟨gb490, 2, none⟩ = some (.int .i64 t485) := cC BK490 2; have hcz228_3 : w223.cell? ⟨gb490, 3, none⟩ = some (.int .i64 t486) := cC BK490 3; have hfz228_0 := blk_frozen BK490.out 0; have hfz228_1 := blk_frozen BK490.out 1; have hfz228_2 := blk_frozen BK490.out 2; have hfz228_3 := blk_frozen BK490.out 3))
            go_ret
            exact ⟨by first | rfl | (simp [errW_none, errW_some] <;> rfl) | (simp [*, errW_none, errW_some] <;> rfl), by repeat (first | (with_reducible first | exact HB.out | apply bA | apply bN | apply bD | refine bS ?_ GE433.out | refine bS ?_ GE439.out | refine bS ?_ GE490.out | refine bS ?_ GE495.out) | exact HB.out)⟩

/-- THE ONE PURE STATEMENT of laws_FnTrials: yours. -/
def laws_FnTrials.Pure : Prop := ∀ (l0 : List Int), l0.length ≤ maxLen → l0.length * 1 ≤ 140737488351232 → (∀ x ∈ l0, (Lit.int .u8 x).wf = true) → ∃ k, laws_FnTrials.f k l0 = some true
theorem laws_FnTrials.walk (P : laws_FnTrials.Pure) (a0 : Option Addr) (len0 cap0 : Nat) (z0 : List Int) (w : World) (w0 : (a0 = none ∧ len0 = 0 ∧ cap0 = 0 ∧ z0 = []) ∨ ∃ x, a0 = some x ∧ len0 ≤ cap0 ∧ cap0 ≤ maxLen ∧ z0.length = cap0 ∧ (∀ i, i < z0.length → w.cell? (x.add i) = some (.int .u8 (z0.getD i 0))) ∧ ∀ n ∈ z0, (Lit.int .u8 n).wf = true) (y0 : len0 * 1 ≤ 140737488351232) :
  Calls Try.prog 6 #[.slice a0 len0 cap0] w fun e w' => e = .returned (.bool true) ∧ Below w.heap.size w w' := by
 obtain ⟨l0, rfl, hr0, hm0, hw0, hc0⟩ := ReadsInt.ofRowC w0
 obtain ⟨k, h⟩ := P l0 hm0 y0 hw0
 refine (laws_FnTrials.calls k _ _ l0 true w (Kd.C_of_reads (d := (0 : Int)) (h1 := fun _ => rfl) hr0) hc0 h).mono ?_
 rintro e w' ⟨rfl, hd⟩
 exact ⟨rfl, hd⟩

end Go.Proofs.Ytppgealmedaihaa.PFnTrials
