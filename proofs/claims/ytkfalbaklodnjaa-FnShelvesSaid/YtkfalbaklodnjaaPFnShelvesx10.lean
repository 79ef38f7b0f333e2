-- The printed functions of one law and their contracts, over contracts of this session's own (hand.py).
import Derived.Test.YtkfalbaklodnjaaPFnShelvesx0
import Derived.Test.YtkfalbaklodnjaaPFnShelvesx1
import Derived.Test.YtkfalbaklodnjaaPFnShelvesx2
import Derived.Test.YtkfalbaklodnjaaPFnShelvesx6
import Derived.Test.YtkfalbaklodnjaaPFnShelvesx7
import Derived.Test.YtkfalbaklodnjaaPFnShelvesx8
import Derived.Test.YtkfalbaklodnjaaPFnShelvesx9
namespace Go.Proofs.Ytkfalbaklodnjaa.PFnShelves
open Go.RowKit Go.Proofs.YtkfalbaklodnjaaW.PrintWords Go.Proofs.YtkfalbaklodnjaaW.PrintLast Go.Proofs.YtkfalbaklodnjaaW.PrintMore Go.Proofs.Ytkfalbaklodnjaa.Short
attribute [local go_sem] max2_int min2_int max_two min_two max_three min_three max_four min_four   -- for this text's walks alone
set_option linter.unusedVariables false
set_option linter.unusedSimpArgs false

attribute [local go_sem high] eqA78
/-! ### laws_FnShelves: function 7 -/
mutual
def laws_FnShelves.j2 : Nat → List Int → Option (Bool)
 | 0, _ => none
 | k + 1, x0 => (spec_DrawTakeOut.f k x0).bind fun bt403 => ((impl_TakeOut.f k bt403.1 bt403.2).bind fun bt407 => (if bt407.2 = true then ((impl_SlotOf.f bt407.1 bt403.2).bind fun t411 => (if t411 = 0 then ((impl_AreSlots.f k bt407.1).bind fun t412 => (some t412)) else (some false))) else (some true)))
def laws_FnShelves.j0 : Nat → List Int → List (S78) → List (S78) → Int → List (S78) → Bool → Int → Int → Int → Int → Int → Option (Bool)
 | 0, _, _, _, _, _, _, _, _, _, _, _ => none
 | k + 1, x0, x3, x5, x7, x8, x73, x384000, x384001, x384002, x384003, x384004 => if x73 = true then (some false) else (laws_FnShelves.l0 k x0 x3 x5 x7 x8 0 x384000 x384001 x384002 x384003 x384004)
def laws_FnShelves.l0 : Nat → List Int → List (S78) → List (S78) → Int → List (S78) → Int → Int → Int → Int → Int → Int → Option (Bool)
 | 0, _, _, _, _, _, _, _, _, _, _, _ => none
 | k + 1, x0, x3, x5, x7, x8, x10, x384000, x384001, x384002, x384003, x384004 => if x10 < (x8.length : Int) then (if 0 ≤ x10 then (if x10 < (x3.length : Int) then (if (!(((rd_T78 x8 x10).f0) == ((rd_T78 x3 x10).f0)) || (!(((rd_T78 x8 x10).f1) == ((rd_T78 x3 x10).f1)) || (!(((rd_T78 x8 x10).f2) == ((rd_T78 x3 x10).f2))))) = true then (some false) else (if x10 < (x5.length : Int) then (if ((rd_T78 x5 x10).f0) = x7 then (if ((rd_T78 x5 x10).f1) < x384003 then (some false) else (laws_FnShelves.l0 k x0 x3 x5 x7 x8 (wrap64 (x10 + 1)) x384000 x384001 x384002 x384003 x384004)) else (laws_FnShelves.l0 k x0 x3 x5 x7 x8 (wrap64 (x10 + 1)) x384000 x384001 x384002 x384003 x384004)) else (none))) else (none)) else (none)) else (laws_FnShelves.j2 k x0)
end
def laws_FnShelves.f (k : Nat) (l0 : List Int) : Option (Bool) := (laws_big.f l0).bind fun t374 => (if t374 = true then (some true) else ((spec_DrawPutAway.f k l0).bind fun bt375 => ((impl_PutAway.f k bt375.1 bt375.2.1 bt375.2.2.1 bt375.2.2.2.1 bt375.2.2.2.2.1 bt375.2.2.2.2.2).bind fun bt384 => (if bt384.2 = true then ((impl_SlotOf.f bt384.1 bt375.2.1).bind fun t388 => ((impl_TakeOut.f k bt384.1 bt375.2.1).bind fun bt389 => ((impl_AreSlots.f k bt384.1).bind fun t393 => (if t393 = true then (if t388 = 0 then (laws_FnShelves.j0 k l0 bt375.1 bt384.1 t388 bt389.1 true bt375.2.1 bt375.2.2.1 bt375.2.2.2.1 bt375.2.2.2.2.1 bt375.2.2.2.2.2) else ((impl_SmallestFree.f k bt375.1 bt375.2.2.2.2.1).bind fun t394 => (if t388 = t394 then ((impl_FreeSlots.f k bt384.1).bind fun t395 => ((impl_FreeSlots.f k bt375.1).bind fun t396 => (if t395 = (wrap64 (t396 - 1)) then (if bt389.2 = true then ((impl_FreeSlots.f k bt389.1).bind fun t397 => ((impl_FreeSlots.f k bt375.1).bind fun t398 => (laws_FnShelves.j0 k l0 bt375.1 bt384.1 t388 bt389.1 (t397 != t398) bt375.2.1 bt375.2.2.1 bt375.2.2.2.1 bt375.2.2.2.2.1 bt375.2.2.2.2.2))) else (laws_FnShelves.j0 k l0 bt375.1 bt384.1 t388 bt389.1 true bt375.2.1 bt375.2.2.1 bt375.2.2.2.1 bt375.2.2.2.2.1 bt375.2.2.2.2.2)) else (laws_FnShelves.j0 k l0 bt375.1 bt384.1 t388 bt389.1 true bt375.2.1 bt375.2.2.1 bt375.2.2.2.1 bt375.2.2.2.2.1 bt375.2.2.2.2.2)))) else (laws_FnShelves.j0 k l0 bt375.1 bt384.1 t388 bt389.1 true bt375.2.1 bt375.2.2.1 bt375.2.2.2.1 bt375.2.2.2.2.1 bt375.2.2.2.2.2)))) else (laws_FnShelves.j0 k l0 bt375.1 bt384.1 t388 bt389.1 true bt375.2.1 bt375.2.2.1 bt375.2.2.2.1 bt375.2.2.2.2.1 bt375.2.2.2.2.2))))) else (if (bt384.1.length : Int) = (bt375.1.length : Int) then (laws_FnShelves.j2 k l0) else (some false))))))
theorem laws_FnShelves.mono_l : ∀ k, (∀ y0, LeO (laws_FnShelves.j2 k y0) (laws_FnShelves.j2 (k + 1) y0)) ∧ (∀ y0 y1 y2 y3 y4 y5 y6 y7 y8 y9 y10, LeO (laws_FnShelves.j0 k y0 y1 y2 y3 y4 y5 y6 y7 y8 y9 y10) (laws_FnShelves.j0 (k + 1) y0 y1 y2 y3 y4 y5 y6 y7 y8 y9 y10)) ∧ (∀ y0 y1 y2 y3 y4 y5 y6 y7 y8 y9 y10, LeO (laws_FnShelves.l0 k y0 y1 y2 y3 y4 y5 y6 y7 y8 y9 y10) (laws_FnShelves.l0 (k + 1) y0 y1 y2 y3 y4 y5 y6 y7 y8 y9 y10))
 | 0 => ⟨fun _ r h => by simp [laws_FnShelves.j2] at h, fun _ _ _ _ _ _ _ _ _ _ _ r h => by simp [laws_FnShelves.j0] at h, fun _ _ _ _ _ _ _ _ _ _ _ r h => by simp [laws_FnShelves.l0] at h⟩
 | k + 1 => by
  obtain ⟨ih0, ih1, ih2⟩ := laws_FnShelves.mono_l k
  refine ⟨?_, ?_, ?_⟩
  ·intro y0
   unfold laws_FnShelves.j2
   repeat' first
   | (with_reducible exact ih0 _)
   | (with_reducible exact ih1 _ _ _ _ _ _ _ _ _ _ _)
   | (with_reducible exact ih2 _ _ _ _ _ _ _ _ _ _ _)
   | (with_reducible exact impl_AreSlots.mono _ _)
   | (with_reducible exact impl_FreeSlots.mono _ _)
   | (with_reducible exact impl_PutAway.mono _ _ _ _ _ _ _)
   | (with_reducible exact impl_SmallestFree.mono _ _ _)
   | (with_reducible exact impl_TakeOut.mono _ _ _)
   | (with_reducible exact spec_DrawPutAway.mono _ _)
   | (with_reducible exact spec_DrawTakeOut.mono _ _)
   | (with_reducible exact LeO.refl _)
   | (with_reducible exact LeO.none _)
   | (with_reducible refine LeO.ite ?_ ?_)
   | (with_reducible refine LeO.bind ?_ (fun _ => ?_))
   | exact ih0 _
   | exact ih1 _ _ _ _ _ _ _ _ _ _ _
   | exact ih2 _ _ _ _ _ _ _ _ _ _ _
   | exact impl_AreSlots.mono _ _
   | exact impl_FreeSlots.mono _ _
   | exact impl_PutAway.mono _ _ _ _ _ _ _
   | exact impl_SmallestFree.mono _ _ _
   | exact impl_TakeOut.mono _ _ _
   | exact spec_DrawPutAway.mono _ _
   | exact spec_DrawTakeOut.mono _ _
   | exact LeO.none _
   | refine LeO.ite ?_ ?_
   | refine LeO.bind ?_ (fun _ => ?_)
  ·intro y0 y1 y2 y3 y4 y5 y6 y7 y8 y9 y10
   unfold laws_FnShelves.j0
   repeat' first
   | (with_reducible exact ih0 _)
   | (with_reducible exact ih1 _ _ _ _ _ _ _ _ _ _ _)
   | (with_reducible exact ih2 _ _ _ _ _ _ _ _ _ _ _)
   | (with_reducible exact impl_AreSlots.mono _ _)
   | (with_reducible exact impl_FreeSlots.mono _ _)
   | (with_reducible exact impl_PutAway.mono _ _ _ _ _ _ _)
   | (with_reducible exact impl_SmallestFree.mono _ _ _)
   | (with_reducible exact impl_TakeOut.mono _ _ _)
   | (with_reducible exact spec_DrawPutAway.mono _ _)
   | (with_reducible exact spec_DrawTakeOut.mono _ _)
   | (with_reducible exact LeO.refl _)
   | (with_reducible exact LeO.none _)
   | (with_reducible refine LeO.ite ?_ ?_)
   | (with_reducible refine LeO.bind ?_ (fun _ => ?_))
   | exact ih0 _
   | exact ih1 _ _ _ _ _ _ _ _ _ _ _
   | exact ih2 _ _ _ _ _ _ _ _ _ _ _
   | exact impl_AreSlots.mono _ _
   | exact impl_FreeSlots.mono _ _
   | exact impl_PutAway.mono _ _ _ _ _ _ _
   | exact impl_SmallestFree.mono _ _ _
   | exact impl_TakeOut.mono _ _ _
   | exact spec_DrawPutAway.mono _ _
   | exact spec_DrawTakeOut.mono _ _
   | exact LeO.none _
   | refine LeO.ite ?_ ?_
   | refine LeO.bind ?_ (fun _ => ?_)
  ·intro y0 y1 y2 y3 y4 y5 y6 y7 y8 y9 y10
   unfold laws_FnShelves.l0
   repeat' first
   | (with_reducible exact ih0 _)
   | (with_reducible exact ih1 _ _ _ _ _ _ _ _ _ _ _)
   | (with_reducible exact ih2 _ _ _ _ _ _ _ _ _ _ _)
   | (with_reducible exact impl_AreSlots.mono _ _)
   | (with_reducible exact impl_FreeSlots.mono _ _)
   | (with_reducible exact impl_PutAway.mono _ _ _ _ _ _ _)
   | (with_reducible exact impl_SmallestFree.mono _ _ _)
   | (with_reducible exact impl_TakeOut.mono _ _ _)
   | (with_reducible exact spec_DrawPutAway.mono _ _)
   | (with_reducible exact spec_DrawTakeOut.mono _ _)
   | (with_reducible exact LeO.refl _)
   | (with_reducible exact LeO.none _)
   | (with_reducible refine LeO.ite ?_ ?_)
   | (with_reducible refine LeO.bind ?_ (fun _ => ?_))
   | exact ih0 _
   | exact ih1 _ _ _ _ _ _ _ _ _ _ _
   | exact ih2 _ _ _ _ _ _ _ _ _ _ _
   | exact impl_AreSlots.mono _ _
   | exact impl_FreeSlots.mono _ _
   | exact impl_PutAway.mono _ _ _ _ _ _ _
   | exact impl_SmallestFree.mono _ _ _
   | exact impl_TakeOut.mono _ _ _
   | exact spec_DrawPutAway.mono _ _
   | exact spec_DrawTakeOut.mono _ _
   | exact LeO.none _
   | refine LeO.ite ?_ ?_
   | refine LeO.bind ?_ (fun _ => ?_)
theorem laws_FnShelves.mono : ∀ a0 k, LeO (laws_FnShelves.f k a0) (laws_FnShelves.f (k + 1) a0) := by
 intro a0 k
 obtain ⟨ih0, ih1, ih2⟩ := laws_FnShelves.mono_l k
 unfold laws_FnShelves.f
 repeat' first
   | (with_reducible exact ih0 _)
   | (with_reducible exact ih1 _ _ _ _ _ _ _ _ _ _ _)
   | (with_reducible exact ih2 _ _ _ _ _ _ _ _ _ _ _)
   | (with_reducible exact impl_AreSlots.mono _ _)
   | (with_reducible exact impl_FreeSlots.mono _ _)
   | (with_reducible exact impl_PutAway.mono _ _ _ _ _ _ _)
   | (with_reducible exact impl_SmallestFree.mono _ _ _)
   | (with_reducible exact impl_TakeOut.mono _ _ _)
   | (with_reducible exact spec_DrawPutAway.mono _ _)
   | (with_reducible exact spec_DrawTakeOut.mono _ _)
   | (with_reducible exact LeO.refl _)
   | (with_reducible exact LeO.none _)
   | (with_reducible refine LeO.ite ?_ ?_)
   | (with_reducible refine LeO.bind ?_ (fun _ => ?_))
   | exact ih0 _
   | exact ih1 _ _ _ _ _ _ _ _ _ _ _
   | exact ih2 _ _ _ _ _ _ _ _ _ _ _
   | exact impl_AreSlots.mono _ _
   | exact impl_FreeSlots.mono _ _
   | exact impl_PutAway.mono _ _ _ _ _ _ _
   | exact impl_SmallestFree.mono _ _ _
   | exact impl_TakeOut.mono _ _ _
   | exact spec_DrawPutAway.mono _ _
   | exact spec_DrawTakeOut.mono _ _
   | exact LeO.none _
   | refine LeO.ite ?_ ?_
   | refine LeO.bind ?_ (fun _ => ?_)
set_option maxHeartbeats 8000000 in
set_option maxRecDepth 100000 in
theorem laws_FnShelves.calls (k : Nat) (A0 : Option Addr) (c0 : Nat) (l0 : List Int) (r : Bool) (w : World) (hr0 : Kd.C (Kd.int .u8) w A0 l0.length l0) (hc0 : l0.length ≤ c0) (h : laws_FnShelves.f k l0 = some r) :
  Calls Try.prog 7 #[.slice A0 l0.length c0] w fun e w' => e = .returned (.bool r) ∧ Below w.heap.size w w' := by
 have hu69 := Try.underlying69
 have hu78 := Try.underlying78
 have HR0 := Aside0.mk hr0
 have HC0 := Aside0.mk hc0
 clear hr0 hc0
 have HB := Aside0.mk (Below.refl w.heap.size w)
 have H : ((laws_big.f l0).bind fun t374 => (if t374 = true then (some true) else ((spec_DrawPutAway.f k l0).bind fun bt375 => ((impl_PutAway.f k bt375.1 bt375.2.1 bt375.2.2.1 bt375.2.2.2.1 bt375.2.2.2.2.1 bt375.2.2.2.2.2).bind fun bt384 => (if bt384.2 = true then ((impl_SlotOf.f bt384.1 bt375.2.1).bind fun t388 => ((impl_TakeOut.f k bt384.1 bt375.2.1).bind fun bt389 => ((impl_AreSlots.f k bt384.1).bind fun t393 => (if t393 = true then (if t388 = 0 then (laws_FnShelves.j0 k l0 bt375.1 bt384.1 t388 bt389.1 true bt375.2.1 bt375.2.2.1 bt375.2.2.2.1 bt375.2.2.2.2.1 bt375.2.2.2.2.2) else ((impl_SmallestFree.f k bt375.1 bt375.2.2.2.2.1).bind fun t394 => (if t388 = t394 then ((impl_FreeSlots.f k bt384.1).bind fun t395 => ((impl_FreeSlots.f k bt375.1).bind fun t396 => (if t395 = (wrap64 (t396 - 1)) then (if bt389.2 = true then ((impl_FreeSlots.f k bt389.1).bind fun t397 => ((impl_FreeSlots.f k bt375.1).bind fun t398 => (laws_FnShelves.j0 k l0 bt375.1 bt384.1 t388 bt389.1 (t397 != t398) bt375.2.1 bt375.2.2.1 bt375.2.2.2.1 bt375.2.2.2.2.1 bt375.2.2.2.2.2))) else (laws_FnShelves.j0 k l0 bt375.1 bt384.1 t388 bt389.1 true bt375.2.1 bt375.2.2.1 bt375.2.2.2.1 bt375.2.2.2.2.1 bt375.2.2.2.2.2)) else (laws_FnShelves.j0 k l0 bt375.1 bt384.1 t388 bt389.1 true bt375.2.1 bt375.2.2.1 bt375.2.2.2.1 bt375.2.2.2.2.1 bt375.2.2.2.2.2)))) else (laws_FnShelves.j0 k l0 bt375.1 bt384.1 t388 bt389.1 true bt375.2.1 bt375.2.2.1 bt375.2.2.2.1 bt375.2.2.2.2.1 bt375.2.2.2.2.2)))) else (laws_FnShelves.j0 k l0 bt375.1 bt384.1 t388 bt389.1 true bt375.2.1 bt375.2.2.1 bt375.2.2.2.1 bt375.2.2.2.2.1 bt375.2.2.2.2.2))))) else (if (bt384.1.length : Int) = (bt375.1.length : Int) then (laws_FnShelves.j2 k l0) else (some false))))))) = some r := h
 clear h
 replace H := Option.bind_eq_some_iff.mp H
 obtain ⟨t374, A20, H⟩ := H
 replace H : (if t374 = true then (some true) else ((spec_DrawPutAway.f k l0).bind fun bt375 => ((impl_PutAway.f k bt375.1 bt375.2.1 bt375.2.2.1 bt375.2.2.2.1 bt375.2.2.2.2.1 bt375.2.2.2.2.2).bind fun bt384 => (if bt384.2 = true then ((impl_SlotOf.f bt384.1 bt375.2.1).bind fun t388 => ((impl_TakeOut.f k bt384.1 bt375.2.1).bind fun bt389 => ((impl_AreSlots.f k bt384.1).bind fun t393 => (if t393 = true then (if t388 = 0 then (laws_FnShelves.j0 k l0 bt375.1 bt384.1 t388 bt389.1 true bt375.2.1 bt375.2.2.1 bt375.2.2.2.1 bt375.2.2.2.2.1 bt375.2.2.2.2.2) else ((impl_SmallestFree.f k bt375.1 bt375.2.2.2.2.1).bind fun t394 => (if t388 = t394 then ((impl_FreeSlots.f k bt384.1).bind fun t395 => ((impl_FreeSlots.f k bt375.1).bind fun t396 => (if t395 = (wrap64 (t396 - 1)) then (if bt389.2 = true then ((impl_FreeSlots.f k bt389.1).bind fun t397 => ((impl_FreeSlots.f k bt375.1).bind fun t398 => (laws_FnShelves.j0 k l0 bt375.1 bt384.1 t388 bt389.1 (t397 != t398) bt375.2.1 bt375.2.2.1 bt375.2.2.2.1 bt375.2.2.2.2.1 bt375.2.2.2.2.2))) else (laws_FnShelves.j0 k l0 bt375.1 bt384.1 t388 bt389.1 true bt375.2.1 bt375.2.2.1 bt375.2.2.2.1 bt375.2.2.2.2.1 bt375.2.2.2.2.2)) else (laws_FnShelves.j0 k l0 bt375.1 bt384.1 t388 bt389.1 true bt375.2.1 bt375.2.2.1 bt375.2.2.2.1 bt375.2.2.2.2.1 bt375.2.2.2.2.2)))) else (laws_FnShelves.j0 k l0 bt375.1 bt384.1 t388 bt389.1 true bt375.2.1 bt375.2.2.1 bt375.2.2.2.1 bt375.2.2.2.2.1 bt375.2.2.2.2.2)))) else (laws_FnShelves.j0 k l0 bt375.1 bt384.1 t388 bt389.1 true bt375.2.1 bt375.2.2.1 bt375.2.2.2.1 bt375.2.2.2.2.1 bt375.2.2.2.2.2))))) else (if (bt384.1.length : Int) = (bt375.1.length : Int) then (laws_FnShelves.j2 k l0) else (some false)))))) = some r := H
 have A2 := Aside0.mk A20
 clear A20
 by_cases c3 : t374 = true
 ·subst c3
  have H1 : (some true) = some r := by rw [if_pos rfl] at H; exact H
  clear H
  have H := H1
  clear H1
  obtain rfl := Option.some.inj H
  go_enter Try.func7, Try.ntmps7
  go_wp2_with (first | (go_at_call 46; (with_reducible refine (laws_big.calls _ _ l0 true _ ?side1 ?side2 A2.out).mono ?_); (case side1 => repeat (first | exact HR0.out | (with_reducible refine Kd.C_alloc ?_ _) | (with_reducible refine Kd.C_drewN ?_ _) | (with_reducible refine Kd.C_drew ?_))); (case side2 => exact HC0.out); rintro e w' ⟨rfl, ⟨nd, rfl⟩⟩; (try first | exact ⟨rfl, _, World.drewN_drewN _ _ _⟩ | exact ⟨rfl, _, Eq.trans (World.drewN_drewN _ _ _) (congrArg (World.drewN _) (Nat.add_assoc _ _ _))⟩)))
  repeat (go_quiet (first | (go_at_call 46; (with_reducible refine (laws_big.calls _ _ l0 true _ ?side1 ?side2 A2.out).mono ?_); (case side1 => repeat (first | exact HR0.out | (with_reducible refine Kd.C_alloc ?_ _) | (with_reducible refine Kd.C_drewN ?_ _) | (with_reducible refine Kd.C_drew ?_))); (case side2 => exact HC0.out); rintro e w' ⟨rfl, ⟨nd, rfl⟩⟩; (try first | exact ⟨rfl, _, World.drewN_drewN _ _ _⟩ | exact ⟨rfl, _, Eq.trans (World.drewN_drewN _ _ _) (congrArg (World.drewN _) (Nat.add_assoc _ _ _))⟩))); try go_wp2_with (first | (go_at_call 46; (with_reducible refine (laws_big.calls _ _ l0 true _ ?side1 ?side2 A2.out).mono ?_); (case side1 => repeat (first | exact HR0.out | (with_reducible refine Kd.C_alloc ?_ _) | (with_reducible refine Kd.C_drewN ?_ _) | (with_reducible refine Kd.C_drew ?_))); (case side2 => exact HC0.out); rintro e w' ⟨rfl, ⟨nd, rfl⟩⟩; (try first | exact ⟨rfl, _, World.drewN_drewN _ _ _⟩ | exact ⟨rfl, _, Eq.trans (World.drewN_drewN _ _ _) (congrArg (World.drewN _) (Nat.add_assoc _ _ _))⟩))))
  go_ret
  exact ⟨by first | rfl | (simp [errW_none, errW_some] <;> rfl) | (simp [*, errW_none, errW_some] <;> rfl), by repeat (first | (with_reducible first | exact HB.out | apply bA | apply bN | apply bD) | exact HB.out)⟩
 ·replace c3 := Bool.eq_false_iff.mpr c3
  subst c3
  have H1 : ((spec_DrawPutAway.f k l0).bind fun bt375 => ((impl_PutAway.f k bt375.1 bt375.2.1 bt375.2.2.1 bt375.2.2.2.1 bt375.2.2.2.2.1 bt375.2.2.2.2.2).bind fun bt384 => (if bt384.2 = true then ((impl_SlotOf.f bt384.1 bt375.2.1).bind fun t388 => ((impl_TakeOut.f k bt384.1 bt375.2.1).bind fun bt389 => ((impl_AreSlots.f k bt384.1).bind fun t393 => (if t393 = true then (if t388 = 0 then (laws_FnShelves.j0 k l0 bt375.1 bt384.1 t388 bt389.1 true bt375.2.1 bt375.2.2.1 bt375.2.2.2.1 bt375.2.2.2.2.1 bt375.2.2.2.2.2) else ((impl_SmallestFree.f k bt375.1 bt375.2.2.2.2.1).bind fun t394 => (if t388 = t394 then ((impl_FreeSlots.f k bt384.1).bind fun t395 => ((impl_FreeSlots.f k bt375.1).bind fun t396 => (if t395 = (wrap64 (t396 - 1)) then (if bt389.2 = true then ((impl_FreeSlots.f k bt389.1).bind fun t397 => ((impl_FreeSlots.f k bt375.1).bind fun t398 => (laws_FnShelves.j0 k l0 bt375.1 bt384.1 t388 bt389.1 (t397 != t398) bt375.2.1 bt375.2.2.1 bt375.2.2.2.1 bt375.2.2.2.2.1 bt375.2.2.2.2.2))) else (laws_FnShelves.j0 k l0 bt375.1 bt384.1 t388 bt389.1 true bt375.2.1 bt375.2.2.1 bt375.2.2.2.1 bt375.2.2.2.2.1 bt375.2.2.2.2.2)) else (laws_FnShelves.j0 k l0 bt375.1 bt384.1 t388 bt389.1 true bt375.2.1 bt375.2.2.1 bt375.2.2.2.1 bt375.2.2.2.2.1 bt375.2.2.2.2.2)))) else (laws_FnShelves.j0 k l0 bt375.1 bt384.1 t388 bt389.1 true bt375.2.1 bt375.2.2.1 bt375.2.2.2.1 bt375.2.2.2.2.1 bt375.2.2.2.2.2)))) else (laws_FnShelves.j0 k l0 bt375.1 bt384.1 t388 bt389.1 true bt375.2.1 bt375.2.2.1 bt375.2.2.2.1 bt375.2.2.2.2.1 bt375.2.2.2.2.2))))) else (if (bt384.1.length : Int) = (bt375.1.length : Int) then (laws_FnShelves.j2 k l0) else (some false))))) = some r := by rw [if_neg (show ¬ (false = true) by decide)] at H; exact H
  clear H
  have H := H1
  clear H1
  replace H := Option.bind_eq_some_iff.mp H
  obtain ⟨⟨t375, t378, t379, t380, t381, t382⟩, A40, H⟩ := H
  replace H : ((impl_PutAway.f k t375 t378 t379 t380 t381 t382).bind fun bt384 => (if bt384.2 = true then ((impl_SlotOf.f bt384.1 t378).bind fun t388 => ((impl_TakeOut.f k bt384.1 t378).bind fun bt389 => ((impl_AreSlots.f k bt384.1).bind fun t393 => (if t393 = true then (if t388 = 0 then (laws_FnShelves.j0 k l0 t375 bt384.1 t388 bt389.1 true t378 t379 t380 t381 t382) else ((impl_SmallestFree.f k t375 t381).bind fun t394 => (if t388 = t394 then ((impl_FreeSlots.f k bt384.1).bind fun t395 => ((impl_FreeSlots.f k t375).bind fun t396 => (if t395 = (wrap64 (t396 - 1)) then (if bt389.2 = true then ((impl_FreeSlots.f k bt389.1).bind fun t397 => ((impl_FreeSlots.f k t375).bind fun t398 => (laws_FnShelves.j0 k l0 t375 bt384.1 t388 bt389.1 (t397 != t398) t378 t379 t380 t381 t382))) else (laws_FnShelves.j0 k l0 t375 bt384.1 t388 bt389.1 true t378 t379 t380 t381 t382)) else (laws_FnShelves.j0 k l0 t375 bt384.1 t388 bt389.1 true t378 t379 t380 t381 t382)))) else (laws_FnShelves.j0 k l0 t375 bt384.1 t388 bt389.1 true t378 t379 t380 t381 t382)))) else (laws_FnShelves.j0 k l0 t375 bt384.1 t388 bt389.1 true t378 t379 t380 t381 t382))))) else (if (bt384.1.length : Int) = (t375.length : Int) then (laws_FnShelves.j2 k l0) else (some false)))) = some r := H
  have A4 := Aside0.mk A40
  clear A40
  replace H := Option.bind_eq_some_iff.mp H
  obtain ⟨⟨t384, t387⟩, A50, H⟩ := H
  replace H : (if t387 = true then ((impl_SlotOf.f t384 t378).bind fun t388 => ((impl_TakeOut.f k t384 t378).bind fun bt389 => ((impl_AreSlots.f k t384).bind fun t393 => (if t393 = true then (if t388 = 0 then (laws_FnShelves.j0 k l0 t375 t384 t388 bt389.1 true t378 t379 t380 t381 t382) else ((impl_SmallestFree.f k t375 t381).bind fun t394 => (if t388 = t394 then ((impl_FreeSlots.f k t384).bind fun t395 => ((impl_FreeSlots.f k t375).bind fun t396 => (if t395 = (wrap64 (t396 - 1)) then (if bt389.2 = true then ((impl_FreeSlots.f k bt389.1).bind fun t397 => ((impl_FreeSlots.f k t375).bind fun t398 => (laws_FnShelves.j0 k l0 t375 t384 t388 bt389.1 (t397 != t398) t378 t379 t380 t381 t382))) else (laws_FnShelves.j0 k l0 t375 t384 t388 bt389.1 true t378 t379 t380 t381 t382)) else (laws_FnShelves.j0 k l0 t375 t384 t388 bt389.1 true t378 t379 t380 t381 t382)))) else (laws_FnShelves.j0 k l0 t375 t384 t388 bt389.1 true t378 t379 t380 t381 t382)))) else (laws_FnShelves.j0 k l0 t375 t384 t388 bt389.1 true t378 t379 t380 t381 t382))))) else (if (t384.length : Int) = (t375.length : Int) then (laws_FnShelves.j2 k l0) else (some false))) = some r := H
  have A5 := Aside0.mk A50
  clear A50
  have HC6 := Aside0.mk H
  clear H
  go_enter Try.func7, Try.ntmps7
  go_upto_if 28 with (first | (go_at_call 46; (with_reducible refine (laws_big.calls _ _ l0 false _ ?side1 ?side2 A2.out).mono ?_); (case side1 => repeat (first | exact HR0.out | (with_reducible refine Kd.C_alloc ?_ _) | (with_reducible refine Kd.C_drewN ?_ _) | (with_reducible refine Kd.C_drew ?_))); (case side2 => exact HC0.out); rintro e w' ⟨rfl, ⟨nd, rfl⟩⟩; (try first | exact ⟨rfl, _, World.drewN_drewN _ _ _⟩ | exact ⟨rfl, _, Eq.trans (World.drewN_drewN _ _ _) (congrArg (World.drewN _) (Nat.add_assoc _ _ _))⟩)) | (go_at_call 47; (with_reducible refine (spec_DrawPutAway.calls k _ _ l0 t375 t378 t379 t380 t381 t382 _ ?side1 ?side2 A4.out).mono ?_); (case side1 => repeat (first | exact HR0.out | (with_reducible refine Kd.C_alloc ?_ _) | (with_reducible refine Kd.C_drewN ?_ _) | (with_reducible refine Kd.C_drew ?_))); (case side2 => exact HC0.out); rintro e w7 ⟨v376, rfl, ho0, hb⟩; have n0_ := Aside0.mk (Kd.R_lower ho0 (below_size (qB HB))); have n1_ := Aside0.mk (below_step (qB HB) hb); clear HB; have HO377 := n0_; have HB := n1_; clear n0_ n1_; (try clear hb); (try clear hb2); (try clear hk); (try clear hi); (try clear ho0)) | ((with_reducible refine gate_dst (N := 4) rfl ?_); refine box_event ?hg (N := 4) ?hd (cs := #[.int .i64 0, .int .i64 0, .int .i64 0, .int .i64 0, .int .i64 0]) (t := 69) ?hr ?_; (case hd => rfl); (case hg => rfl); (case hr => first | (go_simp; done) | (go_simp; rfl)); intro gb383 hg w8 hbox hb; have n0_ := Aside0.mk (Kd.R_below (qR HO377) hb); have n1_ := Aside0.mk (below_step (qB HB) hb); have n2_ := Aside0.mk (hbox); have n3_ := Aside0.mk ((by rw [hg]; exact (below_size (qB HB)) : w.heap.size ≤ gb383)); have n4_ := Aside0.mk ((by rw [hg]; exact (below_size (qB HB)) : w.heap.size ≤ gb383)); clear HO377; clear HB; have HO377 := n0_; have HB := n1_; have BK383 := n2_; have GW383 := n3_; have GE383 := n4_; clear n0_ n1_ n2_ n3_ n4_; clear hb hbox hg; have hcz9_0 : w8.cell? ⟨gb383, 0, none⟩ = some (.int .i64 0) := cC BK383 0; have hcz9_1 : w8.cell? ⟨gb383, 1, none⟩ = some (.int .i64 0) := cC BK383 1; have hcz9_2 : w8.cell? ⟨gb383, 2, none⟩ = some (.int .i64 0) := cC BK383 2; have hcz9_3 : w8.cell? ⟨gb383, 3, none⟩ = some (.int .i64 0) := cC BK383 3; have hcz9_4 : w8.cell? ⟨gb383, 4, none⟩ = some (.int .i64 0) := cC BK383 4; have hfz9_0 := blk_frozen BK383.out 0; have hfz9_1 := blk_frozen BK383.out 1; have hfz9_2 := blk_frozen BK383.out 2; have hfz9_3 := blk_frozen BK383.out 3; have hfz9_4 := blk_frozen BK383.out 4; obtain ⟨Ao10, co10, eo10⟩ := Kd.R_slice HO377.out; subst eo10) | (go_at_call 48; (with_reducible refine (impl_PutAway.calls k _ _ t375 t378 t379 t380 t381 t382 t384 t387 _ ?side1 ?side2 A5.out).mono ?_); (case side1 => refine (Kd.R_reads' (e := 78) (base := w.heap.size) (ok := fun k_ => True) (n := t375.length) (c := co10) ?_).2.2; exact (by (with_reducible repeat first | apply rA | apply rN | apply rD); exact (far5 HO377 BK383))); (case side2 => exact (Kd.R_reads' HO377.out).2.1); rintro e w11 ⟨v385, rfl, ho0, hb⟩; have n0_ := Aside0.mk (Kd.R_elder' (by (with_reducible repeat first | apply rA | apply rN | apply rD); exact (far5 HO377 BK383)) (Kd.R_base ho0) hb); have n1_ := Aside0.mk (Kd.R_lower (Kd.R_new' ho0 (Kd.R_lt (by (with_reducible repeat first | apply rA | apply rN | apply rD); exact (far5 HO377 BK383)))) (below_size (by repeat first | (with_reducible first | exact HB.out | apply bA | apply bN | apply bD | refine bS ?_ GE383.out) | exact HB.out))); have n2_ := Aside0.mk (blk_below (g := gb383) (o := .cells #[.int .i64 t378, .int .i64 t379, .int .i64 t380, .int .i64 t381, .int .i64 t382] 69 (0, 0)) (by (with_reducible repeat first | refine kN ?_ _ | refine kD ?_ | refine kA ?_ _); refine blk_put (cs := #[.int .i64 t378, .int .i64 t379, .int .i64 t380, .int .i64 t381, .int .i64 0]) ?_ 4 _ rfl; (with_reducible repeat first | refine kN ?_ _ | refine kD ?_ | refine kA ?_ _); refine blk_put (cs := #[.int .i64 t378, .int .i64 t379, .int .i64 t380, .int .i64 0, .int .i64 0]) ?_ 3 _ rfl; (with_reducible repeat first | refine kN ?_ _ | refine kD ?_ | refine kA ?_ _); refine blk_put (cs := #[.int .i64 t378, .int .i64 t379, .int .i64 0, .int .i64 0, .int .i64 0]) ?_ 2 _ rfl; (with_reducible repeat first | refine kN ?_ _ | refine kD ?_ | refine kA ?_ _); refine blk_put (cs := #[.int .i64 t378, .int .i64 0, .int .i64 0, .int .i64 0, .int .i64 0]) ?_ 1 _ rfl; (with_reducible repeat first | refine kN ?_ _ | refine kD ?_ | refine kA ?_ _); refine blk_put (cs := #[.int .i64 0, .int .i64 0, .int .i64 0, .int .i64 0, .int .i64 0]) ?_ 0 _ rfl; (with_reducible repeat first | refine kN ?_ _ | refine kD ?_ | refine kA ?_ _); exact BK383.out) hb); have n3_ := Aside0.mk (below_step (by repeat first | (with_reducible first | exact HB.out | apply bA | apply bN | apply bD | refine bS ?_ GE383.out) | exact HB.out) hb); clear HO377; clear BK383; clear HB; have HO377 := n0_; have HO386 := n1_; have BK383 := n2_; have HB := n3_; clear n0_ n1_ n2_ n3_; (try clear hb); (try clear hb2); (try clear hk); (try clear hi); (try clear ho0)))
  repeat (go_quiet (first | (go_at_call 46; (with_reducible refine (laws_big.calls _ _ l0 false _ ?side1 ?side2 A2.out).mono ?_); (case side1 => repeat (first | exact HR0.out | (with_reducible refine Kd.C_alloc ?_ _) | (with_reducible refine Kd.C_drewN ?_ _) | (with_reducible refine Kd.C_drew ?_))); (case side2 => exact HC0.out); rintro e w' ⟨rfl, ⟨nd, rfl⟩⟩; (try first | exact ⟨rfl, _, World.drewN_drewN _ _ _⟩ | exact ⟨rfl, _, Eq.trans (World.drewN_drewN _ _ _) (congrArg (World.drewN _) (Nat.add_assoc _ _ _))⟩)) | (go_at_call 47; (with_reducible refine (spec_DrawPutAway.calls k _ _ l0 t375 t378 t379 t380 t381 t382 _ ?side1 ?side2 A4.out).mono ?_); (case side1 => repeat (first | exact HR0.out | (with_reducible refine Kd.C_alloc ?_ _) | (with_reducible refine Kd.C_drewN ?_ _) | (with_reducible refine Kd.C_drew ?_))); (case side2 => exact HC0.out); rintro e w7 ⟨v376, rfl, ho0, hb⟩; have n0_ := Aside0.mk (Kd.R_lower ho0 (below_size (qB HB))); have n1_ := Aside0.mk (below_step (qB HB) hb); clear HB; have HO377 := n0_; have HB := n1_; clear n0_ n1_; (try clear hb); (try clear hb2); (try clear hk); (try clear hi); (try clear ho0)) | ((with_reducible refine gate_dst (N := 4) rfl ?_); refine box_event ?hg (N := 4) ?hd (cs := #[.int .i64 0, .int .i64 0, .int .i64 0, .int .i64 0, .int .i64 0]) (t := 69) ?hr ?_; (case hd => rfl); (case hg => rfl); (case hr => first | (go_simp; done) | (go_simp; rfl)); intro gb383 hg w8 hbox hb; have n0_ := Aside0.mk (Kd.R_below (qR HO377) hb); have n1_ := Aside0.mk (below_step (qB HB) hb); have n2_ := Aside0.mk (hbox); have n3_ := Aside0.mk ((by rw [hg]; exact (below_size (qB HB)) : w.heap.size ≤ gb383)); have n4_ := Aside0.mk ((by rw [hg]; exact (below_size (qB HB)) : w.heap.size ≤ gb383)); clear HO377; clear HB; have HO377 := n0_; have HB := n1_; have BK383 := n2_; have GW383 := n3_; have GE383 := n4_; clear n0_ n1_ n2_ n3_ n4_; clear hb hbox hg; have hcz9_0 : w8.cell? ⟨gb383, 0, none⟩ = some (.int .i64 0) := cC BK383 0; have hcz9_1 : w8.cell? ⟨gb383, 1, none⟩ = some (.int .i64 0) := cC BK383 1; have hcz9_2 : w8.cell? ⟨gb383, 2, none⟩ = some (.int .i64 0) := cC BK383 2; have hcz9_3 : w8.cell? ⟨gb383, 3, none⟩ = some (.int .i64 0) := cC BK383 3; have hcz9_4 : w8.cell? ⟨gb383, 4, none⟩ = some (.int .i64 0) := cC BK383 4; have hfz9_0 := blk_frozen BK383.out 0; have hfz9_1 := blk_frozen BK383.out 1; have hfz9_2 := blk_frozen BK383.out 2; have hfz9_3 := blk_frozen BK383.out 3; have hfz9_4 := blk_frozen BK383.out 4; obtain ⟨Ao10, co10, eo10⟩ := Kd.R_slice HO377.out; subst eo10) | (go_at_call 48; (with_reducible refine (impl_PutAway.calls k _ _ t375 t378 t379 t380 t381 t382 t384 t387 _ ?side1 ?side2 A5.out).mono ?_); (case side1 => refine (Kd.R_reads' (e := 78) (base := w.heap.size) (ok := fun k_ => True) (n := t375.length) (c := co10) ?_).2.2; exact (by (with_reducible repeat first | apply rA | apply rN | apply rD); exact (far5 HO377 BK383))); (case side2 => exact (Kd.R_reads' HO377.out).2.1); rintro e w11 ⟨v385, rfl, ho0, hb⟩; have n0_ := Aside0.mk (Kd.R_elder' (by (with_reducible repeat first | apply rA | apply rN | apply rD); exact (far5 HO377 BK383)) (Kd.R_base ho0) hb); have n1_ := Aside0.mk (Kd.R_lower (Kd.R_new' ho0 (Kd.R_lt (by (with_reducible repeat first | apply rA | apply rN | apply rD); exact (far5 HO377 BK383)))) (below_size (by repeat first | (with_reducible first | exact HB.out | apply bA | apply bN | apply bD | refine bS ?_ GE383.out) | exact HB.out))); have n2_ := Aside0.mk (blk_below (g := gb383) (o := .cells #[.int .i64 t378, .int .i64 t379, .int .i64 t380, .int .i64 t381, .int .i64 t382] 69 (0, 0)) (by (with_reducible repeat first | refine kN ?_ _ | refine kD ?_ | refine kA ?_ _); refine blk_put (cs := #[.int .i64 t378, .int .i64 t379, .int .i64 t380, .int .i64 t381, .int .i64 0]) ?_ 4 _ rfl; (with_reducible repeat first | refine kN ?_ _ | refine kD ?_ | refine kA ?_ _); refine blk_put (cs := #[.int .i64 t378, .int .i64 t379, .int .i64 t380, .int .i64 0, .int .i64 0]) ?_ 3 _ rfl; (with_reducible repeat first | refine kN ?_ _ | refine kD ?_ | refine kA ?_ _); refine blk_put (cs := #[.int .i64 t378, .int .i64 t379, .int .i64 0, .int .i64 0, .int .i64 0]) ?_ 2 _ rfl; (with_reducible repeat first | refine kN ?_ _ | refine kD ?_ | refine kA ?_ _); refine blk_put (cs := #[.int .i64 t378, .int .i64 0, .int .i64 0, .int .i64 0, .int .i64 0]) ?_ 1 _ rfl; (with_reducible repeat first | refine kN ?_ _ | refine kD ?_ | refine kA ?_ _); refine blk_put (cs := #[.int .i64 0, .int .i64 0, .int .i64 0, .int .i64 0, .int .i64 0]) ?_ 0 _ rfl; (with_reducible repeat first | refine kN ?_ _ | refine kD ?_ | refine kA ?_ _); exact BK383.out) hb); have n3_ := Aside0.mk (below_step (by repeat first | (with_reducible first | exact HB.out | apply bA | apply bN | apply bD | refine bS ?_ GE383.out) | exact HB.out) hb); clear HO377; clear BK383; clear HB; have HO377 := n0_; have HO386 := n1_; have BK383 := n2_; have HB := n3_; clear n0_ n1_ n2_ n3_; (try clear hb); (try clear hb2); (try clear hk); (try clear hi); (try clear ho0))); go_upto_if 28 with (first | (go_at_call 46; (with_reducible refine (laws_big.calls _ _ l0 false _ ?side1 ?side2 A2.out).mono ?_); (case side1 => repeat (first | exact HR0.out | (with_reducible refine Kd.C_alloc ?_ _) | (with_reducible refine Kd.C_drewN ?_ _) | (with_reducible refine Kd.C_drew ?_))); (case side2 => exact HC0.out); rintro e w' ⟨rfl, ⟨nd, rfl⟩⟩; (try first | exact ⟨rfl, _, World.drewN_drewN _ _ _⟩ | exact ⟨rfl, _, Eq.trans (World.drewN_drewN _ _ _) (congrArg (World.drewN _) (Nat.add_assoc _ _ _))⟩)) | (go_at_call 47; (with_reducible refine (spec_DrawPutAway.calls k _ _ l0 t375 t378 t379 t380 t381 t382 _ ?side1 ?side2 A4.out).mono ?_); (case side1 => repeat (first | exact HR0.out | (with_reducible refine Kd.C_alloc ?_ _) | (with_reducible refine Kd.C_drewN ?_ _) | (with_reducible refine Kd.C_drew ?_))); (case side2 => exact HC0.out); rintro e w7 ⟨v376, rfl, ho0, hb⟩; have n0_ := Aside0.mk (Kd.R_lower ho0 (below_size (qB HB))); have n1_ := Aside0.mk (below_step (qB HB) hb); clear HB; have HO377 := n0_; have HB := n1_; clear n0_ n1_; (try clear hb); (try clear hb2); (try clear hk); (try clear hi); (try clear ho0)) | ((with_reducible refine gate_dst (N := 4) rfl ?_); refine box_event ?hg (N := 4) ?hd (cs := #[.int .i64 0, .int .i64 0, .int .i64 0, .int .i64 0, .int .i64 0]) (t := 69) ?hr ?_; (case hd => rfl); (case hg => rfl); (case hr => first | (go_simp; done) | (go_simp; rfl)); intro gb383 hg w8 hbox hb; have n0_ := Aside0.mk (Kd.R_below (qR HO377) hb); have n1_ := Aside0.mk (below_step (qB HB) hb); have n2_ := Aside0.mk (hbox); have n3_ := Aside0.mk ((by rw [hg]; exact (below_size (qB HB)) : w.heap.size ≤ gb383)); have n4_ := Aside0.mk ((by rw [hg]; exact (below_size (qB HB)) : w.heap.size ≤ gb383)); clear HO377; clear HB; have HO377 := n0_; have HB := n1_; have BK383 := n2_; have GW383 := n3_; have GE383 := n4_; clear n0_ n1_ n2_ n3_ n4_; clear hb hbox hg; have hcz9_0 : w8.cell? ⟨gb383, 0, none⟩ = some (.int .i64 0) := cC BK383 0; have hcz9_1 : w8.cell? ⟨gb383, 1, none⟩ = some (.int .i64 0) := cC BK383 1; have hcz9_2 : w8.cell? ⟨gb383, 2, none⟩ = some (.int .i64 0) := cC BK383 2; have hcz9_3 : w8.cell? ⟨gb383, 3, none⟩ = some (.int .i64 0) := cC BK383 3; have hcz9_4 : w8.cell? ⟨gb383, 4, none⟩ = some (.int .i64 0) := cC BK383 4; have hfz9_0 := blk_frozen BK383.out 0; have hfz9_1 := blk_frozen BK383.out 1; have hfz9_2 := blk_frozen BK383.out 2; have hfz9_3 := blk_frozen BK383.out 3; have hfz9_4 := blk_frozen BK383.out 4; obtain ⟨Ao10, co10, eo10⟩ := Kd.R_slice HO377.out; subst eo10) | (go_at_call 48; (with_reducible refine (impl_PutAway.calls k _ _ t375 t378 t379 t380 t381 t382 t384 t387 _ ?side1 ?side2 A5.out).mono ?_); (case side1 => refine (Kd.R_reads' (e := 78) (base := w.heap.size) (ok := fun k_ => True) (n := t375.length) (c := co10) ?_).2.2; exact (by (with_reducible repeat first | apply rA | apply rN | apply rD); exact (far5 HO377 BK383))); (case side2 => exact (Kd.R_reads' HO377.out).2.1); rintro e w11 ⟨v385, rfl, ho0, hb⟩; have n0_ := Aside0.mk (Kd.R_elder' (by (with_reducible repeat first | apply rA | apply rN | apply rD); exact (far5 HO377 BK383)) (Kd.R_base ho0) hb); have n1_ := Aside0.mk (Kd.R_lower (Kd.R_new' ho0 (Kd.R_lt (by (with_reducible repeat first | apply rA | apply rN | apply rD); exact (far5 HO377 BK383)))) (below_size (by repeat first | (with_reducible first | exact HB.out | apply bA | apply bN | apply bD | refine bS ?_ GE383.out) | exact HB.out))); have n2_ := Aside0.mk (blk_below (g := gb383) (o := .cells #[.int .i64 t378, .int .i64 t379, .int .i64 t380, .int .i64 t381, .int .i64 t382] 69 (0, 0)) (by (with_reducible repeat first | refine kN ?_ _ | refine kD ?_ | refine kA ?_ _); refine blk_put (cs := #[.int .i64 t378, .int .i64 t379, .int .i64 t380, .int .i64 t381, .int .i64 0]) ?_ 4 _ rfl; (with_reducible repeat first | refine kN ?_ _ | refine kD ?_ | refine kA ?_ _); refine blk_put (cs := #[.int .i64 t378, .int .i64 t379, .int .i64 t380, .int .i64 0, .int .i64 0]) ?_ 3 _ rfl; (with_reducible repeat first | refine kN ?_ _ | refine kD ?_ | refine kA ?_ _); refine blk_put (cs := #[.int .i64 t378, .int .i64 t379, .int .i64 0, .int .i64 0, .int .i64 0]) ?_ 2 _ rfl; (with_reducible repeat first | refine kN ?_ _ | refine kD ?_ | refine kA ?_ _); refine blk_put (cs := #[.int .i64 t378, .int .i64 0, .int .i64 0, .int .i64 0, .int .i64 0]) ?_ 1 _ rfl; (with_reducible repeat first | refine kN ?_ _ | refine kD ?_ | refine kA ?_ _); refine blk_put (cs := #[.int .i64 0, .int .i64 0, .int .i64 0, .int .i64 0, .int .i64 0]) ?_ 0 _ rfl; (with_reducible repeat first | refine kN ?_ _ | refine kD ?_ | refine kA ?_ _); exact BK383.out) hb); have n3_ := Aside0.mk (below_step (by repeat first | (with_reducible first | exact HB.out | apply bA | apply bN | apply bD | refine bS ?_ GE383.out) | exact HB.out) hb); clear HO377; clear BK383; clear HB; have HO377 := n0_; have HO386 := n1_; have BK383 := n2_; have HB := n3_; clear n0_ n1_ n2_ n3_; (try clear hb); (try clear hb2); (try clear hk); (try clear hi); (try clear ho0))))
  (try simp only [Act.put, sA, sZ, sS])
  go_cut [] (fun wc => ∃ (kq : Nat), Aside0 (laws_FnShelves.j2 kq l0 = some r) ∧ Aside0 (kq ≤ k) ∧ Aside0 (wc.heap[gb383]? = some (.cells #[.int .i64 t378, .int .i64 t379, .int .i64 t380, .int .i64 t381, .int .i64 t382] 69 (0, 0))) ∧ Aside0 (Below w.heap.size w wc))
  case first =>
   have H := HC6.out
   clear HC6
   by_cases c12 : t387 = true
   ·subst c12
    have H1 : ((impl_SlotOf.f t384 t378).bind fun t388 => ((impl_TakeOut.f k t384 t378).bind fun bt389 => ((impl_AreSlots.f k t384).bind fun t393 => (if t393 = true then (if t388 = 0 then (laws_FnShelves.j0 k l0 t375 t384 t388 bt389.1 true t378 t379 t380 t381 t382) else ((impl_SmallestFree.f k t375 t381).bind fun t394 => (if t388 = t394 then ((impl_FreeSlots.f k t384).bind fun t395 => ((impl_FreeSlots.f k t375).bind fun t396 => (if t395 = (wrap64 (t396 - 1)) then (if bt389.2 = true then ((impl_FreeSlots.f k bt389.1).bind fun t397 => ((impl_FreeSlots.f k t375).bind fun t398 => (laws_FnShelves.j0 k l0 t375 t384 t388 bt389.1 (t397 != t398) t378 t379 t380 t381 t382))) else (laws_FnShelves.j0 k l0 t375 t384 t388 bt389.1 true t378 t379 t380 t381 t382)) else (laws_FnShelves.j0 k l0 t375 t384 t388 bt389.1 true t378 t379 t380 t381 t382)))) else (laws_FnShelves.j0 k l0 t375 t384 t388 bt389.1 true t378 t379 t380 t381 t382)))) else (laws_FnShelves.j0 k l0 t375 t384 t388 bt389.1 true t378 t379 t380 t381 t382))))) = some r := by rw [if_pos rfl] at H; exact H
    clear H
    have H := H1
    clear H1
    replace H := Option.bind_eq_some_iff.mp H
    obtain ⟨t388, A130, H⟩ := H
    replace H : ((impl_TakeOut.f k t384 t378).bind fun bt389 => ((impl_AreSlots.f k t384).bind fun t393 => (if t393 = true then (if t388 = 0 then (laws_FnShelves.j0 k l0 t375 t384 t388 bt389.1 true t378 t379 t380 t381 t382) else ((impl_SmallestFree.f k t375 t381).bind fun t394 => (if t388 = t394 then ((impl_FreeSlots.f k t384).bind fun t395 => ((impl_FreeSlots.f k t375).bind fun t396 => (if t395 = (wrap64 (t396 - 1)) then (if bt389.2 = true then ((impl_FreeSlots.f k bt389.1).bind fun t397 => ((impl_FreeSlots.f k t375).bind fun t398 => (laws_FnShelves.j0 k l0 t375 t384 t388 bt389.1 (t397 != t398) t378 t379 t380 t381 t382))) else (laws_FnShelves.j0 k l0 t375 t384 t388 bt389.1 true t378 t379 t380 t381 t382)) else (laws_FnShelves.j0 k l0 t375 t384 t388 bt389.1 true t378 t379 t380 t381 t382)))) else (laws_FnShelves.j0 k l0 t375 t384 t388 bt389.1 true t378 t379 t380 t381 t382)))) else (laws_FnShelves.j0 k l0 t375 t384 t388 bt389.1 true t378 t379 t380 t381 t382)))) = some r := H
    have A13 := Aside0.mk A130
    clear A130
    replace H := Option.bind_eq_some_iff.mp H
    obtain ⟨⟨t389, t390⟩, A140, H⟩ := H
    replace H : ((impl_AreSlots.f k t384).bind fun t393 => (if t393 = true then (if t388 = 0 then (laws_FnShelves.j0 k l0 t375 t384 t388 t389 true t378 t379 t380 t381 t382) else ((impl_SmallestFree.f k t375 t381).bind fun t394 => (if t388 = t394 then ((impl_FreeSlots.f k t384).bind fun t395 => ((impl_FreeSlots.f k t375).bind fun t396 => (if t395 = (wrap64 (t396 - 1)) then (if t390 = true then ((impl_FreeSlots.f k t389).bind fun t397 => ((impl_FreeSlots.f k t375).bind fun t398 => (laws_FnShelves.j0 k l0 t375 t384 t388 t389 (t397 != t398) t378 t379 t380 t381 t382))) else (laws_FnShelves.j0 k l0 t375 t384 t388 t389 true t378 t379 t380 t381 t382)) else (laws_FnShelves.j0 k l0 t375 t384 t388 t389 true t378 t379 t380 t381 t382)))) else (laws_FnShelves.j0 k l0 t375 t384 t388 t389 true t378 t379 t380 t381 t382)))) else (laws_FnShelves.j0 k l0 t375 t384 t388 t389 true t378 t379 t380 t381 t382))) = some r := H
    have A14 := Aside0.mk A140
    clear A140
    have HC15 := Aside0.mk H
    clear H
    have hcz16_0 : w11.cell? ⟨gb383, 0, none⟩ = some (.int .i64 t378) := cC BK383 0
    have hcz16_1 : w11.cell? ⟨gb383, 1, none⟩ = some (.int .i64 t379) := cC BK383 1
    have hcz16_2 : w11.cell? ⟨gb383, 2, none⟩ = some (.int .i64 t380) := cC BK383 2
    have hcz16_3 : w11.cell? ⟨gb383, 3, none⟩ = some (.int .i64 t381) := cC BK383 3
    have hcz16_4 : w11.cell? ⟨gb383, 4, none⟩ = some (.int .i64 t382) := cC BK383 4
    have hfz16_0 := blk_frozen BK383.out 0
    have hfz16_1 := blk_frozen BK383.out 1
    have hfz16_2 := blk_frozen BK383.out 2
    have hfz16_3 := blk_frozen BK383.out 3
    have hfz16_4 := blk_frozen BK383.out 4
    obtain ⟨Ao17, co17, eo17⟩ := Kd.R_slice HO386.out
    subst eo17
    go_upto_region 8 with (first | (go_at_call 49; (with_reducible refine (impl_SlotOf.calls _ _ t384 t378 t388 _ ?side1 ?side2 A13.out).mono ?_); (case side1 => repeat (first | exact (Kd.R_reads' HO386.out).2.2 | (with_reducible refine Kd.C_alloc ?_ _) | (with_reducible refine Kd.C_drewN ?_ _) | (with_reducible refine Kd.C_drew ?_))); (case side2 => exact (Kd.R_reads' HO386.out).2.1); rintro e w18 ⟨rfl, hb⟩; have n0_ := Aside0.mk (Kd.R_below (qR HO377) hb); have n1_ := Aside0.mk (Kd.R_below (qR HO386) hb); have n2_ := Aside0.mk (blk_below (qK BK383) hb); have n3_ := Aside0.mk (below_step (by repeat first | (with_reducible first | exact HB.out | apply bA | apply bN | apply bD | refine bS ?_ GE383.out) | exact HB.out) hb); clear HO377; clear HO386; clear BK383; clear HB; have HO377 := n0_; have HO386 := n1_; have BK383 := n2_; have HB := n3_; clear n0_ n1_ n2_ n3_; (try clear hb); (try clear hb2); (try clear hk); (try clear hi); have hcz19_0 : w18.cell? ⟨gb383, 0, none⟩ = some (.int .i64 t378) := cC BK383 0; have hcz19_1 : w18.cell? ⟨gb383, 1, none⟩ = some (.int .i64 t379) := cC BK383 1; have hcz19_2 : w18.cell? ⟨gb383, 2, none⟩ = some (.int .i64 t380) := cC BK383 2; have hcz19_3 : w18.cell? ⟨gb383, 3, none⟩ = some (.int .i64 t381) := cC BK383 3; have hcz19_4 : w18.cell? ⟨gb383, 4, none⟩ = some (.int .i64 t382) := cC BK383 4; have hfz19_0 := blk_frozen BK383.out 0; have hfz19_1 := blk_frozen BK383.out 1; have hfz19_2 := blk_frozen BK383.out 2; have hfz19_3 := blk_frozen BK383.out 3; have hfz19_4 := blk_frozen BK383.out 4) | (go_at_call 50; (with_reducible refine (impl_TakeOut.calls k _ _ t384 t378 t389 t390 _ ?side1 ?side2 A14.out).mono ?_); (case side1 => repeat (first | exact (Kd.R_reads' HO386.out).2.2 | (with_reducible refine Kd.C_alloc ?_ _) | (with_reducible refine Kd.C_drewN ?_ _) | (with_reducible refine Kd.C_drew ?_))); (case side2 => exact (Kd.R_reads' HO386.out).2.1); rintro e w20 ⟨v391, rfl, ho0, hb⟩; have n0_ := Aside0.mk (Kd.R_elder' (qR HO377) (Kd.R_base ho0) hb); have n1_ := Aside0.mk (Kd.R_elder' (qR HO386) (Kd.R_base ho0) hb); have n2_ := Aside0.mk (Kd.R_lower (Kd.R_new' (Kd.R_new' ho0 (Kd.R_lt (qR HO377))) (Kd.R_lt (qR HO386))) (below_size (by repeat first | (with_reducible first | exact HB.out | apply bA | apply bN | apply bD | refine bS ?_ GE383.out) | exact HB.out))); have n3_ := Aside0.mk (blk_below (qK BK383) hb); have n4_ := Aside0.mk (below_step (by repeat first | (with_reducible first | exact HB.out | apply bA | apply bN | apply bD | refine bS ?_ GE383.out) | exact HB.out) hb); clear HO377; clear HO386; clear BK383; clear HB; have HO377 := n0_; have HO386 := n1_; have HO392 := n2_; have BK383 := n3_; have HB := n4_; clear n0_ n1_ n2_ n3_ n4_; (try clear hb); (try clear hb2); (try clear hk); (try clear hi); (try clear ho0)))
    repeat (go_quiet (first | (go_at_call 49; (with_reducible refine (impl_SlotOf.calls _ _ t384 t378 t388 _ ?side1 ?side2 A13.out).mono ?_); (case side1 => repeat (first | exact (Kd.R_reads' HO386.out).2.2 | (with_reducible refine Kd.C_alloc ?_ _) | (with_reducible refine Kd.C_drewN ?_ _) | (with_reducible refine Kd.C_drew ?_))); (case side2 => exact (Kd.R_reads' HO386.out).2.1); rintro e w18 ⟨rfl, hb⟩; have n0_ := Aside0.mk (Kd.R_below (qR HO377) hb); have n1_ := Aside0.mk (Kd.R_below (qR HO386) hb); have n2_ := Aside0.mk (blk_below (qK BK383) hb); have n3_ := Aside0.mk (below_step (by repeat first | (with_reducible first | exact HB.out | apply bA | apply bN | apply bD | refine bS ?_ GE383.out) | exact HB.out) hb); clear HO377; clear HO386; clear BK383; clear HB; have HO377 := n0_; have HO386 := n1_; have BK383 := n2_; have HB := n3_; clear n0_ n1_ n2_ n3_; (try clear hb); (try clear hb2); (try clear hk); (try clear hi); have hcz19_0 : w18.cell? ⟨gb383, 0, none⟩ = some (.int .i64 t378) := cC BK383 0; have hcz19_1 : w18.cell? ⟨gb383, 1, none⟩ = some (.int .i64 t379) := cC BK383 1; have hcz19_2 : w18.cell? ⟨gb383, 2, none⟩ = some (.int .i64 t380) := cC BK383 2; have hcz19_3 : w18.cell? ⟨gb383, 3, none⟩ = some (.int .i64 t381) := cC BK383 3; have hcz19_4 : w18.cell? ⟨gb383, 4, none⟩ = some (.int .i64 t382) := cC BK383 4; have hfz19_0 := blk_frozen BK383.out 0; have hfz19_1 := blk_frozen BK383.out 1; have hfz19_2 := blk_frozen BK383.out 2; have hfz19_3 := blk_frozen BK383.out 3; have hfz19_4 := blk_frozen BK383.out 4) | (go_at_call 50; (with_reducible refine (impl_TakeOut.calls k _ _ t384 t378 t389 t390 _ ?side1 ?side2 A14.out).mono ?_); (case side1 => repeat (first | exact (Kd.R_reads' HO386.out).2.2 | (with_reducible refine Kd.C_alloc ?_ _) | (with_reducible refine Kd.C_drewN ?_ _) | (with_reducible refine Kd.C_drew ?_))); (case side2 => exact (Kd.R_reads' HO386.out).2.1); rintro e w20 ⟨v391, rfl, ho0, hb⟩; have n0_ := Aside0.mk (Kd.R_elder' (qR HO377) (Kd.R_base ho0) hb); have n1_ := Aside0.mk (Kd.R_elder' (qR HO386) (Kd.R_base ho0) hb); have n2_ := Aside0.mk (Kd.R_lower (Kd.R_new' (Kd.R_new' ho0 (Kd.R_lt (qR HO377))) (Kd.R_lt (qR HO386))) (below_size (by repeat first | (with_reducible first | exact HB.out | apply bA | apply bN | apply bD | refine bS ?_ GE383.out) | exact HB.out))); have n3_ := Aside0.mk (blk_below (qK BK383) hb); have n4_ := Aside0.mk (below_step (by repeat first | (with_reducible first | exact HB.out | apply bA | apply bN | apply bD | refine bS ?_ GE383.out) | exact HB.out) hb); clear HO377; clear HO386; clear BK383; clear HB; have HO377 := n0_; have HO386 := n1_; have HO392 := n2_; have BK383 := n3_; have HB := n4_; clear n0_ n1_ n2_ n3_ n4_; (try clear hb); (try clear hb2); (try clear hk); (try clear hi); (try clear ho0))); go_upto_region 8 with (first | (go_at_call 49; (with_reducible refine (impl_SlotOf.calls _ _ t384 t378 t388 _ ?side1 ?side2 A13.out).mono ?_); (case side1 => repeat (first | exact (Kd.R_reads' HO386.out).2.2 | (with_reducible refine Kd.C_alloc ?_ _) | (with_reducible refine Kd.C_drewN ?_ _) | (with_reducible refine Kd.C_drew ?_))); (case side2 => exact (Kd.R_reads' HO386.out).2.1); rintro e w18 ⟨rfl, hb⟩; have n0_ := Aside0.mk (Kd.R_below (qR HO377) hb); have n1_ := Aside0.mk (Kd.R_below (qR HO386) hb); have n2_ := Aside0.mk (blk_below (qK BK383) hb); have n3_ := Aside0.mk (below_step (by repeat first | (with_reducible first | exact HB.out | apply bA | apply bN | apply bD | refine bS ?_ GE383.out) | exact HB.out) hb); clear HO377; clear HO386; clear BK383; clear HB; have HO377 := n0_; have HO386 := n1_; have BK383 := n2_; have HB := n3_; clear n0_ n1_ n2_ n3_; (try clear hb); (try clear hb2); (try clear hk); (try clear hi); have hcz19_0 : w18.cell? ⟨gb383, 0, none⟩ = some (.int .i64 t378) := cC BK383 0; have hcz19_1 : w18.cell? ⟨gb383, 1, none⟩ = some (.int .i64 t379) := cC BK383 1; have hcz19_2 : w18.cell? ⟨gb383, 2, none⟩ = some (.int .i64 t380) := cC BK383 2; have hcz19_3 : w18.cell? ⟨gb383, 3, none⟩ = some (.int .i64 t381) := cC BK383 3; have hcz19_4 : w18.cell? ⟨gb383, 4, none⟩ = some (.int .i64 t382) := cC BK383 4; have hfz19_0 := blk_frozen BK383.out 0; have hfz19_1 := blk_frozen BK383.out 1; have hfz19_2 := blk_frozen BK383.out 2; have hfz19_3 := blk_frozen BK383.out 3; have hfz19_4 := blk_frozen BK383.out 4) | (go_at_call 50; (with_reducible refine (impl_TakeOut.calls k _ _ t384 t378 t389 t390 _ ?side1 ?side2 A14.out).mono ?_); (case side1 => repeat (first | exact (Kd.R_reads' HO386.out).2.2 | (with_reducible refine Kd.C_alloc ?_ _) | (with_reducible refine Kd.C_drewN ?_ _) | (with_reducible refine Kd.C_drew ?_))); (case side2 => exact (Kd.R_reads' HO386.out).2.1); rintro e w20 ⟨v391, rfl, ho0, hb⟩; have n0_ := Aside0.mk (Kd.R_elder' (qR HO377) (Kd.R_base ho0) hb); have n1_ := Aside0.mk (Kd.R_elder' (qR HO386) (Kd.R_base ho0) hb); have n2_ := Aside0.mk (Kd.R_lower (Kd.R_new' (Kd.R_new' ho0 (Kd.R_lt (qR HO377))) (Kd.R_lt (qR HO386))) (below_size (by repeat first | (with_reducible first | exact HB.out | apply bA | apply bN | apply bD | refine bS ?_ GE383.out) | exact HB.out))); have n3_ := Aside0.mk (blk_below (qK BK383) hb); have n4_ := Aside0.mk (below_step (by repeat first | (with_reducible first | exact HB.out | apply bA | apply bN | apply bD | refine bS ?_ GE383.out) | exact HB.out) hb); clear HO377; clear HO386; clear BK383; clear HB; have HO377 := n0_; have HO386 := n1_; have HO392 := n2_; have BK383 := n3_; have HB := n4_; clear n0_ n1_ n2_ n3_ n4_; (try clear hb); (try clear hb2); (try clear hk); (try clear hi); (try clear ho0))))
    (try simp only [Act.put, sA, sZ, sS])
    go_cut [73] (fun v73 wc => ∃ (kq : Nat) (x73_14 : Bool), v73 = .bool x73_14 ∧ Aside0 (laws_FnShelves.j0 kq l0 t375 t384 t388 t389 x73_14 t378 t379 t380 t381 t382 = some r) ∧ Aside0 (kq ≤ k) ∧ Aside0 (Kd.R k78 78 wc w.heap.size (fun k_ => some k_ ≠ ((.slice Ao17 t384.length co17) : Value).ownBlock ∧ some k_ ≠ (v391 : Value).ownBlock) (.slice Ao10 t375.length co10) t375) ∧ Aside0 (Kd.R k78 78 wc w.heap.size (fun k_ => some k_ ≠ ((.slice Ao10 t375.length co10) : Value).ownBlock ∧ some k_ ≠ (v391 : Value).ownBlock) (.slice Ao17 t384.length co17) t384) ∧ Aside0 (Kd.R k78 78 wc w.heap.size (fun k_ => some k_ ≠ ((.slice Ao10 t375.length co10) : Value).ownBlock ∧ some k_ ≠ ((.slice Ao17 t384.length co17) : Value).ownBlock) v391 t389) ∧ Aside0 (wc.heap[gb383]? = some (.cells #[.int .i64 t378, .int .i64 t379, .int .i64 t380, .int .i64 t381, .int .i64 t382] 69 (0, 0))) ∧ Aside0 (Below w.heap.size w wc))
    case first =>
     have H := HC15.out
     clear HC15
     replace H := Option.bind_eq_some_iff.mp H
     obtain ⟨t393, A210, H⟩ := H
     replace H : (if t393 = true then (if t388 = 0 then (laws_FnShelves.j0 k l0 t375 t384 t388 t389 true t378 t379 t380 t381 t382) else ((impl_SmallestFree.f k t375 t381).bind fun t394 => (if t388 = t394 then ((impl_FreeSlots.f k t384).bind fun t395 => ((impl_FreeSlots.f k t375).bind fun t396 => (if t395 = (wrap64 (t396 - 1)) then (if t390 = true then ((impl_FreeSlots.f k t389).bind fun t397 => ((impl_FreeSlots.f k t375).bind fun t398 => (laws_FnShelves.j0 k l0 t375 t384 t388 t389 (t397 != t398) t378 t379 t380 t381 t382))) else (laws_FnShelves.j0 k l0 t375 t384 t388 t389 true t378 t379 t380 t381 t382)) else (laws_FnShelves.j0 k l0 t375 t384 t388 t389 true t378 t379 t380 t381 t382)))) else (laws_FnShelves.j0 k l0 t375 t384 t388 t389 true t378 t379 t380 t381 t382)))) else (laws_FnShelves.j0 k l0 t375 t384 t388 t389 true t378 t379 t380 t381 t382)) = some r := H
     have A21 := Aside0.mk A210
     clear A210
     by_cases c22 : t393 = true
     ·subst c22
      have H1 : (if t388 = 0 then (laws_FnShelves.j0 k l0 t375 t384 t388 t389 true t378 t379 t380 t381 t382) else ((impl_SmallestFree.f k t375 t381).bind fun t394 => (if t388 = t394 then ((impl_FreeSlots.f k t384).bind fun t395 => ((impl_FreeSlots.f k t375).bind fun t396 => (if t395 = (wrap64 (t396 - 1)) then (if t390 = true then ((impl_FreeSlots.f k t389).bind fun t397 => ((impl_FreeSlots.f k t375).bind fun t398 => (laws_FnShelves.j0 k l0 t375 t384 t388 t389 (t397 != t398) t378 t379 t380 t381 t382))) else (laws_FnShelves.j0 k l0 t375 t384 t388 t389 true t378 t379 t380 t381 t382)) else (laws_FnShelves.j0 k l0 t375 t384 t388 t389 true t378 t379 t380 t381 t382)))) else (laws_FnShelves.j0 k l0 t375 t384 t388 t389 true t378 t379 t380 t381 t382)))) = some r := by rw [if_pos rfl] at H; exact H
      clear H
      have H := H1
      clear H1
      by_cases c23 : t388 = 0
      ·rw [if_pos c23] at H
       have c23b0 : (t388 == 0) = true := beq_iff_eq.mpr c23
       have c23b1 : (t388 != 0) = false := bne_eq_false_iff_eq.mpr c23
       clear c23
       (first | rw [c23b0] | (simp only [i64_w, i32_w]; rw [c23b0]) | skip)
       have H' := Aside0.mk H
       clear H
       go_wp2_with (first | (go_at_call 51; (with_reducible refine (impl_AreSlots.calls k _ _ t384 true _ ?side1 ?side2 A21.out).mono ?_); (case side1 => repeat (first | exact (Kd.R_reads' HO386.out).2.2 | (with_reducible refine Kd.C_alloc ?_ _) | (with_reducible refine Kd.C_drewN ?_ _) | (with_reducible refine Kd.C_drew ?_))); (case side2 => exact (Kd.R_reads' HO386.out).2.1); rintro e w24 ⟨rfl, hb⟩; have n0_ := Aside0.mk (Kd.R_below (qR HO377) hb); have n1_ := Aside0.mk (Kd.R_below (qR HO386) hb); have n2_ := Aside0.mk (Kd.R_below (qR HO392) hb); have n3_ := Aside0.mk (blk_below (qK BK383) hb); have n4_ := Aside0.mk (below_step (by repeat first | (with_reducible first | exact HB.out | apply bA | apply bN | apply bD | refine bS ?_ GE383.out) | exact HB.out) hb); clear HO377; clear HO386; clear HO392; clear BK383; clear HB; have HO377 := n0_; have HO386 := n1_; have HO392 := n2_; have BK383 := n3_; have HB := n4_; clear n0_ n1_ n2_ n3_ n4_; (try clear hb); (try clear hb2); (try clear hk); (try clear hi)))
       repeat (go_quiet (first | (go_at_call 51; (with_reducible refine (impl_AreSlots.calls k _ _ t384 true _ ?side1 ?side2 A21.out).mono ?_); (case side1 => repeat (first | exact (Kd.R_reads' HO386.out).2.2 | (with_reducible refine Kd.C_alloc ?_ _) | (with_reducible refine Kd.C_drewN ?_ _) | (with_reducible refine Kd.C_drew ?_))); (case side2 => exact (Kd.R_reads' HO386.out).2.1); rintro e w24 ⟨rfl, hb⟩; have n0_ := Aside0.mk (Kd.R_below (qR HO377) hb); have n1_ := Aside0.mk (Kd.R_below (qR HO386) hb); have n2_ := Aside0.mk (Kd.R_below (qR HO392) hb); have n3_ := Aside0.mk (blk_below (qK BK383) hb); have n4_ := Aside0.mk (below_step (by repeat first | (with_reducible first | exact HB.out | apply bA | apply bN | apply bD | refine bS ?_ GE383.out) | exact HB.out) hb); clear HO377; clear HO386; clear HO392; clear BK383; clear HB; have HO377 := n0_; have HO386 := n1_; have HO392 := n2_; have BK383 := n3_; have HB := n4_; clear n0_ n1_ n2_ n3_ n4_; (try clear hb); (try clear hb2); (try clear hk); (try clear hi))); try go_wp2_with (first | (go_at_call 51; (with_reducible refine (impl_AreSlots.calls k _ _ t384 true _ ?side1 ?side2 A21.out).mono ?_); (case side1 => repeat (first | exact (Kd.R_reads' HO386.out).2.2 | (with_reducible refine Kd.C_alloc ?_ _) | (with_reducible refine Kd.C_drewN ?_ _) | (with_reducible refine Kd.C_drew ?_))); (case side2 => exact (Kd.R_reads' HO386.out).2.1); rintro e w24 ⟨rfl, hb⟩; have n0_ := Aside0.mk (Kd.R_below (qR HO377) hb); have n1_ := Aside0.mk (Kd.R_below (qR HO386) hb); have n2_ := Aside0.mk (Kd.R_below (qR HO392) hb); have n3_ := Aside0.mk (blk_below (qK BK383) hb); have n4_ := Aside0.mk (below_step (by repeat first | (with_reducible first | exact HB.out | apply bA | apply bN | apply bD | refine bS ?_ GE383.out) | exact HB.out) hb); clear HO377; clear HO386; clear HO392; clear BK383; clear HB; have HO377 := n0_; have HO386 := n1_; have HO392 := n2_; have BK383 := n3_; have HB := n4_; clear n0_ n1_ n2_ n3_ n4_; (try clear hb); (try clear hb2); (try clear hk); (try clear hi))))
       go_meet
       case rel => exact ⟨_, (true), (by first | rfl | (simp; done) | (simp [*]; done)), H', ⟨by first | omega | exact Nat.le_refl _⟩, ⟨by (with_reducible repeat first | apply rA | apply rN | apply rD); exact Kd.R_mono HO377.out (fun _ hk => ⟨hk.1.2, hk.2⟩)⟩, ⟨by (with_reducible repeat first | apply rA | apply rN | apply rD); exact Kd.R_mono HO386.out (fun _ hk => ⟨hk.1.2, hk.2⟩)⟩, ⟨by (with_reducible repeat first | apply rA | apply rN | apply rD); exact Kd.R_mono HO392.out (fun _ hk => ⟨hk.1.2, hk.2⟩)⟩, ⟨by (with_reducible repeat first | refine kN ?_ _ | refine kD ?_ | refine kA ?_ _); exact BK383.out⟩, ⟨by repeat (first | (with_reducible first | exact HB.out | apply bA | apply bN | apply bD | refine bS ?_ GE383.out) | exact HB.out)⟩⟩
      ·rw [if_neg c23] at H
       have c23b0 : (t388 == 0) = false := beq_eq_false_iff_ne.mpr c23
       have c23b1 : (t388 != 0) = true := bne_iff_ne.mpr c23
       (first | rw [c23b0] | (simp only [i64_w, i32_w]; rw [c23b0]) | skip)
       replace H := Option.bind_eq_some_iff.mp H
       obtain ⟨t394, A250, H⟩ := H
       replace H : (if t388 = t394 then ((impl_FreeSlots.f k t384).bind fun t395 => ((impl_FreeSlots.f k t375).bind fun t396 => (if t395 = (wrap64 (t396 - 1)) then (if t390 = true then ((impl_FreeSlots.f k t389).bind fun t397 => ((impl_FreeSlots.f k t375).bind fun t398 => (laws_FnShelves.j0 k l0 t375 t384 t388 t389 (t397 != t398) t378 t379 t380 t381 t382))) else (laws_FnShelves.j0 k l0 t375 t384 t388 t389 true t378 t379 t380 t381 t382)) else (laws_FnShelves.j0 k l0 t375 t384 t388 t389 true t378 t379 t380 t381 t382)))) else (laws_FnShelves.j0 k l0 t375 t384 t388 t389 true t378 t379 t380 t381 t382)) = some r := H
       have A25 := Aside0.mk A250
       clear A250
       by_cases c26 : t388 = t394
       ·rw [if_pos c26] at H
        have c26b0 : (t388 == t394) = true := beq_iff_eq.mpr c26
        have c26b1 : (t388 != t394) = false := bne_eq_false_iff_eq.mpr c26
        clear c26
        replace H := Option.bind_eq_some_iff.mp H
        obtain ⟨t395, A270, H⟩ := H
        replace H : ((impl_FreeSlots.f k t375).bind fun t396 => (if t395 = (wrap64 (t396 - 1)) then (if t390 = true then ((impl_FreeSlots.f k t389).bind fun t397 => ((impl_FreeSlots.f k t375).bind fun t398 => (laws_FnShelves.j0 k l0 t375 t384 t388 t389 (t397 != t398) t378 t379 t380 t381 t382))) else (laws_FnShelves.j0 k l0 t375 t384 t388 t389 true t378 t379 t380 t381 t382)) else (laws_FnShelves.j0 k l0 t375 t384 t388 t389 true t378 t379 t380 t381 t382))) = some r := H
        have A27 := Aside0.mk A270
        clear A270
        replace H := Option.bind_eq_some_iff.mp H
        obtain ⟨t396, A280, H⟩ := H
        replace H : (if t395 = (wrap64 (t396 - 1)) then (if t390 = true then ((impl_FreeSlots.f k t389).bind fun t397 => ((impl_FreeSlots.f k t375).bind fun t398 => (laws_FnShelves.j0 k l0 t375 t384 t388 t389 (t397 != t398) t378 t379 t380 t381 t382))) else (laws_FnShelves.j0 k l0 t375 t384 t388 t389 true t378 t379 t380 t381 t382)) else (laws_FnShelves.j0 k l0 t375 t384 t388 t389 true t378 t379 t380 t381 t382)) = some r := H
        have A28 := Aside0.mk A280
        clear A280
        by_cases c29 : t395 = (wrap64 (t396 - 1))
        ·rw [if_pos c29] at H
         have c29b0 : (t395 == (wrap64 (t396 - 1))) = true := beq_iff_eq.mpr c29
         have c29b1 : (t395 != (wrap64 (t396 - 1))) = false := bne_eq_false_iff_eq.mpr c29
         clear c29
         by_cases c30 : t390 = true
         ·subst c30
          have H1 : ((impl_FreeSlots.f k t389).bind fun t397 => ((impl_FreeSlots.f k t375).bind fun t398 => (laws_FnShelves.j0 k l0 t375 t384 t388 t389 (t397 != t398) t378 t379 t380 t381 t382))) = some r := by rw [if_pos rfl] at H; exact H
          clear H
          have H := H1
          clear H1
          replace H := Option.bind_eq_some_iff.mp H
          obtain ⟨t397, A310, H⟩ := H
          replace H : ((impl_FreeSlots.f k t375).bind fun t398 => (laws_FnShelves.j0 k l0 t375 t384 t388 t389 (t397 != t398) t378 t379 t380 t381 t382)) = some r := H
          have A31 := Aside0.mk A310
          clear A310
          replace H := Option.bind_eq_some_iff.mp H
          obtain ⟨t398, A320, H⟩ := H
          replace H : (laws_FnShelves.j0 k l0 t375 t384 t388 t389 (t397 != t398) t378 t379 t380 t381 t382) = some r := H
          have A32 := Aside0.mk A320
          clear A320
          have H' := Aside0.mk H
          clear H
          go_wp2_with (first | (go_at_call 51; (with_reducible refine (impl_AreSlots.calls k _ _ t384 true _ ?side1 ?side2 A21.out).mono ?_); (case side1 => repeat (first | exact (Kd.R_reads' HO386.out).2.2 | (with_reducible refine Kd.C_alloc ?_ _) | (with_reducible refine Kd.C_drewN ?_ _) | (with_reducible refine Kd.C_drew ?_))); (case side2 => exact (Kd.R_reads' HO386.out).2.1); rintro e w33 ⟨rfl, hb⟩; have n0_ := Aside0.mk (Kd.R_below (qR HO377) hb); have n1_ := Aside0.mk (Kd.R_below (qR HO386) hb); have n2_ := Aside0.mk (Kd.R_below (qR HO392) hb); have n3_ := Aside0.mk (blk_below (qK BK383) hb); have n4_ := Aside0.mk (below_step (by repeat first | (with_reducible first | exact HB.out | apply bA | apply bN | apply bD | refine bS ?_ GE383.out) | exact HB.out) hb); clear HO377; clear HO386; clear HO392; clear BK383; clear HB; have HO377 := n0_; have HO386 := n1_; have HO392 := n2_; have BK383 := n3_; have HB := n4_; clear n0_ n1_ n2_ n3_ n4_; (try clear hb); (try clear hb2); (try clear hk); (try clear hi); have hcz34_0 : w33.cell? ⟨gb383, 0, none⟩ = some (.int .i64 t378) := cC BK383 0; have hcz34_1 : w33.cell? ⟨gb383, 1, none⟩ = some (.int .i64 t379) := cC BK383 1; have hcz34_2 : w33.cell? ⟨gb383, 2, none⟩ = some (.int .i64 t380) := cC BK383 2; have hcz34_3 : w33.cell? ⟨gb383, 3, none⟩ = some (.int .i64 t381) := cC BK383 3; have hcz34_4 : w33.cell? ⟨gb383, 4, none⟩ = some (.int .i64 t382) := cC BK383 4; have hfz34_0 := blk_frozen BK383.out 0; have hfz34_1 := blk_frozen BK383.out 1; have hfz34_2 := blk_frozen BK383.out 2; have hfz34_3 := blk_frozen BK383.out 3; have hfz34_4 := blk_frozen BK383.out 4) | (go_at_call 52; (with_reducible refine (impl_SmallestFree.calls k _ _ t375 t381 t394 _ ?side1 ?side2 A25.out).mono ?_); (case side1 => repeat (first | exact (Kd.R_reads' HO377.out).2.2 | (with_reducible refine Kd.C_alloc ?_ _) | (with_reducible refine Kd.C_drewN ?_ _) | (with_reducible refine Kd.C_drew ?_))); (case side2 => exact (Kd.R_reads' HO377.out).2.1); rintro e w35 ⟨rfl, hb⟩; have n0_ := Aside0.mk (Kd.R_below (qR HO377) hb); have n1_ := Aside0.mk (Kd.R_below (qR HO386) hb); have n2_ := Aside0.mk (Kd.R_below (qR HO392) hb); have n3_ := Aside0.mk (blk_below (qK BK383) hb); have n4_ := Aside0.mk (below_step (by repeat first | (with_reducible first | exact HB.out | apply bA | apply bN | apply bD | refine bS ?_ GE383.out) | exact HB.out) hb); clear HO377; clear HO386; clear HO392; clear BK383; clear HB; have HO377 := n0_; have HO386 := n1_; have HO392 := n2_; have BK383 := n3_; have HB := n4_; clear n0_ n1_ n2_ n3_ n4_; (try clear hb); (try clear hb2); (try clear hk); (try clear hi)) | (go_at_call 53; (with_reducible refine (impl_FreeSlots.calls k _ _ t384 t395 _ ?side1 ?side2 A27.out).mono ?_); (case side1 => repeat (first | exact (Kd.R_reads' HO386.out).2.2 | (with_reducible refine Kd.C_alloc ?_ _) | (with_reducible refine Kd.C_drewN ?_ _) | (with_reducible refine Kd.C_drew ?_))); (case side2 => exact (Kd.R_reads' HO386.out).2.1); rintro e w36 ⟨rfl, hb⟩; have n0_ := Aside0.mk (Kd.R_below (qR HO377) hb); have n1_ := Aside0.mk (Kd.R_below (qR HO386) hb); have n2_ := Aside0.mk (Kd.R_below (qR HO392) hb); have n3_ := Aside0.mk (blk_below (qK BK383) hb); have n4_ := Aside0.mk (below_step (by repeat first | (with_reducible first | exact HB.out | apply bA | apply bN | apply bD | refine bS ?_ GE383.out) | exact HB.out) hb); clear HO377; clear HO386; clear HO392; clear BK383; clear HB; have HO377 := n0_; have HO386 := n1_; have HO392 := n2_; have BK383 := n3_; have HB := n4_; clear n0_ n1_ n2_ n3_ n4_; (try clear hb); (try clear hb2); (try clear hk); (try clear hi)) | (go_at_call 53; (with_reducible refine (impl_FreeSlots.calls k _ _ t375 t396 _ ?side1 ?side2 A28.out).mono ?_); (case side1 => repeat (first | exact (Kd.R_reads' HO377.out).2.2 | (with_reducible refine Kd.C_alloc ?_ _) | (with_reducible refine Kd.C_drewN ?_ _) | (with_reducible refine Kd.C_drew ?_))); (case side2 => exact (Kd.R_reads' HO377.out).2.1); rintro e w37 ⟨rfl, hb⟩; have n0_ := Aside0.mk (Kd.R_below (qR HO377) hb); have n1_ := Aside0.mk (Kd.R_below (qR HO386) hb); have n2_ := Aside0.mk (Kd.R_below (qR HO392) hb); have n3_ := Aside0.mk (blk_below (qK BK383) hb); have n4_ := Aside0.mk (below_step (by repeat first | (with_reducible first | exact HB.out | apply bA | apply bN | apply bD | refine bS ?_ GE383.out) | exact HB.out) hb); clear HO377; clear HO386; clear HO392; clear BK383; clear HB; have HO377 := n0_; have HO386 := n1_; have HO392 := n2_; have BK383 := n3_; have HB := n4_; clear n0_ n1_ n2_ n3_ n4_; (try clear hb); (try clear hb2); (try clear hk); (try clear hi); obtain ⟨Ao38, co38, eo38⟩ := Kd.R_slice HO392.out; subst eo38) | (go_at_call 53; (with_reducible refine (impl_FreeSlots.calls k _ _ t389 t397 _ ?side1 ?side2 A31.out).mono ?_); (case side1 => repeat (first | exact (Kd.R_reads' HO392.out).2.2 | (with_reducible refine Kd.C_alloc ?_ _) | (with_reducible refine Kd.C_drewN ?_ _) | (with_reducible refine Kd.C_drew ?_))); (case side2 => exact (Kd.R_reads' HO392.out).2.1); rintro e w39 ⟨rfl, hb⟩; have n0_ := Aside0.mk (Kd.R_below (qR HO377) hb); have n1_ := Aside0.mk (Kd.R_below (qR HO386) hb); have n2_ := Aside0.mk (Kd.R_below (qR HO392) hb); have n3_ := Aside0.mk (blk_below (qK BK383) hb); have n4_ := Aside0.mk (below_step (by repeat first | (with_reducible first | exact HB.out | apply bA | apply bN | apply bD | refine bS ?_ GE383.out) | exact HB.out) hb); clear HO377; clear HO386; clear HO392; clear BK383; clear HB; have HO377 := n0_; have HO386 := n1_; have HO392 := n2_; have BK383 := n3_; have HB := n4_; clear n0_ n1_ n2_ n3_ n4_; (try clear hb); (try clear hb2); (try clear hk); (try clear hi)) | (go_at_call 53; (with_reducible refine (impl_FreeSlots.calls k _ _ t375 t398 _ ?side1 ?side2 A32.out).mono ?_); (case side1 => repeat (first | exact (Kd.R_reads' HO377.out).2.2 | (with_reducible refine Kd.C_alloc ?_ _) | (with_reducible refine Kd.C_drewN ?_ _) | (with_reducible refine Kd.C_drew ?_))); (case side2 => exact (Kd.R_reads' HO377.out).2.1); rintro e w40 ⟨rfl, hb⟩; have n0_ := Aside0.mk (Kd.R_below (qR HO377) hb); have n1_ := Aside0.mk (Kd.R_below (qR HO386) hb); have n2_ := Aside0.mk (Kd.R_below (qR HO392) hb); have n3_ := Aside0.mk (blk_below (qK BK383) hb); have n4_ := Aside0.mk (below_step (by repeat first | (with_reducible first | exact HB.out | apply bA | apply bN | apply bD | refine bS ?_ GE383.out) | exact HB.out) hb); clear HO377; clear HO386; clear HO392; clear BK383; clear HB; have HO377 := n0_; have HO386 := n1_; have HO392 := n2_; have BK383 := n3_; have HB := n4_; clear n0_ n1_ n2_ n3_ n4_; (try clear hb); (try clear hb2); (try clear hk); (try clear hi)))
          repeat (go_quiet (first | (go_at_call 51; (with_reducible refine (impl_AreSlots.calls k _ _ t384 true _ ?side1 ?side2 A21.out).mono ?_); (case side1 => repeat (first | exact (Kd.R_reads' HO386.out).2.2 | (with_reducible refine Kd.C_alloc ?_ _) | (with_reducible refine Kd.C_drewN ?_ _) | (with_reducible refine Kd.C_drew ?_))); (case side2 => exact (Kd.R_reads' HO386.out).2.1); rintro e w33 ⟨rfl, hb⟩; have n0_ := Aside0.mk (Kd.R_below (qR HO377) hb); have n1_ := Aside0.mk (Kd.R_below (qR HO386) hb); have n2_ := Aside0.mk (Kd.R_below (qR HO392) hb); have n3_ := Aside0.mk (blk_below (qK BK383) hb); have n4_ := Aside0.mk (below_step (by repeat first | (with_reducible first | exact HB.out | apply bA | apply bN | apply bD | refine bS ?_ GE383.out) | exact HB.out) hb); clear HO377; clear HO386; clear HO392; clear BK383; clear HB; have HO377 := n0_; have HO386 := n1_; have HO392 := n2_; have BK383 := n3_; have HB := n4_; clear n0_ n1_ n2_ n3_ n4_; (try clear hb); (try clear hb2); (try clear hk); (try clear hi); have hcz34_0 : w33.cell? ⟨gb383, 0, none⟩ = some (.int .i64 t378) := cC BK383 0; have hcz34_1 : w33.cell? ⟨gb383, 1, none⟩ = some (.int .i64 t379) := cC BK383 1; have hcz34_2 : w33.cell? ⟨gb383, 2, none⟩ = some (.int .i64 t380) := cC BK383 2; have hcz34_3 : w33.cell? ⟨gb383, 3, none⟩ = some (.int .i64 t381) := cC BK383 3; have hcz34_4 : w33.cell? ⟨gb383, 4, none⟩ = some (.int .i64 t382) := cC BK383 4; have hfz34_0 := blk_frozen BK383.out 0; have hfz34_1 := blk_frozen BK383.out 1; have hfz34_2 := blk_frozen BK383.out 2; have hfz34_3 := blk_frozen BK383.out 3; have hfz34_4 := blk_frozen BK383.out 4) | (go_at_call 52; (with_reducible refine (impl_SmallestFree.calls k _ _ t375 t381 t394 _ ?side1 ?side2 A25.out).mono ?_); (case side1 => repeat (first | exact (Kd.R_reads' HO377.out).2.2 | (with_reducible refine Kd.C_alloc ?_ _) | (with_reducible refine Kd.C_drewN ?_ _) | (with_reducible refine Kd.C_drew ?_))); (case side2 => exact (Kd.R_reads' HO377.out).2.1); rintro e w35 ⟨rfl, hb⟩; have n0_ := Aside0.mk (Kd.R_below (qR HO377) hb); have n1_ := Aside0.mk (Kd.R_below (qR HO386) hb); have n2_ := Aside0.mk (Kd.R_below (qR HO392) hb); have n3_ := Aside0.mk (blk_below (qK BK383) hb); have n4_ := Aside0.mk (below_step (by repeat first | (with_reducible first | exact HB.out | apply bA | apply bN | apply bD | refine bS ?_ GE383.out) | exact HB.out) hb); clear HO377; clear HO386; clear HO392; clear BK383; clear HB; have HO377 := n0_; have HO386 := n1_; have HO392 := n2_; have BK383 := n3_; have HB := n4_; clear n0_ n1_ n2_ n3_ n4_; (try clear hb); (try clear hb2); (try clear hk); (try clear hi)) | (go_at_call 53; (with_reducible refine (impl_FreeSlots.calls k _ _ t384 t395 _ ?side1 ?side2 A27.out).mono ?_); (case side1 => repeat (first | exact (Kd.R_reads' HO386.out).2.2 | (with_reducible refine Kd.C_alloc ?_ _) | (with_reducible refine Kd.C_drewN ?_ _) | (with_reducible refine Kd.C_drew ?_))); (case side2 => exact (Kd.R_reads' HO386.out).2.1); rintro e w36 ⟨rfl, hb⟩; have n0_ := Aside0.mk (Kd.R_below (qR HO377) hb); have n1_ := Aside0.mk (Kd.R_below (qR HO386) hb); have n2_ := Aside0.mk (Kd.R_below (qR HO392) hb); have n3_ := Aside0.mk (blk_below (qK BK383) hb); have n4_ := Aside0.mk (below_step (by repeat first | (with_reducible first | exact HB.out | apply bA | apply bN | apply bD | refine bS ?_ GE383.out) | exact HB.out) hb); clear HO377; clear HO386; clear HO392; clear BK383; clear HB; have HO377 := n0_; have HO386 := n1_; have HO392 := n2_; have BK383 := n3_; have HB := n4_; clear n0_ n1_ n2_ n3_ n4_; (try clear hb); (try clear hb2); (try clear hk); (try clear hi)) | (go_at_call 53; (with_reducible refine (impl_FreeSlots.calls k _ _ t375 t396 _ ?side1 ?side2 A28.out).mono ?_); (case side1 => repeat (first | exact (Kd.R_reads' HO377.out).2.2 | (with_reducible refine Kd.C_alloc ?_ _) | (with_reducible refine Kd.C_drewN ?_ _) | (with_reducible refine Kd.C_drew ?_))); (case side2 => exact (Kd.R_reads' HO377.out).2.1); rintro e w37 ⟨rfl, hb⟩; have n0_ := Aside0.mk (Kd.R_below (qR HO377) hb); have n1_ := Aside0.mk (Kd.R_below (qR HO386) hb); have n2_ := Aside0.mk (Kd.R_below (qR HO392) hb); have n3_ := Aside0.mk (blk_below (qK BK383) hb); have n4_ := Aside0.mk (below_step (by repeat first | (with_reducible first | exact HB.out | apply bA | apply bN | apply bD | refine bS ?_ GE383.out) | exact HB.out) hb); clear HO377; clear HO386; clear HO392; clear BK383; clear HB; have HO377 := n0_; have HO386 := n1_; have HO392 := n2_; have BK383 := n3_; have HB := n4_; clear n0_ n1_ n2_ n3_ n4_; (try clear hb); (try clear hb2); (try clear hk); (try clear hi); obtain ⟨Ao38, co38, eo38⟩ := Kd.R_slice HO392.out; subst eo38) | (go_at_call 53; (with_reducible refine (impl_FreeSlots.calls k _ _ t389 t397 _ ?side1 ?side2 A31.out).mono ?_); (case side1 => repeat (first | exact (Kd.R_reads' HO392.out).2.2 | (with_reducible refine Kd.C_alloc ?_ _) | (with_reducible refine Kd.C_drewN ?_ _) | (with_reducible refine Kd.C_drew ?_))); (case side2 => exact (Kd.R_reads' HO392.out).2.1); rintro e w39 ⟨rfl, hb⟩; have n0_ := Aside0.mk (Kd.R_below (qR HO377) hb); have n1_ := Aside0.mk (Kd.R_below (qR HO386) hb); have n2_ := Aside0.mk (Kd.R_below (qR HO392) hb); have n3_ := Aside0.mk (blk_below (qK BK383) hb); have n4_ := Aside0.mk (below_step (by repeat first | (with_reducible first | exact HB.out | apply bA | apply bN | apply bD | refine bS ?_ GE383.out) | exact HB.out) hb); clear HO377; clear HO386; clear HO392; clear BK383; clear HB; have HO377 := n0_; have HO386 := n1_; have HO392 := n2_; have BK383 := n3_; have HB := n4_; clear n0_ n1_ n2_ n3_ n4_; (try clear hb); (try clear hb2); (try clear hk); (try clear hi)) | (go_at_call 53; (with_reducible refine (impl_FreeSlots.calls k _ _ t375 t398 _ ?side1 ?side2 A32.out).mono ?_); (case side1 => repeat (first | exact (Kd.R_reads' HO377.out).2.2 | (with_reducible refine Kd.C_alloc ?_ _) | (with_reducible refine Kd.C_drewN ?_ _) | (with_reducible refine Kd.C_drew ?_))); (case side2 => exact (Kd.R_reads' HO377.out).2.1); rintro e w40 ⟨rfl, hb⟩; have n0_ := Aside0.mk (Kd.R_below (qR HO377) hb); have n1_ := Aside0.mk (Kd.R_below (qR HO386) hb); have n2_ := Aside0.mk (Kd.R_below (qR HO392) hb); have n3_ := Aside0.mk (blk_below (qK BK383) hb); have n4_ := Aside0.mk (below_step (by repeat first | (with_reducible first | exact HB.out | apply bA | apply bN | apply bD | refine bS ?_ GE383.out) | exact HB.out) hb); clear HO377; clear HO386; clear HO392; clear BK383; clear HB; have HO377 := n0_; have HO386 := n1_; have HO392 := n2_; have BK383 := n3_; have HB := n4_; clear n0_ n1_ n2_ n3_ n4_; (try clear hb); (try clear hb2); (try clear hk); (try clear hi))); try go_wp2_with (first | (go_at_call 51; (with_reducible refine (impl_AreSlots.calls k _ _ t384 true _ ?side1 ?side2 A21.out).mono ?_); (case side1 => repeat (first | exact (Kd.R_reads' HO386.out).2.2 | (with_reducible refine Kd.C_alloc ?_ _) | (with_reducible refine Kd.C_drewN ?_ _) | (with_reducible refine Kd.C_drew ?_))); (case side2 => exact (Kd.R_reads' HO386.out).2.1); rintro e w33 ⟨rfl, hb⟩; have n0_ := Aside0.mk (Kd.R_below (qR HO377) hb); have n1_ := Aside0.mk (Kd.R_below (qR HO386) hb); have n2_ := Aside0.mk (Kd.R_below (qR HO392) hb); have n3_ := Aside0.mk (blk_below (qK BK383) hb); have n4_ := Aside0.mk (below_step (by repeat first | (with_reducible first | exact HB.out | apply bA | apply bN | apply bD | refine bS ?_ GE383.out) | exact HB.out) hb); clear HO377; clear HO386; clear HO392; clear BK383; clear HB; have HO377 := n0_; have HO386 := n1_; have HO392 := n2_; have BK383 := n3_; have HB := n4_; clear n0_ n1_ n2_ n3_ n4_; (try clear hb); (try clear hb2); (try clear hk); (try clear hi); have hcz34_0 : w33.cell? ⟨gb383, 0, none⟩ = some (.int .i64 t378) := cC BK383 0; have hcz34_1 : w33.cell? ⟨gb383, 1, none⟩ = some (.int .i64 t379) := cC BK383 1; have hcz34_2 : w33.cell? ⟨gb383, 2, none⟩ = some (.int .i64 t380) := cC BK383 2; have hcz34_3 : w33.cell? ⟨gb383, 3, none⟩ = some (.int .i64 t381) := cC BK383 3; have hcz34_4 : w33.cell? ⟨gb383, 4, none⟩ = some (.int .i64 t382) := cC BK383 4; have hfz34_0 := blk_frozen BK383.out 0; have hfz34_1 := blk_frozen BK383.out 1; have hfz34_2 := blk_frozen BK383.out 2; have hfz34_3 := blk_frozen BK383.out 3; have hfz34_4 := blk_frozen BK383.out 4) | (go_at_call 52; (with_reducible refine (impl_SmallestFree.calls k _ _ t375 t381 t394 _ ?side1 ?side2 A25.out).mono ?_); (case side1 => repeat (first | exact (Kd.R_reads' HO377.out).2.2 | (with_reducible refine Kd.C_alloc ?_ _) | (with_reducible refine Kd.C_drewN ?_ _) | (with_reducible refine Kd.C_drew ?_))); (case side2 => exact (Kd.R_reads' HO377.out).2.1); rintro e w35 ⟨rfl, hb⟩; have n0_ := Aside0.mk (Kd.R_below (qR HO377) hb); have n1_ := Aside0.mk (Kd.R_below (qR HO386) hb); have n2_ := Aside0.mk (Kd.R_below (qR HO392) hb); have n3_ := Aside0.mk (blk_below (qK BK383) hb); have n4_ := Aside0.mk (below_step (by repeat first | (with_reducible first | exact HB.out | apply bA | apply bN | apply bD | refine bS ?_ GE383.out) | exact HB.out) hb); clear HO377; clear HO386; clear HO392; clear BK383; clear HB; have HO377 := n0_; have HO386 := n1_; have HO392 := n2_; have BK383 := n3_; have HB := n4_; clear n0_ n1_ n2_ n3_ n4_; (try clear hb); (try clear hb2); (try clear hk); (try clear hi)) | (go_at_call 53; (with_reducible refine (impl_FreeSlots.calls k _ _ t384 t395 _ ?side1 ?side2 A27.out).mono ?_); (case side1 => repeat (first | exact (Kd.R_reads' HO386.out).2.2 | (with_reducible refine Kd.C_alloc ?_ _) | (with_reducible refine Kd.C_drewN ?_ _) | (with_reducible refine Kd.C_drew ?_))); (case side2 => exact (Kd.R_reads' HO386.out).2.1); rintro e w36 ⟨rfl, hb⟩; have n0_ := Aside0.mk (Kd.R_below (qR HO377) hb); have n1_ := Aside0.mk (Kd.R_below (qR HO386) hb); have n2_ := Aside0.mk (Kd.R_below (qR HO392) hb); have n3_ := Aside0.mk (blk_below (qK BK383) hb); have n4_ := Aside0.mk (below_step (by repeat first | (with_reducible first | exact HB.out | apply bA | apply bN | apply bD | refine bS ?_ GE383.out) | exact HB.out) hb); clear HO377; clear HO386; clear HO392; clear BK383; clear HB; have HO377 := n0_; have HO386 := n1_; have HO392 := n2_; have BK383 := n3_; have HB := n4_; clear n0_ n1_ n2_ n3_ n4_; (try clear hb); (try clear hb2); (try clear hk); (try clear hi)) | (go_at_call 53; (with_reducible refine (impl_FreeSlots.calls k _ _ t375 t396 _ ?side1 ?side2 A28.out).mono ?_); (case side1 => repeat (first | exact (Kd.R_reads' HO377.out).2.2 | (with_reducible refine Kd.C_alloc ?_ _) | (with_reducible refine Kd.C_drewN ?_ _) | (with_reducible refine Kd.C_drew ?_))); (case side2 => exact (Kd.R_reads' HO377.out).2.1); rintro e w37 ⟨rfl, hb⟩; have n0_ := Aside0.mk (Kd.R_below (qR HO377) hb); have n1_ := Aside0.mk (Kd.R_below (qR HO386) hb); have n2_ := Aside0.mk (Kd.R_below (qR HO392) hb); have n3_ := Aside0.mk (blk_below (qK BK383) hb); have n4_ := Aside0.mk (below_step (by repeat first | (with_reducible first | exact HB.out | apply bA | apply bN | apply bD | refine bS ?_ GE383.out) | exact HB.out) hb); clear HO377; clear HO386; clear HO392; clear BK383; clear HB; have HO377 := n0_; have HO386 := n1_; have HO392 := n2_; have BK383 := n3_; have HB := n4_; clear n0_ n1_ n2_ n3_ n4_; (try clear hb); (try clear hb2); (try clear hk); (try clear hi); obtain ⟨Ao38, co38, eo38⟩ := Kd.R_slice HO392.out; subst eo38) | (go_at_call 53; (with_reducible refine (impl_FreeSlots.calls k _ _ t389 t397 _ ?side1 ?side2 A31.out).mono ?_); (case side1 => repeat (first | exact (Kd.R_reads' HO392.out).2.2 | (with_reducible refine Kd.C_alloc ?_ _) | (with_reducible refine Kd.C_drewN ?_ _) | (with_reducible refine Kd.C_drew ?_))); (case side2 => exact (Kd.R_reads' HO392.out).2.1); rintro e w39 ⟨rfl, hb⟩; have n0_ := Aside0.mk (Kd.R_below (qR HO377) hb); have n1_ := Aside0.mk (Kd.R_below (qR HO386) hb); have n2_ := Aside0.mk (Kd.R_below (qR HO392) hb); have n3_ := Aside0.mk (blk_below (qK BK383) hb); have n4_ := Aside0.mk (below_step (by repeat first | (with_reducible first | exact HB.out | apply bA | apply bN | apply bD | refine bS ?_ GE383.out) | exact HB.out) hb); clear HO377; clear HO386; clear HO392; clear BK383; clear HB; have HO377 := n0_; have HO386 := n1_; have HO392 := n2_; have BK383 := n3_; have HB := n4_; clear n0_ n1_ n2_ n3_ n4_; (try clear hb); (try clear hb2); (try clear hk); (try clear hi)) | (go_at_call 53; (with_reducible refine (impl_FreeSlots.calls k _ _ t375 t398 _ ?side1 ?side2 A32.out).mono ?_); (case side1 => repeat (first | exact (Kd.R_reads' HO377.out).2.2 | (with_reducible refine Kd.C_alloc ?_ _) | (with_reducible refine Kd.C_drewN ?_ _) | (with_reducible refine Kd.C_drew ?_))); (case side2 => exact (Kd.R_reads' HO377.out).2.1); rintro e w40 ⟨rfl, hb⟩; have n0_ := Aside0.mk (Kd.R_below (qR HO377) hb); have n1_ := Aside0.mk (Kd.R_below (qR HO386) hb); have n2_ := Aside0.mk (Kd.R_below (qR HO392) hb); have n3_ := Aside0.mk (blk_below (qK BK383) hb); have n4_ := Aside0.mk (below_step (by repeat first | (with_reducible first | exact HB.out | apply bA | apply bN | apply bD | refine bS ?_ GE383.out) | exact HB.out) hb); clear HO377; clear HO386; clear HO392; clear BK383; clear HB; have HO377 := n0_; have HO386 := n1_; have HO392 := n2_; have BK383 := n3_; have HB := n4_; clear n0_ n1_ n2_ n3_ n4_; (try clear hb); (try clear hb2); (try clear hk); (try clear hi))))
          go_meet
          case rel => exact ⟨_, ((t397 != t398)), (by first | rfl | (simp; done) | (simp [*]; done)), H', ⟨by first | omega | exact Nat.le_refl _⟩, ⟨by (with_reducible repeat first | apply rA | apply rN | apply rD); exact Kd.R_mono HO377.out (fun _ hk => ⟨hk.1.2, hk.2⟩)⟩, ⟨by (with_reducible repeat first | apply rA | apply rN | apply rD); exact Kd.R_mono HO386.out (fun _ hk => ⟨hk.1.2, hk.2⟩)⟩, ⟨by (with_reducible repeat first | apply rA | apply rN | apply rD); exact Kd.R_mono HO392.out (fun _ hk => ⟨hk.1.2, hk.2⟩)⟩, ⟨by (with_reducible repeat first | refine kN ?_ _ | refine kD ?_ | refine kA ?_ _); exact BK383.out⟩, ⟨by repeat (first | (with_reducible first | exact HB.out | apply bA | apply bN | apply bD | refine bS ?_ GE383.out) | exact HB.out)⟩⟩
         ·replace c30 := Bool.eq_false_iff.mpr c30
          subst c30
          have H1 : (laws_FnShelves.j0 k l0 t375 t384 t388 t389 true t378 t379 t380 t381 t382) = some r := by rw [if_neg (show ¬ (false = true) by decide)] at H; exact H
          clear H
          have H := H1
          clear H1
          have H' := Aside0.mk H
          clear H
          go_wp2_with (first | (go_at_call 51; (with_reducible refine (impl_AreSlots.calls k _ _ t384 true _ ?side1 ?side2 A21.out).mono ?_); (case side1 => repeat (first | exact (Kd.R_reads' HO386.out).2.2 | (with_reducible refine Kd.C_alloc ?_ _) | (with_reducible refine Kd.C_drewN ?_ _) | (with_reducible refine Kd.C_drew ?_))); (case side2 => exact (Kd.R_reads' HO386.out).2.1); rintro e w41 ⟨rfl, hb⟩; have n0_ := Aside0.mk (Kd.R_below (qR HO377) hb); have n1_ := Aside0.mk (Kd.R_below (qR HO386) hb); have n2_ := Aside0.mk (Kd.R_below (qR HO392) hb); have n3_ := Aside0.mk (blk_below (qK BK383) hb); have n4_ := Aside0.mk (below_step (by repeat first | (with_reducible first | exact HB.out | apply bA | apply bN | apply bD | refine bS ?_ GE383.out) | exact HB.out) hb); clear HO377; clear HO386; clear HO392; clear BK383; clear HB; have HO377 := n0_; have HO386 := n1_; have HO392 := n2_; have BK383 := n3_; have HB := n4_; clear n0_ n1_ n2_ n3_ n4_; (try clear hb); (try clear hb2); (try clear hk); (try clear hi); have hcz42_0 : w41.cell? ⟨gb383, 0, none⟩ = some (.int .i64 t378) := cC BK383 0; have hcz42_1 : w41.cell? ⟨gb383, 1, none⟩ = some (.int .i64 t379) := cC BK383 1; have hcz42_2 : w41.cell? ⟨gb383, 2, none⟩ = some (.int .i64 t380) := cC BK383 2; have hcz42_3 : w41.cell? ⟨gb383, 3, none⟩ = some (.int .i64 t381) := cC BK383 3; have hcz42_4 : w41.cell? ⟨gb383, 4, none⟩ = some (.int .i64 t382) := cC BK383 4; have hfz42_0 := blk_frozen BK383.out 0; have hfz42_1 := blk_frozen BK383.out 1; have hfz42_2 := blk_frozen BK383.out 2; have hfz42_3 := blk_frozen BK383.out 3; have hfz42_4 := blk_frozen BK383.out 4) | (go_at_call 52; (with_reducible refine (impl_SmallestFree.calls k _ _ t375 t381 t394 _ ?side1 ?side2 A25.out).mono ?_); (case side1 => repeat (first | exact (Kd.R_reads' HO377.out).2.2 | (with_reducible refine Kd.C_alloc ?_ _) | (with_reducible refine Kd.C_drewN ?_ _) | (with_reducible refine Kd.C_drew ?_))); (case side2 => exact (Kd.R_reads' HO377.out).2.1); rintro e w43 ⟨rfl, hb⟩; have n0_ := Aside0.mk (Kd.R_below (qR HO377) hb); have n1_ := Aside0.mk (Kd.R_below (qR HO386) hb); have n2_ := Aside0.mk (Kd.R_below (qR HO392) hb); have n3_ := Aside0.mk (blk_below (qK BK383) hb); have n4_ := Aside0.mk (below_step (by repeat first | (with_reducible first | exact HB.out | apply bA | apply bN | apply bD | refine bS ?_ GE383.out) | exact HB.out) hb); clear HO377; clear HO386; clear HO392; clear BK383; clear HB; have HO377 := n0_; have HO386 := n1_; have HO392 := n2_; have BK383 := n3_; have HB := n4_; clear n0_ n1_ n2_ n3_ n4_; (try clear hb); (try clear hb2); (try clear hk); (try clear hi)) | (go_at_call 53; (with_reducible refine (impl_FreeSlots.calls k _ _ t384 t395 _ ?side1 ?side2 A27.out).mono ?_); (case side1 => repeat (first | exact (Kd.R_reads' HO386.out).2.2 | (with_reducible refine Kd.C_alloc ?_ _) | (with_reducible refine Kd.C_drewN ?_ _) | (with_reducible refine Kd.C_drew ?_))); (case side2 => exact (Kd.R_reads' HO386.out).2.1); rintro e w44 ⟨rfl, hb⟩; have n0_ := Aside0.mk (Kd.R_below (qR HO377) hb); have n1_ := Aside0.mk (Kd.R_below (qR HO386) hb); have n2_ := Aside0.mk (Kd.R_below (qR HO392) hb); have n3_ := Aside0.mk (blk_below (qK BK383) hb); have n4_ := Aside0.mk (below_step (by repeat first | (with_reducible first | exact HB.out | apply bA | apply bN | apply bD | refine bS ?_ GE383.out) | exact HB.out) hb); clear HO377; clear HO386; clear HO392; clear BK383; clear HB; have HO377 := n0_; have HO386 := n1_; have HO392 := n2_; have BK383 := n3_; have HB := n4_; clear n0_ n1_ n2_ n3_ n4_; (try clear hb); (try clear hb2); (try clear hk); (try clear hi)) | (go_at_call 53; (with_reducible refine (impl_FreeSlots.calls k _ _ t375 t396 _ ?side1 ?side2 A28.out).mono ?_); (case side1 => repeat (first | exact (Kd.R_reads' HO377.out).2.2 | (with_reducible refine Kd.C_alloc ?_ _) | (with_reducible refine Kd.C_drewN ?_ _) | (with_reducible refine Kd.C_drew ?_))); (case side2 => exact (Kd.R_reads' HO377.out).2.1); rintro e w45 ⟨rfl, hb⟩; have n0_ := Aside0.mk (Kd.R_below (qR HO377) hb); have n1_ := Aside0.mk (Kd.R_below (qR HO386) hb); have n2_ := Aside0.mk (Kd.R_below (qR HO392) hb); have n3_ := Aside0.mk (blk_below (qK BK383) hb); have n4_ := Aside0.mk (below_step (by repeat first | (with_reducible first | exact HB.out | apply bA | apply bN | apply bD | refine bS ?_ GE383.out) | exact HB.out) hb); clear HO377; clear HO386; clear HO392; clear BK383; clear HB; have HO377 := n0_; have HO386 := n1_; have HO392 := n2_; have BK383 := n3_; have HB := n4_; clear n0_ n1_ n2_ n3_ n4_; (try clear hb); (try clear hb2); (try clear hk); (try clear hi)))
          repeat (go_quiet (first | (go_at_call 51; (with_reducible refine (impl_AreSlots.calls k _ _ t384 true _ ?side1 ?side2 A21.out).mono ?_); (case side1 => repeat (first | exact (Kd.R_reads' HO386.out).2.2 | (with_reducible refine Kd.C_alloc ?_ _) | (with_reducible refine Kd.C_drewN ?_ _) | (with_reducible refine Kd.C_drew ?_))); (case side2 => exact (Kd.R_reads' HO386.out).2.1); rintro e w41 ⟨rfl, hb⟩; have n0_ := Aside0.mk (Kd.R_below (qR HO377) hb); have n1_ := Aside0.mk (Kd.R_below (qR HO386) hb); have n2_ := Aside0.mk (Kd.R_below (qR HO392) hb); have n3_ := Aside0.mk (blk_below (qK BK383) hb); have n4_ := Aside0.mk (below_step (by repeat first | (with_reducible first | exact HB.out | apply bA | apply bN | apply bD | refine bS ?_ GE383.out) | exact HB.out) hb); clear HO377; clear HO386; clear HO392; clear BK383; clear HB; have HO377 := n0_; have HO386 := n1_; have HO392 := n2_; have BK383 := n3_; have HB := n4_; clear n0_ n1_ n2_ n3_ n4_; (try clear hb); (try clear hb2); (try clear hk); (try clear hi); have hcz42_0 : w41.cell? ⟨gb383, 0, none⟩ = some (.int .i64 t378) := cC BK383 0; have hcz42_1 : w41.cell? ⟨gb383, 1, none⟩ = some (.int .i64 t379) := cC BK383 1; have hcz42_2 : w41.cell? ⟨gb383, 2, none⟩ = some (.int .i64 t380) := cC BK383 2; have hcz42_3 : w41.cell? ⟨gb383, 3, none⟩ = some (.int .i64 t381) := cC BK383 3; have hcz42_4 : w41.cell? ⟨gb383, 4, none⟩ = some (.int .i64 t382) := cC BK383 4; have hfz42_0 := blk_frozen BK383.out 0; have hfz42_1 := blk_frozen BK383.out 1; have hfz42_2 := blk_frozen BK383.out 2; have hfz42_3 := blk_frozen BK383.out 3; have hfz42_4 := blk_frozen BK383.out 4) | (go_at_call 52; (with_reducible refine (impl_SmallestFree.calls k _ _ t375 t381 t394 _ ?side1 ?side2 A25.out).mono ?_); (case side1 => repeat (first | exact (Kd.R_reads' HO377.out).2.2 | (with_reducible refine Kd.C_alloc ?_ _) | (with_reducible refine Kd.C_drewN ?_ _) | (with_reducible refine Kd.C_drew ?_))); (case side2 => exact (Kd.R_reads' HO377.out).2.1); rintro e w43 ⟨rfl, hb⟩; have n0_ := Aside0.mk (Kd.R_below (qR HO377) hb); have n1_ := Aside0.mk (Kd.R_below (qR HO386) hb); have n2_ := Aside0.mk (Kd.R_below (qR HO392) hb); have n3_ := Aside0.mk (blk_below (qK BK383) hb); have n4_ := Aside0.mk (below_step (by repeat first | (with_reducible first | exact HB.out | apply bA | apply bN | apply bD | refine bS ?_ GE383.out) | exact HB.out) hb); clear HO377; clear HO386; clear HO392; clear BK383; clear HB; have HO377 := n0_; have HO386 := n1_; have HO392 := n2_; have BK383 := n3_; have HB := n4_; clear n0_ n1_ n2_ n3_ n4_; (try clear hb); (try clear hb2); (try clear hk); (try clear hi)) | (go_at_call 53; (with_reducible refine (impl_FreeSlots.calls k _ _ t384 t395 _ ?side1 ?side2 A27.out).mono ?_); (case side1 => repeat (first | exact (Kd.R_reads' HO386.out).2.2 | (with_reducible refine Kd.C_alloc ?_ _) | (with_reducible refine Kd.C_drewN ?_ _) | (with_reducible refine Kd.C_drew ?_))); (case side2 => exact (Kd.R_reads' HO386.out).2.1); rintro e w44 ⟨rfl, hb⟩; have n0_ := Aside0.mk (Kd.R_below (qR HO377) hb); have n1_ := Aside0.mk (Kd.R_below (qR HO386) hb); have n2_ := Aside0.mk (Kd.R_below (qR HO392) hb); have n3_ := Aside0.mk (blk_below (qK BK383) hb); have n4_ := Aside0.mk (below_step (by repeat first | (with_reducible first | exact HB.out | apply bA | apply bN | apply bD | refine bS ?_ GE383.out) | exact HB.out) hb); clear HO377; clear HO386; clear HO392; clear BK383; clear HB; have HO377 := n0_; have HO386 := n1_; have HO392 := n2_; have BK383 := n3_; have HB := n4_; clear n0_ n1_ n2_ n3_ n4_; (try clear hb); (try clear hb2); (try clear hk); (try clear hi)) | (go_at_call 53; (with_reducible refine (impl_FreeSlots.calls k _ _ t375 t396 _ ?side1 ?side2 A28.out).mono ?_); (case side1 => repeat (first | exact (Kd.R_reads' HO377.out).2.2 | (with_reducible refine Kd.C_alloc ?_ _) | (with_reducible refine Kd.C_drewN ?_ _) | (with_reducible refine Kd.C_drew ?_))); (case side2 => exact (Kd.R_reads' HO377.out).2.1); rintro e w45 ⟨rfl, hb⟩; have n0_ := Aside0.mk (Kd.R_below (qR HO377) hb); have n1_ := Aside0.mk (Kd.R_below (qR HO386) hb); have n2_ := Aside0.mk (Kd.R_below (qR HO392) hb); have n3_ := Aside0.mk (blk_below (qK BK383) hb); have n4_ := Aside0.mk (below_step (by repeat first | (with_reducible first | exact HB.out | apply bA | apply bN | apply bD | refine bS ?_ GE383.out) | exact HB.out) hb); clear HO377; clear HO386; clear HO392; clear BK383; clear HB; have HO377 := n0_; have HO386 := n1_; have HO392 := n2_; have BK383 := n3_; have HB := n4_; clear n0_ n1_ n2_ n3_ n4_; (try clear hb); (try clear hb2); (try clear hk); (try clear hi))); try go_wp2_with (first | (go_at_call 51; (with_reducible refine (impl_AreSlots.calls k _ _ t384 true _ ?side1 ?side2 A21.out).mono ?_); (case side1 => repeat (first | exact (Kd.R_reads' HO386.out).2.2 | (with_reducible refine Kd.C_alloc ?_ _) | (with_reducible refine Kd.C_drewN ?_ _) | (with_reducible refine Kd.C_drew ?_))); (case side2 => exact (Kd.R_reads' HO386.out).2.1); rintro e w41 ⟨rfl, hb⟩; have n0_ := Aside0.mk (Kd.R_below (qR HO377) hb); have n1_ := Aside0.mk (Kd.R_below (qR HO386) hb); have n2_ := Aside0.mk (Kd.R_below (qR HO392) hb); have n3_ := Aside0.mk (blk_below (qK BK383) hb); have n4_ := Aside0.mk (below_step (by repeat first | (with_reducible first | exact HB.out | apply bA | apply bN | apply bD | refine bS ?_ GE383.out) | exact HB.out) hb); clear HO377; clear HO386; clear HO392; clear BK383; clear HB; have HO377 := n0_; have HO386 := n1_; have HO392 := n2_; have BK383 := n3_; have HB := n4_; clear n0_ n1_ n2_ n3_ n4_; (try clear hb); (try clear hb2); (try clear hk); (try clear hi); have hcz42_0 : w41.cell? ⟨gb383, 0, none⟩ = some (.int .i64 t378) := cC BK383 0; have hcz42_1 : w41.cell? ⟨gb383, 1, none⟩ = some (.int .i64 t379) := cC BK383 1; have hcz42_2 : w41.cell? ⟨gb383, 2, none⟩ = some (.int .i64 t380) := cC BK383 2; have hcz42_3 : w41.cell? ⟨gb383, 3, none⟩ = some (.int .i64 t381) := cC BK383 3; have hcz42_4 : w41.cell? ⟨gb383, 4, none⟩ = some (.int .i64 t382) := cC BK383 4; have hfz42_0 := blk_frozen BK383.out 0; have hfz42_1 := blk_frozen BK383.out 1; have hfz42_2 := blk_frozen BK383.out 2; have hfz42_3 := blk_frozen BK383.out 3; have hfz42_4 := blk_frozen BK383.out 4) | (go_at_call 52; (with_reducible refine (impl_SmallestFree.calls k _ _ t375 t381 t394 _ ?side1 ?side2 A25.out).mono ?_); (case side1 => repeat (first | exact (Kd.R_reads' HO377.out).2.2 | (with_reducible refine Kd.C_alloc ?_ _) | (with_reducible refine Kd.C_drewN ?_ _) | (with_reducible refine Kd.C_drew ?_))); (case side2 => exact (Kd.R_reads' HO377.out).2.1); rintro e w43 ⟨rfl, hb⟩; have n0_ := Aside0.mk (Kd.R_below (qR HO377) hb); have n1_ := Aside0.mk (Kd.R_below (qR HO386) hb); have n2_ := Aside0.mk (Kd.R_below (qR HO392) hb); have n3_ := Aside0.mk (blk_below (qK BK383) hb); have n4_ := Aside0.mk (below_step (by repeat first | (with_reducible first | exact HB.out | apply bA | apply bN | apply bD | refine bS ?_ GE383.out) | exact HB.out) hb); clear HO377; clear HO386; clear HO392; clear BK383; clear HB; have HO377 := n0_; have HO386 := n1_; have HO392 := n2_; have BK383 := n3_; have HB := n4_; clear n0_ n1_ n2_ n3_ n4_; (try clear hb); (try clear hb2); (try clear hk); (try clear hi)) | (go_at_call 53; (with_reducible refine (impl_FreeSlots.calls k _ _ t384 t395 _ ?side1 ?side2 A27.out).mono ?_); (case side1 => repeat (first | exact (Kd.R_reads' HO386.out).2.2 | (with_reducible refine Kd.C_alloc ?_ _) | (with_reducible refine Kd.C_drewN ?_ _) | (with_reducible refine Kd.C_drew ?_))); (case side2 => exact (Kd.R_reads' HO386.out).2.1); rintro e w44 ⟨rfl, hb⟩; have n0_ := Aside0.mk (Kd.R_below (qR HO377) hb); have n1_ := Aside0.mk (Kd.R_below (qR HO386) hb); have n2_ := Aside0.mk (Kd.R_below (qR HO392) hb); have n3_ := Aside0.mk (blk_below (qK BK383) hb); have n4_ := Aside0.mk (below_step (by repeat first | (with_reducible first | exact HB.out | apply bA | apply bN | apply bD | refine bS ?_ GE383.out) | exact HB.out) hb); clear HO377; clear HO386; clear HO392; clear BK383; clear HB; have HO377 := n0_; have HO386 := n1_; have HO392 := n2_; have BK383 := n3_; have HB := n4_; clear n0_ n1_ n2_ n3_ n4_; (try clear hb); (try clear hb2); (try clear hk); (try clear hi)) | (go_at_call 53; (with_reducible refine (impl_FreeSlots.calls k _ _ t375 t396 _ ?side1 ?side2 A28.out).mono ?_); (case side1 => repeat (first | exact (Kd.R_reads' HO377.out).2.2 | (with_reducible refine Kd.C_alloc ?_ _) | (with_reducible refine Kd.C_drewN ?_ _) | (with_reducible refine Kd.C_drew ?_))); (case side2 => exact (Kd.R_reads' HO377.out).2.1); rintro e w45 ⟨rfl, hb⟩; have n0_ := Aside0.mk (Kd.R_below (qR HO377) hb); have n1_ := Aside0.mk (Kd.R_below (qR HO386) hb); have n2_ := Aside0.mk (Kd.R_below (qR HO392) hb); have n3_ := Aside0.mk (blk_below (qK BK383) hb); have n4_ := Aside0.mk (below_step (by repeat first | (with_reducible first | exact HB.out | apply bA | apply bN | apply bD | refine bS ?_ GE383.out) | exact HB.out) hb); clear HO377; clear HO386; clear HO392; clear BK383; clear HB; have HO377 := n0_; have HO386 := n1_; have HO392 := n2_; have BK383 := n3_; have HB := n4_; clear n0_ n1_ n2_ n3_ n4_; (try clear hb); (try clear hb2); (try clear hk); (try clear hi))))
          go_meet
          case rel => exact ⟨_, (true), (by first | rfl | (simp; done) | (simp [*]; done)), H', ⟨by first | omega | exact Nat.le_refl _⟩, ⟨by (with_reducible repeat first | apply rA | apply rN | apply rD); exact Kd.R_mono HO377.out (fun _ hk => ⟨hk.1.2, hk.2⟩)⟩, ⟨by (with_reducible repeat first | apply rA | apply rN | apply rD); exact Kd.R_mono HO386.out (fun _ hk => ⟨hk.1.2, hk.2⟩)⟩, ⟨by (with_reducible repeat first | apply rA | apply rN | apply rD); exact Kd.R_mono HO392.out (fun _ hk => ⟨hk.1.2, hk.2⟩)⟩, ⟨by (with_reducible repeat first | refine kN ?_ _ | refine kD ?_ | refine kA ?_ _); exact BK383.out⟩, ⟨by repeat (first | (with_reducible first | exact HB.out | apply bA | apply bN | apply bD | refine bS ?_ GE383.out) | exact HB.out)⟩⟩
        ·rw [if_neg c29] at H
         have c29b0 : (t395 == (wrap64 (t396 - 1))) = false := beq_eq_false_iff_ne.mpr c29
         have c29b1 : (t395 != (wrap64 (t396 - 1))) = true := bne_iff_ne.mpr c29
         have H' := Aside0.mk H
         clear H
         go_wp2_with (first | (go_at_call 51; (with_reducible refine (impl_AreSlots.calls k _ _ t384 true _ ?side1 ?side2 A21.out).mono ?_); (case side1 => repeat (first | exact (Kd.R_reads' HO386.out).2.2 | (with_reducible refine Kd.C_alloc ?_ _) | (with_reducible refine Kd.C_drewN ?_ _) | (with_reducible refine Kd.C_drew ?_))); (case side2 => exact (Kd.R_reads' HO386.out).2.1); rintro e w46 ⟨rfl, hb⟩; have n0_ := Aside0.mk (Kd.R_below (qR HO377) hb); have n1_ := Aside0.mk (Kd.R_below (qR HO386) hb); have n2_ := Aside0.mk (Kd.R_below (qR HO392) hb); have n3_ := Aside0.mk (blk_below (qK BK383) hb); have n4_ := Aside0.mk (below_step (by repeat first | (with_reducible first | exact HB.out | apply bA | apply bN | apply bD | refine bS ?_ GE383.out) | exact HB.out) hb); clear HO377; clear HO386; clear HO392; clear BK383; clear HB; have HO377 := n0_; have HO386 := n1_; have HO392 := n2_; have BK383 := n3_; have HB := n4_; clear n0_ n1_ n2_ n3_ n4_; (try clear hb); (try clear hb2); (try clear hk); (try clear hi); have hcz47_0 : w46.cell? ⟨gb383, 0, none⟩ = some (.int .i64 t378) := cC BK383 0; have hcz47_1 : w46.cell? ⟨gb383, 1, none⟩ = some (.int .i64 t379) := cC BK383 1; have hcz47_2 : w46.cell? ⟨gb383, 2, none⟩ = some (.int .i64 t380) := cC BK383 2; have hcz47_3 : w46.cell? ⟨gb383, 3, none⟩ = some (.int .i64 t381) := cC BK383 3; have hcz47_4 : w46.cell? ⟨gb383, 4, none⟩ = some (.int .i64 t382) := cC BK383 4; have hfz47_0 := blk_frozen BK383.out 0; have hfz47_1 := blk_frozen BK383.out 1; have hfz47_2 := blk_frozen BK383.out 2; have hfz47_3 := blk_frozen BK383.out 3; have hfz47_4 := blk_frozen BK383.out 4) | (go_at_call 52; (with_reducible refine (impl_SmallestFree.calls k _ _ t375 t381 t394 _ ?side1 ?side2 A25.out).mono ?_); (case side1 => repeat (first | exact (Kd.R_reads' HO377.out).2.2 | (with_reducible refine Kd.C_alloc ?_ _) | (with_reducible refine Kd.C_drewN ?_ _) | (with_reducible refine Kd.C_drew ?_))); (case side2 => exact (Kd.R_reads' HO377.out).2.1); rintro e w48 ⟨rfl, hb⟩; have n0_ := Aside0.mk (Kd.R_below (qR HO377) hb); have n1_ := Aside0.mk (Kd.R_below (qR HO386) hb); have n2_ := Aside0.mk (Kd.R_below (qR HO392) hb); have n3_ := Aside0.mk (blk_below (qK BK383) hb); have n4_ := Aside0.mk (below_step (by repeat first | (with_reducible first | exact HB.out | apply bA | apply bN | apply bD | refine bS ?_ GE383.out) | exact HB.out) hb); clear HO377; clear HO386; clear HO392; clear BK383; clear HB; have HO377 := n0_; have HO386 := n1_; have HO392 := n2_; have BK383 := n3_; have HB := n4_; clear n0_ n1_ n2_ n3_ n4_; (try clear hb); (try clear hb2); (try clear hk); (try clear hi)) | (go_at_call 53; (with_reducible refine (impl_FreeSlots.calls k _ _ t384 t395 _ ?side1 ?side2 A27.out).mono ?_); (case side1 => repeat (first | exact (Kd.R_reads' HO386.out).2.2 | (with_reducible refine Kd.C_alloc ?_ _) | (with_reducible refine Kd.C_drewN ?_ _) | (with_reducible refine Kd.C_drew ?_))); (case side2 => exact (Kd.R_reads' HO386.out).2.1); rintro e w49 ⟨rfl, hb⟩; have n0_ := Aside0.mk (Kd.R_below (qR HO377) hb); have n1_ := Aside0.mk (Kd.R_below (qR HO386) hb); have n2_ := Aside0.mk (Kd.R_below (qR HO392) hb); have n3_ := Aside0.mk (blk_below (qK BK383) hb); have n4_ := Aside0.mk (below_step (by repeat first | (with_reducible first | exact HB.out | apply bA | apply bN | apply bD | refine bS ?_ GE383.out) | exact HB.out) hb); clear HO377; clear HO386; clear HO392; clear BK383; clear HB; have HO377 := n0_; have HO386 := n1_; have HO392 := n2_; have BK383 := n3_; have HB := n4_; clear n0_ n1_ n2_ n3_ n4_; (try clear hb); (try clear hb2); (try clear hk); (try clear hi)) | (go_at_call 53; (with_reducible refine (impl_FreeSlots.calls k _ _ t375 t396 _ ?side1 ?side2 A28.out).mono ?_); (case side1 => repeat (first | exact (Kd.R_reads' HO377.out).2.2 | (with_reducible refine Kd.C_alloc ?_ _) | (with_reducible refine Kd.C_drewN ?_ _) | (with_reducible refine Kd.C_drew ?_))); (case side2 => exact (Kd.R_reads' HO377.out).2.1); rintro e w50 ⟨rfl, hb⟩; have n0_ := Aside0.mk (Kd.R_below (qR HO377) hb); have n1_ := Aside0.mk (Kd.R_below (qR HO386) hb); have n2_ := Aside0.mk (Kd.R_below (qR HO392) hb); have n3_ := Aside0.mk (blk_below (qK BK383) hb); have n4_ := Aside0.mk (below_step (by repeat first | (with_reducible first | exact HB.out | apply bA | apply bN | apply bD | refine bS ?_ GE383.out) | exact HB.out) hb); clear HO377; clear HO386; clear HO392; clear BK383; clear HB; have HO377 := n0_; have HO386 := n1_; have HO392 := n2_; have BK383 := n3_; have HB := n4_; clear n0_ n1_ n2_ n3_ n4_; (try clear hb); (try clear hb2); (try clear hk); (try clear hi)))
         repeat (go_quiet (first | (go_at_call 51; (with_reducible refine (impl_AreSlots.calls k _ _ t384 true _ ?side1 ?side2 A21.out).mono ?_); (case side1 => repeat (first | exact (Kd.R_reads' HO386.out).2.2 | (with_reducible refine Kd.C_alloc ?_ _) | (with_reducible refine Kd.C_drewN ?_ _) | (with_reducible refine Kd.C_drew ?_))); (case side2 => exact (Kd.R_reads' HO386.out).2.1); rintro e w46 ⟨rfl, hb⟩; have n0_ := Aside0.mk (Kd.R_below (qR HO377) hb); have n1_ := Aside0.mk (Kd.R_below (qR HO386) hb); have n2_ := Aside0.mk (Kd.R_below (qR HO392) hb); have n3_ := Aside0.mk (blk_below (qK BK383) hb); have n4_ := Aside0.mk (below_step (by repeat first | (with_reducible first | exact HB.out | apply bA | apply bN | apply bD | refine bS ?_ GE383.out) | exact HB.out) hb); clear HO377; clear HO386; clear HO392; clear BK383; clear HB; have HO377 := n0_; have HO386 := n1_; have HO392 := n2_; have BK383 := n3_; have HB := n4_; clear n0_ n1_ n2_ n3_ n4_; (try clear hb); (try clear hb2); (try clear hk); (try clear hi); have hcz47_0 : w46.cell? ⟨gb383, 0, none⟩ = some (.int .i64 t378) := cC BK383 0; have hcz47_1 : w46.cell? ⟨gb383, 1, none⟩ = some (.int .i64 t379) := cC BK383 1; have hcz47_2 : w46.cell? ⟨gb383, 2, none⟩ = some (.int .i64 t380) := cC BK383 2; have hcz47_3 : w46.cell? ⟨gb383, 3, none⟩ = some (.int .i64 t381) := cC BK383 3; have hcz47_4 : w46.cell? ⟨gb383, 4, none⟩ = some (.int .i64 t382) := cC BK383 4; have hfz47_0 := blk_frozen BK383.out 0; have hfz47_1 := blk_frozen BK383.out 1; have hfz47_2 := blk_frozen BK383.out 2; have hfz47_3 := blk_frozen BK383.out 3; have hfz47_4 := blk_frozen BK383.out 4) | (go_at_call 52; (with_reducible refine (impl_SmallestFree.calls k _ _ t375 t381 t394 _ ?side1 ?side2 A25.out).mono ?_); (case side1 => repeat (first | exact (Kd.R_reads' HO377.out).2.2 | (with_reducible refine Kd.C_alloc ?_ _) | (with_reducible refine Kd.C_drewN ?_ _) | (with_reducible refine Kd.C_drew ?_))); (case side2 => exact (Kd.R_reads' HO377.out).2.1); rintro e w48 ⟨rfl, hb⟩; have n0_ := Aside0.mk (Kd.R_below (qR HO377) hb); have n1_ := Aside0.mk (Kd.R_below (qR HO386) hb); have n2_ := Aside0.mk (Kd.R_below (qR HO392) hb); have n3_ := Aside0.mk (blk_below (qK BK383) hb); have n4_ := Aside0.mk (below_step (by repeat first | (with_reducible first | exact HB.out | apply bA | apply bN | apply bD | refine bS ?_ GE383.out) | exact HB.out) hb); clear HO377; clear HO386; clear HO392; clear BK383; clear HB; have HO377 := n0_; have HO386 := n1_; have HO392 := n2_; have BK383 := n3_; have HB := n4_; clear n0_ n1_ n2_ n3_ n4_; (try clear hb); (try clear hb2); (try clear hk); (try clear hi)) | (go_at_call 53; (with_reducible refine (impl_FreeSlots.calls k _ _ t384 t395 _ ?side1 ?side2 A27.out).mono ?_); (case side1 => repeat (first | exact (Kd.R_reads' HO386.out).2.2 | (with_reducible refine Kd.C_alloc ?_ _) | (with_reducible refine Kd.C_drewN ?_ _) | (with_reducible refine Kd.C_drew ?_))); (case side2 => exact (Kd.R_reads' HO386.out).2.1); rintro e w49 ⟨rfl, hb⟩; have n0_ := Aside0.mk (Kd.R_below (qR HO377) hb); have n1_ := Aside0.mk (Kd.R_below (qR HO386) hb); have n2_ := Aside0.mk (Kd.R_below (qR HO392) hb); have n3_ := Aside0.mk (blk_below (qK BK383) hb); have n4_ := Aside0.mk (below_step (by repeat first | (with_reducible first | exact HB.out | apply bA | apply bN | apply bD | refine bS ?_ GE383.out) | exact HB.out) hb); clear HO377; clear HO386; clear HO392; clear BK383; clear HB; have HO377 := n0_; have HO386 := n1_; have HO392 := n2_; have BK383 := n3_; have HB := n4_; clear n0_ n1_ n2_ n3_ n4_; (try clear hb); (try clear hb2); (try clear hk); (try clear hi)) | (go_at_call 53; (with_reducible refine (impl_FreeSlots.calls k _ _ t375 t396 _ ?side1 ?side2 A28.out).mono ?_); (case side1 => repeat (first | exact (Kd.R_reads' HO377.out).2.2 | (with_reducible refine Kd.C_alloc ?_ _) | (with_reducible refine Kd.C_drewN ?_ _) | (with_reducible refine Kd.C_drew ?_))); (case side2 => exact (Kd.R_reads' HO377.out).2.1); rintro e w50 ⟨rfl, hb⟩; have n0_ := Aside0.mk (Kd.R_below (qR HO377) hb); have n1_ := Aside0.mk (Kd.R_below (qR HO386) hb); have n2_ := Aside0.mk (Kd.R_below (qR HO392) hb); have n3_ := Aside0.mk (blk_below (qK BK383) hb); have n4_ := Aside0.mk (below_step (by repeat first | (with_reducible first | exact HB.out | apply bA | apply bN | apply bD | refine bS ?_ GE383.out) | exact HB.out) hb); clear HO377; clear HO386; clear HO392; clear BK383; clear HB; have HO377 := n0_; have HO386 := n1_; have HO392 := n2_; have BK383 := n3_; have HB := n4_; clear n0_ n1_ n2_ n3_ n4_; (try clear hb); (try clear hb2); (try clear hk); (try clear hi))); try go_wp2_with (first | (go_at_call 51; (with_reducible refine (impl_AreSlots.calls k _ _ t384 true _ ?side1 ?side2 A21.out).mono ?_); (case side1 => repeat (first | exact (Kd.R_reads' HO386.out).2.2 | (with_reducible refine Kd.C_alloc ?_ _) | (with_reducible refine Kd.C_drewN ?_ _) | (with_reducible refine Kd.C_drew ?_))); (case side2 => exact (Kd.R_reads' HO386.out).2.1); rintro e w46 ⟨rfl, hb⟩; have n0_ := Aside0.mk (Kd.R_below (qR HO377) hb); have n1_ := Aside0.mk (Kd.R_below (qR HO386) hb); have n2_ := Aside0.mk (Kd.R_below (qR HO392) hb); have n3_ := Aside0.mk (blk_below (qK BK383) hb); have n4_ := Aside0.mk (below_step (by repeat first | (with_reducible first | exact HB.out | apply bA | apply bN | apply bD | refine bS ?_ GE383.out) | exact HB.out) hb); clear HO377; clear HO386; clear HO392; clear BK383; clear HB; have HO377 := n0_; have HO386 := n1_; have HO392 := n2_; have BK383 := n3_; have HB := n4_; clear n0_ n1_ n2_ n3_ n4_; (try clear hb); (try clear hb2); (try clear hk); (try clear hi); have hcz47_0 : w46.cell? ⟨gb383, 0, none⟩ = some (.int .i64 t378) := cC BK383 0; have hcz47_1 : w46.cell? ⟨gb383, 1, none⟩ = some (.int .i64 t379) := cC BK383 1; have hcz47_2 : w46.cell? ⟨gb383, 2, none⟩ = some (.int .i64 t380) := cC BK383 2; have hcz47_3 : w46.cell? ⟨gb383, 3, none⟩ = some (.int .i64 t381) := cC BK383 3; have hcz47_4 : w46.cell? ⟨gb383, 4, none⟩ = some (.int .i64 t382) := cC BK383 4; have hfz47_0 := blk_frozen BK383.out 0; have hfz47_1 := blk_frozen BK383.out 1; have hfz47_2 := blk_frozen BK383.out 2; have hfz47_3 := blk_frozen BK383.out 3; have hfz47_4 := blk_frozen BK383.out 4) | (go_at_call 52; (with_reducible refine (impl_SmallestFree.calls k _ _ t375 t381 t394 _ ?side1 ?side2 A25.out).mono ?_); (case side1 => repeat (first | exact (Kd.R_reads' HO377.out).2.2 | (with_reducible refine Kd.C_alloc ?_ _) | (with_reducible refine Kd.C_drewN ?_ _) | (with_reducible refine Kd.C_drew ?_))); (case side2 => exact (Kd.R_reads' HO377.out).2.1); rintro e w48 ⟨rfl, hb⟩; have n0_ := Aside0.mk (Kd.R_below (qR HO377) hb); have n1_ := Aside0.mk (Kd.R_below (qR HO386) hb); have n2_ := Aside0.mk (Kd.R_below (qR HO392) hb); have n3_ := Aside0.mk (blk_below (qK BK383) hb); have n4_ := Aside0.mk (below_step (by repeat first | (with_reducible first | exact HB.out | apply bA | apply bN | apply bD | refine bS ?_ GE383.out) | exact HB.out) hb); clear HO377; clear HO386; clear HO392; clear BK383; clear HB; have HO377 := n0_; have HO386 := n1_; have HO392 := n2_; have BK383 := n3_; have HB := n4_; clear n0_ n1_ n2_ n3_ n4_; (try clear hb); (try clear hb2); (try clear hk); (try clear hi)) | (go_at_call 53; (with_reducible refine (impl_FreeSlots.calls k _ _ t384 t395 _ ?side1 ?side2 A27.out).mono ?_); (case side1 => repeat (first | exact (Kd.R_reads' HO386.out).2.2 | (with_reducible refine Kd.C_alloc ?_ _) | (with_reducible refine Kd.C_drewN ?_ _) | (with_reducible refine Kd.C_drew ?_))); (case side2 => exact (Kd.R_reads' HO386.out).2.1); rintro e w49 ⟨rfl, hb⟩; have n0_ := Aside0.mk (Kd.R_below (qR HO377) hb); have n1_ := Aside0.mk (Kd.R_below (qR HO386) hb); have n2_ := Aside0.mk (Kd.R_below (qR HO392) hb); have n3_ := Aside0.mk (blk_below (qK BK383) hb); have n4_ := Aside0.mk (below_step (by repeat first | (with_reducible first | exact HB.out | apply bA | apply bN | apply bD | refine bS ?_ GE383.out) | exact HB.out) hb); clear HO377; clear HO386; clear HO392; clear BK383; clear HB; have HO377 := n0_; have HO386 := n1_; have HO392 := n2_; have BK383 := n3_; have HB := n4_; clear n0_ n1_ n2_ n3_ n4_; (try clear hb); (try clear hb2); (try clear hk); (try clear hi)) | (go_at_call 53; (with_reducible refine (impl_FreeSlots.calls k _ _ t375 t396 _ ?side1 ?side2 A28.out).mono ?_); (case side1 => repeat (first | exact (Kd.R_reads' HO377.out).2.2 | (with_reducible refine Kd.C_alloc ?_ _) | (with_reducible refine Kd.C_drewN ?_ _) | (with_reducible refine Kd.C_drew ?_))); (case side2 => exact (Kd.R_reads' HO377.out).2.1); rintro e w50 ⟨rfl, hb⟩; have n0_ := Aside0.mk (Kd.R_below (qR HO377) hb); have n1_ := Aside0.mk (Kd.R_below (qR HO386) hb); have n2_ := Aside0.mk (Kd.R_below (qR HO392) hb); have n3_ := Aside0.mk (blk_below (qK BK383) hb); have n4_ := Aside0.mk (below_step (by repeat first | (with_reducible first | exact HB.out | apply bA | apply bN | apply bD | refine bS ?_ GE383.out) | exact HB.out) hb); clear HO377; clear HO386; clear HO392; clear BK383; clear HB; have HO377 := n0_; have HO386 := n1_; have HO392 := n2_; have BK383 := n3_; have HB := n4_; clear n0_ n1_ n2_ n3_ n4_; (try clear hb); (try clear hb2); (try clear hk); (try clear hi))))
         go_meet
         case rel => exact ⟨_, (true), (by first | rfl | (simp; done) | (simp [*]; done)), H', ⟨by first | omega | exact Nat.le_refl _⟩, ⟨by (with_reducible repeat first | apply rA | apply rN | apply rD); exact Kd.R_mono HO377.out (fun _ hk => ⟨hk.1.2, hk.2⟩)⟩, ⟨by (with_reducible repeat first | apply rA | apply rN | apply rD); exact Kd.R_mono HO386.out (fun _ hk => ⟨hk.1.2, hk.2⟩)⟩, ⟨by (with_reducible repeat first | apply rA | apply rN | apply rD); exact Kd.R_mono HO392.out (fun _ hk => ⟨hk.1.2, hk.2⟩)⟩, ⟨by (with_reducible repeat first | refine kN ?_ _ | refine kD ?_ | refine kA ?_ _); exact BK383.out⟩, ⟨by repeat (first | (with_reducible first | exact HB.out | apply bA | apply bN | apply bD | refine bS ?_ GE383.out) | exact HB.out)⟩⟩
       ·rw [if_neg c26] at H
        have c26b0 : (t388 == t394) = false := beq_eq_false_iff_ne.mpr c26
        have c26b1 : (t388 != t394) = true := bne_iff_ne.mpr c26
        have H' := Aside0.mk H
        clear H
        go_wp2_with (first | (go_at_call 51; (with_reducible refine (impl_AreSlots.calls k _ _ t384 true _ ?side1 ?side2 A21.out).mono ?_); (case side1 => repeat (first | exact (Kd.R_reads' HO386.out).2.2 | (with_reducible refine Kd.C_alloc ?_ _) | (with_reducible refine Kd.C_drewN ?_ _) | (with_reducible refine Kd.C_drew ?_))); (case side2 => exact (Kd.R_reads' HO386.out).2.1); rintro e w51 ⟨rfl, hb⟩; have n0_ := Aside0.mk (Kd.R_below (qR HO377) hb); have n1_ := Aside0.mk (Kd.R_below (qR HO386) hb); have n2_ := Aside0.mk (Kd.R_below (qR HO392) hb); have n3_ := Aside0.mk (blk_below (qK BK383) hb); have n4_ := Aside0.mk (below_step (by repeat first | (with_reducible first | exact HB.out | apply bA | apply bN | apply bD | refine bS ?_ GE383.out) | exact HB.out) hb); clear HO377; clear HO386; clear HO392; clear BK383; clear HB; have HO377 := n0_; have HO386 := n1_; have HO392 := n2_; have BK383 := n3_; have HB := n4_; clear n0_ n1_ n2_ n3_ n4_; (try clear hb); (try clear hb2); (try clear hk); (try clear hi); have hcz52_0 : w51.cell? ⟨gb383, 0, none⟩ = some (.int .i64 t378) := cC BK383 0; have hcz52_1 : w51.cell? ⟨gb383, 1, none⟩ = some (.int .i64 t379) := cC BK383 1; have hcz52_2 : w51.cell? ⟨gb383, 2, none⟩ = some (.int .i64 t380) := cC BK383 2; have hcz52_3 : w51.cell? ⟨gb383, 3, none⟩ = some (.int .i64 t381) := cC BK383 3; have hcz52_4 : w51.cell? ⟨gb383, 4, none⟩ = some (.int .i64 t382) := cC BK383 4; have hfz52_0 := blk_frozen BK383.out 0; have hfz52_1 := blk_frozen BK383.out 1; have hfz52_2 := blk_frozen BK383.out 2; have hfz52_3 := blk_frozen BK383.out 3; have hfz52_4 := blk_frozen BK383.out 4) | (go_at_call 52; (with_reducible refine (impl_SmallestFree.calls k _ _ t375 t381 t394 _ ?side1 ?side2 A25.out).mono ?_); (case side1 => repeat (first | exact (Kd.R_reads' HO377.out).2.2 | (with_reducible refine Kd.C_alloc ?_ _) | (with_reducible refine Kd.C_drewN ?_ _) | (with_reducible refine Kd.C_drew ?_))); (case side2 => exact (Kd.R_reads' HO377.out).2.1); rintro e w53 ⟨rfl, hb⟩; have n0_ := Aside0.mk (Kd.R_below (qR HO377) hb); have n1_ := Aside0.mk (Kd.R_below (qR HO386) hb); have n2_ := Aside0.mk (Kd.R_below (qR HO392) hb); have n3_ := Aside0.mk (blk_below (qK BK383) hb); have n4_ := Aside0.mk (below_step (by repeat first | (with_reducible first | exact HB.out | apply bA | apply bN | apply bD | refine bS ?_ GE383.out) | exact HB.out) hb); clear HO377; clear HO386; clear HO392; clear BK383; clear HB; have HO377 := n0_; have HO386 := n1_; have HO392 := n2_; have BK383 := n3_; have HB := n4_; clear n0_ n1_ n2_ n3_ n4_; (try clear hb); (try clear hb2); (try clear hk); (try clear hi)))
        repeat (go_quiet (first | (go_at_call 51; (with_reducible refine (impl_AreSlots.calls k _ _ t384 true _ ?side1 ?side2 A21.out).mono ?_); (case side1 => repeat (first | exact (Kd.R_reads' HO386.out).2.2 | (with_reducible refine Kd.C_alloc ?_ _) | (with_reducible refine Kd.C_drewN ?_ _) | (with_reducible refine Kd.C_drew ?_))); (case side2 => exact (Kd.R_reads' HO386.out).2.1); rintro e w51 ⟨rfl, hb⟩; have n0_ := Aside0.mk (Kd.R_below (qR HO377) hb); have n1_ := Aside0.mk (Kd.R_below (qR HO386) hb); have n2_ := Aside0.mk (Kd.R_below (qR HO392) hb); have n3_ := Aside0.mk (blk_below (qK BK383) hb); have n4_ := Aside0.mk (below_step (by repeat first | (with_reducible first | exact HB.out | apply bA | apply bN | apply bD | refine bS ?_ GE383.out) | exact HB.out) hb); clear HO377; clear HO386; clear HO392; clear BK383; clear HB; have HO377 := n0_; have HO386 := n1_; have HO392 := n2_; have BK383 := n3_; have HB := n4_; clear n0_ n1_ n2_ n3_ n4_; (try clear hb); (try clear hb2); (try clear hk); (try clear hi); have hcz52_0 : w51.cell? ⟨gb383, 0, none⟩ = some (.int .i64 t378) := cC BK383 0; have hcz52_1 : w51.cell? ⟨gb383, 1, none⟩ = some (.int .i64 t379) := cC BK383 1; have hcz52_2 : w51.cell? ⟨gb383, 2, none⟩ = some (.int .i64 t380) := cC BK383 2; have hcz52_3 : w51.cell? ⟨gb383, 3, none⟩ = some (.int .i64 t381) := cC BK383 3; have hcz52_4 : w51.cell? ⟨gb383, 4, none⟩ = some (.int .i64 t382) := cC BK383 4; have hfz52_0 := blk_frozen BK383.out 0; have hfz52_1 := blk_frozen BK383.out 1; have hfz52_2 := blk_frozen BK383.out 2; have hfz52_3 := blk_frozen BK383.out 3; have hfz52_4 := blk_frozen BK383.out 4) | (go_at_call 52; (with_reducible refine (impl_SmallestFree.calls k _ _ t375 t381 t394 _ ?side1 ?side2 A25.out).mono ?_); (case side1 => repeat (first | exact (Kd.R_reads' HO377.out).2.2 | (with_reducible refine Kd.C_alloc ?_ _) | (with_reducible refine Kd.C_drewN ?_ _) | (with_reducible refine Kd.C_drew ?_))); (case side2 => exact (Kd.R_reads' HO377.out).2.1); rintro e w53 ⟨rfl, hb⟩; have n0_ := Aside0.mk (Kd.R_below (qR HO377) hb); have n1_ := Aside0.mk (Kd.R_below (qR HO386) hb); have n2_ := Aside0.mk (Kd.R_below (qR HO392) hb); have n3_ := Aside0.mk (blk_below (qK BK383) hb); have n4_ := Aside0.mk (below_step (by repeat first | (with_reducible first | exact HB.out | apply bA | apply bN | apply bD | refine bS ?_ GE383.out) | exact HB.out) hb); clear HO377; clear HO386; clear HO392; clear BK383; clear HB; have HO377 := n0_; have HO386 := n1_; have HO392 := n2_; have BK383 := n3_; have HB := n4_; clear n0_ n1_ n2_ n3_ n4_; (try clear hb); (try clear hb2); (try clear hk); (try clear hi))); try go_wp2_with (first | (go_at_call 51; (with_reducible refine (impl_AreSlots.calls k _ _ t384 true _ ?side1 ?side2 A21.out).mono ?_); (case side1 => repeat (first | exact (Kd.R_reads' HO386.out).2.2 | (with_reducible refine Kd.C_alloc ?_ _) | (with_reducible refine Kd.C_drewN ?_ _) | (with_reducible refine Kd.C_drew ?_))); (case side2 => exact (Kd.R_reads' HO386.out).2.1); rintro e w51 ⟨rfl, hb⟩; have n0_ := Aside0.mk (Kd.R_below (qR HO377) hb); have n1_ := Aside0.mk (Kd.R_below (qR HO386) hb); have n2_ := Aside0.mk (Kd.R_below (qR HO392) hb); have n3_ := Aside0.mk (blk_below (qK BK383) hb); have n4_ := Aside0.mk (below_step (by repeat first | (with_reducible first | exact HB.out | apply bA | apply bN | apply bD | refine bS ?_ GE383.out) | exact HB.out) hb); clear HO377; clear HO386; clear HO392; clear BK383; clear HB; have HO377 := n0_; have HO386 := n1_; have HO392 := n2_; have BK383 := n3_; have HB := n4_; clear n0_ n1_ n2_ n3_ n4_; (try clear hb); (try clear hb2); (try clear hk); (try clear hi); have hcz52_0 : w51.cell? ⟨gb383, 0, none⟩ = some (.int .i64 t378) := cC BK383 0; have hcz52_1 : w51.cell? ⟨gb383, 1, none⟩ = some (.int .i64 t379) := cC BK383 1; have hcz52_2 : w51.cell? ⟨gb383, 2, none⟩ = some (.int .i64 t380) := cC BK383 2; have hcz52_3 : w51.cell? ⟨gb383, 3, none⟩ = some (.int .i64 t381) := cC BK383 3; have hcz52_4 : w51.cell? ⟨gb383, 4, none⟩ = some (.int .i64 t382) := cC BK383 4; have hfz52_0 := blk_frozen BK383.out 0; have hfz52_1 := blk_frozen BK383.out 1; have hfz52_2 := blk_frozen BK383.out 2; have hfz52_3 := blk_frozen BK383.out 3; have hfz52_4 := blk_frozen BK383.out 4) | (go_at_call 52; (with_reducible refine (impl_SmallestFree.calls k _ _ t375 t381 t394 _ ?side1 ?side2 A25.out).mono ?_); (case side1 => repeat (first | exact (Kd.R_reads' HO377.out).2.2 | (with_reducible refine Kd.C_alloc ?_ _) | (with_reducible refine Kd.C_drewN ?_ _) | (with_reducible refine Kd.C_drew ?_))); (case side2 => exact (Kd.R_reads' HO377.out).2.1); rintro e w53 ⟨rfl, hb⟩; have n0_ := Aside0.mk (Kd.R_below (qR HO377) hb); have n1_ := Aside0.mk (Kd.R_below (qR HO386) hb); have n2_ := Aside0.mk (Kd.R_below (qR HO392) hb); have n3_ := Aside0.mk (blk_below (qK BK383) hb); have n4_ := Aside0.mk (below_step (by repeat first | (with_reducible first | exact HB.out | apply bA | apply bN | apply bD | refine bS ?_ GE383.out) | exact HB.out) hb); clear HO377; clear HO386; clear HO392; clear BK383; clear HB; have HO377 := n0_; have HO386 := n1_; have HO392 := n2_; have BK383 := n3_; have HB := n4_; clear n0_ n1_ n2_ n3_ n4_; (try clear hb); (try clear hb2); (try clear hk); (try clear hi))))
        go_meet
        case rel => exact ⟨_, (true), (by first | rfl | (simp; done) | (simp [*]; done)), H', ⟨by first | omega | exact Nat.le_refl _⟩, ⟨by (with_reducible repeat first | apply rA | apply rN | apply rD); exact Kd.R_mono HO377.out (fun _ hk => ⟨hk.1.2, hk.2⟩)⟩, ⟨by (with_reducible repeat first | apply rA | apply rN | apply rD); exact Kd.R_mono HO386.out (fun _ hk => ⟨hk.1.2, hk.2⟩)⟩, ⟨by (with_reducible repeat first | apply rA | apply rN | apply rD); exact Kd.R_mono HO392.out (fun _ hk => ⟨hk.1.2, hk.2⟩)⟩, ⟨by (with_reducible repeat first | refine kN ?_ _ | refine kD ?_ | refine kA ?_ _); exact BK383.out⟩, ⟨by repeat (first | (with_reducible first | exact HB.out | apply bA | apply bN | apply bD | refine bS ?_ GE383.out) | exact HB.out)⟩⟩
     ·replace c22 := Bool.eq_false_iff.mpr c22
      subst c22
      have H1 : (laws_FnShelves.j0 k l0 t375 t384 t388 t389 true t378 t379 t380 t381 t382) = some r := by rw [if_neg (show ¬ (false = true) by decide)] at H; exact H
      clear H
      have H := H1
      clear H1
      have H' := Aside0.mk H
      clear H
      go_wp2_with (first | (go_at_call 51; (with_reducible refine (impl_AreSlots.calls k _ _ t384 false _ ?side1 ?side2 A21.out).mono ?_); (case side1 => repeat (first | exact (Kd.R_reads' HO386.out).2.2 | (with_reducible refine Kd.C_alloc ?_ _) | (with_reducible refine Kd.C_drewN ?_ _) | (with_reducible refine Kd.C_drew ?_))); (case side2 => exact (Kd.R_reads' HO386.out).2.1); rintro e w54 ⟨rfl, hb⟩; have n0_ := Aside0.mk (Kd.R_below (qR HO377) hb); have n1_ := Aside0.mk (Kd.R_below (qR HO386) hb); have n2_ := Aside0.mk (Kd.R_below (qR HO392) hb); have n3_ := Aside0.mk (blk_below (qK BK383) hb); have n4_ := Aside0.mk (below_step (by repeat first | (with_reducible first | exact HB.out | apply bA | apply bN | apply bD | refine bS ?_ GE383.out) | exact HB.out) hb); clear HO377; clear HO386; clear HO392; clear BK383; clear HB; have HO377 := n0_; have HO386 := n1_; have HO392 := n2_; have BK383 := n3_; have HB := n4_; clear n0_ n1_ n2_ n3_ n4_; (try clear hb); (try clear hb2); (try clear hk); (try clear hi)))
      repeat (go_quiet (first | (go_at_call 51; (with_reducible refine (impl_AreSlots.calls k _ _ t384 false _ ?side1 ?side2 A21.out).mono ?_); (case side1 => repeat (first | exact (Kd.R_reads' HO386.out).2.2 | (with_reducible refine Kd.C_alloc ?_ _) | (with_reducible refine Kd.C_drewN ?_ _) | (with_reducible refine Kd.C_drew ?_))); (case side2 => exact (Kd.R_reads' HO386.out).2.1); rintro e w54 ⟨rfl, hb⟩; have n0_ := Aside0.mk (Kd.R_below (qR HO377) hb); have n1_ := Aside0.mk (Kd.R_below (qR HO386) hb); have n2_ := Aside0.mk (Kd.R_below (qR HO392) hb); have n3_ := Aside0.mk (blk_below (qK BK383) hb); have n4_ := Aside0.mk (below_step (by repeat first | (with_reducible first | exact HB.out | apply bA | apply bN | apply bD | refine bS ?_ GE383.out) | exact HB.out) hb); clear HO377; clear HO386; clear HO392; clear BK383; clear HB; have HO377 := n0_; have HO386 := n1_; have HO392 := n2_; have BK383 := n3_; have HB := n4_; clear n0_ n1_ n2_ n3_ n4_; (try clear hb); (try clear hb2); (try clear hk); (try clear hi))); try go_wp2_with (first | (go_at_call 51; (with_reducible refine (impl_AreSlots.calls k _ _ t384 false _ ?side1 ?side2 A21.out).mono ?_); (case side1 => repeat (first | exact (Kd.R_reads' HO386.out).2.2 | (with_reducible refine Kd.C_alloc ?_ _) | (with_reducible refine Kd.C_drewN ?_ _) | (with_reducible refine Kd.C_drew ?_))); (case side2 => exact (Kd.R_reads' HO386.out).2.1); rintro e w54 ⟨rfl, hb⟩; have n0_ := Aside0.mk (Kd.R_below (qR HO377) hb); have n1_ := Aside0.mk (Kd.R_below (qR HO386) hb); have n2_ := Aside0.mk (Kd.R_below (qR HO392) hb); have n3_ := Aside0.mk (blk_below (qK BK383) hb); have n4_ := Aside0.mk (below_step (by repeat first | (with_reducible first | exact HB.out | apply bA | apply bN | apply bD | refine bS ?_ GE383.out) | exact HB.out) hb); clear HO377; clear HO386; clear HO392; clear BK383; clear HB; have HO377 := n0_; have HO386 := n1_; have HO392 := n2_; have BK383 := n3_; have HB := n4_; clear n0_ n1_ n2_ n3_ n4_; (try clear hb); (try clear hb2); (try clear hk); (try clear hi))))
      go_meet
      case rel => exact ⟨_, (true), (by first | rfl | (simp; done) | (simp [*]; done)), H', ⟨by first | omega | exact Nat.le_refl _⟩, ⟨by (with_reducible repeat first | apply rA | apply rN | apply rD); exact Kd.R_mono HO377.out (fun _ hk => ⟨hk.1.2, hk.2⟩)⟩, ⟨by (with_reducible repeat first | apply rA | apply rN | apply rD); exact Kd.R_mono HO386.out (fun _ hk => ⟨hk.1.2, hk.2⟩)⟩, ⟨by (with_reducible repeat first | apply rA | apply rN | apply rD); exact Kd.R_mono HO392.out (fun _ hk => ⟨hk.1.2, hk.2⟩)⟩, ⟨by (with_reducible repeat first | refine kN ?_ _ | refine kD ?_ | refine kA ?_ _); exact BK383.out⟩, ⟨by repeat (first | (with_reducible first | exact HB.out | apply bA | apply bN | apply bD | refine bS ?_ GE383.out) | exact HB.out)⟩⟩
    case rest =>
     clear HC15
     try clear c1
     try clear c2
     try clear p2
     try clear c3
     try clear p6
     try clear c7
     try clear c12
     try clear c22
     try clear c23
     try clear c23b0
     try clear c23b1
     try clear c26
     try clear c26b0
     try clear c26b1
     try clear c29
     try clear c29b0
     try clear c29b1
     try clear c30
     try clear hcz16_0
     try clear hcz16_1
     try clear hcz16_2
     try clear hcz16_3
     try clear hcz16_4
     try clear hcz19_0
     try clear hcz19_1
     try clear hcz19_2
     try clear hcz19_3
     try clear hcz19_4
     try clear hcz34_0
     try clear hcz34_1
     try clear hcz34_2
     try clear hcz34_3
     try clear hcz34_4
     try clear hcz42_0
     try clear hcz42_1
     try clear hcz42_2
     try clear hcz42_3
     try clear hcz42_4
     try clear hcz47_0
     try clear hcz47_1
     try clear hcz47_2
     try clear hcz47_3
     try clear hcz47_4
     try clear hcz52_0
     try clear hcz52_1
     try clear hcz52_2
     try clear hcz52_3
     try clear hcz52_4
     try clear hcz9_0
     try clear hcz9_1
     try clear hcz9_2
     try clear hcz9_3
     try clear hcz9_4
     try clear hfz16_0
     try clear hfz16_1
     try clear hfz16_2
     try clear hfz16_3
     try clear hfz16_4
     try clear hfz19_0
     try clear hfz19_1
     try clear hfz19_2
     try clear hfz19_3
     try clear hfz19_4
     try clear hfz34_0
     try clear hfz34_1
     try clear hfz34_2
     try clear hfz34_3
     try clear hfz34_4
     try clear hfz42_0
     try clear hfz42_1
     try clear hfz42_2
     try clear hfz42_3
     try clear hfz42_4
     try clear hfz47_0
     try clear hfz47_1
     try clear hfz47_2
     try clear hfz47_3
     try clear hfz47_4
     try clear hfz52_0
     try clear hfz52_1
     try clear hfz52_2
     try clear hfz52_3
     try clear hfz52_4
     try clear hfz9_0
     try clear hfz9_1
     try clear hfz9_2
     try clear hfz9_3
     try clear hfz9_4
     obtain ⟨kq, x73_14, rfl, HA, HJ14, HO_3, HO_5, HO_8, BK383, HB⟩ := hcut
     cases kq with
     | zero => exact absurd HA.out (by simp [laws_FnShelves.j0])
     | succ kj14 =>
      have H := HA.out
      clear HA
      simp only [laws_FnShelves.j0] at H
      by_cases c55 : x73_14 = true
      ·subst c55
       have H1 : (some false) = some r := by rw [if_pos rfl] at H; exact H
       clear H
       have H := H1
       clear H1
       obtain rfl := Option.some.inj H
       go_wp2
       repeat (go_quiet (fail); try go_wp2)
       go_ret
       exact ⟨by first | rfl | (simp [errW_none, errW_some] <;> rfl) | (simp [*, errW_none, errW_some] <;> rfl), by repeat (first | (with_reducible first | exact HB.out | apply bA | apply bN | apply bD | refine bS ?_ GE383.out) | exact HB.out)⟩
      ·replace c55 := Bool.eq_false_iff.mpr c55
       subst c55
       have H1 : (laws_FnShelves.l0 kj14 l0 t375 t384 t388 t389 0 t378 t379 t380 t381 t382) = some r := by rw [if_neg (show ¬ (false = true) by decide)] at H; exact H
       clear H
       have H := H1
       clear H1
       have H' := Aside0.mk H
       clear H
       go_wp2
       repeat (go_quiet (fail); try go_wp2)
       go_loopg [10] kj14 (fun kq v10 w' => ∃ (x10_2 : Int), v10 = .int .i64 x10_2 ∧ Aside0 (laws_FnShelves.l0 kq l0 t375 t384 t388 t389 x10_2 t378 t379 t380 t381 t382 = some r) ∧ Aside0 (kq ≤ kj14) ∧ Aside0 (Kd.R k78 78 w' w.heap.size (fun k_ => some k_ ≠ ((.slice Ao17 t384.length co17) : Value).ownBlock ∧ some k_ ≠ (v391 : Value).ownBlock) (.slice Ao10 t375.length co10) t375) ∧ Aside0 (Kd.R k78 78 w' w.heap.size (fun k_ => some k_ ≠ ((.slice Ao10 t375.length co10) : Value).ownBlock ∧ some k_ ≠ (v391 : Value).ownBlock) (.slice Ao17 t384.length co17) t384) ∧ Aside0 (Kd.R k78 78 w' w.heap.size (fun k_ => some k_ ≠ ((.slice Ao10 t375.length co10) : Value).ownBlock ∧ some k_ ≠ ((.slice Ao17 t384.length co17) : Value).ownBlock) v391 t389) ∧ Aside0 (w'.heap[gb383]? = some (.cells #[.int .i64 t378, .int .i64 t379, .int .i64 t380, .int .i64 t381, .int .i64 t382] 69 (0, 0))) ∧ Aside0 (Below w.heap.size w w'))
       case atStart => exact ⟨(0), (by first | rfl | (simp; done) | (simp [*]; done)), H', ⟨Nat.le_refl _⟩, ⟨by (with_reducible repeat first | apply rA | apply rN | apply rD); exact HO_3.out⟩, ⟨by (with_reducible repeat first | apply rA | apply rN | apply rD); exact HO_5.out⟩, ⟨by (with_reducible repeat first | apply rA | apply rN | apply rD); exact HO_8.out⟩, ⟨by (with_reducible repeat first | refine kN ?_ _ | refine kD ?_ | refine kA ?_ _); exact BK383.out⟩, ⟨by repeat (first | (with_reducible first | exact HB.out | apply bA | apply bN | apply bD | refine bS ?_ GE383.out) | exact HB.out)⟩⟩
       case round =>
        clear H'
        try clear c1
        try clear c2
        try clear p2
        try clear c3
        try clear c5
        try clear p6
        try clear c7
        try clear c12
        try clear c22
        try clear c23
        try clear c23b0
        try clear c23b1
        try clear c26
        try clear c26b0
        try clear c26b1
        try clear c29
        try clear c29b0
        try clear c29b1
        try clear c30
        try clear c55
        try clear hcz16_0
        try clear hcz16_1
        try clear hcz16_2
        try clear hcz16_3
        try clear hcz16_4
        try clear hcz19_0
        try clear hcz19_1
        try clear hcz19_2
        try clear hcz19_3
        try clear hcz19_4
        try clear hcz34_0
        try clear hcz34_1
        try clear hcz34_2
        try clear hcz34_3
        try clear hcz34_4
        try clear hcz42_0
        try clear hcz42_1
        try clear hcz42_2
        try clear hcz42_3
        try clear hcz42_4
        try clear hcz47_0
        try clear hcz47_1
        try clear hcz47_2
        try clear hcz47_3
        try clear hcz47_4
        try clear hcz52_0
        try clear hcz52_1
        try clear hcz52_2
        try clear hcz52_3
        try clear hcz52_4
        try clear hcz9_0
        try clear hcz9_1
        try clear hcz9_2
        try clear hcz9_3
        try clear hcz9_4
        try clear hfz16_0
        try clear hfz16_1
        try clear hfz16_2
        try clear hfz16_3
        try clear hfz16_4
        try clear hfz19_0
        try clear hfz19_1
        try clear hfz19_2
        try clear hfz19_3
        try clear hfz19_4
        try clear hfz34_0
        try clear hfz34_1
        try clear hfz34_2
        try clear hfz34_3
        try clear hfz34_4
        try clear hfz42_0
        try clear hfz42_1
        try clear hfz42_2
        try clear hfz42_3
        try clear hfz42_4
        try clear hfz47_0
        try clear hfz47_1
        try clear hfz47_2
        try clear hfz47_3
        try clear hfz47_4
        try clear hfz52_0
        try clear hfz52_1
        try clear hfz52_2
        try clear hfz52_3
        try clear hfz52_4
        try clear hfz9_0
        try clear hfz9_1
        try clear hfz9_2
        try clear hfz9_3
        try clear hfz9_4
        try clear p2
        try clear p6
        obtain ⟨x10_2, rfl, HA, HK2, HO_3, HO_5, HO_8, BK383, HB⟩ := hrel
        cases gk with
        | zero => exact absurd HA.out (by simp [laws_FnShelves.l0])
        | succ k2 =>
         have H := HA.out
         clear HA
         simp only [laws_FnShelves.l0] at H
         by_cases c56 : x10_2 < (t389.length : Int)
         ·rw [if_pos c56] at H
          have c56b0 : decide (x10_2 < (t389.length : Int)) = true := decide_eq_true c56
          clear c56
          by_cases c57 : 0 ≤ x10_2
          ·rw [if_pos c57] at H
           have c57b0 : decide (0 ≤ x10_2) = true := decide_eq_true c57
           clear c57
           by_cases c58 : x10_2 < (t375.length : Int)
           ·rw [if_pos c58] at H
            have c58b0 : decide (x10_2 < (t375.length : Int)) = true := decide_eq_true c58
            clear c58
            by_cases c59 : (!(((rd_T78 t389 x10_2).f0) == ((rd_T78 t375 x10_2).f0)) || (!(((rd_T78 t389 x10_2).f1) == ((rd_T78 t375 x10_2).f1)) || (!(((rd_T78 t389 x10_2).f2) == ((rd_T78 t375 x10_2).f2))))) = true
            ·rw [if_pos c59] at H
             have c59b0 : (!(((rd_T78 t389 x10_2).f0) == ((rd_T78 t375 x10_2).f0)) || (!(((rd_T78 t389 x10_2).f1) == ((rd_T78 t375 x10_2).f1)) || (!(((rd_T78 t389 x10_2).f2) == ((rd_T78 t375 x10_2).f2))))) = true := c59
             clear c59
             obtain rfl := Option.some.inj H
             obtain ⟨Ao60, co60, eo60⟩ := Kd.R_slice HO_8.out
             subst eo60
             have p399 : 0 ≤ (x10_2 : Int) := of_decide_eq_true ‹_›
             have q399 : x10_2 < (t389.length : Int) := of_decide_eq_true ‹_›
             obtain ⟨ad399, e399, hx399_0, hx399_1, hx399_2⟩ := at_T78 (Kd.R_reads' HO_8.out).2.2 x10_2 p399 q399
             cases e399
             replace p399 := eq_true p399
             replace q399 := eq_true q399
             have p400 : 0 ≤ (x10_2 : Int) := of_decide_eq_true ‹_›
             have q400 : x10_2 < (t375.length : Int) := of_decide_eq_true ‹_›
             obtain ⟨ad400, e400, hx400_0, hx400_1, hx400_2⟩ := at_T78 (Kd.R_reads' HO_3.out).2.2 x10_2 p400 q400
             cases e400
             replace p400 := eq_true p400
             replace q400 := eq_true q400
             go_wp2
             repeat (go_quiet (fail); try go_wp2)
             go_ret
             exact ⟨by first | rfl | (simp [errW_none, errW_some] <;> rfl) | (simp [*, errW_none, errW_some] <;> rfl), by repeat (first | (with_reducible first | exact HB.out | apply bA | apply bN | apply bD | refine bS ?_ GE383.out) | exact HB.out)⟩
            ·rw [if_neg c59] at H
             have c59b0 : (!(((rd_T78 t389 x10_2).f0) == ((rd_T78 t375 x10_2).f0)) || (!(((rd_T78 t389 x10_2).f1) == ((rd_T78 t375 x10_2).f1)) || (!(((rd_T78 t389 x10_2).f2) == ((rd_T78 t375 x10_2).f2))))) = false := by simpa using c59
             clear c59
             by_cases c61 : x10_2 < (t384.length : Int)
             ·rw [if_pos c61] at H
              have c61b0 : decide (x10_2 < (t384.length : Int)) = true := decide_eq_true c61
              clear c61
              by_cases c62 : ((rd_T78 t384 x10_2).f0) = t388
              ·rw [if_pos c62] at H
               have c62b0 : (((rd_T78 t384 x10_2).f0) == t388) = true := beq_iff_eq.mpr c62
               have c62b1 : (((rd_T78 t384 x10_2).f0) != t388) = false := bne_eq_false_iff_eq.mpr c62
               clear c62
               by_cases c63 : ((rd_T78 t384 x10_2).f1) < t381
               ·rw [if_pos c63] at H
                have c63b0 : decide (((rd_T78 t384 x10_2).f1) < t381) = true := decide_eq_true c63
                clear c63
                obtain rfl := Option.some.inj H
                obtain ⟨Ao64, co64, eo64⟩ := Kd.R_slice HO_8.out
                subst eo64
                have p399 : 0 ≤ (x10_2 : Int) := of_decide_eq_true ‹_›
                have q399 : x10_2 < (t389.length : Int) := of_decide_eq_true ‹_›
                obtain ⟨ad399, e399, hx399_0, hx399_1, hx399_2⟩ := at_T78 (Kd.R_reads' HO_8.out).2.2 x10_2 p399 q399
                cases e399
                replace p399 := eq_true p399
                replace q399 := eq_true q399
                have p400 : 0 ≤ (x10_2 : Int) := of_decide_eq_true ‹_›
                have q400 : x10_2 < (t375.length : Int) := of_decide_eq_true ‹_›
                obtain ⟨ad400, e400, hx400_0, hx400_1, hx400_2⟩ := at_T78 (Kd.R_reads' HO_3.out).2.2 x10_2 p400 q400
                cases e400
                replace p400 := eq_true p400
                replace q400 := eq_true q400
                have p401 : 0 ≤ (x10_2 : Int) := of_decide_eq_true ‹_›
                have q401 : x10_2 < (t384.length : Int) := of_decide_eq_true ‹_›
                obtain ⟨ad401, e401, hx401_0, hx401_1, hx401_2⟩ := at_T78 (Kd.R_reads' HO_5.out).2.2 x10_2 p401 q401
                cases e401
                replace p401 := eq_true p401
                replace q401 := eq_true q401
                have p402 : 0 ≤ (x10_2 : Int) := of_decide_eq_true ‹_›
                have q402 : x10_2 < (t384.length : Int) := of_decide_eq_true ‹_›
                obtain ⟨ad402, e402, hx402_0, hx402_1, hx402_2⟩ := at_T78 (Kd.R_reads' HO_5.out).2.2 x10_2 p402 q402
                obtain rfl : ad401 = ad402 := (by injection e402)
                replace p402 := eq_true p402
                replace q402 := eq_true q402
                have hcz65_0 : wr.cell? ⟨gb383, 0, none⟩ = some (.int .i64 t378) := cC BK383 0
                have hcz65_1 : wr.cell? ⟨gb383, 1, none⟩ = some (.int .i64 t379) := cC BK383 1
                have hcz65_2 : wr.cell? ⟨gb383, 2, none⟩ = some (.int .i64 t380) := cC BK383 2
                have hcz65_3 : wr.cell? ⟨gb383, 3, none⟩ = some (.int .i64 t381) := cC BK383 3
                have hcz65_4 : wr.cell? ⟨gb383, 4, none⟩ = some (.int .i64 t382) := cC BK383 4
                have hfz65_0 := blk_frozen BK383.out 0
                have hfz65_1 := blk_frozen BK383.out 1
                have hfz65_2 := blk_frozen BK383.out 2
                have hfz65_3 := blk_frozen BK383.out 3
                have hfz65_4 := blk_frozen BK383.out 4
                go_wp2
                repeat (go_quiet (fail); try go_wp2)
                go_ret
                exact ⟨by first | rfl | (simp [errW_none, errW_some] <;> rfl) | (simp [*, errW_none, errW_some] <;> rfl), by repeat (first | (with_reducible first | exact HB.out | apply bA | apply bN | apply bD | refine bS ?_ GE383.out) | exact HB.out)⟩
               ·rw [if_neg c63] at H
                have c63b0 : decide (((rd_T78 t384 x10_2).f1) < t381) = false := decide_eq_false c63
                clear c63
                have H' := Aside0.mk H
                clear H
                obtain ⟨Ao66, co66, eo66⟩ := Kd.R_slice HO_8.out
                subst eo66
                have p399 : 0 ≤ (x10_2 : Int) := of_decide_eq_true ‹_›
                have q399 : x10_2 < (t389.length : Int) := of_decide_eq_true ‹_›
                obtain ⟨ad399, e399, hx399_0, hx399_1, hx399_2⟩ := at_T78 (Kd.R_reads' HO_8.out).2.2 x10_2 p399 q399
                cases e399
                replace p399 := eq_true p399
                replace q399 := eq_true q399
                have p400 : 0 ≤ (x10_2 : Int) := of_decide_eq_true ‹_›
                have q400 : x10_2 < (t375.length : Int) := of_decide_eq_true ‹_›
                obtain ⟨ad400, e400, hx400_0, hx400_1, hx400_2⟩ := at_T78 (Kd.R_reads' HO_3.out).2.2 x10_2 p400 q400
                cases e400
                replace p400 := eq_true p400
                replace q400 := eq_true q400
                have p401 : 0 ≤ (x10_2 : Int) := of_decide_eq_true ‹_›
                have q401 : x10_2 < (t384.length : Int) := of_decide_eq_true ‹_›
                obtain ⟨ad401, e401, hx401_0, hx401_1, hx401_2⟩ := at_T78 (Kd.R_reads' HO_5.out).2.2 x10_2 p401 q401
                cases e401
                replace p401 := eq_true p401
                replace q401 := eq_true q401
                have p402 : 0 ≤ (x10_2 : Int) := of_decide_eq_true ‹_›
                have q402 : x10_2 < (t384.length : Int) := of_decide_eq_true ‹_›
                obtain ⟨ad402, e402, hx402_0, hx402_1, hx402_2⟩ := at_T78 (Kd.R_reads' HO_5.out).2.2 x10_2 p402 q402
                obtain rfl : ad401 = ad402 := (by injection e402)
                replace p402 := eq_true p402
                replace q402 := eq_true q402
                have hcz67_0 : wr.cell? ⟨gb383, 0, none⟩ = some (.int .i64 t378) := cC BK383 0
                have hcz67_1 : wr.cell? ⟨gb383, 1, none⟩ = some (.int .i64 t379) := cC BK383 1
                have hcz67_2 : wr.cell? ⟨gb383, 2, none⟩ = some (.int .i64 t380) := cC BK383 2
                have hcz67_3 : wr.cell? ⟨gb383, 3, none⟩ = some (.int .i64 t381) := cC BK383 3
                have hcz67_4 : wr.cell? ⟨gb383, 4, none⟩ = some (.int .i64 t382) := cC BK383 4
                have hfz67_0 := blk_frozen BK383.out 0
                have hfz67_1 := blk_frozen BK383.out 1
                have hfz67_2 := blk_frozen BK383.out 2
                have hfz67_3 := blk_frozen BK383.out 3
                have hfz67_4 := blk_frozen BK383.out 4
                go_wp2
                repeat (go_quiet (fail); try go_wp2)
                go_roundg k2
                case measure => have := HJ14.out; have := HK2.out; omega
                case rel => exact ⟨(wrap64 (x10_2 + 1)), (by first | rfl | (simp; done) | (simp [*]; done)), H', ⟨by have := HJ14.out; have := HK2.out; omega⟩, ⟨by (with_reducible repeat first | apply rA | apply rN | apply rD); exact HO_3.out⟩, ⟨by (with_reducible repeat first | apply rA | apply rN | apply rD); exact HO_5.out⟩, ⟨by (with_reducible repeat first | apply rA | apply rN | apply rD); exact HO_8.out⟩, ⟨by (with_reducible repeat first | refine kN ?_ _ | refine kD ?_ | refine kA ?_ _); exact BK383.out⟩, ⟨by repeat (first | (with_reducible first | exact HB.out | apply bA | apply bN | apply bD | refine bS ?_ GE383.out) | exact HB.out)⟩⟩
              ·rw [if_neg c62] at H
               have c62b0 : (((rd_T78 t384 x10_2).f0) == t388) = false := beq_eq_false_iff_ne.mpr c62
               have c62b1 : (((rd_T78 t384 x10_2).f0) != t388) = true := bne_iff_ne.mpr c62
               have H' := Aside0.mk H
               clear H
               obtain ⟨Ao68, co68, eo68⟩ := Kd.R_slice HO_8.out
               subst eo68
               have p399 : 0 ≤ (x10_2 : Int) := of_decide_eq_true ‹_›
               have q399 : x10_2 < (t389.length : Int) := of_decide_eq_true ‹_›
               obtain ⟨ad399, e399, hx399_0, hx399_1, hx399_2⟩ := at_T78 (Kd.R_reads' HO_8.out).2.2 x10_2 p399 q399
               cases e399
               replace p399 := eq_true p399
               replace q399 := eq_true q399
               have p400 : 0 ≤ (x10_2 : Int) := of_decide_eq_true ‹_›
               have q400 : x10_2 < (t375.length : Int) := of_decide_eq_true ‹_›
               obtain ⟨ad400, e400, hx400_0, hx400_1, hx400_2⟩ := at_T78 (Kd.R_reads' HO_3.out).2.2 x10_2 p400 q400
               cases e400
               replace p400 := eq_true p400
               replace q400 := eq_true q400
               have p401 : 0 ≤ (x10_2 : Int) := of_decide_eq_true ‹_›
               have q401 : x10_2 < (t384.length : Int) := of_decide_eq_true ‹_›
               obtain ⟨ad401, e401, hx401_0, hx401_1, hx401_2⟩ := at_T78 (Kd.R_reads' HO_5.out).2.2 x10_2 p401 q401
               cases e401
               replace p401 := eq_true p401
               replace q401 := eq_true q401
               go_wp2
               repeat (go_quiet (fail); try go_wp2)
               go_roundg k2
               case measure => have := HJ14.out; have := HK2.out; omega
               case rel => exact ⟨(wrap64 (x10_2 + 1)), (by first | rfl | (simp; done) | (simp [*]; done)), H', ⟨by have := HJ14.out; have := HK2.out; omega⟩, ⟨by (with_reducible repeat first | apply rA | apply rN | apply rD); exact HO_3.out⟩, ⟨by (with_reducible repeat first | apply rA | apply rN | apply rD); exact HO_5.out⟩, ⟨by (with_reducible repeat first | apply rA | apply rN | apply rD); exact HO_8.out⟩, ⟨by (with_reducible repeat first | refine kN ?_ _ | refine kD ?_ | refine kA ?_ _); exact BK383.out⟩, ⟨by repeat (first | (with_reducible first | exact HB.out | apply bA | apply bN | apply bD | refine bS ?_ GE383.out) | exact HB.out)⟩⟩
             ·rw [if_neg c61] at H
              exact absurd H (by simp)
           ·rw [if_neg c58] at H
            exact absurd H (by simp)
          ·rw [if_neg c57] at H
           exact absurd H (by simp)
         ·rw [if_neg c56] at H
          have c56b0 : decide (x10_2 < (t389.length : Int)) = false := decide_eq_false c56
          clear c56
          have H' := Aside0.mk H
          clear H
          obtain ⟨Ao69, co69, eo69⟩ := Kd.R_slice HO_8.out
          subst eo69
          go_wp2
          repeat (go_quiet (fail); try go_wp2)
          go_meet
          case rel => exact ⟨_, H', ⟨by have := HJ14.out; have := HK2.out; first | omega | exact Nat.le_refl _⟩, ⟨by (with_reducible repeat first | refine kN ?_ _ | refine kD ?_ | refine kA ?_ _); exact BK383.out⟩, ⟨by repeat (first | (with_reducible first | exact HB.out | apply bA | apply bN | apply bD | refine bS ?_ GE383.out) | exact HB.out)⟩⟩
   ·replace c12 := Bool.eq_false_iff.mpr c12
    subst c12
    have H1 : (if (t384.length : Int) = (t375.length : Int) then (laws_FnShelves.j2 k l0) else (some false)) = some r := by rw [if_neg (show ¬ (false = true) by decide)] at H; exact H
    clear H
    have H := H1
    clear H1
    by_cases c70 : (t384.length : Int) = (t375.length : Int)
    ·rw [if_pos c70] at H
     have c70b0 : ((t384.length : Int) == (t375.length : Int)) = true := beq_iff_eq.mpr c70
     have c70b1 : ((t384.length : Int) != (t375.length : Int)) = false := bne_eq_false_iff_eq.mpr c70
     have c70b2 : (t384.length == t375.length) = true := by first | simpa using c70 | (simp at c70 ⊢; omega)
     clear c70
     have H' := Aside0.mk H
     clear H
     obtain ⟨Ao71, co71, eo71⟩ := Kd.R_slice HO386.out
     subst eo71
     go_wp2
     repeat (go_quiet (fail); try go_wp2)
     go_meet
     case rel => exact ⟨_, H', ⟨by first | omega | exact Nat.le_refl _⟩, ⟨by (with_reducible repeat first | refine kN ?_ _ | refine kD ?_ | refine kA ?_ _); exact BK383.out⟩, ⟨by repeat (first | (with_reducible first | exact HB.out | apply bA | apply bN | apply bD | refine bS ?_ GE383.out) | exact HB.out)⟩⟩
    ·rw [if_neg c70] at H
     have c70b0 : ((t384.length : Int) == (t375.length : Int)) = false := beq_eq_false_iff_ne.mpr c70
     have c70b1 : ((t384.length : Int) != (t375.length : Int)) = true := bne_iff_ne.mpr c70
     have c70b2 : (t384.length == t375.length) = false := by first | simpa using c70 | (simp at c70 ⊢; omega)
     obtain rfl := Option.some.inj H
     obtain ⟨Ao72, co72, eo72⟩ := Kd.R_slice HO386.out
     subst eo72
     go_wp2
     repeat (go_quiet (fail); try go_wp2)
     go_ret
     exact ⟨by first | rfl | (simp [errW_none, errW_some] <;> rfl) | (simp [*, errW_none, errW_some] <;> rfl), by repeat (first | (with_reducible first | exact HB.out | apply bA | apply bN | apply bD | refine bS ?_ GE383.out) | exact HB.out)⟩
  case rest =>
   clear HC6
   try clear c1
   try clear c2
   try clear p2
   try clear c3
   try clear p3
   try clear q3
   try clear hx3
   try clear p4
   try clear q4
   try clear hx4
   try clear c5
   try clear c6
   try clear p6
   try clear c7
   try clear c12
   try clear c22
   try clear c23
   try clear c23b0
   try clear c23b1
   try clear c26
   try clear c26b0
   try clear c26b1
   try clear c29
   try clear c29b0
   try clear c29b1
   try clear c30
   try clear p39
   try clear q39
   try clear hx39
   try clear p40
   try clear q40
   try clear hx40
   try clear c55
   try clear c56
   try clear c56b0
   try clear c57
   try clear c57b0
   try clear c58
   try clear c58b0
   try clear c59
   try clear c59b0
   try clear c61
   try clear c61b0
   try clear c62
   try clear c62b0
   try clear c62b1
   try clear c63
   try clear c63b0
   try clear p64
   try clear c70
   try clear c70b0
   try clear c70b1
   try clear c70b2
   try clear hcz16_0
   try clear hcz16_1
   try clear hcz16_2
   try clear hcz16_3
   try clear hcz16_4
   try clear hcz19_0
   try clear hcz19_1
   try clear hcz19_2
   try clear hcz19_3
   try clear hcz19_4
   try clear hcz34_0
   try clear hcz34_1
   try clear hcz34_2
   try clear hcz34_3
   try clear hcz34_4
   try clear hcz42_0
   try clear hcz42_1
   try clear hcz42_2
   try clear hcz42_3
   try clear hcz42_4
   try clear hcz47_0
   try clear hcz47_1
   try clear hcz47_2
   try clear hcz47_3
   try clear hcz47_4
   try clear hcz52_0
   try clear hcz52_1
   try clear hcz52_2
   try clear hcz52_3
   try clear hcz52_4
   try clear hcz65_0
   try clear hcz65_1
   try clear hcz65_2
   try clear hcz65_3
   try clear hcz65_4
   try clear hcz67_0
   try clear hcz67_1
   try clear hcz67_2
   try clear hcz67_3
   try clear hcz67_4
   try clear hcz9_0
   try clear hcz9_1
   try clear hcz9_2
   try clear hcz9_3
   try clear hcz9_4
   try clear hfz16_0
   try clear hfz16_1
   try clear hfz16_2
   try clear hfz16_3
   try clear hfz16_4
   try clear hfz19_0
   try clear hfz19_1
   try clear hfz19_2
   try clear hfz19_3
   try clear hfz19_4
   try clear hfz34_0
   try clear hfz34_1
   try clear hfz34_2
   try clear hfz34_3
   try clear hfz34_4
   try clear hfz42_0
   try clear hfz42_1
   try clear hfz42_2
   try clear hfz42_3
   try clear hfz42_4
   try clear hfz47_0
   try clear hfz47_1
   try clear hfz47_2
   try clear hfz47_3
   try clear hfz47_4
   try clear hfz52_0
   try clear hfz52_1
   try clear hfz52_2
   try clear hfz52_3
   try clear hfz52_4
   try clear hfz65_0
   try clear hfz65_1
   try clear hfz65_2
   try clear hfz65_3
   try clear hfz65_4
   try clear hfz67_0
   try clear hfz67_1
   try clear hfz67_2
   try clear hfz67_3
   try clear hfz67_4
   try clear hfz9_0
   try clear hfz9_1
   try clear hfz9_2
   try clear hfz9_3
   try clear hfz9_4
   try clear hx399_0
   try clear hx399_1
   try clear hx399_2
   try clear hx400_0
   try clear hx400_1
   try clear hx400_2
   try clear hx401_0
   try clear hx401_1
   try clear hx401_2
   try clear hx402_0
   try clear hx402_1
   try clear hx402_2
   try clear p2
   try clear p399
   try clear p400
   try clear p401
   try clear p402
   try clear p6
   try clear q399
   try clear q400
   try clear q401
   try clear q402
   obtain ⟨kq, HA, HJ5, BK383, HB⟩ := hcut
   cases kq with
   | zero => exact absurd HA.out (by simp [laws_FnShelves.j2])
   | succ kj5 =>
    have H := HA.out
    clear HA
    simp only [laws_FnShelves.j2] at H
    replace H := Option.bind_eq_some_iff.mp H
    obtain ⟨⟨t403, t404⟩, A730, H⟩ := H
    replace H : ((impl_TakeOut.f kj5 t403 t404).bind fun bt407 => (if bt407.2 = true then ((impl_SlotOf.f bt407.1 t404).bind fun t411 => (if t411 = 0 then ((impl_AreSlots.f kj5 bt407.1).bind fun t412 => (some t412)) else (some false))) else (some true))) = some r := H
    have A73 := Aside0.mk A730
    clear A730
    replace H := Option.bind_eq_some_iff.mp H
    obtain ⟨⟨t407, t408⟩, A740, H⟩ := H
    replace H : (if t408 = true then ((impl_SlotOf.f t407 t404).bind fun t411 => (if t411 = 0 then ((impl_AreSlots.f kj5 t407).bind fun t412 => (some t412)) else (some false))) else (some true)) = some r := H
    have A74 := Aside0.mk A740
    clear A740
    by_cases c75 : t408 = true
    ·subst c75
     have H1 : ((impl_SlotOf.f t407 t404).bind fun t411 => (if t411 = 0 then ((impl_AreSlots.f kj5 t407).bind fun t412 => (some t412)) else (some false))) = some r := by rw [if_pos rfl] at H; exact H
     clear H
     have H := H1
     clear H1
     replace H := Option.bind_eq_some_iff.mp H
     obtain ⟨t411, A760, H⟩ := H
     replace H : (if t411 = 0 then ((impl_AreSlots.f kj5 t407).bind fun t412 => (some t412)) else (some false)) = some r := H
     have A76 := Aside0.mk A760
     clear A760
     by_cases c77 : t411 = 0
     ·rw [if_pos c77] at H
      have c77b0 : (t411 == 0) = true := beq_iff_eq.mpr c77
      have c77b1 : (t411 != 0) = false := bne_eq_false_iff_eq.mpr c77
      clear c77
      replace H := Option.bind_eq_some_iff.mp H
      obtain ⟨t412, A780, H⟩ := H
      replace H : (some t412) = some r := H
      have A78 := Aside0.mk A780
      clear A780
      obtain rfl := Option.some.inj H
      go_wp2_with (first | (go_at_call 54; (with_reducible refine (spec_DrawTakeOut.calls kj5 _ _ l0 t403 t404 _ ?side1 ?side2 A73.out).mono ?_); (case side1 => exact qC (Kd.C_below HR0.out HB.out)); (case side2 => exact HC0.out); rintro e w79 ⟨v405, rfl, ho0, hb⟩; have n0_ := Aside0.mk (Kd.R_lower ho0 (below_size (by repeat first | (with_reducible first | exact HB.out | apply bA | apply bN | apply bD | refine bS ?_ GE383.out) | exact HB.out))); have n1_ := Aside0.mk (blk_below (qK BK383) hb); have n2_ := Aside0.mk (below_step (by repeat first | (with_reducible first | exact HB.out | apply bA | apply bN | apply bD | refine bS ?_ GE383.out) | exact HB.out) hb); clear BK383; clear HB; have HO406 := n0_; have BK383 := n1_; have HB := n2_; clear n0_ n1_ n2_; (try clear hb); (try clear hb2); (try clear hk); (try clear hi); (try clear ho0); obtain ⟨Ao80, co80, eo80⟩ := Kd.R_slice HO406.out; subst eo80) | (go_at_call 50; (with_reducible refine (impl_TakeOut.calls kj5 _ _ t403 t404 t407 true _ ?side1 ?side2 A74.out).mono ?_); (case side1 => repeat (first | exact (Kd.R_reads' HO406.out).2.2 | (with_reducible refine Kd.C_alloc ?_ _) | (with_reducible refine Kd.C_drewN ?_ _) | (with_reducible refine Kd.C_drew ?_))); (case side2 => exact (Kd.R_reads' HO406.out).2.1); rintro e w81 ⟨v409, rfl, ho0, hb⟩; have n0_ := Aside0.mk (Kd.R_elder' (qR HO406) (Kd.R_base ho0) hb); have n1_ := Aside0.mk (Kd.R_lower (Kd.R_new' ho0 (Kd.R_lt (qR HO406))) (below_size (by repeat first | (with_reducible first | exact HB.out | apply bA | apply bN | apply bD | refine bS ?_ GE383.out) | exact HB.out))); have n2_ := Aside0.mk (blk_below (qK BK383) hb); have n3_ := Aside0.mk (below_step (by repeat first | (with_reducible first | exact HB.out | apply bA | apply bN | apply bD | refine bS ?_ GE383.out) | exact HB.out) hb); clear HO406; clear BK383; clear HB; have HO406 := n0_; have HO410 := n1_; have BK383 := n2_; have HB := n3_; clear n0_ n1_ n2_ n3_; (try clear hb); (try clear hb2); (try clear hk); (try clear hi); (try clear ho0); obtain ⟨Ao82, co82, eo82⟩ := Kd.R_slice HO410.out; subst eo82) | (go_at_call 49; (with_reducible refine (impl_SlotOf.calls _ _ t407 t404 t411 _ ?side1 ?side2 A76.out).mono ?_); (case side1 => repeat (first | exact (Kd.R_reads' HO410.out).2.2 | (with_reducible refine Kd.C_alloc ?_ _) | (with_reducible refine Kd.C_drewN ?_ _) | (with_reducible refine Kd.C_drew ?_))); (case side2 => exact (Kd.R_reads' HO410.out).2.1); rintro e w83 ⟨rfl, hb⟩; have n0_ := Aside0.mk (Kd.R_below (qR HO406) hb); have n1_ := Aside0.mk (Kd.R_below (qR HO410) hb); have n2_ := Aside0.mk (blk_below (qK BK383) hb); have n3_ := Aside0.mk (below_step (by repeat first | (with_reducible first | exact HB.out | apply bA | apply bN | apply bD | refine bS ?_ GE383.out) | exact HB.out) hb); clear HO406; clear HO410; clear BK383; clear HB; have HO406 := n0_; have HO410 := n1_; have BK383 := n2_; have HB := n3_; clear n0_ n1_ n2_ n3_; (try clear hb); (try clear hb2); (try clear hk); (try clear hi)) | (go_at_call 51; (with_reducible refine (impl_AreSlots.calls kj5 _ _ t407 t412 _ ?side1 ?side2 A78.out).mono ?_); (case side1 => repeat (first | exact (Kd.R_reads' HO410.out).2.2 | (with_reducible refine Kd.C_alloc ?_ _) | (with_reducible refine Kd.C_drewN ?_ _) | (with_reducible refine Kd.C_drew ?_))); (case side2 => exact (Kd.R_reads' HO410.out).2.1); rintro e w84 ⟨rfl, hb⟩; have n0_ := Aside0.mk (Kd.R_below (qR HO406) hb); have n1_ := Aside0.mk (Kd.R_below (qR HO410) hb); have n2_ := Aside0.mk (blk_below (qK BK383) hb); have n3_ := Aside0.mk (below_step (by repeat first | (with_reducible first | exact HB.out | apply bA | apply bN | apply bD | refine bS ?_ GE383.out) | exact HB.out) hb); clear HO406; clear HO410; clear BK383; clear HB; have HO406 := n0_; have HO410 := n1_; have BK383 := n2_; have HB := n3_; clear n0_ n1_ n2_ n3_; (try clear hb); (try clear hb2); (try clear hk); (try clear hi)))
      repeat (go_quiet (first | (go_at_call 54; (with_reducible refine (spec_DrawTakeOut.calls kj5 _ _ l0 t403 t404 _ ?side1 ?side2 A73.out).mono ?_); (case side1 => exact qC (Kd.C_below HR0.out HB.out)); (case side2 => exact HC0.out); rintro e w79 ⟨v405, rfl, ho0, hb⟩; have n0_ := Aside0.mk (Kd.R_lower ho0 (below_size (by repeat first | (with_reducible first | exact HB.out | apply bA | apply bN | apply bD | refine bS ?_ GE383.out) | exact HB.out))); have n1_ := Aside0.mk (blk_below (qK BK383) hb); have n2_ := Aside0.mk (below_step (by repeat first | (with_reducible first | exact HB.out | apply bA | apply bN | apply bD | refine bS ?_ GE383.out) | exact HB.out) hb); clear BK383; clear HB; have HO406 := n0_; have BK383 := n1_; have HB := n2_; clear n0_ n1_ n2_; (try clear hb); (try clear hb2); (try clear hk); (try clear hi); (try clear ho0); obtain ⟨Ao80, co80, eo80⟩ := Kd.R_slice HO406.out; subst eo80) | (go_at_call 50; (with_reducible refine (impl_TakeOut.calls kj5 _ _ t403 t404 t407 true _ ?side1 ?side2 A74.out).mono ?_); (case side1 => repeat (first | exact (Kd.R_reads' HO406.out).2.2 | (with_reducible refine Kd.C_alloc ?_ _) | (with_reducible refine Kd.C_drewN ?_ _) | (with_reducible refine Kd.C_drew ?_))); (case side2 => exact (Kd.R_reads' HO406.out).2.1); rintro e w81 ⟨v409, rfl, ho0, hb⟩; have n0_ := Aside0.mk (Kd.R_elder' (qR HO406) (Kd.R_base ho0) hb); have n1_ := Aside0.mk (Kd.R_lower (Kd.R_new' ho0 (Kd.R_lt (qR HO406))) (below_size (by repeat first | (with_reducible first | exact HB.out | apply bA | apply bN | apply bD | refine bS ?_ GE383.out) | exact HB.out))); have n2_ := Aside0.mk (blk_below (qK BK383) hb); have n3_ := Aside0.mk (below_step (by repeat first | (with_reducible first | exact HB.out | apply bA | apply bN | apply bD | refine bS ?_ GE383.out) | exact HB.out) hb); clear HO406; clear BK383; clear HB; have HO406 := n0_; have HO410 := n1_; have BK383 := n2_; have HB := n3_; clear n0_ n1_ n2_ n3_; (try clear hb); (try clear hb2); (try clear hk); (try clear hi); (try clear ho0); obtain ⟨Ao82, co82, eo82⟩ := Kd.R_slice HO410.out; subst eo82) | (go_at_call 49; (with_reducible refine (impl_SlotOf.calls _ _ t407 t404 t411 _ ?side1 ?side2 A76.out).mono ?_); (case side1 => repeat (first | exact (Kd.R_reads' HO410.out).2.2 | (with_reducible refine Kd.C_alloc ?_ _) | (with_reducible refine Kd.C_drewN ?_ _) | (with_reducible refine Kd.C_drew ?_))); (case side2 => exact (Kd.R_reads' HO410.out).2.1); rintro e w83 ⟨rfl, hb⟩; have n0_ := Aside0.mk (Kd.R_below (qR HO406) hb); have n1_ := Aside0.mk (Kd.R_below (qR HO410) hb); have n2_ := Aside0.mk (blk_below (qK BK383) hb); have n3_ := Aside0.mk (below_step (by repeat first | (with_reducible first | exact HB.out | apply bA | apply bN | apply bD | refine bS ?_ GE383.out) | exact HB.out) hb); clear HO406; clear HO410; clear BK383; clear HB; have HO406 := n0_; have HO410 := n1_; have BK383 := n2_; have HB := n3_; clear n0_ n1_ n2_ n3_; (try clear hb); (try clear hb2); (try clear hk); (try clear hi)) | (go_at_call 51; (with_reducible refine (impl_AreSlots.calls kj5 _ _ t407 t412 _ ?side1 ?side2 A78.out).mono ?_); (case side1 => repeat (first | exact (Kd.R_reads' HO410.out).2.2 | (with_reducible refine Kd.C_alloc ?_ _) | (with_reducible refine Kd.C_drewN ?_ _) | (with_reducible refine Kd.C_drew ?_))); (case side2 => exact (Kd.R_reads' HO410.out).2.1); rintro e w84 ⟨rfl, hb⟩; have n0_ := Aside0.mk (Kd.R_below (qR HO406) hb); have n1_ := Aside0.mk (Kd.R_below (qR HO410) hb); have n2_ := Aside0.mk (blk_below (qK BK383) hb); have n3_ := Aside0.mk (below_step (by repeat first | (with_reducible first | exact HB.out | apply bA | apply bN | apply bD | refine bS ?_ GE383.out) | exact HB.out) hb); clear HO406; clear HO410; clear BK383; clear HB; have HO406 := n0_; have HO410 := n1_; have BK383 := n2_; have HB := n3_; clear n0_ n1_ n2_ n3_; (try clear hb); (try clear hb2); (try clear hk); (try clear hi))); try go_wp2_with (first | (go_at_call 54; (with_reducible refine (spec_DrawTakeOut.calls kj5 _ _ l0 t403 t404 _ ?side1 ?side2 A73.out).mono ?_); (case side1 => exact qC (Kd.C_below HR0.out HB.out)); (case side2 => exact HC0.out); rintro e w79 ⟨v405, rfl, ho0, hb⟩; have n0_ := Aside0.mk (Kd.R_lower ho0 (below_size (by repeat first | (with_reducible first | exact HB.out | apply bA | apply bN | apply bD | refine bS ?_ GE383.out) | exact HB.out))); have n1_ := Aside0.mk (blk_below (qK BK383) hb); have n2_ := Aside0.mk (below_step (by repeat first | (with_reducible first | exact HB.out | apply bA | apply bN | apply bD | refine bS ?_ GE383.out) | exact HB.out) hb); clear BK383; clear HB; have HO406 := n0_; have BK383 := n1_; have HB := n2_; clear n0_ n1_ n2_; (try clear hb); (try clear hb2); (try clear hk); (try clear hi); (try clear ho0); obtain ⟨Ao80, co80, eo80⟩ := Kd.R_slice HO406.out; subst eo80) | (go_at_call 50; (with_reducible refine (impl_TakeOut.calls kj5 _ _ t403 t404 t407 true _ ?side1 ?side2 A74.out).mono ?_); (case side1 => repeat (first | exact (Kd.R_reads' HO406.out).2.2 | (with_reducible refine Kd.C_alloc ?_ _) | (with_reducible refine Kd.C_drewN ?_ _) | (with_reducible refine Kd.C_drew ?_))); (case side2 => exact (Kd.R_reads' HO406.out).2.1); rintro e w81 ⟨v409, rfl, ho0, hb⟩; have n0_ := Aside0.mk (Kd.R_elder' (qR HO406) (Kd.R_base ho0) hb); have n1_ := Aside0.mk (Kd.R_lower (Kd.R_new' ho0 (Kd.R_lt (qR HO406))) (below_size (by repeat first | (with_reducible first | exact HB.out | apply bA | apply bN | apply bD | refine bS ?_ GE383.out) | exact HB.out))); have n2_ := Aside0.mk (blk_below (qK BK383) hb); have n3_ := Aside0.mk (below_step (by repeat first | (with_reducible first | exact HB.out | apply bA | apply bN | apply bD | refine bS ?_ GE383.out) | exact HB.out) hb); clear HO406; clear BK383; clear HB; have HO406 := n0_; have HO410 := n1_; have BK383 := n2_; have HB := n3_; clear n0_ n1_ n2_ n3_; (try clear hb); (try clear hb2); (try clear hk); (try clear hi); (try clear ho0); obtain ⟨Ao82, co82, eo82⟩ := Kd.R_slice HO410.out; subst eo82) | (go_at_call 49; (with_reducible refine (impl_SlotOf.calls _ _ t407 t404 t411 _ ?side1 ?side2 A76.out).mono ?_); (case side1 => repeat (first | exact (Kd.R_reads' HO410.out).2.2 | (with_reducible refine Kd.C_alloc ?_ _) | (with_reducible refine Kd.C_drewN ?_ _) | (with_reducible refine Kd.C_drew ?_))); (case side2 => exact (Kd.R_reads' HO410.out).2.1); rintro e w83 ⟨rfl, hb⟩; have n0_ := Aside0.mk (Kd.R_below (qR HO406) hb); have n1_ := Aside0.mk (Kd.R_below (qR HO410) hb); have n2_ := Aside0.mk (blk_below (qK BK383) hb); have n3_ := Aside0.mk (below_step (by repeat first | (with_reducible first | exact HB.out | apply bA | apply bN | apply bD | refine bS ?_ GE383.out) | exact HB.out) hb); clear HO406; clear HO410; clear BK383; clear HB; have HO406 := n0_; have HO410 := n1_; have BK383 := n2_; have HB := n3_; clear n0_ n1_ n2_ n3_; (try clear hb); (try clear hb2); (try clear hk); (try clear hi)) | (go_at_call 51; (with_reducible refine (impl_AreSlots.calls kj5 _ _ t407 t412 _ ?side1 ?side2 A78.out).mono ?_); (case side1 => repeat (first | exact (Kd.R_reads' HO410.out).2.2 | (with_reducible refine Kd.C_alloc ?_ _) | (with_reducible refine Kd.C_drewN ?_ _) | (with_reducible refine Kd.C_drew ?_))); (case side2 => exact (Kd.R_reads' HO410.out).2.1); rintro e w84 ⟨rfl, hb⟩; have n0_ := Aside0.mk (Kd.R_below (qR HO406) hb); have n1_ := Aside0.mk (Kd.R_below (qR HO410) hb); have n2_ := Aside0.mk (blk_below (qK BK383) hb); have n3_ := Aside0.mk (below_step (by repeat first | (with_reducible first | exact HB.out | apply bA | apply bN | apply bD | refine bS ?_ GE383.out) | exact HB.out) hb); clear HO406; clear HO410; clear BK383; clear HB; have HO406 := n0_; have HO410 := n1_; have BK383 := n2_; have HB := n3_; clear n0_ n1_ n2_ n3_; (try clear hb); (try clear hb2); (try clear hk); (try clear hi))))
      go_ret
      exact ⟨by first | rfl | (simp [errW_none, errW_some] <;> rfl) | (simp [*, errW_none, errW_some] <;> rfl), by repeat (first | (with_reducible first | exact HB.out | apply bA | apply bN | apply bD | refine bS ?_ GE383.out) | exact HB.out)⟩
     ·rw [if_neg c77] at H
      have c77b0 : (t411 == 0) = false := beq_eq_false_iff_ne.mpr c77
      have c77b1 : (t411 != 0) = true := bne_iff_ne.mpr c77
      obtain rfl := Option.some.inj H
      go_wp2_with (first | (go_at_call 54; (with_reducible refine (spec_DrawTakeOut.calls kj5 _ _ l0 t403 t404 _ ?side1 ?side2 A73.out).mono ?_); (case side1 => exact qC (Kd.C_below HR0.out HB.out)); (case side2 => exact HC0.out); rintro e w85 ⟨v405, rfl, ho0, hb⟩; have n0_ := Aside0.mk (Kd.R_lower ho0 (below_size (by repeat first | (with_reducible first | exact HB.out | apply bA | apply bN | apply bD | refine bS ?_ GE383.out) | exact HB.out))); have n1_ := Aside0.mk (blk_below (qK BK383) hb); have n2_ := Aside0.mk (below_step (by repeat first | (with_reducible first | exact HB.out | apply bA | apply bN | apply bD | refine bS ?_ GE383.out) | exact HB.out) hb); clear BK383; clear HB; have HO406 := n0_; have BK383 := n1_; have HB := n2_; clear n0_ n1_ n2_; (try clear hb); (try clear hb2); (try clear hk); (try clear hi); (try clear ho0); obtain ⟨Ao86, co86, eo86⟩ := Kd.R_slice HO406.out; subst eo86) | (go_at_call 50; (with_reducible refine (impl_TakeOut.calls kj5 _ _ t403 t404 t407 true _ ?side1 ?side2 A74.out).mono ?_); (case side1 => repeat (first | exact (Kd.R_reads' HO406.out).2.2 | (with_reducible refine Kd.C_alloc ?_ _) | (with_reducible refine Kd.C_drewN ?_ _) | (with_reducible refine Kd.C_drew ?_))); (case side2 => exact (Kd.R_reads' HO406.out).2.1); rintro e w87 ⟨v409, rfl, ho0, hb⟩; have n0_ := Aside0.mk (Kd.R_elder' (qR HO406) (Kd.R_base ho0) hb); have n1_ := Aside0.mk (Kd.R_lower (Kd.R_new' ho0 (Kd.R_lt (qR HO406))) (below_size (by repeat first | (with_reducible first | exact HB.out | apply bA | apply bN | apply bD | refine bS ?_ GE383.out) | exact HB.out))); have n2_ := Aside0.mk (blk_below (qK BK383) hb); have n3_ := Aside0.mk (below_step (by repeat first | (with_reducible first | exact HB.out | apply bA | apply bN | apply bD | refine bS ?_ GE383.out) | exact HB.out) hb); clear HO406; clear BK383; clear HB; have HO406 := n0_; have HO410 := n1_; have BK383 := n2_; have HB := n3_; clear n0_ n1_ n2_ n3_; (try clear hb); (try clear hb2); (try clear hk); (try clear hi); (try clear ho0); obtain ⟨Ao88, co88, eo88⟩ := Kd.R_slice HO410.out; subst eo88) | (go_at_call 49; (with_reducible refine (impl_SlotOf.calls _ _ t407 t404 t411 _ ?side1 ?side2 A76.out).mono ?_); (case side1 => repeat (first | exact (Kd.R_reads' HO410.out).2.2 | (with_reducible refine Kd.C_alloc ?_ _) | (with_reducible refine Kd.C_drewN ?_ _) | (with_reducible refine Kd.C_drew ?_))); (case side2 => exact (Kd.R_reads' HO410.out).2.1); rintro e w89 ⟨rfl, hb⟩; have n0_ := Aside0.mk (Kd.R_below (qR HO406) hb); have n1_ := Aside0.mk (Kd.R_below (qR HO410) hb); have n2_ := Aside0.mk (blk_below (qK BK383) hb); have n3_ := Aside0.mk (below_step (by repeat first | (with_reducible first | exact HB.out | apply bA | apply bN | apply bD | refine bS ?_ GE383.out) | exact HB.out) hb); clear HO406; clear HO410; clear BK383; clear HB; have HO406 := n0_; have HO410 := n1_; have BK383 := n2_; have HB := n3_; clear n0_ n1_ n2_ n3_; (try clear hb); (try clear hb2); (try clear hk); (try clear hi)))
      repeat (go_quiet (first | (go_at_call 54; (with_reducible refine (spec_DrawTakeOut.calls kj5 _ _ l0 t403 t404 _ ?side1 ?side2 A73.out).mono ?_); (case side1 => exact qC (Kd.C_below HR0.out HB.out)); (case side2 => exact HC0.out); rintro e w85 ⟨v405, rfl, ho0, hb⟩; have n0_ := Aside0.mk (Kd.R_lower ho0 (below_size (by repeat first | (with_reducible first | exact HB.out | apply bA | apply bN | apply bD | refine bS ?_ GE383.out) | exact HB.out))); have n1_ := Aside0.mk (blk_below (qK BK383) hb); have n2_ := Aside0.mk (below_step (by repeat first | (with_reducible first | exact HB.out | apply bA | apply bN | apply bD | refine bS ?_ GE383.out) | exact HB.out) hb); clear BK383; clear HB; have HO406 := n0_; have BK383 := n1_; have HB := n2_; clear n0_ n1_ n2_; (try clear hb); (try clear hb2); (try clear hk); (try clear hi); (try clear ho0); obtain ⟨Ao86, co86, eo86⟩ := Kd.R_slice HO406.out; subst eo86) | (go_at_call 50; (with_reducible refine (impl_TakeOut.calls kj5 _ _ t403 t404 t407 true _ ?side1 ?side2 A74.out).mono ?_); (case side1 => repeat (first | exact (Kd.R_reads' HO406.out).2.2 | (with_reducible refine Kd.C_alloc ?_ _) | (with_reducible refine Kd.C_drewN ?_ _) | (with_reducible refine Kd.C_drew ?_))); (case side2 => exact (Kd.R_reads' HO406.out).2.1); rintro e w87 ⟨v409, rfl, ho0, hb⟩; have n0_ := Aside0.mk (Kd.R_elder' (qR HO406) (Kd.R_base ho0) hb); have n1_ := Aside0.mk (Kd.R_lower (Kd.R_new' ho0 (Kd.R_lt (qR HO406))) (below_size (by repeat first | (with_reducible first | exact HB.out | apply bA | apply bN | apply bD | refine bS ?_ GE383.out) | exact HB.out))); have n2_ := Aside0.mk (blk_below (qK BK383) hb); have n3_ := Aside0.mk (below_step (by repeat first | (with_reducible first | exact HB.out | apply bA | apply bN | apply bD | refine bS ?_ GE383.out) | exact HB.out) hb); clear HO406; clear BK383; clear HB; have HO406 := n0_; have HO410 := n1_; have BK383 := n2_; have HB := n3_; clear n0_ n1_ n2_ n3_; (try clear hb); (try clear hb2); (try clear hk); (try clear hi); (try clear ho0); obtain ⟨Ao88, co88, eo88⟩ := Kd.R_slice HO410.out; subst eo88) | (go_at_call 49; (with_reducible refine (impl_SlotOf.calls _ _ t407 t404 t411 _ ?side1 ?side2 A76.out).mono ?_); (case side1 => repeat (first | exact (Kd.R_reads' HO410.out).2.2 | (with_reducible refine Kd.C_alloc ?_ _) | (with_reducible refine Kd.C_drewN ?_ _) | (with_reducible refine Kd.C_drew ?_))); (case side2 => exact (Kd.R_reads' HO410.out).2.1); rintro e w89 ⟨rfl, hb⟩; have n0_ := Aside0.mk (Kd.R_below (qR HO406) hb); have n1_ := Aside0.mk (Kd.R_below (qR HO410) hb); have n2_ := Aside0.mk (blk_below (qK BK383) hb); have n3_ := Aside0.mk (below_step (by repeat first | (with_reducible first | exact HB.out | apply bA | apply bN | apply bD | refine bS ?_ GE383.out) | exact HB.out) hb); clear HO406; clear HO410; clear BK383; clear HB; have HO406 := n0_; have HO410 := n1_; have BK383 := n2_; have HB := n3_; clear n0_ n1_ n2_ n3_; (try clear hb); (try clear hb2); (try clear hk); (try clear hi))); try go_wp2_with (first | (go_at_call 54; (with_reducible refine (spec_DrawTakeOut.calls kj5 _ _ l0 t403 t404 _ ?side1 ?side2 A73.out).mono ?_); (case side1 => exact qC (Kd.C_below HR0.out HB.out)); (case side2 => exact HC0.out); rintro e w85 ⟨v405, rfl, ho0, hb⟩; have n0_ := Aside0.mk (Kd.R_lower ho0 (below_size (by repeat first | (with_reducible first | exact HB.out | apply bA | apply bN | apply bD | refine bS ?_ GE383.out) | exact HB.out))); have n1_ := Aside0.mk (blk_below (qK BK383) hb); have n2_ := Aside0.mk (below_step (by repeat first | (with_reducible first | exact HB.out | apply bA | apply bN | apply bD | refine bS ?_ GE383.out) | exact HB.out) hb); clear BK383; clear HB; have HO406 := n0_; have BK383 := n1_; have HB := n2_; clear n0_ n1_ n2_; (try clear hb); (try clear hb2); (try clear hk); (try clear hi); (try clear ho0); obtain ⟨Ao86, co86, eo86⟩ := Kd.R_slice HO406.out; subst eo86) | (go_at_call 50; (with_reducible refine (impl_TakeOut.calls kj5 _ _ t403 t404 t407 true _ ?side1 ?side2 A74.out).mono ?_); (case side1 => repeat (first | exact (Kd.R_reads' HO406.out).2.2 | (with_reducible refine Kd.C_alloc ?_ _) | (with_reducible refine Kd.C_drewN ?_ _) | (with_reducible refine Kd.C_drew ?_))); (case side2 => exact (Kd.R_reads' HO406.out).2.1); rintro e w87 ⟨v409, rfl, ho0, hb⟩; have n0_ := Aside0.mk (Kd.R_elder' (qR HO406) (Kd.R_base ho0) hb); have n1_ := Aside0.mk (Kd.R_lower (Kd.R_new' ho0 (Kd.R_lt (qR HO406))) (below_size (by repeat first | (with_reducible first | exact HB.out | apply bA | apply bN | apply bD | refine bS ?_ GE383.out) | exact HB.out))); have n2_ := Aside0.mk (blk_below (qK BK383) hb); have n3_ := Aside0.mk (below_step (by repeat first | (with_reducible first | exact HB.out | apply bA | apply bN | apply bD | refine bS ?_ GE383.out) | exact HB.out) hb); clear HO406; clear BK383; clear HB; have HO406 := n0_; have HO410 := n1_; have BK383 := n2_; have HB := n3_; clear n0_ n1_ n2_ n3_; (try clear hb); (try clear hb2); (try clear hk); (try clear hi); (try clear ho0); obtain ⟨Ao88, co88, eo88⟩ := Kd.R_slice HO410.out; subst eo88) | (go_at_call 49; (with_reducible refine (impl_SlotOf.calls _ _ t407 t404 t411 _ ?side1 ?side2 A76.out).mono ?_); (case side1 => repeat (first | exact (Kd.R_reads' HO410.out).2.2 | (with_reducible refine Kd.C_alloc ?_ _) | (with_reducible refine Kd.C_drewN ?_ _) | (with_reducible refine Kd.C_drew ?_))); (case side2 => exact (Kd.R_reads' HO410.out).2.1); rintro e w89 ⟨rfl, hb⟩; have n0_ := Aside0.mk (Kd.R_below (qR HO406) hb); have n1_ := Aside0.mk (Kd.R_below (qR HO410) hb); have n2_ := Aside0.mk (blk_below (qK BK383) hb); have n3_ := Aside0.mk (below_step (by repeat first | (with_reducible first | exact HB.out | apply bA | apply bN | apply bD | refine bS ?_ GE383.out) | exact HB.out) hb); clear HO406; clear HO410; clear BK383; clear HB; have HO406 := n0_; have HO410 := n1_; have BK383 := n2_; have HB := n3_; clear n0_ n1_ n2_ n3_; (try clear hb); (try clear hb2); (try clear hk); (try clear hi))))
      go_ret
      exact ⟨by first | rfl | (simp [errW_none, errW_some] <;> rfl) | (simp [*, errW_none, errW_some] <;> rfl), by repeat (first | (with_reducible first | exact HB.out | apply bA | apply bN | apply bD | refine bS ?_ GE383.out) | exact HB.out)⟩
    ·replace c75 := Bool.eq_false_iff.mpr c75
     subst c75
     have H1 : (some true) = some r := by rw [if_neg (show ¬ (false = true) by decide)] at H; exact H
     clear H
     have H := H1
     clear H1
     obtain rfl := Option.some.inj H
     go_wp2_with (first | (go_at_call 54; (with_reducible refine (spec_DrawTakeOut.calls kj5 _ _ l0 t403 t404 _ ?side1 ?side2 A73.out).mono ?_); (case side1 => exact qC (Kd.C_below HR0.out HB.out)); (case side2 => exact HC0.out); rintro e w90 ⟨v405, rfl, ho0, hb⟩; have n0_ := Aside0.mk (Kd.R_lower ho0 (below_size (by repeat first | (with_reducible first | exact HB.out | apply bA | apply bN | apply bD | refine bS ?_ GE383.out) | exact HB.out))); have n1_ := Aside0.mk (blk_below (qK BK383) hb); have n2_ := Aside0.mk (below_step (by repeat first | (with_reducible first | exact HB.out | apply bA | apply bN | apply bD | refine bS ?_ GE383.out) | exact HB.out) hb); clear BK383; clear HB; have HO406 := n0_; have BK383 := n1_; have HB := n2_; clear n0_ n1_ n2_; (try clear hb); (try clear hb2); (try clear hk); (try clear hi); (try clear ho0); obtain ⟨Ao91, co91, eo91⟩ := Kd.R_slice HO406.out; subst eo91) | (go_at_call 50; (with_reducible refine (impl_TakeOut.calls kj5 _ _ t403 t404 t407 false _ ?side1 ?side2 A74.out).mono ?_); (case side1 => repeat (first | exact (Kd.R_reads' HO406.out).2.2 | (with_reducible refine Kd.C_alloc ?_ _) | (with_reducible refine Kd.C_drewN ?_ _) | (with_reducible refine Kd.C_drew ?_))); (case side2 => exact (Kd.R_reads' HO406.out).2.1); rintro e w92 ⟨v409, rfl, ho0, hb⟩; have n0_ := Aside0.mk (Kd.R_elder' (qR HO406) (Kd.R_base ho0) hb); have n1_ := Aside0.mk (Kd.R_lower (Kd.R_new' ho0 (Kd.R_lt (qR HO406))) (below_size (by repeat first | (with_reducible first | exact HB.out | apply bA | apply bN | apply bD | refine bS ?_ GE383.out) | exact HB.out))); have n2_ := Aside0.mk (blk_below (qK BK383) hb); have n3_ := Aside0.mk (below_step (by repeat first | (with_reducible first | exact HB.out | apply bA | apply bN | apply bD | refine bS ?_ GE383.out) | exact HB.out) hb); clear HO406; clear BK383; clear HB; have HO406 := n0_; have HO410 := n1_; have BK383 := n2_; have HB := n3_; clear n0_ n1_ n2_ n3_; (try clear hb); (try clear hb2); (try clear hk); (try clear hi); (try clear ho0)))
     repeat (go_quiet (first | (go_at_call 54; (with_reducible refine (spec_DrawTakeOut.calls kj5 _ _ l0 t403 t404 _ ?side1 ?side2 A73.out).mono ?_); (case side1 => exact qC (Kd.C_below HR0.out HB.out)); (case side2 => exact HC0.out); rintro e w90 ⟨v405, rfl, ho0, hb⟩; have n0_ := Aside0.mk (Kd.R_lower ho0 (below_size (by repeat first | (with_reducible first | exact HB.out | apply bA | apply bN | apply bD | refine bS ?_ GE383.out) | exact HB.out))); have n1_ := Aside0.mk (blk_below (qK BK383) hb); have n2_ := Aside0.mk (below_step (by repeat first | (with_reducible first | exact HB.out | apply bA | apply bN | apply bD | refine bS ?_ GE383.out) | exact HB.out) hb); clear BK383; clear HB; have HO406 := n0_; have BK383 := n1_; have HB := n2_; clear n0_ n1_ n2_; (try clear hb); (try clear hb2); (try clear hk); (try clear hi); (try clear ho0); obtain ⟨Ao91, co91, eo91⟩ := Kd.R_slice HO406.out; subst eo91) | (go_at_call 50; (with_reducible refine (impl_TakeOut.calls kj5 _ _ t403 t404 t407 false _ ?side1 ?side2 A74.out).mono ?_); (case side1 => repeat (first | exact (Kd.R_reads' HO406.out).2.2 | (with_reducible refine Kd.C_alloc ?_ _) | (with_reducible refine Kd.C_drewN ?_ _) | (with_reducible refine Kd.C_drew ?_))); (case side2 => exact (Kd.R_reads' HO406.out).2.1); rintro e w92 ⟨v409, rfl, ho0, hb⟩; have n0_ := Aside0.mk (Kd.R_elder' (qR HO406) (Kd.R_base ho0) hb); have n1_ := Aside0.mk (Kd.R_lower (Kd.R_new' ho0 (Kd.R_lt (qR HO406))) (below_size (by repeat first | (with_reducible first | exact HB.out | apply bA | apply bN | apply bD | refine bS ?_ GE383.out) | exact HB.out))); have n2_ := Aside0.mk (blk_below (qK BK383) hb); have n3_ := Aside0.mk (below_step (by repeat first | (with_reducible first | exact HB.out | apply bA | apply bN | apply bD | refine bS ?_ GE383.out) | exact HB.out) hb); clear HO406; clear BK383; clear HB; have HO406 := n0_; have HO410 := n1_; have BK383 := n2_; have HB := n3_; clear n0_ n1_ n2_ n3_; (try clear hb); (try clear hb2); (try clear hk); (try clear hi); (try clear ho0))); try go_wp2_with (first | (go_at_call 54; (with_reducible refine (spec_DrawTakeOut.calls kj5 _ _ l0 t403 t404 _ ?side1 ?side2 A73.out).mono ?_); (case side1 => exact qC (Kd.C_below HR0.out HB.out)); (case side2 => exact HC0.out); rintro e w90 ⟨v405, rfl, ho0, hb⟩; have n0_ := Aside0.mk (Kd.R_lower ho0 (below_size (by repeat first | (with_reducible first | exact HB.out | apply bA | apply bN | apply bD | refine bS ?_ GE383.out) | exact HB.out))); have n1_ := Aside0.mk (blk_below (qK BK383) hb); have n2_ := Aside0.mk (below_step (by repeat first | (with_reducible first | exact HB.out | apply bA | apply bN | apply bD | refine bS ?_ GE383.out) | exact HB.out) hb); clear BK383; clear HB; have HO406 := n0_; have BK383 := n1_; have HB := n2_; clear n0_ n1_ n2_; (try clear hb); (try clear hb2); (try clear hk); (try clear hi); (try clear ho0); obtain ⟨Ao91, co91, eo91⟩ := Kd.R_slice HO406.out; subst eo91) | (go_at_call 50; (with_reducible refine (impl_TakeOut.calls kj5 _ _ t403 t404 t407 false _ ?side1 ?side2 A74.out).mono ?_); (case side1 => repeat (first | exact (Kd.R_reads' HO406.out).2.2 | (with_reducible refine Kd.C_alloc ?_ _) | (with_reducible refine Kd.C_drewN ?_ _) | (with_reducible refine Kd.C_drew ?_))); (case side2 => exact (Kd.R_reads' HO406.out).2.1); rintro e w92 ⟨v409, rfl, ho0, hb⟩; have n0_ := Aside0.mk (Kd.R_elder' (qR HO406) (Kd.R_base ho0) hb); have n1_ := Aside0.mk (Kd.R_lower (Kd.R_new' ho0 (Kd.R_lt (qR HO406))) (below_size (by repeat first | (with_reducible first | exact HB.out | apply bA | apply bN | apply bD | refine bS ?_ GE383.out) | exact HB.out))); have n2_ := Aside0.mk (blk_below (qK BK383) hb); have n3_ := Aside0.mk (below_step (by repeat first | (with_reducible first | exact HB.out | apply bA | apply bN | apply bD | refine bS ?_ GE383.out) | exact HB.out) hb); clear HO406; clear BK383; clear HB; have HO406 := n0_; have HO410 := n1_; have BK383 := n2_; have HB := n3_; clear n0_ n1_ n2_ n3_; (try clear hb); (try clear hb2); (try clear hk); (try clear hi); (try clear ho0))))
     go_ret
     exact ⟨by first | rfl | (simp [errW_none, errW_some] <;> rfl) | (simp [*, errW_none, errW_some] <;> rfl), by repeat (first | (with_reducible first | exact HB.out | apply bA | apply bN | apply bD | refine bS ?_ GE383.out) | exact HB.out)⟩

/-- THE ONE PURE STATEMENT of laws_FnShelves: yours. -/
def laws_FnShelves.Pure : Prop := ∀ (l0 : List Int), l0.length ≤ maxLen → l0.length * 1 ≤ 140737488351232 → (∀ x ∈ l0, (Lit.int .u8 x).wf = true) → ∃ k, laws_FnShelves.f k l0 = some true
theorem laws_FnShelves.walk (P : laws_FnShelves.Pure) (a0 : Option Addr) (len0 cap0 : Nat) (z0 : List Int) (w : World) (w0 : (a0 = none ∧ len0 = 0 ∧ cap0 = 0 ∧ z0 = []) ∨ ∃ x, a0 = some x ∧ len0 ≤ cap0 ∧ cap0 ≤ maxLen ∧ z0.length = cap0 ∧ (∀ i, i < z0.length → w.cell? (x.add i) = some (.int .u8 (z0.getD i 0))) ∧ ∀ n ∈ z0, (Lit.int .u8 n).wf = true) (y0 : len0 * 1 ≤ 140737488351232) :
  Calls Try.prog 7 #[.slice a0 len0 cap0] w fun e w' => e = .returned (.bool true) ∧ Below w.heap.size w w' := by
 obtain ⟨l0, rfl, hr0, hm0, hw0, hc0⟩ := ReadsInt.ofRowC w0
 obtain ⟨k, h⟩ := P l0 hm0 y0 hw0
 refine (laws_FnShelves.calls k _ _ l0 true w (Kd.C_of_reads (d := (0 : Int)) (h1 := fun _ => rfl) hr0) hc0 h).mono ?_
 rintro e w' ⟨rfl, hd⟩
 exact ⟨rfl, hd⟩

end Go.Proofs.Ytkfalbaklodnjaa.PFnShelves
