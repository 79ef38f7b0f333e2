/-
  Short names for what the printed walks say often.
-/
import Derived.Test.YtlodmdmcgalkmaaWWords
namespace Go.Proofs.Ytlodmdmcgalkmaa.Short
def bRgo : Bool → List Nat → List Bool
  | _, [] => []
  | b, n :: r => List.replicate n b ++ bRgo (!b) r
def bR (l : List Nat) : Array Bool := (bRgo true l).toArray
theorem sA {α : Type} (l : List α) (i : Nat) (a : α) : l.toArray.setIfInBounds i a = (l.set i a).toArray := List.setIfInBounds_toArray l i a
theorem sZ {α : Type} {x y : α} {xs : List α} : (x :: xs).set 0 y = y :: xs := List.set_cons_zero
theorem sS {α : Type} {x y : α} {xs : List α} {i : Nat} : (x :: xs).set (i + 1) y = x :: xs.set i y := List.set_cons_succ
theorem mA {α β : Type} {f : α → β} {l : List α} : l.toArray.map f = (l.map f).toArray := List.map_toArray
theorem mC {α β : Type} {f : α → β} {a : α} {l : List α} : (a :: l).map f = f a :: l.map f := List.map_cons
theorem mN {α β : Type} {f : α → β} : ([] : List α).map f = [] := List.map_nil
theorem lD {α : Type} {i : Nat} {l : List α} : (l.drop i).length = l.length - i := List.length_drop
theorem lT {α : Type} {i : Nat} {l : List α} : (l.take i).length = min i l.length := List.length_take
open Go.RowKit Go.Proofs.YtlodmdmcgalkmaaW.PrintWords
class inductive Mv : World → World → Prop where
  | refl (w : World) : Mv w w
  | alloc {w w' : World} (o : Obj) (h : Mv w w') : Mv w (w'.alloc o)
  | drewN {w w' : World} (n : Nat) (h : Mv w w') : Mv w (w'.drewN n)
  | drew {w w' : World} (h : Mv w w') : Mv w w'.drew
instance mvRefl (w : World) : Mv w w := Mv.refl w
instance mvAlloc (w w' : World) (o : Obj) [h : Mv w w'] : Mv w (w'.alloc o) := Mv.alloc o h
instance mvDrewN (w w' : World) (n : Nat) [h : Mv w w'] : Mv w (w'.drewN n) := Mv.drewN n h
instance mvDrew (w w' : World) [h : Mv w w'] : Mv w w'.drew := Mv.drew h
theorem qR {α : Type} {d : Kd α} {e base : Nat} {ok : Nat → Prop} {w w' : World} {v : Value} {xs : List α} (h : Aside0 (d.R e w base ok v xs)) [m : Mv w w'] : d.R e w' base ok v xs := by
  induction m with
  | refl => exact h.out
  | alloc o _ ih => exact Kd.R_alloc ih o
  | drewN n _ ih => exact Kd.R_drewN ih n
  | drew _ ih => exact Kd.R_drew ih
theorem qB {B : Nat} {u w w' : World} (h : Aside0 (Below B u w)) [m : Mv w w'] (hB : B = u.heap.size := by rfl) : Below B u w' := by
  subst hB
  induction m with
  | refl => exact h.out
  | alloc o _ ih => exact below_alloc ih o
  | drewN n _ ih => exact pw_below_drewN ih n
  | drew _ ih => exact below_drew ih
theorem qK {w w' : World} {g : Nat} {o : Obj} (h : Aside0 (w.heap[g]? = some o)) [m : Mv w w'] : w'.heap[g]? = some o := by
  induction m with
  | refl => exact h.out
  | alloc o' _ ih => exact blk_alloc ih o'
  | drewN n _ ih => exact blk_drewN ih n
  | drew _ ih => exact blk_drew ih
theorem qC {α : Type} {d : Kd α} {w w' : World} {A : Option Addr} {n : Nat} {xs : List α} (h : d.C w A n xs) [m : Mv w w'] : d.C w' A n xs := by
  induction m with
  | refl => exact h
  | alloc o _ ih => exact Kd.C_alloc ih o
  | drewN n _ ih => exact Kd.C_drewN ih n
  | drew _ ih => exact Kd.C_drew ih
end Go.Proofs.Ytlodmdmcgalkmaa.Short
