/-
  Short names for what the printed walks say often.
-/
import Derived.Test.YtjokfllhbmodeaaWWords
namespace Go.Proofs.Ytjokfllhbmodeaa.Short
def bRgo : Bool → List Nat → List Bool
  | _, [] => []
  | b, n :: r => List.replicate n b ++ bRgo (!b) r
/-- A row of Bools by its runs, true first. -/
def bR (l : List Nat) : Array Bool := (bRgo true l).toArray
theorem sA {α : Type} (l : List α) (i : Nat) (a : α) : l.toArray.setIfInBounds i a = (l.set i a).toArray := List.setIfInBounds_toArray l i a
theorem sZ {α : Type} {x y : α} {xs : List α} : (x :: xs).set 0 y = y :: xs := List.set_cons_zero
theorem sS {α : Type} {x y : α} {xs : List α} {i : Nat} : (x :: xs).set (i + 1) y = x :: xs.set i y := List.set_cons_succ
end Go.Proofs.Ytjokfllhbmodeaa.Short
