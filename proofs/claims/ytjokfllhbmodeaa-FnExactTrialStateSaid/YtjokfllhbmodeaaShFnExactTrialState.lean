/-
  The words of the pure statement of loop.example/g03007/laws.FnExactTrialState: the argument's kinds that the contract does not name, and that its numbers fit.
-/
import Derived.Test.YtjokfllhbmodeaaPFnExactTrialStatex5
namespace Go.Proofs.Ytjokfllhbmodeaa.PFnExactTrialState.Pure
open Go.RowKit Go.Proofs.YtjokfllhbmodeaaW.PrintWords Go.Proofs.Ytjokfllhbmodeaa.PFnExactTrialState
structure S88 where
  f0 : Int
  f1 : Int
  f2 : Int
  f3 : Int
def k88 : Kd S88 := Kd.iso (Kd.pair (Kd.int .i64) (Kd.pair (Kd.int .i64) (Kd.pair (Kd.int .i64) (Kd.int .i64)))) (fun x : S88 => (x.f0, x.f1, x.f2, x.f3))
theorem k88_open {w : World} {x : S88} {cs : List Value} (h : k88.K w x cs) : cs = [.int .i64 x.f0, .int .i64 x.f1, .int .i64 x.f2, .int .i64 x.f3] := by
  obtain ⟨_, _, rfl, rfl, ⟨_, _, rfl, rfl, ⟨_, _, rfl, rfl, rfl⟩⟩⟩ := h
  exact rfl
def ok130 (y : S130) : Prop := (fun n : Int => (Lit.int .i64 n).wf = true) y.f0 ∧ (fun n : Int => (Lit.int .i64 n).wf = true) y.f1
def ok88 (y : S88) : Prop := (fun n : Int => (Lit.int .i64 n).wf = true) y.f0 ∧ (fun n : Int => (Lit.int .i64 n).wf = true) y.f1 ∧ (fun n : Int => (Lit.int .i64 n).wf = true) y.f2 ∧ (fun n : Int => (Lit.int .i64 n).wf = true) y.f3
end Go.Proofs.Ytjokfllhbmodeaa.PFnExactTrialState.Pure
