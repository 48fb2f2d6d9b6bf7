import Derived.Test.YtacnlodcbbhahaaQFnActsx0
namespace Go.Proofs.Ytacnlodcbbhahaa.QFnActs
open Go.RowKit Go.Proofs.YtacnlodcbbhahaaW.PrintWords Go.Proofs.YtacnlodcbbhahaaW.PrintLast Go.Proofs.YtacnlodcbbhahaaW.PrintMore
set_option maxHeartbeats 8000000
set_option maxRecDepth 100000
set_option linter.unusedVariables false
set_option linter.unusedSimpArgs false
def impl_in.f (a0 : Int) (a1 : Int) (a2 : Int) : Option (Bool) := if a0 ≥ a1 then (some (decide (a0 ≤ a2))) else (some false)
theorem impl_in.calls (c : Int) (d : Int) (i : Int) (r : Bool) (w : World) (h : impl_in.f c d i = some r) :
  Calls Try.prog 69 #[.int .i64 c, .int .i64 d, .int .i64 i] w fun e w' => e = .returned (.bool r) ∧ Drawn0 w w' := by
 rw [impl_in.f] at h; have H := h; clear h
 refine jc_ H ?_ ?_ <;> clear H <;> intro g H
 ·have a : decide (d ≤ c) = true := decide_eq_true g
  clear g
  obtain rfl := oi_ H
  go_enter Try.func69, Try.ntmps69
  go_wp2
  go_ret
  exact ⟨by first | rfl | (simp; done) | (simp [*]; done), by repeat (first | exact Drawn0.refl _ | apply Drawn0.step)⟩
 have a : decide (d ≤ c) = false := decide_eq_false g
 clear g
 obtain rfl := oi_ H
 go_enter Try.func69, Try.ntmps69
 go_wp2
 go_ret
 exact ⟨by first | rfl | (simp; done) | (simp [*]; done), by repeat (first | exact Drawn0.refl _ | apply Drawn0.step)⟩
end Go.Proofs.Ytacnlodcbbhahaa.QFnActs
