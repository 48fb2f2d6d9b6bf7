import Derived.Test.YtacnlodcbbhahaaQFnActsx0
namespace Go.Proofs.Ytacnlodcbbhahaa.QFnActs
open Go.RowKit Go.Proofs.YtacnlodcbbhahaaW.PrintWords Go.Proofs.YtacnlodcbbhahaaW.PrintLast Go.Proofs.YtacnlodcbbhahaaW.PrintMore
set_option maxHeartbeats 8000000
set_option maxRecDepth 100000
set_option linter.unusedVariables false
set_option linter.unusedSimpArgs false
def spec_l01In.f (a0 : Int) (a1 : Int) (a2 : Int) : Option (Bool) := if a0 ≥ a1 then (some (decide (a0 ≤ a2))) else (some false)
theorem spec_l01In.calls (c : Int) (d : Int) (i : Int) (r : Bool) (w : World) (h : spec_l01In.f c d i = some r) :
  Calls Try.prog 64 #[.int .i64 c, .int .i64 d, .int .i64 i] w fun e w' => e = .returned (.bool r) ∧ Drawn0 w w' := by
 rw [spec_l01In.f] at h; have H := h; clear h
 refine jc_ H ?_ ?_ <;> clear H <;> intro g H
 ·have a : decide (d ≤ c) = true := decide_eq_true g
  clear g
  obtain rfl := oi_ H
  go_enter Try.func64, Try.ntmps64
  go_wp2
  go_ret
  exact ⟨by first | rfl | (simp; done) | (simp [*]; done), by repeat (first | exact Drawn0.refl _ | apply Drawn0.step)⟩
 have a : decide (d ≤ c) = false := decide_eq_false g
 clear g
 obtain rfl := oi_ H
 go_enter Try.func64, Try.ntmps64
 go_wp2
 go_ret
 exact ⟨by first | rfl | (simp; done) | (simp [*]; done), by repeat (first | exact Drawn0.refl _ | apply Drawn0.step)⟩
def spec_l03Name.f (a0 : ByteArray) : Option (Bool) := (spec_l01In.f (a0.size : Int) 1 8).bind fun t145 => (some t145)
theorem spec_l03Name.calls (a : ByteArray) (r : Bool) (w : World) (h : spec_l03Name.f a = some r) :
  Calls Try.prog 82 #[.string a] w fun e w' => e = .returned (.bool r) ∧ Drawn0 w w' := by
 rw [spec_l03Name.f] at h; have H := h; clear h
 obtain ⟨c, d, H⟩ := bs_ H
 obtain rfl := oi_ H
 go_enter Try.func82, Try.ntmps82
 go_wp2_with (first | ((with_reducible refine gc_ 64 ?_); refine gl_ (some 5) Try.func64 #[.int .i64 (a.size : Int), .int .i64 1, .int .i64 8] ?_; (with_reducible refine (spec_l01In.calls (a.size : Int) 1 8 c _ d.out).mono ?_); rintro e w' ⟨rfl, ⟨nd, rfl⟩⟩; refine ⟨_, rfl, ?_⟩))
 go_ret
 exact ⟨by first | rfl | (simp; done) | (simp [*]; done), by repeat (first | exact Drawn0.refl _ | apply Drawn0.step)⟩
end Go.Proofs.Ytacnlodcbbhahaa.QFnActs
