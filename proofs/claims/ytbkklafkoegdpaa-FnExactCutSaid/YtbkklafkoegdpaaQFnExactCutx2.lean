import Derived.Test.YtbkklafkoegdpaaQFnExactCutx1
namespace Go.Proofs.Ytbkklafkoegdpaa.QFnExactCut
open Go.RowKit Go.Proofs.YtbkklafkoegdpaaW.PrintWords Go.Proofs.YtbkklafkoegdpaaW.PrintLast Go.Proofs.YtbkklafkoegdpaaW.PrintMore
set_option linter.unusedVariables false
set_option linter.unusedSimpArgs false
def spec_TourOk.l0 : Nat → List Int → Int → Option (Bool)
  | 0, _, _ => none
  | k + 1, x0, x3 => if x3 < (x0.length : Int) then (if 0 ≤ x3 then ((spec_l01In.f (rd x0 x3) 0 11).bind fun t138 => (if t138 = true then (spec_TourOk.l0 k x0 (wrap64 (x3 + 1))) else (some false))) else (none)) else ((spec_l06Open.f k x0).bind fun t139 => (some t139))
def spec_TourOk.f (k : Nat) (l0 : List Int) : Option (Bool) := (spec_l01In.f (l0.length : Int) 1 23).bind fun t136 => (if t136 = true then (spec_TourOk.l0 k l0 0) else (some false))
theorem spec_TourOk.mono_l : ∀ k, (∀ y0 y1, LeO (spec_TourOk.l0 k y0 y1) (spec_TourOk.l0 (k + 1) y0 y1))
  | 0 => fun _ _ r h => by simp [spec_TourOk.l0] at h
  | k + 1 => by
    have ih0 := spec_TourOk.mono_l k
    · intro y0 y1
      unfold spec_TourOk.l0
      repeat' first | (with_reducible first | exact ih0 _ _ | exact spec_l06Open.mono _ _ | exact LeO.refl _ | exact LeO.none _ | refine LeO.ite ?_ ?_ | refine LeO.bind ?_ (fun _ => ?_)) | exact LeO.none _ | refine LeO.ite ?_ ?_ | refine LeO.bind ?_ (fun _ => ?_)
theorem spec_TourOk.mono : ∀ a0 k, LeO (spec_TourOk.f k a0) (spec_TourOk.f (k + 1) a0) := by
  intro a0 k
  have ih0 := spec_TourOk.mono_l k
  unfold spec_TourOk.f
  repeat' first | (with_reducible first | exact ih0 _ _ | exact spec_l06Open.mono _ _ | exact LeO.refl _ | exact LeO.none _ | refine LeO.ite ?_ ?_ | refine LeO.bind ?_ (fun _ => ?_)) | exact LeO.none _ | refine LeO.ite ?_ ?_ | refine LeO.bind ?_ (fun _ => ?_)
set_option maxHeartbeats 8000000 in
set_option maxRecDepth 100000 in
theorem spec_TourOk.calls (k : Nat) (A0 : Option Addr) (c0 : Nat) (l0 : List Int) (r : Bool) (w : World) (hr0 : Kd.C (Kd.int .i64) w A0 l0.length l0) (hc0 : l0.length ≤ c0) (h : spec_TourOk.f k l0 = some r) :
  Calls Try.prog 104 #[.slice A0 l0.length c0] w fun e w' => e = .returned (.bool r) ∧ Below w.heap.size w w' := by
 have a2 := am_ hr0
 have a5 := am_ hc0
 clear hr0 hc0
 have HB := am_ (Below.refl w.heap.size w)
 have H : ((spec_l01In.f (l0.length : Int) 1 23).bind fun a1 => (if a1 = true then (spec_TourOk.l0 k l0 0) else (some false))) = some r := h
 clear h
 obtain ⟨a1, A20, H⟩ := Option.bind_eq_some_iff.mp H; have A2 := am_ A20; clear A20
 by_cases c3 : a1 = true
 rotate_left
 ·replace c3 := Bool.eq_false_iff.mpr c3
  subst c3
  rw [if_neg ff_] at H
  obtain rfl := Option.some.inj H
  go_enter Try.func104, Try.ntmps104
  go_wp2_with (first | ((with_reducible refine gate_callee (f := 57) rfl ?_); refine gl_ (some 6) Try.func57 #[.int .i64 (l0.length : Int), .int .i64 1, .int .i64 23] ?_; (with_reducible refine (spec_l01In.calls (l0.length : Int) 1 23 false _ A2.out).mono ?_); rintro e w' ⟨rfl, ⟨nd, rfl⟩⟩; refine ⟨_, rfl, ?_⟩))
  go_ret
  exact ⟨qr_, qB_⟩
 subst c3
 rw [if_pos rfl] at H; have H' := am_ H; clear H
 go_enter Try.func104, Try.ntmps104
 go_wp2_with (first | ((with_reducible refine gate_callee (f := 57) rfl ?_); refine gl_ (some 6) Try.func57 #[.int .i64 (l0.length : Int), .int .i64 1, .int .i64 23] ?_; (with_reducible refine (spec_l01In.calls (l0.length : Int) 1 23 true _ A2.out).mono ?_); rintro e w' ⟨rfl, ⟨nd, rfl⟩⟩; refine ⟨_, rfl, ?_⟩))
 go_loopg [3] k (fun kq v3 w' => ∃ (x3_1 : Int), v3 = .int .i64 x3_1 ∧ Aside0 (spec_TourOk.l0 kq l0 x3_1 = some r) ∧ Aside0 (kq ≤ k) ∧ Aside0 (Below w.heap.size w w'))
 case atStart => exact ⟨(0), qe_, H', ⟨Nat.le_refl _⟩, ⟨qB_⟩⟩
 case round =>
  clear H'
  (try clear c1); (try clear p2); (try clear c3)
  obtain ⟨x3_1, rfl, HA, HK1, HB⟩ := hrel
  cases gk with
  | zero => exact absurd HA.out (by simp [spec_TourOk.l0])
  | succ k1 =>
   have H := HA.out; clear HA
   simp only [spec_TourOk.l0] at H
   by_cases c4 : x3_1 < (l0.length : Int)
   rotate_left
   ·rw [if_neg c4] at H
    have c4b0 := decide_eq_false c4
    clear c4
    obtain ⟨a3, A80, H⟩ := Option.bind_eq_some_iff.mp H; have A8 := am_ A80; clear A80
    obtain rfl := Option.some.inj H
    go_wp2_with (first | ((with_reducible refine gate_callee (f := 134) rfl ?_); refine gl_ (some 21) Try.func134 #[.slice A0 l0.length c0] ?_; (with_reducible refine (spec_l06Open.calls k1 _ _ l0 a3 _ ?side1 ?side2 A8.out).mono ?_); (case side1 => exact qC_ a2 HB); (case side2 => exact a5.out); rintro e w9 ⟨rfl, hb⟩; refine ⟨_, rfl, ?_⟩; replace HB := hs_ hb; (try clear hb); (try clear hb2); (try clear hk); (try clear hi)))
    go_ret
    exact ⟨qr_, qB_⟩
   rw [if_pos c4] at H
   have c4b0 := decide_eq_true c4
   clear c4
   by_cases c5 : 0 ≤ x3_1
   rotate_left
   ·rw [if_neg c5] at H
    exact absurd H (by simp)
   rw [if_pos c5] at H
   have c5b0 := decide_eq_true c5
   clear c5
   obtain ⟨a4, A60, H⟩ := Option.bind_eq_some_iff.mp H; have A6 := am_ A60; clear A60
   by_cases c7 : a4 = true
   ·subst c7
    rw [if_pos rfl] at H; have H' := am_ H; clear H
    have p137 := dp_ x3_1
    have q137 := dl_ x3_1 l0.length
    obtain ⟨ad137, e137, a0⟩ := Kd.at_int a2.out x3_1 p137 q137
    cases e137
    replace a0 := qx_ HB a0
    replace p137 := eq_true p137; replace q137 := eq_true q137
    go_wp2_with (first | ((with_reducible refine gate_callee (f := 57) rfl ?_); refine gl_ (some 18) Try.func57 #[.int .i64 (rd l0 x3_1), .int .i64 0, .int .i64 11] ?_; (with_reducible refine (spec_l01In.calls (rd l0 x3_1) 0 11 true _ A6.out).mono ?_); rintro e w' ⟨rfl, ⟨nd, rfl⟩⟩; refine ⟨_, rfl, ?_⟩))
    go_roundg k1
    case measure => have := HK1.out; omega
    case rel => exact ⟨(wrap64 (x3_1 + 1)), qe_, H', ⟨by have := HK1.out; omega⟩, ⟨qB_⟩⟩
   replace c7 := Bool.eq_false_iff.mpr c7
   subst c7
   rw [if_neg ff_] at H
   obtain rfl := Option.some.inj H
   have p137 := dp_ x3_1
   have q137 := dl_ x3_1 l0.length
   obtain ⟨ad137, e137, a0⟩ := Kd.at_int a2.out x3_1 p137 q137
   cases e137
   replace a0 := qx_ HB a0
   replace p137 := eq_true p137; replace q137 := eq_true q137
   go_wp2_with (first | ((with_reducible refine gate_callee (f := 57) rfl ?_); refine gl_ (some 18) Try.func57 #[.int .i64 (rd l0 x3_1), .int .i64 0, .int .i64 11] ?_; (with_reducible refine (spec_l01In.calls (rd l0 x3_1) 0 11 false _ A6.out).mono ?_); rintro e w' ⟨rfl, ⟨nd, rfl⟩⟩; refine ⟨_, rfl, ?_⟩))
   go_ret
   exact ⟨qr_, qB_⟩
end Go.Proofs.Ytbkklafkoegdpaa.QFnExactCut
