import Derived.Test.YtbkklafkoegdpaaQFnExactLinkx9
namespace Go.Proofs.Ytbkklafkoegdpaa.QFnExactLink
open Go.RowKit Go.Proofs.YtbkklafkoegdpaaW.PrintWords Go.Proofs.YtbkklafkoegdpaaW.PrintLast Go.Proofs.YtbkklafkoegdpaaW.PrintMore
set_option linter.unusedVariables false
set_option linter.unusedSimpArgs false
def impl_VertsOf.l0 : Nat → List Int → List Int → Int → Int → Option (List Int)
  | 0, _, _, _, _ => none
  | k + 1, x3, x6, x7, x8 => if x8 < x7 then (if 0 ≤ x8 then (if x8 < (x6.length : Int) then ((impl_with.f k x3 (rd x6 x8)).bind fun t360 => (impl_VertsOf.l0 k t360 x6 x7 (wrap64 (x8 + 1)))) else (none)) else (none)) else (some x3)
def impl_VertsOf.f (k : Nat) (l0 : List Int) : Option (List Int) := impl_VertsOf.l0 k ([] : List Int) l0 (l0.length : Int) 0
theorem impl_VertsOf.mono_l : ∀ k, (∀ y0 y1 y2 y3, LeO (impl_VertsOf.l0 k y0 y1 y2 y3) (impl_VertsOf.l0 (k + 1) y0 y1 y2 y3))
  | 0 => fun _ _ _ _ r h => by simp [impl_VertsOf.l0] at h
  | k + 1 => by
    have ih0 := impl_VertsOf.mono_l k
    · intro y0 y1 y2 y3
      unfold impl_VertsOf.l0
      repeat' first | (with_reducible first | exact ih0 _ _ _ _ | exact impl_with.mono _ _ _ | exact LeO.refl _ | exact LeO.none _ | refine LeO.ite ?_ ?_ | refine LeO.bind ?_ (fun _ => ?_)) | exact LeO.none _ | refine LeO.ite ?_ ?_ | refine LeO.bind ?_ (fun _ => ?_)
theorem impl_VertsOf.mono : ∀ a0 k, LeO (impl_VertsOf.f k a0) (impl_VertsOf.f (k + 1) a0) := by
  intro a0 k
  have ih0 := impl_VertsOf.mono_l k
  unfold impl_VertsOf.f
  repeat' first | (with_reducible first | exact ih0 _ _ _ _ | exact impl_with.mono _ _ _ | exact LeO.refl _ | exact LeO.none _ | refine LeO.ite ?_ ?_ | refine LeO.bind ?_ (fun _ => ?_)) | exact LeO.none _ | refine LeO.ite ?_ ?_ | refine LeO.bind ?_ (fun _ => ?_)
set_option maxHeartbeats 8000000 in
set_option maxRecDepth 100000 in
theorem impl_VertsOf.calls (k : Nat) (A0 : Option Addr) (c0 : Nat) (l0 : List Int) (r : List Int) (w : World) (hr0 : Kd.C (Kd.int .i64) w A0 l0.length l0) (hc0 : l0.length ≤ c0) (h : impl_VertsOf.f k l0 = some r) :
  Calls Try.prog 106 #[.slice A0 l0.length c0] w fun e w' => ∃ v0_ : Value, e = .returned (v0_) ∧ Kd.R (Kd.int .i64) 3 w' w.heap.size (fun _ => True) v0_ r ∧ Below w.heap.size w w' := by
 have a6 := am_ hr0
 have a9 := am_ hc0
 clear hr0 hc0
 have HB := am_ (Below.refl w.heap.size w)
 have H : (impl_VertsOf.l0 k ([] : List Int) l0 (l0.length : Int) 0) = some r := h
 clear h; have H' := am_ H; clear H
 go_enter Try.func106, Try.ntmps106
 go_wp2
 go_loopg [3, 8] k (fun kq v3 v8 w' => ∃ (x3_1 : List Int) (x8_1 : Int), v8 = .int .i64 x8_1 ∧ Aside0 (impl_VertsOf.l0 kq x3_1 l0 (l0.length : Int) x8_1 = some r) ∧ Aside0 (kq ≤ k) ∧ Aside0 (Kd.R (Kd.int .i64) 3 w' w.heap.size (fun _ => True) v3 x3_1) ∧ Aside0 (Below w.heap.size w w'))
 case atStart => exact ⟨(([] : List Int)), (0), qe_, H', ⟨Nat.le_refl _⟩, ⟨by first | exact Kd.R_nil _ _ _ _ _ | exact Kd.N_nil _ _ _ _ _ | exact Kd.V_nil _ _ _ _ _ | exact Kd.Q_nil _ _ _ _ _ | exact Kd.S_nil _ _ _ _ _⟩, ⟨qB_⟩⟩
 case round =>
  clear H'
  (try clear c1)
  obtain ⟨x3_1, x8_1, rfl, HA, HK1, a1, HB⟩ := hrel
  cases gk with
  | zero => exact absurd HA.out (by simp [impl_VertsOf.l0])
  | succ k1 =>
   have H := HA.out; clear HA
   simp only [impl_VertsOf.l0] at H
   by_cases c2 : x8_1 < (l0.length : Int)
   rotate_left
   ·rw [if_neg c2] at H
    have c2b0 := decide_eq_false c2
    clear c2
    obtain rfl := Option.some.inj H
    go_wp2
    go_ret
    exact ⟨_, qr_, by (with_reducible repeat (first | apply Kd.R_alloc | apply Kd.R_drewN | apply Kd.R_drew)); exact a1.out, qB_⟩
   rw [if_pos c2] at H
   have c2b0 := decide_eq_true c2
   clear c2
   by_cases c3 : 0 ≤ x8_1
   rotate_left
   ·rw [if_neg c3] at H
    exact absurd H (by simp)
   rw [if_pos c3] at H
   have c3b0 := decide_eq_true c3
   clear c3
   by_cases c4 : x8_1 < (l0.length : Int)
   rotate_left
   ·rw [if_neg c4] at H
    exact absurd H (by simp)
   rw [if_pos c4] at H
   have c4b0 := decide_eq_true c4
   clear c4
   obtain ⟨a3, A50, H⟩ := Option.bind_eq_some_iff.mp H; have A5 := am_ A50; clear A50
   have H' := am_ H; clear H
   have p359 := dp_ x8_1
   have q359 := dl_ x8_1 l0.length
   obtain ⟨ad359, e359, a0⟩ := Kd.at_int a6.out x8_1 p359 q359
   cases e359
   replace a0 := qx_ HB a0
   replace p359 := eq_true p359; replace q359 := eq_true q359
   obtain ⟨a4, a5, a7⟩ := Kd.R_slice a1.out
   subst a7
   go_wp2_with (first | ((with_reducible refine gate_callee (f := 133) rfl ?_); refine gl_ (some 14) Try.func133 #[.slice a4 x3_1.length a5, .int .i64 (rd l0 x8_1)] ?_; (with_reducible refine (impl_with.calls k1 (fun k_ => some k_ = (.slice a4 x3_1.length a5 : Value).ownBlock) (.slice a4 x3_1.length a5) x3_1 (rd l0 x8_1) a3 w _ ?side1 ?side2 A5.out).mono ?_); (case side1 => repeat (first | (with_reducible first | exact HB.out | apply below_alloc | apply pw_below_drewN | apply below_drew1) | exact HB.out)); (case side2 => exact Kd.R_tight rfl a1.out); rintro e w7 ⟨a8, rfl, ho0, hb, hkp⟩; refine ⟨_, rfl, ?_⟩; have a2 := am_ (Kd.R_mono (ok' := fun k_ => True) ho0 (fun k_ hk_ => trivial)); replace HB := am_ (hb); clear a1; (try clear hb); (try clear hkp); (try clear ho0)))
   go_roundg k1
   case measure => have := HK1.out; omega
   case rel => exact ⟨(a3), (wrap64 (x8_1 + 1)), qe_, H', ⟨by have := HK1.out; omega⟩, ⟨by (with_reducible repeat (first | apply Kd.R_alloc | apply Kd.R_drewN | apply Kd.R_drew)); first | exact a2.out | (have h_ := a2.out; simp only [own_slice] at h_ ⊢; exact h_)⟩, ⟨qB_⟩⟩
def impl_hasInt.l0 : Nat → Int → List Int → Int → Int → Option (Bool)
  | 0, _, _, _, _ => none
  | k + 1, x1, x7, x8, x9 => if x9 < x8 then (if 0 ≤ x9 then (if x9 < (x7.length : Int) then (if (rd x7 x9) = x1 then (some true) else (impl_hasInt.l0 k x1 x7 x8 (wrap64 (x9 + 1)))) else (none)) else (none)) else (some false)
def impl_hasInt.f (k : Nat) (l0 : List Int) (a1 : Int) : Option (Bool) := impl_hasInt.l0 k a1 l0 (l0.length : Int) 0
theorem impl_hasInt.mono_l : ∀ k, (∀ y0 y1 y2 y3, LeO (impl_hasInt.l0 k y0 y1 y2 y3) (impl_hasInt.l0 (k + 1) y0 y1 y2 y3))
  | 0 => fun _ _ _ _ r h => by simp [impl_hasInt.l0] at h
  | k + 1 => by
    have ih0 := impl_hasInt.mono_l k
    · intro y0 y1 y2 y3
      unfold impl_hasInt.l0
      repeat' first | (with_reducible first | exact ih0 _ _ _ _ | exact LeO.refl _ | exact LeO.none _ | refine LeO.ite ?_ ?_ | refine LeO.bind ?_ (fun _ => ?_)) | exact LeO.none _ | refine LeO.ite ?_ ?_ | refine LeO.bind ?_ (fun _ => ?_)
theorem impl_hasInt.mono : ∀ a0 a1 k, LeO (impl_hasInt.f k a0 a1) (impl_hasInt.f (k + 1) a0 a1) := by
  intro a0 a1 k
  have ih0 := impl_hasInt.mono_l k
  unfold impl_hasInt.f
  repeat' first | (with_reducible first | exact ih0 _ _ _ _ | exact LeO.refl _ | exact LeO.none _ | refine LeO.ite ?_ ?_ | refine LeO.bind ?_ (fun _ => ?_)) | exact LeO.none _ | refine LeO.ite ?_ ?_ | refine LeO.bind ?_ (fun _ => ?_)
set_option maxHeartbeats 8000000 in
set_option maxRecDepth 100000 in
theorem impl_hasInt.calls (k : Nat) (A0 : Option Addr) (c0 : Nat) (l0 : List Int) (a1 : Int) (r : Bool) (w : World) (hr0 : Kd.C (Kd.int .i64) w A0 l0.length l0) (hc0 : l0.length ≤ c0) (h : impl_hasInt.f k l0 a1 = some r) :
  Calls Try.prog 120 #[.slice A0 l0.length c0, .int .i64 a1] w fun e w' => e = .returned (.bool r) ∧ Drawn0 w w' := by
 have a2 := am_ hr0
 have a3 := am_ hc0
 clear hr0 hc0
 have H : (impl_hasInt.l0 k a1 l0 (l0.length : Int) 0) = some r := h
 clear h; have H' := am_ H; clear H
 go_enter Try.func120, Try.ntmps120
 go_wp2
 go_loopg [9] k (fun kq v9 w' => ∃ (x9_1 : Int), v9 = .int .i64 x9_1 ∧ Aside0 (impl_hasInt.l0 kq a1 l0 (l0.length : Int) x9_1 = some r) ∧ Aside0 (kq ≤ k) ∧ Drawn0 w w')
 case atStart => exact ⟨(0), qe_, H', ⟨Nat.le_refl _⟩, by repeat (first | exact Drawn0.refl _ | apply Drawn0.step)⟩
 case round =>
  clear H'
  (try clear c1); (try clear p2)
  obtain ⟨x9_1, rfl, HA, HK1, ⟨m1, rfl⟩⟩ := hrel
  cases gk with
  | zero => exact absurd HA.out (by simp [impl_hasInt.l0])
  | succ k1 =>
   have H := HA.out; clear HA
   simp only [impl_hasInt.l0] at H
   by_cases c3 : x9_1 < (l0.length : Int)
   rotate_left
   ·rw [if_neg c3] at H
    have c3b0 := decide_eq_false c3
    clear c3
    obtain rfl := Option.some.inj H
    go_wp2
    go_ret
    exact ⟨by first | rfl | (simp; done) | (simp [*]; done), by repeat (first | exact Drawn0.refl _ | apply Drawn0.step)⟩
   rw [if_pos c3] at H
   have c3b0 := decide_eq_true c3
   clear c3
   by_cases c4 : 0 ≤ x9_1
   rotate_left
   ·rw [if_neg c4] at H
    exact absurd H (by simp)
   rw [if_pos c4] at H
   have c4b0 := decide_eq_true c4
   clear c4
   by_cases c5 : x9_1 < (l0.length : Int)
   rotate_left
   ·rw [if_neg c5] at H
    exact absurd H (by simp)
   rw [if_pos c5] at H
   have c5b0 := decide_eq_true c5
   clear c5
   by_cases c6 : (rd l0 x9_1) = a1
   ·rw [if_pos c6] at H
    have c6b0 : ((rd l0 x9_1) == a1) = true := beq_iff_eq.mpr c6
    have c6b1 : ((rd l0 x9_1) != a1) = false := bne_eq_false_iff_eq.mpr c6
    clear c6
    obtain rfl := Option.some.inj H
    have p363 := dp_ x9_1
    have q363 := dl_ x9_1 l0.length
    obtain ⟨ad363, e363, a0⟩ := Kd.at_int a2.out x9_1 p363 q363
    cases e363; replace p363 := eq_true p363; replace q363 := eq_true q363
    go_wp2
    go_ret
    exact ⟨by first | rfl | (simp; done) | (simp [*]; done), by repeat (first | exact Drawn0.refl _ | apply Drawn0.step)⟩
   rw [if_neg c6] at H
   have c6b0 : ((rd l0 x9_1) == a1) = false := beq_eq_false_iff_ne.mpr c6
   have c6b1 : ((rd l0 x9_1) != a1) = true := bne_iff_ne.mpr c6
   have H' := am_ H; clear H
   have p363 := dp_ x9_1
   have q363 := dl_ x9_1 l0.length
   obtain ⟨ad363, e363, a0⟩ := Kd.at_int a2.out x9_1 p363 q363
   cases e363; replace p363 := eq_true p363; replace q363 := eq_true q363
   go_wp2
   go_roundg k1
   case measure => have := HK1.out; omega
   case rel => exact ⟨(wrap64 (x9_1 + 1)), qe_, H', ⟨by have := HK1.out; omega⟩, by repeat (first | exact Drawn0.refl _ | apply Drawn0.step)⟩
mutual
def impl_TourOk.j0 : Nat → List Int → Bool → Option (Bool)
  | 0, _, _ => none
  | k + 1, x0, x18 => if x18 = true then (some false) else (if 0 < (x0.length : Int) then (if 1 ≤ (x0.length : Int) then (impl_TourOk.l0 k (([rd x0 0] : List Int)) (([rd x0 0] : List Int)) (x0.drop 1) ((x0.drop 1).length : Int) 0) else (none)) else (none))
def impl_TourOk.l0 : Nat → List Int → List Int → List Int → Int → Int → Option (Bool)
  | 0, _, _, _, _, _ => none
  | k + 1, x3, x4, x28, x29, x30 => if x30 < x29 then (if 0 ≤ x30 then (if x30 < (x28.length : Int) then (if (x3.length : Int) > 1 then (if 0 ≤ (wrap64 ((x3.length : Int) - 2)) then (if (wrap64 ((x3.length : Int) - 2)) < (x3.length : Int) then (impl_TourOk.j2 k x3 x4 (rd x28 x30) (x3.length : Int) x28 x29 x30 ((rd x3 (wrap64 ((x3.length : Int) - 2))) == (rd x28 x30))) else (none)) else (none)) else (impl_TourOk.j2 k x3 x4 (rd x28 x30) (x3.length : Int) x28 x29 x30 false)) else (none)) else (none)) else (some ((x3.length : Int) == 1))
def impl_TourOk.j2 : Nat → List Int → List Int → Int → Int → List Int → Int → Int → Bool → Option (Bool)
  | 0, _, _, _, _, _, _, _, _ => none
  | k + 1, x3, x4, x6, x7, x28, x29, x30, x36 => if x36 = true then (if 0 ≤ (wrap64 (x7 - 1)) then (if (wrap64 (x7 - 1)) ≤ (x3.length : Int) then (impl_TourOk.l0 k (x3.take ((wrap64 (x7 - 1)) : Int).toNat) x4 x28 x29 (wrap64 (x30 + 1))) else (none)) else (none)) else ((impl_in.f x6 0 11).bind fun t381 => (if t381 = true then ((impl_hasInt.f k x4 x6).bind fun t382 => (if t382 = true then (some false) else (if x3.length < 17592186044416 then (if x4.length < 17592186044416 then (impl_TourOk.l0 k (x3 ++ [x6]) (x4 ++ [x6]) x28 x29 (wrap64 (x30 + 1))) else (none)) else (none)))) else (some false)))
end
def impl_TourOk.f (k : Nat) (l0 : List Int) : Option (Bool) := (impl_in.f (l0.length : Int) 1 23).bind fun t364 => (if t364 = true then (if 0 < (l0.length : Int) then ((impl_in.f (rd l0 0) 0 11).bind fun t366 => (impl_TourOk.j0 k l0 (!t366))) else (none)) else (impl_TourOk.j0 k l0 true))
theorem impl_TourOk.mono_l : ∀ k, (∀ y0 y1, LeO (impl_TourOk.j0 k y0 y1) (impl_TourOk.j0 (k + 1) y0 y1)) ∧ (∀ y0 y1 y2 y3 y4, LeO (impl_TourOk.l0 k y0 y1 y2 y3 y4) (impl_TourOk.l0 (k + 1) y0 y1 y2 y3 y4)) ∧ (∀ y0 y1 y2 y3 y4 y5 y6 y7, LeO (impl_TourOk.j2 k y0 y1 y2 y3 y4 y5 y6 y7) (impl_TourOk.j2 (k + 1) y0 y1 y2 y3 y4 y5 y6 y7))
  | 0 => ⟨fun _ _ r h => by simp [impl_TourOk.j0] at h, fun _ _ _ _ _ r h => by simp [impl_TourOk.l0] at h, fun _ _ _ _ _ _ _ _ r h => by simp [impl_TourOk.j2] at h⟩
  | k + 1 => by
    obtain ⟨ih0, ih1, ih2⟩ := impl_TourOk.mono_l k
    refine ⟨?_, ?_, ?_⟩ <;> (intros; first | unfold impl_TourOk.j0 | unfold impl_TourOk.l0 | unfold impl_TourOk.j2) <;> repeat' first | (with_reducible first | exact ih0 _ _ | exact ih1 _ _ _ _ _ | exact ih2 _ _ _ _ _ _ _ _ | exact impl_hasInt.mono _ _ _ | exact LeO.refl _ | exact LeO.none _ | refine LeO.ite ?_ ?_ | refine LeO.bind ?_ (fun _ => ?_)) | exact LeO.none _ | refine LeO.ite ?_ ?_ | refine LeO.bind ?_ (fun _ => ?_)
theorem impl_TourOk.mono : ∀ a0 k, LeO (impl_TourOk.f k a0) (impl_TourOk.f (k + 1) a0) := by
  intro a0 k
  obtain ⟨ih0, ih1, ih2⟩ := impl_TourOk.mono_l k
  unfold impl_TourOk.f
  repeat' first | (with_reducible first | exact ih0 _ _ | exact ih1 _ _ _ _ _ | exact ih2 _ _ _ _ _ _ _ _ | exact impl_hasInt.mono _ _ _ | exact LeO.refl _ | exact LeO.none _ | refine LeO.ite ?_ ?_ | refine LeO.bind ?_ (fun _ => ?_)) | exact LeO.none _ | refine LeO.ite ?_ ?_ | refine LeO.bind ?_ (fun _ => ?_)
set_option maxHeartbeats 8000000 in
set_option maxRecDepth 100000 in
theorem impl_TourOk.calls (k : Nat) (A0 : Option Addr) (c0 : Nat) (l0 : List Int) (r : Bool) (w : World) (hr0 : Kd.C (Kd.int .i64) w A0 l0.length l0) (hc0 : l0.length ≤ c0) (h : impl_TourOk.f k l0 = some r) :
  Calls Try.prog 119 #[.slice A0 l0.length c0] w fun e w' => e = .returned (.bool r) ∧ Below w.heap.size w w' := by
 have d9 := am_ hr0
 have e9 := am_ hc0
 clear hr0 hc0
 have HB := am_ (Below.refl w.heap.size w)
 have H : ((impl_in.f (l0.length : Int) 1 23).bind fun b6 => (if b6 = true then (if 0 < (l0.length : Int) then ((impl_in.f (rd l0 0) 0 11).bind fun a8 => (impl_TourOk.j0 k l0 (!a8))) else (none)) else (impl_TourOk.j0 k l0 true))) = some r := h
 clear h
 have e0 := am_ H
 clear H
 go_enter Try.func119, Try.ntmps119
 go_upto_region 1 with (fail)
 go_cut [18] (fun v18 wc => ∃ (kq : Nat) (x18_1 : Bool), v18 = .bool x18_1 ∧ Aside0 (impl_TourOk.j0 kq l0 x18_1 = some r) ∧ Aside0 (kq ≤ k) ∧ Aside0 (Below w.heap.size w wc))
 case first =>
  have H := e0.out; clear e0
  obtain ⟨b6, A30, H⟩ := Option.bind_eq_some_iff.mp H; have A3 := am_ A30; clear A30
  by_cases c4 : b6 = true
  rotate_left
  ·replace c4 := Bool.eq_false_iff.mpr c4
   subst c4
   rw [if_neg ff_] at H; have H' := am_ H; clear H
   go_wp2_with (first | ((with_reducible refine gate_callee (f := 66) rfl ?_); refine gl_ (some 10) Try.func66 #[.int .i64 (l0.length : Int), .int .i64 1, .int .i64 23] ?_; (with_reducible refine (impl_in.calls (l0.length : Int) 1 23 false _ A3.out).mono ?_); rintro e w' ⟨rfl, ⟨nd, rfl⟩⟩; refine ⟨_, rfl, ?_⟩))
   go_meet
   case rel => exact ⟨_, (true), qe_, H', ⟨qo_⟩, ⟨qB_⟩⟩
  subst c4
  rw [if_pos rfl] at H
  by_cases c5 : 0 < (l0.length : Int)
  rotate_left
  ·rw [if_neg c5] at H
   exact absurd H (by simp)
  rw [if_pos c5] at H
  have c5b0 := decide_eq_true c5
  have c5b1 : decide (0 < l0.length) = true := decide_eq_true (by omega)
  clear c5
  (first | rw [c5b0] | (simp only [i64_w, i32_w]; rw [c5b0]) | skip)
  obtain ⟨a8, A60, H⟩ := Option.bind_eq_some_iff.mp H; have A6 := am_ A60; clear A60
  have H' := am_ H; clear H
  go_wp2_with (first | ((with_reducible refine gate_callee (f := 66) rfl ?_); refine gl_ (some 10) Try.func66 #[.int .i64 (l0.length : Int), .int .i64 1, .int .i64 23] ?_; (with_reducible refine (impl_in.calls (l0.length : Int) 1 23 true _ A3.out).mono ?_); rintro e w' ⟨rfl, ⟨nd, rfl⟩⟩; refine ⟨_, rfl, ?_⟩; have p365 : 0 ≤ (0 : Int) := (by omega); have q365 := dl_ 0 l0.length; obtain ⟨ad365, e365, a0⟩ := Kd.at_int d9.out 0 p365 q365; cases e365; have qi365 : (0 < l0.length) = True := eq_true (by omega); (try rw [show ((0 : Int)).toNat = 0 from rfl] at a0); (try rw [Addr.add_zero'] at a0); replace a0 := qx_ HB a0; replace p365 := eq_true p365; replace q365 := eq_true q365) | (go_at_call 66; (with_reducible refine (impl_in.calls (rd l0 0) 0 11 a8 _ A6.out).mono ?_); rintro e w' ⟨rfl, ⟨nd, rfl⟩⟩))
  go_meet
  case rel => exact ⟨_, (!a8), qe_, H', ⟨qo_⟩, ⟨qB_⟩⟩
 case rest =>
  clear e0; (try clear c1); (try clear p2); (try clear p3); (try clear q3); (try clear e8); (try clear qi3); (try clear c4); (try clear c5); (try clear c5b0); (try clear c5b1); (try clear c6); (try clear a0); (try clear p365); (try clear q365)
  obtain ⟨kq, x18_1, rfl, HA, d0, HB⟩ := hcut
  cases kq with
  | zero => exact absurd HA.out (by simp [impl_TourOk.j0])
  | succ kj1 =>
   have H := HA.out; clear HA
   simp only [impl_TourOk.j0] at H
   by_cases c7 : x18_1 = true
   ·subst c7
    rw [if_pos rfl] at H
    obtain rfl := Option.some.inj H
    go_wp2
    go_ret
    exact ⟨qr_, qB_⟩
   replace c7 := Bool.eq_false_iff.mpr c7
   subst c7
   rw [if_neg ff_] at H
   by_cases c8 : 0 < (l0.length : Int)
   rotate_left
   ·rw [if_neg c8] at H
    exact absurd H (by simp)
   rw [if_pos c8] at H
   have c8b0 := decide_eq_true c8
   have c8b1 : decide (0 < l0.length) = true := decide_eq_true (by omega)
   clear c8
   obtain ⟨b7, hy368⟩ : ∃ y_ : List Int, y_ = (([rd l0 0] : List Int)) := ⟨_, rfl⟩
   replace H : (if 1 ≤ (l0.length : Int) then (impl_TourOk.l0 kj1 b7 (([rd l0 0] : List Int)) (l0.drop 1) ((l0.drop 1).length : Int) 0) else (none)) = some r := by first | (rw [hy368]; with_reducible exact H) | (have H2_ := (Option.bind_some _ _).symm.trans H; rw [hy368]; with_reducible exact H2_) | (have H2_ := (Option.bind_some _ _).symm.trans H; with_reducible exact H2_) | with_reducible exact H | (rw [hy368]; exact H) | exact H
   have Ny368 := am_ hy368
   clear hy368
   obtain ⟨d1, hy372⟩ : ∃ y_ : List Int, y_ = (([rd l0 0] : List Int)) := ⟨_, rfl⟩
   replace H : (if 1 ≤ (l0.length : Int) then (impl_TourOk.l0 kj1 b7 d1 (l0.drop 1) ((l0.drop 1).length : Int) 0) else (none)) = some r := by first | (rw [hy372]; with_reducible exact H) | (have H2_ := (Option.bind_some _ _).symm.trans H; rw [hy372]; with_reducible exact H2_) | (have H2_ := (Option.bind_some _ _).symm.trans H; with_reducible exact H2_) | with_reducible exact H | (rw [hy372]; exact H) | exact H
   have Ny372 := am_ hy372
   clear hy372
   by_cases c9 : 1 ≤ (l0.length : Int)
   rotate_left
   ·rw [if_neg c9] at H
    exact absurd H (by simp)
   rw [if_pos c9] at H
   have c9b0 := eq_true c9
   have c9b1 := decide_eq_true c9
   clear c9; have H' := am_ H; clear H
   have p367 : 0 ≤ (0 : Int) := (by omega)
   have q367 := dl_ 0 l0.length
   obtain ⟨ad367, e367, a2⟩ := Kd.at_int d9.out 0 p367 q367
   cases e367
   have qi367 : (0 < l0.length) = True := eq_true (by omega)
   (try rw [show ((0 : Int)).toNat = 0 from rfl] at a2)
   (try rw [Addr.add_zero'] at a2)
   replace a2 := qx_ HB a2
   replace p367 := eq_true p367; replace q367 := eq_true q367
   go_wp2_with (first | ((with_reducible refine gate_dst (N := 22) rfl ?_); refine Kd.R_lit (Kd.int .i64) _ 3 ?hg (N := 22) ?hd (xs := ([rd l0 0] : List Int)) (inner := [.int .i64 (rd l0 0)]) (ok := fun _ => True) (okp := fun _ => True) ?hr ?hp (fun _ hk => hk) trivial (Below.refl _ _) (Nat.le_refl _) (by simp) ?_; (case hd => rfl); (case hg => rfl); (case hr => first | (go_simp; done) | (go_simp; rfl)); (case hp => exact (Reps.one (show Kd.M (Kd.int .i64) _ _ _ (rd l0 0) [.int .i64 (rd l0 0)] from rfl) (Reps.none _ _))); intro f0 w10 ho11 hb hg_ hnew_; clear hg_ hnew_; (first | rw [← Ny368.out] at ho11 | (simp only [Int.reduceToNat] at ho11; rw [← Ny368.out] at ho11)); have a6 := am_ (Kd.R_lower ho11 (below_size qB_)); replace HB := hs_ hb; clear hb ho11; have p371 : 0 ≤ (0 : Int) := (by omega); have q371 := dl_ 0 l0.length; obtain ⟨ad371, e371, a3⟩ := Kd.at_int d9.out 0 p371 q371; obtain rfl : ad367 = ad371 := (by injection e371); have qi371 : (0 < l0.length) = True := eq_true (by omega); (try rw [show ((0 : Int)).toNat = 0 from rfl] at a3); (try rw [Addr.add_zero'] at a3); replace a3 := qx_ HB a3; replace p371 := eq_true p371; replace q371 := eq_true q371) | ((with_reducible refine gate_dst (N := 26) rfl ?_); refine Kd.R_lit (Kd.int .i64) _ 3 ?hg (N := 26) ?hd (xs := ([rd l0 0] : List Int)) (inner := [.int .i64 (rd l0 0)]) (ok := fun _ => True) (okp := fun _ => True) ?hr ?hp (fun _ hk => hk) trivial (Below.refl _ _) (Nat.le_refl _) (by simp) ?_; (case hd => rfl); (case hg => rfl); (case hr => first | (go_simp; done) | (go_simp; rfl)); (case hp => exact (Reps.one (show Kd.M (Kd.int .i64) _ _ _ (rd l0 0) [.int .i64 (rd l0 0)] from rfl) (Reps.none _ _))); intro f1 w12 ho13 hb hg_ hnew_; clear hg_ hnew_; (first | rw [← Ny372.out] at ho13 | (simp only [Int.reduceToNat] at ho13; rw [← Ny372.out] at ho13)); have d2 := am_ (Kd.R_lower (Kd.R_new' ho13 (Kd.R_lt (qR_ a6))) (below_size qB_)); replace a6 := am_ (Kd.R_elder' (qR_ a6) (Kd.R_base ho13) hb); replace HB := hs_ hb; clear hb ho13; obtain ⟨i014, hi014, _, hsz14, _⟩ := info_parts info3; obtain ⟨A14, hcut14, hA14, hC14⟩ := print_drop_of (P := Try.prog) (Value.int .i64) 0 51 3 .i64 Try.underlying51 hi014 hsz14 (some ad367) c0 l0 1 (by omega) (of_decide_eq_true qa_) e9.out; have b3 := am_ (Kd.C_of_reads (h1 := fun _ => rfl) (hA14 _ (Kd.reads_of_C d9.out))); have d3 := am_ hC14; clear hA14 hC14 hi014 hsz14; obtain ⟨ydHR375, hydHR375⟩ : ∃ y_ : List Int, y_ = l0.drop 1 := ⟨_, rfl⟩; rw [show List.drop (Int.toNat 1) l0 = l0.drop 1 from rfl, ← hydHR375] at hcut14 b3 d3; rw [← hydHR375] at H'; clear hydHR375))
   go_loopg [3, 4, 30] kj1 (fun kq v3 v4 v30 w' => ∃ (x3_2 : List Int) (x4_2 : List Int) (x30_2 : Int), v30 = .int .i64 x30_2 ∧ Aside0 (impl_TourOk.l0 kq x3_2 x4_2 ydHR375 (ydHR375.length : Int) x30_2 = some r) ∧ Aside0 (kq ≤ kj1) ∧ Aside0 (Kd.R (Kd.int .i64) 3 w' w.heap.size (fun k_ => some k_ ≠ (v4 : Value).ownBlock) v3 x3_2) ∧ Aside0 (Kd.R (Kd.int .i64) 3 w' w.heap.size (fun k_ => some k_ ≠ (v3 : Value).ownBlock) v4 x4_2) ∧ Aside0 (Below w.heap.size w w'))
   case atStart => exact ⟨(b7), (d1), (0), qe_, H', ⟨Nat.le_refl _⟩, ⟨by (with_reducible repeat (first | apply Kd.R_alloc | apply Kd.R_drewN | apply Kd.R_drew)); exact Kd.R_mono a6.out (fun _ hk => hk.2)⟩, ⟨by (with_reducible repeat (first | apply Kd.R_alloc | apply Kd.R_drewN | apply Kd.R_drew)); exact Kd.R_mono d2.out (fun _ hk => hk.2)⟩, ⟨qB_⟩⟩
   case round =>
    clear H'
    (try clear c1); (try clear p2); (try clear p3); (try clear q3); (try clear e8); (try clear qi3); (try clear c4); (try clear c5); (try clear c5b0); (try clear c5b1); (try clear c6); (try clear c7); (try clear c8); (try clear c8b0); (try clear c8b1); (try clear c9); (try clear c9b0); (try clear c9b1); (try clear c11); (try clear a0); (try clear a2); (try clear a3); (try clear p2); (try clear p3); (try clear p365); (try clear p367); (try clear p371); (try clear q3); (try clear q365); (try clear q367); (try clear q371)
    obtain ⟨x3_2, x4_2, x30_2, rfl, HA, HK2, a4, a1, HB⟩ := hrel
    cases gk with
    | zero => exact absurd HA.out (by simp [impl_TourOk.l0])
    | succ k2 =>
     have H := HA.out; clear HA
     simp only [impl_TourOk.l0] at H
     by_cases c15 : x30_2 < (ydHR375.length : Int)
     rotate_left
     ·rw [if_neg c15] at H
      have c15b0 := decide_eq_false c15
      clear c15
      obtain rfl := Option.some.inj H
      obtain ⟨f2, f3, e1⟩ := Kd.R_slice a4.out
      subst e1
      go_wp2
      go_ret
      exact ⟨qr_, qB_⟩
     rw [if_pos c15] at H
     have c15b0 := decide_eq_true c15
     clear c15
     by_cases c16 : 0 ≤ x30_2
     rotate_left
     ·rw [if_neg c16] at H
      exact absurd H (by simp)
     rw [if_pos c16] at H
     have c16b0 := decide_eq_true c16
     clear c16
     by_cases c17 : x30_2 < (ydHR375.length : Int)
     rotate_left
     ·rw [if_neg c17] at H
      exact absurd H (by simp)
     rw [if_pos c17] at H
     have c17b0 := decide_eq_true c17
     clear c17
     have b8 := am_ H
     clear H
     have p376 := dp_ x30_2
     have q376 := dl_ x30_2 ydHR375.length
     obtain ⟨ad376, e376, a5⟩ := Kd.at_int b3.out x30_2 p376 q376
     cases e376
     replace a5 := qx_ HB a5
     replace p376 := eq_true p376; replace q376 := eq_true q376
     obtain ⟨a9, b0, e2⟩ := Kd.R_slice a4.out
     subst e2
     go_upto_region 10 with (fail)
     go_cut [36] (fun v36 wc => ∃ (kq : Nat) (x36_17 : Bool), v36 = .bool x36_17 ∧ Aside0 (impl_TourOk.j2 kq x3_2 x4_2 (rd ydHR375 x30_2) (x3_2.length : Int) ydHR375 (ydHR375.length : Int) x30_2 x36_17 = some r) ∧ Aside0 (kq ≤ k2) ∧ Aside0 (Kd.R (Kd.int .i64) 3 wc w.heap.size (fun k_ => some k_ ≠ (u4 : Value).ownBlock) (.slice a9 x3_2.length b0) x3_2) ∧ Aside0 (Kd.R (Kd.int .i64) 3 wc w.heap.size (fun k_ => some k_ ≠ ((.slice a9 x3_2.length b0) : Value).ownBlock) u4 x4_2) ∧ Aside0 (Below w.heap.size w wc))
     case first =>
      have H := b8.out; clear b8
      by_cases c20 : (x3_2.length : Int) > 1
      rotate_left
      ·rw [if_neg c20] at H
       have c20b0 : decide (1 < (x3_2.length : Int)) = false := decide_eq_false c20
       have c20b1 : decide (1 < x3_2.length) = false := decide_eq_false (by omega)
       clear c20
       (first | rw [c20b0] | (simp only [i64_w, i32_w]; rw [c20b0]) | skip)
       have H' := am_ H; clear H
       go_wp2
       go_meet
       case rel => exact ⟨_, (false), qe_, H', ⟨by have := d0.out; have := HK2.out; first | omega | exact Nat.le_refl _⟩, ⟨by (with_reducible repeat (first | apply Kd.R_alloc | apply Kd.R_drewN | apply Kd.R_drew)); first | exact a4.out | (have h_ := a4.out; simp only [own_slice] at h_ ⊢; exact h_)⟩, ⟨by (with_reducible repeat (first | apply Kd.R_alloc | apply Kd.R_drewN | apply Kd.R_drew)); first | exact a1.out | (have h_ := a1.out; simp only [own_slice] at h_ ⊢; exact h_)⟩, ⟨qB_⟩⟩
      rw [if_pos c20] at H
      have c20b0 : decide (1 < (x3_2.length : Int)) = true := decide_eq_true c20
      have c20b1 : decide (1 < x3_2.length) = true := decide_eq_true (by omega)
      clear c20
      (first | rw [c20b0] | (simp only [i64_w, i32_w]; rw [c20b0]) | skip)
      obtain ⟨ji21, hji21⟩ : ∃ j_ : Int, (wrap64 ((x3_2.length : Int) - 2)) = j_ := ⟨_, rfl⟩
      first | rw [hji21] at H | simp only [hji21] at H
      have hji21w : (IntKind.i64.wrap ((x3_2.length : Int) - 2)) = ji21 := (i64_w _).trans hji21
      by_cases c22 : 0 ≤ (ji21)
      rotate_left
      ·rw [if_neg c22] at H
       exact absurd H (by simp)
      rw [if_pos c22] at H
      have c22b0 := decide_eq_true c22
      clear c22
      by_cases c23 : (ji21) < (x3_2.length : Int)
      rotate_left
      ·rw [if_neg c23] at H
       exact absurd H (by simp)
      rw [if_pos c23] at H
      have c23b0 := decide_eq_true c23
      clear c23; have H' := am_ H; clear H
      have p377 := dp_ ((ji21))
      have q377 := dl_ (ji21) x3_2.length
      obtain ⟨ad377, e377, b1⟩ := Kd.at_int (Kd.R_reads' a4.out).2.2 (ji21) p377 q377
      cases e377; replace p377 := eq_true p377; replace q377 := eq_true q377
      go_wp2
      go_meet
      case rel => exact ⟨_, (((rd x3_2 (ji21)) == (rd ydHR375 x30_2))), (by first | rfl | (simp; done) | (simp only [← hji21] <;> (first | rfl | simp)) | (simp [*]; done)), H', ⟨by have := d0.out; have := HK2.out; first | omega | exact Nat.le_refl _⟩, ⟨by (with_reducible repeat (first | apply Kd.R_alloc | apply Kd.R_drewN | apply Kd.R_drew)); first | exact a4.out | (have h_ := a4.out; simp only [own_slice] at h_ ⊢; exact h_)⟩, ⟨by (with_reducible repeat (first | apply Kd.R_alloc | apply Kd.R_drewN | apply Kd.R_drew)); first | exact a1.out | (have h_ := a1.out; simp only [own_slice] at h_ ⊢; exact h_)⟩, ⟨qB_⟩⟩
     case rest =>
      clear b8; (try clear c1); (try clear c2); (try clear p2); (try clear p3); (try clear q3); (try clear e8); (try clear qi3); (try clear c4); (try clear c5); (try clear c5b0); (try clear c5b1); (try clear c6); (try clear p6); (try clear c7); (try clear c8); (try clear c8b0); (try clear c8b1); (try clear c9); (try clear c9b0); (try clear c9b1); (try clear c11); (try clear c15); (try clear c15b0); (try clear c16); (try clear c16b0); (try clear c17); (try clear c17b0); (try clear c20); (try clear c20b0); (try clear c20b1); (try clear c22); (try clear c22b0); (try clear c23); (try clear c23b0); (try clear a0); (try clear a2); (try clear a3); (try clear a5); (try clear b1); (try clear p2); (try clear p3); (try clear p365); (try clear p367); (try clear p371); (try clear p376); (try clear p377); (try clear q3); (try clear q365); (try clear q367); (try clear q371); (try clear q376); (try clear q377)
      obtain ⟨kq, x36_17, rfl, HA, b2, a4, a1, HB⟩ := hcut
      cases kq with
      | zero => exact absurd HA.out (by simp [impl_TourOk.j2])
      | succ kj17 =>
       have H := HA.out; clear HA
       simp only [impl_TourOk.j2] at H
       by_cases c24 : x36_17 = true
       ·subst c24
        rw [if_pos rfl] at H
        obtain ⟨ji25, hji25⟩ : ∃ j_ : Int, (wrap64 ((x3_2.length : Int) - 1)) = j_ := ⟨_, rfl⟩
        first | rw [hji25] at H | simp only [hji25] at H
        have hji25w : (IntKind.i64.wrap ((x3_2.length : Int) - 1)) = ji25 := (i64_w _).trans hji25
        by_cases c26 : 0 ≤ (ji25)
        rotate_left
        ·rw [if_neg c26] at H
         exact absurd H (by simp)
        rw [if_pos c26] at H
        have c26b0 := eq_true c26
        have c26b1 := decide_eq_true c26
        clear c26
        by_cases c27 : (ji25) ≤ (x3_2.length : Int)
        rotate_left
        ·rw [if_neg c27] at H
         exact absurd H (by simp)
        rw [if_pos c27] at H
        have c27b0 := eq_true c27
        have c27b1 := decide_eq_true c27
        clear c27
        obtain ⟨b9, hy378⟩ : ∃ y_ : List Int, y_ = (x3_2.take ((ji25) : Int).toNat) := ⟨_, rfl⟩
        replace H : (impl_TourOk.l0 kj17 b9 x4_2 ydHR375 (ydHR375.length : Int) (wrap64 (x30_2 + 1))) = some r := by first | (rw [hy378]; with_reducible exact H) | (have H2_ := (Option.bind_some _ _).symm.trans H; rw [hy378]; with_reducible exact H2_) | (have H2_ := (Option.bind_some _ _).symm.trans H; with_reducible exact H2_) | with_reducible exact H | (rw [hy378]; exact H) | exact H
        have Ny378 := am_ hy378
        clear hy378; have H' := am_ H; clear H
        have q28 : ((ji25) : Int) ≤ ((x3_2.length : Int) : Int) := of_decide_eq_true qa_
        obtain ⟨i028, hi028, _, hsz28, _⟩ := info_parts info3
        have hcut28 := cut_to (P := Try.prog) 51 3 .i64 Try.underlying51 hi028 a9 x3_2.length b0 (ji25) (of_decide_eq_true qa_) q28 (Kd.R_reads' a4.out).2.1
        have hr28 := Kd.R_take (m := ((ji25) : Int).toNat) a4.out (by omega)
        have hy28 : b9.length = ((ji25) : Int).toNat := (by rw [Ny378.out, List.length_take]; omega)
        rw [← Ny378.out] at hr28
        rw [← hy28] at hr28 hcut28
        clear hy28 hi028 hsz28 a4
        have b4 := am_ hr28
        clear hr28; replace q28 := eq_true q28
        go_wp2
        go_roundg kj17
        case measure => have := d0.out; have := HK2.out; have := b2.out; omega
        case rel => exact ⟨(b9), (x4_2), (wrap64 (x30_2 + 1)), qe_, H', ⟨by have := d0.out; have := HK2.out; have := b2.out; omega⟩, ⟨by (with_reducible repeat (first | apply Kd.R_alloc | apply Kd.R_drewN | apply Kd.R_drew)); first | exact b4.out | (have h_ := b4.out; simp only [own_slice] at h_ ⊢; exact h_)⟩, ⟨by (with_reducible repeat (first | apply Kd.R_alloc | apply Kd.R_drewN | apply Kd.R_drew)); first | exact a1.out | (have h_ := a1.out; simp only [own_slice] at h_ ⊢; exact h_)⟩, ⟨qB_⟩⟩
       replace c24 := Bool.eq_false_iff.mpr c24
       subst c24
       rw [if_neg ff_] at H
       obtain ⟨e3, d4, H⟩ := Option.bind_eq_some_iff.mp H; have A29 := am_ d4; clear d4
       by_cases c30 : e3 = true
       rotate_left
       ·replace c30 := Bool.eq_false_iff.mpr c30
        subst c30
        rw [if_neg ff_] at H
        obtain rfl := Option.some.inj H
        go_wp2_with (first | ((with_reducible refine gate_callee (f := 66) rfl ?_); refine gl_ (some 54) Try.func66 #[.int .i64 (rd ydHR375 x30_2), .int .i64 0, .int .i64 11] ?_; (with_reducible refine (impl_in.calls (rd ydHR375 x30_2) 0 11 false _ A29.out).mono ?_); rintro e w' ⟨rfl, ⟨nd, rfl⟩⟩; refine ⟨_, rfl, ?_⟩))
        go_ret
        exact ⟨qr_, qB_⟩
       subst c30
       rw [if_pos rfl] at H
       obtain ⟨e4, d5, H⟩ := Option.bind_eq_some_iff.mp H; have A31 := am_ d5; clear d5
       by_cases c32 : e4 = true
       ·subst c32
        rw [if_pos rfl] at H
        obtain rfl := Option.some.inj H
        go_wp2_with (first | ((with_reducible refine gate_callee (f := 66) rfl ?_); refine gl_ (some 54) Try.func66 #[.int .i64 (rd ydHR375 x30_2), .int .i64 0, .int .i64 11] ?_; (with_reducible refine (impl_in.calls (rd ydHR375 x30_2) 0 11 true _ A29.out).mono ?_); rintro e w' ⟨rfl, ⟨nd, rfl⟩⟩; refine ⟨_, rfl, ?_⟩; obtain ⟨f4, f5, e5⟩ := Kd.R_slice a1.out; subst e5) | (go_at_call 120; (with_reducible refine (impl_hasInt.calls kj17 _ _ x4_2 (rd ydHR375 x30_2) true _ ?side1 ?side2 A31.out).mono ?_); (case side1 => exact qD_ (Kd.R_reads' a1.out).2.2); (case side2 => exact (Kd.R_reads' a1.out).2.1); rintro e w' ⟨rfl, ⟨nd, rfl⟩⟩))
        go_ret
        exact ⟨qr_, qB_⟩
       replace c32 := Bool.eq_false_iff.mpr c32
       subst c32
       rw [if_neg ff_] at H
       by_cases c34 : x3_2.length < 17592186044416
       rotate_left
       ·rw [if_neg c34] at H
        exact absurd H (by simp)
       rw [if_pos c34] at H
       have LMc34 := am_ c34
       clear c34
       obtain ⟨c3, hy383⟩ : ∃ y_ : List Int, y_ = (x3_2 ++ [(rd ydHR375 x30_2)]) := ⟨_, rfl⟩
       replace H : (if x4_2.length < 17592186044416 then (impl_TourOk.l0 kj17 c3 (x4_2 ++ [(rd ydHR375 x30_2)]) ydHR375 (ydHR375.length : Int) (wrap64 (x30_2 + 1))) else (none)) = some r := by first | (rw [hy383]; with_reducible exact H) | (have H2_ := (Option.bind_some _ _).symm.trans H; rw [hy383]; with_reducible exact H2_) | (have H2_ := (Option.bind_some _ _).symm.trans H; with_reducible exact H2_) | with_reducible exact H | (rw [hy383]; exact H) | exact H
       have Ny383 := am_ hy383
       clear hy383
       by_cases c35 : x4_2.length < 17592186044416
       rotate_left
       ·rw [if_neg c35] at H
        exact absurd H (by simp)
       rw [if_pos c35] at H
       have LMc35 := am_ c35
       clear c35
       obtain ⟨d6, hy386⟩ : ∃ y_ : List Int, y_ = (x4_2 ++ [(rd ydHR375 x30_2)]) := ⟨_, rfl⟩
       replace H : (impl_TourOk.l0 kj17 c3 d6 ydHR375 (ydHR375.length : Int) (wrap64 (x30_2 + 1))) = some r := by first | (rw [hy386]; with_reducible exact H) | (have H2_ := (Option.bind_some _ _).symm.trans H; rw [hy386]; with_reducible exact H2_) | (have H2_ := (Option.bind_some _ _).symm.trans H; with_reducible exact H2_) | with_reducible exact H | (rw [hy386]; exact H) | exact H
       have Ny386 := am_ hy386
       clear hy386; have H' := am_ H; clear H
       go_wp2_with (first | ((with_reducible refine gate_callee (f := 66) rfl ?_); refine gl_ (some 54) Try.func66 #[.int .i64 (rd ydHR375 x30_2), .int .i64 0, .int .i64 11] ?_; (with_reducible refine (impl_in.calls (rd ydHR375 x30_2) 0 11 true _ A29.out).mono ?_); rintro e w' ⟨rfl, ⟨nd, rfl⟩⟩; refine ⟨_, rfl, ?_⟩; obtain ⟨d7, d8, e6⟩ := Kd.R_slice a1.out; subst e6) | (go_at_call 120; (with_reducible refine (impl_hasInt.calls kj17 _ _ x4_2 (rd ydHR375 x30_2) false _ ?side1 ?side2 A31.out).mono ?_); (case side1 => exact qD_ (Kd.R_reads' a1.out).2.2); (case side2 => exact (Kd.R_reads' a1.out).2.1); rintro e w' ⟨rfl, ⟨nd, rfl⟩⟩) | ((with_reducible refine gate_builtin (b := .append) (xs := #[.tmp 61, .tmp 63]) rfl ?_); at_builtin; refine Kd.R_append (Kd.int .i64) (w0 := w) w.heap.size rfl (.tmp 61) (.tmp 63) 51 3 (.int .i64 0) 8 rfl Try.underlying51 info3 rfl (by decide) (by omega) (.slice a9 x3_2.length b0) x3_2 (rd ydHR375 x30_2) [.int .i64 (rd ydHR375 x30_2)] (fun k_ => some k_ ≠ (.slice d7 x4_2.length d8 : Value).ownBlock) (fun _ => False) rfl rfl ?aP (fun _ hk => hk.elim) ?aF ?aO ?aB ?aS ?aL ?_; (case aP => exact rfl); (case aB => exact qB_); (case aF => exact (fun k_ hk => Kd.fresh' (Kd.R_lt (qR_ a1)) k_ hk)); (case aO => exact (qR_ a4)); (case aS => exact (below_size qB_)); (case aL => have := LMc34.out; omega); intro e7 w37 ho hb hg hat; rw [← Ny383.out] at ho; have a7 := am_ (ho); replace a1 := am_ (Kd.R_after (ok := (fun _ => True)) (by (with_reducible repeat (first | apply Kd.R_alloc | apply Kd.R_drewN | apply Kd.R_drew)); exact Kd.R_mono a1.out (fun _ hk => ⟨trivial, hk⟩)) hg hat); replace HB := am_ (hb); clear a4; clear ho hb hg hat) | ((with_reducible refine gate_builtin (b := .append) (xs := #[.tmp 65, .tmp 67]) rfl ?_); at_builtin; refine Kd.R_append (Kd.int .i64) (w0 := w) w.heap.size rfl (.tmp 65) (.tmp 67) 51 3 (.int .i64 0) 8 rfl Try.underlying51 info3 rfl (by decide) (by omega) (.slice d7 x4_2.length d8) x4_2 (rd ydHR375 x30_2) [.int .i64 (rd ydHR375 x30_2)] (fun k_ => some k_ ≠ (e7 : Value).ownBlock) (fun _ => False) rfl rfl ?aP (fun _ hk => hk.elim) ?aF ?aO ?aB ?aS ?aL ?_; (case aP => exact rfl); (case aB => exact qB_); (case aF => exact (fun k_ hk => Kd.fresh' (Kd.R_lt (qR_ a7)) k_ hk)); (case aO => exact (by (with_reducible repeat (first | apply Kd.R_alloc | apply Kd.R_drewN | apply Kd.R_drew)); exact Kd.R_mono a1.out (fun _ hk => hk.2))); (case aS => exact (below_size qB_)); (case aL => have := LMc35.out; omega); intro f6 w38 ho hb hg hat; rw [← Ny386.out] at ho; have b5 := am_ (ho); replace a7 := am_ (Kd.R_after (ok := (fun _ => True)) (by (with_reducible repeat (first | apply Kd.R_alloc | apply Kd.R_drewN | apply Kd.R_drew)); exact Kd.R_mono a7.out (fun _ hk => ⟨trivial, hk⟩)) hg hat); replace HB := am_ (hb); clear a1; clear ho hb hg hat))
       go_roundg kj17
       case measure => have := d0.out; have := HK2.out; have := b2.out; omega
       case rel => exact ⟨(c3), (d6), (wrap64 (x30_2 + 1)), qe_, H', ⟨by have := d0.out; have := HK2.out; have := b2.out; omega⟩, ⟨by (with_reducible repeat (first | apply Kd.R_alloc | apply Kd.R_drewN | apply Kd.R_drew)); exact Kd.R_mono a7.out (fun _ hk => hk.2)⟩, ⟨by (with_reducible repeat (first | apply Kd.R_alloc | apply Kd.R_drewN | apply Kd.R_drew)); first | exact b5.out | (have h_ := b5.out; simp only [own_slice] at h_ ⊢; exact h_)⟩, ⟨qB_⟩⟩
end Go.Proofs.Ytbkklafkoegdpaa.QFnExactLink
