import Derived.Test.YtbkklafkoegdpaaQFnExactCutx3
namespace Go.Proofs.Ytbkklafkoegdpaa.QFnExactCut
open Go.RowKit Go.Proofs.YtbkklafkoegdpaaW.PrintWords Go.Proofs.YtbkklafkoegdpaaW.PrintLast Go.Proofs.YtbkklafkoegdpaaW.PrintMore
set_option linter.unusedVariables false
set_option linter.unusedSimpArgs false
def spec_TreeOf.l0 : Nat → Int → Int → Int → List (List Int) → Option (Int)
  | 0, _, _, _, _ => none
  | k + 1, x1, x5, x159000, x159001 => if x5 < (x159001.length : Int) then (if 0 ≤ x5 then ((spec_l05In.f k (rd_L1 x159001 x5) x1).bind fun t161 => (if t161 = true then (some x5) else (spec_TreeOf.l0 k x1 (wrap64 (x5 + 1)) x159000 x159001))) else (none)) else (some (-1))
def spec_TreeOf.f (k : Nat) (a0_0 : Int) (l0_1 : List (List Int)) (a1 : Int) : Option (Int) := (spec_ForestOk.f k a0_0 l0_1).bind fun t159 => (if t159 = true then (spec_TreeOf.l0 k a1 0 a0_0 l0_1) else (some (-1)))
theorem spec_TreeOf.mono_l : ∀ k, (∀ y0 y1 y2 y3, LeO (spec_TreeOf.l0 k y0 y1 y2 y3) (spec_TreeOf.l0 (k + 1) y0 y1 y2 y3))
  | 0 => fun _ _ _ _ r h => by simp [spec_TreeOf.l0] at h
  | k + 1 => by
    have ih0 := spec_TreeOf.mono_l k
    · intro y0 y1 y2 y3
      unfold spec_TreeOf.l0
      repeat' first | (with_reducible first | exact ih0 _ _ _ _ | exact spec_ForestOk.mono _ _ _ | exact spec_l05In.mono _ _ _ | exact LeO.refl _ | exact LeO.none _ | refine LeO.ite ?_ ?_ | refine LeO.bind ?_ (fun _ => ?_)) | exact LeO.none _ | refine LeO.ite ?_ ?_ | refine LeO.bind ?_ (fun _ => ?_)
theorem spec_TreeOf.mono : ∀ a0 a1 a2 k, LeO (spec_TreeOf.f k a0 a1 a2) (spec_TreeOf.f (k + 1) a0 a1 a2) := by
  intro a0 a1 a2 k
  have ih0 := spec_TreeOf.mono_l k
  unfold spec_TreeOf.f
  repeat' first | (with_reducible first | exact ih0 _ _ _ _ | exact spec_ForestOk.mono _ _ _ | exact spec_l05In.mono _ _ _ | exact LeO.refl _ | exact LeO.none _ | refine LeO.ite ?_ ?_ | refine LeO.bind ?_ (fun _ => ?_)) | exact LeO.none _ | refine LeO.ite ?_ ?_ | refine LeO.bind ?_ (fun _ => ?_)
set_option maxHeartbeats 8000000 in
set_option maxRecDepth 100000 in
theorem spec_TreeOf.calls (k : Nat) (a0_0 : Int) (A0_1 : Option Addr) (c0_1 : Nat) (l0_1 : List (List Int)) (a1 : Int) (r : Int) (w : World) (hr0_1 : Kd.C (Kd.slice 3 (Kd.int .i64)) w A0_1 l0_1.length l0_1) (hc0_1 : l0_1.length ≤ c0_1) (h : spec_TreeOf.f k a0_0 l0_1 a1 = some r) :
  Calls Try.prog 60 #[.agg #[.int .i64 a0_0, .slice A0_1 l0_1.length c0_1], .int .i64 a1] w fun e w' => e = .returned (.int .i64 r) ∧ Below w.heap.size w w' := by
 have hu39 := Try.underlying39
 have HR0_1 := am_ hr0_1
 have HC0_1 := am_ hc0_1
 clear hr0_1 hc0_1
 have HB := am_ (Below.refl w.heap.size w)
 have H : ((spec_ForestOk.f k a0_0 l0_1).bind fun a5 => (if a5 = true then (spec_TreeOf.l0 k a1 0 a0_0 l0_1) else (some (-1)))) = some r := h
 clear h
 obtain ⟨a5, A30, H⟩ := Option.bind_eq_some_iff.mp H; have A3 := am_ A30; clear A30
 by_cases c4 : a5 = true
 rotate_left
 ·replace c4 := Bool.eq_false_iff.mpr c4
  subst c4
  rw [if_neg ff_] at H
  obtain rfl := Option.some.inj H
  go_enter Try.func60, Try.ntmps60
  go_wp2_with (first | ((with_reducible refine gate_dst (N := 2) rfl ?_); refine by_ 2 (cs := #[.int .i64 a0_0, .slice A0_1 l0_1.length c0_1]) (t := 39) ?_; intro a4 hg w15 a0 hb; have a3 := gw_ hg; have b0 := a3; replace HB := hs_ hb; clear hb hg; obtain ⟨b2, b3, b4, b5⟩ := bc2_ a0) | ((with_reducible refine gate_callee (f := 51) rfl ?_); refine gl_ (some 7) Try.func51 #[.agg #[.int .i64 a0_0, .slice A0_1 l0_1.length c0_1]] ?_; (with_reducible refine (spec_ForestOk.calls k a0_0 _ _ l0_1 false _ ?side1 ?side2 A3.out).mono ?_); (case side1 => exact qC_ HR0_1 HB); (case side2 => exact HC0_1.out); rintro e w17 ⟨rfl, hb⟩; refine ⟨_, rfl, ?_⟩; replace a0 := qbl_ a0 hb; replace HB := hs_ hb; (try clear hb); (try clear hb2); (try clear hk); (try clear hi)))
  go_ret
  exact ⟨qr_, qB_⟩
 subst c4
 rw [if_pos rfl] at H; have H' := am_ H; clear H
 go_enter Try.func60, Try.ntmps60
 go_wp2_with (first | ((with_reducible refine gate_dst (N := 2) rfl ?_); refine by_ 2 (cs := #[.int .i64 a0_0, .slice A0_1 l0_1.length c0_1]) (t := 39) ?_; intro a4 hg w5 a0 hb; have a3 := gw_ hg; have b0 := a3; replace HB := hs_ hb; clear hb hg; obtain ⟨a6, a7, a8, a9⟩ := bc2_ a0) | ((with_reducible refine gate_callee (f := 51) rfl ?_); refine gl_ (some 7) Try.func51 #[.agg #[.int .i64 a0_0, .slice A0_1 l0_1.length c0_1]] ?_; (with_reducible refine (spec_ForestOk.calls k a0_0 _ _ l0_1 true _ ?side1 ?side2 A3.out).mono ?_); (case side1 => exact qC_ HR0_1 HB); (case side2 => exact HC0_1.out); rintro e w7 ⟨rfl, hb⟩; refine ⟨_, rfl, ?_⟩; replace a0 := qbl_ a0 hb; replace HB := hs_ hb; (try clear hb); (try clear hb2); (try clear hk); (try clear hi)))
 go_loopg [5] k (fun kq v5 w' => ∃ (x5_1 : Int), v5 = .int .i64 x5_1 ∧ Aside0 (spec_TreeOf.l0 kq a1 x5_1 a0_0 l0_1 = some r) ∧ Aside0 (kq ≤ k) ∧ Aside0 (w'.heap[a4]? = some (.cells #[.int .i64 a0_0, (.slice A0_1 l0_1.length c0_1)] 39 (0, 0))) ∧ Aside0 (Below w.heap.size w w'))
 case atStart => exact ⟨(0), qe_, H', ⟨Nat.le_refl _⟩, ⟨qk_ a0⟩, ⟨qB_⟩⟩
 case round =>
  clear H'
  (try clear p2); (try clear c4); (try clear c5); (try clear c6); (try clear a6 a7 a8 a9)
  obtain ⟨x5_1, rfl, HA, HK1, a0, HB⟩ := hrel
  cases gk with
  | zero => exact absurd HA.out (by simp [spec_TreeOf.l0])
  | succ k1 =>
   have H := HA.out; clear HA
   simp only [spec_TreeOf.l0] at H
   by_cases c8 : x5_1 < (l0_1.length : Int)
   rotate_left
   ·rw [if_neg c8] at H
    have c8b0 := decide_eq_false c8
    clear c8
    obtain rfl := Option.some.inj H
    obtain ⟨b6, b7, b8, b9⟩ := bc2_ a0
    go_wp2
    go_ret
    exact ⟨qr_, qB_⟩
   rw [if_pos c8] at H
   have c8b0 := decide_eq_true c8
   clear c8
   by_cases c9 : 0 ≤ x5_1
   rotate_left
   ·rw [if_neg c9] at H
    exact absurd H (by simp)
   rw [if_pos c9] at H
   have c9b0 := decide_eq_true c9
   clear c9
   obtain ⟨d3, b1, H⟩ := Option.bind_eq_some_iff.mp H; have A10 := am_ b1; clear b1
   by_cases c11 : d3 = true
   ·subst c11
    rw [if_pos rfl] at H
    obtain rfl := Option.some.inj H
    obtain ⟨c0, c1, c2, c3⟩ := bc2_ a0
    have p160 := dp_ x5_1
    have q160 := dl_ x5_1 l0_1.length
    obtain ⟨ad160, A160_0, c160_0, e160, a2, hl160_0, hi160_0⟩ := at_L1 HR0_1.out x5_1 p160 q160
    cases e160
    replace a2 := qx_ HB a2
    have HR160_0 := am_ hi160_0
    have HC160_0 := am_ hl160_0
    clear hi160_0 hl160_0; replace p160 := eq_true p160; replace q160 := eq_true q160
    go_wp2_with (first | ((with_reducible refine gate_callee (f := 105) rfl ?_); refine gl_ (some 22) Try.func105 #[.slice A160_0 (rd_L1 l0_1 x5_1).length c160_0, .int .i64 a1] ?_; (with_reducible refine (spec_l05In.calls k1 _ _ (rd_L1 l0_1 x5_1) a1 true _ ?side1 ?side2 A10.out).mono ?_); (case side1 => exact qC_ HR160_0 HB); (case side2 => exact HC160_0.out); rintro e w' ⟨rfl, ⟨nd, rfl⟩⟩; refine ⟨_, rfl, ?_⟩))
    go_ret
    exact ⟨qr_, qB_⟩
   replace c11 := Bool.eq_false_iff.mpr c11
   subst c11
   rw [if_neg ff_] at H; have H' := am_ H; clear H
   obtain ⟨c7, d0, d1, d2⟩ := bc2_ a0
   have p160 := dp_ x5_1
   have q160 := dl_ x5_1 l0_1.length
   obtain ⟨ad160, A160_0, c160_0, e160, a2, hl160_0, hi160_0⟩ := at_L1 HR0_1.out x5_1 p160 q160
   cases e160
   replace a2 := qx_ HB a2
   have HR160_0 := am_ hi160_0
   have HC160_0 := am_ hl160_0
   clear hi160_0 hl160_0; replace p160 := eq_true p160; replace q160 := eq_true q160
   go_wp2_with (first | ((with_reducible refine gate_callee (f := 105) rfl ?_); refine gl_ (some 22) Try.func105 #[.slice A160_0 (rd_L1 l0_1 x5_1).length c160_0, .int .i64 a1] ?_; (with_reducible refine (spec_l05In.calls k1 _ _ (rd_L1 l0_1 x5_1) a1 false _ ?side1 ?side2 A10.out).mono ?_); (case side1 => exact qC_ HR160_0 HB); (case side2 => exact HC160_0.out); rintro e w' ⟨rfl, ⟨nd, rfl⟩⟩; refine ⟨_, rfl, ?_⟩))
   go_roundg k1
   case measure => have := HK1.out; omega
   case rel => exact ⟨(wrap64 (x5_1 + 1)), qe_, H', ⟨by have := HK1.out; omega⟩, ⟨qk_ a0⟩, ⟨qB_⟩⟩
def spec_EdgeOk.f (a0 : Int) (a1_0 : Int) (a1_1 : Int) : Option (Bool) := (spec_l01In.f a0 1 12).bind fun t163 => (if t163 = true then ((spec_l01In.f a1_0 0 (wrap64 (a0 - 1))).bind fun t164 => (if t164 = true then ((spec_l01In.f a1_1 0 (wrap64 (a0 - 1))).bind fun t165 => (if t165 = true then (some (decide (a1_0 < a1_1))) else (some false))) else (some false))) else (some false))
set_option maxHeartbeats 8000000 in
set_option maxRecDepth 100000 in
theorem spec_EdgeOk.calls (a0 : Int) (a1_0 : Int) (a1_1 : Int) (r : Bool) (w : World) (h : spec_EdgeOk.f a0 a1_0 a1_1 = some r) :
  Calls Try.prog 71 #[.int .i64 a0, .agg #[.int .i64 a1_0, .int .i64 a1_1]] w fun e w' => e = .returned (.bool r) ∧ Below w.heap.size w w' := by
 have hu43 := Try.underlying43
 have HB := am_ (Below.refl w.heap.size w)
 have H : ((spec_l01In.f a0 1 12).bind fun a5 => (if a5 = true then ((spec_l01In.f a1_0 0 (wrap64 (a0 - 1))).bind fun a6 => (if a6 = true then ((spec_l01In.f a1_1 0 (wrap64 (a0 - 1))).bind fun a7 => (if a7 = true then (some (decide (a1_0 < a1_1))) else (some false))) else (some false))) else (some false))) = some r := h
 clear h
 obtain ⟨a5, A30, H⟩ := Option.bind_eq_some_iff.mp H; have A3 := am_ A30; clear A30
 by_cases c4 : a5 = true
 rotate_left
 ·replace c4 := Bool.eq_false_iff.mpr c4
  subst c4
  rw [if_neg ff_] at H
  obtain rfl := Option.some.inj H
  go_enter Try.func71, Try.ntmps71
  go_wp2_with (first | ((with_reducible refine gate_dst (N := 3) rfl ?_); refine by_ 3 (cs := #[.int .i64 a1_0, .int .i64 a1_1]) (t := 43) ?_; intro a3 hg w15 a2 hb; have a1 := gw_ hg; have a4 := a1; replace HB := hs_ hb; clear hb hg) | ((with_reducible refine gate_callee (f := 57) rfl ?_); refine gl_ (some 6) Try.func57 #[.int .i64 a0, .int .i64 1, .int .i64 12] ?_; (with_reducible refine (spec_l01In.calls a0 1 12 false _ A3.out).mono ?_); rintro e w' ⟨rfl, ⟨nd, rfl⟩⟩; refine ⟨_, rfl, ?_⟩))
  go_ret
  exact ⟨qr_, qB_⟩
 subst c4
 rw [if_pos rfl] at H
 obtain ⟨a6, A50, H⟩ := Option.bind_eq_some_iff.mp H; have A5 := am_ A50; clear A50
 by_cases c6 : a6 = true
 rotate_left
 ·replace c6 := Bool.eq_false_iff.mpr c6
  subst c6
  rw [if_neg ff_] at H
  obtain rfl := Option.some.inj H
  go_enter Try.func71, Try.ntmps71
  go_wp2_with (first | ((with_reducible refine gate_dst (N := 3) rfl ?_); refine by_ 3 (cs := #[.int .i64 a1_0, .int .i64 a1_1]) (t := 43) ?_; intro a3 hg w13 a2 hb; have a1 := gw_ hg; have a4 := a1; replace HB := hs_ hb; clear hb hg) | ((with_reducible refine gate_callee (f := 57) rfl ?_); refine gl_ (some 6) Try.func57 #[.int .i64 a0, .int .i64 1, .int .i64 12] ?_; (with_reducible refine (spec_l01In.calls a0 1 12 true _ A3.out).mono ?_); rintro e w' ⟨rfl, ⟨nd, rfl⟩⟩; refine ⟨_, rfl, ?_⟩; obtain ⟨a8, a9, b0, b1⟩ := bc2_ a2) | (go_at_call 57; (with_reducible refine (spec_l01In.calls a1_0 0 (wrap64 (a0 - 1)) false _ A5.out).mono ?_); rintro e w' ⟨rfl, ⟨nd, rfl⟩⟩))
  go_ret
  exact ⟨qr_, qB_⟩
 subst c6
 rw [if_pos rfl] at H
 obtain ⟨a7, A70, H⟩ := Option.bind_eq_some_iff.mp H; have A7 := am_ A70; clear A70
 by_cases c8 : a7 = true
 ·subst c8
  rw [if_pos rfl] at H
  obtain rfl := Option.some.inj H
  go_enter Try.func71, Try.ntmps71
  go_wp2_with (first | ((with_reducible refine gate_dst (N := 3) rfl ?_); refine by_ 3 (cs := #[.int .i64 a1_0, .int .i64 a1_1]) (t := 43) ?_; intro a3 hg w9 a2 hb; have a1 := gw_ hg; have a4 := a1; replace HB := hs_ hb; clear hb hg) | ((with_reducible refine gate_callee (f := 57) rfl ?_); refine gl_ (some 6) Try.func57 #[.int .i64 a0, .int .i64 1, .int .i64 12] ?_; (with_reducible refine (spec_l01In.calls a0 1 12 true _ A3.out).mono ?_); rintro e w' ⟨rfl, ⟨nd, rfl⟩⟩; refine ⟨_, rfl, ?_⟩; obtain ⟨b2, b3, b4, b5⟩ := bc2_ a2) | (go_at_call 57; (with_reducible refine (spec_l01In.calls a1_0 0 (wrap64 (a0 - 1)) true _ A5.out).mono ?_); rintro e w' ⟨rfl, ⟨nd, rfl⟩⟩) | (go_at_call 57; (with_reducible refine (spec_l01In.calls a1_1 0 (wrap64 (a0 - 1)) true _ A7.out).mono ?_); rintro e w' ⟨rfl, ⟨nd, rfl⟩⟩))
  go_ret
  exact ⟨qr_, qB_⟩
 replace c8 := Bool.eq_false_iff.mpr c8
 subst c8
 rw [if_neg ff_] at H
 obtain rfl := Option.some.inj H
 go_enter Try.func71, Try.ntmps71
 go_wp2_with (first | ((with_reducible refine gate_dst (N := 3) rfl ?_); refine by_ 3 (cs := #[.int .i64 a1_0, .int .i64 a1_1]) (t := 43) ?_; intro a3 hg w11 a2 hb; have a1 := gw_ hg; have a4 := a1; replace HB := hs_ hb; clear hb hg) | ((with_reducible refine gate_callee (f := 57) rfl ?_); refine gl_ (some 6) Try.func57 #[.int .i64 a0, .int .i64 1, .int .i64 12] ?_; (with_reducible refine (spec_l01In.calls a0 1 12 true _ A3.out).mono ?_); rintro e w' ⟨rfl, ⟨nd, rfl⟩⟩; refine ⟨_, rfl, ?_⟩; obtain ⟨b6, b7, b8, b9⟩ := bc2_ a2) | (go_at_call 57; (with_reducible refine (spec_l01In.calls a1_0 0 (wrap64 (a0 - 1)) true _ A5.out).mono ?_); rintro e w' ⟨rfl, ⟨nd, rfl⟩⟩) | (go_at_call 57; (with_reducible refine (spec_l01In.calls a1_1 0 (wrap64 (a0 - 1)) false _ A7.out).mono ?_); rintro e w' ⟨rfl, ⟨nd, rfl⟩⟩))
 go_ret
 exact ⟨qr_, qB_⟩
def spec_l06Going.l0 : Nat → List Int → Int → Int → Int → Option (Int)
  | 0, _, _, _, _ => none
  | k + 1, x0, x1, x2, x7 => if (wrap64 (x7 + 1)) < (x0.length : Int) then (if 0 ≤ x7 then (if x7 < (x0.length : Int) then (if (rd x0 x7) = x1 then (if 0 ≤ (wrap64 (x7 + 1)) then (if (rd x0 (wrap64 (x7 + 1))) = x2 then (some x7) else (spec_l06Going.l0 k x0 x1 x2 (wrap64 (x7 + 1)))) else (none)) else (spec_l06Going.l0 k x0 x1 x2 (wrap64 (x7 + 1)))) else (none)) else (none)) else (some (-1))
def spec_l06Going.f (k : Nat) (l0 : List Int) (a1 : Int) (a2 : Int) : Option (Int) := spec_l06Going.l0 k l0 a1 a2 0
theorem spec_l06Going.mono_l : ∀ k, (∀ y0 y1 y2 y3, LeO (spec_l06Going.l0 k y0 y1 y2 y3) (spec_l06Going.l0 (k + 1) y0 y1 y2 y3))
  | 0 => fun _ _ _ _ r h => by simp [spec_l06Going.l0] at h
  | k + 1 => by
    have ih0 := spec_l06Going.mono_l k
    · intro y0 y1 y2 y3
      unfold spec_l06Going.l0
      repeat' first | (with_reducible first | exact ih0 _ _ _ _ | exact LeO.refl _ | exact LeO.none _ | refine LeO.ite ?_ ?_ | refine LeO.bind ?_ (fun _ => ?_)) | exact LeO.none _ | refine LeO.ite ?_ ?_ | refine LeO.bind ?_ (fun _ => ?_)
theorem spec_l06Going.mono : ∀ a0 a1 a2 k, LeO (spec_l06Going.f k a0 a1 a2) (spec_l06Going.f (k + 1) a0 a1 a2) := by
  intro a0 a1 a2 k
  have ih0 := spec_l06Going.mono_l k
  unfold spec_l06Going.f
  repeat' first | (with_reducible first | exact ih0 _ _ _ _ | exact LeO.refl _ | exact LeO.none _ | refine LeO.ite ?_ ?_ | refine LeO.bind ?_ (fun _ => ?_)) | exact LeO.none _ | refine LeO.ite ?_ ?_ | refine LeO.bind ?_ (fun _ => ?_)
set_option maxHeartbeats 8000000 in
set_option maxRecDepth 100000 in
theorem spec_l06Going.calls (k : Nat) (A0 : Option Addr) (c0 : Nat) (l0 : List Int) (a1 : Int) (a2 : Int) (r : Int) (w : World) (hr0 : Kd.C (Kd.int .i64) w A0 l0.length l0) (hc0 : l0.length ≤ c0) (h : spec_l06Going.f k l0 a1 a2 = some r) :
  Calls Try.prog 117 #[.slice A0 l0.length c0, .int .i64 a1, .int .i64 a2] w fun e w' => e = .returned (.int .i64 r) ∧ Drawn0 w w' := by
 have a4 := am_ hr0
 have a5 := am_ hc0
 clear hr0 hc0
 have H : (spec_l06Going.l0 k l0 a1 a2 0) = some r := h
 clear h; have H' := am_ H; clear H
 go_enter Try.func117, Try.ntmps117
 go_wp2
 go_loopg [7] k (fun kq v7 w' => ∃ (x7_1 : Int), v7 = .int .i64 x7_1 ∧ Aside0 (spec_l06Going.l0 kq l0 a1 a2 x7_1 = some r) ∧ Aside0 (kq ≤ k) ∧ Drawn0 w w')
 case atStart => exact ⟨(0), qe_, H', ⟨Nat.le_refl _⟩, by repeat (first | exact Drawn0.refl _ | apply Drawn0.step)⟩
 case round =>
  clear H'
  (try clear c1); (try clear p2)
  obtain ⟨x7_1, rfl, HA, HK1, ⟨m1, rfl⟩⟩ := hrel
  cases gk with
  | zero => exact absurd HA.out (by simp [spec_l06Going.l0])
  | succ k1 =>
   have H := HA.out; clear HA
   simp only [spec_l06Going.l0] at H
   by_cases c4 : (wrap64 (x7_1 + 1)) < (l0.length : Int)
   rotate_left
   ·rw [if_neg c4] at H
    have c4b0 := decide_eq_false c4
    clear c4
    obtain rfl := Option.some.inj H
    go_wp2
    go_ret
    exact ⟨by first | rfl | (simp; done) | (simp [*]; done), by repeat (first | exact Drawn0.refl _ | apply Drawn0.step)⟩
   rw [if_pos c4] at H
   have c4b0 := decide_eq_true c4
   clear c4
   by_cases c5 : 0 ≤ x7_1
   rotate_left
   ·rw [if_neg c5] at H
    exact absurd H (by simp)
   rw [if_pos c5] at H
   have c5b0 := decide_eq_true c5
   clear c5
   by_cases c6 : x7_1 < (l0.length : Int)
   rotate_left
   ·rw [if_neg c6] at H
    exact absurd H (by simp)
   rw [if_pos c6] at H
   have c6b0 := decide_eq_true c6
   clear c6
   by_cases c7 : (rd l0 x7_1) = a1
   rotate_left
   ·rw [if_neg c7] at H
    have c7b0 : ((rd l0 x7_1) == a1) = false := beq_eq_false_iff_ne.mpr c7
    have c7b1 : ((rd l0 x7_1) != a1) = true := bne_iff_ne.mpr c7
    have H' := am_ H; clear H
    have p166 := dp_ x7_1
    have q166 := dl_ x7_1 l0.length
    obtain ⟨ad166, e166, a0⟩ := Kd.at_int a4.out x7_1 p166 q166
    cases e166; replace p166 := eq_true p166; replace q166 := eq_true q166
    go_wp2
    go_roundg k1
    case measure => have := HK1.out; omega
    case rel => exact ⟨(wrap64 (x7_1 + 1)), qe_, H', ⟨by have := HK1.out; omega⟩, by repeat (first | exact Drawn0.refl _ | apply Drawn0.step)⟩
   rw [if_pos c7] at H
   have c7b0 : ((rd l0 x7_1) == a1) = true := beq_iff_eq.mpr c7
   have c7b1 : ((rd l0 x7_1) != a1) = false := bne_eq_false_iff_eq.mpr c7
   clear c7
   obtain ⟨ji8, hji8⟩ : ∃ j_ : Int, (wrap64 (x7_1 + 1)) = j_ := ⟨_, rfl⟩
   first | rw [hji8] at H | simp only [hji8] at H
   (try rw [hji8] at c4b0)
   have hji8w : (IntKind.i64.wrap (x7_1 + 1)) = ji8 := (i64_w _).trans hji8
   by_cases c9 : 0 ≤ (ji8)
   rotate_left
   ·rw [if_neg c9] at H
    exact absurd H (by simp)
   rw [if_pos c9] at H
   have c9b0 := decide_eq_true c9
   clear c9
   by_cases c10 : (rd l0 (ji8)) = a2
   ·rw [if_pos c10] at H
    have c10b0 : ((rd l0 (ji8)) == a2) = true := beq_iff_eq.mpr c10
    have c10b1 : ((rd l0 (ji8)) != a2) = false := bne_eq_false_iff_eq.mpr c10
    clear c10
    obtain rfl := Option.some.inj H
    have p166 := dp_ x7_1
    have q166 := dl_ x7_1 l0.length
    obtain ⟨ad166, e166, a0⟩ := Kd.at_int a4.out x7_1 p166 q166
    cases e166; replace p166 := eq_true p166; replace q166 := eq_true q166
    have p167 := dp_ ((ji8))
    have q167 := dl_ (ji8) l0.length
    obtain ⟨ad167, e167, a3⟩ := Kd.at_int a4.out (ji8) p167 q167
    obtain rfl : ad166 = ad167 := (by injection e167)
    replace p167 := eq_true p167; replace q167 := eq_true q167
    go_wp2
    go_ret
    exact ⟨by first | rfl | (simp; done) | (simp only [← hji8] <;> (first | rfl | simp)) | (simp [*]; done), by repeat (first | exact Drawn0.refl _ | apply Drawn0.step)⟩
   rw [if_neg c10] at H
   have c10b0 : ((rd l0 (ji8)) == a2) = false := beq_eq_false_iff_ne.mpr c10
   have c10b1 : ((rd l0 (ji8)) != a2) = true := bne_iff_ne.mpr c10
   have H' := am_ H; clear H
   have p166 := dp_ x7_1
   have q166 := dl_ x7_1 l0.length
   obtain ⟨ad166, e166, a0⟩ := Kd.at_int a4.out x7_1 p166 q166
   cases e166; replace p166 := eq_true p166; replace q166 := eq_true q166
   have p167 := dp_ ((ji8))
   have q167 := dl_ (ji8) l0.length
   obtain ⟨ad167, e167, a3⟩ := Kd.at_int a4.out (ji8) p167 q167
   obtain rfl : ad166 = ad167 := (by injection e167)
   replace p167 := eq_true p167; replace q167 := eq_true q167
   go_wp2
   go_roundg k1
   case measure => have := HK1.out; omega
   case rel => exact ⟨(ji8), (by first | rfl | (simp; done) | (simp only [← hji8] <;> (first | rfl | simp)) | (simp [*]; done)), H', ⟨by have := HK1.out; omega⟩, by repeat (first | exact Drawn0.refl _ | apply Drawn0.step)⟩
end Go.Proofs.Ytbkklafkoegdpaa.QFnExactCut
