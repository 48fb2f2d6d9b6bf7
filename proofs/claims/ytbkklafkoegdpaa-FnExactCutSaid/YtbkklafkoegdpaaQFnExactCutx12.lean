import Derived.Test.YtbkklafkoegdpaaQFnExactCutx11
namespace Go.Proofs.Ytbkklafkoegdpaa.QFnExactCut
open Go.RowKit Go.Proofs.YtbkklafkoegdpaaW.PrintWords Go.Proofs.YtbkklafkoegdpaaW.PrintLast Go.Proofs.YtbkklafkoegdpaaW.PrintMore
set_option linter.unusedVariables false
set_option linter.unusedSimpArgs false
def impl_EdgeOk.f (a0 : Int) (a1_0 : Int) (a1_1 : Int) : Option (Bool) := (impl_in.f a0 1 12).bind fun t378 => (if t378 = true then ((impl_in.f a1_0 0 (wrap64 (a0 - 1))).bind fun t379 => (if t379 = true then ((impl_in.f a1_1 0 (wrap64 (a0 - 1))).bind fun t380 => (if t380 = true then (some (decide (a1_0 < a1_1))) else (some false))) else (some false))) else (some false))
set_option maxHeartbeats 8000000 in
set_option maxRecDepth 100000 in
theorem impl_EdgeOk.calls (a0 : Int) (a1_0 : Int) (a1_1 : Int) (r : Bool) (w : World) (h : impl_EdgeOk.f a0 a1_0 a1_1 = some r) :
  Calls Try.prog 76 #[.int .i64 a0, .agg #[.int .i64 a1_0, .int .i64 a1_1]] w fun e w' => e = .returned (.bool r) ∧ Below w.heap.size w w' := by
 have hu43 := Try.underlying43
 have HB := am_ (Below.refl w.heap.size w)
 have H : ((impl_in.f a0 1 12).bind fun a5 => (if a5 = true then ((impl_in.f a1_0 0 (wrap64 (a0 - 1))).bind fun a6 => (if a6 = true then ((impl_in.f a1_1 0 (wrap64 (a0 - 1))).bind fun a7 => (if a7 = true then (some (decide (a1_0 < a1_1))) else (some false))) else (some false))) else (some false))) = some r := h
 clear h
 obtain ⟨a5, A30, H⟩ := Option.bind_eq_some_iff.mp H; have A3 := am_ A30; clear A30
 by_cases c4 : a5 = true
 rotate_left
 ·replace c4 := Bool.eq_false_iff.mpr c4
  subst c4
  rw [if_neg ff_] at H
  obtain rfl := Option.some.inj H
  go_enter Try.func76, Try.ntmps76
  go_wp2_with (first | ((with_reducible refine gate_dst (N := 3) rfl ?_); refine by_ 3 (cs := #[.int .i64 a1_0, .int .i64 a1_1]) (t := 43) ?_; intro a3 hg w15 a2 hb; have a1 := gw_ hg; have a4 := a1; replace HB := hs_ hb; clear hb hg) | ((with_reducible refine gate_callee (f := 66) rfl ?_); refine gl_ (some 6) Try.func66 #[.int .i64 a0, .int .i64 1, .int .i64 12] ?_; (with_reducible refine (impl_in.calls a0 1 12 false _ A3.out).mono ?_); rintro e w' ⟨rfl, ⟨nd, rfl⟩⟩; refine ⟨_, rfl, ?_⟩))
  go_ret
  exact ⟨qr_, qB_⟩
 subst c4
 rw [if_pos rfl] at H
 obtain ⟨a6, A50, H⟩ := Option.bind_eq_some_iff.mp H; have A5 := am_ A50; clear A50
 by_cases c6 : a6 = true
 rotate_left
 ·replace c6 := Bool.eq_false_iff.mpr c6
  subst c6
  rw [if_neg ff_] at H
  obtain rfl := Option.some.inj H
  go_enter Try.func76, Try.ntmps76
  go_wp2_with (first | ((with_reducible refine gate_dst (N := 3) rfl ?_); refine by_ 3 (cs := #[.int .i64 a1_0, .int .i64 a1_1]) (t := 43) ?_; intro a3 hg w13 a2 hb; have a1 := gw_ hg; have a4 := a1; replace HB := hs_ hb; clear hb hg) | ((with_reducible refine gate_callee (f := 66) rfl ?_); refine gl_ (some 6) Try.func66 #[.int .i64 a0, .int .i64 1, .int .i64 12] ?_; (with_reducible refine (impl_in.calls a0 1 12 true _ A3.out).mono ?_); rintro e w' ⟨rfl, ⟨nd, rfl⟩⟩; refine ⟨_, rfl, ?_⟩; obtain ⟨a8, a9, b0, b1⟩ := bc2_ a2) | (go_at_call 66; (with_reducible refine (impl_in.calls a1_0 0 (wrap64 (a0 - 1)) false _ A5.out).mono ?_); rintro e w' ⟨rfl, ⟨nd, rfl⟩⟩))
  go_ret
  exact ⟨qr_, qB_⟩
 subst c6
 rw [if_pos rfl] at H
 obtain ⟨a7, A70, H⟩ := Option.bind_eq_some_iff.mp H; have A7 := am_ A70; clear A70
 by_cases c8 : a7 = true
 ·subst c8
  rw [if_pos rfl] at H
  obtain rfl := Option.some.inj H
  go_enter Try.func76, Try.ntmps76
  go_wp2_with (first | ((with_reducible refine gate_dst (N := 3) rfl ?_); refine by_ 3 (cs := #[.int .i64 a1_0, .int .i64 a1_1]) (t := 43) ?_; intro a3 hg w9 a2 hb; have a1 := gw_ hg; have a4 := a1; replace HB := hs_ hb; clear hb hg) | ((with_reducible refine gate_callee (f := 66) rfl ?_); refine gl_ (some 6) Try.func66 #[.int .i64 a0, .int .i64 1, .int .i64 12] ?_; (with_reducible refine (impl_in.calls a0 1 12 true _ A3.out).mono ?_); rintro e w' ⟨rfl, ⟨nd, rfl⟩⟩; refine ⟨_, rfl, ?_⟩; obtain ⟨b2, b3, b4, b5⟩ := bc2_ a2) | (go_at_call 66; (with_reducible refine (impl_in.calls a1_0 0 (wrap64 (a0 - 1)) true _ A5.out).mono ?_); rintro e w' ⟨rfl, ⟨nd, rfl⟩⟩) | (go_at_call 66; (with_reducible refine (impl_in.calls a1_1 0 (wrap64 (a0 - 1)) true _ A7.out).mono ?_); rintro e w' ⟨rfl, ⟨nd, rfl⟩⟩))
  go_ret
  exact ⟨qr_, qB_⟩
 replace c8 := Bool.eq_false_iff.mpr c8
 subst c8
 rw [if_neg ff_] at H
 obtain rfl := Option.some.inj H
 go_enter Try.func76, Try.ntmps76
 go_wp2_with (first | ((with_reducible refine gate_dst (N := 3) rfl ?_); refine by_ 3 (cs := #[.int .i64 a1_0, .int .i64 a1_1]) (t := 43) ?_; intro a3 hg w11 a2 hb; have a1 := gw_ hg; have a4 := a1; replace HB := hs_ hb; clear hb hg) | ((with_reducible refine gate_callee (f := 66) rfl ?_); refine gl_ (some 6) Try.func66 #[.int .i64 a0, .int .i64 1, .int .i64 12] ?_; (with_reducible refine (impl_in.calls a0 1 12 true _ A3.out).mono ?_); rintro e w' ⟨rfl, ⟨nd, rfl⟩⟩; refine ⟨_, rfl, ?_⟩; obtain ⟨b6, b7, b8, b9⟩ := bc2_ a2) | (go_at_call 66; (with_reducible refine (impl_in.calls a1_0 0 (wrap64 (a0 - 1)) true _ A5.out).mono ?_); rintro e w' ⟨rfl, ⟨nd, rfl⟩⟩) | (go_at_call 66; (with_reducible refine (impl_in.calls a1_1 0 (wrap64 (a0 - 1)) false _ A7.out).mono ?_); rintro e w' ⟨rfl, ⟨nd, rfl⟩⟩))
 go_ret
 exact ⟨qr_, qB_⟩
def impl_TreeOf.l0 : Nat → Int → List (List Int) → Int → Int → Option (Int)
  | 0, _, _, _, _ => none
  | k + 1, x1, x11, x12, x13 => if x13 < x12 then (if 0 ≤ x13 then (if x13 < (x11.length : Int) then ((impl_hasInt.f k (rd_L1 x11 x13) x1).bind fun t384 => (if t384 = true then (some x13) else (impl_TreeOf.l0 k x1 x11 x12 (wrap64 (x13 + 1))))) else (none)) else (none)) else (some (-1))
def impl_TreeOf.f (k : Nat) (a0_0 : Int) (l0_1 : List (List Int)) (a1 : Int) : Option (Int) := (impl_ForestOk.f k a0_0 l0_1).bind fun t382 => (if t382 = true then (impl_TreeOf.l0 k a1 l0_1 (l0_1.length : Int) 0) else (some (-1)))
theorem impl_TreeOf.mono_l : ∀ k, (∀ y0 y1 y2 y3, LeO (impl_TreeOf.l0 k y0 y1 y2 y3) (impl_TreeOf.l0 (k + 1) y0 y1 y2 y3))
  | 0 => fun _ _ _ _ r h => by simp [impl_TreeOf.l0] at h
  | k + 1 => by
    have ih0 := impl_TreeOf.mono_l k
    · intro y0 y1 y2 y3
      unfold impl_TreeOf.l0
      repeat' first | (with_reducible first | exact ih0 _ _ _ _ | exact impl_ForestOk.mono _ _ _ | exact impl_hasInt.mono _ _ _ | exact LeO.refl _ | exact LeO.none _ | refine LeO.ite ?_ ?_ | refine LeO.bind ?_ (fun _ => ?_)) | exact LeO.none _ | refine LeO.ite ?_ ?_ | refine LeO.bind ?_ (fun _ => ?_)
theorem impl_TreeOf.mono : ∀ a0 a1 a2 k, LeO (impl_TreeOf.f k a0 a1 a2) (impl_TreeOf.f (k + 1) a0 a1 a2) := by
  intro a0 a1 a2 k
  have ih0 := impl_TreeOf.mono_l k
  unfold impl_TreeOf.f
  repeat' first | (with_reducible first | exact ih0 _ _ _ _ | exact impl_ForestOk.mono _ _ _ | exact impl_hasInt.mono _ _ _ | exact LeO.refl _ | exact LeO.none _ | refine LeO.ite ?_ ?_ | refine LeO.bind ?_ (fun _ => ?_)) | exact LeO.none _ | refine LeO.ite ?_ ?_ | refine LeO.bind ?_ (fun _ => ?_)
set_option maxHeartbeats 8000000 in
set_option maxRecDepth 100000 in
theorem impl_TreeOf.calls (k : Nat) (a0_0 : Int) (A0_1 : Option Addr) (c0_1 : Nat) (l0_1 : List (List Int)) (a1 : Int) (r : Int) (w : World) (hr0_1 : Kd.C (Kd.slice 3 (Kd.int .i64)) w A0_1 l0_1.length l0_1) (hc0_1 : l0_1.length ≤ c0_1) (h : impl_TreeOf.f k a0_0 l0_1 a1 = some r) :
  Calls Try.prog 77 #[.agg #[.int .i64 a0_0, .slice A0_1 l0_1.length c0_1], .int .i64 a1] w fun e w' => e = .returned (.int .i64 r) ∧ Below w.heap.size w w' := by
 have hu39 := Try.underlying39
 have HR0_1 := am_ hr0_1
 have HC0_1 := am_ hc0_1
 clear hr0_1 hc0_1
 have HB := am_ (Below.refl w.heap.size w)
 have H : ((impl_ForestOk.f k a0_0 l0_1).bind fun a5 => (if a5 = true then (impl_TreeOf.l0 k a1 l0_1 (l0_1.length : Int) 0) else (some (-1)))) = some r := h
 clear h
 obtain ⟨a5, A30, H⟩ := Option.bind_eq_some_iff.mp H; have A3 := am_ A30; clear A30
 by_cases c4 : a5 = true
 rotate_left
 ·replace c4 := Bool.eq_false_iff.mpr c4
  subst c4
  rw [if_neg ff_] at H
  obtain rfl := Option.some.inj H
  go_enter Try.func77, Try.ntmps77
  go_wp2_with (first | ((with_reducible refine gate_dst (N := 2) rfl ?_); refine by_ 2 (cs := #[.int .i64 a0_0, .slice A0_1 l0_1.length c0_1]) (t := 39) ?_; intro a4 hg w14 a0 hb; have a3 := gw_ hg; have b4 := a3; replace HB := hs_ hb; clear hb hg; obtain ⟨b6, b7, b8, b9⟩ := bc2_ a0) | ((with_reducible refine gate_callee (f := 75) rfl ?_); refine gl_ (some 8) Try.func75 #[.agg #[.int .i64 a0_0, .slice A0_1 l0_1.length c0_1]] ?_; (with_reducible refine (impl_ForestOk.calls k a0_0 _ _ l0_1 false _ ?side1 ?side2 A3.out).mono ?_); (case side1 => exact qC_ HR0_1 HB); (case side2 => exact HC0_1.out); rintro e w16 ⟨rfl, hb⟩; refine ⟨_, rfl, ?_⟩; replace a0 := qbl_ a0 hb; replace HB := hs_ hb; (try clear hb); (try clear hb2); (try clear hk); (try clear hi)))
  go_ret
  exact ⟨qr_, qB_⟩
 subst c4
 rw [if_pos rfl] at H; have H' := am_ H; clear H
 go_enter Try.func77, Try.ntmps77
 go_wp2_with (first | ((with_reducible refine gate_dst (N := 2) rfl ?_); refine by_ 2 (cs := #[.int .i64 a0_0, .slice A0_1 l0_1.length c0_1]) (t := 39) ?_; intro a4 hg w5 a0 hb; have a3 := gw_ hg; have b4 := a3; replace HB := hs_ hb; clear hb hg; obtain ⟨a6, a7, a8, a9⟩ := bc2_ a0) | ((with_reducible refine gate_callee (f := 75) rfl ?_); refine gl_ (some 8) Try.func75 #[.agg #[.int .i64 a0_0, .slice A0_1 l0_1.length c0_1]] ?_; (with_reducible refine (impl_ForestOk.calls k a0_0 _ _ l0_1 true _ ?side1 ?side2 A3.out).mono ?_); (case side1 => exact qC_ HR0_1 HB); (case side2 => exact HC0_1.out); rintro e w7 ⟨rfl, hb⟩; refine ⟨_, rfl, ?_⟩; replace a0 := qbl_ a0 hb; replace HB := hs_ hb; (try clear hb); (try clear hb2); (try clear hk); (try clear hi); obtain ⟨b0, b1, b2, b3⟩ := bc2_ a0))
 go_loopg [13] k (fun kq v13 w' => ∃ (x13_1 : Int), v13 = .int .i64 x13_1 ∧ Aside0 (impl_TreeOf.l0 kq a1 l0_1 (l0_1.length : Int) x13_1 = some r) ∧ Aside0 (kq ≤ k) ∧ Aside0 (w'.heap[a4]? = some (.cells #[.int .i64 a0_0, (.slice A0_1 l0_1.length c0_1)] 39 (0, 0))) ∧ Aside0 (Below w.heap.size w w'))
 case atStart => exact ⟨(0), qe_, H', ⟨Nat.le_refl _⟩, ⟨qk_ a0⟩, ⟨qB_⟩⟩
 case round =>
  clear H'
  (try clear p2); (try clear c4); (try clear c7); (try clear a6 a7); (try clear b0 b1); (try clear a8 a9); (try clear b2 b3)
  obtain ⟨x13_1, rfl, HA, HK1, a0, HB⟩ := hrel
  cases gk with
  | zero => exact absurd HA.out (by simp [impl_TreeOf.l0])
  | succ k1 =>
   have H := HA.out; clear HA
   simp only [impl_TreeOf.l0] at H
   by_cases c9 : x13_1 < (l0_1.length : Int)
   rotate_left
   ·rw [if_neg c9] at H
    have c9b0 := decide_eq_false c9
    clear c9
    obtain rfl := Option.some.inj H
    go_wp2
    go_ret
    exact ⟨qr_, qB_⟩
   rw [if_pos c9] at H
   have c9b0 := decide_eq_true c9
   clear c9
   by_cases c10 : 0 ≤ x13_1
   rotate_left
   ·rw [if_neg c10] at H
    exact absurd H (by simp)
   rw [if_pos c10] at H
   have c10b0 := decide_eq_true c10
   clear c10
   by_cases c11 : x13_1 < (l0_1.length : Int)
   rotate_left
   ·rw [if_neg c11] at H
    exact absurd H (by simp)
   rw [if_pos c11] at H
   have c11b0 := decide_eq_true c11
   clear c11
   obtain ⟨c0, b5, H⟩ := Option.bind_eq_some_iff.mp H; have A12 := am_ b5; clear b5
   by_cases c13 : c0 = true
   ·subst c13
    rw [if_pos rfl] at H
    obtain rfl := Option.some.inj H
    have p383 := dp_ x13_1
    have q383 := dl_ x13_1 l0_1.length
    obtain ⟨ad383, A383_0, c383_0, e383, a2, hl383_0, hi383_0⟩ := at_L1 HR0_1.out x13_1 p383 q383
    cases e383
    replace a2 := qx_ HB a2
    have HR383_0 := am_ hi383_0
    have HC383_0 := am_ hl383_0
    clear hi383_0 hl383_0; replace p383 := eq_true p383; replace q383 := eq_true q383
    go_wp2_with (first | ((with_reducible refine gate_callee (f := 120) rfl ?_); refine gl_ (some 20) Try.func120 #[.slice A383_0 (rd_L1 l0_1 x13_1).length c383_0, .int .i64 a1] ?_; (with_reducible refine (impl_hasInt.calls k1 _ _ (rd_L1 l0_1 x13_1) a1 true _ ?side1 ?side2 A12.out).mono ?_); (case side1 => exact qC_ HR383_0 HB); (case side2 => exact HC383_0.out); rintro e w' ⟨rfl, ⟨nd, rfl⟩⟩; refine ⟨_, rfl, ?_⟩))
    go_ret
    exact ⟨qr_, qB_⟩
   replace c13 := Bool.eq_false_iff.mpr c13
   subst c13
   rw [if_neg ff_] at H; have H' := am_ H; clear H
   have p383 := dp_ x13_1
   have q383 := dl_ x13_1 l0_1.length
   obtain ⟨ad383, A383_0, c383_0, e383, a2, hl383_0, hi383_0⟩ := at_L1 HR0_1.out x13_1 p383 q383
   cases e383
   replace a2 := qx_ HB a2
   have HR383_0 := am_ hi383_0
   have HC383_0 := am_ hl383_0
   clear hi383_0 hl383_0; replace p383 := eq_true p383; replace q383 := eq_true q383
   go_wp2_with (first | ((with_reducible refine gate_callee (f := 120) rfl ?_); refine gl_ (some 20) Try.func120 #[.slice A383_0 (rd_L1 l0_1 x13_1).length c383_0, .int .i64 a1] ?_; (with_reducible refine (impl_hasInt.calls k1 _ _ (rd_L1 l0_1 x13_1) a1 false _ ?side1 ?side2 A12.out).mono ?_); (case side1 => exact qC_ HR383_0 HB); (case side2 => exact HC383_0.out); rintro e w' ⟨rfl, ⟨nd, rfl⟩⟩; refine ⟨_, rfl, ?_⟩))
   go_roundg k1
   case measure => have := HK1.out; omega
   case rel => exact ⟨(wrap64 (x13_1 + 1)), qe_, H', ⟨by have := HK1.out; omega⟩, ⟨qk_ a0⟩, ⟨qB_⟩⟩
end Go.Proofs.Ytbkklafkoegdpaa.QFnExactCut
