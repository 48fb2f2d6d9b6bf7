import Derived.Test.YtbkklafkoegdpaaQFnExactLinkx11
namespace Go.Proofs.Ytbkklafkoegdpaa.QFnExactLink
open Go.RowKit Go.Proofs.YtbkklafkoegdpaaW.PrintWords Go.Proofs.YtbkklafkoegdpaaW.PrintLast Go.Proofs.YtbkklafkoegdpaaW.PrintMore
set_option linter.unusedVariables false
set_option linter.unusedSimpArgs false
def impl_EdgeOk.f (a0 : Int) (a1_0 : Int) (a1_1 : Int) : Option (Bool) := (impl_in.f a0 1 12).bind fun t408 => (if t408 = true then ((impl_in.f a1_0 0 (wrap64 (a0 - 1))).bind fun t409 => (if t409 = true then ((impl_in.f a1_1 0 (wrap64 (a0 - 1))).bind fun t410 => (if t410 = true then (some (decide (a1_0 < a1_1))) else (some false))) else (some false))) else (some false))
set_option maxHeartbeats 8000000 in
set_option maxRecDepth 100000 in
theorem impl_EdgeOk.calls (a0 : Int) (a1_0 : Int) (a1_1 : Int) (r : Bool) (w : World) (h : impl_EdgeOk.f a0 a1_0 a1_1 = some r) :
  Calls Try.prog 76 #[.int .i64 a0, .agg #[.int .i64 a1_0, .int .i64 a1_1]] w fun e w' => e = .returned (.bool r) ∧ Below w.heap.size w w' := by
 have hu43 := Try.underlying43
 have HB := am_ (Below.refl w.heap.size w)
 have H : ((impl_in.f a0 1 12).bind fun a5 => (if a5 = true then ((impl_in.f a1_0 0 (wrap64 (a0 - 1))).bind fun a6 => (if a6 = true then ((impl_in.f a1_1 0 (wrap64 (a0 - 1))).bind fun a7 => (if a7 = true then (some (decide (a1_0 < a1_1))) else (some false))) else (some false))) else (some false))) = some r := h
 clear h
 obtain ⟨a5, A30, H⟩ := Option.bind_eq_some_iff.mp H; have A3 := am_ A30; clear A30
 by_cases c4 : a5 = true
 rotate_left
 ·replace c4 := Bool.eq_false_iff.mpr c4
  subst c4
  rw [if_neg ff_] at H
  obtain rfl := Option.some.inj H
  go_enter Try.func76, Try.ntmps76
  go_wp2_with (first | ((with_reducible refine gate_dst (N := 3) rfl ?_); refine by_ 3 (cs := #[.int .i64 a1_0, .int .i64 a1_1]) (t := 43) ?_; intro a3 hg w15 a2 hb; have a1 := gw_ hg; have a4 := a1; replace HB := hs_ hb; clear hb hg) | ((with_reducible refine gate_callee (f := 66) rfl ?_); refine gl_ (some 6) Try.func66 #[.int .i64 a0, .int .i64 1, .int .i64 12] ?_; (with_reducible refine (impl_in.calls a0 1 12 false _ A3.out).mono ?_); rintro e w' ⟨rfl, ⟨nd, rfl⟩⟩; refine ⟨_, rfl, ?_⟩))
  go_ret
  exact ⟨qr_, qB_⟩
 subst c4
 rw [if_pos rfl] at H
 obtain ⟨a6, A50, H⟩ := Option.bind_eq_some_iff.mp H; have A5 := am_ A50; clear A50
 by_cases c6 : a6 = true
 rotate_left
 ·replace c6 := Bool.eq_false_iff.mpr c6
  subst c6
  rw [if_neg ff_] at H
  obtain rfl := Option.some.inj H
  go_enter Try.func76, Try.ntmps76
  go_wp2_with (first | ((with_reducible refine gate_dst (N := 3) rfl ?_); refine by_ 3 (cs := #[.int .i64 a1_0, .int .i64 a1_1]) (t := 43) ?_; intro a3 hg w13 a2 hb; have a1 := gw_ hg; have a4 := a1; replace HB := hs_ hb; clear hb hg) | ((with_reducible refine gate_callee (f := 66) rfl ?_); refine gl_ (some 6) Try.func66 #[.int .i64 a0, .int .i64 1, .int .i64 12] ?_; (with_reducible refine (impl_in.calls a0 1 12 true _ A3.out).mono ?_); rintro e w' ⟨rfl, ⟨nd, rfl⟩⟩; refine ⟨_, rfl, ?_⟩; obtain ⟨a8, a9, b0, b1⟩ := bc2_ a2) | (go_at_call 66; (with_reducible refine (impl_in.calls a1_0 0 (wrap64 (a0 - 1)) false _ A5.out).mono ?_); rintro e w' ⟨rfl, ⟨nd, rfl⟩⟩))
  go_ret
  exact ⟨qr_, qB_⟩
 subst c6
 rw [if_pos rfl] at H
 obtain ⟨a7, A70, H⟩ := Option.bind_eq_some_iff.mp H; have A7 := am_ A70; clear A70
 by_cases c8 : a7 = true
 ·subst c8
  rw [if_pos rfl] at H
  obtain rfl := Option.some.inj H
  go_enter Try.func76, Try.ntmps76
  go_wp2_with (first | ((with_reducible refine gate_dst (N := 3) rfl ?_); refine by_ 3 (cs := #[.int .i64 a1_0, .int .i64 a1_1]) (t := 43) ?_; intro a3 hg w9 a2 hb; have a1 := gw_ hg; have a4 := a1; replace HB := hs_ hb; clear hb hg) | ((with_reducible refine gate_callee (f := 66) rfl ?_); refine gl_ (some 6) Try.func66 #[.int .i64 a0, .int .i64 1, .int .i64 12] ?_; (with_reducible refine (impl_in.calls a0 1 12 true _ A3.out).mono ?_); rintro e w' ⟨rfl, ⟨nd, rfl⟩⟩; refine ⟨_, rfl, ?_⟩; obtain ⟨b2, b3, b4, b5⟩ := bc2_ a2) | (go_at_call 66; (with_reducible refine (impl_in.calls a1_0 0 (wrap64 (a0 - 1)) true _ A5.out).mono ?_); rintro e w' ⟨rfl, ⟨nd, rfl⟩⟩) | (go_at_call 66; (with_reducible refine (impl_in.calls a1_1 0 (wrap64 (a0 - 1)) true _ A7.out).mono ?_); rintro e w' ⟨rfl, ⟨nd, rfl⟩⟩))
  go_ret
  exact ⟨qr_, qB_⟩
 replace c8 := Bool.eq_false_iff.mpr c8
 subst c8
 rw [if_neg ff_] at H
 obtain rfl := Option.some.inj H
 go_enter Try.func76, Try.ntmps76
 go_wp2_with (first | ((with_reducible refine gate_dst (N := 3) rfl ?_); refine by_ 3 (cs := #[.int .i64 a1_0, .int .i64 a1_1]) (t := 43) ?_; intro a3 hg w11 a2 hb; have a1 := gw_ hg; have a4 := a1; replace HB := hs_ hb; clear hb hg) | ((with_reducible refine gate_callee (f := 66) rfl ?_); refine gl_ (some 6) Try.func66 #[.int .i64 a0, .int .i64 1, .int .i64 12] ?_; (with_reducible refine (impl_in.calls a0 1 12 true _ A3.out).mono ?_); rintro e w' ⟨rfl, ⟨nd, rfl⟩⟩; refine ⟨_, rfl, ?_⟩; obtain ⟨b6, b7, b8, b9⟩ := bc2_ a2) | (go_at_call 66; (with_reducible refine (impl_in.calls a1_0 0 (wrap64 (a0 - 1)) true _ A5.out).mono ?_); rintro e w' ⟨rfl, ⟨nd, rfl⟩⟩) | (go_at_call 66; (with_reducible refine (impl_in.calls a1_1 0 (wrap64 (a0 - 1)) false _ A7.out).mono ?_); rintro e w' ⟨rfl, ⟨nd, rfl⟩⟩))
 go_ret
 exact ⟨qr_, qB_⟩
def impl_TreeOf.l0 : Nat → Int → List (List Int) → Int → Int → Option (Int)
  | 0, _, _, _, _ => none
  | k + 1, x1, x11, x12, x13 => if x13 < x12 then (if 0 ≤ x13 then (if x13 < (x11.length : Int) then ((impl_hasInt.f k (rd_L1 x11 x13) x1).bind fun t414 => (if t414 = true then (some x13) else (impl_TreeOf.l0 k x1 x11 x12 (wrap64 (x13 + 1))))) else (none)) else (none)) else (some (-1))
def impl_TreeOf.f (k : Nat) (a0_0 : Int) (l0_1 : List (List Int)) (a1 : Int) : Option (Int) := (impl_ForestOk.f k a0_0 l0_1).bind fun t412 => (if t412 = true then (impl_TreeOf.l0 k a1 l0_1 (l0_1.length : Int) 0) else (some (-1)))
theorem impl_TreeOf.mono_l : ∀ k, (∀ y0 y1 y2 y3, LeO (impl_TreeOf.l0 k y0 y1 y2 y3) (impl_TreeOf.l0 (k + 1) y0 y1 y2 y3))
  | 0 => fun _ _ _ _ r h => by simp [impl_TreeOf.l0] at h
  | k + 1 => by
    have ih0 := impl_TreeOf.mono_l k
    · intro y0 y1 y2 y3
      unfold impl_TreeOf.l0
      repeat' first | (with_reducible first | exact ih0 _ _ _ _ | exact impl_ForestOk.mono _ _ _ | exact impl_hasInt.mono _ _ _ | exact LeO.refl _ | exact LeO.none _ | refine LeO.ite ?_ ?_ | refine LeO.bind ?_ (fun _ => ?_)) | exact LeO.none _ | refine LeO.ite ?_ ?_ | refine LeO.bind ?_ (fun _ => ?_)
theorem impl_TreeOf.mono : ∀ a0 a1 a2 k, LeO (impl_TreeOf.f k a0 a1 a2) (impl_TreeOf.f (k + 1) a0 a1 a2) := by
  intro a0 a1 a2 k
  have ih0 := impl_TreeOf.mono_l k
  unfold impl_TreeOf.f
  repeat' first | (with_reducible first | exact ih0 _ _ _ _ | exact impl_ForestOk.mono _ _ _ | exact impl_hasInt.mono _ _ _ | exact LeO.refl _ | exact LeO.none _ | refine LeO.ite ?_ ?_ | refine LeO.bind ?_ (fun _ => ?_)) | exact LeO.none _ | refine LeO.ite ?_ ?_ | refine LeO.bind ?_ (fun _ => ?_)
set_option maxHeartbeats 8000000 in
set_option maxRecDepth 100000 in
theorem impl_TreeOf.calls (k : Nat) (a0_0 : Int) (A0_1 : Option Addr) (c0_1 : Nat) (l0_1 : List (List Int)) (a1 : Int) (r : Int) (w : World) (hr0_1 : Kd.C (Kd.slice 3 (Kd.int .i64)) w A0_1 l0_1.length l0_1) (hc0_1 : l0_1.length ≤ c0_1) (h : impl_TreeOf.f k a0_0 l0_1 a1 = some r) :
  Calls Try.prog 77 #[.agg #[.int .i64 a0_0, .slice A0_1 l0_1.length c0_1], .int .i64 a1] w fun e w' => e = .returned (.int .i64 r) ∧ Below w.heap.size w w' := by
 have hu39 := Try.underlying39
 have HR0_1 := am_ hr0_1
 have HC0_1 := am_ hc0_1
 clear hr0_1 hc0_1
 have HB := am_ (Below.refl w.heap.size w)
 have H : ((impl_ForestOk.f k a0_0 l0_1).bind fun a5 => (if a5 = true then (impl_TreeOf.l0 k a1 l0_1 (l0_1.length : Int) 0) else (some (-1)))) = some r := h
 clear h
 obtain ⟨a5, A30, H⟩ := Option.bind_eq_some_iff.mp H; have A3 := am_ A30; clear A30
 by_cases c4 : a5 = true
 rotate_left
 ·replace c4 := Bool.eq_false_iff.mpr c4
  subst c4
  rw [if_neg ff_] at H
  obtain rfl := Option.some.inj H
  go_enter Try.func77, Try.ntmps77
  go_wp2_with (first | ((with_reducible refine gate_dst (N := 2) rfl ?_); refine by_ 2 (cs := #[.int .i64 a0_0, .slice A0_1 l0_1.length c0_1]) (t := 39) ?_; intro a4 hg w14 a0 hb; have a3 := gw_ hg; have b4 := a3; replace HB := hs_ hb; clear hb hg; obtain ⟨b6, b7, b8, b9⟩ := bc2_ a0) | ((with_reducible refine gate_callee (f := 75) rfl ?_); refine gl_ (some 8) Try.func75 #[.agg #[.int .i64 a0_0, .slice A0_1 l0_1.length c0_1]] ?_; (with_reducible refine (impl_ForestOk.calls k a0_0 _ _ l0_1 false _ ?side1 ?side2 A3.out).mono ?_); (case side1 => exact qC_ HR0_1 HB); (case side2 => exact HC0_1.out); rintro e w16 ⟨rfl, hb⟩; refine ⟨_, rfl, ?_⟩; replace a0 := qbl_ a0 hb; replace HB := hs_ hb; (try clear hb); (try clear hb2); (try clear hk); (try clear hi)))
  go_ret
  exact ⟨qr_, qB_⟩
 subst c4
 rw [if_pos rfl] at H; have H' := am_ H; clear H
 go_enter Try.func77, Try.ntmps77
 go_wp2_with (first | ((with_reducible refine gate_dst (N := 2) rfl ?_); refine by_ 2 (cs := #[.int .i64 a0_0, .slice A0_1 l0_1.length c0_1]) (t := 39) ?_; intro a4 hg w5 a0 hb; have a3 := gw_ hg; have b4 := a3; replace HB := hs_ hb; clear hb hg; obtain ⟨a6, a7, a8, a9⟩ := bc2_ a0) | ((with_reducible refine gate_callee (f := 75) rfl ?_); refine gl_ (some 8) Try.func75 #[.agg #[.int .i64 a0_0, .slice A0_1 l0_1.length c0_1]] ?_; (with_reducible refine (impl_ForestOk.calls k a0_0 _ _ l0_1 true _ ?side1 ?side2 A3.out).mono ?_); (case side1 => exact qC_ HR0_1 HB); (case side2 => exact HC0_1.out); rintro e w7 ⟨rfl, hb⟩; refine ⟨_, rfl, ?_⟩; replace a0 := qbl_ a0 hb; replace HB := hs_ hb; (try clear hb); (try clear hb2); (try clear hk); (try clear hi); obtain ⟨b0, b1, b2, b3⟩ := bc2_ a0))
 go_loopg [13] k (fun kq v13 w' => ∃ (x13_1 : Int), v13 = .int .i64 x13_1 ∧ Aside0 (impl_TreeOf.l0 kq a1 l0_1 (l0_1.length : Int) x13_1 = some r) ∧ Aside0 (kq ≤ k) ∧ Aside0 (w'.heap[a4]? = some (.cells #[.int .i64 a0_0, (.slice A0_1 l0_1.length c0_1)] 39 (0, 0))) ∧ Aside0 (Below w.heap.size w w'))
 case atStart => exact ⟨(0), qe_, H', ⟨Nat.le_refl _⟩, ⟨qk_ a0⟩, ⟨qB_⟩⟩
 case round =>
  clear H'
  (try clear p2); (try clear c4); (try clear c7); (try clear a6 a7); (try clear b0 b1); (try clear a8 a9); (try clear b2 b3)
  obtain ⟨x13_1, rfl, HA, HK1, a0, HB⟩ := hrel
  cases gk with
  | zero => exact absurd HA.out (by simp [impl_TreeOf.l0])
  | succ k1 =>
   have H := HA.out; clear HA
   simp only [impl_TreeOf.l0] at H
   by_cases c9 : x13_1 < (l0_1.length : Int)
   rotate_left
   ·rw [if_neg c9] at H
    have c9b0 := decide_eq_false c9
    clear c9
    obtain rfl := Option.some.inj H
    go_wp2
    go_ret
    exact ⟨qr_, qB_⟩
   rw [if_pos c9] at H
   have c9b0 := decide_eq_true c9
   clear c9
   by_cases c10 : 0 ≤ x13_1
   rotate_left
   ·rw [if_neg c10] at H
    exact absurd H (by simp)
   rw [if_pos c10] at H
   have c10b0 := decide_eq_true c10
   clear c10
   by_cases c11 : x13_1 < (l0_1.length : Int)
   rotate_left
   ·rw [if_neg c11] at H
    exact absurd H (by simp)
   rw [if_pos c11] at H
   have c11b0 := decide_eq_true c11
   clear c11
   obtain ⟨c0, b5, H⟩ := Option.bind_eq_some_iff.mp H; have A12 := am_ b5; clear b5
   by_cases c13 : c0 = true
   ·subst c13
    rw [if_pos rfl] at H
    obtain rfl := Option.some.inj H
    have p413 := dp_ x13_1
    have q413 := dl_ x13_1 l0_1.length
    obtain ⟨ad413, A413_0, c413_0, e413, a2, hl413_0, hi413_0⟩ := at_L1 HR0_1.out x13_1 p413 q413
    cases e413
    replace a2 := qx_ HB a2
    have HR413_0 := am_ hi413_0
    have HC413_0 := am_ hl413_0
    clear hi413_0 hl413_0; replace p413 := eq_true p413; replace q413 := eq_true q413
    go_wp2_with (first | ((with_reducible refine gate_callee (f := 120) rfl ?_); refine gl_ (some 20) Try.func120 #[.slice A413_0 (rd_L1 l0_1 x13_1).length c413_0, .int .i64 a1] ?_; (with_reducible refine (impl_hasInt.calls k1 _ _ (rd_L1 l0_1 x13_1) a1 true _ ?side1 ?side2 A12.out).mono ?_); (case side1 => exact qC_ HR413_0 HB); (case side2 => exact HC413_0.out); rintro e w' ⟨rfl, ⟨nd, rfl⟩⟩; refine ⟨_, rfl, ?_⟩))
    go_ret
    exact ⟨qr_, qB_⟩
   replace c13 := Bool.eq_false_iff.mpr c13
   subst c13
   rw [if_neg ff_] at H; have H' := am_ H; clear H
   have p413 := dp_ x13_1
   have q413 := dl_ x13_1 l0_1.length
   obtain ⟨ad413, A413_0, c413_0, e413, a2, hl413_0, hi413_0⟩ := at_L1 HR0_1.out x13_1 p413 q413
   cases e413
   replace a2 := qx_ HB a2
   have HR413_0 := am_ hi413_0
   have HC413_0 := am_ hl413_0
   clear hi413_0 hl413_0; replace p413 := eq_true p413; replace q413 := eq_true q413
   go_wp2_with (first | ((with_reducible refine gate_callee (f := 120) rfl ?_); refine gl_ (some 20) Try.func120 #[.slice A413_0 (rd_L1 l0_1 x13_1).length c413_0, .int .i64 a1] ?_; (with_reducible refine (impl_hasInt.calls k1 _ _ (rd_L1 l0_1 x13_1) a1 false _ ?side1 ?side2 A12.out).mono ?_); (case side1 => exact qC_ HR413_0 HB); (case side2 => exact HC413_0.out); rintro e w' ⟨rfl, ⟨nd, rfl⟩⟩; refine ⟨_, rfl, ?_⟩))
   go_roundg k1
   case measure => have := HK1.out; omega
   case rel => exact ⟨(wrap64 (x13_1 + 1)), qe_, H', ⟨by have := HK1.out; omega⟩, ⟨qk_ a0⟩, ⟨qB_⟩⟩
def impl_without.l0 : Nat → Int → Int → List (List Int) → Int → Int → Int → List (List Int) → Option (Int × (List (List Int)))
  | 0, _, _, _, _, _, _, _ => none
  | k + 1, x1, x2, x14, x15, x16, x418000, x418001 => if x16 < x15 then (if 0 ≤ x16 then (if x16 < (x14.length : Int) then (if x16 = x1 then (impl_without.l0 k x1 x2 x14 x15 (wrap64 (x16 + 1)) x418000 x418001) else (if x16 = x2 then (impl_without.l0 k x1 x2 x14 x15 (wrap64 (x16 + 1)) x418000 x418001) else ((impl_copyInts.f (rd_L1 x14 x16)).bind fun t419 => (if x418001.length < 5864062014805 then (impl_without.l0 k x1 x2 x14 x15 (wrap64 (x16 + 1)) x418000 (x418001 ++ [t419])) else (none))))) else (none)) else (none)) else (some (x418000, x418001))
def impl_without.f (k : Nat) (a0_0 : Int) (l0_1 : List (List Int)) (a1 : Int) (a2 : Int) : Option (Int × (List (List Int))) := impl_without.l0 k a1 a2 l0_1 (l0_1.length : Int) 0 a0_0 ([] : List (List Int))
theorem impl_without.mono_l : ∀ k, (∀ y0 y1 y2 y3 y4 y5 y6, LeO (impl_without.l0 k y0 y1 y2 y3 y4 y5 y6) (impl_without.l0 (k + 1) y0 y1 y2 y3 y4 y5 y6))
  | 0 => fun _ _ _ _ _ _ _ r h => by simp [impl_without.l0] at h
  | k + 1 => by
    have ih0 := impl_without.mono_l k
    · intro y0 y1 y2 y3 y4 y5 y6
      unfold impl_without.l0
      repeat' first | (with_reducible first | exact ih0 _ _ _ _ _ _ _ | exact LeO.refl _ | exact LeO.none _ | refine LeO.ite ?_ ?_ | refine LeO.bind ?_ (fun _ => ?_)) | exact LeO.none _ | refine LeO.ite ?_ ?_ | refine LeO.bind ?_ (fun _ => ?_)
theorem impl_without.mono : ∀ a0 a1 a2 a3 k, LeO (impl_without.f k a0 a1 a2 a3) (impl_without.f (k + 1) a0 a1 a2 a3) := by
  intro a0 a1 a2 a3 k
  have ih0 := impl_without.mono_l k
  unfold impl_without.f
  repeat' first | (with_reducible first | exact ih0 _ _ _ _ _ _ _ | exact LeO.refl _ | exact LeO.none _ | refine LeO.ite ?_ ?_ | refine LeO.bind ?_ (fun _ => ?_)) | exact LeO.none _ | refine LeO.ite ?_ ?_ | refine LeO.bind ?_ (fun _ => ?_)
def impl_without.T6 : Bool × List (List Nat × List Nat) := (true, [([], []), ([0], [0]), ([], []), ([2], [2]), ([3], [3]), ([1, 4, 3], [1, 4]), ([0, 1, 2, 3, 4, 5], []), ([6, 5, 5, 0, 1, 2, 3, 4, 5], [5, 6])])
def impl_without.B6 : List Nat := [0, 1, 0, 4, 12, 31, 63, 127]
theorem impl_without.tab6 : rtab .any (opsOf Try.f79 6) = impl_without.T6 := by kernel_rfl
theorem impl_without.bits6 : waitsOk impl_without.T6.2 impl_without.B6 = true := by kernel_rfl
set_option maxHeartbeats 8000000 in
set_option maxRecDepth 100000 in
theorem impl_without.calls (k : Nat) (a0_0 : Int) (A0_1 : Option Addr) (c0_1 : Nat) (l0_1 : List (List Int)) (a1 : Int) (a2 : Int) (r1 : Int) (r2 : List (List Int)) (w : World) (hr0_1 : Kd.C (Kd.slice 3 (Kd.int .i64)) w A0_1 l0_1.length l0_1) (hc0_1 : l0_1.length ≤ c0_1) (h : impl_without.f k a0_0 l0_1 a1 a2 = some (r1, r2)) :
  Calls Try.prog 79 #[.agg #[.int .i64 a0_0, .slice A0_1 l0_1.length c0_1], .int .i64 a1, .int .i64 a2] w fun e w' => ∃ v1_ : Value, e = .returned (.agg #[.int .i64 r1, v1_]) ∧ Kd.S (Kd.slice 3 (Kd.int .i64)) 51 w' w.heap.size (fun _ => True) v1_ r2 ∧ Below w.heap.size w w' := by
 have hu39 := Try.underlying39
 have HR0_1 := am_ hr0_1
 have HC0_1 := am_ hc0_1
 clear hr0_1 hc0_1
 have HB := am_ (Below.refl w.heap.size w)
 have H : (impl_without.l0 k a1 a2 l0_1 (l0_1.length : Int) 0 a0_0 ([] : List (List Int))) = some (r1, r2) := h
 clear h; have H' := am_ H; clear H
 go_enter Try.func79, Try.ntmps79
 go_wp2_with (first | ((with_reducible refine gate_dst (N := 3) rfl ?_); refine by_ 3 (cs := #[.int .i64 a0_0, .slice A0_1 l0_1.length c0_1]) (t := 39) ?_; intro d7 hg w4 a5 hb; have d8 := gw_ hg; have g3 := d8; replace HB := hs_ hb; clear hb hg) | ((with_reducible refine gate_dst (N := 6) rfl ?_); refine by_ 6 (cs := #[.int .i64 0, .slice none 0 0]) (t := 39) ?_; intro b2 hg w5 a6 hb; have d9 := gw_ hg; have g4 := d9; obtain ⟨b4, b5⟩ := qn_ a5 hg; replace a5 := qbl_ a5 hb; replace HB := hs_ hb; clear hb hg; obtain ⟨h4, h5⟩ := nn_ b4; obtain ⟨d3, d4, d5, d6⟩ := bc2_ a5) | ((with_reducible refine gate_dst (N := 7) rfl ?_); refine by_ 7 (cs := #[.int .i64 0, .slice none 0 0]) (t := 39) ?_; intro b1 hg w8 a3 hb; have e0 := gw_ hg; have g5 := e0; obtain ⟨b6, a9⟩ := qn_ a5 hg; obtain ⟨b7, b0⟩ := qn_ a6 hg; replace a5 := qbl_ a5 hb; replace a6 := qbl_ a6 hb; replace HB := hs_ hb; clear hb hg; obtain ⟨h6, h7⟩ := nn_ a9; obtain ⟨g6, g7⟩ := nn_ b0; obtain ⟨b9, c0, c2, c3⟩ := bc2_ a3; obtain ⟨c4, c5, c8, d0⟩ := bc2_ a5))
 go_loopg [16] k (fun kq v16 w' => ∃ (x16_1 : Int) (a4 : List (List Int)) (a7 : Value), v16 = .int .i64 x16_1 ∧ Aside0 (impl_without.l0 kq a1 a2 l0_1 (l0_1.length : Int) x16_1 a0_0 a4 = some (r1, r2)) ∧ Aside0 (kq ≤ k) ∧ Aside0 (Kd.S (Kd.slice 3 (Kd.int .i64)) 51 w' w.heap.size (fun _ => True) a7 a4) ∧ Aside0 (w'.heap[d7]? = some (.cells #[.int .i64 a0_0, (.slice A0_1 l0_1.length c0_1)] 39 (0, 0))) ∧ Aside0 (w'.heap[b2]? = some (.cells #[.int .i64 0, (.slice none 0 0)] 39 (0, 0))) ∧ Aside0 (w'.heap[b1]? = some (.cells #[.int .i64 a0_0, a7] 39 (0, 0))) ∧ Aside0 (Below w.heap.size w w'))
 case atStart => exact ⟨(0), (([] : List (List Int))), (.slice none 0 0), qe_, H', ⟨Nat.le_refl _⟩, ⟨by first | exact Kd.S_nil _ _ _ _ _ | exact Kd.N_nil _ _ _ _ _ | exact Kd.V_nil _ _ _ _ _ | exact Kd.Q_nil _ _ _ _ _ | exact Kd.R_nil _ _ _ _ _⟩, ⟨qf_ a5⟩, ⟨qf_ a6⟩, ⟨by (with_reducible repeat (first | refine blk_drewN ?_ _ | refine blk_drew ?_ | refine blk_alloc ?_ _)); refine blk_put (cs := #[.int .i64 a0_0, .slice none 0 0]) ?_ 1 _ rfl; (with_reducible repeat (first | refine blk_drewN ?_ _ | refine blk_drew ?_ | refine blk_alloc ?_ _)); refine blk_put (cs := #[.int .i64 0, .slice none 0 0]) ?_ 0 _ rfl; exact qf_ a3⟩, ⟨qB_⟩⟩
 case round =>
  clear H'
  (try clear c1); (try clear p2); (try clear c6); (try clear c7); (try clear c9); (try clear c10); (try clear b9 c0); (try clear c4 c5); (try clear d3 d4); (try clear c2 c3); (try clear c8 d0); (try clear d5 d6)
  obtain ⟨x16_1, a4, a7, rfl, HA, HK1, a0, a5, a6, a3, HB⟩ := hrel
  cases gk with
  | zero => exact absurd HA.out (by simp [impl_without.l0])
  | succ k1 =>
   have H := HA.out; clear HA
   simp only [impl_without.l0] at H
   by_cases c13 : x16_1 < (l0_1.length : Int)
   rotate_left
   ·rw [if_neg c13] at H
    have c13b0 := decide_eq_false c13
    clear c13
    simp only [Option.some.injEq, Prod.mk.injEq] at H
    obtain ⟨rfl, rfl⟩ := H
    obtain ⟨g8, g9⟩ := nn_ a9; obtain ⟨h0, h1⟩ := nn_ b0
    obtain ⟨f0, f1, f2, f3⟩ := bc2_ a3
    obtain ⟨h2, h3⟩ := nn_ b5
    obtain ⟨f4, f5, f6, f7⟩ := bc2_ a6
    obtain ⟨e1, e2, g2⟩ := Kd.S_slice a0.out
    subst g2
    go_wp2
    refine bodyPost_ret (results_cell_row rfl _ _ b2 39 #[.int .i64 a0_0, .slice e1 a4.length e2] (0, 0) _ rfl (by (with_reducible repeat (first | refine blk_drewN ?_ _ | refine blk_drew ?_ | refine blk_alloc ?_ _)); refine blk_put (cs := #[.int .i64 a0_0, .slice none 0 0]) ?_ 1 _ rfl; (with_reducible repeat (first | refine blk_drewN ?_ _ | refine blk_drew ?_ | refine blk_alloc ?_ _)); refine blk_put (cs := #[.int .i64 0, .slice none 0 0]) ?_ 0 _ rfl; exact qf_ a6) Try.underlying39 rfl (by kernel_rfl)) rfl ?_
    exact ⟨_, qr_, by (with_reducible repeat (first | apply Kd.S_alloc | apply Kd.S_drewN | apply Kd.S_drew)); exact Kd.S_mono (Kd.S_far (p := ⟨b2, 1, none⟩) (Kd.S_far (p := ⟨b2, 0, none⟩) (Kd.S_types a0.out a6.out (by decide)) (fun _ hk => hk.2) (.int .i64 a0_0)) (fun _ hk => hk.2) (.slice e1 a4.length e2)) (fun _ hk => trivial), qB_⟩
   rw [if_pos c13] at H
   have c13b0 := decide_eq_true c13
   clear c13
   by_cases c14 : 0 ≤ x16_1
   rotate_left
   ·rw [if_neg c14] at H
    exact absurd H (by simp)
   rw [if_pos c14] at H
   have c14b0 := decide_eq_true c14
   clear c14
   by_cases c15 : x16_1 < (l0_1.length : Int)
   rotate_left
   ·rw [if_neg c15] at H
    exact absurd H (by simp)
   rw [if_pos c15] at H
   have c15b0 := decide_eq_true c15
   clear c15
   by_cases c16 : x16_1 = a1
   ·rw [if_pos c16] at H
    have c16b0 : (x16_1 == a1) = true := beq_iff_eq.mpr c16
    have c16b1 : (x16_1 != a1) = false := bne_eq_false_iff_eq.mpr c16
    clear c16; have H' := am_ H; clear H
    have p418 := dp_ x16_1
    have q418 := dl_ x16_1 l0_1.length
    obtain ⟨ad418, A418_0, c418_0, e418, a8, hl418_0, hi418_0⟩ := at_L1 HR0_1.out x16_1 p418 q418
    cases e418
    replace a8 := qx_ HB a8
    have HR418_0 := am_ hi418_0
    have HC418_0 := am_ hl418_0
    clear hi418_0 hl418_0; replace p418 := eq_true p418; replace q418 := eq_true q418
    go_wp2
    go_roundg k1
    case measure => have := HK1.out; omega
    case rel => exact ⟨(wrap64 (x16_1 + 1)), (a4), (a7), qe_, H', ⟨by have := HK1.out; omega⟩, ⟨by (with_reducible repeat (first | apply Kd.S_alloc | apply Kd.S_drewN | apply Kd.S_drew)); first | exact a0.out | (have h_ := a0.out; simp only [own_slice] at h_ ⊢; exact h_)⟩, ⟨qk_ a5⟩, ⟨qk_ a6⟩, ⟨qk_ a3⟩, ⟨qB_⟩⟩
   rw [if_neg c16] at H
   have c16b0 : (x16_1 == a1) = false := beq_eq_false_iff_ne.mpr c16
   have c16b1 : (x16_1 != a1) = true := bne_iff_ne.mpr c16
   by_cases c17 : x16_1 = a2
   ·rw [if_pos c17] at H
    have c17b0 : (x16_1 == a2) = true := beq_iff_eq.mpr c17
    have c17b1 : (x16_1 != a2) = false := bne_eq_false_iff_eq.mpr c17
    clear c17; have H' := am_ H; clear H
    have p418 := dp_ x16_1
    have q418 := dl_ x16_1 l0_1.length
    obtain ⟨ad418, A418_0, c418_0, e418, a8, hl418_0, hi418_0⟩ := at_L1 HR0_1.out x16_1 p418 q418
    cases e418
    replace a8 := qx_ HB a8
    have HR418_0 := am_ hi418_0
    have HC418_0 := am_ hl418_0
    clear hi418_0 hl418_0; replace p418 := eq_true p418; replace q418 := eq_true q418
    go_wp2
    go_roundg k1
    case measure => have := HK1.out; omega
    case rel => exact ⟨(wrap64 (x16_1 + 1)), (a4), (a7), qe_, H', ⟨by have := HK1.out; omega⟩, ⟨by (with_reducible repeat (first | apply Kd.S_alloc | apply Kd.S_drewN | apply Kd.S_drew)); first | exact a0.out | (have h_ := a0.out; simp only [own_slice] at h_ ⊢; exact h_)⟩, ⟨qk_ a5⟩, ⟨qk_ a6⟩, ⟨qk_ a3⟩, ⟨qB_⟩⟩
   rw [if_neg c17] at H
   have c17b0 : (x16_1 == a2) = false := beq_eq_false_iff_ne.mpr c17
   have c17b1 : (x16_1 != a2) = true := bne_iff_ne.mpr c17
   obtain ⟨b8, e3, H⟩ := Option.bind_eq_some_iff.mp H; have A18 := am_ e3; clear e3
   by_cases c19 : a4.length < 5864062014805
   rotate_left
   ·rw [if_neg c19] at H
    exact absurd H (by simp)
   rw [if_pos c19] at H
   have LMc19 := am_ c19
   clear c19
   obtain ⟨d1, hy422⟩ : ∃ y_ : List (List Int), y_ = (a4 ++ [b8]) := ⟨_, rfl⟩
   replace H : (impl_without.l0 k1 a1 a2 l0_1 (l0_1.length : Int) (wrap64 (x16_1 + 1)) a0_0 d1) = some (r1, r2) := by first | (rw [hy422]; with_reducible exact H) | (have H2_ := (Option.bind_some _ _).symm.trans H; rw [hy422]; with_reducible exact H2_) | (have H2_ := (Option.bind_some _ _).symm.trans H; with_reducible exact H2_) | with_reducible exact H | (rw [hy422]; exact H) | exact H
   have Ny422 := am_ hy422
   clear hy422; have H' := am_ H; clear H
   have p418 := dp_ x16_1
   have q418 := dl_ x16_1 l0_1.length
   obtain ⟨ad418, A418_0, c418_0, e418, a8, hl418_0, hi418_0⟩ := at_L1 HR0_1.out x16_1 p418 q418
   cases e418
   replace a8 := qx_ HB a8
   have HR418_0 := am_ hi418_0
   have HC418_0 := am_ hl418_0
   clear hi418_0 hl418_0; replace p418 := eq_true p418; replace q418 := eq_true q418
   try go_wp2
   replace a0 := am_ (Kd.S_drew a0.out); replace a5 := am_ (blk_drew a5.out); replace a6 := am_ (blk_drew a6.out); replace a3 := am_ (blk_drew a3.out); replace HB := am_ (below_drew1 HB.out)
   refine start_ (n := 8) (S := fun w' => w'.cell? ⟨b1, 0, none⟩ = some (.int .i64 a0_0) ∧ w'.cell? ⟨b1, 1, none⟩ = some (a7)) (ds := [7]) (bm 8 0) (by kernel_rfl) rfl (by kernel_rfl) ⟨bl_ a3 0, bl_ a3 1⟩ (fun hHeld => ?_); refine with_tabW impl_without.tab6 impl_without.bits6 (fun HT_ HW_ => ?_)
   generalize wr.drew = w20 at a0 a5 a6 a3 HB hHeld ⊢
   refine pz_ 0 29 (bm 8 1) ?_; refine pz_ 2 31 (bm 8 5) ?_; refine tz2_ 1 30 (bm 8 7) ?_
   refine o1_ 3 (some 32) (bm 8 15) (fun K hK => ?_)
   refine gs_ Try.func121 #[.slice A418_0 (rd_L1 l0_1 x16_1).length c418_0] ?_
   with_reducible refine (impl_copyInts.calls _ _ (rd_L1 l0_1 x16_1) b8 _ ?side1 ?side2 A18.out).mono ?_
   (case side1 => exact qC_ HR418_0 HB)
   (case side2 => exact HC418_0.out)
   rintro e w21 ⟨h8, rfl, ho0, hb⟩
   refine ⟨_, rfl, ?_⟩
   have b3 := am_ (Kd.R_lower ho0 (below_size qB_)); replace a0 := am_ (Kd.S_elder' (qS_ a0) (Kd.R_base ho0) hb); replace a5 := qbl_ a5 hb; replace a6 := qbl_ a6 hb; replace a3 := qbl_ a3 hb; replace HB := am_ (below_step qB_ hb); (try clear hb); (try clear hb2); (try clear hk); (try clear hi); (try clear ho0)
   obtain ⟨e4, e5, e6⟩ := Kd.R_slice b3.out
   (first | subst e6 | (injection e6 with f1_ f2_ f3_; have f4_ := f1_.symm; have f5_ := f3_.symm; clear f1_ f2_ f3_; subst f4_; subst f5_))
   refine hK.out _ _ ⟨bl_ a3 0, bl_ a3 1⟩ (fun hHeld => ?_)
   clear hK K
   refine nm_ 32 ?_
   refine o1_ 4 (some 33) (bm 8 31) (fun K hK => ?_)
   refine value_ (w1 := ?_) (v := ?_) (by rfl) rfl ?_ ?_
   rotate_left 2
   ·go_simp
    constructor
    ·rfl
    rfl
   refine hK.out _ _ ⟨(blk_cell (blk_alloc a3.out _) 0).trans rfl, (blk_cell (blk_alloc a3.out _) 1).trans rfl⟩ (fun hHeld => ?_)
   clear hK K
   refine nm_ 33 ?_
   refine o1_ 5 (some 34) (bm 8 63) (fun K hK => ?_)
   refine Kd.S_append_step (Kd.slice 3 (Kd.int .i64)) (w0 := w) w.heap.size (by rfl) (.tmp 30) (.tmp 33) 33 51 (.slice none 0 0) 24 rfl Try.underlying33 info51 rfl (by decide) (by omega) a7 a4 b8 [.slice e4 b8.length e5] (fun _ => True) (fun k_ => some k_ = (.slice e4 b8.length e5 : Value).ownBlock) rfl rfl ?aP (fun k_ hk_ => ((Kd.R_mono (ok' := fun k_ => ((fun _ => True)) k_ ∧ some k_ ≠ (a7 : Value).ownBlock) (Kd.R_apart' (b3.out) (Kd.S_typed a0.out) (by decide)) (fun k_ hk => ⟨trivial, hk.2⟩))).1 k_ hk_.symm) ?aF ?aO ?aB ?aS ?aL ?_
   (case aP => exact Kd.M_row (Kd.R_mono (Kd.R_tight rfl (Kd.R_mono (ok' := fun k_ => ((fun _ => True)) k_ ∧ some k_ ≠ (a7 : Value).ownBlock) (Kd.R_apart' (b3.out) (Kd.S_typed a0.out) (by decide)) (fun k_ hk => ⟨trivial, hk.2⟩))) (fun _ h_ => h_)))
   (case aB => exact qB_)
   (case aF => exact (fun _ _ => trivial))
   (case aO => exact (by (with_reducible repeat (first | apply Kd.S_alloc | apply Kd.S_drewN | apply Kd.S_drew)); exact Kd.S_mono a0.out (fun k_ hk => ⟨trivial, fun e_ => hk.2 e_⟩)))
   (case aS => exact (below_size qB_))
   (case aL => have := LMc19.out; omega)
   intro h9 w22 ho hb hg hat
   rw [← Ny422.out] at ho
   have d2 := am_ (ho); replace a5 := am_ (blk_grown (qk_ a5) hg (Kd.S_ne a0.out a5.out (by decide))); replace a6 := am_ (blk_grown (qk_ a6) hg (Kd.S_ne a0.out a6.out (by decide))); replace a3 := am_ (blk_grown (qk_ a3) hg (Kd.S_ne a0.out a3.out (by decide))); replace HB := am_ (hb); clear a0 b3; clear ho hb hg hat
   obtain ⟨e7, e8, e9⟩ := Kd.S_slice d2.out
   (first | subst e9 | (injection e9 with f1_ f2_ f3_; have f4_ := f1_.symm; have f5_ := f3_.symm; clear f1_ f2_ f3_; subst f4_; subst f5_))
   refine hK.out _ _ ⟨bl_ a3 0, bl_ a3 1⟩ (fun hHeld => ?_)
   clear hK K
   refine nm_ 34 ?_
   refine pz_ 6 35 (bm 8 127) ?_
   refine last_ (i := 7) (N := none) (bm 8 255) rfl rfl (one_of HT_.out (by kernel_rfl)) (by decide) (fun K hK => ?_)
   have hs25 : w22.cell? ⟨b1, 1, none⟩ = some (a7) := bl_ a3 1
   have hfs25 := blk_frozen a3.out 1
   have f8 := b6.out; have f9 := b7.out; have g0 := a9.out; have g1 := b0.out
   refine skip_ (w1 := ?_) (by rfl) rfl ?_ ?_
   rotate_left
   ·go_simp
    rfl
   refine hK.out _ _ ?_
   clear hK K
   refine done_ (done_of HT_.out (by kernel_rfl)) ?_
   try go_wp2
   go_roundg k1
   case measure => have := HK1.out; omega
   case rel => exact ⟨(wrap64 (x16_1 + 1)), (d1), (.slice e7 d1.length e8), qe_, H', ⟨by have := HK1.out; omega⟩, ⟨by (with_reducible repeat (first | apply Kd.S_alloc | apply Kd.S_drewN | apply Kd.S_drew)); exact Kd.S_mono (Kd.S_far (p := ⟨b1, 1, none⟩) (Kd.S_types d2.out a3.out (by decide)) (fun _ hk => hk.2) (.slice e7 d1.length e8)) (fun _ hk => trivial)⟩, ⟨qf_ a5⟩, ⟨qf_ a6⟩, ⟨by (with_reducible repeat (first | refine blk_drewN ?_ _ | refine blk_drew ?_ | refine blk_alloc ?_ _)); refine blk_put (cs := #[.int .i64 a0_0, a7]) ?_ 1 _ rfl; exact qf_ a3⟩, ⟨qB_⟩⟩
end Go.Proofs.Ytbkklafkoegdpaa.QFnExactLink
