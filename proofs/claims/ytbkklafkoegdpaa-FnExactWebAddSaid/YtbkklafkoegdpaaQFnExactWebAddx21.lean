import Derived.Test.YtbkklafkoegdpaaQFnExactWebAddx1
namespace Go.Proofs.Ytbkklafkoegdpaa.QFnExactWebAdd
open Go.RowKit Go.Proofs.YtbkklafkoegdpaaW.PrintWords Go.Proofs.YtbkklafkoegdpaaW.PrintLast Go.Proofs.YtbkklafkoegdpaaW.PrintMore
set_option maxHeartbeats 8000000
set_option maxRecDepth 100000
set_option linter.unusedVariables false
set_option linter.unusedSimpArgs false
attribute [local go_sem high] eqA43
def impl_hasEdge.l0 : Nat → List (S43) → Int → Int → Int → Int → Option (Bool)
  | 0, _, _, _, _, _ => none
  | k + 1, x7, x8, x9, x488000, x488001 => if x9 < x8 then (if 0 ≤ x9 then (if x9 < (x7.length : Int) then (if (((rd_T43 x7 x9).f0) == x488000 && (((rd_T43 x7 x9).f1) == x488001)) = true then (some true) else (impl_hasEdge.l0 k x7 x8 (wrap64 (x9 + 1)) x488000 x488001)) else (none)) else (none)) else (some false)
def impl_hasEdge.f (k : Nat) (l0 : List (S43)) (a1_0 : Int) (a1_1 : Int) : Option (Bool) := impl_hasEdge.l0 k l0 (l0.length : Int) 0 a1_0 a1_1
theorem impl_hasEdge.mono_l : ∀ k, (∀ y0 y1 y2 y3 y4, LeO (impl_hasEdge.l0 k y0 y1 y2 y3 y4) (impl_hasEdge.l0 (k + 1) y0 y1 y2 y3 y4))
  | 0 => fun _ _ _ _ _ r h => by simp [impl_hasEdge.l0] at h
  | k + 1 => by
    have ih0 := impl_hasEdge.mono_l k
    · intro y0 y1 y2 y3 y4
      unfold impl_hasEdge.l0
      exact lo_
theorem impl_hasEdge.mono : ∀ a0 a1 a2 k, LeO (impl_hasEdge.f k a0 a1 a2) (impl_hasEdge.f (k + 1) a0 a1 a2) := by
  intro a0 a1 a2 k
  have ih0 := impl_hasEdge.mono_l k
  unfold impl_hasEdge.f
  exact lo_
theorem impl_hasEdge.calls (k : Nat) (A0 : Option Addr) (c0 : Nat) (l0 : List (S43)) (a1_0 : Int) (a1_1 : Int) (r : Bool) (w : World) (hr0 : Kd.C k43 w A0 l0.length l0) (hc0 : l0.length ≤ c0) (h : impl_hasEdge.f k l0 a1_0 a1_1 = some r) :
  Calls Try.prog 129 #[.slice A0 l0.length c0, .agg #[.int .i64 a1_0, .int .i64 a1_1]] w fun e w' => e = .returned (.bool r) ∧ Below w.heap.size w w' := by
 have hu43 := Try.underlying43
 have d3 := am_ hr0
 have d9 := am_ hc0
 clear hr0 hc0
 have HB := am_ (Below.refl w.heap.size w)
 rw [impl_hasEdge.f] at h; have H := h; clear h; have H' := am_ H; clear H
 go_enter Try.func129, Try.ntmps129
 go_wp2_with (first | ((with_reducible refine gd_ 3 ?_); refine by_ 3 (cs := #[.int .i64 a1_0, .int .i64 a1_1]) (t := 43) ?_; intro a7 hg w3 a0 hb; have a8 := gw_ hg; replace HB := hs_ hb; clear hb hg))
 go_loopg [9] k (fun kq v9 w' => ∃ (x9_1 : Int), v9 = .int .i64 x9_1 ∧ Aside0 (impl_hasEdge.l0 kq l0 (l0.length : Int) x9_1 a1_0 a1_1 = some r) ∧ Aside0 (kq ≤ k) ∧ Aside0 (w'.heap[a7]? = some (.cells #[.int .i64 a1_0, .int .i64 a1_1] 43 (0, 0))) ∧ Aside0 (Below w.heap.size w w'))
 case atStart => exact ⟨(0), qe_, H', ⟨Nat.le_refl _⟩, ⟨qk_ a0⟩, ⟨qB_⟩⟩
 case round =>
  clear H'
  (try clear c1); (try clear p2)
  obtain ⟨x9_1, rfl, HA, HK1, a0, HB⟩ := hrel
  cases gk with
  | zero => exact absurd HA.out (by simp [impl_hasEdge.l0])
  | succ k1 =>
   have H := HA.out; clear HA
   simp only [impl_hasEdge.l0] at H
   refine ib_ H ?_ ?_ <;> clear H <;> intro c4b0 H
   ·obtain rfl := oi_ H
    go_wp2
    go_ret
    exact ⟨qr_, qB_⟩
   refine ig_ H ?_; clear H; intro c5b0 H
   refine ig_ H ?_; clear H; intro c6b0 H
   refine jc_ H ?_ ?_ <;> clear H <;> intro c7 H
   ·have c7b0 : (((rd_T43 l0 x9_1).f0) == a1_0 && (((rd_T43 l0 x9_1).f1) == a1_1)) = true := c7
    (try (have c7b1 : decide (((rd_T43 l0 x9_1).f0) = a1_0 && (((rd_T43 l0 x9_1).f1) == a1_1)) = true := by simpa using c7))
    (try (have c7b2 : (((rd_T43 l0 x9_1).f0) == a1_0 && (((rd_T43 l0 x9_1).f1) == a1_1)) = true := by simpa using c7))
    clear c7
    obtain rfl := oi_ H
    have p488 := dp_ x9_1
    have q488 := dl_ x9_1 l0.length
    obtain ⟨ad488, e488, a1, a2⟩ := at_T43 d3.out x9_1 p488 q488
    cases e488
    replace a1 := qx_ HB a1
    replace a2 := qx_ HB a2
    replace p488 := eq_true p488; replace q488 := eq_true q488
    go_wp2_with (first | ((with_reducible refine gd_ 6 ?_); refine by_ 6 (cs := #[.int .i64 0, .int .i64 0]) (t := 43) ?_; intro a9 hg w8 a5 hb; have a6 := gw_ hg; obtain ⟨a4, a3⟩ := qn_ a0 hg; replace a0 := qbl_ a0 hb; replace HB := hs_ hb; clear hb hg; obtain ⟨d7, d8⟩ := nn_ a3; obtain ⟨b1, b2, b3, b4⟩ := bc2_ a5; obtain ⟨b5, b6, b7, b8⟩ := bc2_ a0))
    go_ret
    exact ⟨qr_, qB_⟩
   have c7b0 : (((rd_T43 l0 x9_1).f0) == a1_0 && (((rd_T43 l0 x9_1).f1) == a1_1)) = false := by simpa using c7
   (try (have c7b1 : decide (((rd_T43 l0 x9_1).f0) = a1_0 && (((rd_T43 l0 x9_1).f1) == a1_1)) = false := by simpa using c7))
   (try (have c7b2 : (((rd_T43 l0 x9_1).f0) == a1_0 && (((rd_T43 l0 x9_1).f1) == a1_1)) = false := by simpa using c7))
   (try (have c7b3 : ¬ (((rd_T43 l0 x9_1).f0) = a1_0 && (((rd_T43 l0 x9_1).f1) == a1_1)) := by simpa using c7))
   clear c7; have H' := am_ H; clear H
   have p488 := dp_ x9_1
   have q488 := dl_ x9_1 l0.length
   obtain ⟨ad488, e488, a1, a2⟩ := at_T43 d3.out x9_1 p488 q488
   cases e488
   replace a1 := qx_ HB a1
   replace a2 := qx_ HB a2
   replace p488 := eq_true p488; replace q488 := eq_true q488
   go_wp2_with (first | ((with_reducible refine gd_ 6 ?_); refine by_ 6 (cs := #[.int .i64 0, .int .i64 0]) (t := 43) ?_; intro a9 hg w12 a5 hb; have a6 := gw_ hg; obtain ⟨a4, a3⟩ := qn_ a0 hg; replace a0 := qbl_ a0 hb; replace HB := hs_ hb; clear hb hg; obtain ⟨d5, d6⟩ := nn_ a3; obtain ⟨b9, c2, c3, c8⟩ := bc2_ a5; obtain ⟨c9, d0, d1, d2⟩ := bc2_ a0))
   go_roundg k1
   case measure => have := HK1.out; omega
   case rel => exact ⟨(wrap64 (x9_1 + 1)), qe_, H', ⟨by have := HK1.out; omega⟩, ⟨qf_ a0⟩, ⟨qB_⟩⟩
def impl_HasEdge.f (k : Nat) (a0_0 : Int) (l0_1 : List (S43)) (a1_0 : Int) (a1_1 : Int) : Option (Bool) := (impl_hasEdge.f k l0_1 a1_0 a1_1).bind fun t492 => (some t492)
theorem impl_HasEdge.mono : ∀ a0 a1 a2 a3 k, LeO (impl_HasEdge.f k a0 a1 a2 a3) (impl_HasEdge.f (k + 1) a0 a1 a2 a3) := by
  intro a0 a1 a2 a3 k
  have m0 := @impl_hasEdge.mono
  unfold impl_HasEdge.f
  exact lo_
theorem impl_HasEdge.calls (k : Nat) (a0_0 : Int) (A0_1 : Option Addr) (c0_1 : Nat) (l0_1 : List (S43)) (a1_0 : Int) (a1_1 : Int) (r : Bool) (w : World) (hr0_1 : Kd.C k43 w A0_1 l0_1.length l0_1) (hc0_1 : l0_1.length ≤ c0_1) (h : impl_HasEdge.f k a0_0 l0_1 a1_0 a1_1 = some r) :
  Calls Try.prog 94 #[.agg #[.int .i64 a0_0, .slice A0_1 l0_1.length c0_1], .agg #[.int .i64 a1_0, .int .i64 a1_1]] w fun e w' => e = .returned (.bool r) ∧ Below w.heap.size w w' := by
 have hu69 := Try.underlying69; have hu43 := Try.underlying43
 have HR0_1 := am_ hr0_1
 have HC0_1 := am_ hc0_1
 clear hr0_1 hc0_1
 have HB := am_ (Below.refl w.heap.size w)
 rw [impl_HasEdge.f] at h; have H := h; clear h
 obtain ⟨a3, A3, H⟩ := bs_ H
 obtain rfl := oi_ H
 go_enter Try.func94, Try.ntmps94
 go_wp2_with (first | ((with_reducible refine gd_ 2 ?_); refine by_ 2 (cs := #[.int .i64 a0_0, .slice A0_1 l0_1.length c0_1]) (t := 69) ?_; intro b5 hg w4 a0 hb; have a5 := gw_ hg; replace HB := hs_ hb; clear hb hg) | ((with_reducible refine gd_ 3 ?_); refine by_ 3 (cs := #[.int .i64 a1_0, .int .i64 a1_1]) (t := 43) ?_; intro b7 hg w5 a2 hb; have a6 := gw_ hg; obtain ⟨a1, a4⟩ := qn_ a0 hg; replace a0 := qbl_ a0 hb; replace HB := hs_ hb; clear hb hg; obtain ⟨b9, c0⟩ := nn_ a1; obtain ⟨a7, a8, a9, b0⟩ := bc2_ a0; obtain ⟨b1, b2, b3, b4⟩ := bc2_ a2) | ((with_reducible refine gc_ 129 ?_); refine gl_ (some 8) Try.func129 #[.slice A0_1 l0_1.length c0_1, .agg #[.int .i64 a1_0, .int .i64 a1_1]] ?_; (with_reducible refine (impl_hasEdge.calls k _ _ l0_1 a1_0 a1_1 a3 _ ?_ ?_ A3.out).mono ?_); exact qC_ HR0_1 HB; exact HC0_1.out; rintro e w9 ⟨rfl, hb⟩; refine ⟨_, rfl, ?_⟩; replace a0 := qbl_ a0 hb; replace a2 := qbl_ a2 hb; replace HB := hs_ hb; (try clear hb); (try clear hb2); (try clear hk); (try clear hi)))
 go_ret
 exact ⟨qr_, qB_⟩
end Go.Proofs.Ytbkklafkoegdpaa.QFnExactWebAdd
