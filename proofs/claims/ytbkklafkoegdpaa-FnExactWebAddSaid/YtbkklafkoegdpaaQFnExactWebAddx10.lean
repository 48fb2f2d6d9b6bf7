import Derived.Test.YtbkklafkoegdpaaQFnExactWebAddx9
namespace Go.Proofs.Ytbkklafkoegdpaa.QFnExactWebAdd
open Go.RowKit Go.Proofs.YtbkklafkoegdpaaW.PrintWords Go.Proofs.YtbkklafkoegdpaaW.PrintLast Go.Proofs.YtbkklafkoegdpaaW.PrintMore
set_option maxHeartbeats 8000000
set_option maxRecDepth 100000
set_option linter.unusedVariables false
set_option linter.unusedSimpArgs false
def spec_TreeOf.l0 : Nat → Int → Int → Int → List (List Int) → Option (Int)
  | 0, _, _, _, _ => none
  | k + 1, x1, x5, x286000, x286001 => if x5 < (x286001.length : Int) then (if 0 ≤ x5 then ((spec_l05In.f k (rd_L5 x286001 x5) x1).bind fun t288 => (if t288 = true then (some x5) else (spec_TreeOf.l0 k x1 (wrap64 (x5 + 1)) x286000 x286001))) else (none)) else (some (-1))
def spec_TreeOf.f (k : Nat) (a0_0 : Int) (l0_1 : List (List Int)) (a1 : Int) : Option (Int) := (spec_ForestOk.f k a0_0 l0_1).bind fun t286 => (if t286 = true then (spec_TreeOf.l0 k a1 0 a0_0 l0_1) else (some (-1)))
theorem spec_TreeOf.mono_l : ∀ k, (∀ y0 y1 y2 y3, LeO (spec_TreeOf.l0 k y0 y1 y2 y3) (spec_TreeOf.l0 (k + 1) y0 y1 y2 y3))
  | 0 => fun _ _ _ _ r h => by simp [spec_TreeOf.l0] at h
  | k + 1 => by
    have ih0 := spec_TreeOf.mono_l k
    have m0 := @spec_ForestOk.mono; have m1 := @spec_l05In.mono
    · intro y0 y1 y2 y3
      unfold spec_TreeOf.l0
      exact lo_
theorem spec_TreeOf.mono : ∀ a0 a1 a2 k, LeO (spec_TreeOf.f k a0 a1 a2) (spec_TreeOf.f (k + 1) a0 a1 a2) := by
  intro a0 a1 a2 k
  have ih0 := spec_TreeOf.mono_l k
  have m0 := @spec_ForestOk.mono; have m1 := @spec_l05In.mono
  unfold spec_TreeOf.f
  exact lo_
theorem spec_TreeOf.calls (k : Nat) (a0_0 : Int) (A0_1 : Option Addr) (c0_1 : Nat) (l0_1 : List (List Int)) (a1 : Int) (r : Int) (w : World) (hr0_1 : Kd.C (Kd.slice 3 (Kd.int .i64)) w A0_1 l0_1.length l0_1) (hc0_1 : l0_1.length ≤ c0_1) (h : spec_TreeOf.f k a0_0 l0_1 a1 = some r) :
  Calls Try.prog 60 #[.agg #[.int .i64 a0_0, .slice A0_1 l0_1.length c0_1], .int .i64 a1] w fun e w' => e = .returned (.int .i64 r) ∧ Below w.heap.size w w' := by
 have hu39 := Try.underlying39
 have HR0_1 := am_ hr0_1
 have HC0_1 := am_ hc0_1
 clear hr0_1 hc0_1
 have HB := am_ (Below.refl w.heap.size w)
 rw [spec_TreeOf.f] at h; have H := h; clear h
 obtain ⟨a5, A3, H⟩ := bs_ H
 refine id_ H ?_ ?_ <;> clear H <;> rintro rfl H
 ·obtain rfl := oi_ H
  go_enter Try.func60, Try.ntmps60
  go_wp2_with (first | ((with_reducible refine gd_ 2 ?_); refine by_ 2 (cs := #[.int .i64 a0_0, .slice A0_1 l0_1.length c0_1]) (t := 39) ?_; intro a4 hg w15 a0 hb; have a3 := gw_ hg; replace HB := hs_ hb; clear hb hg; obtain ⟨b2, b3, b4, b5⟩ := bc2_ a0) | ((with_reducible refine gc_ 51 ?_); refine gl_ (some 7) Try.func51 #[.agg #[.int .i64 a0_0, .slice A0_1 l0_1.length c0_1]] ?_; (with_reducible refine (spec_ForestOk.calls k a0_0 _ _ l0_1 false _ ?_ ?_ A3.out).mono ?_); exact qC_ HR0_1 HB; exact HC0_1.out; rintro e w17 ⟨rfl, hb⟩; refine ⟨_, rfl, ?_⟩; replace a0 := qbl_ a0 hb; replace HB := hs_ hb; (try clear hb); (try clear hb2); (try clear hk); (try clear hi)))
  go_ret
  exact ⟨qr_, qB_⟩
 have H' := am_ H; clear H
 go_enter Try.func60, Try.ntmps60
 go_wp2_with (first | ((with_reducible refine gd_ 2 ?_); refine by_ 2 (cs := #[.int .i64 a0_0, .slice A0_1 l0_1.length c0_1]) (t := 39) ?_; intro a4 hg w5 a0 hb; have a3 := gw_ hg; replace HB := hs_ hb; clear hb hg; obtain ⟨a6, a7, a8, a9⟩ := bc2_ a0) | ((with_reducible refine gc_ 51 ?_); refine gl_ (some 7) Try.func51 #[.agg #[.int .i64 a0_0, .slice A0_1 l0_1.length c0_1]] ?_; (with_reducible refine (spec_ForestOk.calls k a0_0 _ _ l0_1 true _ ?_ ?_ A3.out).mono ?_); exact qC_ HR0_1 HB; exact HC0_1.out; rintro e w7 ⟨rfl, hb⟩; refine ⟨_, rfl, ?_⟩; replace a0 := qbl_ a0 hb; replace HB := hs_ hb; (try clear hb); (try clear hb2); (try clear hk); (try clear hi)))
 go_loopg [5] k (fun kq v5 w' => ∃ (x5_1 : Int), v5 = .int .i64 x5_1 ∧ Aside0 (spec_TreeOf.l0 kq a1 x5_1 a0_0 l0_1 = some r) ∧ Aside0 (kq ≤ k) ∧ Aside0 (w'.heap[a4]? = some (.cells #[.int .i64 a0_0, (.slice A0_1 l0_1.length c0_1)] 39 (0, 0))) ∧ Aside0 (Below w.heap.size w w'))
 case atStart => exact ⟨(0), qe_, H', ⟨Nat.le_refl _⟩, ⟨qk_ a0⟩, ⟨qB_⟩⟩
 case round =>
  clear H'
  (try clear p2); (try clear c4); (try clear c5); (try clear c6); (try clear a6 a7 a8 a9)
  obtain ⟨x5_1, rfl, HA, HK1, a0, HB⟩ := hrel
  cases gk with
  | zero => exact absurd HA.out (by simp [spec_TreeOf.l0])
  | succ k1 =>
   have H := HA.out; clear HA
   simp only [spec_TreeOf.l0] at H
   refine ib_ H ?_ ?_ <;> clear H <;> intro c8b0 H
   ·obtain rfl := oi_ H
    obtain ⟨b6, b7, b8, b9⟩ := bc2_ a0
    go_wp2
    go_ret
    exact ⟨qr_, qB_⟩
   refine ig_ H ?_; clear H; intro c9b0 H
   obtain ⟨d3, A10, H⟩ := bs_ H
   refine ie_ H ?_ ?_ <;> clear H <;> rintro rfl H
   ·obtain rfl := oi_ H
    obtain ⟨c0, c1, c2, c3⟩ := bc2_ a0
    have p287 := dp_ x5_1
    have q287 := dl_ x5_1 l0_1.length
    obtain ⟨ad287, A287_0, c287_0, e287, a2, hl287_0, hi287_0⟩ := at_L5 HR0_1.out x5_1 p287 q287
    cases e287
    replace a2 := qx_ HB a2
    have HR287_0 := am_ hi287_0
    have HC287_0 := am_ hl287_0
    clear hi287_0 hl287_0; replace p287 := eq_true p287; replace q287 := eq_true q287
    go_wp2_with (first | ((with_reducible refine gc_ 105 ?_); refine gl_ (some 22) Try.func105 #[.slice A287_0 (rd_L5 l0_1 x5_1).length c287_0, .int .i64 a1] ?_; (with_reducible refine (spec_l05In.calls k1 _ _ (rd_L5 l0_1 x5_1) a1 true _ ?_ ?_ A10.out).mono ?_); exact qC_ HR287_0 HB; exact HC287_0.out; rintro e w' ⟨rfl, ⟨nd, rfl⟩⟩; refine ⟨_, rfl, ?_⟩))
    go_ret
    exact ⟨qr_, qB_⟩
   have H' := am_ H; clear H
   obtain ⟨c7, d0, d1, d2⟩ := bc2_ a0
   have p287 := dp_ x5_1
   have q287 := dl_ x5_1 l0_1.length
   obtain ⟨ad287, A287_0, c287_0, e287, a2, hl287_0, hi287_0⟩ := at_L5 HR0_1.out x5_1 p287 q287
   cases e287
   replace a2 := qx_ HB a2
   have HR287_0 := am_ hi287_0
   have HC287_0 := am_ hl287_0
   clear hi287_0 hl287_0; replace p287 := eq_true p287; replace q287 := eq_true q287
   go_wp2_with (first | ((with_reducible refine gc_ 105 ?_); refine gl_ (some 22) Try.func105 #[.slice A287_0 (rd_L5 l0_1 x5_1).length c287_0, .int .i64 a1] ?_; (with_reducible refine (spec_l05In.calls k1 _ _ (rd_L5 l0_1 x5_1) a1 false _ ?_ ?_ A10.out).mono ?_); exact qC_ HR287_0 HB; exact HC287_0.out; rintro e w' ⟨rfl, ⟨nd, rfl⟩⟩; refine ⟨_, rfl, ?_⟩))
   go_roundg k1
   case measure => have := HK1.out; omega
   case rel => exact ⟨(wrap64 (x5_1 + 1)), qe_, H', ⟨by have := HK1.out; omega⟩, ⟨qk_ a0⟩, ⟨qB_⟩⟩
end Go.Proofs.Ytbkklafkoegdpaa.QFnExactWebAdd
