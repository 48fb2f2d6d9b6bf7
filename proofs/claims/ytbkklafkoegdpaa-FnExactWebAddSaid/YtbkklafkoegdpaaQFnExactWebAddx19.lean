import Derived.Test.YtbkklafkoegdpaaQFnExactWebAddx18
namespace Go.Proofs.Ytbkklafkoegdpaa.QFnExactWebAdd
open Go.RowKit Go.Proofs.YtbkklafkoegdpaaW.PrintWords Go.Proofs.YtbkklafkoegdpaaW.PrintLast Go.Proofs.YtbkklafkoegdpaaW.PrintMore
attribute [local go_sem] max2_int min2_int max_two min_two max_three min_three max_four min_four
set_option maxHeartbeats 8000000
set_option maxRecDepth 100000
set_option linter.unusedVariables false
set_option linter.unusedSimpArgs false
def impl_forest.l0 : Nat → Int → List (S43) → List (S72) → Int → Int → Option ((List (S43)))
  | 0, _, _, _, _, _ => none
  | k + 1, x1, x5, x9, x10, x11 => if x11 < x10 then (if 0 ≤ x11 then (if x11 < (x9.length : Int) then (if (rd_T72 x9 x11).f3 = true then (if ((rd_T72 x9 x11).f2) ≥ x1 then (if x5.length < 8796093022208 then (impl_forest.l0 k x1 (x5 ++ [(⟨(rd_T72 x9 x11).f0, (rd_T72 x9 x11).f1⟩ : S43)]) x9 x10 (wrap64 (x11 + 1))) else (none)) else (impl_forest.l0 k x1 x5 x9 x10 (wrap64 (x11 + 1)))) else (impl_forest.l0 k x1 x5 x9 x10 (wrap64 (x11 + 1)))) else (none)) else (none)) else (some x5)
def impl_forest.f (k : Nat) (a0_0 : Int) (l0_1 : List (S72)) (a1 : Int) : Option ((List (S43))) := impl_forest.l0 k a1 ([] : List (S43)) l0_1 (l0_1.length : Int) 0
theorem impl_forest.mono_l : ∀ k, (∀ y0 y1 y2 y3 y4, LeO (impl_forest.l0 k y0 y1 y2 y3 y4) (impl_forest.l0 (k + 1) y0 y1 y2 y3 y4))
  | 0 => fun _ _ _ _ _ r h => by simp [impl_forest.l0] at h
  | k + 1 => by
    have ih0 := impl_forest.mono_l k
    · intro y0 y1 y2 y3 y4
      unfold impl_forest.l0
      exact lo_
theorem impl_forest.mono : ∀ a0 a1 a2 k, LeO (impl_forest.f k a0 a1 a2) (impl_forest.f (k + 1) a0 a1 a2) := by
  intro a0 a1 a2 k
  have ih0 := impl_forest.mono_l k
  unfold impl_forest.f
  exact lo_
theorem impl_forest.calls (k : Nat) (a0_0 : Int) (A0_1 : Option Addr) (c0_1 : Nat) (l0_1 : List (S72)) (a1 : Int) (r : List (S43)) (w : World) (hr0_1 : Kd.C k72 w A0_1 l0_1.length l0_1) (hc0_1 : l0_1.length ≤ c0_1) (h : impl_forest.f k a0_0 l0_1 a1 = some r) :
  Calls Try.prog 102 #[.agg #[.int .i64 a0_0, .slice A0_1 l0_1.length c0_1], .int .i64 a1] w fun e w' => ∃ v0_ : Value, e = .returned (v0_) ∧ Kd.R k43 43 w' w.heap.size (fun _ => True) v0_ r ∧ Below w.heap.size w w' := by
 have hu29 := Try.underlying29; have hu72 := Try.underlying72; have hu43 := Try.underlying43
 have HR0_1 := am_ hr0_1
 have HC0_1 := am_ hc0_1
 clear hr0_1 hc0_1
 have HB := am_ (Below.refl w.heap.size w)
 rw [impl_forest.f] at h; have H := h; clear h; have H' := am_ H; clear H
 go_enter Try.func102, Try.ntmps102
 go_wp2_with (first | ((with_reducible refine gd_ 2 ?_); refine by_ 2 (cs := #[.int .i64 a0_0, .slice A0_1 l0_1.length c0_1]) (t := 29) ?_; intro b2 hg w3 a2 hb; have b9 := gw_ hg; replace HB := hs_ hb; clear hb hg; obtain ⟨b5, b6, b7, b8⟩ := bc2_ a2))
 go_loopg [5, 11] k (fun kq v5 v11 w' => ∃ (x5_1 : List (S43)) (x11_1 : Int), v11 = .int .i64 x11_1 ∧ Aside0 (impl_forest.l0 kq a1 x5_1 l0_1 (l0_1.length : Int) x11_1 = some r) ∧ Aside0 (kq ≤ k) ∧ Aside0 (Kd.R k43 43 w' w.heap.size (fun _ => True) v5 x5_1) ∧ Aside0 (w'.heap[b2]? = some (.cells #[.int .i64 a0_0, (.slice A0_1 l0_1.length c0_1)] 29 (0, 0))) ∧ Aside0 (Below w.heap.size w w'))
 case atStart => exact ⟨(([] : List (S43))), (0), qe_, H', ⟨Nat.le_refl _⟩, ⟨by first | exact Kd.R_nil _ _ _ _ _ | exact Kd.N_nil _ _ _ _ _ | exact Kd.V_nil _ _ _ _ _ | exact Kd.Q_nil _ _ _ _ _ | exact Kd.S_nil _ _ _ _ _⟩, ⟨qk_ a2⟩, ⟨qB_⟩⟩
 case round =>
  clear H'
  (try clear c1); (try clear p2); (try clear b5 b6 b7 b8)
  obtain ⟨x5_1, x11_1, rfl, HA, HK1, a9, a2, HB⟩ := hrel
  cases gk with
  | zero => exact absurd HA.out (by simp [impl_forest.l0])
  | succ k1 =>
   have H := HA.out; clear HA
   simp only [impl_forest.l0] at H
   refine ib_ H ?_ ?_ <;> clear H <;> intro c5b0 H
   ·obtain rfl := oi_ H
    go_wp2
    go_ret
    exact ⟨_, qr_, qR_ a9, qB_⟩
   refine ig_ H ?_; clear H; intro c6b0 H
   refine ig_ H ?_; clear H; intro c7b0 H
   obtain ⟨bq8, hbq8⟩ : ∃ b_ : Bool, b_ = ((rd_T72 l0_1 x11_1).f3) := ⟨_, rfl⟩
   replace H : (if bq8 = true then (if ((rd_T72 l0_1 x11_1).f2) ≥ a1 then (if x5_1.length < 8796093022208 then (impl_forest.l0 k1 a1 (x5_1 ++ [(⟨(rd_T72 l0_1 x11_1).f0, (rd_T72 l0_1 x11_1).f1⟩ : S43)]) l0_1 (l0_1.length : Int) (wrap64 (x11_1 + 1))) else (none)) else (impl_forest.l0 k1 a1 x5_1 l0_1 (l0_1.length : Int) (wrap64 (x11_1 + 1)))) else (impl_forest.l0 k1 a1 x5_1 l0_1 (l0_1.length : Int) (wrap64 (x11_1 + 1)))) = some r := by rw [← hbq8] at H; exact H
   have Nbq8 := am_ hbq8
   clear hbq8
   refine id_ H ?_ ?_ <;> clear H <;> rintro rfl H
   ·have H' := am_ H; clear H
    have p440 := dp_ x11_1
    have q440 := dl_ x11_1 l0_1.length
    obtain ⟨ad440, e440, a4, a5, a6, a0⟩ := at_T72 HR0_1.out x11_1 p440 q440
    (try rw [← Nbq8.out] at a0)
    cases e440
    replace a4 := qx_ HB a4
    replace a5 := qx_ HB a5
    replace a6 := qx_ HB a6
    replace a0 := qx_ HB a0
    replace p440 := eq_true p440; replace q440 := eq_true q440
    go_wp2_with (first | ((with_reducible refine gd_ 7 ?_); refine by_ 7 (cs := #[.int .i64 0, .int .i64 0, .int .i64 0, .bool false]) (t := 72) ?_; intro a3 hg w19 a8 hb; have b1 := gw_ hg; obtain ⟨b0, a7⟩ := qn_ a2 hg; replace a9 := kb_ a9 hb; replace a2 := qbl_ a2 hb; replace HB := hs_ hb; clear hb hg; obtain ⟨f5, f6⟩ := nn_ a7; obtain ⟨c2, c3, c4, c8, d0, d1, d2, d3⟩ := bc4_ a8))
    go_roundg k1
    case measure => have := HK1.out; omega
    case rel => exact ⟨(x5_1), (wrap64 (x11_1 + 1)), qe_, H', ⟨by have := HK1.out; omega⟩, ⟨by (with_reducible repeat (first | apply Kd.R_alloc | apply Kd.R_drewN | apply Kd.R_drew)); exact Kd.R_mono (Kd.R_far (p := ⟨a3, 3, none⟩) (Kd.R_far (p := ⟨a3, 2, none⟩) (Kd.R_far (p := ⟨a3, 1, none⟩) (Kd.R_far (p := ⟨a3, 0, none⟩) (Kd.R_types a9.out a8.out (by decide)) (fun _ hk => hk.2) (.int .i64 ((rd_T72 l0_1 x11_1).f0))) (fun _ hk => hk.2) (.int .i64 ((rd_T72 l0_1 x11_1).f1))) (fun _ hk => hk.2) (.int .i64 ((rd_T72 l0_1 x11_1).f2))) (fun _ hk => hk.2) (.bool false)) (fun _ hk => trivial)⟩, ⟨qf_ a2⟩, ⟨qB_⟩⟩
   refine jb_ H ?_ ?_ <;> clear H <;> intro c10 H
   ·have c10b0 : decide (a1 ≤ ((rd_T72 l0_1 x11_1).f2)) = false := decide_eq_false c10
    clear c10; have H' := am_ H; clear H
    have p440 := dp_ x11_1
    have q440 := dl_ x11_1 l0_1.length
    obtain ⟨ad440, e440, a4, a5, a6, a0⟩ := at_T72 HR0_1.out x11_1 p440 q440
    (try rw [← Nbq8.out] at a0)
    cases e440
    replace a4 := qx_ HB a4
    replace a5 := qx_ HB a5
    replace a6 := qx_ HB a6
    replace a0 := qx_ HB a0
    replace p440 := eq_true p440; replace q440 := eq_true q440
    go_wp2_with (first | ((with_reducible refine gd_ 7 ?_); refine by_ 7 (cs := #[.int .i64 0, .int .i64 0, .int .i64 0, .bool false]) (t := 72) ?_; intro a3 hg w16 a8 hb; have b1 := gw_ hg; obtain ⟨b0, a7⟩ := qn_ a2 hg; replace a9 := kb_ a9 hb; replace a2 := qbl_ a2 hb; replace HB := hs_ hb; clear hb hg; obtain ⟨f7, f8⟩ := nn_ a7; obtain ⟨d4, d5, d6, d7, d8, d9, e0, e1⟩ := bc4_ a8))
    go_roundg k1
    case measure => have := HK1.out; omega
    case rel => exact ⟨(x5_1), (wrap64 (x11_1 + 1)), qe_, H', ⟨by have := HK1.out; omega⟩, ⟨by (with_reducible repeat (first | apply Kd.R_alloc | apply Kd.R_drewN | apply Kd.R_drew)); exact Kd.R_mono (Kd.R_far (p := ⟨a3, 3, none⟩) (Kd.R_far (p := ⟨a3, 2, none⟩) (Kd.R_far (p := ⟨a3, 1, none⟩) (Kd.R_far (p := ⟨a3, 0, none⟩) (Kd.R_types a9.out a8.out (by decide)) (fun _ hk => hk.2) (.int .i64 ((rd_T72 l0_1 x11_1).f0))) (fun _ hk => hk.2) (.int .i64 ((rd_T72 l0_1 x11_1).f1))) (fun _ hk => hk.2) (.int .i64 ((rd_T72 l0_1 x11_1).f2))) (fun _ hk => hk.2) (.bool true)) (fun _ hk => trivial)⟩, ⟨qf_ a2⟩, ⟨qB_⟩⟩
   have c10b0 : decide (a1 ≤ ((rd_T72 l0_1 x11_1).f2)) = true := decide_eq_true c10
   clear c10
   refine jg_ H ?_; clear H; intro c11 H
   have LMc11 := am_ c11
   clear c11
   obtain ⟨c0, hy442⟩ : ∃ y_ : List (S43), y_ = (x5_1 ++ [(⟨(rd_T72 l0_1 x11_1).f0, (rd_T72 l0_1 x11_1).f1⟩ : S43)]) := ⟨_, rfl⟩
   replace H : (impl_forest.l0 k1 a1 c0 l0_1 (l0_1.length : Int) (wrap64 (x11_1 + 1))) = some r := hq_ hy442 H
   have Ny442 := am_ hy442
   clear hy442; have H' := am_ H; clear H
   have p440 := dp_ x11_1
   have q440 := dl_ x11_1 l0_1.length
   obtain ⟨ad440, e440, a4, a5, a6, a0⟩ := at_T72 HR0_1.out x11_1 p440 q440
   (try rw [← Nbq8.out] at a0)
   cases e440
   replace a4 := qx_ HB a4
   replace a5 := qx_ HB a5
   replace a6 := qx_ HB a6
   replace a0 := qx_ HB a0
   replace p440 := eq_true p440; replace q440 := eq_true q440
   go_wp2_with (first | ((with_reducible refine gd_ 7 ?_); refine by_ 7 (cs := #[.int .i64 0, .int .i64 0, .int .i64 0, .bool false]) (t := 72) ?_; intro a3 hg w12 a8 hb; have b1 := gw_ hg; obtain ⟨b0, a7⟩ := qn_ a2 hg; replace a9 := kb_ a9 hb; replace a2 := qbl_ a2 hb; replace HB := hs_ hb; clear hb hg; obtain ⟨f9, g0⟩ := nn_ a7; obtain ⟨e2, e3, e4, e5, e6, e7, e8, e9⟩ := bc4_ a8) | ((with_reducible refine gate_builtin (b := .append) (xs := #[.tmp 23, .tmp 29]) rfl ?_); at_builtin; refine Kd.R_append k43 (w0 := w) w.heap.size rfl (.tmp 23) (.tmp 29) 67 43 (.agg #[(.int .i64 0), (.int .i64 0)]) 16 rfl Try.underlying67 info43 rfl (by decide) (by omega) u5 x5_1 (⟨(rd_T72 l0_1 x11_1).f0, (rd_T72 l0_1 x11_1).f1⟩ : S43) [.int .i64 ((rd_T72 l0_1 x11_1).f0), .int .i64 ((rd_T72 l0_1 x11_1).f1)] (fun _ => True) (fun _ => False) rfl (by first | (go_simp; done) | (go_simp; rfl)) ?aP (fun _ hk => hk.elim) ?aF ?aO ?aB ?aS ?aL ?_; (case aP => exact k43_mkM _ _ _ (⟨(rd_T72 l0_1 x11_1).f0, (rd_T72 l0_1 x11_1).f1⟩ : S43)); (case aB => exact qB_); (case aF => exact (fun _ _ => trivial)); (case aO => exact (by (with_reducible repeat (first | apply Kd.R_alloc | apply Kd.R_drewN | apply Kd.R_drew)); exact Kd.R_mono (Kd.R_far (p := ⟨a3, 3, none⟩) (Kd.R_far (p := ⟨a3, 2, none⟩) (Kd.R_far (p := ⟨a3, 1, none⟩) (Kd.R_far (p := ⟨a3, 0, none⟩) (Kd.R_types a9.out a8.out (by decide)) (fun _ hk => hk.2) (.int .i64 ((rd_T72 l0_1 x11_1).f0))) (fun _ hk => hk.2) (.int .i64 ((rd_T72 l0_1 x11_1).f1))) (fun _ hk => hk.2) (.int .i64 ((rd_T72 l0_1 x11_1).f2))) (fun _ hk => hk.2) (.bool true)) (fun _ hk => trivial))); (case aS => exact (below_size qB_)); (case aL => have := LMc11.out; omega); intro g1 w15 ho hb hg hat; rw [← Ny442.out] at ho; have b4 := am_ (ho); replace a2 := am_ (blk_grown (g := b2) (o := .cells #[.int .i64 a0_0, .slice (some ad440) l0_1.length c0_1] 29 (0, 0)) (qf_ a2) hg (Kd.R_ne a9.out a2.out (by decide))); replace a8 := am_ (blk_grown (g := a3) (o := .cells #[.int .i64 ((rd_T72 l0_1 x11_1).f0), .int .i64 ((rd_T72 l0_1 x11_1).f1), .int .i64 ((rd_T72 l0_1 x11_1).f2), .bool true] 72 (0, 0)) (by (with_reducible repeat (first | refine blk_drewN ?_ _ | refine blk_drew ?_ | refine blk_alloc ?_ _)); refine blk_put (cs := #[.int .i64 ((rd_T72 l0_1 x11_1).f0), .int .i64 ((rd_T72 l0_1 x11_1).f1), .int .i64 ((rd_T72 l0_1 x11_1).f2), .bool false]) ?_ 3 _ rfl; (with_reducible repeat (first | refine blk_drewN ?_ _ | refine blk_drew ?_ | refine blk_alloc ?_ _)); refine blk_put (cs := #[.int .i64 ((rd_T72 l0_1 x11_1).f0), .int .i64 ((rd_T72 l0_1 x11_1).f1), .int .i64 0, .bool false]) ?_ 2 _ rfl; (with_reducible repeat (first | refine blk_drewN ?_ _ | refine blk_drew ?_ | refine blk_alloc ?_ _)); refine blk_put (cs := #[.int .i64 ((rd_T72 l0_1 x11_1).f0), .int .i64 0, .int .i64 0, .bool false]) ?_ 1 _ rfl; (with_reducible repeat (first | refine blk_drewN ?_ _ | refine blk_drew ?_ | refine blk_alloc ?_ _)); refine blk_put (cs := #[.int .i64 0, .int .i64 0, .int .i64 0, .bool false]) ?_ 0 _ rfl; exact qf_ a8) hg (Kd.R_ne a9.out a8.out (by decide))); replace HB := am_ (hb); clear a9; clear ho hb hg hat))
   go_roundg k1
   case measure => have := HK1.out; omega
   case rel => exact ⟨(c0), (wrap64 (x11_1 + 1)), qe_, H', ⟨by have := HK1.out; omega⟩, ⟨ra_ b4⟩, ⟨qk_ a2⟩, ⟨qB_⟩⟩
def impl_labelsAt.l0 : Nat → List Int → List (S43) → Int → Int → Option (List Int)
  | 0, _, _, _, _ => none
  | k + 1, x5, x13, x14, x15 => if x15 < x14 then (if 0 ≤ x15 then (if x15 < (x13.length : Int) then ((impl_union.f k x5 ((rd_T43 x13 x15).f0) ((rd_T43 x13 x15).f1)).bind fun bt454 => (impl_labelsAt.l0 k bt454.2 x13 x14 (wrap64 (x15 + 1)))) else (none)) else (none)) else (some x5)
def impl_labelsAt.f (k : Nat) (a0_0 : Int) (l0_1 : List (S72)) (a1 : Int) : Option (List Int) := (impl_first.f k a0_0).bind fun t446 => ((impl_forest.f k a0_0 l0_1 a1).bind fun t449 => (impl_labelsAt.l0 k t446 t449 (t449.length : Int) 0))
theorem impl_labelsAt.mono_l : ∀ k, (∀ y0 y1 y2 y3, LeO (impl_labelsAt.l0 k y0 y1 y2 y3) (impl_labelsAt.l0 (k + 1) y0 y1 y2 y3))
  | 0 => fun _ _ _ _ r h => by simp [impl_labelsAt.l0] at h
  | k + 1 => by
    have ih0 := impl_labelsAt.mono_l k
    have m0 := @impl_first.mono; have m1 := @impl_forest.mono; have m2 := @impl_union.mono
    · intro y0 y1 y2 y3
      unfold impl_labelsAt.l0
      exact lo_
theorem impl_labelsAt.mono : ∀ a0 a1 a2 k, LeO (impl_labelsAt.f k a0 a1 a2) (impl_labelsAt.f (k + 1) a0 a1 a2) := by
  intro a0 a1 a2 k
  have ih0 := impl_labelsAt.mono_l k
  have m0 := @impl_first.mono; have m1 := @impl_forest.mono; have m2 := @impl_union.mono
  unfold impl_labelsAt.f
  exact lo_
theorem impl_labelsAt.calls (k : Nat) (a0_0 : Int) (A0_1 : Option Addr) (c0_1 : Nat) (l0_1 : List (S72)) (a1 : Int) (r : List Int) (w : World) (hr0_1 : Kd.C k72 w A0_1 l0_1.length l0_1) (hc0_1 : l0_1.length ≤ c0_1) (h : impl_labelsAt.f k a0_0 l0_1 a1 = some r) :
  Calls Try.prog 67 #[.agg #[.int .i64 a0_0, .slice A0_1 l0_1.length c0_1], .int .i64 a1] w fun e w' => ∃ v0_ : Value, e = .returned (v0_) ∧ Kd.R (Kd.int .i64) 3 w' w.heap.size (fun _ => True) v0_ r ∧ Below w.heap.size w w' := by
 have hu29 := Try.underlying29; have hu43 := Try.underlying43
 have HR0_1 := am_ hr0_1
 have HC0_1 := am_ hc0_1
 clear hr0_1 hc0_1
 have HB := am_ (Below.refl w.heap.size w)
 rw [impl_labelsAt.f] at h; have H := h; clear h
 obtain ⟨b0, A3, H⟩ := bs_ H
 obtain ⟨a2, A4, H⟩ := bs_ H
 have H' := am_ H; clear H
 go_enter Try.func67, Try.ntmps67
 go_wp2_with (first | ((with_reducible refine gd_ 2 ?_); refine by_ 2 (cs := #[.int .i64 a0_0, .slice A0_1 l0_1.length c0_1]) (t := 29) ?_; intro b1 hg w5 a0 hb; have c5 := gw_ hg; replace HB := hs_ hb; clear hb hg; obtain ⟨b2, b3, b4, b5⟩ := bc2_ a0) | ((with_reducible refine gc_ 112 ?_); refine gl_ (some 10) Try.func112 #[.int .i64 a0_0] ?_; (with_reducible refine (impl_first.calls k a0_0 b0 _ A3.out).mono ?_); rintro e w7 ⟨c8, rfl, ho0, hb⟩; refine ⟨_, rfl, ?_⟩; have a7 := am_ (Kd.R_lower ho0 (below_size qB_)); replace a0 := qbl_ a0 hb; replace HB := hs_ hb; (try clear hb); (try clear hb2); (try clear hk); (try clear hi); (try clear ho0); obtain ⟨b6, b7, b8, b9⟩ := bc2_ a0) | ((with_reducible refine gc_ 102 ?_); refine gl_ (some 13) Try.func102 #[.agg #[.int .i64 a0_0, .slice A0_1 l0_1.length c0_1], .int .i64 a1] ?_; (with_reducible refine (impl_forest.calls k a0_0 _ _ l0_1 a1 a2 _ ?_ ?_ A4.out).mono ?_); exact qC_ HR0_1 HB; exact HC0_1.out; rintro e w9 ⟨e9, rfl, ho0, hb⟩; refine ⟨_, rfl, ?_⟩; have a9 := am_ (Kd.R_lower ho0 (below_size qB_)); replace a7 := kb_ a7 hb; replace a0 := qbl_ a0 hb; replace HB := hs_ hb; (try clear hb); (try clear hb2); (try clear hk); (try clear hi); (try clear ho0); obtain ⟨e3, c9, e4⟩ := Kd.R_slice a9.out; subst e4))
 go_loopg [15] k (fun kq v15 w' => ∃ (x5_1 : List Int) (x15_1 : Int), v15 = .int .i64 x15_1 ∧ Aside0 (impl_labelsAt.l0 kq x5_1 a2 (a2.length : Int) x15_1 = some r) ∧ Aside0 (kq ≤ k) ∧ Aside0 (Kd.R (Kd.int .i64) 3 w' w.heap.size (fun _ => True) c8 x5_1) ∧ Aside0 (Kd.R k43 43 w' w.heap.size (fun _ => True) (.slice e3 a2.length c9) a2) ∧ Aside0 (w'.heap[b1]? = some (.cells #[.int .i64 a0_0, (.slice A0_1 l0_1.length c0_1)] 29 (0, 0))) ∧ Aside0 (Below w.heap.size w w'))
 case atStart => exact ⟨(b0), (0), qe_, H', ⟨Nat.le_refl _⟩, ⟨ra_ a7⟩, ⟨ra_ a9⟩, ⟨qk_ a0⟩, ⟨qB_⟩⟩
 case round =>
  clear H'
  (try clear c1); (try clear p2); (try clear c6); (try clear c10); (try clear b2 b3); (try clear b6 b7); (try clear b4 b5); (try clear b8 b9)
  obtain ⟨x5_1, x15_1, rfl, HA, HK1, a4, a5, a0, HB⟩ := hrel
  cases gk with
  | zero => exact absurd HA.out (by simp [impl_labelsAt.l0])
  | succ k1 =>
   have H := HA.out; clear HA
   simp only [impl_labelsAt.l0] at H
   refine ib_ H ?_ ?_ <;> clear H <;> intro c11b0 H
   ·obtain rfl := oi_ H
    go_wp2
    go_ret
    exact ⟨_, qr_, qR_ a4, qB_⟩
   refine ig_ H ?_; clear H; intro c12b0 H
   refine ig_ H ?_; clear H; intro c13b0 H
   replace H := Option.bind_eq_some_iff.mp H
   obtain ⟨⟨e5, c0⟩, d0, H⟩ := H
   replace H : (impl_labelsAt.l0 k1 c0 a2 (a2.length : Int) (wrap64 (x15_1 + 1))) = some r := H
   have A14 := am_ d0
   clear d0; have H' := am_ H; clear H
   have p452 := dp_ x15_1
   have q452 := dl_ x15_1 a2.length
   obtain ⟨ad452, e452, d3, d4⟩ := at_T43 (Kd.R_reads' a5.out).2.2 x15_1 p452 q452
   cases e452; replace p452 := eq_true p452; replace q452 := eq_true q452
   go_wp2_with (first | ((with_reducible refine gd_ 7 ?_); refine by_ 7 (cs := #[.int .i64 0, .int .i64 0]) (t := 43) ?_; intro a3 hg w15 a6 hb; have d1 := gw_ hg; obtain ⟨c4, a8⟩ := qn_ a0 hg; replace a4 := kb_ a4 hb; replace a5 := am_ (Kd.R_below (Kd.R_elderB (qR_ a5) a3 (Nat.le_of_eq hg.symm)) hb); replace a0 := qbl_ a0 hb; replace HB := hs_ hb; clear hb hg; obtain ⟨e7, e8⟩ := nn_ a8; obtain ⟨d5, d6, d7, d8⟩ := bc2_ a6) | ((with_reducible refine gate_store (t := 43) (p := 7) rfl ?_); refine store_event (t := 43) (p := 7) (v := ?vo_w18) (w1 := ((w15.setCell ⟨a3, 0, none⟩ (.int .i64 ((rd_T43 a2 x15_1).f0))).setCell ⟨a3, 1, none⟩ (.int .i64 ((rd_T43 a2 x15_1).f1)))) ?hg ?ho ?hn ?hr ?_; (case ho => rfl); (case hg => rfl); (case hn => rfl); (case hr => first | (go_simp; done) | (go_simp; rfl)); intro w18 hw; have n0_ : Aside0 (Kd.R (Kd.int .i64) 3 w18 w.heap.size (fun _ => True) c8 x5_1) := ⟨(by rw [hw]; exact (by (with_reducible repeat (first | apply Kd.R_alloc | apply Kd.R_drewN | apply Kd.R_drew)); exact Kd.R_mono (Kd.R_far (p := ⟨a3, 1, none⟩) (Kd.R_far (p := ⟨a3, 0, none⟩) (Kd.R_types a4.out a6.out (by decide)) (fun _ hk => hk.2) (.int .i64 ((rd_T43 a2 x15_1).f0))) (fun _ hk => hk.2) (.int .i64 ((rd_T43 a2 x15_1).f1))) (fun _ hk => trivial)))⟩; have n1_ : Aside0 (Kd.R k43 43 w18 w.heap.size (fun k_ => k_ ≠ a3) (.slice (some ad452) a2.length c9) a2) := ⟨(by rw [hw]; exact (by (with_reducible repeat (first | apply Kd.R_alloc | apply Kd.R_drewN | apply Kd.R_drew)); exact Kd.R_mono (Kd.R_far (p := ⟨a3, 1, none⟩) (Kd.R_far (p := ⟨a3, 0, none⟩) (Kd.R_mono a5.out (fun k_ hk => (⟨hk, hk.2⟩ : _ ∧ k_ ≠ a3))) (fun _ hk => hk.2) (.int .i64 ((rd_T43 a2 x15_1).f0))) (fun _ hk => hk.2) (.int .i64 ((rd_T43 a2 x15_1).f1))) (fun _ hk => hk.1.2)))⟩; have n2_ : Aside0 (w18.heap[b1]? = some (.cells #[.int .i64 a0_0, .slice A0_1 l0_1.length c0_1] 29 (0, 0))) := ⟨(by rw [hw]; exact (qf_ a0))⟩; have n3_ : Aside0 (w18.heap[a3]? = some (.cells #[.int .i64 ((rd_T43 a2 x15_1).f0), .int .i64 ((rd_T43 a2 x15_1).f1)] 43 (0, 0))) := ⟨(by rw [hw]; exact (by (with_reducible repeat (first | refine blk_drewN ?_ _ | refine blk_drew ?_ | refine blk_alloc ?_ _)); refine blk_put (cs := #[.int .i64 ((rd_T43 a2 x15_1).f0), .int .i64 0]) ?_ 1 _ rfl; (with_reducible repeat (first | refine blk_drewN ?_ _ | refine blk_drew ?_ | refine blk_alloc ?_ _)); refine blk_put (cs := #[.int .i64 0, .int .i64 0]) ?_ 0 _ rfl; exact qf_ a6))⟩; have n4_ : Aside0 (Below w.heap.size w w18) := ⟨(by rw [hw]; exact qB_)⟩; clear hw; clear a4; clear a5; clear a0; clear a6; clear HB; have a4 := n0_; have a5 := n1_; have a0 := n2_; have a6 := n3_; have HB := n4_; clear n0_ n1_ n2_ n3_ n4_; obtain ⟨d9, e0, e1, e2⟩ := bc2_ a6; obtain ⟨c2, c3, e6⟩ := Kd.R_slice a4.out; subst e6) | ((with_reducible refine gc_ 113 ?_); refine gl_ (some 24) Try.func113 #[.slice c2 x5_1.length c3, .int .i64 ((rd_T43 a2 x15_1).f0), .int .i64 ((rd_T43 a2 x15_1).f1)] ?_; (with_reducible refine (impl_union.calls k1 (fun k_ => some k_ = (.slice c2 x5_1.length c3 : Value).ownBlock) (.slice c2 x5_1.length c3) x5_1 ((rd_T43 a2 x15_1).f0) ((rd_T43 a2 x15_1).f1) e5 c0 w _ ?side1 ?side2 A14.out).mono ?_); (case side1 => repeat (first | (with_reducible first | exact HB.out | apply below_alloc | apply pw_below_drewN | apply below_drew1 | refine below_set ?_ c5.out | refine below_set ?_ d1.out) | exact HB.out)); (case side2 => exact Kd.R_tight rfl a4.out); rintro e w21 ⟨rfl, hy0, hb, hkp⟩; refine ⟨_, rfl, ?_⟩; have n0_ := am_ (Kd.R_reok rfl hy0 (fun k_ e_ => a4.out.1 k_ e_)); have n1_ := am_ (Kd.R_mono (ok' := fun k_ => k_ ≠ a3) (Kd.R_keptB ((Kd.R_apart' a5.out (Kd.R_typed a4.out) (by decide))) hkp (fun k_ hk_ hs_ => (hk_.2) hs_)) (fun k_ hk_ => hk_.1.1)); have n2_ := (qkp_ a0 hkp (fun hs_ => (fun e_ => (Kd.R_ne a4.out a0.out (by decide)) e_) hs_)); have n3_ := (qkp_ a6 hkp (fun hs_ => (fun e_ => (Kd.R_ne a4.out a6.out (by decide)) e_) hs_)); have n4_ := am_ (hb); clear a4; clear a5; clear a0; clear a6; clear HB; have a4 := n0_; have a5 := n1_; have a0 := n2_; have a6 := n3_; have HB := n4_; clear n0_ n1_ n2_ n3_ n4_; (try clear hb); (try clear hkp); (try clear hy0)))
   go_roundg k1
   case measure => have := HK1.out; omega
   case rel => exact ⟨(c0), (wrap64 (x15_1 + 1)), qe_, H', ⟨by have := HK1.out; omega⟩, ⟨ra_ a4⟩, ⟨by (with_reducible repeat (first | apply Kd.R_alloc | apply Kd.R_drewN | apply Kd.R_drew)); exact Kd.R_mono a5.out (fun _ hk => trivial)⟩, ⟨qk_ a0⟩, ⟨qB_⟩⟩
def impl_sizes.l0 : Nat → Int → Int → List Int → Int → Int → Option (Int)
  | 0, _, _, _, _, _ => none
  | k + 1, x1, x5, x8, x9, x10 => if x10 < x9 then (if 0 ≤ x10 then (if x10 < (x8.length : Int) then (if (rd x8 x10) = x1 then (impl_sizes.l0 k x1 (wrap64 (x5 + 1)) x8 x9 (wrap64 (x10 + 1))) else (impl_sizes.l0 k x1 x5 x8 x9 (wrap64 (x10 + 1)))) else (none)) else (none)) else (some x5)
def impl_sizes.f (k : Nat) (l0 : List Int) (a1 : Int) : Option (Int) := impl_sizes.l0 k a1 0 l0 (l0.length : Int) 0
theorem impl_sizes.mono_l : ∀ k, (∀ y0 y1 y2 y3 y4, LeO (impl_sizes.l0 k y0 y1 y2 y3 y4) (impl_sizes.l0 (k + 1) y0 y1 y2 y3 y4))
  | 0 => fun _ _ _ _ _ r h => by simp [impl_sizes.l0] at h
  | k + 1 => by
    have ih0 := impl_sizes.mono_l k
    · intro y0 y1 y2 y3 y4
      unfold impl_sizes.l0
      exact lo_
theorem impl_sizes.mono : ∀ a0 a1 k, LeO (impl_sizes.f k a0 a1) (impl_sizes.f (k + 1) a0 a1) := by
  intro a0 a1 k
  have ih0 := impl_sizes.mono_l k
  unfold impl_sizes.f
  exact lo_
theorem impl_sizes.calls (k : Nat) (A0 : Option Addr) (c0 : Nat) (l0 : List Int) (a1 : Int) (r : Int) (w : World) (hr0 : Kd.C (Kd.int .i64) w A0 l0.length l0) (hc0 : l0.length ≤ c0) (h : impl_sizes.f k l0 a1 = some r) :
  Calls Try.prog 114 #[.slice A0 l0.length c0, .int .i64 a1] w fun e w' => e = .returned (.int .i64 r) ∧ Drawn0 w w' := by
 have a2 := am_ hr0
 have a3 := am_ hc0
 clear hr0 hc0
 rw [impl_sizes.f] at h; have H := h; clear h; have H' := am_ H; clear H
 go_enter Try.func114, Try.ntmps114
 go_wp2
 go_loopg [5, 10] k (fun kq v5 v10 w' => ∃ (x5_1 : Int) (x10_1 : Int), v5 = .int .i64 x5_1 ∧ v10 = .int .i64 x10_1 ∧ Aside0 (impl_sizes.l0 kq a1 x5_1 l0 (l0.length : Int) x10_1 = some r) ∧ Aside0 (kq ≤ k) ∧ Drawn0 w w')
 case atStart => exact ⟨(0), (0), qe_, qe_, H', ⟨Nat.le_refl _⟩, by repeat (first | exact Drawn0.refl _ | apply Drawn0.step)⟩
 case round =>
  clear H'
  (try clear c1); (try clear p2)
  obtain ⟨x5_1, x10_1, rfl, rfl, HA, HK1, ⟨m1, rfl⟩⟩ := hrel
  cases gk with
  | zero => exact absurd HA.out (by simp [impl_sizes.l0])
  | succ k1 =>
   have H := HA.out; clear HA
   simp only [impl_sizes.l0] at H
   refine ib_ H ?_ ?_ <;> clear H <;> intro c3b0 H
   ·obtain rfl := oi_ H
    go_wp2
    go_ret
    exact ⟨by first | rfl | (simp; done) | (simp [*]; done), by repeat (first | exact Drawn0.refl _ | apply Drawn0.step)⟩
   refine ig_ H ?_; clear H; intro c4b0 H
   refine ig_ H ?_; clear H; intro c5b0 H
   refine jc_ H ?_ ?_ <;> clear H <;> intro c6 H
   ·have c6b0 : ((rd l0 x10_1) == a1) = true := beq_iff_eq.mpr c6
    have c6b1 : ((rd l0 x10_1) != a1) = false := bne_eq_false_iff_eq.mpr c6
    clear c6; have H' := am_ H; clear H
    have p456 := dp_ x10_1
    have q456 := dl_ x10_1 l0.length
    obtain ⟨ad456, e456, a0⟩ := Kd.at_int a2.out x10_1 p456 q456
    cases e456; replace p456 := eq_true p456; replace q456 := eq_true q456
    go_wp2
    go_roundg k1
    case measure => have := HK1.out; omega
    case rel => exact ⟨(wrap64 (x5_1 + 1)), (wrap64 (x10_1 + 1)), qe_, qe_, H', ⟨by have := HK1.out; omega⟩, by repeat (first | exact Drawn0.refl _ | apply Drawn0.step)⟩
   have c6b0 : ((rd l0 x10_1) == a1) = false := beq_eq_false_iff_ne.mpr c6
   have c6b1 : ((rd l0 x10_1) != a1) = true := bne_iff_ne.mpr c6
   have H' := am_ H; clear H
   have p456 := dp_ x10_1
   have q456 := dl_ x10_1 l0.length
   obtain ⟨ad456, e456, a0⟩ := Kd.at_int a2.out x10_1 p456 q456
   cases e456; replace p456 := eq_true p456; replace q456 := eq_true q456
   go_wp2
   go_roundg k1
   case measure => have := HK1.out; omega
   case rel => exact ⟨(x5_1), (wrap64 (x10_1 + 1)), qe_, qe_, H', ⟨by have := HK1.out; omega⟩, by repeat (first | exact Drawn0.refl _ | apply Drawn0.step)⟩
def impl_levelOk.l0 : Nat → Int → List Int → List (S43) → Int → Int → Int → List (S72) → Option (Bool)
  | 0, _, _, _, _, _, _, _ => none
  | k + 1, x1, x5, x13, x14, x15, x458000, x458001 => if x15 < x14 then (if 0 ≤ x15 then (if x15 < (x13.length : Int) then (if 0 ≤ ((rd_T43 x13 x15).f0) then (if ((rd_T43 x13 x15).f0) < (x5.length : Int) then ((impl_sizes.f k x5 (rd x5 ((rd_T43 x13 x15).f0))).bind fun t467 => (if 0 ≤ x1 then (if t467 > (shr .i64 x458000 x1) then (some false) else (impl_levelOk.l0 k x1 x5 x13 x14 (wrap64 (x15 + 1)) x458000 x458001)) else (none))) else (none)) else (none)) else (none)) else (none)) else (some true)
def impl_levelOk.f (k : Nat) (a0_0 : Int) (l0_1 : List (S72)) (a1 : Int) : Option (Bool) := (impl_labelsAt.f k a0_0 l0_1 a1).bind fun t458 => ((impl_forest.f k a0_0 l0_1 a1).bind fun t461 => (impl_levelOk.l0 k a1 t458 t461 (t461.length : Int) 0 a0_0 l0_1))
theorem impl_levelOk.mono_l : ∀ k, (∀ y0 y1 y2 y3 y4 y5 y6, LeO (impl_levelOk.l0 k y0 y1 y2 y3 y4 y5 y6) (impl_levelOk.l0 (k + 1) y0 y1 y2 y3 y4 y5 y6))
  | 0 => fun _ _ _ _ _ _ _ r h => by simp [impl_levelOk.l0] at h
  | k + 1 => by
    have ih0 := impl_levelOk.mono_l k
    have m0 := @impl_forest.mono; have m1 := @impl_labelsAt.mono; have m2 := @impl_sizes.mono
    · intro y0 y1 y2 y3 y4 y5 y6
      unfold impl_levelOk.l0
      exact lo_
theorem impl_levelOk.mono : ∀ a0 a1 a2 k, LeO (impl_levelOk.f k a0 a1 a2) (impl_levelOk.f (k + 1) a0 a1 a2) := by
  intro a0 a1 a2 k
  have ih0 := impl_levelOk.mono_l k
  have m0 := @impl_forest.mono; have m1 := @impl_labelsAt.mono; have m2 := @impl_sizes.mono
  unfold impl_levelOk.f
  exact lo_
theorem impl_levelOk.calls (k : Nat) (a0_0 : Int) (A0_1 : Option Addr) (c0_1 : Nat) (l0_1 : List (S72)) (a1 : Int) (r : Bool) (w : World) (hr0_1 : Kd.C k72 w A0_1 l0_1.length l0_1) (hc0_1 : l0_1.length ≤ c0_1) (h : impl_levelOk.f k a0_0 l0_1 a1 = some r) :
  Calls Try.prog 68 #[.agg #[.int .i64 a0_0, .slice A0_1 l0_1.length c0_1], .int .i64 a1] w fun e w' => e = .returned (.bool r) ∧ Below w.heap.size w w' := by
 have hu29 := Try.underlying29; have hu43 := Try.underlying43
 have HR0_1 := am_ hr0_1
 have HC0_1 := am_ hc0_1
 clear hr0_1 hc0_1
 have HB := am_ (Below.refl w.heap.size w)
 rw [impl_levelOk.f] at h; have H := h; clear h
 obtain ⟨a7, A3, H⟩ := bs_ H
 obtain ⟨a2, A4, H⟩ := bs_ H
 have H' := am_ H; clear H
 go_enter Try.func68, Try.ntmps68
 go_wp2_with (first | ((with_reducible refine gd_ 2 ?_); refine by_ 2 (cs := #[.int .i64 a0_0, .slice A0_1 l0_1.length c0_1]) (t := 29) ?_; intro e7 hg w5 a3 hb; have c8 := gw_ hg; replace HB := hs_ hb; clear hb hg; obtain ⟨c9, d0, d1, d2⟩ := bc2_ a3) | (go_at_call 67; (with_reducible refine (impl_labelsAt.calls k a0_0 _ _ l0_1 a1 a7 _ ?_ ?_ A3.out).mono ?_); exact qC_ HR0_1 HB; exact HC0_1.out; rintro e w7 ⟨e8, rfl, ho0, hb⟩; have b0 := am_ (Kd.R_lower ho0 (below_size qB_)); replace a3 := qbl_ a3 hb; replace HB := hs_ hb; (try clear hb); (try clear hb2); (try clear hk); (try clear hi); (try clear ho0); obtain ⟨b5, b6, b7, b8⟩ := bc2_ a3) | (go_at_call 102; (with_reducible refine (impl_forest.calls k a0_0 _ _ l0_1 a1 a2 _ ?_ ?_ A4.out).mono ?_); exact qC_ HR0_1 HB; exact HC0_1.out; rintro e w9 ⟨f6, rfl, ho0, hb⟩; have b2 := am_ (Kd.R_lower ho0 (below_size qB_)); replace b0 := kb_ b0 hb; replace a3 := qbl_ a3 hb; replace HB := hs_ hb; (try clear hb); (try clear hb2); (try clear hk); (try clear hi); (try clear ho0); obtain ⟨e9, f2, d3⟩ := Kd.R_slice b2.out; subst d3))
 repeat (go_quiet (first | (go_at_call 67; (with_reducible refine (impl_labelsAt.calls k a0_0 _ _ l0_1 a1 a7 _ ?_ ?_ A3.out).mono ?_); exact qC_ HR0_1 HB; exact HC0_1.out; rintro e w7 ⟨e8, rfl, ho0, hb⟩; have b0 := am_ (Kd.R_lower ho0 (below_size qB_)); replace a3 := qbl_ a3 hb; replace HB := hs_ hb; (try clear hb); (try clear hb2); (try clear hk); (try clear hi); (try clear ho0); obtain ⟨b5, b6, b7, b8⟩ := bc2_ a3) | (go_at_call 102; (with_reducible refine (impl_forest.calls k a0_0 _ _ l0_1 a1 a2 _ ?_ ?_ A4.out).mono ?_); exact qC_ HR0_1 HB; exact HC0_1.out; rintro e w9 ⟨f6, rfl, ho0, hb⟩; have b2 := am_ (Kd.R_lower ho0 (below_size qB_)); replace b0 := kb_ b0 hb; replace a3 := qbl_ a3 hb; replace HB := hs_ hb; (try clear hb); (try clear hb2); (try clear hk); (try clear hi); (try clear ho0); obtain ⟨e9, f2, d3⟩ := Kd.R_slice b2.out; subst d3)); try go_wp2_with (first | ((with_reducible refine gd_ 2 ?_); refine by_ 2 (cs := #[.int .i64 a0_0, .slice A0_1 l0_1.length c0_1]) (t := 29) ?_; intro e7 hg w5 a3 hb; have c8 := gw_ hg; replace HB := hs_ hb; clear hb hg; obtain ⟨c9, d0, d1, d2⟩ := bc2_ a3) | (go_at_call 67; (with_reducible refine (impl_labelsAt.calls k a0_0 _ _ l0_1 a1 a7 _ ?_ ?_ A3.out).mono ?_); exact qC_ HR0_1 HB; exact HC0_1.out; rintro e w7 ⟨e8, rfl, ho0, hb⟩; have b0 := am_ (Kd.R_lower ho0 (below_size qB_)); replace a3 := qbl_ a3 hb; replace HB := hs_ hb; (try clear hb); (try clear hb2); (try clear hk); (try clear hi); (try clear ho0); obtain ⟨b5, b6, b7, b8⟩ := bc2_ a3) | (go_at_call 102; (with_reducible refine (impl_forest.calls k a0_0 _ _ l0_1 a1 a2 _ ?_ ?_ A4.out).mono ?_); exact qC_ HR0_1 HB; exact HC0_1.out; rintro e w9 ⟨f6, rfl, ho0, hb⟩; have b2 := am_ (Kd.R_lower ho0 (below_size qB_)); replace b0 := kb_ b0 hb; replace a3 := qbl_ a3 hb; replace HB := hs_ hb; (try clear hb); (try clear hb2); (try clear hk); (try clear hi); (try clear ho0); obtain ⟨e9, f2, d3⟩ := Kd.R_slice b2.out; subst d3)))
 go_loopg [15] k (fun kq v15 w' => ∃ (x15_1 : Int), v15 = .int .i64 x15_1 ∧ Aside0 (impl_levelOk.l0 kq a1 a7 a2 (a2.length : Int) x15_1 a0_0 l0_1 = some r) ∧ Aside0 (kq ≤ k) ∧ Aside0 (Kd.R (Kd.int .i64) 3 w' w.heap.size (fun _ => True) e8 a7) ∧ Aside0 (Kd.R k43 43 w' w.heap.size (fun _ => True) (.slice e9 a2.length f2) a2) ∧ Aside0 (w'.heap[e7]? = some (.cells #[.int .i64 a0_0, (.slice A0_1 l0_1.length c0_1)] 29 (0, 0))) ∧ Aside0 (Below w.heap.size w w'))
 case atStart => exact ⟨(0), qe_, H', ⟨Nat.le_refl _⟩, ⟨ra_ b0⟩, ⟨ra_ b2⟩, ⟨qk_ a3⟩, ⟨qB_⟩⟩
 case round =>
  clear H'
  (try clear p2); (try clear c6); (try clear c9 d0); (try clear b5 b6); (try clear d1 d2); (try clear b7 b8)
  obtain ⟨x15_1, rfl, HA, HK1, a5, a9, a3, HB⟩ := hrel
  cases gk with
  | zero => exact absurd HA.out (by simp [impl_levelOk.l0])
  | succ k1 =>
   have H := HA.out; clear HA
   simp only [impl_levelOk.l0] at H
   refine ib_ H ?_ ?_ <;> clear H <;> intro c11b0 H
   ·obtain rfl := oi_ H
    go_wp2
    repeat (go_quiet (fail); try go_wp2)
    go_ret
    exact ⟨qr_, qB_⟩
   refine ig_ H ?_; clear H; intro c12b0 H
   refine ig_ H ?_; clear H; intro c13b0 H
   refine ig_ H ?_; clear H; intro c14b0 H
   refine ig_ H ?_; clear H; intro c15b0 H
   obtain ⟨b4, A16, H⟩ := bs_ H
   refine jg_ H ?_; clear H; intro c17 H
   have c17b0 := eq_true c17
   have c17b1 := decide_eq_true c17
   clear c17
   obtain ⟨ji18, hji18⟩ : ∃ j_ : Int, (shr .i64 a0_0 a1) = j_ := ⟨_, rfl⟩
   first | rw [hji18] at H | simp only [hji18] at H
   (try rw [hji18] at A16)
   have hji18_ : (a0_0 / 2 ^ min a1.toNat 64) = ji18 := hji18
   have hji18z : a1 ≤ 64 → (a0_0 / 2 ^ a1.toNat) = ji18 := shr_small hji18
   refine jc_ H ?_ ?_ <;> clear H <;> intro c19 H
   ·have c19b0 : decide ((ji18) < b4) = true := decide_eq_true c19
    clear c19
    obtain rfl := oi_ H
    have p464 := dp_ x15_1
    have q464 := dl_ x15_1 a2.length
    obtain ⟨ad464, e464, d5, d6⟩ := at_T43 (Kd.R_reads' a9.out).2.2 x15_1 p464 q464
    cases e464; replace p464 := eq_true p464; replace q464 := eq_true q464
    go_wp2_with (first | ((with_reducible refine gd_ 7 ?_); refine by_ 7 (cs := #[.int .i64 0, .int .i64 0]) (t := 43) ?_; intro a0 hg w20 a6 hb; have b3 := gw_ hg; obtain ⟨b1, a8⟩ := qn_ a3 hg; replace a5 := kb_ a5 hb; replace a9 := am_ (Kd.R_below (Kd.R_elderB (qR_ a9) a0 (Nat.le_of_eq hg.symm)) hb); replace a3 := qbl_ a3 hb; replace HB := hs_ hb; clear hb hg; obtain ⟨f8, f9⟩ := nn_ a8; obtain ⟨d7, d8, d9, e0⟩ := bc2_ a6; obtain ⟨g2, e1, f3⟩ := Kd.R_slice a5.out; subst f3; have p466 := dp_ (((rd_T43 a2 x15_1).f0)); have q466 := dl_ ((rd_T43 a2 x15_1).f0) a7.length; obtain ⟨ad466, e466, a4⟩ := Kd.at_int (Kd.R_reads' a5.out).2.2 ((rd_T43 a2 x15_1).f0) p466 q466; cases e466; have hn466_0 : ad466.block ≠ a0 := Kd.own_blk (Kd.R_ne a5.out a6.out (by decide)); have hn466_1 : ad466.block ≠ a0 := Kd.own_blk (Kd.R_ne a5.out a6.out (by decide)); replace a4 := (cell_far (p := ⟨a0, 0, none⟩) (by first | (rw [add_block]; exact hn466_0) | (show (Addr.add _ _).block ≠ _; rw [add_block]; exact hn466_0) | exact hn466_0) (.int .i64 ((rd_T43 a2 x15_1).f0))).trans a4; replace a4 := (cell_far (p := ⟨a0, 1, none⟩) (by first | (rw [add_block]; exact hn466_1) | (show (Addr.add _ _).block ≠ _; rw [add_block]; exact hn466_1) | exact hn466_1) (.int .i64 ((rd_T43 a2 x15_1).f1))).trans a4; (try have hy466_0 := fun (n_ : Nat) => (show ((((w20.drewN n_).setCell ⟨a0, 0, none⟩ (.int .i64 ((rd_T43 a2 x15_1).f0))).setCell ⟨a0, 1, none⟩ (.int .i64 ((rd_T43 a2 x15_1).f1)))).cell? _ = some _ from a4)); clear hn466_0; clear hn466_1; replace p466 := eq_true p466; replace q466 := eq_true q466) | (go_at_call 114; (with_reducible refine (impl_sizes.calls k1 _ _ a7 (rd a7 ((rd_T43 a2 x15_1).f0)) b4 _ ?side1 ?side2 A16.out).mono ?_); (case side1 => refine (Kd.R_reads' (e := 3) (base := w.heap.size) (ok := fun k_ => True) (n := a7.length) (c := e1) ?_).2.2; exact (by (with_reducible repeat (first | apply Kd.R_alloc | apply Kd.R_drewN | apply Kd.R_drew)); exact (Kd.R_mono (Kd.R_far (p := ⟨a0, 1, none⟩) (Kd.R_far (p := ⟨a0, 0, none⟩) (Kd.R_types a5.out a6.out (by decide)) (fun _ hk => hk.2) (.int .i64 ((rd_T43 a2 x15_1).f0))) (fun _ hk => hk.2) (.int .i64 ((rd_T43 a2 x15_1).f1))) (fun _ h_ => h_.1)))); (case side2 => exact (Kd.R_reads' a5.out).2.1); rintro e w' ⟨rfl, ⟨nd, rfl⟩⟩; (try first | exact ⟨rfl, _, World.drewN_drewN _ _ _⟩ | exact ⟨rfl, _, Eq.trans (World.drewN_drewN _ _ _) (congrArg (World.drewN _) (Nat.add_assoc _ _ _))⟩); obtain ⟨b9, c0, c1, c2⟩ := bc2_ a3))
    repeat (go_quiet (first | (go_at_call 114; (with_reducible refine (impl_sizes.calls k1 _ _ a7 (rd a7 ((rd_T43 a2 x15_1).f0)) b4 _ ?side1 ?side2 A16.out).mono ?_); (case side1 => refine (Kd.R_reads' (e := 3) (base := w.heap.size) (ok := fun k_ => True) (n := a7.length) (c := e1) ?_).2.2; exact (by (with_reducible repeat (first | apply Kd.R_alloc | apply Kd.R_drewN | apply Kd.R_drew)); exact (Kd.R_mono (Kd.R_far (p := ⟨a0, 1, none⟩) (Kd.R_far (p := ⟨a0, 0, none⟩) (Kd.R_types a5.out a6.out (by decide)) (fun _ hk => hk.2) (.int .i64 ((rd_T43 a2 x15_1).f0))) (fun _ hk => hk.2) (.int .i64 ((rd_T43 a2 x15_1).f1))) (fun _ h_ => h_.1)))); (case side2 => exact (Kd.R_reads' a5.out).2.1); rintro e w' ⟨rfl, ⟨nd, rfl⟩⟩; (try first | exact ⟨rfl, _, World.drewN_drewN _ _ _⟩ | exact ⟨rfl, _, Eq.trans (World.drewN_drewN _ _ _) (congrArg (World.drewN _) (Nat.add_assoc _ _ _))⟩); obtain ⟨b9, c0, c1, c2⟩ := bc2_ a3)); try go_wp2_with (first | ((with_reducible refine gd_ 7 ?_); refine by_ 7 (cs := #[.int .i64 0, .int .i64 0]) (t := 43) ?_; intro a0 hg w20 a6 hb; have b3 := gw_ hg; obtain ⟨b1, a8⟩ := qn_ a3 hg; replace a5 := kb_ a5 hb; replace a9 := am_ (Kd.R_below (Kd.R_elderB (qR_ a9) a0 (Nat.le_of_eq hg.symm)) hb); replace a3 := qbl_ a3 hb; replace HB := hs_ hb; clear hb hg; obtain ⟨f8, f9⟩ := nn_ a8; obtain ⟨d7, d8, d9, e0⟩ := bc2_ a6; obtain ⟨g2, e1, f3⟩ := Kd.R_slice a5.out; subst f3; have p466 := dp_ (((rd_T43 a2 x15_1).f0)); have q466 := dl_ ((rd_T43 a2 x15_1).f0) a7.length; obtain ⟨ad466, e466, a4⟩ := Kd.at_int (Kd.R_reads' a5.out).2.2 ((rd_T43 a2 x15_1).f0) p466 q466; cases e466; have hn466_0 : ad466.block ≠ a0 := Kd.own_blk (Kd.R_ne a5.out a6.out (by decide)); have hn466_1 : ad466.block ≠ a0 := Kd.own_blk (Kd.R_ne a5.out a6.out (by decide)); replace a4 := (cell_far (p := ⟨a0, 0, none⟩) (by first | (rw [add_block]; exact hn466_0) | (show (Addr.add _ _).block ≠ _; rw [add_block]; exact hn466_0) | exact hn466_0) (.int .i64 ((rd_T43 a2 x15_1).f0))).trans a4; replace a4 := (cell_far (p := ⟨a0, 1, none⟩) (by first | (rw [add_block]; exact hn466_1) | (show (Addr.add _ _).block ≠ _; rw [add_block]; exact hn466_1) | exact hn466_1) (.int .i64 ((rd_T43 a2 x15_1).f1))).trans a4; (try have hy466_0 := fun (n_ : Nat) => (show ((((w20.drewN n_).setCell ⟨a0, 0, none⟩ (.int .i64 ((rd_T43 a2 x15_1).f0))).setCell ⟨a0, 1, none⟩ (.int .i64 ((rd_T43 a2 x15_1).f1)))).cell? _ = some _ from a4)); clear hn466_0; clear hn466_1; replace p466 := eq_true p466; replace q466 := eq_true q466) | (go_at_call 114; (with_reducible refine (impl_sizes.calls k1 _ _ a7 (rd a7 ((rd_T43 a2 x15_1).f0)) b4 _ ?side1 ?side2 A16.out).mono ?_); (case side1 => refine (Kd.R_reads' (e := 3) (base := w.heap.size) (ok := fun k_ => True) (n := a7.length) (c := e1) ?_).2.2; exact (by (with_reducible repeat (first | apply Kd.R_alloc | apply Kd.R_drewN | apply Kd.R_drew)); exact (Kd.R_mono (Kd.R_far (p := ⟨a0, 1, none⟩) (Kd.R_far (p := ⟨a0, 0, none⟩) (Kd.R_types a5.out a6.out (by decide)) (fun _ hk => hk.2) (.int .i64 ((rd_T43 a2 x15_1).f0))) (fun _ hk => hk.2) (.int .i64 ((rd_T43 a2 x15_1).f1))) (fun _ h_ => h_.1)))); (case side2 => exact (Kd.R_reads' a5.out).2.1); rintro e w' ⟨rfl, ⟨nd, rfl⟩⟩; (try first | exact ⟨rfl, _, World.drewN_drewN _ _ _⟩ | exact ⟨rfl, _, Eq.trans (World.drewN_drewN _ _ _) (congrArg (World.drewN _) (Nat.add_assoc _ _ _))⟩); obtain ⟨b9, c0, c1, c2⟩ := bc2_ a3)))
    go_ret
    exact ⟨by first | rfl | (simp [errW_none, errW_some] <;> rfl) | (simp only [← hji18]; first | rfl | (simp [errW_none, errW_some] <;> rfl)) | (simp [*, errW_none, errW_some] <;> rfl), qB_⟩
   have c19b0 : decide ((ji18) < b4) = false := decide_eq_false c19
   clear c19; have H' := am_ H; clear H
   have p464 := dp_ x15_1
   have q464 := dl_ x15_1 a2.length
   obtain ⟨ad464, e464, d5, d6⟩ := at_T43 (Kd.R_reads' a9.out).2.2 x15_1 p464 q464
   cases e464; replace p464 := eq_true p464; replace q464 := eq_true q464
   go_wp2_with (first | ((with_reducible refine gd_ 7 ?_); refine by_ 7 (cs := #[.int .i64 0, .int .i64 0]) (t := 43) ?_; intro a0 hg w25 a6 hb; have b3 := gw_ hg; obtain ⟨b1, a8⟩ := qn_ a3 hg; replace a5 := kb_ a5 hb; replace a9 := am_ (Kd.R_below (Kd.R_elderB (qR_ a9) a0 (Nat.le_of_eq hg.symm)) hb); replace a3 := qbl_ a3 hb; replace HB := hs_ hb; clear hb hg; obtain ⟨g0, g1⟩ := nn_ a8; obtain ⟨e2, e3, e4, e5⟩ := bc2_ a6; obtain ⟨g3, e6, f4⟩ := Kd.R_slice a5.out; subst f4; have p466 := dp_ (((rd_T43 a2 x15_1).f0)); have q466 := dl_ ((rd_T43 a2 x15_1).f0) a7.length; obtain ⟨ad466, e466, a4⟩ := Kd.at_int (Kd.R_reads' a5.out).2.2 ((rd_T43 a2 x15_1).f0) p466 q466; cases e466; have hn466_0 : ad466.block ≠ a0 := Kd.own_blk (Kd.R_ne a5.out a6.out (by decide)); have hn466_1 : ad466.block ≠ a0 := Kd.own_blk (Kd.R_ne a5.out a6.out (by decide)); replace a4 := (cell_far (p := ⟨a0, 0, none⟩) (by first | (rw [add_block]; exact hn466_0) | (show (Addr.add _ _).block ≠ _; rw [add_block]; exact hn466_0) | exact hn466_0) (.int .i64 ((rd_T43 a2 x15_1).f0))).trans a4; replace a4 := (cell_far (p := ⟨a0, 1, none⟩) (by first | (rw [add_block]; exact hn466_1) | (show (Addr.add _ _).block ≠ _; rw [add_block]; exact hn466_1) | exact hn466_1) (.int .i64 ((rd_T43 a2 x15_1).f1))).trans a4; (try have hy466_0 := fun (n_ : Nat) => (show ((((w25.drewN n_).setCell ⟨a0, 0, none⟩ (.int .i64 ((rd_T43 a2 x15_1).f0))).setCell ⟨a0, 1, none⟩ (.int .i64 ((rd_T43 a2 x15_1).f1)))).cell? _ = some _ from a4)); clear hn466_0; clear hn466_1; replace p466 := eq_true p466; replace q466 := eq_true q466) | (go_at_call 114; (with_reducible refine (impl_sizes.calls k1 _ _ a7 (rd a7 ((rd_T43 a2 x15_1).f0)) b4 _ ?side1 ?side2 A16.out).mono ?_); (case side1 => refine (Kd.R_reads' (e := 3) (base := w.heap.size) (ok := fun k_ => True) (n := a7.length) (c := e6) ?_).2.2; exact (by (with_reducible repeat (first | apply Kd.R_alloc | apply Kd.R_drewN | apply Kd.R_drew)); exact (Kd.R_mono (Kd.R_far (p := ⟨a0, 1, none⟩) (Kd.R_far (p := ⟨a0, 0, none⟩) (Kd.R_types a5.out a6.out (by decide)) (fun _ hk => hk.2) (.int .i64 ((rd_T43 a2 x15_1).f0))) (fun _ hk => hk.2) (.int .i64 ((rd_T43 a2 x15_1).f1))) (fun _ h_ => h_.1)))); (case side2 => exact (Kd.R_reads' a5.out).2.1); rintro e w' ⟨rfl, ⟨nd, rfl⟩⟩; (try first | exact ⟨rfl, _, World.drewN_drewN _ _ _⟩ | exact ⟨rfl, _, Eq.trans (World.drewN_drewN _ _ _) (congrArg (World.drewN _) (Nat.add_assoc _ _ _))⟩); obtain ⟨c3, c4, c5, c7⟩ := bc2_ a3))
   repeat (go_quiet (first | (go_at_call 114; (with_reducible refine (impl_sizes.calls k1 _ _ a7 (rd a7 ((rd_T43 a2 x15_1).f0)) b4 _ ?side1 ?side2 A16.out).mono ?_); (case side1 => refine (Kd.R_reads' (e := 3) (base := w.heap.size) (ok := fun k_ => True) (n := a7.length) (c := e6) ?_).2.2; exact (by (with_reducible repeat (first | apply Kd.R_alloc | apply Kd.R_drewN | apply Kd.R_drew)); exact (Kd.R_mono (Kd.R_far (p := ⟨a0, 1, none⟩) (Kd.R_far (p := ⟨a0, 0, none⟩) (Kd.R_types a5.out a6.out (by decide)) (fun _ hk => hk.2) (.int .i64 ((rd_T43 a2 x15_1).f0))) (fun _ hk => hk.2) (.int .i64 ((rd_T43 a2 x15_1).f1))) (fun _ h_ => h_.1)))); (case side2 => exact (Kd.R_reads' a5.out).2.1); rintro e w' ⟨rfl, ⟨nd, rfl⟩⟩; (try first | exact ⟨rfl, _, World.drewN_drewN _ _ _⟩ | exact ⟨rfl, _, Eq.trans (World.drewN_drewN _ _ _) (congrArg (World.drewN _) (Nat.add_assoc _ _ _))⟩); obtain ⟨c3, c4, c5, c7⟩ := bc2_ a3)); try go_wp2_with (first | ((with_reducible refine gd_ 7 ?_); refine by_ 7 (cs := #[.int .i64 0, .int .i64 0]) (t := 43) ?_; intro a0 hg w25 a6 hb; have b3 := gw_ hg; obtain ⟨b1, a8⟩ := qn_ a3 hg; replace a5 := kb_ a5 hb; replace a9 := am_ (Kd.R_below (Kd.R_elderB (qR_ a9) a0 (Nat.le_of_eq hg.symm)) hb); replace a3 := qbl_ a3 hb; replace HB := hs_ hb; clear hb hg; obtain ⟨g0, g1⟩ := nn_ a8; obtain ⟨e2, e3, e4, e5⟩ := bc2_ a6; obtain ⟨g3, e6, f4⟩ := Kd.R_slice a5.out; subst f4; have p466 := dp_ (((rd_T43 a2 x15_1).f0)); have q466 := dl_ ((rd_T43 a2 x15_1).f0) a7.length; obtain ⟨ad466, e466, a4⟩ := Kd.at_int (Kd.R_reads' a5.out).2.2 ((rd_T43 a2 x15_1).f0) p466 q466; cases e466; have hn466_0 : ad466.block ≠ a0 := Kd.own_blk (Kd.R_ne a5.out a6.out (by decide)); have hn466_1 : ad466.block ≠ a0 := Kd.own_blk (Kd.R_ne a5.out a6.out (by decide)); replace a4 := (cell_far (p := ⟨a0, 0, none⟩) (by first | (rw [add_block]; exact hn466_0) | (show (Addr.add _ _).block ≠ _; rw [add_block]; exact hn466_0) | exact hn466_0) (.int .i64 ((rd_T43 a2 x15_1).f0))).trans a4; replace a4 := (cell_far (p := ⟨a0, 1, none⟩) (by first | (rw [add_block]; exact hn466_1) | (show (Addr.add _ _).block ≠ _; rw [add_block]; exact hn466_1) | exact hn466_1) (.int .i64 ((rd_T43 a2 x15_1).f1))).trans a4; (try have hy466_0 := fun (n_ : Nat) => (show ((((w25.drewN n_).setCell ⟨a0, 0, none⟩ (.int .i64 ((rd_T43 a2 x15_1).f0))).setCell ⟨a0, 1, none⟩ (.int .i64 ((rd_T43 a2 x15_1).f1)))).cell? _ = some _ from a4)); clear hn466_0; clear hn466_1; replace p466 := eq_true p466; replace q466 := eq_true q466) | (go_at_call 114; (with_reducible refine (impl_sizes.calls k1 _ _ a7 (rd a7 ((rd_T43 a2 x15_1).f0)) b4 _ ?side1 ?side2 A16.out).mono ?_); (case side1 => refine (Kd.R_reads' (e := 3) (base := w.heap.size) (ok := fun k_ => True) (n := a7.length) (c := e6) ?_).2.2; exact (by (with_reducible repeat (first | apply Kd.R_alloc | apply Kd.R_drewN | apply Kd.R_drew)); exact (Kd.R_mono (Kd.R_far (p := ⟨a0, 1, none⟩) (Kd.R_far (p := ⟨a0, 0, none⟩) (Kd.R_types a5.out a6.out (by decide)) (fun _ hk => hk.2) (.int .i64 ((rd_T43 a2 x15_1).f0))) (fun _ hk => hk.2) (.int .i64 ((rd_T43 a2 x15_1).f1))) (fun _ h_ => h_.1)))); (case side2 => exact (Kd.R_reads' a5.out).2.1); rintro e w' ⟨rfl, ⟨nd, rfl⟩⟩; (try first | exact ⟨rfl, _, World.drewN_drewN _ _ _⟩ | exact ⟨rfl, _, Eq.trans (World.drewN_drewN _ _ _) (congrArg (World.drewN _) (Nat.add_assoc _ _ _))⟩); obtain ⟨c3, c4, c5, c7⟩ := bc2_ a3)))
   go_roundg k1
   case measure => have := HK1.out; omega
   case rel => exact ⟨(wrap64 (x15_1 + 1)), qe_, H', ⟨by have := HK1.out; omega⟩, ⟨by (with_reducible repeat (first | apply Kd.R_alloc | apply Kd.R_drewN | apply Kd.R_drew)); exact Kd.R_mono (Kd.R_far (p := ⟨a0, 1, none⟩) (Kd.R_far (p := ⟨a0, 0, none⟩) (Kd.R_types a5.out a6.out (by decide)) (fun _ hk => hk.2) (.int .i64 ((rd_T43 a2 x15_1).f0))) (fun _ hk => hk.2) (.int .i64 ((rd_T43 a2 x15_1).f1))) (fun _ hk => trivial)⟩, ⟨by (with_reducible repeat (first | apply Kd.R_alloc | apply Kd.R_drewN | apply Kd.R_drew)); exact Kd.R_mono (Kd.R_far (p := ⟨a0, 1, none⟩) (Kd.R_far (p := ⟨a0, 0, none⟩) (Kd.R_mono a9.out (fun k_ hk => (⟨hk, hk.2⟩ : _ ∧ k_ ≠ a0))) (fun _ hk => hk.2) (.int .i64 ((rd_T43 a2 x15_1).f0))) (fun _ hk => hk.2) (.int .i64 ((rd_T43 a2 x15_1).f1))) (fun _ hk => trivial)⟩, ⟨qf_ a3⟩, ⟨qB_⟩⟩
end Go.Proofs.Ytbkklafkoegdpaa.QFnExactWebAdd
