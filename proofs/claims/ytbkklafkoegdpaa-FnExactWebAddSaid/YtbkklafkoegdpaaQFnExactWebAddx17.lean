import Derived.Test.YtbkklafkoegdpaaQFnExactWebAddx16
namespace Go.Proofs.Ytbkklafkoegdpaa.QFnExactWebAdd
open Go.RowKit Go.Proofs.YtbkklafkoegdpaaW.PrintWords Go.Proofs.YtbkklafkoegdpaaW.PrintLast Go.Proofs.YtbkklafkoegdpaaW.PrintMore
set_option maxHeartbeats 8000000
set_option maxRecDepth 100000
set_option linter.unusedVariables false
set_option linter.unusedSimpArgs false
def impl_edgesOk.l0 : Nat → Int → List (S43) → List (S43) → Int → Int → Option (Bool)
  | 0, _, _, _, _, _ => none
  | k + 1, x0, x1, x7, x8, x9 => if x9 < x8 then (if 0 ≤ x9 then (if x9 < (x7.length : Int) then ((impl_EdgeOk.f x0 ((rd_T43 x7 x9).f0) ((rd_T43 x7 x9).f1)).bind fun t405 => (if t405 = true then (if x9 > 0 then (if 0 ≤ (wrap64 (x9 - 1)) then (if (wrap64 (x9 - 1)) < (x1.length : Int) then ((impl_ahead.f ((rd_T43 x1 (wrap64 (x9 - 1))).f0) ((rd_T43 x1 (wrap64 (x9 - 1))).f1) ((rd_T43 x7 x9).f0) ((rd_T43 x7 x9).f1)).bind fun t407 => (if t407 = true then (impl_edgesOk.l0 k x0 x1 x7 x8 (wrap64 (x9 + 1))) else (some false))) else (none)) else (none)) else (impl_edgesOk.l0 k x0 x1 x7 x8 (wrap64 (x9 + 1)))) else (some false))) else (none)) else (none)) else (some (decide ((x1.length : Int) ≤ 66)))
def impl_edgesOk.f (k : Nat) (a0 : Int) (l1 : List (S43)) : Option (Bool) := impl_edgesOk.l0 k a0 l1 l1 (l1.length : Int) 0
theorem impl_edgesOk.mono_l : ∀ k, (∀ y0 y1 y2 y3 y4, LeO (impl_edgesOk.l0 k y0 y1 y2 y3 y4) (impl_edgesOk.l0 (k + 1) y0 y1 y2 y3 y4))
  | 0 => fun _ _ _ _ _ r h => by simp [impl_edgesOk.l0] at h
  | k + 1 => by
    have ih0 := impl_edgesOk.mono_l k
    · intro y0 y1 y2 y3 y4
      unfold impl_edgesOk.l0
      exact lo_
theorem impl_edgesOk.mono : ∀ a0 a1 k, LeO (impl_edgesOk.f k a0 a1) (impl_edgesOk.f (k + 1) a0 a1) := by
  intro a0 a1 k
  have ih0 := impl_edgesOk.mono_l k
  unfold impl_edgesOk.f
  exact lo_
def impl_edgesOk.T4 : Bool × List (List Nat × List Nat) := (true, [([], []), ([], []), ([0, 1], [0, 1]), ([2], [2]), ([3, 2], [3]), ([4], [4]), ([5, 4], [4, 5]), ([6, 4, 4], [4, 6]), ([7], [7]), ([7], [7]), ([9, 7], [7, 9]), ([8, 10, 7], [7, 8, 10]), ([11, 7], [7, 11]), ([7], [7]), ([12, 13, 7, 7], [7, 12, 13]), ([14, 7], [7, 14]), ([7, 15, 4], [4, 7, 15]), ([4, 16], [4, 16])])
def impl_edgesOk.B4 : List Nat := [0, 0, 3, 7, 15, 31, 63, 127, 255, 255, 767, 2047, 4095, 255, 16383, 32767, 65535, 131071]
theorem impl_edgesOk.tab4 : rtab .any (opsOf Try.f111 4) = impl_edgesOk.T4 := by kernel_rfl
theorem impl_edgesOk.bits4 : waitsOk impl_edgesOk.T4.2 impl_edgesOk.B4 = true := by kernel_rfl
theorem impl_edgesOk.calls (k : Nat) (a0 : Int) (A1 : Option Addr) (c1 : Nat) (l1 : List (S43)) (r : Bool) (w : World) (hr1 : Kd.C k43 w A1 l1.length l1) (hc1 : l1.length ≤ c1) (h : impl_edgesOk.f k a0 l1 = some r) :
  Calls Try.prog 111 #[.int .i64 a0, .slice A1 l1.length c1] w fun e w' => e = .returned (.bool r) ∧ Below w.heap.size w w' := by
 have hu43 := Try.underlying43
 have b1 := am_ hr1
 have d7 := am_ hc1
 clear hr1 hc1
 have HB := am_ (Below.refl w.heap.size w)
 rw [impl_edgesOk.f] at h; have H := h; clear h; have H' := am_ H; clear H
 go_enter Try.func111, Try.ntmps111
 go_wp2
 go_loopg [9] k (fun kq v9 w' => ∃ (x9_1 : Int), v9 = .int .i64 x9_1 ∧ Aside0 (impl_edgesOk.l0 kq a0 l1 l1 (l1.length : Int) x9_1 = some r) ∧ Aside0 (kq ≤ k) ∧ Aside0 (Below w.heap.size w w'))
 case atStart => exact ⟨(0), qe_, H', ⟨Nat.le_refl _⟩, ⟨qB_⟩⟩
 case round =>
  clear H'
  (try clear c1); (try clear p2)
  obtain ⟨x9_1, rfl, HA, HK1, HB⟩ := hrel
  cases gk with
  | zero => exact absurd HA.out (by simp [impl_edgesOk.l0])
  | succ k1 =>
   have H := HA.out; clear HA
   simp only [impl_edgesOk.l0] at H
   refine ib_ H ?_ ?_ <;> clear H <;> intro c3b0 H
   ·obtain rfl := oi_ H
    go_wp2
    go_ret
    exact ⟨qr_, qB_⟩
   refine ig_ H ?_; clear H; intro c4b0 H
   refine ig_ H ?_; clear H; intro c5b0 H
   obtain ⟨d5, A6, H⟩ := bs_ H
   refine id_ H ?_ ?_ <;> clear H <;> rintro rfl H
   ·obtain rfl := oi_ H
    have p403 := dp_ x9_1
    have q403 := dl_ x9_1 l1.length
    obtain ⟨ad403, e403, a3, a4⟩ := at_T43 b1.out x9_1 p403 q403
    cases e403
    replace a3 := qx_ HB a3
    replace a4 := qx_ HB a4
    replace p403 := eq_true p403; replace q403 := eq_true q403
    try go_wp2_with (first | ((with_reducible refine gd_ 6 ?_); refine by_ 6 (cs := #[.int .i64 0, .int .i64 0]) (t := 43) ?_; intro a2 hg w31 a1 hb; have a9 := gw_ hg; replace HB := hs_ hb; clear hb hg; obtain ⟨b3, b4, b5, b6⟩ := bc2_ a1))
    have n0_ : Aside0 (((w31.setCell ⟨a2, 0, none⟩ (.int .i64 ((rd_T43 l1 x9_1).f0))).setCell ⟨a2, 1, none⟩ (.int .i64 ((rd_T43 l1 x9_1).f1))).heap[a2]? = some (.cells #[.int .i64 ((rd_T43 l1 x9_1).f0), .int .i64 ((rd_T43 l1 x9_1).f1)] 43 (0, 0))) := ⟨by (with_reducible repeat (first | refine blk_drewN ?_ _ | refine blk_drew ?_ | refine blk_alloc ?_ _)); refine blk_put (cs := #[.int .i64 ((rd_T43 l1 x9_1).f0), .int .i64 0]) ?_ 1 _ rfl; (with_reducible repeat (first | refine blk_drewN ?_ _ | refine blk_drew ?_ | refine blk_alloc ?_ _)); refine blk_put (cs := #[.int .i64 0, .int .i64 0]) ?_ 0 _ rfl; exact qf_ a1⟩
    have n1_ : Aside0 (Below w.heap.size w ((w31.setCell ⟨a2, 0, none⟩ (.int .i64 ((rd_T43 l1 x9_1).f0))).setCell ⟨a2, 1, none⟩ (.int .i64 ((rd_T43 l1 x9_1).f1)))) := ⟨qB_⟩
    (try clear a1); (try clear HB)
    generalize ((w31.setCell ⟨a2, 0, none⟩ (.int .i64 ((rd_T43 l1 x9_1).f0))).setCell ⟨a2, 1, none⟩ (.int .i64 ((rd_T43 l1 x9_1).f1))) = w33 at n0_ n1_ ⊢
    have a1 := n0_; have HB := n1_; clear n0_ n1_
    replace a1 := am_ (blk_drew a1.out); replace HB := am_ (below_drew1 HB.out)
    refine start_ (n := 18) (S := fun w' => w'.cell? ⟨a2, 0, none⟩ = some (.int .i64 ((rd_T43 l1 x9_1).f0)) ∧ w'.cell? ⟨a2, 1, none⟩ = some (.int .i64 ((rd_T43 l1 x9_1).f1))) (ds := []) (bm 18 0) (by kernel_rfl) rfl (by kernel_rfl) ⟨bl_ a1 0, bl_ a1 1⟩ (fun hHeld => ?_); refine with_tabW impl_edgesOk.tab4 impl_edgesOk.bits4 (fun HT_ HW_ => ?_)
    generalize w33.drew = w34 at a1 HB hHeld ⊢
    refine pz_ 0 14 18 1 ?_; refine tz2_ 1 15 18 3 ?_
    refine o1_ 2 (some 16) 18 7 (fun K hK => ?_)
    refine gs_ Try.func76 #[.int .i64 a0, .agg #[.int .i64 ((rd_T43 l1 x9_1).f0), .int .i64 ((rd_T43 l1 x9_1).f1)]] ?_
    with_reducible refine (impl_EdgeOk.calls a0 ((rd_T43 l1 x9_1).f0) ((rd_T43 l1 x9_1).f1) false _ A6.out).mono ?_
    rintro e w35 ⟨rfl, hb⟩
    refine ⟨_, rfl, ?_⟩
    replace a1 := qbl_ a1 hb; replace HB := hs_ hb; (try clear hb); (try clear hb2); (try clear hk); (try clear hi)
    refine hK.out _ _ ⟨bl_ a1 0, bl_ a1 1⟩ (fun hHeld => ?_)
    clear hK K
    refine nm_ 16 ?_
    refine pz_ 3 17 18 15 ?_; refine pz_ 4 18 18 31 ?_
    refine pu_ 5 19 18 63 ?_
    refine pu_ 6 20 18 127 ?_
    refine pu_ 7 21 18 255 ?_
    refine pu_ 8 22 18 511 ?_
    refine pu_ 9 23 18 1023 ?_
    refine pu_ 10 24 18 2047 ?_
    refine pu_ 11 25 18 4095 ?_
    refine pu_ 12 26 18 8191 ?_
    refine pu_ 13 27 18 16383 ?_
    refine pu_ 14 28 18 32767 ?_
    refine pu_ 15 29 18 65535 ?_
    refine pu_ 16 30 18 131071 ?_
    refine pz_ 17 31 18 262143 ?_
    refine done_ (done_of HT_.out (by kernel_rfl)) ?_
    try go_wp2
    go_ret
    exact ⟨qr_, qB_⟩
   refine jb_ H ?_ ?_ <;> clear H <;> intro c8 H
   ·have c8b0 : decide (0 < x9_1) = false := decide_eq_false c8
    clear c8; have H' := am_ H; clear H
    have p403 := dp_ x9_1
    have q403 := dl_ x9_1 l1.length
    obtain ⟨ad403, e403, a3, a4⟩ := at_T43 b1.out x9_1 p403 q403
    cases e403
    replace a3 := qx_ HB a3
    replace a4 := qx_ HB a4
    replace p403 := eq_true p403; replace q403 := eq_true q403
    try go_wp2_with (first | ((with_reducible refine gd_ 6 ?_); refine by_ 6 (cs := #[.int .i64 0, .int .i64 0]) (t := 43) ?_; intro a2 hg w26 a1 hb; have a9 := gw_ hg; replace HB := hs_ hb; clear hb hg; obtain ⟨b7, b8, b9, c0⟩ := bc2_ a1))
    have n0_ : Aside0 (((w26.setCell ⟨a2, 0, none⟩ (.int .i64 ((rd_T43 l1 x9_1).f0))).setCell ⟨a2, 1, none⟩ (.int .i64 ((rd_T43 l1 x9_1).f1))).heap[a2]? = some (.cells #[.int .i64 ((rd_T43 l1 x9_1).f0), .int .i64 ((rd_T43 l1 x9_1).f1)] 43 (0, 0))) := ⟨by (with_reducible repeat (first | refine blk_drewN ?_ _ | refine blk_drew ?_ | refine blk_alloc ?_ _)); refine blk_put (cs := #[.int .i64 ((rd_T43 l1 x9_1).f0), .int .i64 0]) ?_ 1 _ rfl; (with_reducible repeat (first | refine blk_drewN ?_ _ | refine blk_drew ?_ | refine blk_alloc ?_ _)); refine blk_put (cs := #[.int .i64 0, .int .i64 0]) ?_ 0 _ rfl; exact qf_ a1⟩
    have n1_ : Aside0 (Below w.heap.size w ((w26.setCell ⟨a2, 0, none⟩ (.int .i64 ((rd_T43 l1 x9_1).f0))).setCell ⟨a2, 1, none⟩ (.int .i64 ((rd_T43 l1 x9_1).f1)))) := ⟨qB_⟩
    (try clear a1); (try clear HB)
    generalize ((w26.setCell ⟨a2, 0, none⟩ (.int .i64 ((rd_T43 l1 x9_1).f0))).setCell ⟨a2, 1, none⟩ (.int .i64 ((rd_T43 l1 x9_1).f1))) = w28 at n0_ n1_ ⊢
    have a1 := n0_; have HB := n1_; clear n0_ n1_
    replace a1 := am_ (blk_drew a1.out); replace HB := am_ (below_drew1 HB.out)
    refine start_ (n := 18) (S := fun w' => w'.cell? ⟨a2, 0, none⟩ = some (.int .i64 ((rd_T43 l1 x9_1).f0)) ∧ w'.cell? ⟨a2, 1, none⟩ = some (.int .i64 ((rd_T43 l1 x9_1).f1))) (ds := []) (bm 18 0) (by kernel_rfl) rfl (by kernel_rfl) ⟨bl_ a1 0, bl_ a1 1⟩ (fun hHeld => ?_); refine with_tabW impl_edgesOk.tab4 impl_edgesOk.bits4 (fun HT_ HW_ => ?_)
    generalize w28.drew = w29 at a1 HB hHeld ⊢
    refine pz_ 0 14 18 1 ?_; refine tz2_ 1 15 18 3 ?_
    refine o1_ 2 (some 16) 18 7 (fun K hK => ?_)
    refine gs_ Try.func76 #[.int .i64 a0, .agg #[.int .i64 ((rd_T43 l1 x9_1).f0), .int .i64 ((rd_T43 l1 x9_1).f1)]] ?_
    with_reducible refine (impl_EdgeOk.calls a0 ((rd_T43 l1 x9_1).f0) ((rd_T43 l1 x9_1).f1) true _ A6.out).mono ?_
    rintro e w30 ⟨rfl, hb⟩
    refine ⟨_, rfl, ?_⟩
    replace a1 := qbl_ a1 hb; replace HB := hs_ hb; (try clear hb); (try clear hb2); (try clear hk); (try clear hi)
    refine hK.out _ _ ⟨bl_ a1 0, bl_ a1 1⟩ (fun hHeld => ?_)
    clear hK K
    refine nm_ 16 ?_
    refine pz_ 3 17 18 15 ?_; refine pz_ 4 18 18 31 ?_; refine pz_ 5 19 18 63 ?_; refine pz_ 6 20 18 127 ?_; refine pz_ 7 21 18 255 ?_
    refine pu_ 8 22 18 511 ?_
    refine pu_ 9 23 18 1023 ?_
    refine pu_ 10 24 18 2047 ?_
    refine pu_ 11 25 18 4095 ?_
    refine pu_ 12 26 18 8191 ?_
    refine pu_ 13 27 18 16383 ?_
    refine pu_ 14 28 18 32767 ?_
    refine pu_ 15 29 18 65535 ?_
    refine pz_ 16 30 18 131071 ?_; refine pz_ 17 31 18 262143 ?_
    refine done_ (done_of HT_.out (by kernel_rfl)) ?_
    try go_wp2
    go_roundg k1
    case measure => have := HK1.out; omega
    case rel => exact ⟨(wrap64 (x9_1 + 1)), qe_, H', ⟨by have := HK1.out; omega⟩, ⟨qB_⟩⟩
   have c8b0 : decide (0 < x9_1) = true := decide_eq_true c8
   clear c8
   obtain ⟨ji9, hji9⟩ : ∃ j_ : Int, (wrap64 (x9_1 - 1)) = j_ := ⟨_, rfl⟩
   first | rw [hji9] at H | simp only [hji9] at H
   (try rw [hji9] at A6)
   have hji9w : (IntKind.i64.wrap (x9_1 - 1)) = ji9 := (i64_w _).trans hji9
   refine ig_ H ?_; clear H; intro c10b0 H
   refine ig_ H ?_; clear H; intro c11b0 H
   obtain ⟨d6, A12, H⟩ := bs_ H
   refine ie_ H ?_ ?_ <;> clear H <;> rintro rfl H
   ·have H' := am_ H; clear H
    have p403 := dp_ x9_1
    have q403 := dl_ x9_1 l1.length
    obtain ⟨ad403, e403, a3, a4⟩ := at_T43 b1.out x9_1 p403 q403
    cases e403
    replace a3 := qx_ HB a3
    replace a4 := qx_ HB a4
    replace p403 := eq_true p403; replace q403 := eq_true q403
    try go_wp2_with (first | ((with_reducible refine gd_ 6 ?_); refine by_ 6 (cs := #[.int .i64 0, .int .i64 0]) (t := 43) ?_; intro a2 hg w14 a1 hb; have a9 := gw_ hg; replace HB := hs_ hb; clear hb hg; obtain ⟨c2, c6, c9, d0⟩ := bc2_ a1))
    have n0_ : Aside0 (((w14.setCell ⟨a2, 0, none⟩ (.int .i64 ((rd_T43 l1 x9_1).f0))).setCell ⟨a2, 1, none⟩ (.int .i64 ((rd_T43 l1 x9_1).f1))).heap[a2]? = some (.cells #[.int .i64 ((rd_T43 l1 x9_1).f0), .int .i64 ((rd_T43 l1 x9_1).f1)] 43 (0, 0))) := ⟨by (with_reducible repeat (first | refine blk_drewN ?_ _ | refine blk_drew ?_ | refine blk_alloc ?_ _)); refine blk_put (cs := #[.int .i64 ((rd_T43 l1 x9_1).f0), .int .i64 0]) ?_ 1 _ rfl; (with_reducible repeat (first | refine blk_drewN ?_ _ | refine blk_drew ?_ | refine blk_alloc ?_ _)); refine blk_put (cs := #[.int .i64 0, .int .i64 0]) ?_ 0 _ rfl; exact qf_ a1⟩
    have n1_ : Aside0 (Below w.heap.size w ((w14.setCell ⟨a2, 0, none⟩ (.int .i64 ((rd_T43 l1 x9_1).f0))).setCell ⟨a2, 1, none⟩ (.int .i64 ((rd_T43 l1 x9_1).f1)))) := ⟨qB_⟩
    (try clear a1); (try clear HB)
    generalize ((w14.setCell ⟨a2, 0, none⟩ (.int .i64 ((rd_T43 l1 x9_1).f0))).setCell ⟨a2, 1, none⟩ (.int .i64 ((rd_T43 l1 x9_1).f1))) = w16 at n0_ n1_ ⊢
    have a1 := n0_; have HB := n1_; clear n0_ n1_
    replace a1 := am_ (blk_drew a1.out); replace HB := am_ (below_drew1 HB.out)
    have p406 := dp_ ((ji9))
    have q406 := dl_ (ji9) l1.length
    obtain ⟨ad406, e406, a5, a6⟩ := at_T43 b1.out (ji9) p406 q406
    have a7 := a6; have a8 := a5
    obtain rfl : ad403 = ad406 := (by injection e406)
    replace a5 := qx_ HB a5
    replace a6 := qx_ HB a6
    replace p406 := eq_true p406; replace q406 := eq_true q406
    refine start_ (n := 18) (S := fun w' => w'.cell? ⟨a2, 0, none⟩ = some (.int .i64 ((rd_T43 l1 x9_1).f0)) ∧ w'.cell? ⟨a2, 1, none⟩ = some (.int .i64 ((rd_T43 l1 x9_1).f1)) ∧ w'.cell? (ad403.add (((ji9)).toNat * 2)) = some (.int .i64 ((rd_T43 l1 (ji9)).f0)) ∧ w'.cell? ⟨(ad403.add (((ji9)).toNat * 2)).block, (ad403.add (((ji9)).toNat * 2)).off + 1, none⟩ = some (.int .i64 ((rd_T43 l1 (ji9)).f1))) (ds := []) (bm 18 0) (by kernel_rfl) rfl (by kernel_rfl) ⟨bl_ a1 0, bl_ a1 1, ((qx_ HB a8).trans rfl), ((qx_ HB a7).trans rfl)⟩ (fun hHeld => ?_); refine with_tabW impl_edgesOk.tab4 impl_edgesOk.bits4 (fun HT_ HW_ => ?_)
    generalize w16.drew = w17 at a1 HB a5 a6 hHeld ⊢
    refine pz_ 0 14 18 1 ?_; refine tz4_ 1 15 18 3 ?_
    refine o1_ 2 (some 16) 18 7 (fun K hK => ?_)
    refine gs_ Try.func76 #[.int .i64 a0, .agg #[.int .i64 ((rd_T43 l1 x9_1).f0), .int .i64 ((rd_T43 l1 x9_1).f1)]] ?_
    with_reducible refine (impl_EdgeOk.calls a0 ((rd_T43 l1 x9_1).f0) ((rd_T43 l1 x9_1).f1) true _ A6.out).mono ?_
    rintro e w18 ⟨rfl, hb⟩
    refine ⟨_, rfl, ?_⟩
    replace a1 := qbl_ a1 hb; replace HB := hs_ hb; (try clear hb); (try clear hb2); (try clear hk); (try clear hi)
    refine hK.out _ _ ⟨bl_ a1 0, bl_ a1 1, ((qx_ HB a8).trans rfl), ((qx_ HB a7).trans rfl)⟩ (fun hHeld => ?_)
    clear hK K
    refine nm_ 16 ?_
    refine pz_ 3 17 18 15 ?_; refine pz_ 4 18 18 31 ?_; refine pz_ 5 19 18 63 ?_; refine pz_ 6 20 18 127 ?_; refine pz_ 7 21 18 255 ?_; refine pz_ 8 22 18 511 ?_; refine pz_ 9 23 18 1023 ?_; refine pz_ 10 24 18 2047 ?_; refine pz_ 11 25 18 4095 ?_; refine tz4_ 12 26 18 8191 ?_; refine tz4_ 13 27 18 16383 ?_
    refine o1_ 14 (some 28) 18 32767 (fun K hK => ?_)
    refine goes_ Try.func90 (by kernel_rfl) rfl #[.agg #[.int .i64 ((rd_T43 l1 (ji9)).f0), .int .i64 ((rd_T43 l1 (ji9)).f1)], .agg #[.int .i64 ((rd_T43 l1 x9_1).f0), .int .i64 ((rd_T43 l1 x9_1).f1)]] (by rfl) rfl rfl (by (try simp only [List.map_toArray, List.map_cons, List.map_nil]); first | done | (simp only [hji9]; rfl) | rfl | (simp only [List.length_drop, List.length_take]; rfl)) ?_
    with_reducible refine (impl_ahead.calls ((rd_T43 l1 (ji9)).f0) ((rd_T43 l1 (ji9)).f1) ((rd_T43 l1 x9_1).f0) ((rd_T43 l1 x9_1).f1) true _ A12.out).mono ?_
    rintro e w19 ⟨rfl, hb⟩
    refine ⟨_, rfl, ?_⟩
    replace a1 := qbl_ a1 hb; replace HB := hs_ hb; (try clear hb); (try clear hb2); (try clear hk); (try clear hi)
    refine hK.out _ _ ⟨bl_ a1 0, bl_ a1 1, ((qx_ HB a8).trans rfl), ((qx_ HB a7).trans rfl)⟩ (fun hHeld => ?_)
    clear hK K
    refine nm_ 28 ?_
    refine pz_ 15 29 18 65535 ?_; refine pz_ 16 30 18 131071 ?_; refine pz_ 17 31 18 262143 ?_
    refine done_ (done_of HT_.out (by kernel_rfl)) ?_
    try go_wp2
    go_roundg k1
    case measure => have := HK1.out; omega
    case rel => exact ⟨(wrap64 (x9_1 + 1)), qe_, H', ⟨by have := HK1.out; omega⟩, ⟨qB_⟩⟩
   obtain rfl := oi_ H
   have p403 := dp_ x9_1
   have q403 := dl_ x9_1 l1.length
   obtain ⟨ad403, e403, a3, a4⟩ := at_T43 b1.out x9_1 p403 q403
   cases e403
   replace a3 := qx_ HB a3
   replace a4 := qx_ HB a4
   replace p403 := eq_true p403; replace q403 := eq_true q403
   try go_wp2_with (first | ((with_reducible refine gd_ 6 ?_); refine by_ 6 (cs := #[.int .i64 0, .int .i64 0]) (t := 43) ?_; intro a2 hg w20 a1 hb; have a9 := gw_ hg; replace HB := hs_ hb; clear hb hg; obtain ⟨d1, d2, d3, d4⟩ := bc2_ a1))
   have n0_ : Aside0 (((w20.setCell ⟨a2, 0, none⟩ (.int .i64 ((rd_T43 l1 x9_1).f0))).setCell ⟨a2, 1, none⟩ (.int .i64 ((rd_T43 l1 x9_1).f1))).heap[a2]? = some (.cells #[.int .i64 ((rd_T43 l1 x9_1).f0), .int .i64 ((rd_T43 l1 x9_1).f1)] 43 (0, 0))) := ⟨by (with_reducible repeat (first | refine blk_drewN ?_ _ | refine blk_drew ?_ | refine blk_alloc ?_ _)); refine blk_put (cs := #[.int .i64 ((rd_T43 l1 x9_1).f0), .int .i64 0]) ?_ 1 _ rfl; (with_reducible repeat (first | refine blk_drewN ?_ _ | refine blk_drew ?_ | refine blk_alloc ?_ _)); refine blk_put (cs := #[.int .i64 0, .int .i64 0]) ?_ 0 _ rfl; exact qf_ a1⟩
   have n1_ : Aside0 (Below w.heap.size w ((w20.setCell ⟨a2, 0, none⟩ (.int .i64 ((rd_T43 l1 x9_1).f0))).setCell ⟨a2, 1, none⟩ (.int .i64 ((rd_T43 l1 x9_1).f1)))) := ⟨qB_⟩
   (try clear a1); (try clear HB)
   generalize ((w20.setCell ⟨a2, 0, none⟩ (.int .i64 ((rd_T43 l1 x9_1).f0))).setCell ⟨a2, 1, none⟩ (.int .i64 ((rd_T43 l1 x9_1).f1))) = w22 at n0_ n1_ ⊢
   have a1 := n0_; have HB := n1_; clear n0_ n1_
   replace a1 := am_ (blk_drew a1.out); replace HB := am_ (below_drew1 HB.out)
   have p406 := dp_ ((ji9))
   have q406 := dl_ (ji9) l1.length
   obtain ⟨ad406, e406, a5, a6⟩ := at_T43 b1.out (ji9) p406 q406
   have a7 := a6; have a8 := a5
   obtain rfl : ad403 = ad406 := (by injection e406)
   replace a5 := qx_ HB a5
   replace a6 := qx_ HB a6
   replace p406 := eq_true p406; replace q406 := eq_true q406
   refine start_ (n := 18) (S := fun w' => w'.cell? ⟨a2, 0, none⟩ = some (.int .i64 ((rd_T43 l1 x9_1).f0)) ∧ w'.cell? ⟨a2, 1, none⟩ = some (.int .i64 ((rd_T43 l1 x9_1).f1)) ∧ w'.cell? (ad403.add (((ji9)).toNat * 2)) = some (.int .i64 ((rd_T43 l1 (ji9)).f0)) ∧ w'.cell? ⟨(ad403.add (((ji9)).toNat * 2)).block, (ad403.add (((ji9)).toNat * 2)).off + 1, none⟩ = some (.int .i64 ((rd_T43 l1 (ji9)).f1))) (ds := []) (bm 18 0) (by kernel_rfl) rfl (by kernel_rfl) ⟨bl_ a1 0, bl_ a1 1, ((qx_ HB a8).trans rfl), ((qx_ HB a7).trans rfl)⟩ (fun hHeld => ?_); refine with_tabW impl_edgesOk.tab4 impl_edgesOk.bits4 (fun HT_ HW_ => ?_)
   generalize w22.drew = w23 at a1 HB a5 a6 hHeld ⊢
   refine pz_ 0 14 18 1 ?_; refine tz4_ 1 15 18 3 ?_
   refine o1_ 2 (some 16) 18 7 (fun K hK => ?_)
   refine gs_ Try.func76 #[.int .i64 a0, .agg #[.int .i64 ((rd_T43 l1 x9_1).f0), .int .i64 ((rd_T43 l1 x9_1).f1)]] ?_
   with_reducible refine (impl_EdgeOk.calls a0 ((rd_T43 l1 x9_1).f0) ((rd_T43 l1 x9_1).f1) true _ A6.out).mono ?_
   rintro e w24 ⟨rfl, hb⟩
   refine ⟨_, rfl, ?_⟩
   replace a1 := qbl_ a1 hb; replace HB := hs_ hb; (try clear hb); (try clear hb2); (try clear hk); (try clear hi)
   refine hK.out _ _ ⟨bl_ a1 0, bl_ a1 1, ((qx_ HB a8).trans rfl), ((qx_ HB a7).trans rfl)⟩ (fun hHeld => ?_)
   clear hK K
   refine nm_ 16 ?_
   refine pz_ 3 17 18 15 ?_; refine pz_ 4 18 18 31 ?_; refine pz_ 5 19 18 63 ?_; refine pz_ 6 20 18 127 ?_; refine pz_ 7 21 18 255 ?_; refine pz_ 8 22 18 511 ?_; refine pz_ 9 23 18 1023 ?_; refine pz_ 10 24 18 2047 ?_; refine pz_ 11 25 18 4095 ?_; refine tz4_ 12 26 18 8191 ?_; refine tz4_ 13 27 18 16383 ?_
   refine o1_ 14 (some 28) 18 32767 (fun K hK => ?_)
   refine goes_ Try.func90 (by kernel_rfl) rfl #[.agg #[.int .i64 ((rd_T43 l1 (ji9)).f0), .int .i64 ((rd_T43 l1 (ji9)).f1)], .agg #[.int .i64 ((rd_T43 l1 x9_1).f0), .int .i64 ((rd_T43 l1 x9_1).f1)]] (by rfl) rfl rfl (by (try simp only [List.map_toArray, List.map_cons, List.map_nil]); first | done | (simp only [hji9]; rfl) | rfl | (simp only [List.length_drop, List.length_take]; rfl)) ?_
   with_reducible refine (impl_ahead.calls ((rd_T43 l1 (ji9)).f0) ((rd_T43 l1 (ji9)).f1) ((rd_T43 l1 x9_1).f0) ((rd_T43 l1 x9_1).f1) false _ A12.out).mono ?_
   rintro e w25 ⟨rfl, hb⟩
   refine ⟨_, rfl, ?_⟩
   replace a1 := qbl_ a1 hb; replace HB := hs_ hb; (try clear hb); (try clear hb2); (try clear hk); (try clear hi)
   refine hK.out _ _ ⟨bl_ a1 0, bl_ a1 1, ((qx_ HB a8).trans rfl), ((qx_ HB a7).trans rfl)⟩ (fun hHeld => ?_)
   clear hK K
   refine nm_ 28 ?_
   refine pz_ 15 29 18 65535 ?_; refine pz_ 16 30 18 131071 ?_; refine pz_ 17 31 18 262143 ?_
   refine done_ (done_of HT_.out (by kernel_rfl)) ?_
   try go_wp2
   go_ret
   exact ⟨by first | rfl | (simp [errW_none, errW_some] <;> rfl) | (simp only [← hji9]; first | rfl | (simp [errW_none, errW_some] <;> rfl)) | (simp [*, errW_none, errW_some] <;> rfl), qB_⟩
end Go.Proofs.Ytbkklafkoegdpaa.QFnExactWebAdd
