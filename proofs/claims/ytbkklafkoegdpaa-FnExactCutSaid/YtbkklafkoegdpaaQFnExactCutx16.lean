import Derived.Test.YtbkklafkoegdpaaQFnExactCutx12
import Derived.Test.YtbkklafkoegdpaaQFnExactCutx13
import Derived.Test.YtbkklafkoegdpaaQFnExactCutx14
import Derived.Test.YtbkklafkoegdpaaQFnExactCutx15
namespace Go.Proofs.Ytbkklafkoegdpaa.QFnExactCut
open Go.RowKit Go.Proofs.YtbkklafkoegdpaaW.PrintWords Go.Proofs.YtbkklafkoegdpaaW.PrintLast Go.Proofs.YtbkklafkoegdpaaW.PrintMore
set_option linter.unusedVariables false
set_option linter.unusedSimpArgs false
def impl_Cut.j0 : Nat → Bool → Int → List (List Int) → Int → Int → Option (Int × (List (List Int)) × Bool)
  | 0, _, _, _, _, _ => none
  | k + 1, x20, x468000, x468001, x469000, x469001 => if x20 = true then (some (0, ([] : List (List Int)), false)) else ((impl_TreeOf.f k x468000 x468001 x469000).bind fun t472 => (if 0 ≤ t472 then (if t472 < (x468001.length : Int) then ((impl_SplitTour.f k (rd_L1 x468001 t472) x469000 x469001).bind fun bt474 => (if bt474.2.2 = true then ((impl_without.f k x468000 x468001 t472 t472).bind fun bt481 => ((impl_putTour.f k bt481.2 bt474.1).bind fun t486 => ((impl_putTour.f k t486 bt474.2.1).bind fun t489 => (some (bt481.1, t489, true))))) else (some (0, ([] : List (List Int)), false)))) else (none)) else (none)))
def impl_Cut.f (k : Nat) (a0_0 : Int) (l0_1 : List (List Int)) (a1_0 : Int) (a1_1 : Int) : Option (Int × (List (List Int)) × Bool) := (impl_ForestOk.f k a0_0 l0_1).bind fun t470 => (if t470 = true then ((impl_EdgeOk.f a0_0 a1_0 a1_1).bind fun t471 => (impl_Cut.j0 k (!t471) a0_0 l0_1 a1_0 a1_1)) else (impl_Cut.j0 k true a0_0 l0_1 a1_0 a1_1))
theorem impl_Cut.mono_l : ∀ k, (∀ y0 y1 y2 y3 y4, LeO (impl_Cut.j0 k y0 y1 y2 y3 y4) (impl_Cut.j0 (k + 1) y0 y1 y2 y3 y4))
  | 0 => fun _ _ _ _ _ r h => by simp [impl_Cut.j0] at h
  | k + 1 => by
    have ih0 := impl_Cut.mono_l k
    · intro y0 y1 y2 y3 y4
      unfold impl_Cut.j0
      repeat' first | (with_reducible first | exact ih0 _ _ _ _ _ | exact impl_ForestOk.mono _ _ _ | exact impl_SplitTour.mono _ _ _ _ | exact impl_TreeOf.mono _ _ _ _ | exact impl_putTour.mono _ _ _ | exact impl_without.mono _ _ _ _ _ | exact LeO.refl _ | exact LeO.none _ | refine LeO.ite ?_ ?_ | refine LeO.bind ?_ (fun _ => ?_)) | exact LeO.none _ | refine LeO.ite ?_ ?_ | refine LeO.bind ?_ (fun _ => ?_)
theorem impl_Cut.mono : ∀ a0 a1 a2 a3 k, LeO (impl_Cut.f k a0 a1 a2 a3) (impl_Cut.f (k + 1) a0 a1 a2 a3) := by
  intro a0 a1 a2 a3 k
  have ih0 := impl_Cut.mono_l k
  unfold impl_Cut.f
  repeat' first | (with_reducible first | exact ih0 _ _ _ _ _ | exact impl_ForestOk.mono _ _ _ | exact impl_SplitTour.mono _ _ _ _ | exact impl_TreeOf.mono _ _ _ _ | exact impl_putTour.mono _ _ _ | exact impl_without.mono _ _ _ _ _ | exact LeO.refl _ | exact LeO.none _ | refine LeO.ite ?_ ?_ | refine LeO.bind ?_ (fun _ => ?_)) | exact LeO.none _ | refine LeO.ite ?_ ?_ | refine LeO.bind ?_ (fun _ => ?_)
def impl_Cut.T4 : Bool × List (List Nat × List Nat) := (true, [([], []), ([0], [0]), ([], []), ([1, 2], [1, 2]), ([3], [3]), ([], []), ([5], [5]), ([], []), ([7], [7]), ([4, 6, 8], [4, 6, 8]), ([9], [9]), ([10], [10]), ([10], [10]), ([10], [10]), ([11, 9, 0, 1, 2, 3, 4, 5, 6, 7, 8, 9, 10, 11], [11]), ([12, 14, 0, 1, 2, 3, 4, 5, 6, 7, 8, 9, 10, 11, 12, 14], [12]), ([13, 15, 0, 1, 2, 3, 4, 5, 6, 7, 8, 9, 10, 11, 12, 13, 14, 15], [13])])
def impl_Cut.B4 : List Nat := [0, 1, 0, 7, 15, 0, 32, 0, 128, 511, 1023, 2047, 2047, 2047, 4095, 24575, 65535]
theorem impl_Cut.tab4 : rtab .any (opsOf Try.f22 4) = impl_Cut.T4 := by kernel_rfl
theorem impl_Cut.bits4 : waitsOk impl_Cut.T4.2 impl_Cut.B4 = true := by kernel_rfl
set_option maxHeartbeats 8000000 in
set_option maxRecDepth 100000 in
theorem impl_Cut.calls (k : Nat) (a0_0 : Int) (A0_1 : Option Addr) (c0_1 : Nat) (l0_1 : List (List Int)) (a1_0 : Int) (a1_1 : Int) (r1 : Int) (r2 : List (List Int)) (r3 : Bool) (w : World) (hr0_1 : Kd.C (Kd.slice 3 (Kd.int .i64)) w A0_1 l0_1.length l0_1) (hc0_1 : l0_1.length ≤ c0_1) (h : impl_Cut.f k a0_0 l0_1 a1_0 a1_1 = some (r1, r2, r3)) :
  Calls Try.prog 22 #[.agg #[.int .i64 a0_0, .slice A0_1 l0_1.length c0_1], .agg #[.int .i64 a1_0, .int .i64 a1_1]] w fun e w' => ∃ v1_ : Value, e = .returned (.tuple #[.agg #[.int .i64 r1, v1_], .bool r3]) ∧ Kd.N (Kd.slice 3 (Kd.int .i64)) 51 w' w.heap.size (fun k_ => (w.heap.size ≤ k_)) v1_ r2 ∧ Below w.heap.size w w' := by
 have hu39 := Try.underlying39; have hu43 := Try.underlying43
 have HR0_1 := am_ hr0_1
 have HC0_1 := am_ hc0_1
 clear hr0_1 hc0_1
 have HB := am_ (Below.refl w.heap.size w)
 have H : ((impl_ForestOk.f k a0_0 l0_1).bind fun f6 => (if f6 = true then ((impl_EdgeOk.f a0_0 a1_0 a1_1).bind fun d7 => (impl_Cut.j0 k (!d7) a0_0 l0_1 a1_0 a1_1)) else (impl_Cut.j0 k true a0_0 l0_1 a1_0 a1_1))) = some (r1, r2, r3) := h
 clear h
 have m2 := am_ H
 clear H
 go_enter Try.func22, Try.ntmps22
 go_upto_region 1 with (first | ((with_reducible refine gate_dst (N := 2) rfl ?_); refine by_ 2 (cs := #[.int .i64 a0_0, .slice A0_1 l0_1.length c0_1]) (t := 39) ?_; intro b1 hg w4 a0 hb; have g7 := gw_ hg; have n0 := g7; replace HB := hs_ hb; clear hb hg) | ((with_reducible refine gate_dst (N := 3) rfl ?_); refine by_ 3 (cs := #[.int .i64 a1_0, .int .i64 a1_1]) (t := 43) ?_; intro b2 hg w5 a1 hb; have g8 := gw_ hg; have n1 := g8; obtain ⟨b3, g3⟩ := qn_ a0 hg; replace a0 := qbl_ a0 hb; replace HB := hs_ hb; clear hb hg) | ((with_reducible refine gate_dst (N := 4) rfl ?_); refine by_ 4 (cs := #[.int .i64 0, .slice none 0 0]) (t := 39) ?_; intro b0 hg w6 a2 hb; have g9 := gw_ hg; have n2 := g9; obtain ⟨b4, d1⟩ := qn_ a0 hg; obtain ⟨b7, d2⟩ := qn_ a1 hg; replace a0 := qbl_ a0 hb; replace a1 := qbl_ a1 hb; replace HB := hs_ hb; clear hb hg))
 (try simp only [Act.put, sA_, sB_, sC_])
 go_cut [20] (fun v20 wc => ∃ (kq : Nat) (x20_2 : Bool), v20 = .bool x20_2 ∧ Aside0 (impl_Cut.j0 kq x20_2 a0_0 l0_1 a1_0 a1_1 = some (r1, r2, r3)) ∧ Aside0 (kq ≤ k) ∧ Aside0 (wc.heap[b1]? = some (.cells #[.int .i64 a0_0, (.slice A0_1 l0_1.length c0_1)] 39 (0, 0))) ∧ Aside0 (wc.heap[b2]? = some (.cells #[.int .i64 a1_0, .int .i64 a1_1] 43 (0, 0))) ∧ Aside0 (wc.heap[b0]? = some (.cells #[.int .i64 0, (.slice none 0 0)] 39 (0, 0))) ∧ Aside0 (Below w.heap.size w wc))
 case first =>
  have H := m2.out; clear m2
  obtain ⟨f6, A70, H⟩ := Option.bind_eq_some_iff.mp H; have A7 := am_ A70; clear A70
  by_cases c8 : f6 = true
  ·subst c8
   rw [if_pos rfl] at H
   obtain ⟨d7, A90, H⟩ := Option.bind_eq_some_iff.mp H; have A9 := am_ A90; clear A90
   have H' := am_ H; clear H; obtain ⟨n3, n4⟩ := nn_ b3; obtain ⟨n5, n6⟩ := nn_ b4
   obtain ⟨d8, d9, e0, e1⟩ := bc2_ a0
   go_wp2_with (first | ((with_reducible refine gate_callee (f := 75) rfl ?_); refine gl_ (some 12) Try.func75 #[.agg #[.int .i64 a0_0, .slice A0_1 l0_1.length c0_1]] ?_; (with_reducible refine (impl_ForestOk.calls k a0_0 _ _ l0_1 true _ ?side1 ?side2 A7.out).mono ?_); (case side1 => exact qC_ HR0_1 HB); (case side2 => exact HC0_1.out); rintro e w13 ⟨rfl, hb⟩; refine ⟨_, rfl, ?_⟩; replace a0 := qbl_ a0 hb; replace a1 := qbl_ a1 hb; replace a2 := qbl_ a2 hb; replace HB := hs_ hb; (try clear hb); (try clear hb2); (try clear hk); (try clear hi); obtain ⟨e2, e3, e4, e5⟩ := bc2_ a0; obtain ⟨n7, n8⟩ := nn_ b7; obtain ⟨e6, e7, e8, e9⟩ := bc2_ a1) | (go_at_call 76; (with_reducible refine (impl_EdgeOk.calls a0_0 a1_0 a1_1 d7 _ A9.out).mono ?_); rintro e w17 ⟨rfl, hb⟩; replace a0 := qbl_ a0 hb; replace a1 := qbl_ a1 hb; replace a2 := qbl_ a2 hb; replace HB := hs_ hb; (try clear hb); (try clear hb2); (try clear hk); (try clear hi)))
   go_meet
   case rel => exact ⟨_, (!d7), qe_, H', ⟨qo_⟩, ⟨qk_ a0⟩, ⟨qk_ a1⟩, ⟨qk_ a2⟩, ⟨qB_⟩⟩
  replace c8 := Bool.eq_false_iff.mpr c8
  subst c8
  rw [if_neg ff_] at H; have H' := am_ H; clear H; obtain ⟨n9, o0⟩ := nn_ b3; obtain ⟨o1, o2⟩ := nn_ b4
  obtain ⟨f0, f1, f2, f3⟩ := bc2_ a0
  go_wp2_with (first | ((with_reducible refine gate_callee (f := 75) rfl ?_); refine gl_ (some 12) Try.func75 #[.agg #[.int .i64 a0_0, .slice A0_1 l0_1.length c0_1]] ?_; (with_reducible refine (impl_ForestOk.calls k a0_0 _ _ l0_1 false _ ?side1 ?side2 A7.out).mono ?_); (case side1 => exact qC_ HR0_1 HB); (case side2 => exact HC0_1.out); rintro e w21 ⟨rfl, hb⟩; refine ⟨_, rfl, ?_⟩; replace a0 := qbl_ a0 hb; replace a1 := qbl_ a1 hb; replace a2 := qbl_ a2 hb; replace HB := hs_ hb; (try clear hb); (try clear hb2); (try clear hk); (try clear hi)))
  go_meet
  case rel => exact ⟨_, (true), qe_, H', ⟨qo_⟩, ⟨qk_ a0⟩, ⟨qk_ a1⟩, ⟨qk_ a2⟩, ⟨qB_⟩⟩
 case rest =>
  clear m2; (try clear c1); (try clear c2); (try clear p2); (try clear c7); (try clear c8); (try clear c10); (try clear c11); (try clear c15); (try clear c18); (try clear c19); (try clear d8 d9); (try clear e2 e3); (try clear e6 e7); (try clear f0 f1); (try clear e0 e1); (try clear e4 e5); (try clear e8 e9); (try clear f2 f3)
  obtain ⟨kq, x20_2, rfl, HA, r0, a0, a1, a2, HB⟩ := hcut
  cases kq with
  | zero => exact absurd HA.out (by simp [impl_Cut.j0])
  | succ kj2 =>
   have H := HA.out; clear HA
   simp only [impl_Cut.j0] at H
   by_cases c22 : x20_2 = true
   ·subst c22
    rw [if_pos rfl] at H
    simp only [Option.some.injEq, Prod.mk.injEq] at H
    obtain ⟨rfl, rfl, rfl⟩ := H
    obtain ⟨o3, o4⟩ := nn_ d1; obtain ⟨o5, o6⟩ := nn_ d2
    obtain ⟨h7, h8, h9, i0⟩ := bc2_ a2
    go_wp2
    refine bodyPost_ret (results_ct rfl _ _ b0 39 #[.int .i64 0, .slice none 0 0] (0, 0) _ rfl (by (with_reducible repeat (first | refine blk_drewN ?_ _ | refine blk_drew ?_ | refine blk_alloc ?_ _)); refine blk_put (cs := #[.int .i64 0, .slice none 0 0]) ?_ 1 _ rfl; (with_reducible repeat (first | refine blk_drewN ?_ _ | refine blk_drew ?_ | refine blk_alloc ?_ _)); refine blk_put (cs := #[.int .i64 0, .slice none 0 0]) ?_ 0 _ rfl; exact qf_ a2) Try.underlying39 rfl (by kernel_rfl)) rfl ?_
    exact ⟨_, qr_, by first | exact Kd.S_nil _ _ _ _ _ | exact Kd.N_nil _ _ _ _ _ | exact Kd.V_nil _ _ _ _ _ | exact Kd.Q_nil _ _ _ _ _ | exact Kd.R_nil _ _ _ _ _, qB_⟩
   replace c22 := Bool.eq_false_iff.mpr c22
   subst c22
   rw [if_neg ff_] at H
   obtain ⟨a8, h0, H⟩ := Option.bind_eq_some_iff.mp H; have A26 := am_ h0; clear h0
   by_cases c27 : 0 ≤ a8
   rotate_left
   ·rw [if_neg c27] at H
    exact absurd H (by simp)
   rw [if_pos c27] at H
   have c27b0 := decide_eq_true c27
   clear c27
   by_cases c28 : a8 < (l0_1.length : Int)
   rotate_left
   ·rw [if_neg c28] at H
    exact absurd H (by simp)
   rw [if_pos c28] at H
   have c28b0 := decide_eq_true c28
   clear c28
   replace H := Option.bind_eq_some_iff.mp H
   obtain ⟨⟨c0, c3, h1⟩, h2, H⟩ := H
   replace H : (if h1 = true then ((impl_without.f kj2 a0_0 l0_1 a8 a8).bind fun f4 => ((impl_putTour.f kj2 f4.2 c0).bind fun c5 => ((impl_putTour.f kj2 c5 c3).bind fun c4 => (some (f4.1, c4, true))))) else (some (0, ([] : List (List Int)), false))) = some (r1, r2, r3) := H
   have A29 := am_ h2
   clear h2
   by_cases c30 : h1 = true
   rotate_left
   ·replace c30 := Bool.eq_false_iff.mpr c30
    subst c30
    rw [if_neg ff_] at H
    simp only [Option.some.injEq, Prod.mk.injEq] at H
    obtain ⟨rfl, rfl, rfl⟩ := H
    obtain ⟨o7, o8⟩ := nn_ b3; obtain ⟨o9, p0⟩ := nn_ b4
    obtain ⟨i1, i2, i3, i4⟩ := bc2_ a0
    obtain ⟨p1, p3⟩ := nn_ b7
    obtain ⟨i5, i6, i7, i8⟩ := bc2_ a1
    try go_wp2_with (first | ((with_reducible refine gate_callee (f := 77) rfl ?_); refine gl_ (some 25) Try.func77 #[.agg #[.int .i64 a0_0, .slice A0_1 l0_1.length c0_1], .int .i64 a1_0] ?_; (with_reducible refine (impl_TreeOf.calls kj2 a0_0 _ _ l0_1 a1_0 a8 _ ?side1 ?side2 A26.out).mono ?_); (case side1 => exact qC_ HR0_1 HB); (case side2 => exact HC0_1.out); rintro e w65 ⟨rfl, hb⟩; refine ⟨_, rfl, ?_⟩; replace a0 := qbl_ a0 hb; replace a1 := qbl_ a1 hb; replace a2 := qbl_ a2 hb; replace HB := hs_ hb; (try clear hb); (try clear hb2); (try clear hk); (try clear hi)))
    replace a0 := am_ (blk_drew a0.out); replace a1 := am_ (blk_drew a1.out); replace a2 := am_ (blk_drew a2.out); replace HB := am_ (below_drew1 HB.out)
    have p473 := dp_ a8
    have q473 := dl_ a8 l0_1.length
    obtain ⟨ad473, A473_0, c473_0, e473, a9, hl473_0, hi473_0⟩ := at_L1 HR0_1.out a8 p473 q473
    have b6 := a9; cases e473
    replace a9 := qx_ HB a9
    have HR473_0 := am_ hi473_0
    have HC473_0 := am_ hl473_0
    clear hi473_0 hl473_0; replace p473 := eq_true p473; replace q473 := eq_true q473
    refine start_ (n := 17) (S := fun w' => w'.cell? ⟨b1, 0, none⟩ = some (.int .i64 a0_0) ∧ w'.cell? ⟨b1, 1, none⟩ = some (.slice (some ad473) l0_1.length c0_1) ∧ w'.cell? ⟨b2, 0, none⟩ = some (.int .i64 a1_0) ∧ w'.cell? ⟨b2, 1, none⟩ = some (.int .i64 a1_1) ∧ w'.cell? (ad473.add (a8).toNat) = some (.slice A473_0 (rd_L1 l0_1 a8).length c473_0)) (ds := []) (bm 17 0) (by kernel_rfl) rfl (by kernel_rfl) ⟨bl_ a0 0, bl_ a0 1, bl_ a1 0, bl_ a1 1, ((qx_ HB b6).trans rfl)⟩ (fun hHeld => ?_); refine with_tabW impl_Cut.tab4 impl_Cut.bits4 (fun HT_ HW_ => ?_)
    generalize w65.drew = w66 at a0 a1 a2 HB HR473_0 a9 hHeld ⊢
    refine pz_ 0 27 (bm 17 1) ?_; refine pz_ 2 29 (bm 17 5) ?_; refine pz_ 5 32 (bm 17 37) ?_; refine pz_ 7 34 (bm 17 165) ?_; refine tz5_ 1 28 (bm 17 167) ?_; refine pz_ 3 30 (bm 17 175) ?_; refine tz5_ 4 31 (bm 17 191) ?_; refine tz5_ 6 33 (bm 17 255) ?_; refine tz5_ 8 35 (bm 17 511) ?_
    refine o1_ 9 (some 36) (bm 17 1023) (fun K hK => ?_)
    refine gs_ Try.func78 #[.slice A473_0 (rd_L1 l0_1 a8).length c473_0, .int .i64 a1_0, .int .i64 a1_1] ?_
    with_reducible refine (impl_SplitTour.calls kj2 _ _ (rd_L1 l0_1 a8) a1_0 a1_1 c0 c3 false _ ?side1 ?side2 A29.out).mono ?_
    (case side1 => exact qC_ HR473_0 HB)
    (case side2 => exact HC473_0.out)
    rintro e w67 ⟨d6, c6, rfl, ho0, ho1, hb⟩
    refine ⟨_, rfl, ?_⟩
    have a5 := am_ (Kd.R_lower (Kd.R_newM (M := fun k_ => (w.heap.size ≤ k_)) ho0 (below_size qB_) (fun k_ h_ => h_)) (below_size qB_)); have a6 := am_ (Kd.R_lower (Kd.R_newM (M := fun k_ => (w.heap.size ≤ k_)) ho1 (below_size qB_) (fun k_ h_ => h_)) (below_size qB_)); replace a0 := qbl_ a0 hb; replace a1 := qbl_ a1 hb; replace a2 := qbl_ a2 hb; replace HB := am_ (below_step qB_ hb); (try clear hb); (try clear hb2); (try clear hk); (try clear hi); (try clear ho0); (try clear ho1)
    refine hK.out _ _ ⟨bl_ a0 0, bl_ a0 1, bl_ a1 0, bl_ a1 1, ((qx_ HB b6).trans rfl)⟩ (fun hHeld => ?_)
    clear hK K
    refine nm_ 36 ?_
    refine pz_ 10 26 (bm 17 2047) ?_; refine pz_ 11 37 (bm 17 4095) ?_; refine pz_ 12 38 (bm 17 8191) ?_; refine pz_ 13 39 (bm 17 16383) ?_; refine pz_ 14 7 (bm 17 32767) ?_; refine pz_ 15 8 (bm 17 65535) ?_; refine pz_ 16 9 (bm 17 131071) ?_
    refine done_ (done_of HT_.out (by kernel_rfl)) ?_
    obtain ⟨i9, j1, j2, j3⟩ := bc2_ a2
    try go_wp2
    refine bodyPost_ret (results_ct rfl _ _ b0 39 #[.int .i64 0, .slice none 0 0] (0, 0) _ rfl (by (with_reducible repeat (first | refine blk_drewN ?_ _ | refine blk_drew ?_ | refine blk_alloc ?_ _)); refine blk_put (cs := #[.int .i64 0, .slice none 0 0]) ?_ 1 _ rfl; (with_reducible repeat (first | refine blk_drewN ?_ _ | refine blk_drew ?_ | refine blk_alloc ?_ _)); refine blk_put (cs := #[.int .i64 0, .slice none 0 0]) ?_ 0 _ rfl; exact qf_ a2) Try.underlying39 rfl (by kernel_rfl)) rfl ?_
    exact ⟨_, qr_, by first | exact Kd.S_nil _ _ _ _ _ | exact Kd.N_nil _ _ _ _ _ | exact Kd.V_nil _ _ _ _ _ | exact Kd.Q_nil _ _ _ _ _ | exact Kd.R_nil _ _ _ _ _, qB_⟩
   subst c30
   rw [if_pos rfl] at H
   replace H := Option.bind_eq_some_iff.mp H
   obtain ⟨⟨b8, b9⟩, h3, H⟩ := H
   replace H : ((impl_putTour.f kj2 b9 c0).bind fun c5 => ((impl_putTour.f kj2 c5 c3).bind fun c4 => (some (b8, c4, true)))) = some (r1, r2, r3) := H
   have A31 := am_ h3
   clear h3
   obtain ⟨c5, h4, H⟩ := Option.bind_eq_some_iff.mp H; have A32 := am_ h4; clear h4
   obtain ⟨c4, h5, H⟩ := Option.bind_eq_some_iff.mp H; have A33 := am_ h5; clear h5
   simp only [Option.some.injEq, Prod.mk.injEq] at H
   obtain ⟨rfl, rfl, rfl⟩ := H
   obtain ⟨p4, p5⟩ := nn_ b3; obtain ⟨p6, p7⟩ := nn_ b4
   obtain ⟨j4, j5, j6, j7⟩ := bc2_ a0
   obtain ⟨p8, p9⟩ := nn_ b7
   obtain ⟨j8, j9, k0, k1⟩ := bc2_ a1
   try go_wp2_with (first | ((with_reducible refine gate_callee (f := 77) rfl ?_); refine gl_ (some 25) Try.func77 #[.agg #[.int .i64 a0_0, .slice A0_1 l0_1.length c0_1], .int .i64 a1_0] ?_; (with_reducible refine (impl_TreeOf.calls kj2 a0_0 _ _ l0_1 a1_0 a8 _ ?side1 ?side2 A26.out).mono ?_); (case side1 => exact qC_ HR0_1 HB); (case side2 => exact HC0_1.out); rintro e w39 ⟨rfl, hb⟩; refine ⟨_, rfl, ?_⟩; replace a0 := qbl_ a0 hb; replace a1 := qbl_ a1 hb; replace a2 := qbl_ a2 hb; replace HB := hs_ hb; (try clear hb); (try clear hb2); (try clear hk); (try clear hi)))
   replace a0 := am_ (blk_drew a0.out); replace a1 := am_ (blk_drew a1.out); replace a2 := am_ (blk_drew a2.out); replace HB := am_ (below_drew1 HB.out)
   have p473 := dp_ a8
   have q473 := dl_ a8 l0_1.length
   obtain ⟨ad473, A473_0, c473_0, e473, a9, hl473_0, hi473_0⟩ := at_L1 HR0_1.out a8 p473 q473
   have b6 := a9; cases e473
   replace a9 := qx_ HB a9
   have HR473_0 := am_ hi473_0
   have HC473_0 := am_ hl473_0
   clear hi473_0 hl473_0; replace p473 := eq_true p473; replace q473 := eq_true q473
   refine start_ (n := 17) (S := fun w' => w'.cell? ⟨b1, 0, none⟩ = some (.int .i64 a0_0) ∧ w'.cell? ⟨b1, 1, none⟩ = some (.slice (some ad473) l0_1.length c0_1) ∧ w'.cell? ⟨b2, 0, none⟩ = some (.int .i64 a1_0) ∧ w'.cell? ⟨b2, 1, none⟩ = some (.int .i64 a1_1) ∧ w'.cell? (ad473.add (a8).toNat) = some (.slice A473_0 (rd_L1 l0_1 a8).length c473_0)) (ds := []) (bm 17 0) (by kernel_rfl) rfl (by kernel_rfl) ⟨bl_ a0 0, bl_ a0 1, bl_ a1 0, bl_ a1 1, ((qx_ HB b6).trans rfl)⟩ (fun hHeld => ?_); refine with_tabW impl_Cut.tab4 impl_Cut.bits4 (fun HT_ HW_ => ?_)
   generalize w39.drew = w40 at a0 a1 a2 HB HR473_0 a9 hHeld ⊢
   refine pz_ 0 27 (bm 17 1) ?_; refine pz_ 2 29 (bm 17 5) ?_; refine pz_ 5 32 (bm 17 37) ?_; refine pz_ 7 34 (bm 17 165) ?_; refine tz5_ 1 28 (bm 17 167) ?_; refine pz_ 3 30 (bm 17 175) ?_; refine tz5_ 4 31 (bm 17 191) ?_; refine tz5_ 6 33 (bm 17 255) ?_; refine tz5_ 8 35 (bm 17 511) ?_
   refine o1_ 9 (some 36) (bm 17 1023) (fun K hK => ?_)
   refine gs_ Try.func78 #[.slice A473_0 (rd_L1 l0_1 a8).length c473_0, .int .i64 a1_0, .int .i64 a1_1] ?_
   with_reducible refine (impl_SplitTour.calls kj2 _ _ (rd_L1 l0_1 a8) a1_0 a1_1 c0 c3 true _ ?side1 ?side2 A29.out).mono ?_
   (case side1 => exact qC_ HR473_0 HB)
   (case side2 => exact HC473_0.out)
   rintro e w41 ⟨d6, c6, rfl, ho0, ho1, hb⟩
   refine ⟨_, rfl, ?_⟩
   have a5 := am_ (Kd.R_lower (Kd.R_newM (M := fun k_ => (w.heap.size ≤ k_)) ho0 (below_size qB_) (fun k_ h_ => h_)) (below_size qB_)); have a6 := am_ (Kd.R_lower (Kd.R_newM (M := fun k_ => (w.heap.size ≤ k_)) ho1 (below_size qB_) (fun k_ h_ => h_)) (below_size qB_)); replace a0 := qbl_ a0 hb; replace a1 := qbl_ a1 hb; replace a2 := qbl_ a2 hb; replace HB := am_ (below_step qB_ hb); (try clear hb); (try clear hb2); (try clear hk); (try clear hi); (try clear ho0); (try clear ho1)
   refine hK.out _ _ ⟨bl_ a0 0, bl_ a0 1, bl_ a1 0, bl_ a1 1, ((qx_ HB b6).trans rfl)⟩ (fun hHeld => ?_)
   clear hK K
   refine nm_ 36 ?_
   refine pz_ 10 26 (bm 17 2047) ?_; refine pz_ 11 37 (bm 17 4095) ?_; refine pz_ 12 38 (bm 17 8191) ?_; refine pz_ 13 39 (bm 17 16383) ?_; refine pz_ 14 7 (bm 17 32767) ?_; refine pz_ 15 8 (bm 17 65535) ?_; refine pz_ 16 9 (bm 17 131071) ?_
   refine done_ (done_of HT_.out (by kernel_rfl)) ?_
   obtain ⟨k2, k3, k4, k5⟩ := bc2_ a0
   try go_wp2_with (first | ((with_reducible refine gate_callee (f := 79) rfl ?_); refine gl_ (some 46) Try.func79 #[.agg #[.int .i64 a0_0, .slice (some ad473) l0_1.length c0_1], .int .i64 a8, .int .i64 a8] ?_; (with_reducible refine (impl_without.calls kj2 a0_0 _ _ l0_1 a8 a8 b8 b9 _ ?side1 ?side2 A31.out).mono ?_); (case side1 => exact qC_ HR0_1 HB); (case side2 => exact HC0_1.out); rintro e w43 ⟨q7, rfl, ho0, hb⟩; refine ⟨_, rfl, ?_⟩; have a4 := am_ (Kd.N_lower (Kd.N_mono (ok' := fun k_ => (w.heap.size ≤ k_) ∧ some k_ ≠ (d6 : Value).ownBlock ∧ some k_ ≠ (c6 : Value).ownBlock ∧ k_ ≠ b1 ∧ k_ ≠ b2 ∧ k_ ≠ b0) (Kd.S_N (Kd.S_bound ho0)) (fun k_ hk_ => ⟨(Nat.le_trans (below_size qB_) hk_.2.1), (Kd.fresh' (Kd.R_lt (qR_ a5)) k_ hk_.2.1), (Kd.fresh' (Kd.R_lt (qR_ a6)) k_ hk_.2.1), (Kd.freshB (qk_ a0) k_ hk_.2.1), (Kd.freshB (qk_ a1) k_ hk_.2.1), (Kd.freshB (qk_ a2) k_ hk_.2.1)⟩)) (below_size qB_)); replace a5 := am_ (Kd.R_below (qR_ a5) hb); replace a6 := am_ (Kd.R_below (qR_ a6) hb); replace a0 := qbl_ a0 hb; replace a1 := qbl_ a1 hb; replace a2 := qbl_ a2 hb; replace HB := hs_ hb; (try clear hb); (try clear hb2); (try clear hk); (try clear hi); (try clear ho0)) | ((with_reducible refine gate_dst (N := 10) rfl ?_); refine by_ 10 (cs := #[.int .i64 0, .slice none 0 0]) (t := 39) ?_; intro a7 hg w44 a3 hb; have h6 := gw_ hg; have q0 := h6; obtain ⟨g4, d3⟩ := qn_ a0 hg; obtain ⟨g5, d4⟩ := qn_ a1 hg; obtain ⟨g6, d5⟩ := qn_ a2 hg; replace a5 := am_ (Kd.R_below (qR_ a5) hb); replace a6 := am_ (Kd.R_below (qR_ a6) hb); replace a4 := am_ (Kd.N_below (Kd.N_elderB (by (with_reducible repeat (first | apply Kd.N_alloc | apply Kd.N_drewN | apply Kd.N_drew)); exact a4.out) a7 (Nat.le_of_eq hg.symm)) hb); replace a0 := qbl_ a0 hb; replace a1 := qbl_ a1 hb; replace a2 := qbl_ a2 hb; replace HB := hs_ hb; clear hb hg; obtain ⟨q1, q2⟩ := nn_ d3; obtain ⟨q3, q4⟩ := nn_ d4; obtain ⟨q5, q6⟩ := nn_ d5; obtain ⟨k6, k7, k8, k9⟩ := bc2_ a3; obtain ⟨c9, d0, m3⟩ := Kd.N_slice a4.out; subst m3) | ((with_reducible refine gate_store (t := 39) (p := 10) rfl ?_); refine store_event (t := 39) (p := 10) (v := ?vo_w50) (w1 := ((w44.setCell ⟨a7, 0, none⟩ (.int .i64 b8)).setCell ⟨a7, 1, none⟩ (.slice c9 b9.length d0))) ?hg ?ho ?hn ?hr ?_; (case ho => rfl); (case hg => rfl); (case hn => rfl); (case hr => first | (go_simp; done) | (go_simp; rfl)); intro w50 hw; have n0_ : Aside0 (Kd.R (Kd.int .i64) 3 w50 w.heap.size (fun k_ => (w.heap.size ≤ k_) ∧ some k_ ≠ (c6 : Value).ownBlock) d6 c0) := ⟨(by rw [hw]; exact (by (with_reducible repeat (first | apply Kd.R_alloc | apply Kd.R_drewN | apply Kd.R_drew)); exact Kd.R_mono (Kd.R_far (p := ⟨a7, 1, none⟩) (Kd.R_far (p := ⟨a7, 0, none⟩) (Kd.R_types a5.out a3.out (by decide)) (fun _ hk => hk.2) (.int .i64 b8)) (fun _ hk => hk.2) (.slice c9 b9.length d0)) (fun _ hk => ⟨hk.1.1, hk.1.2⟩)))⟩; have n1_ : Aside0 (Kd.R (Kd.int .i64) 3 w50 w.heap.size (fun k_ => (w.heap.size ≤ k_) ∧ some k_ ≠ (d6 : Value).ownBlock) c6 c3) := ⟨(by rw [hw]; exact (by (with_reducible repeat (first | apply Kd.R_alloc | apply Kd.R_drewN | apply Kd.R_drew)); exact Kd.R_mono (Kd.R_far (p := ⟨a7, 1, none⟩) (Kd.R_far (p := ⟨a7, 0, none⟩) (Kd.R_types a6.out a3.out (by decide)) (fun _ hk => hk.2) (.int .i64 b8)) (fun _ hk => hk.2) (.slice c9 b9.length d0)) (fun _ hk => ⟨hk.1.1, hk.1.2⟩)))⟩; have n2_ : Aside0 (Kd.N (Kd.slice 3 (Kd.int .i64)) 51 w50 w.heap.size (fun k_ => (w.heap.size ≤ k_) ∧ some k_ ≠ (d6 : Value).ownBlock ∧ some k_ ≠ (c6 : Value).ownBlock ∧ k_ ≠ b1 ∧ k_ ≠ b2 ∧ k_ ≠ b0 ∧ k_ ≠ a7) (.slice c9 b9.length d0) b9) := ⟨(by rw [hw]; exact (by (with_reducible repeat (first | apply Kd.N_alloc | apply Kd.N_drewN | apply Kd.N_drew)); exact Kd.N_mono (Kd.N_far (p := ⟨a7, 1, none⟩) (Kd.N_far (p := ⟨a7, 0, none⟩) (Kd.N_mono a4.out (fun k_ hk => (⟨hk, hk.2⟩ : _ ∧ k_ ≠ a7))) (fun _ hk => hk.2) (.int .i64 b8)) (fun _ hk => hk.2) (.slice c9 b9.length d0)) (fun _ hk => ⟨hk.1.1.1, ⟨hk.1.1.2.1, ⟨hk.1.1.2.2.1, ⟨hk.1.1.2.2.2.1, ⟨hk.1.1.2.2.2.2.1, ⟨hk.1.1.2.2.2.2.2, hk.1.2⟩⟩⟩⟩⟩⟩)))⟩; have n3_ : Aside0 (w50.heap[b1]? = some (.cells #[.int .i64 a0_0, .slice (some ad473) l0_1.length c0_1] 39 (0, 0))) := ⟨(by rw [hw]; exact (qf_ a0))⟩; have n4_ : Aside0 (w50.heap[b2]? = some (.cells #[.int .i64 a1_0, .int .i64 a1_1] 43 (0, 0))) := ⟨(by rw [hw]; exact (qf_ a1))⟩; have n5_ : Aside0 (w50.heap[b0]? = some (.cells #[.int .i64 0, .slice none 0 0] 39 (0, 0))) := ⟨(by rw [hw]; exact (qf_ a2))⟩; have n6_ : Aside0 (w50.heap[a7]? = some (.cells #[.int .i64 b8, .slice c9 b9.length d0] 39 (0, 0))) := ⟨(by rw [hw]; exact (by (with_reducible repeat (first | refine blk_drewN ?_ _ | refine blk_drew ?_ | refine blk_alloc ?_ _)); refine blk_put (cs := #[.int .i64 b8, .slice none 0 0]) ?_ 1 _ rfl; (with_reducible repeat (first | refine blk_drewN ?_ _ | refine blk_drew ?_ | refine blk_alloc ?_ _)); refine blk_put (cs := #[.int .i64 0, .slice none 0 0]) ?_ 0 _ rfl; exact qf_ a3))⟩; have n7_ : Aside0 (Below w.heap.size w w50) := ⟨(by rw [hw]; exact qB_)⟩; clear hw; clear a5; clear a6; clear a4; clear a0; clear a1; clear a2; clear a3; clear HB; have a5 := n0_; have a6 := n1_; have a4 := n2_; have a0 := n3_; have a1 := n4_; have a2 := n5_; have a3 := n6_; have HB := n7_; clear n0_ n1_ n2_ n3_ n4_ n5_ n6_ n7_; obtain ⟨l0, l1, l2, l3⟩ := bc2_ a3; obtain ⟨f7, f8, m4⟩ := Kd.R_slice a5.out; subst m4) | ((with_reducible refine gate_callee (f := 80) rfl ?_); refine gl_ (some 50) Try.func80 #[.slice c9 b9.length d0, .slice f7 c0.length f8] ?_; (with_reducible refine (impl_putTour.calls kj2 (fun k_ => ((w.heap.size ≤ k_) ∧ (some k_ ≠ (.slice f7 c0.length f8 : Value).ownBlock ∧ (some k_ ≠ (c6 : Value).ownBlock ∧ (k_ ≠ b1 ∧ (k_ ≠ b2 ∧ (k_ ≠ b0 ∧ k_ ≠ a7))))))) _ _ b9 (fun k_ => some k_ = (.slice f7 c0.length f8 : Value).ownBlock) _ _ c0 c5 _ ?side1 ?side2 A32.out).mono ?_); (case side1 => exact Kd.N_V (a4.out)); (case side2 => exact Kd.R_V (Kd.R_tight rfl (Kd.R_types (Kd.R_types (Kd.R_types (Kd.R_types (Kd.R_apart' (a5.out) (Kd.N_typed a4.out) (by decide)) a0.out (by decide)) a1.out (by decide)) a2.out (by decide)) a3.out (by decide)))); rintro e w53 ⟨q8, rfl, ho0, hb⟩; refine ⟨_, rfl, ?_⟩; have b5 := am_ (Kd.N_lower (Kd.N_mono (ok' := fun k_ => (w.heap.size ≤ k_) ∧ some k_ ≠ (c6 : Value).ownBlock ∧ k_ ≠ b1 ∧ k_ ≠ b2 ∧ k_ ≠ b0 ∧ k_ ≠ a7) ho0 (fun k_ hk_ => ⟨Or.elim hk_ (fun hs_ => Or.elim hs_ (fun hs_ => hs_.1) (fun hs_ => ((Kd.R_types (Kd.R_types (Kd.R_types (Kd.R_types (Kd.R_apart' (a5.out) (Kd.N_typed a4.out) (by decide)) a0.out (by decide)) a1.out (by decide)) a2.out (by decide)) a3.out (by decide)).1 k_ hs_.symm).1.1.1.1.1.1)) (fun hn_ => (Nat.le_trans (below_size qB_) hn_)), Or.elim hk_ (fun hs_ => Or.elim hs_ (fun hs_ => hs_.2.2.1) (fun hs_ => ((Kd.R_types (Kd.R_types (Kd.R_types (Kd.R_types (Kd.R_apart' (a5.out) (Kd.N_typed a4.out) (by decide)) a0.out (by decide)) a1.out (by decide)) a2.out (by decide)) a3.out (by decide)).1 k_ hs_.symm).1.1.1.1.1.2)) (fun hn_ => (Kd.fresh' (Kd.R_lt (qR_ a6)) k_ hn_)), Or.elim hk_ (fun hs_ => Or.elim hs_ (fun hs_ => hs_.2.2.2.1) (fun hs_ => ((Kd.R_types (Kd.R_types (Kd.R_types (Kd.R_types (Kd.R_apart' (a5.out) (Kd.N_typed a4.out) (by decide)) a0.out (by decide)) a1.out (by decide)) a2.out (by decide)) a3.out (by decide)).1 k_ hs_.symm).1.1.1.2)) (fun hn_ => (Kd.freshB (qk_ a0) k_ hn_)), Or.elim hk_ (fun hs_ => Or.elim hs_ (fun hs_ => hs_.2.2.2.2.1) (fun hs_ => ((Kd.R_types (Kd.R_types (Kd.R_types (Kd.R_types (Kd.R_apart' (a5.out) (Kd.N_typed a4.out) (by decide)) a0.out (by decide)) a1.out (by decide)) a2.out (by decide)) a3.out (by decide)).1 k_ hs_.symm).1.1.2)) (fun hn_ => (Kd.freshB (qk_ a1) k_ hn_)), Or.elim hk_ (fun hs_ => Or.elim hs_ (fun hs_ => hs_.2.2.2.2.2.1) (fun hs_ => ((Kd.R_types (Kd.R_types (Kd.R_types (Kd.R_types (Kd.R_apart' (a5.out) (Kd.N_typed a4.out) (by decide)) a0.out (by decide)) a1.out (by decide)) a2.out (by decide)) a3.out (by decide)).1 k_ hs_.symm).1.2)) (fun hn_ => (Kd.freshB (qk_ a2) k_ hn_)), Or.elim hk_ (fun hs_ => Or.elim hs_ (fun hs_ => hs_.2.2.2.2.2.2) (fun hs_ => ((Kd.R_types (Kd.R_types (Kd.R_types (Kd.R_types (Kd.R_apart' (a5.out) (Kd.N_typed a4.out) (by decide)) a0.out (by decide)) a1.out (by decide)) a2.out (by decide)) a3.out (by decide)).1 k_ hs_.symm).2)) (fun hn_ => (Kd.freshB (qk_ a3) k_ hn_))⟩)) (below_size qB_)); replace a5 := am_ (Kd.R_below (qR_ a5) hb); replace a6 := am_ (Kd.R_below (qR_ a6) hb); replace a4 := am_ (Kd.N_elder' (by (with_reducible repeat (first | apply Kd.N_alloc | apply Kd.N_drewN | apply Kd.N_drew)); exact a4.out) (Kd.N_base ho0) hb); replace a0 := qbl_ a0 hb; replace a1 := qbl_ a1 hb; replace a2 := qbl_ a2 hb; replace a3 := qbl_ a3 hb; replace HB := hs_ hb; (try clear hb); (try clear hb2); (try clear hk); (try clear hi); (try clear ho0); obtain ⟨m5, m6, m7⟩ := Kd.N_slice b5.out; subst m7; obtain ⟨f9, g0, m8⟩ := Kd.R_slice a6.out; subst m8) | ((with_reducible refine gate_callee (f := 80) rfl ?_); refine gl_ (some 52) Try.func80 #[.slice m5 c5.length m6, .slice f9 c3.length g0] ?_; (with_reducible refine (impl_putTour.calls kj2 (fun k_ => ((w.heap.size ≤ k_) ∧ (some k_ ≠ (.slice f9 c3.length g0 : Value).ownBlock ∧ (k_ ≠ b1 ∧ (k_ ≠ b2 ∧ (k_ ≠ b0 ∧ k_ ≠ a7)))))) _ _ c5 (fun k_ => some k_ = (.slice f9 c3.length g0 : Value).ownBlock) _ _ c3 c4 _ ?side1 ?side2 A33.out).mono ?_); (case side1 => exact Kd.N_V (b5.out)); (case side2 => exact Kd.R_V (Kd.R_tight rfl (Kd.R_types (Kd.R_types (Kd.R_types (Kd.R_types (Kd.R_apart' (Kd.R_apart' (a6.out) (Kd.N_typed a4.out) (by decide)) (Kd.N_typed b5.out) (by decide)) a0.out (by decide)) a1.out (by decide)) a2.out (by decide)) a3.out (by decide)))); rintro e w56 ⟨q9, rfl, ho0, hb⟩; refine ⟨_, rfl, ?_⟩; have f5 := am_ (Kd.N_lower (Kd.N_mono (ok' := fun k_ => (w.heap.size ≤ k_) ∧ k_ ≠ b1 ∧ k_ ≠ b2 ∧ k_ ≠ b0 ∧ k_ ≠ a7) ho0 (fun k_ hk_ => ⟨Or.elim hk_ (fun hs_ => Or.elim hs_ (fun hs_ => hs_.1) (fun hs_ => ((Kd.R_types (Kd.R_types (Kd.R_types (Kd.R_types (Kd.R_apart' (Kd.R_apart' (a6.out) (Kd.N_typed a4.out) (by decide)) (Kd.N_typed b5.out) (by decide)) a0.out (by decide)) a1.out (by decide)) a2.out (by decide)) a3.out (by decide)).1 k_ hs_.symm).1.1.1.1.1.1.1)) (fun hn_ => (Nat.le_trans (below_size qB_) hn_)), Or.elim hk_ (fun hs_ => Or.elim hs_ (fun hs_ => hs_.2.2.1) (fun hs_ => ((Kd.R_types (Kd.R_types (Kd.R_types (Kd.R_types (Kd.R_apart' (Kd.R_apart' (a6.out) (Kd.N_typed a4.out) (by decide)) (Kd.N_typed b5.out) (by decide)) a0.out (by decide)) a1.out (by decide)) a2.out (by decide)) a3.out (by decide)).1 k_ hs_.symm).1.1.1.2)) (fun hn_ => (Kd.freshB (qk_ a0) k_ hn_)), Or.elim hk_ (fun hs_ => Or.elim hs_ (fun hs_ => hs_.2.2.2.1) (fun hs_ => ((Kd.R_types (Kd.R_types (Kd.R_types (Kd.R_types (Kd.R_apart' (Kd.R_apart' (a6.out) (Kd.N_typed a4.out) (by decide)) (Kd.N_typed b5.out) (by decide)) a0.out (by decide)) a1.out (by decide)) a2.out (by decide)) a3.out (by decide)).1 k_ hs_.symm).1.1.2)) (fun hn_ => (Kd.freshB (qk_ a1) k_ hn_)), Or.elim hk_ (fun hs_ => Or.elim hs_ (fun hs_ => hs_.2.2.2.2.1) (fun hs_ => ((Kd.R_types (Kd.R_types (Kd.R_types (Kd.R_types (Kd.R_apart' (Kd.R_apart' (a6.out) (Kd.N_typed a4.out) (by decide)) (Kd.N_typed b5.out) (by decide)) a0.out (by decide)) a1.out (by decide)) a2.out (by decide)) a3.out (by decide)).1 k_ hs_.symm).1.2)) (fun hn_ => (Kd.freshB (qk_ a2) k_ hn_)), Or.elim hk_ (fun hs_ => Or.elim hs_ (fun hs_ => hs_.2.2.2.2.2) (fun hs_ => ((Kd.R_types (Kd.R_types (Kd.R_types (Kd.R_types (Kd.R_apart' (Kd.R_apart' (a6.out) (Kd.N_typed a4.out) (by decide)) (Kd.N_typed b5.out) (by decide)) a0.out (by decide)) a1.out (by decide)) a2.out (by decide)) a3.out (by decide)).1 k_ hs_.symm).2)) (fun hn_ => (Kd.freshB (qk_ a3) k_ hn_))⟩)) (below_size qB_)); replace a5 := am_ (Kd.R_below (qR_ a5) hb); replace a6 := am_ (Kd.R_below (qR_ a6) hb); replace a4 := am_ (Kd.N_elder' (by (with_reducible repeat (first | apply Kd.N_alloc | apply Kd.N_drewN | apply Kd.N_drew)); exact a4.out) (Kd.N_base ho0) hb); replace b5 := am_ (Kd.N_elder' (by (with_reducible repeat (first | apply Kd.N_alloc | apply Kd.N_drewN | apply Kd.N_drew)); exact b5.out) (Kd.N_base ho0) hb); replace a0 := qbl_ a0 hb; replace a1 := qbl_ a1 hb; replace a2 := qbl_ a2 hb; replace a3 := qbl_ a3 hb; replace HB := hs_ hb; (try clear hb); (try clear hb2); (try clear hk); (try clear hi); (try clear ho0); obtain ⟨g1, g2, m9⟩ := Kd.N_slice f5.out; subst m9; obtain ⟨l4, l5, l6, l7⟩ := bc2_ a3; obtain ⟨l8, l9, m0, m1⟩ := bc2_ a2))
   refine bodyPost_ret (results_ct rfl _ _ b0 39 #[.int .i64 b8, .slice g1 c4.length g2] (0, 0) _ rfl (by (with_reducible repeat (first | refine blk_drewN ?_ _ | refine blk_drew ?_ | refine blk_alloc ?_ _)); refine blk_put (cs := #[.int .i64 b8, .slice none 0 0]) ?_ 1 _ rfl; (with_reducible repeat (first | refine blk_drewN ?_ _ | refine blk_drew ?_ | refine blk_alloc ?_ _)); refine blk_put (cs := #[.int .i64 0, .slice none 0 0]) ?_ 0 _ rfl; exact qf_ a2) Try.underlying39 rfl (by kernel_rfl)) rfl ?_
   exact ⟨_, qr_, by (with_reducible repeat (first | apply Kd.N_alloc | apply Kd.N_drewN | apply Kd.N_drew)); exact Kd.N_mono (Kd.N_far (p := ⟨b0, 1, none⟩) (Kd.N_far (p := ⟨b0, 0, none⟩) (Kd.N_far (p := ⟨a7, 1, none⟩) (Kd.N_mono (Kd.N_mono f5.out (fun k_ hk => (⟨hk, hk.2.2.2.2⟩ : _ ∧ k_ ≠ a7))) (fun k_ hk => (⟨hk, hk.1.2.2.2.1⟩ : _ ∧ k_ ≠ b0))) (fun _ hk => hk.1.2) (.slice g1 c4.length g2)) (fun _ hk => hk.2) (.int .i64 b8)) (fun _ hk => hk.2) (.slice g1 c4.length g2)) (fun _ hk => hk.1.1.1), qB_⟩
def laws_eqIntS.l0 : Nat → List Int → List Int → Int → Option (Bool)
  | 0, _, _, _ => none
  | k + 1, x0, x1, x5 => if x5 < (x0.length : Int) then (if 0 ≤ x5 then (if x5 < (x1.length : Int) then (if (rd x0 x5) = (rd x1 x5) then (laws_eqIntS.l0 k x0 x1 (wrap64 (x5 + 1))) else (some false)) else (none)) else (none)) else (some true)
def laws_eqIntS.f (k : Nat) (l0 : List Int) (l1 : List Int) : Option (Bool) := if (l0.length : Int) = (l1.length : Int) then (laws_eqIntS.l0 k l0 l1 0) else (some false)
theorem laws_eqIntS.mono_l : ∀ k, (∀ y0 y1 y2, LeO (laws_eqIntS.l0 k y0 y1 y2) (laws_eqIntS.l0 (k + 1) y0 y1 y2))
  | 0 => fun _ _ _ r h => by simp [laws_eqIntS.l0] at h
  | k + 1 => by
    have ih0 := laws_eqIntS.mono_l k
    · intro y0 y1 y2
      unfold laws_eqIntS.l0
      repeat' first | (with_reducible first | exact ih0 _ _ _ | exact LeO.refl _ | exact LeO.none _ | refine LeO.ite ?_ ?_ | refine LeO.bind ?_ (fun _ => ?_)) | exact LeO.none _ | refine LeO.ite ?_ ?_ | refine LeO.bind ?_ (fun _ => ?_)
theorem laws_eqIntS.mono : ∀ a0 a1 k, LeO (laws_eqIntS.f k a0 a1) (laws_eqIntS.f (k + 1) a0 a1) := by
  intro a0 a1 k
  have ih0 := laws_eqIntS.mono_l k
  unfold laws_eqIntS.f
  repeat' first | (with_reducible first | exact ih0 _ _ _ | exact LeO.refl _ | exact LeO.none _ | refine LeO.ite ?_ ?_ | refine LeO.bind ?_ (fun _ => ?_)) | exact LeO.none _ | refine LeO.ite ?_ ?_ | refine LeO.bind ?_ (fun _ => ?_)
set_option maxHeartbeats 8000000 in
set_option maxRecDepth 100000 in
theorem laws_eqIntS.calls (k : Nat) (A0 : Option Addr) (c0 : Nat) (l0 : List Int) (A1 : Option Addr) (c1 : Nat) (l1 : List Int) (r : Bool) (w : World) (hr0 : Kd.C (Kd.int .i64) w A0 l0.length l0) (hc0 : l0.length ≤ c0) (hr1 : Kd.C (Kd.int .i64) w A1 l1.length l1) (hc1 : l1.length ≤ c1) (h : laws_eqIntS.f k l0 l1 = some r) :
  Calls Try.prog 34 #[.slice A0 l0.length c0, .slice A1 l1.length c1] w fun e w' => e = .returned (.bool r) ∧ Drawn0 w w' := by
 have a2 := am_ hr0
 have a4 := am_ hc0
 clear hr0 hc0
 have a3 := am_ hr1
 have a5 := am_ hc1
 clear hr1 hc1
 have H : (if (l0.length : Int) = (l1.length : Int) then (laws_eqIntS.l0 k l0 l1 0) else (some false)) = some r := h
 clear h
 by_cases c3 : (l0.length : Int) = (l1.length : Int)
 rotate_left
 ·rw [if_neg c3] at H
  have c3b0 : ((l0.length : Int) == (l1.length : Int)) = false := beq_eq_false_iff_ne.mpr c3
  have c3b1 : ((l0.length : Int) != (l1.length : Int)) = true := bne_iff_ne.mpr c3
  have c3b2 : (l0.length == l1.length) = false := by first | simpa using c3 | (simp at c3 ⊢; omega)
  obtain rfl := Option.some.inj H
  go_enter Try.func34, Try.ntmps34
  go_wp2
  repeat (go_quiet (fail); try go_wp2)
  go_ret
  exact ⟨by first | rfl | (simp; done) | (simp [*]; done), by repeat (first | exact Drawn0.refl _ | apply Drawn0.step)⟩
 rw [if_pos c3] at H
 have c3b0 : ((l0.length : Int) == (l1.length : Int)) = true := beq_iff_eq.mpr c3
 have c3b1 : ((l0.length : Int) != (l1.length : Int)) = false := bne_eq_false_iff_eq.mpr c3
 have c3b2 : (l0.length == l1.length) = true := by first | simpa using c3 | (simp at c3 ⊢; omega)
 clear c3; have H' := am_ H; clear H
 go_enter Try.func34, Try.ntmps34
 go_wp2
 repeat (go_quiet (fail); try go_wp2)
 go_loopg [5] k (fun kq v5 w' => ∃ (x5_1 : Int), v5 = .int .i64 x5_1 ∧ Aside0 (laws_eqIntS.l0 kq l0 l1 x5_1 = some r) ∧ Aside0 (kq ≤ k) ∧ Drawn0 w w')
 case atStart => exact ⟨(0), qe_, H', ⟨Nat.le_refl _⟩, by repeat (first | exact Drawn0.refl _ | apply Drawn0.step)⟩
 case round =>
  clear H'
  (try clear c1); (try clear p2); (try clear c3); (try clear c3b0); (try clear c3b1); (try clear c3b2)
  obtain ⟨x5_1, rfl, HA, HK1, ⟨m1, rfl⟩⟩ := hrel
  cases gk with
  | zero => exact absurd HA.out (by simp [laws_eqIntS.l0])
  | succ k1 =>
   have H := HA.out; clear HA
   simp only [laws_eqIntS.l0] at H
   by_cases c4 : x5_1 < (l0.length : Int)
   rotate_left
   ·rw [if_neg c4] at H
    have c4b0 := decide_eq_false c4
    clear c4
    obtain rfl := Option.some.inj H
    go_wp2
    repeat (go_quiet (fail); try go_wp2)
    go_ret
    exact ⟨by first | rfl | (simp; done) | (simp [*]; done), by repeat (first | exact Drawn0.refl _ | apply Drawn0.step)⟩
   rw [if_pos c4] at H
   have c4b0 := decide_eq_true c4
   clear c4
   by_cases c5 : 0 ≤ x5_1
   rotate_left
   ·rw [if_neg c5] at H
    exact absurd H (by simp)
   rw [if_pos c5] at H
   have c5b0 := decide_eq_true c5
   clear c5
   by_cases c6 : x5_1 < (l1.length : Int)
   rotate_left
   ·rw [if_neg c6] at H
    exact absurd H (by simp)
   rw [if_pos c6] at H
   have c6b0 := decide_eq_true c6
   clear c6
   by_cases c7 : (rd l0 x5_1) = (rd l1 x5_1)
   ·rw [if_pos c7] at H
    have c7b0 : ((rd l0 x5_1) == (rd l1 x5_1)) = true := beq_iff_eq.mpr c7
    have c7b1 : ((rd l0 x5_1) != (rd l1 x5_1)) = false := bne_eq_false_iff_eq.mpr c7
    clear c7; have H' := am_ H; clear H
    have p492 := dp_ x5_1
    have q492 := dl_ x5_1 l0.length
    obtain ⟨ad492, e492, a0⟩ := Kd.at_int a2.out x5_1 p492 q492
    cases e492; replace p492 := eq_true p492; replace q492 := eq_true q492
    have p493 := dp_ x5_1
    have q493 := dl_ x5_1 l1.length
    obtain ⟨ad493, e493, a1⟩ := Kd.at_int a3.out x5_1 p493 q493
    cases e493; replace p493 := eq_true p493; replace q493 := eq_true q493
    go_wp2
    repeat (go_quiet (fail); try go_wp2)
    go_roundg k1
    case measure => have := HK1.out; omega
    case rel => exact ⟨(wrap64 (x5_1 + 1)), qe_, H', ⟨by have := HK1.out; omega⟩, by repeat (first | exact Drawn0.refl _ | apply Drawn0.step)⟩
   rw [if_neg c7] at H
   have c7b0 : ((rd l0 x5_1) == (rd l1 x5_1)) = false := beq_eq_false_iff_ne.mpr c7
   have c7b1 : ((rd l0 x5_1) != (rd l1 x5_1)) = true := bne_iff_ne.mpr c7
   obtain rfl := Option.some.inj H
   have p492 := dp_ x5_1
   have q492 := dl_ x5_1 l0.length
   obtain ⟨ad492, e492, a0⟩ := Kd.at_int a2.out x5_1 p492 q492
   cases e492; replace p492 := eq_true p492; replace q492 := eq_true q492
   have p493 := dp_ x5_1
   have q493 := dl_ x5_1 l1.length
   obtain ⟨ad493, e493, a1⟩ := Kd.at_int a3.out x5_1 p493 q493
   cases e493; replace p493 := eq_true p493; replace q493 := eq_true q493
   go_wp2
   repeat (go_quiet (fail); try go_wp2)
   go_ret
   exact ⟨by first | rfl | (simp; done) | (simp [*]; done), by repeat (first | exact Drawn0.refl _ | apply Drawn0.step)⟩
end Go.Proofs.Ytbkklafkoegdpaa.QFnExactCut
