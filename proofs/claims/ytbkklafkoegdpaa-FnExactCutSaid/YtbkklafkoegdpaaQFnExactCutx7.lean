import Derived.Test.YtbkklafkoegdpaaQFnExactCutx5
import Derived.Test.YtbkklafkoegdpaaQFnExactCutx6
namespace Go.Proofs.Ytbkklafkoegdpaa.QFnExactCut
open Go.RowKit Go.Proofs.YtbkklafkoegdpaaW.PrintWords Go.Proofs.YtbkklafkoegdpaaW.PrintLast Go.Proofs.YtbkklafkoegdpaaW.PrintMore
set_option linter.unusedVariables false
set_option linter.unusedSimpArgs false
def spec_Cut.j0 : Nat → Int → Bool → Int → List (List Int) → Int → Int → Option (Int × (List (List Int)) × Bool)
  | 0, _, _, _, _, _, _ => none
  | k + 1, x6, x22, x240000, x240001, x241000, x241001 => if x22 = true then (some (0, ([] : List (List Int)), false)) else (if 0 ≤ x6 then (if x6 < (x240001.length : Int) then ((spec_SplitTour.f k (rd_L1 x240001 x6) x241000 x241001).bind fun bt245 => (if bt245.2.2 = true then ((spec_l07With.f k x240000 x240001 (([x6] : List Int)) (([bt245.1, bt245.2.1] : List (List Int)))).bind fun bt258 => (some (bt258.1, bt258.2, true))) else (some (0, ([] : List (List Int)), false)))) else (none)) else (none))
def spec_Cut.f (k : Nat) (a0_0 : Int) (l0_1 : List (List Int)) (a1_0 : Int) (a1_1 : Int) : Option (Int × (List (List Int)) × Bool) := (spec_TreeOf.f k a0_0 l0_1 a1_0).bind fun t242 => ((spec_EdgeOk.f a0_0 a1_0 a1_1).bind fun t243 => (if t243 = true then (spec_Cut.j0 k t242 (decide (t242 < 0)) a0_0 l0_1 a1_0 a1_1) else (spec_Cut.j0 k t242 true a0_0 l0_1 a1_0 a1_1)))
theorem spec_Cut.mono_l : ∀ k, (∀ y0 y1 y2 y3 y4 y5, LeO (spec_Cut.j0 k y0 y1 y2 y3 y4 y5) (spec_Cut.j0 (k + 1) y0 y1 y2 y3 y4 y5))
  | 0 => fun _ _ _ _ _ _ r h => by simp [spec_Cut.j0] at h
  | k + 1 => by
    have ih0 := spec_Cut.mono_l k
    · intro y0 y1 y2 y3 y4 y5
      unfold spec_Cut.j0
      repeat' first | (with_reducible first | exact ih0 _ _ _ _ _ _ | exact spec_SplitTour.mono _ _ _ _ | exact spec_TreeOf.mono _ _ _ _ | exact spec_l07With.mono _ _ _ _ _ | exact LeO.refl _ | exact LeO.none _ | refine LeO.ite ?_ ?_ | refine LeO.bind ?_ (fun _ => ?_)) | exact LeO.none _ | refine LeO.ite ?_ ?_ | refine LeO.bind ?_ (fun _ => ?_)
theorem spec_Cut.mono : ∀ a0 a1 a2 a3 k, LeO (spec_Cut.f k a0 a1 a2 a3) (spec_Cut.f (k + 1) a0 a1 a2 a3) := by
  intro a0 a1 a2 a3 k
  have ih0 := spec_Cut.mono_l k
  unfold spec_Cut.f
  repeat' first | (with_reducible first | exact ih0 _ _ _ _ _ _ | exact spec_SplitTour.mono _ _ _ _ | exact spec_TreeOf.mono _ _ _ _ | exact spec_l07With.mono _ _ _ _ _ | exact LeO.refl _ | exact LeO.none _ | refine LeO.ite ?_ ?_ | refine LeO.bind ?_ (fun _ => ?_)) | exact LeO.none _ | refine LeO.ite ?_ ?_ | refine LeO.bind ?_ (fun _ => ?_)
def spec_Cut.T4 : Bool × List (List Nat × List Nat) := (true, [([], []), ([0], [0]), ([], []), ([1, 2], [1, 2]), ([3], [3]), ([], []), ([5], [5]), ([], []), ([7], [7]), ([4, 6, 8], [4, 6, 8]), ([9], [9]), ([10], [10]), ([10], [10]), ([10], [10]), ([11, 9, 0, 1, 2, 3, 4, 5, 6, 7, 8, 9, 10, 11], [11]), ([12, 14, 0, 1, 2, 3, 4, 5, 6, 7, 8, 9, 10, 11, 12, 14], [12]), ([13, 15, 0, 1, 2, 3, 4, 5, 6, 7, 8, 9, 10, 11, 12, 13, 14, 15], [13])])
def spec_Cut.B4 : List Nat := [0, 1, 0, 7, 15, 0, 32, 0, 128, 511, 1023, 2047, 2047, 2047, 4095, 24575, 65535]
theorem spec_Cut.tab4 : rtab .any (opsOf Try.f19 4) = spec_Cut.T4 := by kernel_rfl
theorem spec_Cut.bits4 : waitsOk spec_Cut.T4.2 spec_Cut.B4 = true := by kernel_rfl
set_option maxHeartbeats 8000000 in
set_option maxRecDepth 100000 in
theorem spec_Cut.calls (k : Nat) (a0_0 : Int) (A0_1 : Option Addr) (c0_1 : Nat) (l0_1 : List (List Int)) (a1_0 : Int) (a1_1 : Int) (r1 : Int) (r2 : List (List Int)) (r3 : Bool) (w : World) (hr0_1 : Kd.C (Kd.slice 3 (Kd.int .i64)) w A0_1 l0_1.length l0_1) (hc0_1 : l0_1.length ≤ c0_1) (h : spec_Cut.f k a0_0 l0_1 a1_0 a1_1 = some (r1, r2, r3)) :
  Calls Try.prog 19 #[.agg #[.int .i64 a0_0, .slice A0_1 l0_1.length c0_1], .agg #[.int .i64 a1_0, .int .i64 a1_1]] w fun e w' => ∃ v1_ : Value, e = .returned (.tuple #[.agg #[.int .i64 r1, v1_], .bool r3]) ∧ Kd.N (Kd.slice 3 (Kd.int .i64)) 51 w' w.heap.size (fun k_ => (w.heap.size ≤ k_)) v1_ r2 ∧ Below w.heap.size w w' := by
 have hu39 := Try.underlying39; have hu43 := Try.underlying43
 have HR0_1 := am_ hr0_1
 have HC0_1 := am_ hc0_1
 clear hr0_1 hc0_1
 have HB := am_ (Below.refl w.heap.size w)
 have H : ((spec_TreeOf.f k a0_0 l0_1 a1_0).bind fun a4 => ((spec_EdgeOk.f a0_0 a1_0 a1_1).bind fun f6 => (if f6 = true then (spec_Cut.j0 k a4 (decide (a4 < 0)) a0_0 l0_1 a1_0 a1_1) else (spec_Cut.j0 k a4 true a0_0 l0_1 a1_0 a1_1)))) = some (r1, r2, r3) := h
 clear h
 obtain ⟨a4, A30, H⟩ := Option.bind_eq_some_iff.mp H; have A3 := am_ A30; clear A30
 have j1 := am_ H
 clear H
 go_enter Try.func19, Try.ntmps19
 go_upto_region 2 with (first | ((with_reducible refine gate_dst (N := 2) rfl ?_); refine by_ 2 (cs := #[.int .i64 a0_0, .slice A0_1 l0_1.length c0_1]) (t := 39) ?_; intro a5 hg w5 a0 hb; have g1 := gw_ hg; have k1 := g1; replace HB := hs_ hb; clear hb hg) | ((with_reducible refine gate_dst (N := 3) rfl ?_); refine by_ 3 (cs := #[.int .i64 a1_0, .int .i64 a1_1]) (t := 43) ?_; intro a6 hg w6 a1 hb; have g2 := gw_ hg; have k2 := g2; obtain ⟨a8, g0⟩ := qn_ a0 hg; replace a0 := qbl_ a0 hb; replace HB := hs_ hb; clear hb hg) | ((with_reducible refine gate_dst (N := 4) rfl ?_); refine by_ 4 (cs := #[.int .i64 0, .slice none 0 0]) (t := 39) ?_; intro a3 hg w7 a2 hb; have g3 := gw_ hg; have k3 := g3; obtain ⟨a9, b7⟩ := qn_ a0 hg; obtain ⟨b4, b5⟩ := qn_ a1 hg; replace a0 := qbl_ a0 hb; replace a1 := qbl_ a1 hb; replace HB := hs_ hb; clear hb hg; obtain ⟨n2, n3⟩ := nn_ a8; obtain ⟨n4, n5⟩ := nn_ a9; obtain ⟨d0, d1, d2, d3⟩ := bc2_ a0; obtain ⟨k4, k5⟩ := nn_ b4; obtain ⟨d4, d5, d6, d7⟩ := bc2_ a1) | ((with_reducible refine gate_callee (f := 60) rfl ?_); refine gl_ (some 13) Try.func60 #[.agg #[.int .i64 a0_0, .slice A0_1 l0_1.length c0_1], .int .i64 a1_0] ?_; (with_reducible refine (spec_TreeOf.calls k a0_0 _ _ l0_1 a1_0 a4 _ ?side1 ?side2 A3.out).mono ?_); (case side1 => exact qC_ HR0_1 HB); (case side2 => exact HC0_1.out); rintro e w13 ⟨rfl, hb⟩; refine ⟨_, rfl, ?_⟩; replace a0 := qbl_ a0 hb; replace a1 := qbl_ a1 hb; replace a2 := qbl_ a2 hb; replace HB := hs_ hb; (try clear hb); (try clear hb2); (try clear hk); (try clear hi)))
 (try simp only [Act.put, sA_, sB_, sC_])
 go_cut [22] (fun v22 wc => ∃ (kq : Nat) (x22_3 : Bool), v22 = .bool x22_3 ∧ Aside0 (spec_Cut.j0 kq a4 x22_3 a0_0 l0_1 a1_0 a1_1 = some (r1, r2, r3)) ∧ Aside0 (kq ≤ k) ∧ Aside0 (wc.heap[a5]? = some (.cells #[.int .i64 a0_0, (.slice A0_1 l0_1.length c0_1)] 39 (0, 0))) ∧ Aside0 (wc.heap[a6]? = some (.cells #[.int .i64 a1_0, .int .i64 a1_1] 43 (0, 0))) ∧ Aside0 (wc.heap[a3]? = some (.cells #[.int .i64 0, (.slice none 0 0)] 39 (0, 0))) ∧ Aside0 (Below w.heap.size w wc))
 case first =>
  have H := j1.out; clear j1
  obtain ⟨f6, g4, H⟩ := Option.bind_eq_some_iff.mp H; have A14 := am_ g4; clear g4
  by_cases c15 : f6 = true
  ·subst c15
   rw [if_pos rfl] at H; have H' := am_ H; clear H; obtain ⟨k6, k7⟩ := nn_ a8; obtain ⟨k8, k9⟩ := nn_ a9
   obtain ⟨d8, d9, e0, e1⟩ := bc2_ a0
   obtain ⟨l0, l1⟩ := nn_ b4
   obtain ⟨e2, e3, e4, e5⟩ := bc2_ a1
   go_wp2_with (first | ((with_reducible refine gate_callee (f := 71) rfl ?_); refine gl_ (some 17) Try.func71 #[.int .i64 a0_0, .agg #[.int .i64 a1_0, .int .i64 a1_1]] ?_; (with_reducible refine (spec_EdgeOk.calls a0_0 a1_0 a1_1 true _ A14.out).mono ?_); rintro e w21 ⟨rfl, hb⟩; refine ⟨_, rfl, ?_⟩; replace a0 := qbl_ a0 hb; replace a1 := qbl_ a1 hb; replace a2 := qbl_ a2 hb; replace HB := hs_ hb; (try clear hb); (try clear hb2); (try clear hk); (try clear hi)))
   go_meet
   case rel => exact ⟨_, (decide (a4 < 0)), qe_, H', ⟨qo_⟩, ⟨qk_ a0⟩, ⟨qk_ a1⟩, ⟨qk_ a2⟩, ⟨qB_⟩⟩
  replace c15 := Bool.eq_false_iff.mpr c15
  subst c15
  rw [if_neg ff_] at H; have H' := am_ H; clear H; obtain ⟨l2, l3⟩ := nn_ a8; obtain ⟨l4, l5⟩ := nn_ a9
  obtain ⟨e6, e7, e8, e9⟩ := bc2_ a0
  obtain ⟨l6, l7⟩ := nn_ b4
  obtain ⟨f0, f1, f2, f3⟩ := bc2_ a1
  go_wp2_with (first | ((with_reducible refine gate_callee (f := 71) rfl ?_); refine gl_ (some 17) Try.func71 #[.int .i64 a0_0, .agg #[.int .i64 a1_0, .int .i64 a1_1]] ?_; (with_reducible refine (spec_EdgeOk.calls a0_0 a1_0 a1_1 false _ A14.out).mono ?_); rintro e w27 ⟨rfl, hb⟩; refine ⟨_, rfl, ?_⟩; replace a0 := qbl_ a0 hb; replace a1 := qbl_ a1 hb; replace a2 := qbl_ a2 hb; replace HB := hs_ hb; (try clear hb); (try clear hb2); (try clear hk); (try clear hi)))
  go_meet
  case rel => exact ⟨_, (true), qe_, H', ⟨qo_⟩, ⟨qk_ a0⟩, ⟨qk_ a1⟩, ⟨qk_ a2⟩, ⟨qB_⟩⟩
 case rest =>
  clear j1; (try clear c1); (try clear c2); (try clear p2); (try clear c6); (try clear c7); (try clear c8); (try clear c9); (try clear c11); (try clear c15); (try clear c16); (try clear c17); (try clear c19); (try clear c22); (try clear c23); (try clear c25); (try clear d0 d1); (try clear d4 d5); (try clear d8 d9); (try clear e2 e3); (try clear e6 e7); (try clear f0 f1); (try clear d2 d3); (try clear d6 d7); (try clear e0 e1); (try clear e4 e5); (try clear e8 e9); (try clear f2 f3)
  obtain ⟨kq, x22_3, rfl, HA, n8, a0, a1, a2, HB⟩ := hcut
  cases kq with
  | zero => exact absurd HA.out (by simp [spec_Cut.j0])
  | succ kj3 =>
   have H := HA.out; clear HA
   simp only [spec_Cut.j0] at H
   by_cases c28 : x22_3 = true
   ·subst c28
    rw [if_pos rfl] at H
    simp only [Option.some.injEq, Prod.mk.injEq] at H
    obtain ⟨rfl, rfl, rfl⟩ := H
    obtain ⟨l8, l9⟩ := nn_ b7; obtain ⟨m0, m1⟩ := nn_ b5
    obtain ⟨h4, h5, h6, h7⟩ := bc2_ a2
    go_wp2
    refine bodyPost_ret (results_ct rfl _ _ a3 39 #[.int .i64 0, .slice none 0 0] (0, 0) _ rfl (by (with_reducible repeat (first | refine blk_drewN ?_ _ | refine blk_drew ?_ | refine blk_alloc ?_ _)); refine blk_put (cs := #[.int .i64 0, .slice none 0 0]) ?_ 1 _ rfl; (with_reducible repeat (first | refine blk_drewN ?_ _ | refine blk_drew ?_ | refine blk_alloc ?_ _)); refine blk_put (cs := #[.int .i64 0, .slice none 0 0]) ?_ 0 _ rfl; exact qf_ a2) Try.underlying39 rfl (by kernel_rfl)) rfl ?_
    exact ⟨_, qr_, by first | exact Kd.S_nil _ _ _ _ _ | exact Kd.N_nil _ _ _ _ _ | exact Kd.V_nil _ _ _ _ _ | exact Kd.Q_nil _ _ _ _ _ | exact Kd.R_nil _ _ _ _ _, qB_⟩
   replace c28 := Bool.eq_false_iff.mpr c28
   subst c28
   rw [if_neg ff_] at H
   by_cases c32 : 0 ≤ a4
   rotate_left
   ·rw [if_neg c32] at H
    exact absurd H (by simp)
   rw [if_pos c32] at H
   have c32b0 := decide_eq_true c32
   clear c32
   by_cases c33 : a4 < (l0_1.length : Int)
   rotate_left
   ·rw [if_neg c33] at H
    exact absurd H (by simp)
   rw [if_pos c33] at H
   have c33b0 := decide_eq_true c33
   clear c33
   replace H := Option.bind_eq_some_iff.mp H
   obtain ⟨⟨b8, b9, g5⟩, g6, H⟩ := H
   replace H : (if g5 = true then ((spec_l07With.f kj3 a0_0 l0_1 (([a4] : List Int)) (([b8, b9] : List (List Int)))).bind fun b6 => (some (b6.1, b6.2, true))) else (some (0, ([] : List (List Int)), false))) = some (r1, r2, r3) := H
   have A34 := am_ g6
   clear g6
   by_cases c35 : g5 = true
   rotate_left
   ·replace c35 := Bool.eq_false_iff.mpr c35
    subst c35
    rw [if_neg ff_] at H
    simp only [Option.some.injEq, Prod.mk.injEq] at H
    obtain ⟨rfl, rfl, rfl⟩ := H
    try go_wp2
    replace a0 := am_ (blk_drew a0.out); replace a1 := am_ (blk_drew a1.out); replace a2 := am_ (blk_drew a2.out); replace HB := am_ (below_drew1 HB.out)
    have p244 := dp_ a4
    have q244 := dl_ a4 l0_1.length
    obtain ⟨ad244, A244_0, c244_0, e244, a7, hl244_0, hi244_0⟩ := at_L1 HR0_1.out a4 p244 q244
    have b2 := a7; cases e244
    replace a7 := qx_ HB a7
    have HR244_0 := am_ hi244_0
    have HC244_0 := am_ hl244_0
    clear hi244_0 hl244_0; replace p244 := eq_true p244; replace q244 := eq_true q244
    refine start_ (n := 17) (S := fun w' => w'.cell? ⟨a5, 0, none⟩ = some (.int .i64 a0_0) ∧ w'.cell? ⟨a5, 1, none⟩ = some (.slice (some ad244) l0_1.length c0_1) ∧ w'.cell? ⟨a6, 0, none⟩ = some (.int .i64 a1_0) ∧ w'.cell? ⟨a6, 1, none⟩ = some (.int .i64 a1_1) ∧ w'.cell? (ad244.add (a4).toNat) = some (.slice A244_0 (rd_L1 l0_1 a4).length c244_0)) (ds := []) (bm 17 0) (by kernel_rfl) rfl (by kernel_rfl) ⟨bl_ a0 0, bl_ a0 1, bl_ a1 0, bl_ a1 1, ((qx_ HB b2).trans rfl)⟩ (fun hHeld => ?_); refine with_tabW spec_Cut.tab4 spec_Cut.bits4 (fun HT_ HW_ => ?_)
    generalize wc.drew = w54 at a0 a1 a2 HB HR244_0 a7 hHeld ⊢
    refine pz_ 0 25 (bm 17 1) ?_; refine pz_ 2 27 (bm 17 5) ?_; refine pz_ 5 30 (bm 17 37) ?_; refine pz_ 7 32 (bm 17 165) ?_; refine tz5_ 1 26 (bm 17 167) ?_; refine pz_ 3 28 (bm 17 175) ?_; refine tz5_ 4 29 (bm 17 191) ?_; refine tz5_ 6 31 (bm 17 255) ?_; refine tz5_ 8 33 (bm 17 511) ?_
    refine o1_ 9 (some 34) (bm 17 1023) (fun K hK => ?_)
    refine gs_ Try.func72 #[.slice A244_0 (rd_L1 l0_1 a4).length c244_0, .int .i64 a1_0, .int .i64 a1_1] ?_
    with_reducible refine (spec_SplitTour.calls kj3 _ _ (rd_L1 l0_1 a4) a1_0 a1_1 b8 b9 false _ ?side1 ?side2 A34.out).mono ?_
    (case side1 => exact qC_ HR244_0 HB)
    (case side2 => exact HC244_0.out)
    rintro e w55 ⟨j2, j3, rfl, ho0, ho1, hb⟩
    refine ⟨_, rfl, ?_⟩
    have b0 := am_ (Kd.V_lower (Kd.V_mono (ok' := fun k_ => (w.heap.size ≤ k_) ∧ k_ ≠ a5 ∧ k_ ≠ a6 ∧ k_ ≠ a3) ho0 (fun k_ hk_ => ⟨(Nat.le_trans (below_size qB_) hk_), (Kd.freshB (qk_ a0) k_ hk_), (Kd.freshB (qk_ a1) k_ hk_), (Kd.freshB (qk_ a2) k_ hk_)⟩)) (below_size qB_)); have b1 := am_ (Kd.V_lower (Kd.V_mono (ok' := fun k_ => (w.heap.size ≤ k_) ∧ k_ ≠ a5 ∧ k_ ≠ a6 ∧ k_ ≠ a3) ho1 (fun k_ hk_ => ⟨(Nat.le_trans (below_size qB_) hk_), (Kd.freshB (qk_ a0) k_ hk_), (Kd.freshB (qk_ a1) k_ hk_), (Kd.freshB (qk_ a2) k_ hk_)⟩)) (below_size qB_)); replace a0 := qbl_ a0 hb; replace a1 := qbl_ a1 hb; replace a2 := qbl_ a2 hb; replace HB := am_ (below_step qB_ hb); (try clear hb); (try clear hb2); (try clear hk); (try clear hi); (try clear ho0); (try clear ho1)
    refine hK.out _ _ ⟨bl_ a0 0, bl_ a0 1, bl_ a1 0, bl_ a1 1, ((qx_ HB b2).trans rfl)⟩ (fun hHeld => ?_)
    clear hK K
    refine nm_ 34 ?_
    refine pz_ 10 24 (bm 17 2047) ?_; refine pz_ 11 35 (bm 17 4095) ?_; refine pz_ 12 36 (bm 17 8191) ?_; refine pz_ 13 37 (bm 17 16383) ?_; refine pz_ 14 7 (bm 17 32767) ?_; refine pz_ 15 8 (bm 17 65535) ?_; refine pz_ 16 9 (bm 17 131071) ?_
    refine done_ (done_of HT_.out (by kernel_rfl)) ?_
    obtain ⟨m2, m3⟩ := nn_ b7; obtain ⟨m4, m5⟩ := nn_ b5
    obtain ⟨h8, h9, i0, i1⟩ := bc2_ a2
    try go_wp2
    refine bodyPost_ret (results_ct rfl _ _ a3 39 #[.int .i64 0, .slice none 0 0] (0, 0) _ rfl (by (with_reducible repeat (first | refine blk_drewN ?_ _ | refine blk_drew ?_ | refine blk_alloc ?_ _)); refine blk_put (cs := #[.int .i64 0, .slice none 0 0]) ?_ 1 _ rfl; (with_reducible repeat (first | refine blk_drewN ?_ _ | refine blk_drew ?_ | refine blk_alloc ?_ _)); refine blk_put (cs := #[.int .i64 0, .slice none 0 0]) ?_ 0 _ rfl; exact qf_ a2) Try.underlying39 rfl (by kernel_rfl)) rfl ?_
    exact ⟨_, qr_, by first | exact Kd.S_nil _ _ _ _ _ | exact Kd.N_nil _ _ _ _ _ | exact Kd.V_nil _ _ _ _ _ | exact Kd.Q_nil _ _ _ _ _ | exact Kd.R_nil _ _ _ _ _, qB_⟩
   subst c35
   rw [if_pos rfl] at H
   obtain ⟨c4, hy252⟩ : ∃ y_ : List Int, y_ = (([a4] : List Int)) := ⟨_, rfl⟩
   replace H : ((spec_l07With.f kj3 a0_0 l0_1 c4 (([b8, b9] : List (List Int)))).bind fun b6 => (some (b6.1, b6.2, true))) = some (r1, r2, r3) := by first | (rw [hy252]; with_reducible exact H) | (have H2_ := (Option.bind_some _ _).symm.trans H; rw [hy252]; with_reducible exact H2_) | (have H2_ := (Option.bind_some _ _).symm.trans H; with_reducible exact H2_) | with_reducible exact H | (rw [hy252]; exact H) | exact H
   have Ny252 := am_ hy252
   clear hy252
   obtain ⟨f7, hy255⟩ : ∃ y_ : List (List Int), y_ = (([b8, b9] : List (List Int))) := ⟨_, rfl⟩
   replace H : ((spec_l07With.f kj3 a0_0 l0_1 c4 f7).bind fun b6 => (some (b6.1, b6.2, true))) = some (r1, r2, r3) := by first | (rw [hy255]; with_reducible exact H) | (have H2_ := (Option.bind_some _ _).symm.trans H; rw [hy255]; with_reducible exact H2_) | (have H2_ := (Option.bind_some _ _).symm.trans H; with_reducible exact H2_) | with_reducible exact H | (rw [hy255]; exact H) | exact H
   have Ny255 := am_ hy255
   clear hy255
   replace H := Option.bind_eq_some_iff.mp H
   obtain ⟨⟨c5, f4⟩, g7, H⟩ := H
   replace H : (some (c5, f4, true)) = some (r1, r2, r3) := H
   have A36 := am_ g7
   clear g7
   simp only [Option.some.injEq, Prod.mk.injEq] at H
   obtain ⟨rfl, rfl, rfl⟩ := H
   try go_wp2
   replace a0 := am_ (blk_drew a0.out); replace a1 := am_ (blk_drew a1.out); replace a2 := am_ (blk_drew a2.out); replace HB := am_ (below_drew1 HB.out)
   have p244 := dp_ a4
   have q244 := dl_ a4 l0_1.length
   obtain ⟨ad244, A244_0, c244_0, e244, a7, hl244_0, hi244_0⟩ := at_L1 HR0_1.out a4 p244 q244
   have b2 := a7; cases e244
   replace a7 := qx_ HB a7
   have HR244_0 := am_ hi244_0
   have HC244_0 := am_ hl244_0
   clear hi244_0 hl244_0; replace p244 := eq_true p244; replace q244 := eq_true q244
   refine start_ (n := 17) (S := fun w' => w'.cell? ⟨a5, 0, none⟩ = some (.int .i64 a0_0) ∧ w'.cell? ⟨a5, 1, none⟩ = some (.slice (some ad244) l0_1.length c0_1) ∧ w'.cell? ⟨a6, 0, none⟩ = some (.int .i64 a1_0) ∧ w'.cell? ⟨a6, 1, none⟩ = some (.int .i64 a1_1) ∧ w'.cell? (ad244.add (a4).toNat) = some (.slice A244_0 (rd_L1 l0_1 a4).length c244_0)) (ds := []) (bm 17 0) (by kernel_rfl) rfl (by kernel_rfl) ⟨bl_ a0 0, bl_ a0 1, bl_ a1 0, bl_ a1 1, ((qx_ HB b2).trans rfl)⟩ (fun hHeld => ?_); refine with_tabW spec_Cut.tab4 spec_Cut.bits4 (fun HT_ HW_ => ?_)
   generalize wc.drew = w37 at a0 a1 a2 HB HR244_0 a7 hHeld ⊢
   refine pz_ 0 25 (bm 17 1) ?_; refine pz_ 2 27 (bm 17 5) ?_; refine pz_ 5 30 (bm 17 37) ?_; refine pz_ 7 32 (bm 17 165) ?_; refine tz5_ 1 26 (bm 17 167) ?_; refine pz_ 3 28 (bm 17 175) ?_; refine tz5_ 4 29 (bm 17 191) ?_; refine tz5_ 6 31 (bm 17 255) ?_; refine tz5_ 8 33 (bm 17 511) ?_
   refine o1_ 9 (some 34) (bm 17 1023) (fun K hK => ?_)
   refine gs_ Try.func72 #[.slice A244_0 (rd_L1 l0_1 a4).length c244_0, .int .i64 a1_0, .int .i64 a1_1] ?_
   with_reducible refine (spec_SplitTour.calls kj3 _ _ (rd_L1 l0_1 a4) a1_0 a1_1 b8 b9 true _ ?side1 ?side2 A34.out).mono ?_
   (case side1 => exact qC_ HR244_0 HB)
   (case side2 => exact HC244_0.out)
   rintro e w38 ⟨j2, j3, rfl, ho0, ho1, hb⟩
   refine ⟨_, rfl, ?_⟩
   have b0 := am_ (Kd.V_lower (Kd.V_mono (ok' := fun k_ => (w.heap.size ≤ k_) ∧ k_ ≠ a5 ∧ k_ ≠ a6 ∧ k_ ≠ a3) ho0 (fun k_ hk_ => ⟨(Nat.le_trans (below_size qB_) hk_), (Kd.freshB (qk_ a0) k_ hk_), (Kd.freshB (qk_ a1) k_ hk_), (Kd.freshB (qk_ a2) k_ hk_)⟩)) (below_size qB_)); have b1 := am_ (Kd.V_lower (Kd.V_mono (ok' := fun k_ => (w.heap.size ≤ k_) ∧ k_ ≠ a5 ∧ k_ ≠ a6 ∧ k_ ≠ a3) ho1 (fun k_ hk_ => ⟨(Nat.le_trans (below_size qB_) hk_), (Kd.freshB (qk_ a0) k_ hk_), (Kd.freshB (qk_ a1) k_ hk_), (Kd.freshB (qk_ a2) k_ hk_)⟩)) (below_size qB_)); replace a0 := qbl_ a0 hb; replace a1 := qbl_ a1 hb; replace a2 := qbl_ a2 hb; replace HB := am_ (below_step qB_ hb); (try clear hb); (try clear hb2); (try clear hk); (try clear hi); (try clear ho0); (try clear ho1)
   refine hK.out _ _ ⟨bl_ a0 0, bl_ a0 1, bl_ a1 0, bl_ a1 1, ((qx_ HB b2).trans rfl)⟩ (fun hHeld => ?_)
   clear hK K
   refine nm_ 34 ?_
   refine pz_ 10 24 (bm 17 2047) ?_; refine pz_ 11 35 (bm 17 4095) ?_; refine pz_ 12 36 (bm 17 8191) ?_; refine pz_ 13 37 (bm 17 16383) ?_; refine pz_ 14 7 (bm 17 32767) ?_; refine pz_ 15 8 (bm 17 65535) ?_; refine pz_ 16 9 (bm 17 131071) ?_
   refine done_ (done_of HT_.out (by kernel_rfl)) ?_
   obtain ⟨m6, m7⟩ := nn_ a8; obtain ⟨m8, m9⟩ := nn_ a9
   obtain ⟨i2, i3, i4, i5⟩ := bc2_ a0
   try go_wp2_with (first | ((with_reducible refine gate_dst (N := 43) rfl ?_); refine Kd.R_lit (Kd.int .i64) _ 3 ?hg (N := 43) ?hd (xs := ([a4] : List Int)) (inner := [.int .i64 a4]) (ok := fun _ => True) (okp := fun _ => True) ?hr ?hp (fun _ hk => hk) trivial (Below.refl _ _) (Nat.le_refl _) (by simp) ?_; (case hd => rfl); (case hg => rfl); (case hr => first | (go_simp; done) | (go_simp; rfl)); (case hp => exact (Reps.one (show Kd.M (Kd.int .i64) _ _ _ a4 [.int .i64 a4] from rfl) (Reps.none _ _))); intro c0 w42 ho43 hb hg_ hnew_; clear hg_ hnew_; (first | rw [← Ny252.out] at ho43 | (simp only [Int.reduceToNat] at ho43; rw [← Ny252.out] at ho43)); have b3 := am_ (Kd.R_lower (Kd.R_newM (M := fun k_ => (w.heap.size ≤ k_)) ho43 (below_size qB_) (fun k_ h_ => h_)) (below_size qB_)); replace b0 := am_ (Kd.V_elder' (by (with_reducible repeat (first | apply Kd.V_alloc | apply Kd.V_drewN | apply Kd.V_drew)); exact b0.out) (Kd.R_base ho43) hb); replace b1 := am_ (Kd.V_elder' (by (with_reducible repeat (first | apply Kd.V_alloc | apply Kd.V_drewN | apply Kd.V_drew)); exact b1.out) (Kd.R_base ho43) hb); replace a0 := qbl_ a0 hb; replace a1 := qbl_ a1 hb; replace a2 := qbl_ a2 hb; replace HB := hs_ hb; clear hb ho43; obtain ⟨g8, g9, j4⟩ := Kd.V_slice b0.out; subst j4; obtain ⟨h0, h1, j5⟩ := Kd.V_slice b1.out; subst j5) | ((with_reducible refine gate_dst (N := 46) rfl ?_); refine Kd.N_lit (Kd.slice 3 (Kd.int .i64)) _ 51 ?hg (N' := 46) ?hd (xs := ([b8, b9] : List (List Int))) (inner := [.slice g8 b8.length g9, .slice h0 b9.length h1]) (ok := (fun k_ => (w.heap.size ≤ k_) ∧ some k_ ≠ (c0 : Value).ownBlock ∧ k_ ≠ a5 ∧ k_ ≠ a6 ∧ k_ ≠ a3)) (okp := (fun k_ => (w.heap.size ≤ k_) ∧ some k_ ≠ (c0 : Value).ownBlock ∧ k_ ≠ a5 ∧ k_ ≠ a6 ∧ k_ ≠ a3)) ?hr ?hp (fun _ hk => hk) ((show ∀ k_, w42.heap.size ≤ k_ → (fun k_ => (w.heap.size ≤ k_) ∧ some k_ ≠ (c0 : Value).ownBlock ∧ k_ ≠ a5 ∧ k_ ≠ a6 ∧ k_ ≠ a3) k_ from fun k_ hk => ⟨(Nat.le_trans (below_size qB_) hk), Kd.fresh' (Kd.R_lt (qR_ b3)) k_ hk, Kd.freshB (qk_ a0) k_ hk, Kd.freshB (qk_ a1) k_ hk, Kd.freshB (qk_ a2) k_ hk⟩) _ (Nat.le_refl _)) (Below.refl _ _) (Nat.le_refl _) (by simp) ?_; (case hd => rfl); (case hg => rfl); (case hr => first | (go_simp; done) | (go_simp; rfl)); (case hp => exact (Reps.one (show Kd.FK (Kd.slice 3 (Kd.int .i64)) _ _ b8 [.slice g8 b8.length g9] from (Kd.FK_slice_mk (Kd.V_reads' (Kd.V_mono (ok' := (fun k_ => (w.heap.size ≤ k_) ∧ some k_ ≠ (c0 : Value).ownBlock ∧ k_ ≠ a5 ∧ k_ ≠ a6 ∧ k_ ≠ a3)) (b0.out) (fun k_ hk => ⟨hk.1.1, ⟨hk.2, ⟨hk.1.2.1, ⟨hk.1.2.2.1, hk.1.2.2.2⟩⟩⟩⟩))).2.1 (Kd.V_F (Kd.V_mono (ok' := (fun k_ => (w.heap.size ≤ k_) ∧ some k_ ≠ (c0 : Value).ownBlock ∧ k_ ≠ a5 ∧ k_ ≠ a6 ∧ k_ ≠ a3)) (b0.out) (fun k_ hk => ⟨hk.1.1, ⟨hk.2, ⟨hk.1.2.1, ⟨hk.1.2.2.1, hk.1.2.2.2⟩⟩⟩⟩))))) (Reps.one (show Kd.FK (Kd.slice 3 (Kd.int .i64)) _ _ b9 [.slice h0 b9.length h1] from (Kd.FK_slice_mk (Kd.V_reads' (Kd.V_mono (ok' := (fun k_ => (w.heap.size ≤ k_) ∧ some k_ ≠ (c0 : Value).ownBlock ∧ k_ ≠ a5 ∧ k_ ≠ a6 ∧ k_ ≠ a3)) (b1.out) (fun k_ hk => ⟨hk.1.1, ⟨hk.2, ⟨hk.1.2.1, ⟨hk.1.2.2.1, hk.1.2.2.2⟩⟩⟩⟩))).2.1 (Kd.V_F (Kd.V_mono (ok' := (fun k_ => (w.heap.size ≤ k_) ∧ some k_ ≠ (c0 : Value).ownBlock ∧ k_ ≠ a5 ∧ k_ ≠ a6 ∧ k_ ≠ a3)) (b1.out) (fun k_ hk => ⟨hk.1.1, ⟨hk.2, ⟨hk.1.2.1, ⟨hk.1.2.2.1, hk.1.2.2.2⟩⟩⟩⟩))))) (Reps.none _ _)))); intro n6 w46 ho47 hb hg_ hnew_; clear hg_ hnew_; (first | rw [← Ny255.out] at ho47 | (simp only [Int.reduceToNat] at ho47; rw [← Ny255.out] at ho47)); have c3 := am_ (Kd.N_lower ho47 (below_size qB_)); replace b0 := am_ (Kd.V_elder' (by (with_reducible repeat (first | apply Kd.V_alloc | apply Kd.V_drewN | apply Kd.V_drew)); exact b0.out) (Kd.N_base ho47) hb); replace b1 := am_ (Kd.V_elder' (by (with_reducible repeat (first | apply Kd.V_alloc | apply Kd.V_drewN | apply Kd.V_drew)); exact b1.out) (Kd.N_base ho47) hb); replace b3 := am_ (Kd.R_below (qR_ b3) hb); replace a0 := qbl_ a0 hb; replace a1 := qbl_ a1 hb; replace a2 := qbl_ a2 hb; replace HB := hs_ hb; clear hb ho47; obtain ⟨f8, f9, j6⟩ := Kd.R_slice b3.out; subst j6; obtain ⟨j7, j8, j9⟩ := Kd.N_slice c3.out; subst j9) | ((with_reducible refine gate_callee (f := 73) rfl ?_); refine gl_ (some 47) Try.func73 #[.agg #[.int .i64 a0_0, .slice (some ad244) l0_1.length c0_1], .slice f8 c4.length f9, .slice j7 f7.length j8] ?_; (with_reducible refine (spec_l07With.calls kj3 a0_0 _ _ l0_1 _ _ c4 (fun k_ => ((w.heap.size ≤ k_) ∧ (some k_ ≠ (.slice f8 c4.length f9 : Value).ownBlock ∧ (k_ ≠ a5 ∧ (k_ ≠ a6 ∧ k_ ≠ a3))))) _ _ f7 c5 f4 _ ?side1 ?side2 ?side3 ?side4 ?side5 A36.out).mono ?_); (case side1 => exact qC_ HR0_1 HB); (case side2 => exact HC0_1.out); (case side3 => exact qD_ (Kd.R_reads' b3.out).2.2); (case side4 => exact (Kd.R_reads' b3.out).2.1); (case side5 => exact Kd.N_V (c3.out)); rintro e w50 ⟨n7, rfl, ho0, hb⟩; refine ⟨_, rfl, ?_⟩; have f5 := am_ (Kd.N_lower (Kd.N_mono (ok' := fun k_ => (w.heap.size ≤ k_) ∧ some k_ ≠ (.slice f8 c4.length f9 : Value).ownBlock ∧ k_ ≠ a5 ∧ k_ ≠ a6 ∧ k_ ≠ a3) ho0 (fun k_ hk_ => ⟨Or.elim hk_ (fun hs_ => hs_.1) (fun hn_ => (Nat.le_trans (below_size qB_) hn_)), Or.elim hk_ (fun hs_ => hs_.2.1) (fun hn_ => (Kd.fresh' (Kd.R_lt (qR_ b3)) k_ hn_)), Or.elim hk_ (fun hs_ => hs_.2.2.1) (fun hn_ => (Kd.freshB (qk_ a0) k_ hn_)), Or.elim hk_ (fun hs_ => hs_.2.2.2.1) (fun hn_ => (Kd.freshB (qk_ a1) k_ hn_)), Or.elim hk_ (fun hs_ => hs_.2.2.2.2) (fun hn_ => (Kd.freshB (qk_ a2) k_ hn_))⟩)) (below_size qB_)); replace b0 := am_ (Kd.V_elder' (by (with_reducible repeat (first | apply Kd.V_alloc | apply Kd.V_drewN | apply Kd.V_drew)); exact b0.out) (Kd.N_base ho0) hb); replace b1 := am_ (Kd.V_elder' (by (with_reducible repeat (first | apply Kd.V_alloc | apply Kd.V_drewN | apply Kd.V_drew)); exact b1.out) (Kd.N_base ho0) hb); replace b3 := am_ (Kd.R_below (qR_ b3) hb); replace c3 := am_ (Kd.N_elder' (by (with_reducible repeat (first | apply Kd.N_alloc | apply Kd.N_drewN | apply Kd.N_drew)); exact c3.out) (Kd.N_base ho0) hb); replace a0 := qbl_ a0 hb; replace a1 := qbl_ a1 hb; replace a2 := qbl_ a2 hb; replace HB := hs_ hb; (try clear hb); (try clear hb2); (try clear hk); (try clear hi); (try clear ho0); obtain ⟨n0, n1⟩ := nn_ b5; obtain ⟨i6, i7, i8, i9⟩ := bc2_ a2; obtain ⟨h2, h3, k0⟩ := Kd.N_slice f5.out; subst k0))
   refine bodyPost_ret (results_ct rfl _ _ a3 39 #[.int .i64 c5, .slice h2 f4.length h3] (0, 0) _ rfl (by (with_reducible repeat (first | refine blk_drewN ?_ _ | refine blk_drew ?_ | refine blk_alloc ?_ _)); refine blk_put (cs := #[.int .i64 c5, .slice none 0 0]) ?_ 1 _ rfl; (with_reducible repeat (first | refine blk_drewN ?_ _ | refine blk_drew ?_ | refine blk_alloc ?_ _)); refine blk_put (cs := #[.int .i64 0, .slice none 0 0]) ?_ 0 _ rfl; exact qf_ a2) Try.underlying39 rfl (by kernel_rfl)) rfl ?_
   exact ⟨_, qr_, by (with_reducible repeat (first | apply Kd.N_alloc | apply Kd.N_drewN | apply Kd.N_drew)); exact Kd.N_mono (Kd.N_far (p := ⟨a3, 1, none⟩) (Kd.N_far (p := ⟨a3, 0, none⟩) (Kd.N_mono f5.out (fun k_ hk => (⟨hk, hk.2.2.2.2⟩ : _ ∧ k_ ≠ a3))) (fun _ hk => hk.2) (.int .i64 c5)) (fun _ hk => hk.2) (.slice h2 f4.length h3)) (fun _ hk => hk.1.1), qB_⟩
def laws_toIntS.l0 : Nat → List Int → List Int → Int → Option (List Int)
  | 0, _, _, _ => none
  | k + 1, x0, x3, x4 => if x4 < (x0.length : Int) then (if 0 ≤ x4 then (if x4 < (x3.length : Int) then (laws_toIntS.l0 k x0 (x3.set (x4 : Int).toNat (rd x0 x4)) (wrap64 (x4 + 1))) else (none)) else (none)) else (some x3)
def laws_toIntS.f (k : Nat) (l0 : List Int) : Option (List Int) := if 0 ≤ (l0.length : Int) then (if ((l0.length : Int) : Int).toNat ≤ 35184372088832 then (laws_toIntS.l0 k l0 (List.replicate ((l0.length : Int) : Int).toNat 0) 0) else (none)) else (none)
theorem laws_toIntS.mono_l : ∀ k, (∀ y0 y1 y2, LeO (laws_toIntS.l0 k y0 y1 y2) (laws_toIntS.l0 (k + 1) y0 y1 y2))
  | 0 => fun _ _ _ r h => by simp [laws_toIntS.l0] at h
  | k + 1 => by
    have ih0 := laws_toIntS.mono_l k
    · intro y0 y1 y2
      unfold laws_toIntS.l0
      repeat' first | (with_reducible first | exact ih0 _ _ _ | exact LeO.refl _ | exact LeO.none _ | refine LeO.ite ?_ ?_ | refine LeO.bind ?_ (fun _ => ?_)) | exact LeO.none _ | refine LeO.ite ?_ ?_ | refine LeO.bind ?_ (fun _ => ?_)
theorem laws_toIntS.mono : ∀ a0 k, LeO (laws_toIntS.f k a0) (laws_toIntS.f (k + 1) a0) := by
  intro a0 k
  have ih0 := laws_toIntS.mono_l k
  unfold laws_toIntS.f
  repeat' first | (with_reducible first | exact ih0 _ _ _ | exact LeO.refl _ | exact LeO.none _ | refine LeO.ite ?_ ?_ | refine LeO.bind ?_ (fun _ => ?_)) | exact LeO.none _ | refine LeO.ite ?_ ?_ | refine LeO.bind ?_ (fun _ => ?_)
set_option maxHeartbeats 8000000 in
set_option maxRecDepth 100000 in
theorem laws_toIntS.calls (k : Nat) (A0 : Option Addr) (c0 : Nat) (l0 : List Int) (r : List Int) (w : World) (hr0 : Kd.C (Kd.int .i64) w A0 l0.length l0) (hc0 : l0.length ≤ c0) (h : laws_toIntS.f k l0 = some r) :
  Calls Try.prog 118 #[.slice A0 l0.length c0] w fun e w' => ∃ v0_ : Value, e = .returned (v0_) ∧ Kd.R (Kd.int .i64) 3 w' w.heap.size (fun _ => True) v0_ r ∧ Below w.heap.size w w' := by
 have a9 := am_ hr0
 have b1 := am_ hc0
 clear hr0 hc0
 have HB := am_ (Below.refl w.heap.size w)
 have H : (if 0 ≤ (l0.length : Int) then (if ((l0.length : Int) : Int).toNat ≤ 35184372088832 then (laws_toIntS.l0 k l0 (List.replicate ((l0.length : Int) : Int).toNat 0) 0) else (none)) else (none)) = some r := h
 clear h
 by_cases c2 : 0 ≤ (l0.length : Int)
 rotate_left
 ·rw [if_neg c2] at H
  exact absurd H (by simp)
 rw [if_pos c2] at H
 have c2b0 := eq_true c2
 have c2b1 := decide_eq_true c2
 clear c2
 by_cases c3 : ((l0.length : Int) : Int).toNat ≤ 35184372088832
 rotate_left
 ·rw [if_neg c3] at H
  exact absurd H (by simp)
 rw [if_pos c3] at H
 have c3b0 := eq_true c3
 have c3b1 := decide_eq_true c3
 clear c3
 obtain ⟨a4, hy262⟩ : ∃ y_ : List Int, y_ = (List.replicate ((l0.length : Int) : Int).toNat 0) := ⟨_, rfl⟩
 replace H : (laws_toIntS.l0 k l0 a4 0) = some r := by first | (rw [hy262]; with_reducible exact H) | (have H2_ := (Option.bind_some _ _).symm.trans H; rw [hy262]; with_reducible exact H2_) | (have H2_ := (Option.bind_some _ _).symm.trans H; with_reducible exact H2_) | with_reducible exact H | (rw [hy262]; exact H) | exact H
 have Ny262 := am_ hy262
 clear hy262; have H' := am_ H; clear H
 go_enter Try.func118, Try.ntmps118
 go_wp2_with (first | ((with_reducible refine gate_dst (N := 7) rfl ?_); refine Kd.R_make (Kd.int .i64) _ 3 rfl (N := 7) rfl 51 _ _ rfl (l0.length : Int) rfl rfl Try.underlying51 (.int .i64 0) 8 info3 rfl (by decide) (by omega) 0 (ok := fun _ => True) (okp := fun _ => True) rfl (fun _ hk => hk) trivial (of_decide_eq_true qa_) (Nat.le_trans (Nat.mul_le_mul_right _ (of_decide_eq_true qa_ : (l0.length : Int).toNat ≤ 35184372088832)) (by omega)) (Below.refl _ _) (Nat.le_refl _) ?_; intro a5 w4 ho5 hb hg_ hnew_; clear hg_ hnew_; (first | rw [← Ny262.out] at ho5 | (simp only [Int.reduceToNat] at ho5; rw [← Ny262.out] at ho5)); have a2 := am_ (Kd.R_lower ho5 (below_size qB_)); replace HB := hs_ hb; clear hb ho5))
 go_loopg [4] k (fun kq v4 w' => ∃ (x3_1 : List Int) (x4_1 : Int), v4 = .int .i64 x4_1 ∧ Aside0 (laws_toIntS.l0 kq l0 x3_1 x4_1 = some r) ∧ Aside0 (kq ≤ k) ∧ Aside0 (Kd.R (Kd.int .i64) 3 w' w.heap.size (fun _ => True) a5 x3_1) ∧ Aside0 (Below w.heap.size w w'))
 case atStart => exact ⟨(a4), (0), qe_, H', ⟨Nat.le_refl _⟩, ⟨by (with_reducible repeat (first | apply Kd.R_alloc | apply Kd.R_drewN | apply Kd.R_drew)); first | exact a2.out | (have h_ := a2.out; simp only [own_slice] at h_ ⊢; exact h_)⟩, ⟨qB_⟩⟩
 case round =>
  clear H'
  (try clear c1); (try clear c2); (try clear c2b0); (try clear c2b1); (try clear p2); (try clear c3); (try clear c3b0); (try clear c3b1)
  obtain ⟨x3_1, x4_1, rfl, HA, HK1, a0, HB⟩ := hrel
  cases gk with
  | zero => exact absurd HA.out (by simp [laws_toIntS.l0])
  | succ k1 =>
   have H := HA.out; clear HA
   simp only [laws_toIntS.l0] at H
   by_cases c6 : x4_1 < (l0.length : Int)
   rotate_left
   ·rw [if_neg c6] at H
    have c6b0 := decide_eq_false c6
    clear c6
    obtain rfl := Option.some.inj H
    go_wp2
    go_ret
    exact ⟨_, qr_, by (with_reducible repeat (first | apply Kd.R_alloc | apply Kd.R_drewN | apply Kd.R_drew)); exact a0.out, qB_⟩
   rw [if_pos c6] at H
   have c6b0 := decide_eq_true c6
   clear c6
   by_cases c7 : 0 ≤ x4_1
   rotate_left
   ·rw [if_neg c7] at H
    exact absurd H (by simp)
   rw [if_pos c7] at H
   have c7b0 := decide_eq_true c7
   clear c7
   by_cases c8 : x4_1 < (x3_1.length : Int)
   rotate_left
   ·rw [if_neg c8] at H
    exact absurd H (by simp)
   rw [if_pos c8] at H
   have c8b0 := decide_eq_true c8
   clear c8
   obtain ⟨a3, hy266⟩ : ∃ y_ : List Int, y_ = (x3_1.set (x4_1 : Int).toNat (rd l0 x4_1)) := ⟨_, rfl⟩
   replace H : (laws_toIntS.l0 k1 l0 a3 (wrap64 (x4_1 + 1))) = some r := by first | (rw [hy266]; with_reducible exact H) | (have H2_ := (Option.bind_some _ _).symm.trans H; rw [hy266]; with_reducible exact H2_) | (have H2_ := (Option.bind_some _ _).symm.trans H; with_reducible exact H2_) | with_reducible exact H | (rw [hy266]; exact H) | exact H
   have Ny266 := am_ hy266
   clear hy266; have H' := am_ H; clear H
   have p265 := dp_ x4_1
   have q265 := dl_ x4_1 l0.length
   obtain ⟨ad265, e265, a1⟩ := Kd.at_int a9.out x4_1 p265 q265
   cases e265
   replace a1 := qx_ HB a1
   replace p265 := eq_true p265; replace q265 := eq_true q265
   have p9 := dp_ x4_1
   have q9 : (x4_1 : Int) < ((x3_1.length : Int) : Int) := of_decide_eq_true qa_
   obtain ⟨go9, b0, a6, a7, gl9, cl9, HG9⟩ := Kd.R_form a0.out (by omega)
   (first | cases a6 | (injection a6 with ea_ en_ ec_; (first | subst ea_ | (injection ea_ with ea_; subst ea_)); subst ec_; clear en_))
   have GB9 := am_ a7
   have GG9 := am_ HG9
   clear a7 gl9 HG9
   obtain ⟨a8, hf9_0⟩ := Kd.R_celln 0 a0.out (x4_1 : Int) p9 q9
   replace p9 := eq_true p9; replace q9 := eq_true q9
   have HP10 := Kd.R_putg a0.out (x4_1 : Int) (rd l0 x4_1)
   go_wp2_with (first | ((with_reducible refine gate_store (t := 3) (p := 20) rfl ?_); refine store_event (t := 3) (p := 20) (v := ?vo_w11) (w1 := (wr.setCell ⟨go9, (x4_1 : Int).toNat, none⟩ (.int .i64 (rd l0 x4_1)))) ?hg ?ho ?hn ?hr ?_; (case ho => rfl); (case hg => rfl); (case hn => rfl); (case hr => first | (go_simp; done) | (go_simp; rfl)); intro w11 hw; have hg : wr.grownBy w11 (some go9) := (by rw [hw]; exact HP10.2); have hp_ : Kd.R (Kd.int .i64) 3 w11 w.heap.size (fun _ => True) (.slice (some ⟨go9, 0, none⟩) x3_1.length b0) a3 := (by rw [hw, Ny266.out]; exact HP10.1); clear HP10; replace a0 := am_ (hp_); replace HB := am_ ((by rw [hw]; exact below_set (HB.out) GB9.out : Below w.heap.size w w11)); clear hg hw hp_))
   go_roundg k1
   case measure => have := HK1.out; omega
   case rel => exact ⟨(a3), (wrap64 (x4_1 + 1)), qe_, H', ⟨by have := HK1.out; omega⟩, ⟨by (with_reducible repeat (first | apply Kd.R_alloc | apply Kd.R_drewN | apply Kd.R_drew)); first | exact a0.out | (have h_ := a0.out; simp only [own_slice] at h_ ⊢; exact h_)⟩, ⟨qB_⟩⟩
end Go.Proofs.Ytbkklafkoegdpaa.QFnExactCut
