import Derived.Test.YtbkklafkoegdpaaQFnExactLinkx5
import Derived.Test.YtbkklafkoegdpaaQFnExactLinkx7
namespace Go.Proofs.Ytbkklafkoegdpaa.QFnExactLink
open Go.RowKit Go.Proofs.YtbkklafkoegdpaaW.PrintWords Go.Proofs.YtbkklafkoegdpaaW.PrintLast Go.Proofs.YtbkklafkoegdpaaW.PrintMore
set_option linter.unusedVariables false
set_option linter.unusedSimpArgs false
def spec_Link.j0 : Nat → Int → Int → Bool → Int → List (List Int) → Int → Int → Option (Int × (List (List Int)) × Bool)
  | 0, _, _, _, _, _, _, _ => none
  | k + 1, x6, x7, x35, x293000, x293001, x294000, x294001 => if x35 = true then (some (0, ([] : List (List Int)), false)) else (if 0 ≤ x6 then (if x6 < (x293001.length : Int) then (if 0 ≤ x7 then (if x7 < (x293001.length : Int) then ((spec_JoinTours.f k (rd_L1 x293001 x6) x294000 (rd_L1 x293001 x7) x294001).bind fun bt300 => ((spec_l07With.f k x293000 x293001 (([x6, x7] : List Int)) (([bt300.1] : List (List Int)))).bind fun bt310 => (some (bt310.1, bt310.2, true)))) else (none)) else (none)) else (none)) else (none))
def spec_Link.f (k : Nat) (a0_0 : Int) (l0_1 : List (List Int)) (a1_0 : Int) (a1_1 : Int) : Option (Int × (List (List Int)) × Bool) := (spec_TreeOf.f k a0_0 l0_1 a1_0).bind fun t295 => ((spec_TreeOf.f k a0_0 l0_1 a1_1).bind fun t296 => ((spec_EdgeOk.f a0_0 a1_0 a1_1).bind fun t297 => (if t297 = true then (if t295 < 0 then (spec_Link.j0 k t295 t296 true a0_0 l0_1 a1_0 a1_1) else (if t296 < 0 then (spec_Link.j0 k t295 t296 true a0_0 l0_1 a1_0 a1_1) else (spec_Link.j0 k t295 t296 (t295 == t296) a0_0 l0_1 a1_0 a1_1))) else (spec_Link.j0 k t295 t296 true a0_0 l0_1 a1_0 a1_1))))
theorem spec_Link.mono_l : ∀ k, (∀ y0 y1 y2 y3 y4 y5 y6, LeO (spec_Link.j0 k y0 y1 y2 y3 y4 y5 y6) (spec_Link.j0 (k + 1) y0 y1 y2 y3 y4 y5 y6))
  | 0 => fun _ _ _ _ _ _ _ r h => by simp [spec_Link.j0] at h
  | k + 1 => by
    have ih0 := spec_Link.mono_l k
    · intro y0 y1 y2 y3 y4 y5 y6
      unfold spec_Link.j0
      repeat' first | (with_reducible first | exact ih0 _ _ _ _ _ _ _ | exact spec_JoinTours.mono _ _ _ _ _ | exact spec_TreeOf.mono _ _ _ _ | exact spec_l07With.mono _ _ _ _ _ | exact LeO.refl _ | exact LeO.none _ | refine LeO.ite ?_ ?_ | refine LeO.bind ?_ (fun _ => ?_)) | exact LeO.none _ | refine LeO.ite ?_ ?_ | refine LeO.bind ?_ (fun _ => ?_)
theorem spec_Link.mono : ∀ a0 a1 a2 a3 k, LeO (spec_Link.f k a0 a1 a2 a3) (spec_Link.f (k + 1) a0 a1 a2 a3) := by
  intro a0 a1 a2 a3 k
  have ih0 := spec_Link.mono_l k
  unfold spec_Link.f
  repeat' first | (with_reducible first | exact ih0 _ _ _ _ _ _ _ | exact spec_JoinTours.mono _ _ _ _ _ | exact spec_TreeOf.mono _ _ _ _ | exact spec_l07With.mono _ _ _ _ _ | exact LeO.refl _ | exact LeO.none _ | refine LeO.ite ?_ ?_ | refine LeO.bind ?_ (fun _ => ?_)) | exact LeO.none _ | refine LeO.ite ?_ ?_ | refine LeO.bind ?_ (fun _ => ?_)
def spec_Link.T5 : Bool × List (List Nat × List Nat) := (true, [([], []), ([0], [0]), ([], []), ([1, 2], [1, 2]), ([3], [3]), ([], []), ([5], [5]), ([], []), ([7], [7]), ([], []), ([8, 9], [8, 9]), ([10], [10]), ([], []), ([12], [12]), ([4, 6, 11, 13], [4, 6, 11, 13]), ([14], [14]), ([15], [15]), ([15], [15]), ([16, 14, 0, 1, 2, 3, 4, 5, 6, 7, 8, 9, 10, 11, 12, 13, 14, 15, 16], [16]), ([17, 18, 0, 1, 2, 3, 4, 5, 6, 7, 8, 9, 10, 11, 12, 13, 14, 15, 16, 17, 18], [17])])
def spec_Link.B5 : List Nat := [0, 1, 0, 7, 15, 0, 32, 0, 128, 0, 896, 1920, 0, 4096, 16383, 32767, 65535, 65535, 131071, 524287]
theorem spec_Link.tab5 : rtab .any (opsOf Try.f30 5) = spec_Link.T5 := by kernel_rfl
theorem spec_Link.bits5 : waitsOk spec_Link.T5.2 spec_Link.B5 = true := by kernel_rfl
set_option maxHeartbeats 8000000 in
set_option maxRecDepth 100000 in
theorem spec_Link.calls (k : Nat) (a0_0 : Int) (A0_1 : Option Addr) (c0_1 : Nat) (l0_1 : List (List Int)) (a1_0 : Int) (a1_1 : Int) (r1 : Int) (r2 : List (List Int)) (r3 : Bool) (w : World) (hr0_1 : Kd.C (Kd.slice 3 (Kd.int .i64)) w A0_1 l0_1.length l0_1) (hc0_1 : l0_1.length ≤ c0_1) (h : spec_Link.f k a0_0 l0_1 a1_0 a1_1 = some (r1, r2, r3)) :
  Calls Try.prog 30 #[.agg #[.int .i64 a0_0, .slice A0_1 l0_1.length c0_1], .agg #[.int .i64 a1_0, .int .i64 a1_1]] w fun e w' => ∃ v1_ : Value, e = .returned (.tuple #[.agg #[.int .i64 r1, v1_], .bool r3]) ∧ Kd.N (Kd.slice 3 (Kd.int .i64)) 51 w' w.heap.size (fun k_ => (w.heap.size ≤ k_)) v1_ r2 ∧ Below w.heap.size w w' := by
 have hu39 := Try.underlying39; have hu43 := Try.underlying43
 have HR0_1 := am_ hr0_1
 have HC0_1 := am_ hc0_1
 clear hr0_1 hc0_1
 have HB := am_ (Below.refl w.heap.size w)
 have H : ((spec_TreeOf.f k a0_0 l0_1 a1_0).bind fun a3 => ((spec_TreeOf.f k a0_0 l0_1 a1_1).bind fun a4 => ((spec_EdgeOk.f a0_0 a1_0 a1_1).bind fun i2 => (if i2 = true then (if a3 < 0 then (spec_Link.j0 k a3 a4 true a0_0 l0_1 a1_0 a1_1) else (if a4 < 0 then (spec_Link.j0 k a3 a4 true a0_0 l0_1 a1_0 a1_1) else (spec_Link.j0 k a3 a4 (a3 == a4) a0_0 l0_1 a1_0 a1_1))) else (spec_Link.j0 k a3 a4 true a0_0 l0_1 a1_0 a1_1))))) = some (r1, r2, r3) := h
 clear h
 obtain ⟨a3, A30, H⟩ := Option.bind_eq_some_iff.mp H; have A3 := am_ A30; clear A30
 obtain ⟨a4, A40, H⟩ := Option.bind_eq_some_iff.mp H; have A4 := am_ A40; clear A40
 have l0 := am_ H
 clear H
 go_enter Try.func30, Try.ntmps30
 go_upto_region 3 with (first | ((with_reducible refine gate_dst (N := 2) rfl ?_); refine by_ 2 (cs := #[.int .i64 a0_0, .slice A0_1 l0_1.length c0_1]) (t := 39) ?_; intro a9 hg w6 a0 hb; have i7 := gw_ hg; have l8 := i7; replace HB := hs_ hb; clear hb hg) | ((with_reducible refine gate_dst (N := 3) rfl ?_); refine by_ 3 (cs := #[.int .i64 a1_0, .int .i64 a1_1]) (t := 43) ?_; intro b0 hg w7 a1 hb; have i8 := gw_ hg; have l9 := i8; obtain ⟨a5, i6⟩ := qn_ a0 hg; replace a0 := qbl_ a0 hb; replace HB := hs_ hb; clear hb hg) | ((with_reducible refine gate_dst (N := 4) rfl ?_); refine by_ 4 (cs := #[.int .i64 0, .slice none 0 0]) (t := 39) ?_; intro a7 hg w8 a2 hb; have i9 := gw_ hg; have m0 := i9; obtain ⟨a6, c5⟩ := qn_ a0 hg; obtain ⟨a8, b6⟩ := qn_ a1 hg; replace a0 := qbl_ a0 hb; replace a1 := qbl_ a1 hb; replace HB := hs_ hb; clear hb hg; obtain ⟨q0, q1⟩ := nn_ a5; obtain ⟨m1, m2⟩ := nn_ a6; obtain ⟨d2, d3, d4, d5⟩ := bc2_ a0; obtain ⟨m3, m4⟩ := nn_ a8; obtain ⟨d6, d7, d8, d9⟩ := bc2_ a1) | ((with_reducible refine gate_callee (f := 60) rfl ?_); refine gl_ (some 13) Try.func60 #[.agg #[.int .i64 a0_0, .slice A0_1 l0_1.length c0_1], .int .i64 a1_0] ?_; (with_reducible refine (spec_TreeOf.calls k a0_0 _ _ l0_1 a1_0 a3 _ ?side1 ?side2 A3.out).mono ?_); (case side1 => exact qC_ HR0_1 HB); (case side2 => exact HC0_1.out); rintro e w14 ⟨rfl, hb⟩; refine ⟨_, rfl, ?_⟩; replace a0 := qbl_ a0 hb; replace a1 := qbl_ a1 hb; replace a2 := qbl_ a2 hb; replace HB := hs_ hb; (try clear hb); (try clear hb2); (try clear hk); (try clear hi); obtain ⟨e0, e1, e2, e3⟩ := bc2_ a0; obtain ⟨e4, e5, e6, e7⟩ := bc2_ a1) | ((with_reducible refine gate_callee (f := 60) rfl ?_); refine gl_ (some 17) Try.func60 #[.agg #[.int .i64 a0_0, .slice A0_1 l0_1.length c0_1], .int .i64 a1_1] ?_; (with_reducible refine (spec_TreeOf.calls k a0_0 _ _ l0_1 a1_1 a4 _ ?side1 ?side2 A4.out).mono ?_); (case side1 => exact qC_ HR0_1 HB); (case side2 => exact HC0_1.out); rintro e w17 ⟨rfl, hb⟩; refine ⟨_, rfl, ?_⟩; replace a0 := qbl_ a0 hb; replace a1 := qbl_ a1 hb; replace a2 := qbl_ a2 hb; replace HB := hs_ hb; (try clear hb); (try clear hb2); (try clear hk); (try clear hi)))
 (try simp only [Act.put, sA_, sB_, sC_])
 go_cut [35] (fun v35 wc => ∃ (kq : Nat) (x35_4 : Bool), v35 = .bool x35_4 ∧ Aside0 (spec_Link.j0 kq a3 a4 x35_4 a0_0 l0_1 a1_0 a1_1 = some (r1, r2, r3)) ∧ Aside0 (kq ≤ k) ∧ Aside0 (wc.heap[a9]? = some (.cells #[.int .i64 a0_0, (.slice A0_1 l0_1.length c0_1)] 39 (0, 0))) ∧ Aside0 (wc.heap[b0]? = some (.cells #[.int .i64 a1_0, .int .i64 a1_1] 43 (0, 0))) ∧ Aside0 (wc.heap[a7]? = some (.cells #[.int .i64 0, (.slice none 0 0)] 39 (0, 0))) ∧ Aside0 (Below w.heap.size w wc))
 case first =>
  have H := l0.out; clear l0
  obtain ⟨i2, j1, H⟩ := Option.bind_eq_some_iff.mp H; have A18 := am_ j1; clear j1
  by_cases c19 : i2 = true
  rotate_left
  ·replace c19 := Bool.eq_false_iff.mpr c19
   subst c19
   rw [if_neg ff_] at H; have H' := am_ H; clear H; obtain ⟨m5, m6⟩ := nn_ a5; obtain ⟨m7, m8⟩ := nn_ a6
   obtain ⟨e8, e9, f0, f1⟩ := bc2_ a0
   obtain ⟨m9, n0⟩ := nn_ a8
   obtain ⟨f2, f3, f4, f5⟩ := bc2_ a1
   go_wp2_with (first | ((with_reducible refine gate_callee (f := 71) rfl ?_); refine gl_ (some 21) Try.func71 #[.int .i64 a0_0, .agg #[.int .i64 a1_0, .int .i64 a1_1]] ?_; (with_reducible refine (spec_EdgeOk.calls a0_0 a1_0 a1_1 false _ A18.out).mono ?_); rintro e w45 ⟨rfl, hb⟩; refine ⟨_, rfl, ?_⟩; replace a0 := qbl_ a0 hb; replace a1 := qbl_ a1 hb; replace a2 := qbl_ a2 hb; replace HB := hs_ hb; (try clear hb); (try clear hb2); (try clear hk); (try clear hi)))
   go_meet
   case rel => exact ⟨_, (true), qe_, H', ⟨qo_⟩, ⟨qk_ a0⟩, ⟨qk_ a1⟩, ⟨qk_ a2⟩, ⟨qB_⟩⟩
  subst c19
  rw [if_pos rfl] at H
  by_cases c20 : a3 < 0
  ·rw [if_pos c20] at H
   have c20b0 := decide_eq_true c20
   clear c20
   (first | rw [c20b0] | (simp only [i64_w, i32_w]; rw [c20b0]) | skip)
   have H' := am_ H; clear H; obtain ⟨n1, n2⟩ := nn_ a5; obtain ⟨n3, n4⟩ := nn_ a6
   obtain ⟨f6, f7, f8, f9⟩ := bc2_ a0
   obtain ⟨n5, n6⟩ := nn_ a8
   obtain ⟨g0, g1, g2, g3⟩ := bc2_ a1
   go_wp2_with (first | ((with_reducible refine gate_callee (f := 71) rfl ?_); refine gl_ (some 21) Try.func71 #[.int .i64 a0_0, .agg #[.int .i64 a1_0, .int .i64 a1_1]] ?_; (with_reducible refine (spec_EdgeOk.calls a0_0 a1_0 a1_1 true _ A18.out).mono ?_); rintro e w26 ⟨rfl, hb⟩; refine ⟨_, rfl, ?_⟩; replace a0 := qbl_ a0 hb; replace a1 := qbl_ a1 hb; replace a2 := qbl_ a2 hb; replace HB := hs_ hb; (try clear hb); (try clear hb2); (try clear hk); (try clear hi)))
   go_meet
   case rel => exact ⟨_, (true), qe_, H', ⟨qo_⟩, ⟨qk_ a0⟩, ⟨qk_ a1⟩, ⟨qk_ a2⟩, ⟨qB_⟩⟩
  rw [if_neg c20] at H
  have c20b0 := decide_eq_false c20
  clear c20
  (first | rw [c20b0] | (simp only [i64_w, i32_w]; rw [c20b0]) | skip)
  by_cases c27 : a4 < 0
  ·rw [if_pos c27] at H
   have c27b0 := decide_eq_true c27
   clear c27; have H' := am_ H; clear H; obtain ⟨n7, n8⟩ := nn_ a5; obtain ⟨n9, o0⟩ := nn_ a6
   obtain ⟨g4, g5, g6, g7⟩ := bc2_ a0
   obtain ⟨o1, o2⟩ := nn_ a8
   obtain ⟨g8, g9, h0, h1⟩ := bc2_ a1
   go_wp2_with (first | ((with_reducible refine gate_callee (f := 71) rfl ?_); refine gl_ (some 21) Try.func71 #[.int .i64 a0_0, .agg #[.int .i64 a1_0, .int .i64 a1_1]] ?_; (with_reducible refine (spec_EdgeOk.calls a0_0 a1_0 a1_1 true _ A18.out).mono ?_); rintro e w33 ⟨rfl, hb⟩; refine ⟨_, rfl, ?_⟩; replace a0 := qbl_ a0 hb; replace a1 := qbl_ a1 hb; replace a2 := qbl_ a2 hb; replace HB := hs_ hb; (try clear hb); (try clear hb2); (try clear hk); (try clear hi)))
   go_meet
   case rel => exact ⟨_, (true), qe_, H', ⟨qo_⟩, ⟨qk_ a0⟩, ⟨qk_ a1⟩, ⟨qk_ a2⟩, ⟨qB_⟩⟩
  rw [if_neg c27] at H
  have c27b0 := decide_eq_false c27
  clear c27; have H' := am_ H; clear H; obtain ⟨o3, o4⟩ := nn_ a5; obtain ⟨o5, o6⟩ := nn_ a6
  obtain ⟨h2, h3, h4, h5⟩ := bc2_ a0
  obtain ⟨o7, o8⟩ := nn_ a8
  obtain ⟨h6, h7, h8, h9⟩ := bc2_ a1
  go_wp2_with (first | ((with_reducible refine gate_callee (f := 71) rfl ?_); refine gl_ (some 21) Try.func71 #[.int .i64 a0_0, .agg #[.int .i64 a1_0, .int .i64 a1_1]] ?_; (with_reducible refine (spec_EdgeOk.calls a0_0 a1_0 a1_1 true _ A18.out).mono ?_); rintro e w39 ⟨rfl, hb⟩; refine ⟨_, rfl, ?_⟩; replace a0 := qbl_ a0 hb; replace a1 := qbl_ a1 hb; replace a2 := qbl_ a2 hb; replace HB := hs_ hb; (try clear hb); (try clear hb2); (try clear hk); (try clear hi)))
  go_meet
  case rel => exact ⟨_, ((a3 == a4)), qe_, H', ⟨qo_⟩, ⟨qk_ a0⟩, ⟨qk_ a1⟩, ⟨qk_ a2⟩, ⟨qB_⟩⟩
 case rest =>
  clear l0; (try clear c1); (try clear c2); (try clear p2); (try clear c3); (try clear c4); (try clear c6); (try clear c7); (try clear c9); (try clear c10); (try clear c12); (try clear c19); (try clear c20); (try clear c20b0); (try clear c21); (try clear c22); (try clear c24); (try clear c27); (try clear c27b0); (try clear c28); (try clear c29); (try clear c30); (try clear c31); (try clear c34); (try clear c35); (try clear c37); (try clear c40); (try clear c41); (try clear c43); (try clear d2 d3); (try clear d6 d7); (try clear e0 e1); (try clear e4 e5); (try clear f6 f7); (try clear g0 g1); (try clear g4 g5); (try clear g8 g9); (try clear h2 h3); (try clear h6 h7); (try clear e8 e9); (try clear f2 f3); (try clear d4 d5); (try clear d8 d9); (try clear e2 e3); (try clear e6 e7); (try clear f8 f9); (try clear g2 g3); (try clear g6 g7); (try clear h0 h1); (try clear h4 h5); (try clear h8 h9); (try clear f0 f1); (try clear f4 f5)
  obtain ⟨kq, x35_4, rfl, HA, q5, a0, a1, a2, HB⟩ := hcut
  cases kq with
  | zero => exact absurd HA.out (by simp [spec_Link.j0])
  | succ kj4 =>
   have H := HA.out; clear HA
   simp only [spec_Link.j0] at H
   by_cases c46 : x35_4 = true
   ·subst c46
    rw [if_pos rfl] at H
    simp only [Option.some.injEq, Prod.mk.injEq] at H
    obtain ⟨rfl, rfl, rfl⟩ := H
    obtain ⟨o9, p0⟩ := nn_ c5; obtain ⟨p1, p3⟩ := nn_ b6
    obtain ⟨j8, j9, k0, k1⟩ := bc2_ a2
    go_wp2
    refine bodyPost_ret (results_ct rfl _ _ a7 39 #[.int .i64 0, .slice none 0 0] (0, 0) _ rfl (by (with_reducible repeat (first | refine blk_drewN ?_ _ | refine blk_drew ?_ | refine blk_alloc ?_ _)); refine blk_put (cs := #[.int .i64 0, .slice none 0 0]) ?_ 1 _ rfl; (with_reducible repeat (first | refine blk_drewN ?_ _ | refine blk_drew ?_ | refine blk_alloc ?_ _)); refine blk_put (cs := #[.int .i64 0, .slice none 0 0]) ?_ 0 _ rfl; exact qf_ a2) Try.underlying39 rfl (by kernel_rfl)) rfl ?_
    exact ⟨_, qr_, by first | exact Kd.S_nil _ _ _ _ _ | exact Kd.N_nil _ _ _ _ _ | exact Kd.V_nil _ _ _ _ _ | exact Kd.Q_nil _ _ _ _ _ | exact Kd.R_nil _ _ _ _ _, qB_⟩
   replace c46 := Bool.eq_false_iff.mpr c46
   subst c46
   rw [if_neg ff_] at H
   by_cases c50 : 0 ≤ a3
   rotate_left
   ·rw [if_neg c50] at H
    exact absurd H (by simp)
   rw [if_pos c50] at H
   have c50b0 := decide_eq_true c50
   clear c50
   by_cases c51 : a3 < (l0_1.length : Int)
   rotate_left
   ·rw [if_neg c51] at H
    exact absurd H (by simp)
   rw [if_pos c51] at H
   have c51b0 := decide_eq_true c51
   clear c51
   by_cases c52 : 0 ≤ a4
   rotate_left
   ·rw [if_neg c52] at H
    exact absurd H (by simp)
   rw [if_pos c52] at H
   have c52b0 := decide_eq_true c52
   clear c52
   by_cases c53 : a4 < (l0_1.length : Int)
   rotate_left
   ·rw [if_neg c53] at H
    exact absurd H (by simp)
   rw [if_pos c53] at H
   have c53b0 := decide_eq_true c53
   clear c53
   replace H := Option.bind_eq_some_iff.mp H
   obtain ⟨⟨b7, l1⟩, j2, H⟩ := H
   replace H : ((spec_l07With.f kj4 a0_0 l0_1 (([a3, a4] : List Int)) (([b7] : List (List Int)))).bind fun b2 => (some (b2.1, b2.2, true))) = some (r1, r2, r3) := H
   have A54 := am_ j2
   clear j2
   obtain ⟨c8, hy304⟩ : ∃ y_ : List Int, y_ = (([a3, a4] : List Int)) := ⟨_, rfl⟩
   replace H : ((spec_l07With.f kj4 a0_0 l0_1 c8 (([b7] : List (List Int)))).bind fun b2 => (some (b2.1, b2.2, true))) = some (r1, r2, r3) := by first | (rw [hy304]; with_reducible exact H) | (have H2_ := (Option.bind_some _ _).symm.trans H; rw [hy304]; with_reducible exact H2_) | (have H2_ := (Option.bind_some _ _).symm.trans H; with_reducible exact H2_) | with_reducible exact H | (rw [hy304]; exact H) | exact H
   have Ny304 := am_ hy304
   clear hy304
   obtain ⟨i3, hy307⟩ : ∃ y_ : List (List Int), y_ = (([b7] : List (List Int))) := ⟨_, rfl⟩
   replace H : ((spec_l07With.f kj4 a0_0 l0_1 c8 i3).bind fun b2 => (some (b2.1, b2.2, true))) = some (r1, r2, r3) := by first | (rw [hy307]; with_reducible exact H) | (have H2_ := (Option.bind_some _ _).symm.trans H; rw [hy307]; with_reducible exact H2_) | (have H2_ := (Option.bind_some _ _).symm.trans H; with_reducible exact H2_) | with_reducible exact H | (rw [hy307]; exact H) | exact H
   have Ny307 := am_ hy307
   clear hy307
   replace H := Option.bind_eq_some_iff.mp H
   obtain ⟨⟨d0, i0⟩, j3, H⟩ := H
   replace H : (some (d0, i0, true)) = some (r1, r2, r3) := H
   have A55 := am_ j3
   clear j3
   simp only [Option.some.injEq, Prod.mk.injEq] at H
   obtain ⟨rfl, rfl, rfl⟩ := H
   try go_wp2
   replace a0 := am_ (blk_drew a0.out); replace a1 := am_ (blk_drew a1.out); replace a2 := am_ (blk_drew a2.out); replace HB := am_ (below_drew1 HB.out)
   have p298 := dp_ a3
   have q298 := dl_ a3 l0_1.length
   obtain ⟨ad298, A298_0, c298_0, e298, b3, hl298_0, hi298_0⟩ := at_L1 HR0_1.out a3 p298 q298
   have b8 := b3; cases e298
   replace b3 := qx_ HB b3
   have HR298_0 := am_ hi298_0
   have HC298_0 := am_ hl298_0
   clear hi298_0 hl298_0; replace p298 := eq_true p298; replace q298 := eq_true q298
   have p299 := dp_ a4
   have q299 := dl_ a4 l0_1.length
   obtain ⟨ad299, A299_0, c299_0, e299, b4, hl299_0, hi299_0⟩ := at_L1 HR0_1.out a4 p299 q299
   have b9 := b4
   obtain rfl : ad298 = ad299 := (by injection e299)
   replace b4 := qx_ HB b4
   have HR299_0 := am_ hi299_0
   have HC299_0 := am_ hl299_0
   clear hi299_0 hl299_0; replace p299 := eq_true p299; replace q299 := eq_true q299
   refine start_ (n := 20) (S := fun w' => w'.cell? ⟨a9, 0, none⟩ = some (.int .i64 a0_0) ∧ w'.cell? ⟨a9, 1, none⟩ = some (.slice (some ad298) l0_1.length c0_1) ∧ w'.cell? ⟨b0, 0, none⟩ = some (.int .i64 a1_0) ∧ w'.cell? ⟨b0, 1, none⟩ = some (.int .i64 a1_1) ∧ w'.cell? (ad298.add (a3).toNat) = some (.slice A298_0 (rd_L1 l0_1 a3).length c298_0) ∧ w'.cell? (ad298.add (a4).toNat) = some (.slice A299_0 (rd_L1 l0_1 a4).length c299_0)) (ds := []) (bm 20 0) (by kernel_rfl) rfl (by kernel_rfl) ⟨bl_ a0 0, bl_ a0 1, bl_ a1 0, bl_ a1 1, ((qx_ HB b8).trans rfl), ((qx_ HB b9).trans rfl)⟩ (fun hHeld => ?_); refine with_tabW spec_Link.tab5 spec_Link.bits5 (fun HT_ HW_ => ?_)
   generalize wc.drew = w56 at a0 a1 a2 HB HR298_0 HR299_0 b3 b4 hHeld ⊢
   refine pz_ 0 38 (bm 20 1) ?_; refine pz_ 2 40 (bm 20 5) ?_; refine pz_ 5 43 (bm 20 37) ?_; refine pz_ 7 45 (bm 20 165) ?_; refine pz_ 9 47 (bm 20 677) ?_; refine pz_ 12 50 (bm 20 4773) ?_; refine tz6_ 1 39 (bm 20 4775) ?_; refine pz_ 3 41 (bm 20 4783) ?_; refine tz6_ 4 42 (bm 20 4799) ?_; refine tz6_ 6 44 (bm 20 4863) ?_; refine tz6_ 8 46 (bm 20 5119) ?_; refine pz_ 10 48 (bm 20 6143) ?_; refine tz6_ 11 49 (bm 20 8191) ?_; refine tz6_ 13 51 (bm 20 16383) ?_
   refine o1_ 14 (some 52) (bm 20 32767) (fun K hK => ?_)
   refine gs_ Try.func84 #[.slice A298_0 (rd_L1 l0_1 a3).length c298_0, .int .i64 a1_0, .slice A299_0 (rd_L1 l0_1 a4).length c299_0, .int .i64 a1_1] ?_
   with_reducible refine (spec_JoinTours.calls kj4 _ _ (rd_L1 l0_1 a3) a1_0 _ _ (rd_L1 l0_1 a4) a1_1 b7 l1 _ ?side1 ?side2 ?side3 ?side4 A54.out).mono ?_
   (case side1 => exact qC_ HR298_0 HB)
   (case side2 => exact HC298_0.out)
   (case side3 => exact qC_ HR299_0 HB)
   (case side4 => exact HC299_0.out)
   rintro e w57 ⟨q2, rfl, ho0, hb⟩
   refine ⟨_, rfl, ?_⟩
   have b5 := am_ (Kd.R_lower (Kd.R_newM (M := fun k_ => (w.heap.size ≤ k_)) ho0 (below_size qB_) (fun k_ h_ => h_)) (below_size qB_)); replace a0 := qbl_ a0 hb; replace a1 := qbl_ a1 hb; replace a2 := qbl_ a2 hb; replace HB := am_ (below_step qB_ hb); (try clear hb); (try clear hb2); (try clear hk); (try clear hi); (try clear ho0)
   refine hK.out _ _ ⟨bl_ a0 0, bl_ a0 1, bl_ a1 0, bl_ a1 1, ((qx_ HB b8).trans rfl), ((qx_ HB b9).trans rfl)⟩ (fun hHeld => ?_)
   clear hK K
   refine nm_ 52 ?_
   refine pz_ 15 37 (bm 20 65535) ?_; refine pz_ 16 53 (bm 20 131071) ?_; refine pz_ 17 54 (bm 20 262143) ?_; refine pz_ 18 8 (bm 20 524287) ?_; refine pz_ 19 9 (bm 20 1048575) ?_
   refine done_ (done_of HT_.out (by kernel_rfl)) ?_
   obtain ⟨p4, p5⟩ := nn_ a5; obtain ⟨p6, p7⟩ := nn_ a6
   obtain ⟨k2, k3, k4, k5⟩ := bc2_ a0
   try go_wp2_with (first | ((with_reducible refine gate_dst (N := 58) rfl ?_); refine Kd.R_lit (Kd.int .i64) _ 3 ?hg (N := 58) ?hd (xs := ([a3, a4] : List Int)) (inner := [.int .i64 a3, .int .i64 a4]) (ok := fun _ => True) (okp := fun _ => True) ?hr ?hp (fun _ hk => hk) trivial (Below.refl _ _) (Nat.le_refl _) (by simp) ?_; (case hd => rfl); (case hg => rfl); (case hr => first | (go_simp; done) | (go_simp; rfl)); (case hp => exact (Reps.one (show Kd.M (Kd.int .i64) _ _ _ a3 [.int .i64 a3] from rfl) (Reps.one (show Kd.M (Kd.int .i64) _ _ _ a4 [.int .i64 a4] from rfl) (Reps.none _ _)))); intro d1 w61 ho62 hb hg_ hnew_; clear hg_ hnew_; (first | rw [← Ny304.out] at ho62 | (simp only [Int.reduceToNat] at ho62; rw [← Ny304.out] at ho62)); have b1 := am_ (Kd.R_lower (Kd.R_new' (Kd.R_newM (M := fun k_ => (w.heap.size ≤ k_)) ho62 (below_size qB_) (fun k_ h_ => h_)) (Kd.R_lt (qR_ b5))) (below_size qB_)); replace b5 := am_ (Kd.R_elder' (qR_ b5) (Kd.R_base ho62) hb); replace a0 := qbl_ a0 hb; replace a1 := qbl_ a1 hb; replace a2 := qbl_ a2 hb; replace HB := hs_ hb; clear hb ho62; obtain ⟨j4, j5, l2⟩ := Kd.R_slice b5.out; subst l2) | ((with_reducible refine gate_dst (N := 60) rfl ?_); refine Kd.N_lit (Kd.slice 3 (Kd.int .i64)) _ 51 ?hg (N' := 60) ?hd (xs := ([b7] : List (List Int))) (inner := [.slice j4 b7.length j5]) (ok := (fun k_ => (w.heap.size ≤ k_) ∧ some k_ ≠ (d1 : Value).ownBlock ∧ k_ ≠ a9 ∧ k_ ≠ b0 ∧ k_ ≠ a7)) (okp := (fun k_ => (w.heap.size ≤ k_) ∧ some k_ ≠ (d1 : Value).ownBlock ∧ k_ ≠ a9 ∧ k_ ≠ b0 ∧ k_ ≠ a7)) ?hr ?hp (fun _ hk => hk) ((show ∀ k_, w61.heap.size ≤ k_ → (fun k_ => (w.heap.size ≤ k_) ∧ some k_ ≠ (d1 : Value).ownBlock ∧ k_ ≠ a9 ∧ k_ ≠ b0 ∧ k_ ≠ a7) k_ from fun k_ hk => ⟨(Nat.le_trans (below_size qB_) hk), Kd.fresh' (Kd.R_lt (qR_ b1)) k_ hk, Kd.freshB (qk_ a0) k_ hk, Kd.freshB (qk_ a1) k_ hk, Kd.freshB (qk_ a2) k_ hk⟩) _ (Nat.le_refl _)) (Below.refl _ _) (Nat.le_refl _) (by simp) ?_; (case hd => rfl); (case hg => rfl); (case hr => first | (go_simp; done) | (go_simp; rfl)); (case hp => exact (Reps.one (show Kd.FK (Kd.slice 3 (Kd.int .i64)) _ _ b7 [.slice j4 b7.length j5] from (Kd.FK_slice_mk (Kd.R_reads' (Kd.R_mono (ok' := (fun k_ => (w.heap.size ≤ k_) ∧ some k_ ≠ (d1 : Value).ownBlock ∧ k_ ≠ a9 ∧ k_ ≠ b0 ∧ k_ ≠ a7)) (Kd.R_types (Kd.R_types (Kd.R_types (b5.out) a0.out (by decide)) a1.out (by decide)) a2.out (by decide)) (fun k_ hk => ⟨hk.1.1.1.1.1, ⟨hk.1.1.1.2, ⟨hk.1.1.2, ⟨hk.1.2, hk.2⟩⟩⟩⟩))).2.1 (Kd.R_F (Kd.R_mono (ok' := (fun k_ => (w.heap.size ≤ k_) ∧ some k_ ≠ (d1 : Value).ownBlock ∧ k_ ≠ a9 ∧ k_ ≠ b0 ∧ k_ ≠ a7)) (Kd.R_types (Kd.R_types (Kd.R_types (b5.out) a0.out (by decide)) a1.out (by decide)) a2.out (by decide)) (fun k_ hk => ⟨hk.1.1.1.1.1, ⟨hk.1.1.1.2, ⟨hk.1.1.2, ⟨hk.1.2, hk.2⟩⟩⟩⟩))))) (Reps.none _ _))); intro q3 w64 ho65 hb hg_ hnew_; clear hg_ hnew_; (first | rw [← Ny307.out] at ho65 | (simp only [Int.reduceToNat] at ho65; rw [← Ny307.out] at ho65)); have c0 := am_ (Kd.N_lower ho65 (below_size qB_)); replace b1 := am_ (Kd.R_below (qR_ b1) hb); replace a0 := qbl_ a0 hb; replace a1 := qbl_ a1 hb; replace a2 := qbl_ a2 hb; replace HB := hs_ hb; clear b5; clear hb ho65; obtain ⟨i4, i5, l3⟩ := Kd.R_slice b1.out; subst l3; obtain ⟨l4, l5, l6⟩ := Kd.N_slice c0.out; subst l6) | ((with_reducible refine gate_callee (f := 73) rfl ?_); refine gl_ (some 61) Try.func73 #[.agg #[.int .i64 a0_0, .slice (some ad298) l0_1.length c0_1], .slice i4 c8.length i5, .slice l4 i3.length l5] ?_; (with_reducible refine (spec_l07With.calls kj4 a0_0 _ _ l0_1 _ _ c8 (fun k_ => ((w.heap.size ≤ k_) ∧ (some k_ ≠ (.slice i4 c8.length i5 : Value).ownBlock ∧ (k_ ≠ a9 ∧ (k_ ≠ b0 ∧ k_ ≠ a7))))) _ _ i3 d0 i0 _ ?side1 ?side2 ?side3 ?side4 ?side5 A55.out).mono ?_); (case side1 => exact qC_ HR0_1 HB); (case side2 => exact HC0_1.out); (case side3 => exact qD_ (Kd.R_reads' b1.out).2.2); (case side4 => exact (Kd.R_reads' b1.out).2.1); (case side5 => exact Kd.N_V (c0.out)); rintro e w68 ⟨q4, rfl, ho0, hb⟩; refine ⟨_, rfl, ?_⟩; have i1 := am_ (Kd.N_lower (Kd.N_mono (ok' := fun k_ => (w.heap.size ≤ k_) ∧ some k_ ≠ (.slice i4 c8.length i5 : Value).ownBlock ∧ k_ ≠ a9 ∧ k_ ≠ b0 ∧ k_ ≠ a7) ho0 (fun k_ hk_ => ⟨Or.elim hk_ (fun hs_ => hs_.1) (fun hn_ => (Nat.le_trans (below_size qB_) hn_)), Or.elim hk_ (fun hs_ => hs_.2.1) (fun hn_ => (Kd.fresh' (Kd.R_lt (qR_ b1)) k_ hn_)), Or.elim hk_ (fun hs_ => hs_.2.2.1) (fun hn_ => (Kd.freshB (qk_ a0) k_ hn_)), Or.elim hk_ (fun hs_ => hs_.2.2.2.1) (fun hn_ => (Kd.freshB (qk_ a1) k_ hn_)), Or.elim hk_ (fun hs_ => hs_.2.2.2.2) (fun hn_ => (Kd.freshB (qk_ a2) k_ hn_))⟩)) (below_size qB_)); replace b1 := am_ (Kd.R_below (qR_ b1) hb); replace c0 := am_ (Kd.N_elder' (by (with_reducible repeat (first | apply Kd.N_alloc | apply Kd.N_drewN | apply Kd.N_drew)); exact c0.out) (Kd.N_base ho0) hb); replace a0 := qbl_ a0 hb; replace a1 := qbl_ a1 hb; replace a2 := qbl_ a2 hb; replace HB := hs_ hb; (try clear hb); (try clear hb2); (try clear hk); (try clear hi); (try clear ho0); obtain ⟨p8, p9⟩ := nn_ b6; obtain ⟨k6, k7, k8, k9⟩ := bc2_ a2; obtain ⟨j6, j7, l7⟩ := Kd.N_slice i1.out; subst l7))
   refine bodyPost_ret (results_ct rfl _ _ a7 39 #[.int .i64 d0, .slice j6 i0.length j7] (0, 0) _ rfl (by (with_reducible repeat (first | refine blk_drewN ?_ _ | refine blk_drew ?_ | refine blk_alloc ?_ _)); refine blk_put (cs := #[.int .i64 d0, .slice none 0 0]) ?_ 1 _ rfl; (with_reducible repeat (first | refine blk_drewN ?_ _ | refine blk_drew ?_ | refine blk_alloc ?_ _)); refine blk_put (cs := #[.int .i64 0, .slice none 0 0]) ?_ 0 _ rfl; exact qf_ a2) Try.underlying39 rfl (by kernel_rfl)) rfl ?_
   exact ⟨_, qr_, by (with_reducible repeat (first | apply Kd.N_alloc | apply Kd.N_drewN | apply Kd.N_drew)); exact Kd.N_mono (Kd.N_far (p := ⟨a7, 1, none⟩) (Kd.N_far (p := ⟨a7, 0, none⟩) (Kd.N_mono i1.out (fun k_ hk => (⟨hk, hk.2.2.2.2⟩ : _ ∧ k_ ≠ a7))) (fun _ hk => hk.2) (.int .i64 d0)) (fun _ hk => hk.2) (.slice j6 i0.length j7)) (fun _ hk => hk.1.1), qB_⟩
def impl_in.f (a0 : Int) (a1 : Int) (a2 : Int) : Option (Bool) := if a0 ≥ a1 then (some (decide (a0 ≤ a2))) else (some false)
set_option maxHeartbeats 8000000 in
set_option maxRecDepth 100000 in
theorem impl_in.calls (a0 : Int) (a1 : Int) (a2 : Int) (r : Bool) (w : World) (h : impl_in.f a0 a1 a2 = some r) :
  Calls Try.prog 66 #[.int .i64 a0, .int .i64 a1, .int .i64 a2] w fun e w' => e = .returned (.bool r) ∧ Drawn0 w w' := by
 have H : (if a0 ≥ a1 then (some (decide (a0 ≤ a2))) else (some false)) = some r := h
 clear h
 by_cases c4 : a0 ≥ a1
 ·rw [if_pos c4] at H
  have c4b0 : decide (a1 ≤ a0) = true := decide_eq_true c4
  clear c4
  obtain rfl := Option.some.inj H
  go_enter Try.func66, Try.ntmps66
  go_wp2
  go_ret
  exact ⟨by first | rfl | (simp; done) | (simp [*]; done), by repeat (first | exact Drawn0.refl _ | apply Drawn0.step)⟩
 rw [if_neg c4] at H
 have c4b0 : decide (a1 ≤ a0) = false := decide_eq_false c4
 clear c4
 obtain rfl := Option.some.inj H
 go_enter Try.func66, Try.ntmps66
 go_wp2
 go_ret
 exact ⟨by first | rfl | (simp; done) | (simp [*]; done), by repeat (first | exact Drawn0.refl _ | apply Drawn0.step)⟩
def impl_copyInts.f (l0 : List Int) : Option (List Int) := if ([] : List Int).length + l0.length < 17592186044416 then (some (([] : List Int) ++ l0)) else (none)
set_option maxHeartbeats 8000000 in
set_option maxRecDepth 100000 in
theorem impl_copyInts.calls (A0 : Option Addr) (c0 : Nat) (l0 : List Int) (r : List Int) (w : World) (hr0 : Kd.C (Kd.int .i64) w A0 l0.length l0) (hc0 : l0.length ≤ c0) (h : impl_copyInts.f l0 = some r) :
  Calls Try.prog 121 #[.slice A0 l0.length c0] w fun e w' => ∃ v0_ : Value, e = .returned (v0_) ∧ Kd.R (Kd.int .i64) 3 w' w.heap.size (fun _ => True) v0_ r ∧ Below w.heap.size w w' := by
 have a2 := am_ hr0
 have a4 := am_ hc0
 clear hr0 hc0
 have HB := am_ (Below.refl w.heap.size w)
 have H : (if ([] : List Int).length + l0.length < 17592186044416 then (some (([] : List Int) ++ l0)) else (none)) = some r := h
 clear h
 by_cases c2 : ([] : List Int).length + l0.length < 17592186044416
 rotate_left
 ·rw [if_neg c2] at H
  exact absurd H (by simp)
 rw [if_pos c2] at H
 have LMc2 := am_ c2
 clear c2
 obtain ⟨a1, hy314⟩ : ∃ y_ : List Int, y_ = (([] : List Int) ++ l0) := ⟨_, rfl⟩
 replace H : (some a1) = some r := by first | (rw [hy314]; with_reducible exact H) | (have H2_ := (Option.bind_some _ _).symm.trans H; rw [hy314]; with_reducible exact H2_) | (have H2_ := (Option.bind_some _ _).symm.trans H; with_reducible exact H2_) | with_reducible exact H | (rw [hy314]; exact H) | exact H
 have Ny314 := am_ hy314
 clear hy314
 obtain rfl := Option.some.inj H
 go_enter Try.func121, Try.ntmps121
 go_wp2_with (first | ((with_reducible refine gate_builtin (b := .append) (xs := #[.const (.slice none 0 0), .tmp 3]) rfl ?_); at_builtin; refine Kd.R_append_rows (Kd.int .i64) (w0 := w) w.heap.size rfl (.const (.slice none 0 0)) (.tmp 3) 51 3 (.int .i64 0) 8 rfl Try.underlying51 info3 rfl (by decide) (by omega) (.slice none 0 0) ([] : List Int) l0 _ _ _ (fun _ => True) (fun _ => False) rfl rfl ?aO ?aR (fun _ _ h => h) (fun _ h => h.elim) ?aF ?aB ?aS ?aL ?_; (case aR => repeat (first | exact a2.out | (with_reducible refine Kd.C_alloc ?_ _) | (with_reducible refine Kd.C_drewN ?_ _) | (with_reducible refine Kd.C_drew ?_))); (case aB => exact qB_); (case aF => exact (fun _ _ => trivial)); (case aO => exact ((Kd.R_nil _ _ _ _ (fun _ => True)))); (case aS => exact (below_size qB_)); (case aL => have := LMc2.out; omega); intro a3 w3 ho hb hg hat; rw [← Ny314.out] at ho; have a0 := am_ (ho); replace HB := am_ (hb); clear ho hb hg hat))
 go_ret
 exact ⟨_, qr_, by (with_reducible repeat (first | apply Kd.R_alloc | apply Kd.R_drewN | apply Kd.R_drew)); exact a0.out, qB_⟩
end Go.Proofs.Ytbkklafkoegdpaa.QFnExactLink
