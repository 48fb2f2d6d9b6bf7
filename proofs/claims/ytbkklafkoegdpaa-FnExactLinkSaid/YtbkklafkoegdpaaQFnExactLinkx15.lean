import Derived.Test.YtbkklafkoegdpaaQFnExactLinkx12
import Derived.Test.YtbkklafkoegdpaaQFnExactLinkx13
import Derived.Test.YtbkklafkoegdpaaQFnExactLinkx14
namespace Go.Proofs.Ytbkklafkoegdpaa.QFnExactLink
open Go.RowKit Go.Proofs.YtbkklafkoegdpaaW.PrintWords Go.Proofs.YtbkklafkoegdpaaW.PrintLast Go.Proofs.YtbkklafkoegdpaaW.PrintMore
set_option linter.unusedVariables false
set_option linter.unusedSimpArgs false
def impl_Link.j0 : Nat → Bool → Int → List (List Int) → Int → Int → Option (Int × (List (List Int)) × Bool)
  | 0, _, _, _, _, _ => none
  | k + 1, x20, x513000, x513001, x514000, x514001 => if x20 = true then (some (0, ([] : List (List Int)), false)) else ((impl_TreeOf.f k x513000 x513001 x514000).bind fun t517 => ((impl_TreeOf.f k x513000 x513001 x514001).bind fun t518 => (if t517 = t518 then (some (0, ([] : List (List Int)), false)) else (if 0 ≤ t517 then (if t517 < (x513001.length : Int) then (if 0 ≤ t518 then (if t518 < (x513001.length : Int) then ((impl_JoinTours.f k (rd_L1 x513001 t517) x514000 (rd_L1 x513001 t518) x514001).bind fun bt521 => ((impl_without.f k x513000 x513001 t517 t518).bind fun bt525 => ((impl_putTour.f k bt525.2 bt521.1).bind fun t530 => (some (bt525.1, t530, bt521.2))))) else (none)) else (none)) else (none)) else (none)))))
def impl_Link.f (k : Nat) (a0_0 : Int) (l0_1 : List (List Int)) (a1_0 : Int) (a1_1 : Int) : Option (Int × (List (List Int)) × Bool) := (impl_ForestOk.f k a0_0 l0_1).bind fun t515 => (if t515 = true then ((impl_EdgeOk.f a0_0 a1_0 a1_1).bind fun t516 => (impl_Link.j0 k (!t516) a0_0 l0_1 a1_0 a1_1)) else (impl_Link.j0 k true a0_0 l0_1 a1_0 a1_1))
theorem impl_Link.mono_l : ∀ k, (∀ y0 y1 y2 y3 y4, LeO (impl_Link.j0 k y0 y1 y2 y3 y4) (impl_Link.j0 (k + 1) y0 y1 y2 y3 y4))
  | 0 => fun _ _ _ _ _ r h => by simp [impl_Link.j0] at h
  | k + 1 => by
    have ih0 := impl_Link.mono_l k
    · intro y0 y1 y2 y3 y4
      unfold impl_Link.j0
      repeat' first | (with_reducible first | exact ih0 _ _ _ _ _ | exact impl_ForestOk.mono _ _ _ | exact impl_JoinTours.mono _ _ _ _ _ | exact impl_TreeOf.mono _ _ _ _ | exact impl_putTour.mono _ _ _ | exact impl_without.mono _ _ _ _ _ | exact LeO.refl _ | exact LeO.none _ | refine LeO.ite ?_ ?_ | refine LeO.bind ?_ (fun _ => ?_)) | exact LeO.none _ | refine LeO.ite ?_ ?_ | refine LeO.bind ?_ (fun _ => ?_)
theorem impl_Link.mono : ∀ a0 a1 a2 a3 k, LeO (impl_Link.f k a0 a1 a2 a3) (impl_Link.f (k + 1) a0 a1 a2 a3) := by
  intro a0 a1 a2 a3 k
  have ih0 := impl_Link.mono_l k
  unfold impl_Link.f
  repeat' first | (with_reducible first | exact ih0 _ _ _ _ _ | exact impl_ForestOk.mono _ _ _ | exact impl_JoinTours.mono _ _ _ _ _ | exact impl_TreeOf.mono _ _ _ _ | exact impl_putTour.mono _ _ _ | exact impl_without.mono _ _ _ _ _ | exact LeO.refl _ | exact LeO.none _ | refine LeO.ite ?_ ?_ | refine LeO.bind ?_ (fun _ => ?_)) | exact LeO.none _ | refine LeO.ite ?_ ?_ | refine LeO.bind ?_ (fun _ => ?_)
def impl_Link.T3 : Bool × List (List Nat × List Nat) := (true, [([], []), ([], []), ([1], [1]), ([0, 2], [0, 2]), ([], []), ([], []), ([5], [5]), ([4, 6, 3], [4, 6]), ([3, 7, 0, 1, 2, 3], [3]), ([7, 8, 0, 1, 2, 3, 4, 5, 6, 7, 8], [7])])
def impl_Link.B3 : List Nat := [0, 0, 2, 7, 0, 0, 32, 127, 255, 511]
theorem impl_Link.tab3 : rtab .any (opsOf Try.f31 3) = impl_Link.T3 := by kernel_rfl
theorem impl_Link.bits3 : waitsOk impl_Link.T3.2 impl_Link.B3 = true := by kernel_rfl
def impl_Link.T6 : Bool × List (List Nat × List Nat) := (true, [([], []), ([0], [0]), ([], []), ([1, 2], [1, 2]), ([3], [3]), ([], []), ([5], [5]), ([], []), ([7], [7]), ([], []), ([8, 9], [8, 9]), ([10], [10]), ([], []), ([12], [12]), ([4, 6, 11, 13], [4, 6, 11, 13]), ([14], [14]), ([15], [15]), ([15], [15]), ([16, 14, 0, 1, 2, 3, 4, 5, 6, 7, 8, 9, 10, 11, 12, 13, 14, 15, 16], [16]), ([17, 18, 0, 1, 2, 3, 4, 5, 6, 7, 8, 9, 10, 11, 12, 13, 14, 15, 16, 17, 18], [17])])
def impl_Link.B6 : List Nat := [0, 1, 0, 7, 15, 0, 32, 0, 128, 0, 896, 1920, 0, 4096, 16383, 32767, 65535, 65535, 131071, 524287]
theorem impl_Link.tab6 : rtab .any (opsOf Try.f31 6) = impl_Link.T6 := by kernel_rfl
theorem impl_Link.bits6 : waitsOk impl_Link.T6.2 impl_Link.B6 = true := by kernel_rfl
set_option maxHeartbeats 8000000 in
set_option maxRecDepth 100000 in
theorem impl_Link.calls (k : Nat) (a0_0 : Int) (A0_1 : Option Addr) (c0_1 : Nat) (l0_1 : List (List Int)) (a1_0 : Int) (a1_1 : Int) (r1 : Int) (r2 : List (List Int)) (r3 : Bool) (w : World) (hr0_1 : Kd.C (Kd.slice 3 (Kd.int .i64)) w A0_1 l0_1.length l0_1) (hc0_1 : l0_1.length ≤ c0_1) (h : impl_Link.f k a0_0 l0_1 a1_0 a1_1 = some (r1, r2, r3)) :
  Calls Try.prog 31 #[.agg #[.int .i64 a0_0, .slice A0_1 l0_1.length c0_1], .agg #[.int .i64 a1_0, .int .i64 a1_1]] w fun e w' => ∃ v1_ : Value, e = .returned (.tuple #[.agg #[.int .i64 r1, v1_], .bool r3]) ∧ Kd.N (Kd.slice 3 (Kd.int .i64)) 51 w' w.heap.size (fun k_ => (w.heap.size ≤ k_)) v1_ r2 ∧ Below w.heap.size w w' := by
 have hu39 := Try.underlying39; have hu43 := Try.underlying43
 have HR0_1 := am_ hr0_1
 have HC0_1 := am_ hc0_1
 clear hr0_1 hc0_1
 have HB := am_ (Below.refl w.heap.size w)
 have H : ((impl_ForestOk.f k a0_0 l0_1).bind fun f3 => (if f3 = true then ((impl_EdgeOk.f a0_0 a1_0 a1_1).bind fun d4 => (impl_Link.j0 k (!d4) a0_0 l0_1 a1_0 a1_1)) else (impl_Link.j0 k true a0_0 l0_1 a1_0 a1_1))) = some (r1, r2, r3) := h
 clear h
 have k2 := am_ H
 clear H
 go_enter Try.func31, Try.ntmps31
 go_upto_region 1 with (first | ((with_reducible refine gate_dst (N := 2) rfl ?_); refine by_ 2 (cs := #[.int .i64 a0_0, .slice A0_1 l0_1.length c0_1]) (t := 39) ?_; intro a9 hg w4 a0 hb; have g4 := gw_ hg; have k6 := g4; replace HB := hs_ hb; clear hb hg) | ((with_reducible refine gate_dst (N := 3) rfl ?_); refine by_ 3 (cs := #[.int .i64 a1_0, .int .i64 a1_1]) (t := 43) ?_; intro b0 hg w5 a1 hb; have g5 := gw_ hg; have k7 := g5; obtain ⟨b2, g0⟩ := qn_ a0 hg; replace a0 := qbl_ a0 hb; replace HB := hs_ hb; clear hb hg) | ((with_reducible refine gate_dst (N := 4) rfl ?_); refine by_ 4 (cs := #[.int .i64 0, .slice none 0 0]) (t := 39) ?_; intro b1 hg w6 a2 hb; have g6 := gw_ hg; have k8 := g6; obtain ⟨b3, b9⟩ := qn_ a0 hg; obtain ⟨c6, b4⟩ := qn_ a1 hg; replace a0 := qbl_ a0 hb; replace a1 := qbl_ a1 hb; replace HB := hs_ hb; clear hb hg))
 (try simp only [Act.put, sA_, sB_, sC_])
 go_cut [20] (fun v20 wc => ∃ (kq : Nat) (x20_2 : Bool), v20 = .bool x20_2 ∧ Aside0 (impl_Link.j0 kq x20_2 a0_0 l0_1 a1_0 a1_1 = some (r1, r2, r3)) ∧ Aside0 (kq ≤ k) ∧ Aside0 (wc.heap[a9]? = some (.cells #[.int .i64 a0_0, (.slice A0_1 l0_1.length c0_1)] 39 (0, 0))) ∧ Aside0 (wc.heap[b0]? = some (.cells #[.int .i64 a1_0, .int .i64 a1_1] 43 (0, 0))) ∧ Aside0 (wc.heap[b1]? = some (.cells #[.int .i64 0, (.slice none 0 0)] 39 (0, 0))) ∧ Aside0 (Below w.heap.size w wc))
 case first =>
  have H := k2.out; clear k2
  obtain ⟨f3, A70, H⟩ := Option.bind_eq_some_iff.mp H; have A7 := am_ A70; clear A70
  by_cases c8 : f3 = true
  ·subst c8
   rw [if_pos rfl] at H
   obtain ⟨d4, A90, H⟩ := Option.bind_eq_some_iff.mp H; have A9 := am_ A90; clear A90
   have H' := am_ H; clear H; obtain ⟨k9, l0⟩ := nn_ b2; obtain ⟨l1, l2⟩ := nn_ b3
   obtain ⟨d5, d6, d7, d8⟩ := bc2_ a0
   go_wp2_with (first | ((with_reducible refine gate_callee (f := 75) rfl ?_); refine gl_ (some 12) Try.func75 #[.agg #[.int .i64 a0_0, .slice A0_1 l0_1.length c0_1]] ?_; (with_reducible refine (impl_ForestOk.calls k a0_0 _ _ l0_1 true _ ?side1 ?side2 A7.out).mono ?_); (case side1 => exact qC_ HR0_1 HB); (case side2 => exact HC0_1.out); rintro e w13 ⟨rfl, hb⟩; refine ⟨_, rfl, ?_⟩; replace a0 := qbl_ a0 hb; replace a1 := qbl_ a1 hb; replace a2 := qbl_ a2 hb; replace HB := hs_ hb; (try clear hb); (try clear hb2); (try clear hk); (try clear hi); obtain ⟨d9, e0, e1, e2⟩ := bc2_ a0; obtain ⟨l3, l4⟩ := nn_ c6; obtain ⟨e3, e4, e5, e6⟩ := bc2_ a1) | (go_at_call 76; (with_reducible refine (impl_EdgeOk.calls a0_0 a1_0 a1_1 d4 _ A9.out).mono ?_); rintro e w17 ⟨rfl, hb⟩; replace a0 := qbl_ a0 hb; replace a1 := qbl_ a1 hb; replace a2 := qbl_ a2 hb; replace HB := hs_ hb; (try clear hb); (try clear hb2); (try clear hk); (try clear hi)))
   go_meet
   case rel => exact ⟨_, (!d4), qe_, H', ⟨qo_⟩, ⟨qk_ a0⟩, ⟨qk_ a1⟩, ⟨qk_ a2⟩, ⟨qB_⟩⟩
  replace c8 := Bool.eq_false_iff.mpr c8
  subst c8
  rw [if_neg ff_] at H; have H' := am_ H; clear H; obtain ⟨l5, l6⟩ := nn_ b2; obtain ⟨l7, l8⟩ := nn_ b3
  obtain ⟨e7, e8, e9, f0⟩ := bc2_ a0
  go_wp2_with (first | ((with_reducible refine gate_callee (f := 75) rfl ?_); refine gl_ (some 12) Try.func75 #[.agg #[.int .i64 a0_0, .slice A0_1 l0_1.length c0_1]] ?_; (with_reducible refine (impl_ForestOk.calls k a0_0 _ _ l0_1 false _ ?side1 ?side2 A7.out).mono ?_); (case side1 => exact qC_ HR0_1 HB); (case side2 => exact HC0_1.out); rintro e w21 ⟨rfl, hb⟩; refine ⟨_, rfl, ?_⟩; replace a0 := qbl_ a0 hb; replace a1 := qbl_ a1 hb; replace a2 := qbl_ a2 hb; replace HB := hs_ hb; (try clear hb); (try clear hb2); (try clear hk); (try clear hi)))
  go_meet
  case rel => exact ⟨_, (true), qe_, H', ⟨qo_⟩, ⟨qk_ a0⟩, ⟨qk_ a1⟩, ⟨qk_ a2⟩, ⟨qB_⟩⟩
 case rest =>
  clear k2; (try clear c1); (try clear p2); (try clear c3); (try clear c7); (try clear c8); (try clear c10); (try clear c11); (try clear c15); (try clear c18); (try clear c19); (try clear d5 d6); (try clear d9 e0); (try clear e3 e4); (try clear e7 e8); (try clear d7 d8); (try clear e1 e2); (try clear e5 e6); (try clear e9 f0)
  obtain ⟨kq, x20_2, rfl, HA, o2, a0, a1, a2, HB⟩ := hcut
  cases kq with
  | zero => exact absurd HA.out (by simp [impl_Link.j0])
  | succ kj2 =>
   have H := HA.out; clear HA
   simp only [impl_Link.j0] at H
   by_cases c22 : x20_2 = true
   ·subst c22
    rw [if_pos rfl] at H
    simp only [Option.some.injEq, Prod.mk.injEq] at H
    obtain ⟨rfl, rfl, rfl⟩ := H
    obtain ⟨l9, m0⟩ := nn_ b9; obtain ⟨m1, m2⟩ := nn_ b4
    obtain ⟨h3, h4, h5, h6⟩ := bc2_ a2
    go_wp2
    refine bodyPost_ret (results_ct rfl _ _ b1 39 #[.int .i64 0, .slice none 0 0] (0, 0) _ rfl (by (with_reducible repeat (first | refine blk_drewN ?_ _ | refine blk_drew ?_ | refine blk_alloc ?_ _)); refine blk_put (cs := #[.int .i64 0, .slice none 0 0]) ?_ 1 _ rfl; (with_reducible repeat (first | refine blk_drewN ?_ _ | refine blk_drew ?_ | refine blk_alloc ?_ _)); refine blk_put (cs := #[.int .i64 0, .slice none 0 0]) ?_ 0 _ rfl; exact qf_ a2) Try.underlying39 rfl (by kernel_rfl)) rfl ?_
    exact ⟨_, qr_, by first | exact Kd.S_nil _ _ _ _ _ | exact Kd.N_nil _ _ _ _ _ | exact Kd.V_nil _ _ _ _ _ | exact Kd.Q_nil _ _ _ _ _ | exact Kd.R_nil _ _ _ _ _, qB_⟩
   replace c22 := Bool.eq_false_iff.mpr c22
   subst c22
   rw [if_neg ff_] at H
   obtain ⟨a7, g7, H⟩ := Option.bind_eq_some_iff.mp H; have A26 := am_ g7; clear g7
   obtain ⟨a8, g8, H⟩ := Option.bind_eq_some_iff.mp H; have A27 := am_ g8; clear g8
   by_cases c28 : a7 = a8
   ·rw [if_pos c28] at H
    have c28b0 : (a7 == a8) = true := beq_iff_eq.mpr c28
    have c28b1 : (a7 != a8) = false := bne_eq_false_iff_eq.mpr c28
    clear c28
    simp only [Option.some.injEq, Prod.mk.injEq] at H
    obtain ⟨rfl, rfl, rfl⟩ := H
    try go_wp2
    replace a0 := am_ (blk_drew a0.out); replace a1 := am_ (blk_drew a1.out); replace a2 := am_ (blk_drew a2.out); replace HB := am_ (below_drew1 HB.out)
    refine start_ (n := 10) (S := fun w' => w'.cell? ⟨a9, 0, none⟩ = some (.int .i64 a0_0) ∧ w'.cell? ⟨a9, 1, none⟩ = some (.slice A0_1 l0_1.length c0_1) ∧ w'.cell? ⟨b0, 0, none⟩ = some (.int .i64 a1_0) ∧ w'.cell? ⟨b0, 1, none⟩ = some (.int .i64 a1_1)) (ds := []) (bm 10 0) (by kernel_rfl) rfl (by kernel_rfl) ⟨bl_ a0 0, bl_ a0 1, bl_ a1 0, bl_ a1 1⟩ (fun hHeld => ?_); refine with_tabW impl_Link.tab3 impl_Link.bits3 (fun HT_ HW_ => ?_)
    generalize wc.drew = w29 at a0 a1 a2 HB hHeld ⊢
    refine pz_ 1 23 (bm 10 2) ?_; refine pz_ 5 27 (bm 10 34) ?_; refine tz4_ 0 22 (bm 10 35) ?_; refine tz4_ 2 24 (bm 10 39) ?_; refine tz4_ 4 26 (bm 10 55) ?_; refine tz4_ 6 28 (bm 10 119) ?_
    refine o1_ 3 (some 25) (bm 10 127) (fun K hK => ?_)
    refine gs_ Try.func77 #[.agg #[.int .i64 a0_0, .slice A0_1 l0_1.length c0_1], .int .i64 a1_0] ?_
    with_reducible refine (impl_TreeOf.calls kj2 a0_0 _ _ l0_1 a1_0 a7 _ ?side1 ?side2 A26.out).mono ?_
    (case side1 => exact qC_ HR0_1 HB)
    (case side2 => exact HC0_1.out)
    rintro e w30 ⟨rfl, hb⟩
    refine ⟨_, rfl, ?_⟩
    replace a0 := qbl_ a0 hb; replace a1 := qbl_ a1 hb; replace a2 := qbl_ a2 hb; replace HB := am_ (below_step qB_ hb); (try clear hb); (try clear hb2); (try clear hk); (try clear hi)
    refine hK.out _ _ ⟨bl_ a0 0, bl_ a0 1, bl_ a1 0, bl_ a1 1⟩ (fun hHeld => ?_)
    clear hK K
    refine nm_ 25 ?_
    refine o1_ 7 (some 29) (bm 10 255) (fun K hK => ?_)
    refine gs_ Try.func77 #[.agg #[.int .i64 a0_0, .slice A0_1 l0_1.length c0_1], .int .i64 a1_1] ?_
    with_reducible refine (impl_TreeOf.calls kj2 a0_0 _ _ l0_1 a1_1 a8 _ ?side1 ?side2 A27.out).mono ?_
    (case side1 => exact qC_ HR0_1 HB)
    (case side2 => exact HC0_1.out)
    rintro e w31 ⟨rfl, hb⟩
    refine ⟨_, rfl, ?_⟩
    replace a0 := qbl_ a0 hb; replace a1 := qbl_ a1 hb; replace a2 := qbl_ a2 hb; replace HB := am_ (below_step qB_ hb); (try clear hb); (try clear hb2); (try clear hk); (try clear hi)
    refine hK.out _ _ ⟨bl_ a0 0, bl_ a0 1, bl_ a1 0, bl_ a1 1⟩ (fun hHeld => ?_)
    clear hK K
    refine nm_ 29 ?_
    refine pz_ 8 6 (bm 10 511) ?_; refine pz_ 9 7 (bm 10 1023) ?_
    refine done_ (done_of HT_.out (by kernel_rfl)) ?_
    obtain ⟨m3, m4⟩ := nn_ b9; obtain ⟨m5, m6⟩ := nn_ b4
    obtain ⟨h7, h8, h9, i0⟩ := bc2_ a2
    try go_wp2
    refine bodyPost_ret (results_ct rfl _ _ b1 39 #[.int .i64 0, .slice none 0 0] (0, 0) _ rfl (by (with_reducible repeat (first | refine blk_drewN ?_ _ | refine blk_drew ?_ | refine blk_alloc ?_ _)); refine blk_put (cs := #[.int .i64 0, .slice none 0 0]) ?_ 1 _ rfl; (with_reducible repeat (first | refine blk_drewN ?_ _ | refine blk_drew ?_ | refine blk_alloc ?_ _)); refine blk_put (cs := #[.int .i64 0, .slice none 0 0]) ?_ 0 _ rfl; exact qf_ a2) Try.underlying39 rfl (by kernel_rfl)) rfl ?_
    exact ⟨_, qr_, by first | exact Kd.S_nil _ _ _ _ _ | exact Kd.N_nil _ _ _ _ _ | exact Kd.V_nil _ _ _ _ _ | exact Kd.Q_nil _ _ _ _ _ | exact Kd.R_nil _ _ _ _ _, qB_⟩
   rw [if_neg c28] at H
   have c28b0 : (a7 == a8) = false := beq_eq_false_iff_ne.mpr c28
   have c28b1 : (a7 != a8) = true := bne_iff_ne.mpr c28
   by_cases c35 : 0 ≤ a7
   rotate_left
   ·rw [if_neg c35] at H
    exact absurd H (by simp)
   rw [if_pos c35] at H
   have c35b0 := decide_eq_true c35
   clear c35
   by_cases c36 : a7 < (l0_1.length : Int)
   rotate_left
   ·rw [if_neg c36] at H
    exact absurd H (by simp)
   rw [if_pos c36] at H
   have c36b0 := decide_eq_true c36
   clear c36
   by_cases c37 : 0 ≤ a8
   rotate_left
   ·rw [if_neg c37] at H
    exact absurd H (by simp)
   rw [if_pos c37] at H
   have c37b0 := decide_eq_true c37
   clear c37
   by_cases c38 : a8 < (l0_1.length : Int)
   rotate_left
   ·rw [if_neg c38] at H
    exact absurd H (by simp)
   rw [if_pos c38] at H
   have c38b0 := decide_eq_true c38
   clear c38
   replace H := Option.bind_eq_some_iff.mp H
   obtain ⟨⟨c0, f4⟩, g9, H⟩ := H
   replace H : ((impl_without.f kj2 a0_0 l0_1 a7 a8).bind fun f1 => ((impl_putTour.f kj2 f1.2 c0).bind fun c2 => (some (f1.1, c2, f4)))) = some (r1, r2, r3) := H
   have A39 := am_ g9
   clear g9
   replace H := Option.bind_eq_some_iff.mp H
   obtain ⟨⟨b7, b8⟩, h0, H⟩ := H
   replace H : ((impl_putTour.f kj2 b8 c0).bind fun c2 => (some (b7, c2, f4))) = some (r1, r2, r3) := H
   have A40 := am_ h0
   clear h0
   obtain ⟨c2, h1, H⟩ := Option.bind_eq_some_iff.mp H; have A41 := am_ h1; clear h1
   simp only [Option.some.injEq, Prod.mk.injEq] at H
   obtain ⟨rfl, rfl, rfl⟩ := H
   try go_wp2
   replace a0 := am_ (blk_drew a0.out); replace a1 := am_ (blk_drew a1.out); replace a2 := am_ (blk_drew a2.out); replace HB := am_ (below_drew1 HB.out)
   refine start_ (n := 10) (S := fun w' => w'.cell? ⟨a9, 0, none⟩ = some (.int .i64 a0_0) ∧ w'.cell? ⟨a9, 1, none⟩ = some (.slice A0_1 l0_1.length c0_1) ∧ w'.cell? ⟨b0, 0, none⟩ = some (.int .i64 a1_0) ∧ w'.cell? ⟨b0, 1, none⟩ = some (.int .i64 a1_1)) (ds := []) (bm 10 0) (by kernel_rfl) rfl (by kernel_rfl) ⟨bl_ a0 0, bl_ a0 1, bl_ a1 0, bl_ a1 1⟩ (fun hHeld => ?_); refine with_tabW impl_Link.tab3 impl_Link.bits3 (fun HT_ HW_ => ?_)
   generalize wc.drew = w42 at a0 a1 a2 HB hHeld ⊢
   refine pz_ 1 23 (bm 10 2) ?_; refine pz_ 5 27 (bm 10 34) ?_; refine tz4_ 0 22 (bm 10 35) ?_; refine tz4_ 2 24 (bm 10 39) ?_; refine tz4_ 4 26 (bm 10 55) ?_; refine tz4_ 6 28 (bm 10 119) ?_
   refine o1_ 3 (some 25) (bm 10 127) (fun K hK => ?_)
   refine gs_ Try.func77 #[.agg #[.int .i64 a0_0, .slice A0_1 l0_1.length c0_1], .int .i64 a1_0] ?_
   with_reducible refine (impl_TreeOf.calls kj2 a0_0 _ _ l0_1 a1_0 a7 _ ?side1 ?side2 A26.out).mono ?_
   (case side1 => exact qC_ HR0_1 HB)
   (case side2 => exact HC0_1.out)
   rintro e w43 ⟨rfl, hb⟩
   refine ⟨_, rfl, ?_⟩
   replace a0 := qbl_ a0 hb; replace a1 := qbl_ a1 hb; replace a2 := qbl_ a2 hb; replace HB := am_ (below_step qB_ hb); (try clear hb); (try clear hb2); (try clear hk); (try clear hi)
   refine hK.out _ _ ⟨bl_ a0 0, bl_ a0 1, bl_ a1 0, bl_ a1 1⟩ (fun hHeld => ?_)
   clear hK K
   refine nm_ 25 ?_
   refine o1_ 7 (some 29) (bm 10 255) (fun K hK => ?_)
   refine gs_ Try.func77 #[.agg #[.int .i64 a0_0, .slice A0_1 l0_1.length c0_1], .int .i64 a1_1] ?_
   with_reducible refine (impl_TreeOf.calls kj2 a0_0 _ _ l0_1 a1_1 a8 _ ?side1 ?side2 A27.out).mono ?_
   (case side1 => exact qC_ HR0_1 HB)
   (case side2 => exact HC0_1.out)
   rintro e w44 ⟨rfl, hb⟩
   refine ⟨_, rfl, ?_⟩
   replace a0 := qbl_ a0 hb; replace a1 := qbl_ a1 hb; replace a2 := qbl_ a2 hb; replace HB := am_ (below_step qB_ hb); (try clear hb); (try clear hb2); (try clear hk); (try clear hi)
   refine hK.out _ _ ⟨bl_ a0 0, bl_ a0 1, bl_ a1 0, bl_ a1 1⟩ (fun hHeld => ?_)
   clear hK K
   refine nm_ 29 ?_
   refine pz_ 8 6 (bm 10 511) ?_; refine pz_ 9 7 (bm 10 1023) ?_
   refine done_ (done_of HT_.out (by kernel_rfl)) ?_
   try go_wp2
   replace a0 := am_ (blk_drew a0.out); replace a1 := am_ (blk_drew a1.out); replace a2 := am_ (blk_drew a2.out); replace HB := am_ (below_drew1 HB.out)
   have p519 := dp_ a7
   have q519 := dl_ a7 l0_1.length
   obtain ⟨ad519, A519_0, c519_0, e519, b5, hl519_0, hi519_0⟩ := at_L1 HR0_1.out a7 p519 q519
   have c4 := b5; cases e519
   replace b5 := qx_ HB b5
   have HR519_0 := am_ hi519_0
   have HC519_0 := am_ hl519_0
   clear hi519_0 hl519_0; replace p519 := eq_true p519; replace q519 := eq_true q519
   have p520 := dp_ a8
   have q520 := dl_ a8 l0_1.length
   obtain ⟨ad520, A520_0, c520_0, e520, b6, hl520_0, hi520_0⟩ := at_L1 HR0_1.out a8 p520 q520
   have c5 := b6
   obtain rfl : ad519 = ad520 := (by injection e520)
   replace b6 := qx_ HB b6
   have HR520_0 := am_ hi520_0
   have HC520_0 := am_ hl520_0
   clear hi520_0 hl520_0; replace p520 := eq_true p520; replace q520 := eq_true q520
   refine start_ (n := 20) (S := fun w' => w'.cell? ⟨a9, 0, none⟩ = some (.int .i64 a0_0) ∧ w'.cell? ⟨a9, 1, none⟩ = some (.slice (some ad519) l0_1.length c0_1) ∧ w'.cell? ⟨b0, 0, none⟩ = some (.int .i64 a1_0) ∧ w'.cell? ⟨b0, 1, none⟩ = some (.int .i64 a1_1) ∧ w'.cell? (ad519.add (a7).toNat) = some (.slice A519_0 (rd_L1 l0_1 a7).length c519_0) ∧ w'.cell? (ad519.add (a8).toNat) = some (.slice A520_0 (rd_L1 l0_1 a8).length c520_0)) (ds := []) (bm 20 0) (by kernel_rfl) rfl (by kernel_rfl) ⟨bl_ a0 0, bl_ a0 1, bl_ a1 0, bl_ a1 1, ((qx_ HB c4).trans rfl), ((qx_ HB c5).trans rfl)⟩ (fun hHeld => ?_); refine with_tabW impl_Link.tab6 impl_Link.bits6 (fun HT_ HW_ => ?_)
   generalize w44.drew = w45 at a0 a1 a2 HB HR519_0 HR520_0 b5 b6 hHeld ⊢
   refine pz_ 0 35 (bm 20 1) ?_; refine pz_ 2 37 (bm 20 5) ?_; refine pz_ 5 40 (bm 20 37) ?_; refine pz_ 7 42 (bm 20 165) ?_; refine pz_ 9 44 (bm 20 677) ?_; refine pz_ 12 47 (bm 20 4773) ?_; refine tz6_ 1 36 (bm 20 4775) ?_; refine pz_ 3 38 (bm 20 4783) ?_; refine tz6_ 4 39 (bm 20 4799) ?_; refine tz6_ 6 41 (bm 20 4863) ?_; refine tz6_ 8 43 (bm 20 5119) ?_; refine pz_ 10 45 (bm 20 6143) ?_; refine tz6_ 11 46 (bm 20 8191) ?_; refine tz6_ 13 48 (bm 20 16383) ?_
   refine o1_ 14 (some 49) (bm 20 32767) (fun K hK => ?_)
   refine gs_ Try.func85 #[.slice A519_0 (rd_L1 l0_1 a7).length c519_0, .int .i64 a1_0, .slice A520_0 (rd_L1 l0_1 a8).length c520_0, .int .i64 a1_1] ?_
   with_reducible refine (impl_JoinTours.calls kj2 _ _ (rd_L1 l0_1 a7) a1_0 _ _ (rd_L1 l0_1 a8) a1_1 c0 f4 _ ?side1 ?side2 ?side3 ?side4 A39.out).mono ?_
   (case side1 => exact qC_ HR519_0 HB)
   (case side2 => exact HC519_0.out)
   (case side3 => exact qC_ HR520_0 HB)
   (case side4 => exact HC520_0.out)
   rintro e w46 ⟨f5, rfl, ho0, hb⟩
   refine ⟨_, rfl, ?_⟩
   have a3 := am_ (Kd.R_lower (Kd.R_newM (M := fun k_ => (w.heap.size ≤ k_)) ho0 (below_size qB_) (fun k_ h_ => h_)) (below_size qB_)); replace a0 := qbl_ a0 hb; replace a1 := qbl_ a1 hb; replace a2 := qbl_ a2 hb; replace HB := am_ (below_step qB_ hb); (try clear hb); (try clear hb2); (try clear hk); (try clear hi); (try clear ho0)
   refine hK.out _ _ ⟨bl_ a0 0, bl_ a0 1, bl_ a1 0, bl_ a1 1, ((qx_ HB c4).trans rfl), ((qx_ HB c5).trans rfl)⟩ (fun hHeld => ?_)
   clear hK K
   refine nm_ 49 ?_
   refine pz_ 15 34 (bm 20 65535) ?_; refine pz_ 16 50 (bm 20 131071) ?_; refine pz_ 17 51 (bm 20 262143) ?_; refine pz_ 18 8 (bm 20 524287) ?_; refine pz_ 19 9 (bm 20 1048575) ?_
   refine done_ (done_of HT_.out (by kernel_rfl)) ?_
   obtain ⟨m7, m8⟩ := nn_ b2; obtain ⟨m9, n0⟩ := nn_ b3
   obtain ⟨i1, i2, i3, i4⟩ := bc2_ a0
   try go_wp2_with (first | ((with_reducible refine gate_callee (f := 79) rfl ?_); refine gl_ (some 55) Try.func79 #[.agg #[.int .i64 a0_0, .slice (some ad519) l0_1.length c0_1], .int .i64 a7, .int .i64 a8] ?_; (with_reducible refine (impl_without.calls kj2 a0_0 _ _ l0_1 a7 a8 b7 b8 _ ?side1 ?side2 A40.out).mono ?_); (case side1 => exact qC_ HR0_1 HB); (case side2 => exact HC0_1.out); rintro e w50 ⟨o0, rfl, ho0, hb⟩; refine ⟨_, rfl, ?_⟩; have a5 := am_ (Kd.N_lower (Kd.N_mono (ok' := fun k_ => (w.heap.size ≤ k_) ∧ some k_ ≠ (f5 : Value).ownBlock ∧ k_ ≠ a9 ∧ k_ ≠ b0 ∧ k_ ≠ b1) (Kd.S_N (Kd.S_bound ho0)) (fun k_ hk_ => ⟨(Nat.le_trans (below_size qB_) hk_.2.1), (Kd.fresh' (Kd.R_lt (qR_ a3)) k_ hk_.2.1), (Kd.freshB (qk_ a0) k_ hk_.2.1), (Kd.freshB (qk_ a1) k_ hk_.2.1), (Kd.freshB (qk_ a2) k_ hk_.2.1)⟩)) (below_size qB_)); replace a3 := am_ (Kd.R_below (qR_ a3) hb); replace a0 := qbl_ a0 hb; replace a1 := qbl_ a1 hb; replace a2 := qbl_ a2 hb; replace HB := hs_ hb; (try clear hb); (try clear hb2); (try clear hk); (try clear hi); (try clear ho0)) | ((with_reducible refine gate_dst (N := 10) rfl ?_); refine by_ 10 (cs := #[.int .i64 0, .slice none 0 0]) (t := 39) ?_; intro a6 hg w51 a4 hb; have h2 := gw_ hg; have n1 := h2; obtain ⟨g1, c9⟩ := qn_ a0 hg; obtain ⟨g2, d0⟩ := qn_ a1 hg; obtain ⟨g3, d1⟩ := qn_ a2 hg; replace a3 := am_ (Kd.R_below (qR_ a3) hb); replace a5 := am_ (Kd.N_below (Kd.N_elderB (by (with_reducible repeat (first | apply Kd.N_alloc | apply Kd.N_drewN | apply Kd.N_drew)); exact a5.out) a6 (Nat.le_of_eq hg.symm)) hb); replace a0 := qbl_ a0 hb; replace a1 := qbl_ a1 hb; replace a2 := qbl_ a2 hb; replace HB := hs_ hb; clear hb hg; obtain ⟨n2, n3⟩ := nn_ c9; obtain ⟨n4, n5⟩ := nn_ d0; obtain ⟨n6, n7⟩ := nn_ d1; obtain ⟨i5, i6, i7, i8⟩ := bc2_ a4; obtain ⟨d2, d3, k3⟩ := Kd.N_slice a5.out; subst k3) | ((with_reducible refine gate_store (t := 39) (p := 10) rfl ?_); refine store_event (t := 39) (p := 10) (v := ?vo_w57) (w1 := ((w51.setCell ⟨a6, 0, none⟩ (.int .i64 b7)).setCell ⟨a6, 1, none⟩ (.slice d2 b8.length d3))) ?hg ?ho ?hn ?hr ?_; (case ho => rfl); (case hg => rfl); (case hn => rfl); (case hr => first | (go_simp; done) | (go_simp; rfl)); intro w57 hw; have n0_ : Aside0 (Kd.R (Kd.int .i64) 3 w57 w.heap.size (fun k_ => (w.heap.size ≤ k_)) f5 c0) := ⟨(by rw [hw]; exact (by (with_reducible repeat (first | apply Kd.R_alloc | apply Kd.R_drewN | apply Kd.R_drew)); exact Kd.R_mono (Kd.R_far (p := ⟨a6, 1, none⟩) (Kd.R_far (p := ⟨a6, 0, none⟩) (Kd.R_types a3.out a4.out (by decide)) (fun _ hk => hk.2) (.int .i64 b7)) (fun _ hk => hk.2) (.slice d2 b8.length d3)) (fun _ hk => hk.1.1)))⟩; have n1_ : Aside0 (Kd.N (Kd.slice 3 (Kd.int .i64)) 51 w57 w.heap.size (fun k_ => (w.heap.size ≤ k_) ∧ some k_ ≠ (f5 : Value).ownBlock ∧ k_ ≠ a9 ∧ k_ ≠ b0 ∧ k_ ≠ b1 ∧ k_ ≠ a6) (.slice d2 b8.length d3) b8) := ⟨(by rw [hw]; exact (by (with_reducible repeat (first | apply Kd.N_alloc | apply Kd.N_drewN | apply Kd.N_drew)); exact Kd.N_mono (Kd.N_far (p := ⟨a6, 1, none⟩) (Kd.N_far (p := ⟨a6, 0, none⟩) (Kd.N_mono a5.out (fun k_ hk => (⟨hk, hk.2⟩ : _ ∧ k_ ≠ a6))) (fun _ hk => hk.2) (.int .i64 b7)) (fun _ hk => hk.2) (.slice d2 b8.length d3)) (fun _ hk => ⟨hk.1.1.1, ⟨hk.1.1.2.1, ⟨hk.1.1.2.2.1, ⟨hk.1.1.2.2.2.1, ⟨hk.1.1.2.2.2.2, hk.1.2⟩⟩⟩⟩⟩)))⟩; have n2_ : Aside0 (w57.heap[a9]? = some (.cells #[.int .i64 a0_0, .slice (some ad519) l0_1.length c0_1] 39 (0, 0))) := ⟨(by rw [hw]; exact (qf_ a0))⟩; have n3_ : Aside0 (w57.heap[b0]? = some (.cells #[.int .i64 a1_0, .int .i64 a1_1] 43 (0, 0))) := ⟨(by rw [hw]; exact (qf_ a1))⟩; have n4_ : Aside0 (w57.heap[b1]? = some (.cells #[.int .i64 0, .slice none 0 0] 39 (0, 0))) := ⟨(by rw [hw]; exact (qf_ a2))⟩; have n5_ : Aside0 (w57.heap[a6]? = some (.cells #[.int .i64 b7, .slice d2 b8.length d3] 39 (0, 0))) := ⟨(by rw [hw]; exact (by (with_reducible repeat (first | refine blk_drewN ?_ _ | refine blk_drew ?_ | refine blk_alloc ?_ _)); refine blk_put (cs := #[.int .i64 b7, .slice none 0 0]) ?_ 1 _ rfl; (with_reducible repeat (first | refine blk_drewN ?_ _ | refine blk_drew ?_ | refine blk_alloc ?_ _)); refine blk_put (cs := #[.int .i64 0, .slice none 0 0]) ?_ 0 _ rfl; exact qf_ a4))⟩; have n6_ : Aside0 (Below w.heap.size w w57) := ⟨(by rw [hw]; exact qB_)⟩; clear hw; clear a3; clear a5; clear a0; clear a1; clear a2; clear a4; clear HB; have a3 := n0_; have a5 := n1_; have a0 := n2_; have a1 := n3_; have a2 := n4_; have a4 := n5_; have HB := n6_; clear n0_ n1_ n2_ n3_ n4_ n5_ n6_; obtain ⟨i9, j1, j2, j3⟩ := bc2_ a4; obtain ⟨f6, f7, k4⟩ := Kd.R_slice a3.out; subst k4) | ((with_reducible refine gate_callee (f := 80) rfl ?_); refine gl_ (some 59) Try.func80 #[.slice d2 b8.length d3, .slice f6 c0.length f7] ?_; (with_reducible refine (impl_putTour.calls kj2 (fun k_ => ((w.heap.size ≤ k_) ∧ (some k_ ≠ (.slice f6 c0.length f7 : Value).ownBlock ∧ (k_ ≠ a9 ∧ (k_ ≠ b0 ∧ (k_ ≠ b1 ∧ k_ ≠ a6)))))) _ _ b8 (fun k_ => some k_ = (.slice f6 c0.length f7 : Value).ownBlock) _ _ c0 c2 _ ?side1 ?side2 A41.out).mono ?_); (case side1 => exact Kd.N_V (a5.out)); (case side2 => exact Kd.R_V (Kd.R_tight rfl (Kd.R_types (Kd.R_types (Kd.R_types (Kd.R_types (Kd.R_apart' (a3.out) (Kd.N_typed a5.out) (by decide)) a0.out (by decide)) a1.out (by decide)) a2.out (by decide)) a4.out (by decide)))); rintro e w60 ⟨o1, rfl, ho0, hb⟩; refine ⟨_, rfl, ?_⟩; have f2 := am_ (Kd.N_lower (Kd.N_mono (ok' := fun k_ => (w.heap.size ≤ k_) ∧ k_ ≠ a9 ∧ k_ ≠ b0 ∧ k_ ≠ b1 ∧ k_ ≠ a6) ho0 (fun k_ hk_ => ⟨Or.elim hk_ (fun hs_ => Or.elim hs_ (fun hs_ => hs_.1) (fun hs_ => ((Kd.R_types (Kd.R_types (Kd.R_types (Kd.R_types (Kd.R_apart' (a3.out) (Kd.N_typed a5.out) (by decide)) a0.out (by decide)) a1.out (by decide)) a2.out (by decide)) a4.out (by decide)).1 k_ hs_.symm).1.1.1.1.1)) (fun hn_ => (Nat.le_trans (below_size qB_) hn_)), Or.elim hk_ (fun hs_ => Or.elim hs_ (fun hs_ => hs_.2.2.1) (fun hs_ => ((Kd.R_types (Kd.R_types (Kd.R_types (Kd.R_types (Kd.R_apart' (a3.out) (Kd.N_typed a5.out) (by decide)) a0.out (by decide)) a1.out (by decide)) a2.out (by decide)) a4.out (by decide)).1 k_ hs_.symm).1.1.1.2)) (fun hn_ => (Kd.freshB (qk_ a0) k_ hn_)), Or.elim hk_ (fun hs_ => Or.elim hs_ (fun hs_ => hs_.2.2.2.1) (fun hs_ => ((Kd.R_types (Kd.R_types (Kd.R_types (Kd.R_types (Kd.R_apart' (a3.out) (Kd.N_typed a5.out) (by decide)) a0.out (by decide)) a1.out (by decide)) a2.out (by decide)) a4.out (by decide)).1 k_ hs_.symm).1.1.2)) (fun hn_ => (Kd.freshB (qk_ a1) k_ hn_)), Or.elim hk_ (fun hs_ => Or.elim hs_ (fun hs_ => hs_.2.2.2.2.1) (fun hs_ => ((Kd.R_types (Kd.R_types (Kd.R_types (Kd.R_types (Kd.R_apart' (a3.out) (Kd.N_typed a5.out) (by decide)) a0.out (by decide)) a1.out (by decide)) a2.out (by decide)) a4.out (by decide)).1 k_ hs_.symm).1.2)) (fun hn_ => (Kd.freshB (qk_ a2) k_ hn_)), Or.elim hk_ (fun hs_ => Or.elim hs_ (fun hs_ => hs_.2.2.2.2.2) (fun hs_ => ((Kd.R_types (Kd.R_types (Kd.R_types (Kd.R_types (Kd.R_apart' (a3.out) (Kd.N_typed a5.out) (by decide)) a0.out (by decide)) a1.out (by decide)) a2.out (by decide)) a4.out (by decide)).1 k_ hs_.symm).2)) (fun hn_ => (Kd.freshB (qk_ a4) k_ hn_))⟩)) (below_size qB_)); replace a3 := am_ (Kd.R_below (qR_ a3) hb); replace a5 := am_ (Kd.N_elder' (by (with_reducible repeat (first | apply Kd.N_alloc | apply Kd.N_drewN | apply Kd.N_drew)); exact a5.out) (Kd.N_base ho0) hb); replace a0 := qbl_ a0 hb; replace a1 := qbl_ a1 hb; replace a2 := qbl_ a2 hb; replace a4 := qbl_ a4 hb; replace HB := hs_ hb; (try clear hb); (try clear hb2); (try clear hk); (try clear hi); (try clear ho0); obtain ⟨f8, f9, k5⟩ := Kd.N_slice f2.out; subst k5; obtain ⟨j4, j5, j6, j7⟩ := bc2_ a4; obtain ⟨n8, n9⟩ := nn_ b4; obtain ⟨j8, j9, k0, k1⟩ := bc2_ a2))
   refine bodyPost_ret (results_ct rfl _ _ b1 39 #[.int .i64 b7, .slice f8 c2.length f9] (0, 0) _ rfl (by (with_reducible repeat (first | refine blk_drewN ?_ _ | refine blk_drew ?_ | refine blk_alloc ?_ _)); refine blk_put (cs := #[.int .i64 b7, .slice none 0 0]) ?_ 1 _ rfl; (with_reducible repeat (first | refine blk_drewN ?_ _ | refine blk_drew ?_ | refine blk_alloc ?_ _)); refine blk_put (cs := #[.int .i64 0, .slice none 0 0]) ?_ 0 _ rfl; exact qf_ a2) Try.underlying39 rfl (by kernel_rfl)) rfl ?_
   exact ⟨_, qr_, by (with_reducible repeat (first | apply Kd.N_alloc | apply Kd.N_drewN | apply Kd.N_drew)); exact Kd.N_mono (Kd.N_far (p := ⟨b1, 1, none⟩) (Kd.N_far (p := ⟨b1, 0, none⟩) (Kd.N_far (p := ⟨a6, 1, none⟩) (Kd.N_mono (Kd.N_mono f2.out (fun k_ hk => (⟨hk, hk.2.2.2.2⟩ : _ ∧ k_ ≠ a6))) (fun k_ hk => (⟨hk, hk.1.2.2.2.1⟩ : _ ∧ k_ ≠ b1))) (fun _ hk => hk.1.2) (.slice f8 c2.length f9)) (fun _ hk => hk.2) (.int .i64 b7)) (fun _ hk => hk.2) (.slice f8 c2.length f9)) (fun _ hk => hk.1.1.1), qB_⟩
-- NOT PRINTED: function 7 (laws_FnExactLink)
end Go.Proofs.Ytbkklafkoegdpaa.QFnExactLink
