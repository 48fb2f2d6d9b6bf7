import Derived.Test.YtbkklafkoegdpaaQFnExactWebAddx12
namespace Go.Proofs.Ytbkklafkoegdpaa.QFnExactWebAdd
open Go.RowKit Go.Proofs.YtbkklafkoegdpaaW.PrintWords Go.Proofs.YtbkklafkoegdpaaW.PrintLast Go.Proofs.YtbkklafkoegdpaaW.PrintMore
set_option maxHeartbeats 8000000
set_option maxRecDepth 100000
set_option linter.unusedVariables false
set_option linter.unusedSimpArgs false
def spec_AddEdge.f (k : Nat) (a0_0 : Int) (l0_1 : List (S43)) (a1_0 : Int) (a1_1 : Int) : Option (Int × (List (S43)) × Bool) := (spec_GraphOk.f k a0_0 l0_1).bind fun t336 => (if t336 = true then ((spec_EdgeOk.f a0_0 a1_0 a1_1).bind fun t337 => (if t337 = true then ((spec_HasEdge.f k a0_0 l0_1 a1_0 a1_1).bind fun t338 => (if t338 = true then (some (0, ([] : List (S43)), false)) else ((spec_l05Put.f k l0_1 a1_0 a1_1).bind fun t339 => (some (a0_0, t339, true))))) else (some (0, ([] : List (S43)), false)))) else (some (0, ([] : List (S43)), false)))
theorem spec_AddEdge.mono : ∀ a0 a1 a2 a3 k, LeO (spec_AddEdge.f k a0 a1 a2 a3) (spec_AddEdge.f (k + 1) a0 a1 a2 a3) := by
  intro a0 a1 a2 a3 k
  have m0 := @spec_GraphOk.mono; have m1 := @spec_HasEdge.mono; have m2 := @spec_l05Put.mono
  unfold spec_AddEdge.f
  exact lo_
def spec_AddEdge.T3 : Bool × List (List Nat × List Nat) := (true, [([], []), ([0], [0]), ([], []), ([2], [2]), ([], []), ([3, 4], [3, 4]), ([1, 5], [1, 5]), ([6, 5, 0, 1, 2, 3, 4, 5, 6], [6]), ([7, 0, 1, 2, 3, 4, 5, 6, 7], [])])
def spec_AddEdge.B3 : List Nat := [0, 1, 0, 4, 0, 28, 63, 127, 255]
theorem spec_AddEdge.tab3 : rtab .any (opsOf Try.f87 3) = spec_AddEdge.T3 := by kernel_rfl
theorem spec_AddEdge.bits3 : waitsOk spec_AddEdge.T3.2 spec_AddEdge.B3 = true := by kernel_rfl
theorem spec_AddEdge.calls (k : Nat) (a0_0 : Int) (A0_1 : Option Addr) (c0_1 : Nat) (l0_1 : List (S43)) (a1_0 : Int) (a1_1 : Int) (r1 : Int) (r2 : List (S43)) (r3 : Bool) (w : World) (hr0_1 : Kd.C k43 w A0_1 l0_1.length l0_1) (hc0_1 : l0_1.length ≤ c0_1) (h : spec_AddEdge.f k a0_0 l0_1 a1_0 a1_1 = some (r1, r2, r3)) :
  Calls Try.prog 87 #[.agg #[.int .i64 a0_0, .slice A0_1 l0_1.length c0_1], .agg #[.int .i64 a1_0, .int .i64 a1_1]] w fun e w' => ∃ v1_ : Value, e = .returned (.tuple #[.agg #[.int .i64 r1, v1_], .bool r3]) ∧ Kd.R k43 43 w' w.heap.size (fun _ => True) v1_ r2 ∧ Below w.heap.size w w' := by
 have hu69 := Try.underlying69; have hu43 := Try.underlying43
 have HR0_1 := am_ hr0_1
 have HC0_1 := am_ hc0_1
 clear hr0_1 hc0_1
 have HB := am_ (Below.refl w.heap.size w)
 have H : ((spec_GraphOk.f k a0_0 l0_1).bind fun c0 => (if c0 = true then ((spec_EdgeOk.f a0_0 a1_0 a1_1).bind fun c1 => (if c1 = true then ((spec_HasEdge.f k a0_0 l0_1 a1_0 a1_1).bind fun c2 => (if c2 = true then (some (0, ([] : List (S43)), false)) else ((spec_l05Put.f k l0_1 a1_0 a1_1).bind fun b5 => (some (a0_0, b5, true))))) else (some (0, ([] : List (S43)), false)))) else (some (0, ([] : List (S43)), false)))) = some (r1, r2, r3) := h
 clear h
 obtain ⟨c0, A3, H⟩ := bs_ H
 refine id_ H ?_ ?_ <;> clear H <;> rintro rfl H
 ·simp only [Option.some.injEq, Prod.mk.injEq] at H
  obtain ⟨rfl, rfl, rfl⟩ := H
  go_enter Try.func87, Try.ntmps87
  go_wp2_with (first | ((with_reducible refine gd_ 2 ?_); refine by_ 2 (cs := #[.int .i64 a0_0, .slice A0_1 l0_1.length c0_1]) (t := 69) ?_; intro b3 hg w56 a0 hb; have b0 := gw_ hg; replace HB := hs_ hb; clear hb hg) | ((with_reducible refine gd_ 3 ?_); refine by_ 3 (cs := #[.int .i64 a1_0, .int .i64 a1_1]) (t := 43) ?_; intro b4 hg w57 a1 hb; have b1 := gw_ hg; obtain ⟨a6, a9⟩ := qn_ a0 hg; replace a0 := qbl_ a0 hb; replace HB := hs_ hb; clear hb hg) | ((with_reducible refine gd_ 4 ?_); refine by_ 4 (cs := #[.int .i64 0, .slice none 0 0]) (t := 69) ?_; intro a5 hg w58 a2 hb; have b2 := gw_ hg; obtain ⟨a3, a8⟩ := qn_ a0 hg; obtain ⟨a4, a7⟩ := qn_ a1 hg; replace a0 := qbl_ a0 hb; replace a1 := qbl_ a1 hb; replace HB := hs_ hb; clear hb hg; obtain ⟨k6, k7⟩ := nn_ a6; obtain ⟨k8, k9⟩ := nn_ a3; obtain ⟨d0, d1, d2, d3⟩ := bc2_ a0) | ((with_reducible refine gc_ 56 ?_); refine gl_ (some 7) Try.func56 #[.agg #[.int .i64 a0_0, .slice A0_1 l0_1.length c0_1]] ?_; (with_reducible refine (spec_GraphOk.calls k a0_0 _ _ l0_1 false _ ?_ ?_ A3.out).mono ?_); exact qC_ HR0_1 HB; exact HC0_1.out; rintro e w62 ⟨rfl, hb⟩; refine ⟨_, rfl, ?_⟩; replace a0 := qbl_ a0 hb; replace a1 := qbl_ a1 hb; replace a2 := qbl_ a2 hb; replace HB := hs_ hb; (try clear hb); (try clear hb2); (try clear hk); (try clear hi); obtain ⟨l0, l1⟩ := nn_ a7; obtain ⟨d4, d5, d6, d7⟩ := bc2_ a2))
  refine bodyPost_ret (results_ct rfl _ _ a5 69 #[.int .i64 0, .slice none 0 0] (0, 0) _ rfl (by (with_reducible repeat (first | refine blk_drewN ?_ _ | refine blk_drew ?_ | refine blk_alloc ?_ _)); refine blk_put (cs := #[.int .i64 0, .slice none 0 0]) ?_ 1 _ rfl; (with_reducible repeat (first | refine blk_drewN ?_ _ | refine blk_drew ?_ | refine blk_alloc ?_ _)); refine blk_put (cs := #[.int .i64 0, .slice none 0 0]) ?_ 0 _ rfl; exact qf_ a2) Try.underlying69 rfl (by kernel_rfl)) rfl ?_
  exact ⟨_, qr_, by first | exact Kd.R_nil _ _ _ _ _ | exact Kd.N_nil _ _ _ _ _ | exact Kd.V_nil _ _ _ _ _ | exact Kd.Q_nil _ _ _ _ _ | exact Kd.S_nil _ _ _ _ _, qB_⟩
 obtain ⟨c1, A5, H⟩ := bs_ H
 refine id_ H ?_ ?_ <;> clear H <;> rintro rfl H
 ·simp only [Option.some.injEq, Prod.mk.injEq] at H
  obtain ⟨rfl, rfl, rfl⟩ := H
  go_enter Try.func87, Try.ntmps87
  go_wp2_with (first | ((with_reducible refine gd_ 2 ?_); refine by_ 2 (cs := #[.int .i64 a0_0, .slice A0_1 l0_1.length c0_1]) (t := 69) ?_; intro b3 hg w44 a0 hb; have b0 := gw_ hg; replace HB := hs_ hb; clear hb hg) | ((with_reducible refine gd_ 3 ?_); refine by_ 3 (cs := #[.int .i64 a1_0, .int .i64 a1_1]) (t := 43) ?_; intro b4 hg w45 a1 hb; have b1 := gw_ hg; obtain ⟨a6, a9⟩ := qn_ a0 hg; replace a0 := qbl_ a0 hb; replace HB := hs_ hb; clear hb hg) | ((with_reducible refine gd_ 4 ?_); refine by_ 4 (cs := #[.int .i64 0, .slice none 0 0]) (t := 69) ?_; intro a5 hg w46 a2 hb; have b2 := gw_ hg; obtain ⟨a3, a8⟩ := qn_ a0 hg; obtain ⟨a4, a7⟩ := qn_ a1 hg; replace a0 := qbl_ a0 hb; replace a1 := qbl_ a1 hb; replace HB := hs_ hb; clear hb hg; obtain ⟨l2, l3⟩ := nn_ a6; obtain ⟨l4, l5⟩ := nn_ a3; obtain ⟨d8, d9, e0, e1⟩ := bc2_ a0) | ((with_reducible refine gc_ 56 ?_); refine gl_ (some 7) Try.func56 #[.agg #[.int .i64 a0_0, .slice A0_1 l0_1.length c0_1]] ?_; (with_reducible refine (spec_GraphOk.calls k a0_0 _ _ l0_1 true _ ?_ ?_ A3.out).mono ?_); exact qC_ HR0_1 HB; exact HC0_1.out; rintro e w50 ⟨rfl, hb⟩; refine ⟨_, rfl, ?_⟩; replace a0 := qbl_ a0 hb; replace a1 := qbl_ a1 hb; replace a2 := qbl_ a2 hb; replace HB := hs_ hb; (try clear hb); (try clear hb2); (try clear hk); (try clear hi); obtain ⟨e2, e3, e4, e5⟩ := bc2_ a0; obtain ⟨l6, l7⟩ := nn_ a4; obtain ⟨e6, e7, e8, e9⟩ := bc2_ a1) | (go_at_call 71; (with_reducible refine (spec_EdgeOk.calls a0_0 a1_0 a1_1 false _ A5.out).mono ?_); rintro e w54 ⟨rfl, hb⟩; replace a0 := qbl_ a0 hb; replace a1 := qbl_ a1 hb; replace a2 := qbl_ a2 hb; replace HB := hs_ hb; (try clear hb); (try clear hb2); (try clear hk); (try clear hi); obtain ⟨f0, f1, f2, f3⟩ := bc2_ a2))
  refine bodyPost_ret (results_ct rfl _ _ a5 69 #[.int .i64 0, .slice none 0 0] (0, 0) _ rfl (by (with_reducible repeat (first | refine blk_drewN ?_ _ | refine blk_drew ?_ | refine blk_alloc ?_ _)); refine blk_put (cs := #[.int .i64 0, .slice none 0 0]) ?_ 1 _ rfl; (with_reducible repeat (first | refine blk_drewN ?_ _ | refine blk_drew ?_ | refine blk_alloc ?_ _)); refine blk_put (cs := #[.int .i64 0, .slice none 0 0]) ?_ 0 _ rfl; exact qf_ a2) Try.underlying69 rfl (by kernel_rfl)) rfl ?_
  exact ⟨_, qr_, by first | exact Kd.R_nil _ _ _ _ _ | exact Kd.N_nil _ _ _ _ _ | exact Kd.V_nil _ _ _ _ _ | exact Kd.Q_nil _ _ _ _ _ | exact Kd.S_nil _ _ _ _ _, qB_⟩
 obtain ⟨c2, A7, H⟩ := bs_ H
 refine ie_ H ?_ ?_ <;> clear H <;> rintro rfl H
 ·simp only [Option.some.injEq, Prod.mk.injEq] at H
  obtain ⟨rfl, rfl, rfl⟩ := H
  go_enter Try.func87, Try.ntmps87
  go_wp2_with (first | ((with_reducible refine gd_ 2 ?_); refine by_ 2 (cs := #[.int .i64 a0_0, .slice A0_1 l0_1.length c0_1]) (t := 69) ?_; intro b3 hg w9 a0 hb; have b0 := gw_ hg; replace HB := hs_ hb; clear hb hg) | ((with_reducible refine gd_ 3 ?_); refine by_ 3 (cs := #[.int .i64 a1_0, .int .i64 a1_1]) (t := 43) ?_; intro b4 hg w10 a1 hb; have b1 := gw_ hg; obtain ⟨a6, a9⟩ := qn_ a0 hg; replace a0 := qbl_ a0 hb; replace HB := hs_ hb; clear hb hg) | ((with_reducible refine gd_ 4 ?_); refine by_ 4 (cs := #[.int .i64 0, .slice none 0 0]) (t := 69) ?_; intro a5 hg w11 a2 hb; have b2 := gw_ hg; obtain ⟨a3, a8⟩ := qn_ a0 hg; obtain ⟨a4, a7⟩ := qn_ a1 hg; replace a0 := qbl_ a0 hb; replace a1 := qbl_ a1 hb; replace HB := hs_ hb; clear hb hg; obtain ⟨l8, l9⟩ := nn_ a6; obtain ⟨m0, m1⟩ := nn_ a3; obtain ⟨f4, f5, f6, f7⟩ := bc2_ a0) | ((with_reducible refine gc_ 56 ?_); refine gl_ (some 7) Try.func56 #[.agg #[.int .i64 a0_0, .slice A0_1 l0_1.length c0_1]] ?_; (with_reducible refine (spec_GraphOk.calls k a0_0 _ _ l0_1 true _ ?_ ?_ A3.out).mono ?_); exact qC_ HR0_1 HB; exact HC0_1.out; rintro e w15 ⟨rfl, hb⟩; refine ⟨_, rfl, ?_⟩; replace a0 := qbl_ a0 hb; replace a1 := qbl_ a1 hb; replace a2 := qbl_ a2 hb; replace HB := hs_ hb; (try clear hb); (try clear hb2); (try clear hk); (try clear hi); obtain ⟨f8, f9, g0, g1⟩ := bc2_ a0; obtain ⟨m2, m3⟩ := nn_ a4; obtain ⟨g2, g3, g4, g5⟩ := bc2_ a1) | (go_at_call 71; (with_reducible refine (spec_EdgeOk.calls a0_0 a1_0 a1_1 true _ A5.out).mono ?_); rintro e w19 ⟨rfl, hb⟩; replace a0 := qbl_ a0 hb; replace a1 := qbl_ a1 hb; replace a2 := qbl_ a2 hb; replace HB := hs_ hb; (try clear hb); (try clear hb2); (try clear hk); (try clear hi); obtain ⟨g6, g7, g8, g9⟩ := bc2_ a0; obtain ⟨h0, h1, h2, h3⟩ := bc2_ a1) | (go_at_call 46; (with_reducible refine (spec_HasEdge.calls k a0_0 _ _ l0_1 a1_0 a1_1 true _ ?_ ?_ A7.out).mono ?_); exact qC_ HR0_1 HB; exact HC0_1.out; rintro e w22 ⟨rfl, hb⟩; replace a0 := qbl_ a0 hb; replace a1 := qbl_ a1 hb; replace a2 := qbl_ a2 hb; replace HB := hs_ hb; (try clear hb); (try clear hb2); (try clear hk); (try clear hi); obtain ⟨h4, h5, h6, h7⟩ := bc2_ a2))
  refine bodyPost_ret (results_ct rfl _ _ a5 69 #[.int .i64 0, .slice none 0 0] (0, 0) _ rfl (by (with_reducible repeat (first | refine blk_drewN ?_ _ | refine blk_drew ?_ | refine blk_alloc ?_ _)); refine blk_put (cs := #[.int .i64 0, .slice none 0 0]) ?_ 1 _ rfl; (with_reducible repeat (first | refine blk_drewN ?_ _ | refine blk_drew ?_ | refine blk_alloc ?_ _)); refine blk_put (cs := #[.int .i64 0, .slice none 0 0]) ?_ 0 _ rfl; exact qf_ a2) Try.underlying69 rfl (by kernel_rfl)) rfl ?_
  exact ⟨_, qr_, by first | exact Kd.R_nil _ _ _ _ _ | exact Kd.N_nil _ _ _ _ _ | exact Kd.V_nil _ _ _ _ _ | exact Kd.Q_nil _ _ _ _ _ | exact Kd.S_nil _ _ _ _ _, qB_⟩
 obtain ⟨b5, A24, H⟩ := bs_ H
 simp only [Option.some.injEq, Prod.mk.injEq] at H
 obtain ⟨rfl, rfl, rfl⟩ := H
 go_enter Try.func87, Try.ntmps87
 try go_wp2_with (first | ((with_reducible refine gd_ 2 ?_); refine by_ 2 (cs := #[.int .i64 a0_0, .slice A0_1 l0_1.length c0_1]) (t := 69) ?_; intro b3 hg w25 a0 hb; have b0 := gw_ hg; replace HB := hs_ hb; clear hb hg) | ((with_reducible refine gd_ 3 ?_); refine by_ 3 (cs := #[.int .i64 a1_0, .int .i64 a1_1]) (t := 43) ?_; intro b4 hg w26 a1 hb; have b1 := gw_ hg; obtain ⟨a6, a9⟩ := qn_ a0 hg; replace a0 := qbl_ a0 hb; replace HB := hs_ hb; clear hb hg) | ((with_reducible refine gd_ 4 ?_); refine by_ 4 (cs := #[.int .i64 0, .slice none 0 0]) (t := 69) ?_; intro a5 hg w27 a2 hb; have b2 := gw_ hg; obtain ⟨a3, a8⟩ := qn_ a0 hg; obtain ⟨a4, a7⟩ := qn_ a1 hg; replace a0 := qbl_ a0 hb; replace a1 := qbl_ a1 hb; replace HB := hs_ hb; clear hb hg; obtain ⟨m4, m5⟩ := nn_ a6; obtain ⟨m6, m7⟩ := nn_ a3; obtain ⟨h8, h9, i0, i1⟩ := bc2_ a0) | ((with_reducible refine gc_ 56 ?_); refine gl_ (some 7) Try.func56 #[.agg #[.int .i64 a0_0, .slice A0_1 l0_1.length c0_1]] ?_; (with_reducible refine (spec_GraphOk.calls k a0_0 _ _ l0_1 true _ ?_ ?_ A3.out).mono ?_); exact qC_ HR0_1 HB; exact HC0_1.out; rintro e w31 ⟨rfl, hb⟩; refine ⟨_, rfl, ?_⟩; replace a0 := qbl_ a0 hb; replace a1 := qbl_ a1 hb; replace a2 := qbl_ a2 hb; replace HB := hs_ hb; (try clear hb); (try clear hb2); (try clear hk); (try clear hi); obtain ⟨i2, i3, i4, i5⟩ := bc2_ a0; obtain ⟨m8, m9⟩ := nn_ a4; obtain ⟨i6, i7, i8, i9⟩ := bc2_ a1) | (go_at_call 71; (with_reducible refine (spec_EdgeOk.calls a0_0 a1_0 a1_1 true _ A5.out).mono ?_); rintro e w35 ⟨rfl, hb⟩; replace a0 := qbl_ a0 hb; replace a1 := qbl_ a1 hb; replace a2 := qbl_ a2 hb; replace HB := hs_ hb; (try clear hb); (try clear hb2); (try clear hk); (try clear hi); obtain ⟨j0, j1, j2, j3⟩ := bc2_ a0; obtain ⟨j4, j5, j6, j7⟩ := bc2_ a1) | (go_at_call 46; (with_reducible refine (spec_HasEdge.calls k a0_0 _ _ l0_1 a1_0 a1_1 false _ ?_ ?_ A7.out).mono ?_); exact qC_ HR0_1 HB; exact HC0_1.out; rintro e w38 ⟨rfl, hb⟩; replace a0 := qbl_ a0 hb; replace a1 := qbl_ a1 hb; replace a2 := qbl_ a2 hb; replace HB := hs_ hb; (try clear hb); (try clear hb2); (try clear hk); (try clear hi)))
 replace a0 := am_ (blk_drew a0.out); replace a1 := am_ (blk_drew a1.out); replace a2 := am_ (blk_drew a2.out); replace HB := am_ (below_drew1 HB.out)
 refine start_ (n := 9) (S := fun w' => w'.cell? ⟨b3, 0, none⟩ = some (.int .i64 a0_0) ∧ w'.cell? ⟨b3, 1, none⟩ = some (.slice A0_1 l0_1.length c0_1) ∧ w'.cell? ⟨b4, 0, none⟩ = some (.int .i64 a1_0) ∧ w'.cell? ⟨b4, 1, none⟩ = some (.int .i64 a1_1)) (ds := []) (bm 9 0) (by kernel_rfl) rfl (by kernel_rfl) ⟨bl_ a0 0, bl_ a0 1, bl_ a1 0, bl_ a1 1⟩ (fun hHeld => ?_); refine with_tabW spec_AddEdge.tab3 spec_AddEdge.bits3 (fun HT_ HW_ => ?_)
 generalize w38.drew = w39 at a0 a1 a2 HB hHeld ⊢
 refine pz_ 0 22 9 1 ?_; refine pz_ 2 24 9 5 ?_; refine tz4_ 1 23 9 7 ?_; refine tz4_ 3 25 9 15 ?_; refine tz4_ 4 26 9 31 ?_
 refine o1_ 5 (some 27) 9 63 (fun K hK => ?_)
 refine gs_ Try.func127 #[.slice A0_1 l0_1.length c0_1, .agg #[.int .i64 a1_0, .int .i64 a1_1]] ?_
 with_reducible refine (spec_l05Put.calls k _ _ l0_1 a1_0 a1_1 b5 _ ?side1 ?side2 A24.out).mono ?_
 (case side1 => exact qC_ HR0_1 HB)
 (case side2 => exact HC0_1.out)
 rintro e w40 ⟨n0, rfl, ho0, hb⟩
 refine ⟨_, rfl, ?_⟩
 have b9 := am_ (Kd.R_lower (Kd.R_newB ho0 (qk_ a1)) (below_size qB_)); replace a0 := qbl_ a0 hb; replace a1 := qbl_ a1 hb; replace a2 := qbl_ a2 hb; replace HB := hs_ hb; (try clear hb); (try clear hb2); (try clear hk); (try clear hi); (try clear ho0)
 obtain ⟨c5, c7, c9⟩ := Kd.R_slice b9.out
 (first | subst c9 | (injection c9 with f1_ f2_ f3_; have f4_ := f1_.symm; have f5_ := f3_.symm; clear f1_ f2_ f3_; subst f4_; subst f5_))
 refine hK.out _ _ ⟨bl_ a0 0, bl_ a0 1, bl_ a1 0, bl_ a1 1⟩ (fun hHeld => ?_)
 clear hK K
 refine nm_ 27 ?_
 refine pz_ 6 28 9 127 ?_
 refine o1_ 7 none 9 255 (fun K hK => ?_)
 have hs42 : w40.cell? ⟨a5, 0, none⟩ = some (.int .i64 0) := bl_ a2 0
 have hfs42 := blk_frozen a2.out 0
 have j8 := a3.out; have j9 := a4.out; have k0 := a8.out; have k1 := a7.out
 have hs43 : w40.cell? ⟨a5, 1, none⟩ = some (.slice none 0 0) := bl_ a2 1
 have hfs43 := blk_frozen a2.out 1
 have k2 := a3.out; have k3 := a4.out; have k4 := a8.out; have k5 := a7.out
 refine skip_ (w1 := ?_) (by rfl) rfl ?_ ?_
 rotate_left
 ·go_simp
  rfl
 refine hK.out _ _ ⟨((cell_far (p := ⟨a5, _, none⟩) a3.out _).trans (((cell_far (p := ⟨a5, _, none⟩) a3.out _).trans (hHeld.1)))), ((cell_far (p := ⟨a5, _, none⟩) a3.out _).trans (((cell_far (p := ⟨a5, _, none⟩) a3.out _).trans (hHeld.2.1)))), ((cell_far (p := ⟨a5, _, none⟩) a4.out _).trans (((cell_far (p := ⟨a5, _, none⟩) a4.out _).trans (hHeld.2.2.1)))), ((cell_far (p := ⟨a5, _, none⟩) a4.out _).trans (((cell_far (p := ⟨a5, _, none⟩) a4.out _).trans (hHeld.2.2.2))))⟩ (fun hHeld => ?_)
 clear hK K; refine pz_ 8 5 9 511 ?_
 refine done_ (done_of HT_.out (by kernel_rfl)) ?_
 try go_wp2
 refine bodyPost_ret (results_ct rfl _ _ a5 69 #[.int .i64 a0_0, .slice c5 b5.length c7] (0, 0) _ rfl (by (with_reducible repeat (first | refine blk_drewN ?_ _ | refine blk_drew ?_ | refine blk_alloc ?_ _)); refine blk_put (cs := #[.int .i64 a0_0, .slice none 0 0]) ?_ 1 _ rfl; (with_reducible repeat (first | refine blk_drewN ?_ _ | refine blk_drew ?_ | refine blk_alloc ?_ _)); refine blk_put (cs := #[.int .i64 0, .slice none 0 0]) ?_ 0 _ rfl; exact qf_ a2) Try.underlying69 rfl (by kernel_rfl)) rfl ?_
 exact ⟨_, qr_, by (with_reducible repeat (first | apply Kd.R_alloc | apply Kd.R_drewN | apply Kd.R_drew)); exact Kd.R_mono (Kd.R_far (p := ⟨a5, 1, none⟩) (Kd.R_far (p := ⟨a5, 0, none⟩) (Kd.R_types b9.out a2.out (by decide)) (fun _ hk => hk.2) (.int .i64 a0_0)) (fun _ hk => hk.2) (.slice c5 b5.length c7)) (fun _ hk => trivial), qB_⟩
end Go.Proofs.Ytbkklafkoegdpaa.QFnExactWebAdd
