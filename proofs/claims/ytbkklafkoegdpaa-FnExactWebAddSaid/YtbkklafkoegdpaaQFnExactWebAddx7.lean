import Derived.Test.YtbkklafkoegdpaaQFnExactWebAddx6
namespace Go.Proofs.Ytbkklafkoegdpaa.QFnExactWebAdd
open Go.RowKit Go.Proofs.YtbkklafkoegdpaaW.PrintWords Go.Proofs.YtbkklafkoegdpaaW.PrintLast Go.Proofs.YtbkklafkoegdpaaW.PrintMore
set_option maxHeartbeats 8000000
set_option maxRecDepth 100000
set_option linter.unusedVariables false
set_option linter.unusedSimpArgs false
def spec_ForestAt.l0 : Nat → List (S43) → List Int → Int → Int → List (S72) → Int → List (List Int) → Option (Int × (List (List Int)) × Bool)
  | 0, _, _, _, _, _, _, _ => none
  | k + 1, x7, x8, x9, x213000, x213001, x215000, x215001 => if x9 < x213000 then ((spec_l05In.f k x8 x9).bind fun t222 => (if t222 = true then (spec_ForestAt.l0 k x7 x8 (wrap64 (x9 + 1)) x213000 x213001 x215000 x215001) else ((spec_TourOf.f k x213000 x7 x9).bind fun bt223 => (if bt223.2 = true then (if x215001.length < 5864062014805 then (if x8.length + bt223.1.length < 17592186044416 then (spec_ForestAt.l0 k x7 (x8 ++ bt223.1) (wrap64 (x9 + 1)) x213000 x213001 x215000 (x215001 ++ [bt223.1])) else (none)) else (none)) else (some (0, ([] : List (List Int)), false)))))) else (some (x215000, x215001, true))
def spec_ForestAt.f (k : Nat) (a0_0 : Int) (l0_1 : List (S72)) (a1 : Int) : Option (Int × (List (List Int)) × Bool) := (spec_l08Tree.f k a0_0 l0_1 a1).bind fun t215 => ((spec_l01In.f a0_0 1 12).bind fun t218 => (if t218 = true then (spec_ForestAt.l0 k t215 (([] : List Int)) 0 a0_0 l0_1 a0_0 ([] : List (List Int))) else (some (0, ([] : List (List Int)), false))))
theorem spec_ForestAt.mono_l : ∀ k, (∀ y0 y1 y2 y3 y4 y5 y6, LeO (spec_ForestAt.l0 k y0 y1 y2 y3 y4 y5 y6) (spec_ForestAt.l0 (k + 1) y0 y1 y2 y3 y4 y5 y6))
  | 0 => fun _ _ _ _ _ _ _ r h => by simp [spec_ForestAt.l0] at h
  | k + 1 => by
    have ih0 := spec_ForestAt.mono_l k
    have m0 := @spec_TourOf.mono; have m1 := @spec_l05In.mono; have m2 := @spec_l08Tree.mono
    · intro y0 y1 y2 y3 y4 y5 y6
      unfold spec_ForestAt.l0
      exact lo_
theorem spec_ForestAt.mono : ∀ a0 a1 a2 k, LeO (spec_ForestAt.f k a0 a1 a2) (spec_ForestAt.f (k + 1) a0 a1 a2) := by
  intro a0 a1 a2 k
  have ih0 := spec_ForestAt.mono_l k
  have m0 := @spec_TourOf.mono; have m1 := @spec_l05In.mono; have m2 := @spec_l08Tree.mono
  unfold spec_ForestAt.f
  exact lo_
theorem spec_ForestAt.calls (k : Nat) (a0_0 : Int) (A0_1 : Option Addr) (c0_1 : Nat) (l0_1 : List (S72)) (a1 : Int) (r1 : Int) (r2 : List (List Int)) (r3 : Bool) (w : World) (hr0_1 : Kd.C k72 w A0_1 l0_1.length l0_1) (hc0_1 : l0_1.length ≤ c0_1) (h : spec_ForestAt.f k a0_0 l0_1 a1 = some (r1, r2, r3)) :
  Calls Try.prog 58 #[.agg #[.int .i64 a0_0, .slice A0_1 l0_1.length c0_1], .int .i64 a1] w fun e w' => ∃ v1_ : Value, e = .returned (.tuple #[.agg #[.int .i64 r1, v1_], .bool r3]) ∧ Kd.S (Kd.slice 3 (Kd.int .i64)) 51 w' w.heap.size (fun _ => True) v1_ r2 ∧ Below w.heap.size w w' := by
 have hu29 := Try.underlying29; have hu39 := Try.underlying39
 have HR0_1 := am_ hr0_1
 have HC0_1 := am_ hc0_1
 clear hr0_1 hc0_1
 have HB := am_ (Below.refl w.heap.size w)
 have H : ((spec_l08Tree.f k a0_0 l0_1 a1).bind fun b6 => ((spec_l01In.f a0_0 1 12).bind fun f0 => (if f0 = true then (spec_ForestAt.l0 k b6 (([] : List Int)) 0 a0_0 l0_1 a0_0 ([] : List (List Int))) else (some (0, ([] : List (List Int)), false))))) = some (r1, r2, r3) := h
 clear h
 obtain ⟨b6, A3, H⟩ := bs_ H
 obtain ⟨f0, A4, H⟩ := bs_ H
 refine id_ H ?_ ?_ <;> clear H <;> rintro rfl H
 ·simp only [Option.some.injEq, Prod.mk.injEq] at H
  obtain ⟨rfl, rfl, rfl⟩ := H
  go_enter Try.func58, Try.ntmps58
  go_wp2_with (first | ((with_reducible refine gd_ 2 ?_); refine by_ 2 (cs := #[.int .i64 a0_0, .slice A0_1 l0_1.length c0_1]) (t := 29) ?_; intro b5 hg w58 a0 hb; have d2 := gw_ hg; replace HB := hs_ hb; clear hb hg) | ((with_reducible refine gd_ 4 ?_); refine by_ 4 (cs := #[.int .i64 0, .slice none 0 0]) (t := 39) ?_; intro b1 hg w59 a3 hb; have d3 := gw_ hg; obtain ⟨b0, d1⟩ := qn_ a0 hg; replace a0 := qbl_ a0 hb; replace HB := hs_ hb; clear hb hg; obtain ⟨o3, o4⟩ := nn_ b0; obtain ⟨g9, h0, h1, h2⟩ := bc2_ a0) | ((with_reducible refine gd_ 6 ?_); refine by_ 6 (cs := #[.int .i64 0, .slice none 0 0]) (t := 39) ?_; intro a9 hg w62 a4 hb; have d4 := gw_ hg; obtain ⟨b3, b8⟩ := qn_ a0 hg; obtain ⟨c2, b4⟩ := qn_ a3 hg; replace a0 := qbl_ a0 hb; replace a3 := qbl_ a3 hb; replace HB := hs_ hb; clear hb hg; obtain ⟨o5, o6⟩ := nn_ b8; obtain ⟨o7, o8⟩ := nn_ b4; obtain ⟨h3, h4, h5, h6⟩ := bc2_ a4; obtain ⟨h7, h8, h9, i0⟩ := bc2_ a0) | ((with_reducible refine gc_ 108 ?_); refine gl_ (some 17) Try.func108 #[.agg #[.int .i64 a0_0, .slice A0_1 l0_1.length c0_1], .int .i64 a1] ?_; (with_reducible refine (spec_l08Tree.calls k a0_0 _ _ l0_1 a1 b6 _ ?_ ?_ A3.out).mono ?_); exact Kd.C_below HR0_1.out qB_; exact HC0_1.out; rintro e w67 ⟨d5, rfl, ho0, hb⟩; refine ⟨_, rfl, ?_⟩; have b9 := am_ (Kd.R_lower ho0 (below_size qB_)); replace a0 := qbl_ a0 hb; replace a3 := qbl_ a3 hb; replace a4 := am_ (blk_below (g := a9) (o := .cells #[.int .i64 a0_0, .slice none 0 0] 39 (0, 0)) (by (with_reducible repeat (first | refine blk_drewN ?_ _ | refine blk_drew ?_ | refine blk_alloc ?_ _)); refine blk_put (cs := #[.int .i64 a0_0, .slice none 0 0]) ?_ 1 _ rfl; (with_reducible repeat (first | refine blk_drewN ?_ _ | refine blk_drew ?_ | refine blk_alloc ?_ _)); refine blk_put (cs := #[.int .i64 0, .slice none 0 0]) ?_ 0 _ rfl; exact qf_ a4) hb); replace HB := hs_ hb; (try clear hb); (try clear hb2); (try clear hk); (try clear hi); (try clear ho0); obtain ⟨i1, i2, i3, i4⟩ := bc2_ a0) | ((with_reducible refine gc_ 57 ?_); refine gl_ (some 20) Try.func57 #[.int .i64 a0_0, .int .i64 1, .int .i64 12] ?_; (with_reducible refine (spec_l01In.calls a0_0 1 12 false _ A4.out).mono ?_); rintro e w' ⟨rfl, ⟨nd, rfl⟩⟩; refine ⟨_, rfl, ?_⟩; (try (rw [drewN_self w67]; generalize hq_ : World.drewN w67 _ = w67; have n0_ : Aside0 (Kd.R k43 43 w67 w.heap.size (fun _ => True) d5 b6) := ⟨by rw [← hq_]; exact (qR_ b9)⟩; have n1_ : Aside0 (w67.heap[b5]? = some (.cells #[.int .i64 a0_0, .slice A0_1 l0_1.length c0_1] 29 (0, 0))) := ⟨by rw [← hq_]; exact (qk_ a0)⟩; have n2_ : Aside0 (w67.heap[b1]? = some (.cells #[.int .i64 0, .slice none 0 0] 39 (0, 0))) := ⟨by rw [← hq_]; exact (qk_ a3)⟩; have n3_ : Aside0 (w67.heap[a9]? = some (.cells #[.int .i64 a0_0, .slice none 0 0] 39 (0, 0))) := ⟨by rw [← hq_]; exact (qk_ a4)⟩; have n4_ : Aside0 (Below w.heap.size w w67) := ⟨by rw [← hq_]; exact qB_⟩; clear b9 a0 a3 a4 HB hq_; have b9 := n0_; have a0 := n1_; have a3 := n2_; have a4 := n3_; have HB := n4_; clear n0_ n1_ n2_ n3_ n4_; have hcr_gb212_0 : w67.cell? ⟨b5, 0, none⟩ = some (.int .i64 a0_0) := bl_ a0 0; have hfr_gb212_0 := blk_frozen a0.out 0; have hcr_gb212_1 : w67.cell? ⟨b5, 1, none⟩ = some (.slice A0_1 l0_1.length c0_1) := bl_ a0 1; have hfr_gb212_1 := blk_frozen a0.out 1; have hcr_gb213_0 : w67.cell? ⟨b1, 0, none⟩ = some (.int .i64 0) := bl_ a3 0; have hfr_gb213_0 := blk_frozen a3.out 0; have hcr_gb213_1 : w67.cell? ⟨b1, 1, none⟩ = some (.slice none 0 0) := bl_ a3 1; have hfr_gb213_1 := blk_frozen a3.out 1; have hcr_gb214_0 : w67.cell? ⟨a9, 0, none⟩ = some (.int .i64 a0_0) := bl_ a4 0; have hfr_gb214_0 := blk_frozen a4.out 0; have hcr_gb214_1 : w67.cell? ⟨a9, 1, none⟩ = some (.slice none 0 0) := bl_ a4 1; have hfr_gb214_1 := blk_frozen a4.out 1)); obtain ⟨i5, i6, i7, i8⟩ := bc2_ a3))
  refine bodyPost_ret (results_ct rfl _ _ b1 39 #[.int .i64 0, .slice none 0 0] (0, 0) _ rfl (by (with_reducible repeat (first | refine blk_drewN ?_ _ | refine blk_drew ?_ | refine blk_alloc ?_ _)); refine blk_put (cs := #[.int .i64 0, .slice none 0 0]) ?_ 1 _ rfl; (with_reducible repeat (first | refine blk_drewN ?_ _ | refine blk_drew ?_ | refine blk_alloc ?_ _)); refine blk_put (cs := #[.int .i64 0, .slice none 0 0]) ?_ 0 _ rfl; exact qf_ a3) Try.underlying39 rfl (by kernel_rfl)) rfl ?_
  exact ⟨_, qr_, by first | exact Kd.S_nil _ _ _ _ _ | exact Kd.N_nil _ _ _ _ _ | exact Kd.V_nil _ _ _ _ _ | exact Kd.Q_nil _ _ _ _ _ | exact Kd.R_nil _ _ _ _ _, qB_⟩
 obtain ⟨g0, hy219⟩ : ∃ y_ : List Int, y_ = (([] : List Int)) := ⟨_, rfl⟩
 replace H : (spec_ForestAt.l0 k b6 g0 0 a0_0 l0_1 a0_0 ([] : List (List Int))) = some (r1, r2, r3) := hq_ hy219 H
 have Ny219 := am_ hy219
 clear hy219; have H' := am_ H; clear H
 go_enter Try.func58, Try.ntmps58
 go_wp2_with (first | ((with_reducible refine gd_ 2 ?_); refine by_ 2 (cs := #[.int .i64 a0_0, .slice A0_1 l0_1.length c0_1]) (t := 29) ?_; intro b5 hg w6 a0 hb; have d2 := gw_ hg; replace HB := hs_ hb; clear hb hg) | ((with_reducible refine gd_ 4 ?_); refine by_ 4 (cs := #[.int .i64 0, .slice none 0 0]) (t := 39) ?_; intro b1 hg w7 a3 hb; have d3 := gw_ hg; obtain ⟨b0, d1⟩ := qn_ a0 hg; replace a0 := qbl_ a0 hb; replace HB := hs_ hb; clear hb hg; obtain ⟨r9, s0⟩ := nn_ b0; obtain ⟨f1, f2, f3, f4⟩ := bc2_ a0) | ((with_reducible refine gd_ 6 ?_); refine by_ 6 (cs := #[.int .i64 0, .slice none 0 0]) (t := 39) ?_; intro a9 hg w10 a4 hb; have d4 := gw_ hg; obtain ⟨b3, b8⟩ := qn_ a0 hg; obtain ⟨c2, b4⟩ := qn_ a3 hg; replace a0 := qbl_ a0 hb; replace a3 := qbl_ a3 hb; replace HB := hs_ hb; clear hb hg; obtain ⟨o9, p0⟩ := nn_ b8; obtain ⟨p1, p3⟩ := nn_ b4; obtain ⟨d6, d7, d8, d9⟩ := bc2_ a4; obtain ⟨e0, e1, e2, e3⟩ := bc2_ a0) | ((with_reducible refine gc_ 108 ?_); refine gl_ (some 17) Try.func108 #[.agg #[.int .i64 a0_0, .slice A0_1 l0_1.length c0_1], .int .i64 a1] ?_; (with_reducible refine (spec_l08Tree.calls k a0_0 _ _ l0_1 a1 b6 _ ?_ ?_ A3.out).mono ?_); exact Kd.C_below HR0_1.out qB_; exact HC0_1.out; rintro e w15 ⟨d5, rfl, ho0, hb⟩; refine ⟨_, rfl, ?_⟩; have b9 := am_ (Kd.R_lower ho0 (below_size qB_)); replace a0 := qbl_ a0 hb; replace a3 := qbl_ a3 hb; replace a4 := am_ (blk_below (g := a9) (o := .cells #[.int .i64 a0_0, .slice none 0 0] 39 (0, 0)) (by (with_reducible repeat (first | refine blk_drewN ?_ _ | refine blk_drew ?_ | refine blk_alloc ?_ _)); refine blk_put (cs := #[.int .i64 a0_0, .slice none 0 0]) ?_ 1 _ rfl; (with_reducible repeat (first | refine blk_drewN ?_ _ | refine blk_drew ?_ | refine blk_alloc ?_ _)); refine blk_put (cs := #[.int .i64 0, .slice none 0 0]) ?_ 0 _ rfl; exact qf_ a4) hb); replace HB := hs_ hb; (try clear hb); (try clear hb2); (try clear hk); (try clear hi); (try clear ho0); obtain ⟨e4, e5, e6, e7⟩ := bc2_ a0) | ((with_reducible refine gc_ 57 ?_); refine gl_ (some 20) Try.func57 #[.int .i64 a0_0, .int .i64 1, .int .i64 12] ?_; (with_reducible refine (spec_l01In.calls a0_0 1 12 true _ A4.out).mono ?_); rintro e w' ⟨rfl, ⟨nd, rfl⟩⟩; refine ⟨_, rfl, ?_⟩) | ((with_reducible refine gd_ 23 ?_); refine Kd.R_lit (Kd.int .i64) _ 3 ?hg (N := 23) ?hd (xs := ([] : List Int)) (inner := []) (ok := fun _ => True) (okp := fun _ => True) ?hr ?hp (fun _ hk => hk) trivial (Below.refl _ _) (Nat.le_refl _) (by simp) ?_; (case hd => rfl); (case hg => rfl); (case hr => first | (go_simp; done) | (go_simp; rfl)); (case hp => exact (Reps.none _ _)); intro s1 w17 ho18 hb hg_ hnew_; clear hg_ hnew_; (first | rw [← Ny219.out] at ho18 | (simp only [Int.reduceToNat] at ho18; rw [← Ny219.out] at ho18)); have e8 := am_ (Kd.R_lower ho18 (below_size qB_)); replace b9 := kb_ b9 hb; replace a0 := qbl_ a0 hb; replace a3 := qbl_ a3 hb; replace a4 := qbl_ a4 hb; replace HB := hs_ hb; clear hb ho18))
 go_loopg [8, 9] k (fun kq v8 v9 w' => ∃ (x8_1 : List Int) (x9_1 : Int) (a6 : Int) (a5 : List (List Int)) (a7 : Value), v9 = .int .i64 x9_1 ∧ Aside0 (spec_ForestAt.l0 kq b6 x8_1 x9_1 a0_0 l0_1 a0_0 a5 = some (r1, r2, r3)) ∧ Aside0 (kq ≤ k) ∧ Aside0 (Kd.R k43 43 w' w.heap.size (fun _ => True) d5 b6) ∧ Aside0 (Kd.R (Kd.int .i64) 3 w' w.heap.size (fun _ => True) v8 x8_1) ∧ Aside0 (Kd.S (Kd.slice 3 (Kd.int .i64)) 51 w' w.heap.size (fun k_ => some k_ ≠ (v8 : Value).ownBlock) a7 a5) ∧ Aside0 (w'.heap[b5]? = some (.cells #[.int .i64 a0_0, (.slice A0_1 l0_1.length c0_1)] 29 (0, 0))) ∧ Aside0 (w'.heap[b1]? = some (.cells #[.int .i64 a6, (.slice none 0 0)] 39 (0, 0))) ∧ Aside0 (w'.heap[a9]? = some (.cells #[.int .i64 a0_0, a7] 39 (0, 0))) ∧ Aside0 (Below w.heap.size w w'))
 case atStart => exact ⟨(g0), (0), (0), (([] : List (List Int))), (.slice none 0 0), qe_, H', ⟨Nat.le_refl _⟩, ⟨ra_ b9⟩, ⟨ra_ e8⟩, ⟨by first | exact Kd.S_nil _ _ _ _ _ | exact Kd.N_nil _ _ _ _ _ | exact Kd.V_nil _ _ _ _ _ | exact Kd.Q_nil _ _ _ _ _ | exact Kd.R_nil _ _ _ _ _⟩, ⟨qk_ a0⟩, ⟨qk_ a3⟩, ⟨qk_ a4⟩, ⟨qB_⟩⟩
 case round =>
  clear H'
  (try clear c1); (try clear p2); (try clear c5); (try clear c8); (try clear c10); (try clear c11); (try clear c12); (try clear d6 d7); (try clear e0 e1); (try clear e4 e5); (try clear f1 f2); (try clear d8 d9); (try clear e2 e3); (try clear e6 e7); (try clear f3 f4)
  obtain ⟨x8_1, x9_1, a6, a5, a7, rfl, HA, HK1, b2, a8, a2, a0, a3, a4, HB⟩ := hrel
  cases gk with
  | zero => exact absurd HA.out (by simp [spec_ForestAt.l0])
  | succ k1 =>
   have H := HA.out; clear HA
   simp only [spec_ForestAt.l0] at H
   refine ib_ H ?_ ?_ <;> clear H <;> intro c19b0 H
   ·simp only [Option.some.injEq, Prod.mk.injEq] at H
    obtain ⟨rfl, rfl, rfl⟩ := H
    obtain ⟨p4, p5⟩ := nn_ b0; obtain ⟨p6, p7⟩ := nn_ b3
    obtain ⟨i9, j0, j1, j2⟩ := bc2_ a0
    obtain ⟨p8, p9⟩ := nn_ b4
    obtain ⟨j3, j4, j5, j6⟩ := bc2_ a4
    obtain ⟨j7, j8, j9, k0⟩ := bc2_ a3
    obtain ⟨g1, g2, m7⟩ := Kd.S_slice a2.out
    subst m7
    go_wp2
    refine bodyPost_ret (results_ct rfl _ _ b1 39 #[.int .i64 a0_0, .slice g1 a5.length g2] (0, 0) _ rfl (by (with_reducible repeat (first | refine blk_drewN ?_ _ | refine blk_drew ?_ | refine blk_alloc ?_ _)); refine blk_put (cs := #[.int .i64 a0_0, .slice none 0 0]) ?_ 1 _ rfl; (with_reducible repeat (first | refine blk_drewN ?_ _ | refine blk_drew ?_ | refine blk_alloc ?_ _)); refine blk_put (cs := #[.int .i64 a6, .slice none 0 0]) ?_ 0 _ rfl; exact qf_ a3) Try.underlying39 rfl (by kernel_rfl)) rfl ?_
    exact ⟨_, qr_, by (with_reducible repeat (first | apply Kd.S_alloc | apply Kd.S_drewN | apply Kd.S_drew)); exact Kd.S_mono (Kd.S_far (p := ⟨b1, 1, none⟩) (Kd.S_far (p := ⟨b1, 0, none⟩) (Kd.S_types a2.out a3.out (by decide)) (fun _ hk => hk.2) (.int .i64 a0_0)) (fun _ hk => hk.2) (.slice g1 a5.length g2)) (fun _ hk => trivial), qB_⟩
   obtain ⟨m8, A20, H⟩ := bs_ H
   refine ie_ H ?_ ?_ <;> clear H <;> rintro rfl H
   ·have H' := am_ H; clear H; obtain ⟨q0, q1⟩ := nn_ b0; obtain ⟨q2, q3⟩ := nn_ b3
    obtain ⟨k2, k3, k4, k5⟩ := bc2_ a0
    obtain ⟨m9, n0, n1⟩ := Kd.R_slice a8.out
    subst n1
    go_wp2_with (first | ((with_reducible refine gc_ 105 ?_); refine gl_ (some 32) Try.func105 #[.slice m9 x8_1.length n0, .int .i64 x9_1] ?_; (with_reducible refine (spec_l05In.calls k1 _ _ x8_1 x9_1 true _ ?_ ?_ A20.out).mono ?_); exact qD_ (Kd.R_reads' a8.out).2.2; exact (Kd.R_reads' a8.out).2.1; rintro e w' ⟨rfl, ⟨nd, rfl⟩⟩; refine ⟨_, rfl, ?_⟩))
    go_roundg k1
    case measure => have := HK1.out; omega
    case rel => exact ⟨(x8_1), (wrap64 (x9_1 + 1)), (a6), (a5), (a7), qe_, H', ⟨by have := HK1.out; omega⟩, ⟨ra_ b2⟩, ⟨ra_ a8⟩, ⟨by (with_reducible repeat (first | apply Kd.S_alloc | apply Kd.S_drewN | apply Kd.S_drew)); first | exact a2.out | (have h_ := a2.out; simp only [own_slice] at h_ ⊢; exact h_)⟩, ⟨qk_ a0⟩, ⟨qk_ a3⟩, ⟨qk_ a4⟩, ⟨qB_⟩⟩
   replace H := Option.bind_eq_some_iff.mp H
   obtain ⟨⟨b7, g4⟩, g5, H⟩ := H
   replace H : (if g4 = true then (if a5.length < 5864062014805 then (if x8_1.length + b7.length < 17592186044416 then (spec_ForestAt.l0 k1 b6 (x8_1 ++ b7) (wrap64 (x9_1 + 1)) a0_0 l0_1 a0_0 (a5 ++ [b7])) else (none)) else (none)) else (some (0, ([] : List (List Int)), false))) = some (r1, r2, r3) := H
   have A26 := am_ g5
   clear g5
   refine id_ H ?_ ?_ <;> clear H <;> rintro rfl H
   ·simp only [Option.some.injEq, Prod.mk.injEq] at H
    obtain ⟨rfl, rfl, rfl⟩ := H
    obtain ⟨q4, q5⟩ := nn_ b0; obtain ⟨q6, q7⟩ := nn_ b3
    obtain ⟨k6, k7, k8, k9⟩ := bc2_ a0
    obtain ⟨f5, f6, n2⟩ := Kd.R_slice a8.out
    subst n2
    go_wp2_with (first | ((with_reducible refine gc_ 105 ?_); refine gl_ (some 32) Try.func105 #[.slice f5 x8_1.length f6, .int .i64 x9_1] ?_; (with_reducible refine (spec_l05In.calls k1 _ _ x8_1 x9_1 false _ ?_ ?_ A20.out).mono ?_); exact qD_ (Kd.R_reads' a8.out).2.2; exact (Kd.R_reads' a8.out).2.1; rintro e w' ⟨rfl, ⟨nd, rfl⟩⟩; refine ⟨_, rfl, ?_⟩; (try (rw [drewN_self wr]; generalize hq_ : World.drewN wr _ = wr; have n0_ : Aside0 (Kd.S (Kd.slice 3 (Kd.int .i64)) 51 wr w.heap.size (fun k_ => some k_ ≠ (.slice f5 x8_1.length f6 : Value).ownBlock) a7 a5) := ⟨by rw [← hq_]; exact (qS_ a2)⟩; have n1_ : Aside0 (Kd.R k43 43 wr w.heap.size (fun _ => True) d5 b6) := ⟨by rw [← hq_]; exact (qR_ b2)⟩; have n2_ : Aside0 (Kd.R (Kd.int .i64) 3 wr w.heap.size (fun _ => True) (.slice f5 x8_1.length f6) x8_1) := ⟨by rw [← hq_]; exact (qR_ a8)⟩; have n3_ : Aside0 (wr.heap[b5]? = some (.cells #[.int .i64 a0_0, .slice A0_1 l0_1.length c0_1] 29 (0, 0))) := ⟨by rw [← hq_]; exact (qk_ a0)⟩; have n4_ : Aside0 (wr.heap[b1]? = some (.cells #[.int .i64 a6, .slice none 0 0] 39 (0, 0))) := ⟨by rw [← hq_]; exact (qk_ a3)⟩; have n5_ : Aside0 (wr.heap[a9]? = some (.cells #[.int .i64 a0_0, a7] 39 (0, 0))) := ⟨by rw [← hq_]; exact (qk_ a4)⟩; have n6_ : Aside0 (Below w.heap.size w wr) := ⟨by rw [← hq_]; exact qB_⟩; clear a2 b2 a8 a0 a3 a4 HB hq_; have a2 := n0_; have b2 := n1_; have a8 := n2_; have a0 := n3_; have a3 := n4_; have a4 := n5_; have HB := n6_; clear n0_ n1_ n2_ n3_ n4_ n5_ n6_; have hcr_gb212_0 : wr.cell? ⟨b5, 0, none⟩ = some (.int .i64 a0_0) := bl_ a0 0; have hfr_gb212_0 := blk_frozen a0.out 0; have hcr_gb212_1 : wr.cell? ⟨b5, 1, none⟩ = some (.slice A0_1 l0_1.length c0_1) := bl_ a0 1; have hfr_gb212_1 := blk_frozen a0.out 1; have hcr_gb213_0 : wr.cell? ⟨b1, 0, none⟩ = some (.int .i64 a6) := bl_ a3 0; have hfr_gb213_0 := blk_frozen a3.out 0; have hcr_gb213_1 : wr.cell? ⟨b1, 1, none⟩ = some (.slice none 0 0) := bl_ a3 1; have hfr_gb213_1 := blk_frozen a3.out 1; have hcr_gb214_0 : wr.cell? ⟨a9, 0, none⟩ = some (.int .i64 a0_0) := bl_ a4 0; have hfr_gb214_0 := blk_frozen a4.out 0; have hcr_gb214_1 : wr.cell? ⟨a9, 1, none⟩ = some (a7) := bl_ a4 1; have hfr_gb214_1 := blk_frozen a4.out 1)); obtain ⟨n3, n4, n5⟩ := Kd.R_slice b2.out; subst n5) | ((with_reducible refine gc_ 109 ?_); refine gl_ (some 38) Try.func109 #[.int .i64 a0_0, .slice n3 b6.length n4, .int .i64 x9_1] ?_; (with_reducible refine (spec_TourOf.calls k1 a0_0 _ _ b6 x9_1 b7 false _ ?_ ?_ A26.out).mono ?_); exact qD_ (Kd.R_reads' b2.out).2.2; exact (Kd.R_reads' b2.out).2.1; rintro e w48 ⟨n6, rfl, ho0, hb⟩; refine ⟨_, rfl, ?_⟩; have c3 := am_ (Kd.R_lower (Kd.R_new' ho0 (Kd.R_lt (qR_ a8))) (below_size qB_)); replace b2 := kb_ b2 hb; replace a8 := ke_ a8 ho0 hb; replace a2 := am_ (Kd.S_elder' (qS_ a2) (Kd.R_base ho0) hb); replace a0 := qbl_ a0 hb; replace a3 := qbl_ a3 hb; replace a4 := qbl_ a4 hb; replace HB := hs_ hb; (try clear hb); (try clear hb2); (try clear hk); (try clear hi); (try clear ho0); obtain ⟨q8, q9⟩ := nn_ c2; obtain ⟨l1, l2, l3, l4⟩ := bc2_ a3))
    refine bodyPost_ret (results_ct rfl _ _ b1 39 #[.int .i64 0, .slice none 0 0] (0, 0) _ rfl (by (with_reducible repeat (first | refine blk_drewN ?_ _ | refine blk_drew ?_ | refine blk_alloc ?_ _)); refine blk_put (cs := #[.int .i64 0, .slice none 0 0]) ?_ 1 _ rfl; (with_reducible repeat (first | refine blk_drewN ?_ _ | refine blk_drew ?_ | refine blk_alloc ?_ _)); refine blk_put (cs := #[.int .i64 a6, .slice none 0 0]) ?_ 0 _ rfl; exact qf_ a3) Try.underlying39 rfl (by kernel_rfl)) rfl ?_
    exact ⟨_, qr_, by first | exact Kd.S_nil _ _ _ _ _ | exact Kd.N_nil _ _ _ _ _ | exact Kd.V_nil _ _ _ _ _ | exact Kd.Q_nil _ _ _ _ _ | exact Kd.R_nil _ _ _ _ _, qB_⟩
   refine jg_ H ?_; clear H; intro c28 H
   have LMc28 := am_ c28
   clear c28
   obtain ⟨c0, hy227⟩ : ∃ y_ : List (List Int), y_ = (a5 ++ [b7]) := ⟨_, rfl⟩
   replace H : (if x8_1.length + b7.length < 17592186044416 then (spec_ForestAt.l0 k1 b6 (x8_1 ++ b7) (wrap64 (x9_1 + 1)) a0_0 l0_1 a0_0 c0) else (none)) = some (r1, r2, r3) := hq_ hy227 H
   have Ny227 := am_ hy227
   clear hy227
   refine jg_ H ?_; clear H; intro c29 H
   have LMc29 := am_ c29
   clear c29
   obtain ⟨g6, hy230⟩ : ∃ y_ : List Int, y_ = (x8_1 ++ b7) := ⟨_, rfl⟩
   replace H : (spec_ForestAt.l0 k1 b6 g6 (wrap64 (x9_1 + 1)) a0_0 l0_1 a0_0 c0) = some (r1, r2, r3) := hq_ hy230 H
   have Ny230 := am_ hy230
   clear hy230; have H' := am_ H; clear H; obtain ⟨r0, r4⟩ := nn_ b0; obtain ⟨r5, r6⟩ := nn_ b3
   obtain ⟨l5, l6, l7, l8⟩ := bc2_ a0
   obtain ⟨c6, c7, n7⟩ := Kd.R_slice a8.out
   subst n7
   go_wp2_with (first | ((with_reducible refine gc_ 105 ?_); refine gl_ (some 32) Try.func105 #[.slice c6 x8_1.length c7, .int .i64 x9_1] ?_; (with_reducible refine (spec_l05In.calls k1 _ _ x8_1 x9_1 false _ ?_ ?_ A20.out).mono ?_); exact qD_ (Kd.R_reads' a8.out).2.2; exact (Kd.R_reads' a8.out).2.1; rintro e w' ⟨rfl, ⟨nd, rfl⟩⟩; refine ⟨_, rfl, ?_⟩; (try (rw [drewN_self wr]; generalize hq_ : World.drewN wr _ = wr; have n0_ : Aside0 (Kd.S (Kd.slice 3 (Kd.int .i64)) 51 wr w.heap.size (fun k_ => some k_ ≠ (.slice c6 x8_1.length c7 : Value).ownBlock) a7 a5) := ⟨by rw [← hq_]; exact (qS_ a2)⟩; have n1_ : Aside0 (Kd.R k43 43 wr w.heap.size (fun _ => True) d5 b6) := ⟨by rw [← hq_]; exact (qR_ b2)⟩; have n2_ : Aside0 (Kd.R (Kd.int .i64) 3 wr w.heap.size (fun _ => True) (.slice c6 x8_1.length c7) x8_1) := ⟨by rw [← hq_]; exact (qR_ a8)⟩; have n3_ : Aside0 (wr.heap[b5]? = some (.cells #[.int .i64 a0_0, .slice A0_1 l0_1.length c0_1] 29 (0, 0))) := ⟨by rw [← hq_]; exact (qk_ a0)⟩; have n4_ : Aside0 (wr.heap[b1]? = some (.cells #[.int .i64 a6, .slice none 0 0] 39 (0, 0))) := ⟨by rw [← hq_]; exact (qk_ a3)⟩; have n5_ : Aside0 (wr.heap[a9]? = some (.cells #[.int .i64 a0_0, a7] 39 (0, 0))) := ⟨by rw [← hq_]; exact (qk_ a4)⟩; have n6_ : Aside0 (Below w.heap.size w wr) := ⟨by rw [← hq_]; exact qB_⟩; clear a2 b2 a8 a0 a3 a4 HB hq_; have a2 := n0_; have b2 := n1_; have a8 := n2_; have a0 := n3_; have a3 := n4_; have a4 := n5_; have HB := n6_; clear n0_ n1_ n2_ n3_ n4_ n5_ n6_; have hcr_gb212_0 : wr.cell? ⟨b5, 0, none⟩ = some (.int .i64 a0_0) := bl_ a0 0; have hfr_gb212_0 := blk_frozen a0.out 0; have hcr_gb212_1 : wr.cell? ⟨b5, 1, none⟩ = some (.slice A0_1 l0_1.length c0_1) := bl_ a0 1; have hfr_gb212_1 := blk_frozen a0.out 1; have hcr_gb213_0 : wr.cell? ⟨b1, 0, none⟩ = some (.int .i64 a6) := bl_ a3 0; have hfr_gb213_0 := blk_frozen a3.out 0; have hcr_gb213_1 : wr.cell? ⟨b1, 1, none⟩ = some (.slice none 0 0) := bl_ a3 1; have hfr_gb213_1 := blk_frozen a3.out 1; have hcr_gb214_0 : wr.cell? ⟨a9, 0, none⟩ = some (.int .i64 a0_0) := bl_ a4 0; have hfr_gb214_0 := blk_frozen a4.out 0; have hcr_gb214_1 : wr.cell? ⟨a9, 1, none⟩ = some (a7) := bl_ a4 1; have hfr_gb214_1 := blk_frozen a4.out 1)); obtain ⟨n8, n9, o0⟩ := Kd.R_slice b2.out; subst o0) | ((with_reducible refine gc_ 109 ?_); refine gl_ (some 38) Try.func109 #[.int .i64 a0_0, .slice n8 b6.length n9, .int .i64 x9_1] ?_; (with_reducible refine (spec_TourOf.calls k1 a0_0 _ _ b6 x9_1 b7 true _ ?_ ?_ A26.out).mono ?_); exact qD_ (Kd.R_reads' b2.out).2.2; exact (Kd.R_reads' b2.out).2.1; rintro e w35 ⟨n6, rfl, ho0, hb⟩; refine ⟨_, rfl, ?_⟩; have c3 := am_ (Kd.R_lower (Kd.R_new' ho0 (Kd.R_lt (qR_ a8))) (below_size qB_)); replace b2 := kb_ b2 hb; replace a8 := ke_ a8 ho0 hb; replace a2 := am_ (Kd.S_elder' (qS_ a2) (Kd.R_base ho0) hb); replace a0 := qbl_ a0 hb; replace a3 := qbl_ a3 hb; replace a4 := qbl_ a4 hb; replace HB := hs_ hb; (try clear hb); (try clear hb2); (try clear hk); (try clear hi); (try clear ho0); obtain ⟨r7, r8⟩ := nn_ b4; obtain ⟨l9, m0, m1, m2⟩ := bc2_ a4; obtain ⟨g7, g8, o1⟩ := Kd.R_slice c3.out; subst o1) | ((with_reducible refine gate_builtin (b := .append) (xs := #[.tmp 45, .tmp 47]) rfl ?_); at_builtin; refine Kd.S_append (Kd.slice 3 (Kd.int .i64)) (w0 := w) w.heap.size rfl (.tmp 45) (.tmp 47) 33 51 (.slice none 0 0) 24 rfl Try.underlying33 info51 rfl (by decide) (by omega) a7 a5 b7 [.slice g7 b7.length g8] (fun k_ => some k_ ≠ (.slice c6 x8_1.length c7 : Value).ownBlock) (fun k_ => some k_ = (.slice g7 b7.length g8 : Value).ownBlock) rfl rfl ?aP (fun k_ hk_ => ((Kd.R_mono (ok' := fun k_ => ((fun k_ => some k_ ≠ (.slice c6 x8_1.length c7 : Value).ownBlock)) k_ ∧ some k_ ≠ (a7 : Value).ownBlock) (Kd.R_apart' (c3.out) (Kd.S_typed a2.out) (by decide)) (fun k_ hk => ⟨hk.1.2, hk.2⟩))).1 k_ hk_.symm) ?aF ?aO ?aB ?aS ?aL ?_; (case aP => exact Kd.M_row (Kd.R_mono (Kd.R_tight rfl (Kd.R_mono (ok' := fun k_ => ((fun k_ => some k_ ≠ (.slice c6 x8_1.length c7 : Value).ownBlock)) k_ ∧ some k_ ≠ (a7 : Value).ownBlock) (Kd.R_apart' (c3.out) (Kd.S_typed a2.out) (by decide)) (fun k_ hk => ⟨hk.1.2, hk.2⟩))) (fun _ h_ => h_))); (case aB => exact qB_); (case aF => exact (fun k_ hk => Kd.fresh' (Kd.R_lt (qR_ a8)) k_ hk)); (case aO => exact (by (with_reducible repeat (first | apply Kd.S_alloc | apply Kd.S_drewN | apply Kd.S_drew)); exact Kd.S_mono a2.out (fun k_ hk => ⟨hk.1, fun e_ => hk.2 e_⟩))); (case aS => exact (below_size qB_)); (case aL => have := LMc28.out; omega); intro s2 w38 ho hb hg hat; rw [← Ny227.out] at ho; have n0_ := am_ (Kd.R_over' (qR_ b2) (Kd.S_typed (qS_ a2)) (by decide) hg); have n1_ := am_ (Kd.R_over' (qR_ a8) (Kd.S_typed (qS_ a2)) (by decide) hg); have n2_ := am_ (blk_grown (qk_ a0) hg (Kd.S_ne a2.out a0.out (by decide))); have n3_ := am_ (blk_grown (qk_ a3) hg (Kd.S_ne a2.out a3.out (by decide))); have n4_ := am_ (blk_grown (qk_ a4) hg (Kd.S_ne a2.out a4.out (by decide))); have GIVEN_HO226 := am_ (Kd.R_over' c3.out (Kd.S_typed (qS_ a2)) (by decide) hg); have n5_ := am_ (hb); have n6_ := am_ (ho); clear b2; clear a8; clear a0; clear a3; clear a4; clear HB; clear a2; clear c3; have b2 := n0_; have a8 := n1_; have a0 := n2_; have a3 := n3_; have a4 := n4_; have HB := n5_; have c4 := n6_; clear n0_ n1_ n2_ n3_ n4_ n5_ n6_; clear ho hb hg hat; obtain ⟨c9, d0, o2⟩ := Kd.S_slice c4.out; subst o2; obtain ⟨m3, m4, m5, m6⟩ := bc2_ a4) | ((with_reducible refine gate_builtin (b := .append) (xs := #[.tmp 50, .tmp 51]) rfl ?_); at_builtin; refine Kd.R_append_rows (Kd.int .i64) (w0 := w) w.heap.size rfl (.tmp 50) (.tmp 51) 51 3 (.int .i64 0) 8 rfl Try.underlying51 info3 rfl (by decide) (by omega) (.slice c6 x8_1.length c7) x8_1 b7 _ _ _ (fun _ => True) (fun _ => False) rfl rfl ?aO ?aR (fun _ _ h => h) (fun _ h => h.elim) ?aF ?aB ?aS ?aL ?_; (case aR => repeat (first | exact (Kd.R_reads' (Kd.R_far (p := ⟨a9, 1, none⟩) (Kd.R_types GIVEN_HO226.out a4.out (by decide)) (fun _ hk => hk.2) (.slice c9 c0.length d0))).2.2 | (with_reducible refine Kd.C_alloc ?_ _) | (with_reducible refine Kd.C_drewN ?_ _) | (with_reducible refine Kd.C_drew ?_))); (case aB => exact qB_); (case aF => exact (fun _ _ => trivial)); (case aO => exact (by (with_reducible repeat (first | apply Kd.R_alloc | apply Kd.R_drewN | apply Kd.R_drew)); exact Kd.R_mono (Kd.R_far (p := ⟨a9, 1, none⟩) (Kd.R_types a8.out a4.out (by decide)) (fun _ hk => hk.2) (.slice c9 c0.length d0)) (fun _ hk => trivial))); (case aS => exact (below_size qB_)); (case aL => have := LMc29.out; omega); intro s3 w42 ho hb hg hat; rw [← Ny230.out] at ho; have n0_ := am_ (Kd.R_over' (by (with_reducible repeat (first | apply Kd.R_alloc | apply Kd.R_drewN | apply Kd.R_drew)); exact (Kd.R_mono (Kd.R_far (p := ⟨a9, 1, none⟩) (Kd.R_types b2.out a4.out (by decide)) (fun _ hk => hk.2) (.slice c9 c0.length d0)) (fun _ h_ => h_.1))) (Kd.R_typed (by (with_reducible repeat (first | apply Kd.R_alloc | apply Kd.R_drewN | apply Kd.R_drew)); exact (Kd.R_mono (Kd.R_far (p := ⟨a9, 1, none⟩) (Kd.R_types a8.out a4.out (by decide)) (fun _ hk => hk.2) (.slice c9 c0.length d0)) (fun _ h_ => h_.1)))) (by decide) hg); have n1_ := am_ (blk_grown (g := b5) (o := .cells #[.int .i64 a0_0, .slice A0_1 l0_1.length c0_1] 29 (0, 0)) (qf_ a0) hg (Kd.R_ne a8.out a0.out (by decide))); have n2_ := am_ (blk_grown (g := b1) (o := .cells #[.int .i64 a6, .slice none 0 0] 39 (0, 0)) (qf_ a3) hg (Kd.R_ne a8.out a3.out (by decide))); have n3_ := am_ (blk_grown (g := a9) (o := .cells #[.int .i64 a0_0, .slice c9 c0.length d0] 39 (0, 0)) (by (with_reducible repeat (first | refine blk_drewN ?_ _ | refine blk_drew ?_ | refine blk_alloc ?_ _)); refine blk_put (cs := #[.int .i64 a0_0, a7]) ?_ 1 _ rfl; exact qf_ a4) hg (Kd.R_ne a8.out a4.out (by decide))); have n4_ := am_ (Kd.S_after (ok := (fun _ => True)) (by (with_reducible repeat (first | apply Kd.S_alloc | apply Kd.S_drewN | apply Kd.S_drew)); exact Kd.S_mono (Kd.S_far (p := ⟨a9, 1, none⟩) (Kd.S_types c4.out a4.out (by decide)) (fun _ hk => hk.2) (.slice c9 c0.length d0)) (fun _ hk => ⟨trivial, hk.1⟩)) hg hat); have n5_ := am_ (hb); have n6_ := am_ (ho); clear b2; clear a0; clear a3; clear a4; clear c4; clear HB; clear a8; have b2 := n0_; have a0 := n1_; have a3 := n2_; have a4 := n3_; have c4 := n4_; have HB := n5_; have e9 := n6_; clear n0_ n1_ n2_ n3_ n4_ n5_ n6_; clear ho hb hg hat))
   go_roundg k1
   case measure => have := HK1.out; omega
   case rel => exact ⟨(g6), (wrap64 (x9_1 + 1)), (a6), (c0), (.slice c9 c0.length d0), qe_, H', ⟨by have := HK1.out; omega⟩, ⟨ra_ b2⟩, ⟨ra_ e9⟩, ⟨by (with_reducible repeat (first | apply Kd.S_alloc | apply Kd.S_drewN | apply Kd.S_drew)); exact Kd.S_mono c4.out (fun _ hk => hk.2)⟩, ⟨qk_ a0⟩, ⟨qk_ a3⟩, ⟨qk_ a4⟩, ⟨qB_⟩⟩
def spec_VertsOf.l0 : Nat → List Int → List Int → Int → Option (List Int)
  | 0, _, _, _ => none
  | k + 1, x0, x3, x4 => if x4 < 12 then ((spec_l05In.f k x0 x4).bind fun t236 => (if t236 = true then (if x3.length < 17592186044416 then (spec_VertsOf.l0 k x0 (x3 ++ [x4]) (wrap64 (x4 + 1))) else (none)) else (spec_VertsOf.l0 k x0 x3 (wrap64 (x4 + 1))))) else (some x3)
def spec_VertsOf.f (k : Nat) (l0 : List Int) : Option (List Int) := spec_VertsOf.l0 k l0 (([] : List Int)) 0
theorem spec_VertsOf.mono_l : ∀ k, (∀ y0 y1 y2, LeO (spec_VertsOf.l0 k y0 y1 y2) (spec_VertsOf.l0 (k + 1) y0 y1 y2))
  | 0 => fun _ _ _ r h => by simp [spec_VertsOf.l0] at h
  | k + 1 => by
    have ih0 := spec_VertsOf.mono_l k
    have m0 := @spec_l05In.mono
    · intro y0 y1 y2
      unfold spec_VertsOf.l0
      exact lo_
theorem spec_VertsOf.mono : ∀ a0 k, LeO (spec_VertsOf.f k a0) (spec_VertsOf.f (k + 1) a0) := by
  intro a0 k
  have ih0 := spec_VertsOf.mono_l k
  have m0 := @spec_l05In.mono
  unfold spec_VertsOf.f
  exact lo_
theorem spec_VertsOf.calls (k : Nat) (A0 : Option Addr) (c0 : Nat) (l0 : List Int) (r : List Int) (w : World) (hr0 : Kd.C (Kd.int .i64) w A0 l0.length l0) (hc0 : l0.length ≤ c0) (h : spec_VertsOf.f k l0 = some r) :
  Calls Try.prog 59 #[.slice A0 l0.length c0] w fun e w' => ∃ v0_ : Value, e = .returned (v0_) ∧ Kd.R (Kd.int .i64) 3 w' w.heap.size (fun _ => True) v0_ r ∧ Below w.heap.size w w' := by
 have a6 := am_ hr0
 have a7 := am_ hc0
 clear hr0 hc0
 have HB := am_ (Below.refl w.heap.size w)
 rw [spec_VertsOf.f] at h; have H := h; clear h
 obtain ⟨a3, hy233⟩ : ∃ y_ : List Int, y_ = (([] : List Int)) := ⟨_, rfl⟩
 replace H : (spec_VertsOf.l0 k l0 a3 0) = some r := hq_ hy233 H
 have Ny233 := am_ hy233
 clear hy233; have H' := am_ H; clear H
 go_enter Try.func59, Try.ntmps59
 go_wp2_with (first | ((with_reducible refine gd_ 5 ?_); refine Kd.R_lit (Kd.int .i64) _ 3 ?hg (N := 5) ?hd (xs := ([] : List Int)) (inner := []) (ok := fun _ => True) (okp := fun _ => True) ?hr ?hp (fun _ hk => hk) trivial (Below.refl _ _) (Nat.le_refl _) (by simp) ?_; (case hd => rfl); (case hg => rfl); (case hr => first | (go_simp; done) | (go_simp; rfl)); (case hp => exact (Reps.none _ _)); intro a8 w2 ho3 hb hg_ hnew_; clear hg_ hnew_; (first | rw [← Ny233.out] at ho3 | (simp only [Int.reduceToNat] at ho3; rw [← Ny233.out] at ho3)); have a1 := am_ (Kd.R_lower ho3 (below_size qB_)); replace HB := hs_ hb; clear hb ho3))
 go_loopg [3, 4] k (fun kq v3 v4 w' => ∃ (x3_1 : List Int) (x4_1 : Int), v4 = .int .i64 x4_1 ∧ Aside0 (spec_VertsOf.l0 kq l0 x3_1 x4_1 = some r) ∧ Aside0 (kq ≤ k) ∧ Aside0 (Kd.R (Kd.int .i64) 3 w' w.heap.size (fun _ => True) v3 x3_1) ∧ Aside0 (Below w.heap.size w w'))
 case atStart => exact ⟨(a3), (0), qe_, H', ⟨Nat.le_refl _⟩, ⟨ra_ a1⟩, ⟨qB_⟩⟩
 case round =>
  clear H'
  (try clear p2)
  obtain ⟨x3_1, x4_1, rfl, HA, HK1, a0, HB⟩ := hrel
  cases gk with
  | zero => exact absurd HA.out (by simp [spec_VertsOf.l0])
  | succ k1 =>
   have H := HA.out; clear HA
   simp only [spec_VertsOf.l0] at H
   refine ib_ H ?_ ?_ <;> clear H <;> intro c4b0 H
   ·obtain rfl := oi_ H
    go_wp2
    go_ret
    exact ⟨_, qr_, qR_ a0, qB_⟩
   obtain ⟨a5, A5, H⟩ := bs_ H
   refine id_ H ?_ ?_ <;> clear H <;> rintro rfl H
   ·have H' := am_ H; clear H
    go_wp2_with (first | ((with_reducible refine gc_ 105 ?_); refine gl_ (some 12) Try.func105 #[.slice A0 l0.length c0, .int .i64 x4_1] ?_; (with_reducible refine (spec_l05In.calls k1 _ _ l0 x4_1 false _ ?_ ?_ A5.out).mono ?_); exact qC_ a6 HB; exact a7.out; rintro e w' ⟨rfl, ⟨nd, rfl⟩⟩; refine ⟨_, rfl, ?_⟩))
    go_roundg k1
    case measure => have := HK1.out; omega
    case rel => exact ⟨(x3_1), (wrap64 (x4_1 + 1)), qe_, H', ⟨by have := HK1.out; omega⟩, ⟨ra_ a0⟩, ⟨qB_⟩⟩
   refine jg_ H ?_; clear H; intro c7 H
   have LMc7 := am_ c7
   clear c7
   obtain ⟨a4, hy237⟩ : ∃ y_ : List Int, y_ = (x3_1 ++ [x4_1]) := ⟨_, rfl⟩
   replace H : (spec_VertsOf.l0 k1 l0 a4 (wrap64 (x4_1 + 1))) = some r := hq_ hy237 H
   have Ny237 := am_ hy237
   clear hy237; have H' := am_ H; clear H
   go_wp2_with (first | ((with_reducible refine gc_ 105 ?_); refine gl_ (some 12) Try.func105 #[.slice A0 l0.length c0, .int .i64 x4_1] ?_; (with_reducible refine (spec_l05In.calls k1 _ _ l0 x4_1 true _ ?_ ?_ A5.out).mono ?_); exact qC_ a6 HB; exact a7.out; rintro e w' ⟨rfl, ⟨nd, rfl⟩⟩; refine ⟨_, rfl, ?_⟩) | ((with_reducible refine gate_builtin (b := .append) (xs := #[.tmp 13, .tmp 15]) rfl ?_); at_builtin; refine Kd.R_append (Kd.int .i64) (w0 := w) w.heap.size rfl (.tmp 13) (.tmp 15) 51 3 (.int .i64 0) 8 rfl Try.underlying51 info3 rfl (by decide) (by omega) u3 x3_1 x4_1 [.int .i64 x4_1] (fun _ => True) (fun _ => False) rfl rfl ?aP (fun _ hk => hk.elim) ?aF ?aO ?aB ?aS ?aL ?_; (case aP => exact rfl); (case aB => exact qB_); (case aF => exact (fun _ _ => trivial)); (case aO => exact (qR_ a0)); (case aS => exact (below_size qB_)); (case aL => have := LMc7.out; omega); intro a9 w8 ho hb hg hat; rw [← Ny237.out] at ho; have a2 := am_ (ho); replace HB := am_ (hb); clear a0; clear ho hb hg hat))
   go_roundg k1
   case measure => have := HK1.out; omega
   case rel => exact ⟨(a4), (wrap64 (x4_1 + 1)), qe_, H', ⟨by have := HK1.out; omega⟩, ⟨ra_ a2⟩, ⟨qB_⟩⟩
mutual
def spec_l06Open.l0 : Nat → List Int → List Int → List Int → Int → Option (Bool)
  | 0, _, _, _, _ => none
  | k + 1, x0, x3, x4, x5 => if x5 < (x0.length : Int) then (if (x3.length : Int) > 1 then (if 0 ≤ x5 then (if 0 ≤ (wrap64 ((x3.length : Int) - 2)) then (if (wrap64 ((x3.length : Int) - 2)) < (x3.length : Int) then (spec_l06Open.j1 k x0 x3 x4 x5 ((rd x0 x5) == (rd x3 (wrap64 ((x3.length : Int) - 2))))) else (none)) else (none)) else (none)) else (spec_l06Open.j1 k x0 x3 x4 x5 false)) else (some ((x3.length : Int) == 1))
def spec_l06Open.j1 : Nat → List Int → List Int → List Int → Int → Bool → Option (Bool)
  | 0, _, _, _, _, _ => none
  | k + 1, x0, x3, x4, x5, x35 => if x35 = true then (if 0 ≤ (wrap64 ((x3.length : Int) - 1)) then (if (wrap64 ((x3.length : Int) - 1)) ≤ (x3.length : Int) then (spec_l06Open.l0 k x0 (x3.take ((wrap64 ((x3.length : Int) - 1)) : Int).toNat) x4 (wrap64 (x5 + 1))) else (none)) else (none)) else (if 0 ≤ x5 then (if x5 < (x0.length : Int) then ((spec_l05In.f k x4 (rd x0 x5)).bind fun t254 => (if t254 = true then (some false) else (if x4.length < 17592186044416 then (if x3.length < 17592186044416 then (spec_l06Open.l0 k x0 (x3 ++ [rd x0 x5]) (x4 ++ [rd x0 x5]) (wrap64 (x5 + 1))) else (none)) else (none)))) else (none)) else (none))
end
def spec_l06Open.f (k : Nat) (l0 : List Int) : Option (Bool) := if 0 < (l0.length : Int) then (spec_l06Open.l0 k l0 (([rd l0 0] : List Int)) (([rd l0 0] : List Int)) 1) else (none)
theorem spec_l06Open.mono_l : ∀ k, (∀ y0 y1 y2 y3, LeO (spec_l06Open.l0 k y0 y1 y2 y3) (spec_l06Open.l0 (k + 1) y0 y1 y2 y3)) ∧ (∀ y0 y1 y2 y3 y4, LeO (spec_l06Open.j1 k y0 y1 y2 y3 y4) (spec_l06Open.j1 (k + 1) y0 y1 y2 y3 y4))
  | 0 => ⟨fun _ _ _ _ r h => by simp [spec_l06Open.l0] at h, fun _ _ _ _ _ r h => by simp [spec_l06Open.j1] at h⟩
  | k + 1 => by
    obtain ⟨ih0, ih1⟩ := spec_l06Open.mono_l k
    have m0 := @spec_l05In.mono
    refine ⟨?_, ?_⟩ <;> (intros; first | unfold spec_l06Open.l0 | unfold spec_l06Open.j1) <;> exact lo_
theorem spec_l06Open.mono : ∀ a0 k, LeO (spec_l06Open.f k a0) (spec_l06Open.f (k + 1) a0) := by
  intro a0 k
  obtain ⟨ih0, ih1⟩ := spec_l06Open.mono_l k
  have m0 := @spec_l05In.mono
  unfold spec_l06Open.f
  exact lo_
theorem spec_l06Open.calls (k : Nat) (A0 : Option Addr) (c0 : Nat) (l0 : List Int) (r : Bool) (w : World) (hr0 : Kd.C (Kd.int .i64) w A0 l0.length l0) (hc0 : l0.length ≤ c0) (h : spec_l06Open.f k l0 = some r) :
  Calls Try.prog 134 #[.slice A0 l0.length c0] w fun e w' => e = .returned (.bool r) ∧ Below w.heap.size w w' := by
 have b1 := am_ hr0
 have f2 := am_ hc0
 clear hr0 hc0
 have HB := am_ (Below.refl w.heap.size w)
 rw [spec_l06Open.f] at h; have H := h; clear h
 refine jg_ H ?_; clear H; intro c2 H
 have c2b0 := decide_eq_true c2
 have c2b1 : decide (0 < l0.length) = true := decide_eq_true (by omega)
 clear c2
 obtain ⟨b6, hy241⟩ : ∃ y_ : List Int, y_ = (([rd l0 0] : List Int)) := ⟨_, rfl⟩
 replace H : (spec_l06Open.l0 k l0 b6 (([rd l0 0] : List Int)) 1) = some r := hq_ hy241 H
 have Ny241 := am_ hy241
 clear hy241
 obtain ⟨c4, hy245⟩ : ∃ y_ : List Int, y_ = (([rd l0 0] : List Int)) := ⟨_, rfl⟩
 replace H : (spec_l06Open.l0 k l0 b6 c4 1) = some r := hq_ hy245 H
 have Ny245 := am_ hy245
 clear hy245; have H' := am_ H; clear H
 have p240 : 0 ≤ (0 : Int) := (by omega)
 have q240 := dl_ 0 l0.length
 obtain ⟨ad240, e240, a8⟩ := Kd.at_int b1.out 0 p240 q240
 cases e240
 have qi240 : (0 < l0.length) = True := eq_true (by omega)
 (try rw [show ((0 : Int)).toNat = 0 from rfl] at a8)
 (try rw [Addr.add_zero'] at a8)
 replace p240 := eq_true p240; replace q240 := eq_true q240
 go_enter Try.func134, Try.ntmps134
 go_wp2_with (first | ((with_reducible refine gd_ 9 ?_); (try (refine gate_guard (by rfl) ?_; dsimp only)); refine Kd.R_lit (Kd.int .i64) _ 3 ?hg (N := 9) ?hd (xs := ([rd l0 0] : List Int)) (inner := [.int .i64 (rd l0 0)]) (ok := fun _ => True) (okp := fun _ => True) ?hr ?hp (fun _ hk => hk) trivial (Below.refl _ _) (Nat.le_refl _) (by simp) ?_; (case hd => rfl); (case hg => rfl); (case hr => first | (go_simp; done) | (go_simp; rfl)); (case hp => exact (Reps.one (show Kd.M (Kd.int .i64) _ _ _ (rd l0 0) [.int .i64 (rd l0 0)] from rfl) (Reps.none _ _))); intro d1 w3 ho4 hb hg_ hnew_; clear hg_ hnew_; (first | rw [← Ny241.out] at ho4 | (simp only [Int.reduceToNat] at ho4; rw [← Ny241.out] at ho4)); have a7 := am_ (Kd.R_lower ho4 (below_size qB_)); replace HB := hs_ hb; clear hb ho4; have p244 : 0 ≤ (0 : Int) := (by omega); have q244 := dl_ 0 l0.length; obtain ⟨ad244, e244, a0⟩ := Kd.at_int b1.out 0 p244 q244; obtain rfl : ad240 = ad244 := (by injection e244); have qi244 : (0 < l0.length) = True := eq_true (by omega); (try rw [show ((0 : Int)).toNat = 0 from rfl] at a0); (try rw [Addr.add_zero'] at a0); replace a0 := qx_ HB a0; replace p244 := eq_true p244; replace q244 := eq_true q244) | ((with_reducible refine gd_ 13 ?_); (try (refine gate_guard (by rfl) ?_; dsimp only)); refine Kd.R_lit (Kd.int .i64) _ 3 ?hg (N := 13) ?hd (xs := ([rd l0 0] : List Int)) (inner := [.int .i64 (rd l0 0)]) (ok := fun _ => True) (okp := fun _ => True) ?hr ?hp (fun _ hk => hk) trivial (Below.refl _ _) (Nat.le_refl _) (by simp) ?_; (case hd => rfl); (case hg => rfl); (case hr => first | (go_simp; done) | (go_simp; rfl)); (case hp => exact (Reps.one (show Kd.M (Kd.int .i64) _ _ _ (rd l0 0) [.int .i64 (rd l0 0)] from rfl) (Reps.none _ _))); intro d2 w5 ho6 hb hg_ hnew_; clear hg_ hnew_; (first | rw [← Ny245.out] at ho6 | (simp only [Int.reduceToNat] at ho6; rw [← Ny245.out] at ho6)); have b4 := am_ (Kd.R_lower (Kd.R_new' ho6 (Kd.R_lt (qR_ a7))) (below_size qB_)); replace a7 := ke_ a7 ho6 hb; replace HB := hs_ hb; clear hb ho6))
 repeat (go_quiet (fail); try go_wp2_with (first | ((with_reducible refine gd_ 9 ?_); (try (refine gate_guard (by rfl) ?_; dsimp only)); refine Kd.R_lit (Kd.int .i64) _ 3 ?hg (N := 9) ?hd (xs := ([rd l0 0] : List Int)) (inner := [.int .i64 (rd l0 0)]) (ok := fun _ => True) (okp := fun _ => True) ?hr ?hp (fun _ hk => hk) trivial (Below.refl _ _) (Nat.le_refl _) (by simp) ?_; (case hd => rfl); (case hg => rfl); (case hr => first | (go_simp; done) | (go_simp; rfl)); (case hp => exact (Reps.one (show Kd.M (Kd.int .i64) _ _ _ (rd l0 0) [.int .i64 (rd l0 0)] from rfl) (Reps.none _ _))); intro d1 w3 ho4 hb hg_ hnew_; clear hg_ hnew_; (first | rw [← Ny241.out] at ho4 | (simp only [Int.reduceToNat] at ho4; rw [← Ny241.out] at ho4)); have a7 := am_ (Kd.R_lower ho4 (below_size qB_)); replace HB := hs_ hb; clear hb ho4; have p244 : 0 ≤ (0 : Int) := (by omega); have q244 := dl_ 0 l0.length; obtain ⟨ad244, e244, a0⟩ := Kd.at_int b1.out 0 p244 q244; obtain rfl : ad240 = ad244 := (by injection e244); have qi244 : (0 < l0.length) = True := eq_true (by omega); (try rw [show ((0 : Int)).toNat = 0 from rfl] at a0); (try rw [Addr.add_zero'] at a0); replace a0 := qx_ HB a0; replace p244 := eq_true p244; replace q244 := eq_true q244) | ((with_reducible refine gd_ 13 ?_); (try (refine gate_guard (by rfl) ?_; dsimp only)); refine Kd.R_lit (Kd.int .i64) _ 3 ?hg (N := 13) ?hd (xs := ([rd l0 0] : List Int)) (inner := [.int .i64 (rd l0 0)]) (ok := fun _ => True) (okp := fun _ => True) ?hr ?hp (fun _ hk => hk) trivial (Below.refl _ _) (Nat.le_refl _) (by simp) ?_; (case hd => rfl); (case hg => rfl); (case hr => first | (go_simp; done) | (go_simp; rfl)); (case hp => exact (Reps.one (show Kd.M (Kd.int .i64) _ _ _ (rd l0 0) [.int .i64 (rd l0 0)] from rfl) (Reps.none _ _))); intro d2 w5 ho6 hb hg_ hnew_; clear hg_ hnew_; (first | rw [← Ny245.out] at ho6 | (simp only [Int.reduceToNat] at ho6; rw [← Ny245.out] at ho6)); have b4 := am_ (Kd.R_lower (Kd.R_new' ho6 (Kd.R_lt (qR_ a7))) (below_size qB_)); replace a7 := ke_ a7 ho6 hb; replace HB := hs_ hb; clear hb ho6)))
 go_loopg [3, 4, 5] k (fun kq v3 v4 v5 w' => ∃ (x3_1 : List Int) (x4_1 : List Int) (x5_1 : Int), v5 = .int .i64 x5_1 ∧ Aside0 (spec_l06Open.l0 kq l0 x3_1 x4_1 x5_1 = some r) ∧ Aside0 (kq ≤ k) ∧ Aside0 (Kd.R (Kd.int .i64) 3 w' w.heap.size (fun k_ => some k_ ≠ (v4 : Value).ownBlock) v3 x3_1) ∧ Aside0 (Kd.R (Kd.int .i64) 3 w' w.heap.size (fun k_ => some k_ ≠ (v3 : Value).ownBlock) v4 x4_1) ∧ Aside0 (Below w.heap.size w w'))
 case atStart => exact ⟨(b6), (c4), (1), qe_, H', ⟨Nat.le_refl _⟩, ⟨by (with_reducible repeat (first | apply Kd.R_alloc | apply Kd.R_drewN | apply Kd.R_drew)); exact Kd.R_mono a7.out (fun _ hk => hk.2)⟩, ⟨by (with_reducible repeat (first | apply Kd.R_alloc | apply Kd.R_drewN | apply Kd.R_drew)); exact Kd.R_mono b4.out (fun _ hk => hk.2)⟩, ⟨qB_⟩⟩
 case round =>
  clear H'
  (try clear c1); (try clear c2); (try clear c2b0); (try clear c2b1); (try clear p2); (try clear q2); (try clear e3); (try clear qi2); (try clear a8); (try clear a0); (try clear p240); (try clear p244); (try clear q240); (try clear q244)
  obtain ⟨x3_1, x4_1, x5_1, rfl, HA, HK1, a1, a2, HB⟩ := hrel
  cases gk with
  | zero => exact absurd HA.out (by simp [spec_l06Open.l0])
  | succ k1 =>
   have H := HA.out; clear HA
   simp only [spec_l06Open.l0] at H
   refine ib_ H ?_ ?_ <;> clear H <;> intro c7b0 H
   ·obtain rfl := oi_ H
    obtain ⟨e4, e5, d3⟩ := Kd.R_slice a1.out
    subst d3
    go_wp2
    repeat (go_quiet (fail); try go_wp2)
    go_ret
    exact ⟨qr_, qB_⟩
   have d4 := am_ H
   clear H
   go_upto_region 6 with (fail)
   repeat (go_quiet (fail); go_upto_region 6 with (fail))
   go_cut [35] (fun v35 wc => ∃ (kq : Nat) (x35_7 : Bool), v35 = .bool x35_7 ∧ Aside0 (spec_l06Open.j1 kq l0 x3_1 x4_1 x5_1 x35_7 = some r) ∧ Aside0 (kq ≤ k1) ∧ Aside0 (Kd.R (Kd.int .i64) 3 wc w.heap.size (fun k_ => some k_ ≠ (u4 : Value).ownBlock) u3 x3_1) ∧ Aside0 (Kd.R (Kd.int .i64) 3 wc w.heap.size (fun k_ => some k_ ≠ (u3 : Value).ownBlock) u4 x4_1) ∧ Aside0 (Below w.heap.size w wc))
   case first =>
    have H := d4.out; clear d4
    refine jb_ H ?_ ?_ <;> clear H <;> intro c9 H
    ·have c9b0 : decide (1 < (x3_1.length : Int)) = false := decide_eq_false c9
     have c9b1 : decide (1 < x3_1.length) = false := decide_eq_false (by omega)
     clear c9
     (first | rw [c9b0] | (simp only [i64_w, i32_w]; rw [c9b0]) | skip)
     have H' := am_ H; clear H
     obtain ⟨e6, e7, d5⟩ := Kd.R_slice a1.out
     subst d5
     go_wp2
     repeat (go_quiet (fail); try go_wp2)
     go_meet
     case rel => exact ⟨_, (false), qe_, H', ⟨by have := HK1.out; first | omega | exact Nat.le_refl _⟩, ⟨ra_ a1⟩, ⟨ra_ a2⟩, ⟨qB_⟩⟩
    have c9b0 : decide (1 < (x3_1.length : Int)) = true := decide_eq_true c9
    have c9b1 : decide (1 < x3_1.length) = true := decide_eq_true (by omega)
    clear c9
    (first | rw [c9b0] | (simp only [i64_w, i32_w]; rw [c9b0]) | skip)
    refine ig_ H ?_; clear H; intro c10b0 H
    obtain ⟨ji11, hji11⟩ : ∃ j_ : Int, (wrap64 ((x3_1.length : Int) - 2)) = j_ := ⟨_, rfl⟩
    first | rw [hji11] at H | simp only [hji11] at H
    have hji11w : (IntKind.i64.wrap ((x3_1.length : Int) - 2)) = ji11 := (i64_w _).trans hji11
    refine ig_ H ?_; clear H; intro c12b0 H
    refine ig_ H ?_; clear H; intro c13b0 H
    have H' := am_ H; clear H
    obtain ⟨e8, e9, d6⟩ := Kd.R_slice a1.out
    subst d6
    have p248 := dp_ x5_1
    have q248 := dl_ x5_1 l0.length
    obtain ⟨ad248, e248, a9⟩ := Kd.at_int b1.out x5_1 p248 q248
    obtain rfl : ad240 = ad248 := (by injection e248)
    replace a9 := qx_ HB a9
    replace p248 := eq_true p248; replace q248 := eq_true q248
    have p249 := dp_ ((ji11))
    have q249 := dl_ (ji11) x3_1.length
    obtain ⟨ad249, e249, b3⟩ := Kd.at_int (Kd.R_reads' a1.out).2.2 (ji11) p249 q249
    cases e249; replace p249 := eq_true p249; replace q249 := eq_true q249
    go_wp2
    repeat (go_quiet (fail); try go_wp2)
    go_meet
    case rel => exact ⟨_, (((rd l0 x5_1) == (rd x3_1 (ji11)))), (by first | rfl | (simp; done) | (simp only [← hji11] <;> (first | rfl | simp)) | (simp [*]; done)), H', ⟨by have := HK1.out; first | omega | exact Nat.le_refl _⟩, ⟨ra_ a1⟩, ⟨ra_ a2⟩, ⟨qB_⟩⟩
   case rest =>
    clear d4; (try clear c1); (try clear c2); (try clear c2b0); (try clear c2b1); (try clear p2); (try clear q2); (try clear e3); (try clear qi2); (try clear p6); (try clear c7); (try clear c7b0); (try clear c9); (try clear c9b0); (try clear c9b1); (try clear c10); (try clear c10b0); (try clear c12); (try clear c12b0); (try clear c13); (try clear c13b0); (try clear a8); (try clear a0); (try clear a9); (try clear b3); (try clear p2); (try clear p240); (try clear p244); (try clear p248); (try clear p249); (try clear q2); (try clear q240); (try clear q244); (try clear q248); (try clear q249)
    obtain ⟨kq, x35_7, rfl, HA, d0, a1, a2, HB⟩ := hcut
    cases kq with
    | zero => exact absurd HA.out (by simp [spec_l06Open.j1])
    | succ kj7 =>
     have H := HA.out; clear HA
     simp only [spec_l06Open.j1] at H
     refine ie_ H ?_ ?_ <;> clear H <;> rintro rfl H
     ·obtain ⟨ji17, hji17⟩ : ∃ j_ : Int, (wrap64 ((x3_1.length : Int) - 1)) = j_ := ⟨_, rfl⟩
      first | rw [hji17] at H | simp only [hji17] at H
      have hji17w : (IntKind.i64.wrap ((x3_1.length : Int) - 1)) = ji17 := (i64_w _).trans hji17
      refine jg_ H ?_; clear H; intro c18 H
      have c18b0 := eq_true c18
      have c18b1 := decide_eq_true c18
      clear c18
      refine jg_ H ?_; clear H; intro c19 H
      have c19b0 := eq_true c19
      have c19b1 := decide_eq_true c19
      clear c19
      obtain ⟨b7, hy250⟩ : ∃ y_ : List Int, y_ = (x3_1.take ((ji17) : Int).toNat) := ⟨_, rfl⟩
      replace H : (spec_l06Open.l0 kj7 l0 b7 x4_1 (wrap64 (x5_1 + 1))) = some r := hq_ hy250 H
      have Ny250 := am_ hy250
      clear hy250; have H' := am_ H; clear H
      obtain ⟨d7, d8, d9⟩ := Kd.R_slice a1.out
      subst d9
      have q21 : ((ji17) : Int) ≤ ((x3_1.length : Int) : Int) := of_decide_eq_true qa_
      obtain ⟨i021, hi021, _, hsz21, _⟩ := info_parts info3
      have hcut21 := cut_to (P := Try.prog) 51 3 .i64 Try.underlying51 hi021 d7 x3_1.length d8 (ji17) (of_decide_eq_true qa_) q21 (Kd.R_reads' a1.out).2.1
      have hr21 := Kd.R_take (m := ((ji17) : Int).toNat) a1.out (by omega)
      have hy21 : b7.length = ((ji17) : Int).toNat := (by rw [Ny250.out, List.length_take]; omega)
      rw [← Ny250.out] at hr21
      rw [← hy21] at hr21 hcut21
      clear hy21 hi021 hsz21 a1
      have b5 := am_ hr21
      clear hr21; replace q21 := eq_true q21
      go_wp2
      repeat (go_quiet (fail); try go_wp2)
      go_roundg kj7
      case measure => have := HK1.out; have := d0.out; omega
      case rel => exact ⟨(b7), (x4_1), (wrap64 (x5_1 + 1)), qe_, H', ⟨by have := HK1.out; have := d0.out; omega⟩, ⟨ra_ b5⟩, ⟨ra_ a2⟩, ⟨qB_⟩⟩
     refine ig_ H ?_; clear H; intro c22b0 H
     refine ig_ H ?_; clear H; intro c23b0 H
     obtain ⟨e0, A24, H⟩ := bs_ H
     refine ie_ H ?_ ?_ <;> clear H <;> rintro rfl H
     ·obtain rfl := oi_ H
      have p253 := dp_ x5_1
      have q253 := dl_ x5_1 l0.length
      obtain ⟨ad253, e253, a6⟩ := Kd.at_int b1.out x5_1 p253 q253
      obtain rfl : ad240 = ad253 := (by injection e253)
      replace a6 := qx_ HB a6
      replace p253 := eq_true p253; replace q253 := eq_true q253
      obtain ⟨f0, f1, e1⟩ := Kd.R_slice a2.out
      subst e1
      go_wp2_with (first | (go_at_call 105; (with_reducible refine (spec_l05In.calls kj7 _ _ x4_1 (rd l0 x5_1) true _ ?_ ?_ A24.out).mono ?_); exact qD_ (Kd.R_reads' a2.out).2.2; exact (Kd.R_reads' a2.out).2.1; rintro e w' ⟨rfl, ⟨nd, rfl⟩⟩; (try first | exact ⟨rfl, _, World.drewN_drewN _ _ _⟩ | exact ⟨rfl, _, Eq.trans (World.drewN_drewN _ _ _) (congrArg (World.drewN _) (Nat.add_assoc _ _ _))⟩)))
      repeat (go_quiet (first | (go_at_call 105; (with_reducible refine (spec_l05In.calls kj7 _ _ x4_1 (rd l0 x5_1) true _ ?_ ?_ A24.out).mono ?_); exact qD_ (Kd.R_reads' a2.out).2.2; exact (Kd.R_reads' a2.out).2.1; rintro e w' ⟨rfl, ⟨nd, rfl⟩⟩; (try first | exact ⟨rfl, _, World.drewN_drewN _ _ _⟩ | exact ⟨rfl, _, Eq.trans (World.drewN_drewN _ _ _) (congrArg (World.drewN _) (Nat.add_assoc _ _ _))⟩))); try go_wp2_with (first | (go_at_call 105; (with_reducible refine (spec_l05In.calls kj7 _ _ x4_1 (rd l0 x5_1) true _ ?_ ?_ A24.out).mono ?_); exact qD_ (Kd.R_reads' a2.out).2.2; exact (Kd.R_reads' a2.out).2.1; rintro e w' ⟨rfl, ⟨nd, rfl⟩⟩; (try first | exact ⟨rfl, _, World.drewN_drewN _ _ _⟩ | exact ⟨rfl, _, Eq.trans (World.drewN_drewN _ _ _) (congrArg (World.drewN _) (Nat.add_assoc _ _ _))⟩))))
      go_ret
      exact ⟨qr_, qB_⟩
     refine jg_ H ?_; clear H; intro c27 H
     have LMc27 := am_ c27
     clear c27
     obtain ⟨b8, hy256⟩ : ∃ y_ : List Int, y_ = (x4_1 ++ [rd l0 x5_1]) := ⟨_, rfl⟩
     replace H : (if x3_1.length < 17592186044416 then (spec_l06Open.l0 kj7 l0 (x3_1 ++ [rd l0 x5_1]) b8 (wrap64 (x5_1 + 1))) else (none)) = some r := hq_ hy256 H
     have Ny256 := am_ hy256
     clear hy256
     refine jg_ H ?_; clear H; intro c28 H
     have LMc28 := am_ c28
     clear c28
     obtain ⟨c6, hy260⟩ : ∃ y_ : List Int, y_ = (x3_1 ++ [rd l0 x5_1]) := ⟨_, rfl⟩
     replace H : (spec_l06Open.l0 kj7 l0 c6 b8 (wrap64 (x5_1 + 1))) = some r := hq_ hy260 H
     have Ny260 := am_ hy260
     clear hy260; have H' := am_ H; clear H
     have p253 := dp_ x5_1
     have q253 := dl_ x5_1 l0.length
     obtain ⟨ad253, e253, a6⟩ := Kd.at_int b1.out x5_1 p253 q253
     obtain rfl : ad240 = ad253 := (by injection e253)
     replace a6 := qx_ HB a6
     replace p253 := eq_true p253; replace q253 := eq_true q253
     obtain ⟨b9, c3, e2⟩ := Kd.R_slice a2.out
     subst e2
     go_wp2_with (first | (go_at_call 105; (with_reducible refine (spec_l05In.calls kj7 _ _ x4_1 (rd l0 x5_1) false _ ?_ ?_ A24.out).mono ?_); exact qD_ (Kd.R_reads' a2.out).2.2; exact (Kd.R_reads' a2.out).2.1; rintro e w' ⟨rfl, ⟨nd, rfl⟩⟩; (try first | exact ⟨rfl, _, World.drewN_drewN _ _ _⟩ | exact ⟨rfl, _, Eq.trans (World.drewN_drewN _ _ _) (congrArg (World.drewN _) (Nat.add_assoc _ _ _))⟩); have p255 := dp_ x5_1; have q255 := dl_ x5_1 l0.length; obtain ⟨ad255, e255, a3⟩ := Kd.at_int b1.out x5_1 p255 q255; obtain rfl : ad240 = ad255 := (by injection e255); replace a3 := qx_ HB a3; replace p255 := eq_true p255; replace q255 := eq_true q255) | ((with_reducible refine gate_builtin (b := .append) (xs := #[.tmp 47, .tmp 52]) rfl ?_); (try (refine gate_guard (by rfl) ?_; dsimp only)); at_builtin; refine Kd.R_append (Kd.int .i64) (w0 := w) w.heap.size rfl (.tmp 47) (.tmp 52) 51 3 (.int .i64 0) 8 rfl Try.underlying51 info3 rfl (by decide) (by omega) (.slice b9 x4_1.length c3) x4_1 (rd l0 x5_1) [.int .i64 (rd l0 x5_1)] (fun k_ => some k_ ≠ (u3 : Value).ownBlock) (fun _ => False) rfl rfl ?aP (fun _ hk => hk.elim) ?aF ?aO ?aB ?aS ?aL ?_; (case aP => exact rfl); (case aB => exact qB_); (case aF => exact (fun k_ hk => Kd.fresh' (Kd.R_lt (qR_ a1)) k_ hk)); (case aO => exact (qR_ a2)); (case aS => exact (below_size qB_)); (case aL => have := LMc27.out; omega); intro b2 w30 ho hb hg hat; rw [← Ny256.out] at ho; have a5 := am_ (ho); replace a1 := am_ (Kd.R_after (ok := (fun _ => True)) (by (with_reducible repeat (first | apply Kd.R_alloc | apply Kd.R_drewN | apply Kd.R_drew)); exact Kd.R_mono a1.out (fun _ hk => ⟨trivial, hk⟩)) hg hat); replace HB := am_ (hb); clear a2; clear ho hb hg hat; have p259 := dp_ x5_1; have q259 := dl_ x5_1 l0.length; obtain ⟨ad259, e259, a4⟩ := Kd.at_int b1.out x5_1 p259 q259; obtain rfl : ad240 = ad259 := (by injection e259); replace a4 := qx_ HB a4; replace p259 := eq_true p259; replace q259 := eq_true q259) | ((with_reducible refine gate_builtin (b := .append) (xs := #[.tmp 54, .tmp 59]) rfl ?_); (try (refine gate_guard (by rfl) ?_; dsimp only)); at_builtin; refine Kd.R_append (Kd.int .i64) (w0 := w) w.heap.size rfl (.tmp 54) (.tmp 59) 51 3 (.int .i64 0) 8 rfl Try.underlying51 info3 rfl (by decide) (by omega) u3 x3_1 (rd l0 x5_1) [.int .i64 (rd l0 x5_1)] (fun k_ => some k_ ≠ (b2 : Value).ownBlock) (fun _ => False) rfl rfl ?aP (fun _ hk => hk.elim) ?aF ?aO ?aB ?aS ?aL ?_; (case aP => exact rfl); (case aB => exact qB_); (case aF => exact (fun k_ hk => Kd.fresh' (Kd.R_lt (qR_ a5)) k_ hk)); (case aO => exact (by (with_reducible repeat (first | apply Kd.R_alloc | apply Kd.R_drewN | apply Kd.R_drew)); exact Kd.R_mono a1.out (fun _ hk => hk.2))); (case aS => exact (below_size qB_)); (case aL => have := LMc28.out; omega); intro c8 w31 ho hb hg hat; rw [← Ny260.out] at ho; have b0 := am_ (ho); replace a5 := am_ (Kd.R_after (ok := (fun _ => True)) (by (with_reducible repeat (first | apply Kd.R_alloc | apply Kd.R_drewN | apply Kd.R_drew)); exact Kd.R_mono a5.out (fun _ hk => ⟨trivial, hk⟩)) hg hat); replace HB := am_ (hb); clear a1; clear ho hb hg hat))
     have p255 := dp_ x5_1
     have q255 := dl_ x5_1 l0.length
     obtain ⟨ad255, e255, a3⟩ := Kd.at_int b1.out x5_1 p255 q255
     obtain rfl : ad240 = ad255 := (by injection e255)
     replace a3 := qx_ HB a3
     replace p255 := eq_true p255; replace q255 := eq_true q255
     repeat (go_quiet (first | (go_at_call 105; (with_reducible refine (spec_l05In.calls kj7 _ _ x4_1 (rd l0 x5_1) false _ ?_ ?_ A24.out).mono ?_); exact qD_ (Kd.R_reads' a2.out).2.2; exact (Kd.R_reads' a2.out).2.1; rintro e w' ⟨rfl, ⟨nd, rfl⟩⟩; (try first | exact ⟨rfl, _, World.drewN_drewN _ _ _⟩ | exact ⟨rfl, _, Eq.trans (World.drewN_drewN _ _ _) (congrArg (World.drewN _) (Nat.add_assoc _ _ _))⟩)) | ((with_reducible refine gate_builtin (b := .append) (xs := #[.tmp 47, .tmp 52]) rfl ?_); (try (refine gate_guard (by rfl) ?_; dsimp only)); at_builtin; refine Kd.R_append (Kd.int .i64) (w0 := w) w.heap.size rfl (.tmp 47) (.tmp 52) 51 3 (.int .i64 0) 8 rfl Try.underlying51 info3 rfl (by decide) (by omega) (.slice b9 x4_1.length c3) x4_1 (rd l0 x5_1) [.int .i64 (rd l0 x5_1)] (fun k_ => some k_ ≠ (u3 : Value).ownBlock) (fun _ => False) rfl rfl ?aP (fun _ hk => hk.elim) ?aF ?aO ?aB ?aS ?aL ?_; (case aP => exact rfl); (case aB => exact qB_); (case aF => exact (fun k_ hk => Kd.fresh' (Kd.R_lt (qR_ a1)) k_ hk)); (case aO => exact (qR_ a2)); (case aS => exact (below_size qB_)); (case aL => have := LMc27.out; omega); intro b2 w30 ho hb hg hat; rw [← Ny256.out] at ho; have a5 := am_ (ho); replace a1 := am_ (Kd.R_after (ok := (fun _ => True)) (by (with_reducible repeat (first | apply Kd.R_alloc | apply Kd.R_drewN | apply Kd.R_drew)); exact Kd.R_mono a1.out (fun _ hk => ⟨trivial, hk⟩)) hg hat); replace HB := am_ (hb); clear a2; clear ho hb hg hat; have p259 := dp_ x5_1; have q259 := dl_ x5_1 l0.length; obtain ⟨ad259, e259, a4⟩ := Kd.at_int b1.out x5_1 p259 q259; obtain rfl : ad240 = ad259 := (by injection e259); replace a4 := qx_ HB a4; replace p259 := eq_true p259; replace q259 := eq_true q259) | ((with_reducible refine gate_builtin (b := .append) (xs := #[.tmp 54, .tmp 59]) rfl ?_); (try (refine gate_guard (by rfl) ?_; dsimp only)); at_builtin; refine Kd.R_append (Kd.int .i64) (w0 := w) w.heap.size rfl (.tmp 54) (.tmp 59) 51 3 (.int .i64 0) 8 rfl Try.underlying51 info3 rfl (by decide) (by omega) u3 x3_1 (rd l0 x5_1) [.int .i64 (rd l0 x5_1)] (fun k_ => some k_ ≠ (b2 : Value).ownBlock) (fun _ => False) rfl rfl ?aP (fun _ hk => hk.elim) ?aF ?aO ?aB ?aS ?aL ?_; (case aP => exact rfl); (case aB => exact qB_); (case aF => exact (fun k_ hk => Kd.fresh' (Kd.R_lt (qR_ a5)) k_ hk)); (case aO => exact (by (with_reducible repeat (first | apply Kd.R_alloc | apply Kd.R_drewN | apply Kd.R_drew)); exact Kd.R_mono a1.out (fun _ hk => hk.2))); (case aS => exact (below_size qB_)); (case aL => have := LMc28.out; omega); intro c8 w31 ho hb hg hat; rw [← Ny260.out] at ho; have b0 := am_ (ho); replace a5 := am_ (Kd.R_after (ok := (fun _ => True)) (by (with_reducible repeat (first | apply Kd.R_alloc | apply Kd.R_drewN | apply Kd.R_drew)); exact Kd.R_mono a5.out (fun _ hk => ⟨trivial, hk⟩)) hg hat); replace HB := am_ (hb); clear a1; clear ho hb hg hat)); try go_wp2_with (first | (go_at_call 105; (with_reducible refine (spec_l05In.calls kj7 _ _ x4_1 (rd l0 x5_1) false _ ?_ ?_ A24.out).mono ?_); exact qD_ (Kd.R_reads' a2.out).2.2; exact (Kd.R_reads' a2.out).2.1; rintro e w' ⟨rfl, ⟨nd, rfl⟩⟩; (try first | exact ⟨rfl, _, World.drewN_drewN _ _ _⟩ | exact ⟨rfl, _, Eq.trans (World.drewN_drewN _ _ _) (congrArg (World.drewN _) (Nat.add_assoc _ _ _))⟩); have p255 := dp_ x5_1; have q255 := dl_ x5_1 l0.length; obtain ⟨ad255, e255, a3⟩ := Kd.at_int b1.out x5_1 p255 q255; obtain rfl : ad240 = ad255 := (by injection e255); replace a3 := qx_ HB a3; replace p255 := eq_true p255; replace q255 := eq_true q255) | ((with_reducible refine gate_builtin (b := .append) (xs := #[.tmp 47, .tmp 52]) rfl ?_); (try (refine gate_guard (by rfl) ?_; dsimp only)); at_builtin; refine Kd.R_append (Kd.int .i64) (w0 := w) w.heap.size rfl (.tmp 47) (.tmp 52) 51 3 (.int .i64 0) 8 rfl Try.underlying51 info3 rfl (by decide) (by omega) (.slice b9 x4_1.length c3) x4_1 (rd l0 x5_1) [.int .i64 (rd l0 x5_1)] (fun k_ => some k_ ≠ (u3 : Value).ownBlock) (fun _ => False) rfl rfl ?aP (fun _ hk => hk.elim) ?aF ?aO ?aB ?aS ?aL ?_; (case aP => exact rfl); (case aB => exact qB_); (case aF => exact (fun k_ hk => Kd.fresh' (Kd.R_lt (qR_ a1)) k_ hk)); (case aO => exact (qR_ a2)); (case aS => exact (below_size qB_)); (case aL => have := LMc27.out; omega); intro b2 w30 ho hb hg hat; rw [← Ny256.out] at ho; have a5 := am_ (ho); replace a1 := am_ (Kd.R_after (ok := (fun _ => True)) (by (with_reducible repeat (first | apply Kd.R_alloc | apply Kd.R_drewN | apply Kd.R_drew)); exact Kd.R_mono a1.out (fun _ hk => ⟨trivial, hk⟩)) hg hat); replace HB := am_ (hb); clear a2; clear ho hb hg hat; have p259 := dp_ x5_1; have q259 := dl_ x5_1 l0.length; obtain ⟨ad259, e259, a4⟩ := Kd.at_int b1.out x5_1 p259 q259; obtain rfl : ad240 = ad259 := (by injection e259); replace a4 := qx_ HB a4; replace p259 := eq_true p259; replace q259 := eq_true q259) | ((with_reducible refine gate_builtin (b := .append) (xs := #[.tmp 54, .tmp 59]) rfl ?_); (try (refine gate_guard (by rfl) ?_; dsimp only)); at_builtin; refine Kd.R_append (Kd.int .i64) (w0 := w) w.heap.size rfl (.tmp 54) (.tmp 59) 51 3 (.int .i64 0) 8 rfl Try.underlying51 info3 rfl (by decide) (by omega) u3 x3_1 (rd l0 x5_1) [.int .i64 (rd l0 x5_1)] (fun k_ => some k_ ≠ (b2 : Value).ownBlock) (fun _ => False) rfl rfl ?aP (fun _ hk => hk.elim) ?aF ?aO ?aB ?aS ?aL ?_; (case aP => exact rfl); (case aB => exact qB_); (case aF => exact (fun k_ hk => Kd.fresh' (Kd.R_lt (qR_ a5)) k_ hk)); (case aO => exact (by (with_reducible repeat (first | apply Kd.R_alloc | apply Kd.R_drewN | apply Kd.R_drew)); exact Kd.R_mono a1.out (fun _ hk => hk.2))); (case aS => exact (below_size qB_)); (case aL => have := LMc28.out; omega); intro c8 w31 ho hb hg hat; rw [← Ny260.out] at ho; have b0 := am_ (ho); replace a5 := am_ (Kd.R_after (ok := (fun _ => True)) (by (with_reducible repeat (first | apply Kd.R_alloc | apply Kd.R_drewN | apply Kd.R_drew)); exact Kd.R_mono a5.out (fun _ hk => ⟨trivial, hk⟩)) hg hat); replace HB := am_ (hb); clear a1; clear ho hb hg hat)))
     go_roundg kj7
     case measure => have := HK1.out; have := d0.out; omega
     case rel => exact ⟨(c6), (b8), (wrap64 (x5_1 + 1)), qe_, H', ⟨by have := HK1.out; have := d0.out; omega⟩, ⟨ra_ b0⟩, ⟨by (with_reducible repeat (first | apply Kd.R_alloc | apply Kd.R_drewN | apply Kd.R_drew)); exact Kd.R_mono a5.out (fun _ hk => hk.2)⟩, ⟨qB_⟩⟩
end Go.Proofs.Ytbkklafkoegdpaa.QFnExactWebAdd
