import Derived.Test.YtbkklafkoegdpaaQFnExactWebAddx0
namespace Go.Proofs.Ytbkklafkoegdpaa.QFnExactWebAdd
open Go.RowKit Go.Proofs.YtbkklafkoegdpaaW.PrintWords Go.Proofs.YtbkklafkoegdpaaW.PrintLast Go.Proofs.YtbkklafkoegdpaaW.PrintMore
set_option maxHeartbeats 8000000
set_option maxRecDepth 100000
set_option linter.unusedVariables false
set_option linter.unusedSimpArgs false
mutual
def spec_l08Put.l0 : Nat → List (S72) → List (S72) → Int → Int → Int → Int → Bool → Option ((List (S72)))
  | 0, _, _, _, _, _, _, _ => none
  | k + 1, x0, x5, x6, x343000, x343001, x343002, x343003 => if x6 < (x0.length : Int) then (if 0 ≤ x6 then (if ((rd_T72 x0 x6).f0) < x343000 then (if x5.length < 4398046511104 then (spec_l08Put.l0 k x0 (x5 ++ [(⟨(rd_T72 x0 x6).f0, (rd_T72 x0 x6).f1, (rd_T72 x0 x6).f2, (rd_T72 x0 x6).f3⟩ : S72)]) (wrap64 (x6 + 1)) x343000 x343001 x343002 x343003) else (none)) else (if ((rd_T72 x0 x6).f0) = x343000 then (if ((rd_T72 x0 x6).f1) < x343001 then (if x5.length < 4398046511104 then (spec_l08Put.l0 k x0 (x5 ++ [(⟨(rd_T72 x0 x6).f0, (rd_T72 x0 x6).f1, (rd_T72 x0 x6).f2, (rd_T72 x0 x6).f3⟩ : S72)]) (wrap64 (x6 + 1)) x343000 x343001 x343002 x343003) else (none)) else (spec_l08Put.l0 k x0 x5 (wrap64 (x6 + 1)) x343000 x343001 x343002 x343003)) else (spec_l08Put.l0 k x0 x5 (wrap64 (x6 + 1)) x343000 x343001 x343002 x343003))) else (none)) else (if x5.length < 4398046511104 then (spec_l08Put.l1 k x0 (x5 ++ [(⟨x343000, x343001, x343002, x343003⟩ : S72)]) 0 x343000 x343001 x343002 x343003) else (none))
def spec_l08Put.l1 : Nat → List (S72) → List (S72) → Int → Int → Int → Int → Bool → Option ((List (S72)))
  | 0, _, _, _, _, _, _, _ => none
  | k + 1, x0, x5, x7, x343000, x343001, x343002, x343003 => if x7 < (x0.length : Int) then (if 0 ≤ x7 then (if ((rd_T72 x0 x7).f0) > x343000 then (if x5.length < 4398046511104 then (spec_l08Put.l1 k x0 (x5 ++ [(⟨(rd_T72 x0 x7).f0, (rd_T72 x0 x7).f1, (rd_T72 x0 x7).f2, (rd_T72 x0 x7).f3⟩ : S72)]) (wrap64 (x7 + 1)) x343000 x343001 x343002 x343003) else (none)) else (if ((rd_T72 x0 x7).f0) = x343000 then (if ((rd_T72 x0 x7).f1) > x343001 then (if x5.length < 4398046511104 then (spec_l08Put.l1 k x0 (x5 ++ [(⟨(rd_T72 x0 x7).f0, (rd_T72 x0 x7).f1, (rd_T72 x0 x7).f2, (rd_T72 x0 x7).f3⟩ : S72)]) (wrap64 (x7 + 1)) x343000 x343001 x343002 x343003) else (none)) else (spec_l08Put.l1 k x0 x5 (wrap64 (x7 + 1)) x343000 x343001 x343002 x343003)) else (spec_l08Put.l1 k x0 x5 (wrap64 (x7 + 1)) x343000 x343001 x343002 x343003))) else (none)) else (some x5)
end
def spec_l08Put.f (k : Nat) (l0 : List (S72)) (a1_0 : Int) (a1_1 : Int) (a1_2 : Int) (a1_3 : Bool) : Option ((List (S72))) := spec_l08Put.l0 k l0 (([] : List (S72))) 0 a1_0 a1_1 a1_2 a1_3
theorem spec_l08Put.mono_l : ∀ k, (∀ y0 y1 y2 y3 y4 y5 y6, LeO (spec_l08Put.l0 k y0 y1 y2 y3 y4 y5 y6) (spec_l08Put.l0 (k + 1) y0 y1 y2 y3 y4 y5 y6)) ∧ (∀ y0 y1 y2 y3 y4 y5 y6, LeO (spec_l08Put.l1 k y0 y1 y2 y3 y4 y5 y6) (spec_l08Put.l1 (k + 1) y0 y1 y2 y3 y4 y5 y6))
  | 0 => ⟨fun _ _ _ _ _ _ _ r h => by simp [spec_l08Put.l0] at h, fun _ _ _ _ _ _ _ r h => by simp [spec_l08Put.l1] at h⟩
  | k + 1 => by
    obtain ⟨ih0, ih1⟩ := spec_l08Put.mono_l k
    refine ⟨?_, ?_⟩ <;> (intros; first | unfold spec_l08Put.l0 | unfold spec_l08Put.l1) <;> exact lo_
theorem spec_l08Put.mono : ∀ a0 a1 a2 a3 a4 k, LeO (spec_l08Put.f k a0 a1 a2 a3 a4) (spec_l08Put.f (k + 1) a0 a1 a2 a3 a4) := by
  intro a0 a1 a2 a3 a4 k
  obtain ⟨ih0, ih1⟩ := spec_l08Put.mono_l k
  unfold spec_l08Put.f
  exact lo_
theorem spec_l08Put.calls (k : Nat) (A0 : Option Addr) (c0 : Nat) (l0 : List (S72)) (a1_0 : Int) (a1_1 : Int) (a1_2 : Int) (a1_3 : Bool) (r : List (S72)) (w : World) (hr0 : Kd.C k72 w A0 l0.length l0) (hc0 : l0.length ≤ c0) (h : spec_l08Put.f k l0 a1_0 a1_1 a1_2 a1_3 = some r) :
  Calls Try.prog 88 #[.slice A0 l0.length c0, .agg #[.int .i64 a1_0, .int .i64 a1_1, .int .i64 a1_2, .bool a1_3]] w fun e w' => ∃ v0_ : Value, e = .returned (v0_) ∧ Kd.R k72 72 w' w.heap.size (fun _ => True) v0_ r ∧ Below w.heap.size w w' := by
 have hu72 := Try.underlying72
 have d3 := am_ hr0
 have p0 := am_ hc0
 clear hr0 hc0
 have HB := am_ (Below.refl w.heap.size w)
 rw [spec_l08Put.f] at h; have H := h; clear h
 obtain ⟨k3, hy343⟩ : ∃ y_ : List (S72), y_ = (([] : List (S72))) := ⟨_, rfl⟩
 replace H : (spec_l08Put.l0 k l0 k3 0 a1_0 a1_1 a1_2 a1_3) = some r := hq_ hy343 H
 have Ny343 := am_ hy343
 clear hy343; have H' := am_ H; clear H
 go_enter Try.func88, Try.ntmps88
 go_wp2_with (first | ((with_reducible refine gd_ 3 ?_); refine by_ 3 (cs := #[.int .i64 a1_0, .int .i64 a1_1, .int .i64 a1_2, .bool a1_3]) (t := 72) ?_; intro a6 hg w3 a0 hb; have f9 := gw_ hg; replace HB := hs_ hb; clear hb hg) | ((with_reducible refine gd_ 8 ?_); refine Kd.R_lit k72 _ 72 ?hg (N := 8) ?hd (xs := ([] : List (S72))) (inner := []) (ok := fun _ => True) (okp := fun _ => True) ?hr ?hp (fun _ hk => hk) trivial (Below.refl _ _) (Nat.le_refl _) (by simp) ?_; (case hd => rfl); (case hg => rfl); (case hr => first | (go_simp; done) | (go_simp; rfl)); (case hp => exact (Reps.none _ _)); intro o9 w4 ho5 hb hg_ hnew_; clear hg_ hnew_; (first | rw [← Ny343.out] at ho5 | (simp only [Int.reduceToNat] at ho5; rw [← Ny343.out] at ho5)); have k0 := am_ (Kd.R_lower (Kd.R_newB ho5 (qk_ a0)) (below_size qB_)); replace a0 := qbl_ a0 hb; replace HB := hs_ hb; clear hb ho5))
 repeat (go_quiet (fail); try go_wp2_with (first | ((with_reducible refine gd_ 3 ?_); refine by_ 3 (cs := #[.int .i64 a1_0, .int .i64 a1_1, .int .i64 a1_2, .bool a1_3]) (t := 72) ?_; intro a6 hg w3 a0 hb; have f9 := gw_ hg; replace HB := hs_ hb; clear hb hg) | ((with_reducible refine gd_ 8 ?_); refine Kd.R_lit k72 _ 72 ?hg (N := 8) ?hd (xs := ([] : List (S72))) (inner := []) (ok := fun _ => True) (okp := fun _ => True) ?hr ?hp (fun _ hk => hk) trivial (Below.refl _ _) (Nat.le_refl _) (by simp) ?_; (case hd => rfl); (case hg => rfl); (case hr => first | (go_simp; done) | (go_simp; rfl)); (case hp => exact (Reps.none _ _)); intro o9 w4 ho5 hb hg_ hnew_; clear hg_ hnew_; (first | rw [← Ny343.out] at ho5 | (simp only [Int.reduceToNat] at ho5; rw [← Ny343.out] at ho5)); have k0 := am_ (Kd.R_lower (Kd.R_newB ho5 (qk_ a0)) (below_size qB_)); replace a0 := qbl_ a0 hb; replace HB := hs_ hb; clear hb ho5)))
 go_loopg [5, 6] k (fun kq v5 v6 w' => ∃ (x5_1 : List (S72)) (x6_1 : Int), v6 = .int .i64 x6_1 ∧ Aside0 (spec_l08Put.l0 kq l0 x5_1 x6_1 a1_0 a1_1 a1_2 a1_3 = some r) ∧ Aside0 (kq ≤ k) ∧ Aside0 (Kd.R k72 72 w' w.heap.size (fun k_ => k_ ≠ a6) v5 x5_1) ∧ Aside0 (w'.heap[a6]? = some (.cells #[.int .i64 a1_0, .int .i64 a1_1, .int .i64 a1_2, .bool a1_3] 72 (0, 0))) ∧ Aside0 (Below w.heap.size w w'))
 case atStart => exact ⟨(k3), (0), qe_, H', ⟨Nat.le_refl _⟩, ⟨by (with_reducible repeat (first | apply Kd.R_alloc | apply Kd.R_drewN | apply Kd.R_drew)); exact Kd.R_mono k0.out (fun _ hk => hk.2)⟩, ⟨qk_ a0⟩, ⟨qB_⟩⟩
 case round =>
  clear H'
  (try clear p2)
  obtain ⟨x5_1, x6_1, rfl, HA, HK1, a1, a0, HB⟩ := hrel
  cases gk with
  | zero => exact absurd HA.out (by simp [spec_l08Put.l0])
  | succ k1 =>
   have H := HA.out; clear HA
   simp only [spec_l08Put.l0] at H
   refine ic_ H ?_ ?_ <;> clear H <;> intro c6b0 H
   ·refine ig_ H ?_; clear H; intro c7b0 H
    refine ic_ H ?_ ?_ <;> clear H <;> intro c8b0 H
    ·refine jg_ H ?_; clear H; intro c9 H
     have LMc9 := am_ c9
     clear c9
     obtain ⟨k5, hy348⟩ : ∃ y_ : List (S72), y_ = (x5_1 ++ [(⟨(rd_T72 l0 x6_1).f0, (rd_T72 l0 x6_1).f1, (rd_T72 l0 x6_1).f2, (rd_T72 l0 x6_1).f3⟩ : S72)]) := ⟨_, rfl⟩
     replace H : (spec_l08Put.l0 k1 l0 k5 (wrap64 (x6_1 + 1)) a1_0 a1_1 a1_2 a1_3) = some r := hq_ hy348 H
     have Ny348 := am_ hy348
     clear hy348; have H' := am_ H; clear H
     have p346 := dp_ x6_1
     have q346 := dl_ x6_1 l0.length
     obtain ⟨ad346, e346, a2, a3, a4, a5⟩ := at_T72 d3.out x6_1 p346 q346
     cases e346
     replace a2 := qx_ HB a2
     replace a3 := qx_ HB a3
     replace a4 := qx_ HB a4
     replace a5 := qx_ HB a5
     replace p346 := eq_true p346; replace q346 := eq_true q346
     obtain ⟨g0, g1, g2, g3, g4, g5, g6, g7⟩ := bc4_ a0
     have p347 := dp_ x6_1
     have q347 := dl_ x6_1 l0.length
     obtain ⟨ad347, e347, d4, d5, d6, d7⟩ := at_T72 d3.out x6_1 p347 q347
     obtain rfl : ad346 = ad347 := (by injection e347)
     replace d4 := qx_ HB d4
     replace d5 := qx_ HB d5
     replace d6 := qx_ HB d6
     replace d7 := qx_ HB d7
     replace p347 := eq_true p347; replace q347 := eq_true q347
     go_wp2_with (first | ((with_reducible refine gate_builtin (b := .append) (xs := #[.tmp 43, .tmp 48]) rfl ?_); at_builtin; refine Kd.R_append k72 (w0 := w) w.heap.size rfl (.tmp 43) (.tmp 48) 27 72 (.agg #[(.int .i64 0), (.int .i64 0), (.int .i64 0), (.bool false)]) 32 rfl Try.underlying27 info72 rfl (by decide) (by omega) u5 x5_1 (⟨(rd_T72 l0 x6_1).f0, (rd_T72 l0 x6_1).f1, (rd_T72 l0 x6_1).f2, (rd_T72 l0 x6_1).f3⟩ : S72) [.int .i64 ((rd_T72 l0 x6_1).f0), .int .i64 ((rd_T72 l0 x6_1).f1), .int .i64 ((rd_T72 l0 x6_1).f2), .bool ((rd_T72 l0 x6_1).f3)] (fun k_ => k_ ≠ a6) (fun _ => False) rfl rfl ?aP (fun _ hk => hk.elim) ?aF ?aO ?aB ?aS ?aL ?_; (case aP => exact k72_mkM _ _ _ (⟨(rd_T72 l0 x6_1).f0, (rd_T72 l0 x6_1).f1, (rd_T72 l0 x6_1).f2, (rd_T72 l0 x6_1).f3⟩ : S72)); (case aB => exact qB_); (case aF => exact (fun k_ hk => Kd.freshB (qk_ a0) k_ hk)); (case aO => exact (qR_ a1)); (case aS => exact (below_size qB_)); (case aL => have := LMc9.out; omega); intro k6 w11 ho hb hg hat; rw [← Ny348.out] at ho; have e2 := am_ (ho); replace a0 := am_ (blk_grown (qk_ a0) hg (Kd.R_away a1.out (fun _ hk => hk))); replace HB := am_ (hb); clear a1; clear ho hb hg hat))
     repeat (go_quiet (first | ((with_reducible refine gate_builtin (b := .append) (xs := #[.tmp 43, .tmp 48]) rfl ?_); at_builtin; refine Kd.R_append k72 (w0 := w) w.heap.size rfl (.tmp 43) (.tmp 48) 27 72 (.agg #[(.int .i64 0), (.int .i64 0), (.int .i64 0), (.bool false)]) 32 rfl Try.underlying27 info72 rfl (by decide) (by omega) u5 x5_1 (⟨(rd_T72 l0 x6_1).f0, (rd_T72 l0 x6_1).f1, (rd_T72 l0 x6_1).f2, (rd_T72 l0 x6_1).f3⟩ : S72) [.int .i64 ((rd_T72 l0 x6_1).f0), .int .i64 ((rd_T72 l0 x6_1).f1), .int .i64 ((rd_T72 l0 x6_1).f2), .bool ((rd_T72 l0 x6_1).f3)] (fun k_ => k_ ≠ a6) (fun _ => False) rfl rfl ?aP (fun _ hk => hk.elim) ?aF ?aO ?aB ?aS ?aL ?_; (case aP => exact k72_mkM _ _ _ (⟨(rd_T72 l0 x6_1).f0, (rd_T72 l0 x6_1).f1, (rd_T72 l0 x6_1).f2, (rd_T72 l0 x6_1).f3⟩ : S72)); (case aB => exact qB_); (case aF => exact (fun k_ hk => Kd.freshB (qk_ a0) k_ hk)); (case aO => exact (qR_ a1)); (case aS => exact (below_size qB_)); (case aL => have := LMc9.out; omega); intro k6 w11 ho hb hg hat; rw [← Ny348.out] at ho; have e2 := am_ (ho); replace a0 := am_ (blk_grown (qk_ a0) hg (Kd.R_away a1.out (fun _ hk => hk))); replace HB := am_ (hb); clear a1; clear ho hb hg hat)); try go_wp2_with (first | ((with_reducible refine gate_builtin (b := .append) (xs := #[.tmp 43, .tmp 48]) rfl ?_); at_builtin; refine Kd.R_append k72 (w0 := w) w.heap.size rfl (.tmp 43) (.tmp 48) 27 72 (.agg #[(.int .i64 0), (.int .i64 0), (.int .i64 0), (.bool false)]) 32 rfl Try.underlying27 info72 rfl (by decide) (by omega) u5 x5_1 (⟨(rd_T72 l0 x6_1).f0, (rd_T72 l0 x6_1).f1, (rd_T72 l0 x6_1).f2, (rd_T72 l0 x6_1).f3⟩ : S72) [.int .i64 ((rd_T72 l0 x6_1).f0), .int .i64 ((rd_T72 l0 x6_1).f1), .int .i64 ((rd_T72 l0 x6_1).f2), .bool ((rd_T72 l0 x6_1).f3)] (fun k_ => k_ ≠ a6) (fun _ => False) rfl rfl ?aP (fun _ hk => hk.elim) ?aF ?aO ?aB ?aS ?aL ?_; (case aP => exact k72_mkM _ _ _ (⟨(rd_T72 l0 x6_1).f0, (rd_T72 l0 x6_1).f1, (rd_T72 l0 x6_1).f2, (rd_T72 l0 x6_1).f3⟩ : S72)); (case aB => exact qB_); (case aF => exact (fun k_ hk => Kd.freshB (qk_ a0) k_ hk)); (case aO => exact (qR_ a1)); (case aS => exact (below_size qB_)); (case aL => have := LMc9.out; omega); intro k6 w11 ho hb hg hat; rw [← Ny348.out] at ho; have e2 := am_ (ho); replace a0 := am_ (blk_grown (qk_ a0) hg (Kd.R_away a1.out (fun _ hk => hk))); replace HB := am_ (hb); clear a1; clear ho hb hg hat)))
     go_roundg k1
     case measure => have := HK1.out; omega
     case rel => exact ⟨(k5), (wrap64 (x6_1 + 1)), qe_, H', ⟨by have := HK1.out; omega⟩, ⟨ra_ e2⟩, ⟨qk_ a0⟩, ⟨qB_⟩⟩
    refine jb_ H ?_ ?_ <;> clear H <;> intro c12 H
    ·have c12b0 : (((rd_T72 l0 x6_1).f0) == a1_0) = false := beq_eq_false_iff_ne.mpr c12
     have c12b1 : (((rd_T72 l0 x6_1).f0) != a1_0) = true := bne_iff_ne.mpr c12
     have H' := am_ H; clear H
     have p346 := dp_ x6_1
     have q346 := dl_ x6_1 l0.length
     obtain ⟨ad346, e346, a2, a3, a4, a5⟩ := at_T72 d3.out x6_1 p346 q346
     cases e346
     replace a2 := qx_ HB a2
     replace a3 := qx_ HB a3
     replace a4 := qx_ HB a4
     replace a5 := qx_ HB a5
     replace p346 := eq_true p346; replace q346 := eq_true q346
     obtain ⟨g8, g9, h0, h1, h2, h3, h4, h5⟩ := bc4_ a0
     have p351 := dp_ x6_1
     have q351 := dl_ x6_1 l0.length
     obtain ⟨ad351, e351, b1, b2, b3, b4⟩ := at_T72 d3.out x6_1 p351 q351
     obtain rfl : ad346 = ad351 := (by injection e351)
     replace b1 := qx_ HB b1
     replace b2 := qx_ HB b2
     replace b3 := qx_ HB b3
     replace b4 := qx_ HB b4
     replace p351 := eq_true p351; replace q351 := eq_true q351
     go_wp2
     repeat (go_quiet (fail); try go_wp2)
     go_roundg k1
     case measure => have := HK1.out; omega
     case rel => exact ⟨(x5_1), (wrap64 (x6_1 + 1)), qe_, H', ⟨by have := HK1.out; omega⟩, ⟨ra_ a1⟩, ⟨qk_ a0⟩, ⟨qB_⟩⟩
    have c12b0 : (((rd_T72 l0 x6_1).f0) == a1_0) = true := beq_iff_eq.mpr c12
    have c12b1 : (((rd_T72 l0 x6_1).f0) != a1_0) = false := bne_eq_false_iff_eq.mpr c12
    clear c12
    refine ib_ H ?_ ?_ <;> clear H <;> intro c13b0 H
    ·have H' := am_ H; clear H
     have p346 := dp_ x6_1
     have q346 := dl_ x6_1 l0.length
     obtain ⟨ad346, e346, a2, a3, a4, a5⟩ := at_T72 d3.out x6_1 p346 q346
     cases e346
     replace a2 := qx_ HB a2
     replace a3 := qx_ HB a3
     replace a4 := qx_ HB a4
     replace a5 := qx_ HB a5
     replace p346 := eq_true p346; replace q346 := eq_true q346
     obtain ⟨h6, h7, h8, h9, i0, i1, i2, i3⟩ := bc4_ a0
     have p351 := dp_ x6_1
     have q351 := dl_ x6_1 l0.length
     obtain ⟨ad351, e351, b1, b2, b3, b4⟩ := at_T72 d3.out x6_1 p351 q351
     obtain rfl : ad346 = ad351 := (by injection e351)
     replace b1 := qx_ HB b1
     replace b2 := qx_ HB b2
     replace b3 := qx_ HB b3
     replace b4 := qx_ HB b4
     replace p351 := eq_true p351; replace q351 := eq_true q351
     have p352 := dp_ x6_1
     have q352 := dl_ x6_1 l0.length
     obtain ⟨ad352, e352, b9, c2, c3, c4⟩ := at_T72 d3.out x6_1 p352 q352
     obtain rfl : ad346 = ad352 := (by injection e352)
     replace b9 := qx_ HB b9
     replace c2 := qx_ HB c2
     replace c3 := qx_ HB c3
     replace c4 := qx_ HB c4
     replace p352 := eq_true p352; replace q352 := eq_true q352
     go_wp2
     repeat (go_quiet (fail); try go_wp2)
     go_roundg k1
     case measure => have := HK1.out; omega
     case rel => exact ⟨(x5_1), (wrap64 (x6_1 + 1)), qe_, H', ⟨by have := HK1.out; omega⟩, ⟨ra_ a1⟩, ⟨qk_ a0⟩, ⟨qB_⟩⟩
    refine jg_ H ?_; clear H; intro c14 H
    have LMc14 := am_ c14
    clear c14
    obtain ⟨k7, hy354⟩ : ∃ y_ : List (S72), y_ = (x5_1 ++ [(⟨(rd_T72 l0 x6_1).f0, (rd_T72 l0 x6_1).f1, (rd_T72 l0 x6_1).f2, (rd_T72 l0 x6_1).f3⟩ : S72)]) := ⟨_, rfl⟩
    replace H : (spec_l08Put.l0 k1 l0 k7 (wrap64 (x6_1 + 1)) a1_0 a1_1 a1_2 a1_3) = some r := hq_ hy354 H
    have Ny354 := am_ hy354
    clear hy354; have H' := am_ H; clear H
    have p346 := dp_ x6_1
    have q346 := dl_ x6_1 l0.length
    obtain ⟨ad346, e346, a2, a3, a4, a5⟩ := at_T72 d3.out x6_1 p346 q346
    cases e346
    replace a2 := qx_ HB a2
    replace a3 := qx_ HB a3
    replace a4 := qx_ HB a4
    replace a5 := qx_ HB a5
    replace p346 := eq_true p346; replace q346 := eq_true q346
    obtain ⟨i4, i5, i6, i7, i8, i9, j0, j1⟩ := bc4_ a0
    have p351 := dp_ x6_1
    have q351 := dl_ x6_1 l0.length
    obtain ⟨ad351, e351, b1, b2, b3, b4⟩ := at_T72 d3.out x6_1 p351 q351
    obtain rfl : ad346 = ad351 := (by injection e351)
    replace b1 := qx_ HB b1
    replace b2 := qx_ HB b2
    replace b3 := qx_ HB b3
    replace b4 := qx_ HB b4
    replace p351 := eq_true p351; replace q351 := eq_true q351
    have p352 := dp_ x6_1
    have q352 := dl_ x6_1 l0.length
    obtain ⟨ad352, e352, b9, c2, c3, c4⟩ := at_T72 d3.out x6_1 p352 q352
    obtain rfl : ad346 = ad352 := (by injection e352)
    replace b9 := qx_ HB b9
    replace c2 := qx_ HB c2
    replace c3 := qx_ HB c3
    replace c4 := qx_ HB c4
    replace p352 := eq_true p352; replace q352 := eq_true q352
    have p353 := dp_ x6_1
    have q353 := dl_ x6_1 l0.length
    obtain ⟨ad353, e353, d8, d9, e0, e1⟩ := at_T72 d3.out x6_1 p353 q353
    obtain rfl : ad346 = ad353 := (by injection e353)
    replace d8 := qx_ HB d8
    replace d9 := qx_ HB d9
    replace e0 := qx_ HB e0
    replace e1 := qx_ HB e1
    replace p353 := eq_true p353; replace q353 := eq_true q353
    go_wp2_with (first | ((with_reducible refine gate_builtin (b := .append) (xs := #[.tmp 43, .tmp 48]) rfl ?_); at_builtin; refine Kd.R_append k72 (w0 := w) w.heap.size rfl (.tmp 43) (.tmp 48) 27 72 (.agg #[(.int .i64 0), (.int .i64 0), (.int .i64 0), (.bool false)]) 32 rfl Try.underlying27 info72 rfl (by decide) (by omega) u5 x5_1 (⟨(rd_T72 l0 x6_1).f0, (rd_T72 l0 x6_1).f1, (rd_T72 l0 x6_1).f2, (rd_T72 l0 x6_1).f3⟩ : S72) [.int .i64 ((rd_T72 l0 x6_1).f0), .int .i64 ((rd_T72 l0 x6_1).f1), .int .i64 ((rd_T72 l0 x6_1).f2), .bool ((rd_T72 l0 x6_1).f3)] (fun k_ => k_ ≠ a6) (fun _ => False) rfl rfl ?aP (fun _ hk => hk.elim) ?aF ?aO ?aB ?aS ?aL ?_; (case aP => exact k72_mkM _ _ _ (⟨(rd_T72 l0 x6_1).f0, (rd_T72 l0 x6_1).f1, (rd_T72 l0 x6_1).f2, (rd_T72 l0 x6_1).f3⟩ : S72)); (case aB => exact qB_); (case aF => exact (fun k_ hk => Kd.freshB (qk_ a0) k_ hk)); (case aO => exact (qR_ a1)); (case aS => exact (below_size qB_)); (case aL => have := LMc14.out; omega); intro k8 w16 ho hb hg hat; rw [← Ny354.out] at ho; have e3 := am_ (ho); replace a0 := am_ (blk_grown (qk_ a0) hg (Kd.R_away a1.out (fun _ hk => hk))); replace HB := am_ (hb); clear a1; clear ho hb hg hat))
    repeat (go_quiet (first | ((with_reducible refine gate_builtin (b := .append) (xs := #[.tmp 43, .tmp 48]) rfl ?_); at_builtin; refine Kd.R_append k72 (w0 := w) w.heap.size rfl (.tmp 43) (.tmp 48) 27 72 (.agg #[(.int .i64 0), (.int .i64 0), (.int .i64 0), (.bool false)]) 32 rfl Try.underlying27 info72 rfl (by decide) (by omega) u5 x5_1 (⟨(rd_T72 l0 x6_1).f0, (rd_T72 l0 x6_1).f1, (rd_T72 l0 x6_1).f2, (rd_T72 l0 x6_1).f3⟩ : S72) [.int .i64 ((rd_T72 l0 x6_1).f0), .int .i64 ((rd_T72 l0 x6_1).f1), .int .i64 ((rd_T72 l0 x6_1).f2), .bool ((rd_T72 l0 x6_1).f3)] (fun k_ => k_ ≠ a6) (fun _ => False) rfl rfl ?aP (fun _ hk => hk.elim) ?aF ?aO ?aB ?aS ?aL ?_; (case aP => exact k72_mkM _ _ _ (⟨(rd_T72 l0 x6_1).f0, (rd_T72 l0 x6_1).f1, (rd_T72 l0 x6_1).f2, (rd_T72 l0 x6_1).f3⟩ : S72)); (case aB => exact qB_); (case aF => exact (fun k_ hk => Kd.freshB (qk_ a0) k_ hk)); (case aO => exact (qR_ a1)); (case aS => exact (below_size qB_)); (case aL => have := LMc14.out; omega); intro k8 w16 ho hb hg hat; rw [← Ny354.out] at ho; have e3 := am_ (ho); replace a0 := am_ (blk_grown (qk_ a0) hg (Kd.R_away a1.out (fun _ hk => hk))); replace HB := am_ (hb); clear a1; clear ho hb hg hat)); try go_wp2_with (first | ((with_reducible refine gate_builtin (b := .append) (xs := #[.tmp 43, .tmp 48]) rfl ?_); at_builtin; refine Kd.R_append k72 (w0 := w) w.heap.size rfl (.tmp 43) (.tmp 48) 27 72 (.agg #[(.int .i64 0), (.int .i64 0), (.int .i64 0), (.bool false)]) 32 rfl Try.underlying27 info72 rfl (by decide) (by omega) u5 x5_1 (⟨(rd_T72 l0 x6_1).f0, (rd_T72 l0 x6_1).f1, (rd_T72 l0 x6_1).f2, (rd_T72 l0 x6_1).f3⟩ : S72) [.int .i64 ((rd_T72 l0 x6_1).f0), .int .i64 ((rd_T72 l0 x6_1).f1), .int .i64 ((rd_T72 l0 x6_1).f2), .bool ((rd_T72 l0 x6_1).f3)] (fun k_ => k_ ≠ a6) (fun _ => False) rfl rfl ?aP (fun _ hk => hk.elim) ?aF ?aO ?aB ?aS ?aL ?_; (case aP => exact k72_mkM _ _ _ (⟨(rd_T72 l0 x6_1).f0, (rd_T72 l0 x6_1).f1, (rd_T72 l0 x6_1).f2, (rd_T72 l0 x6_1).f3⟩ : S72)); (case aB => exact qB_); (case aF => exact (fun k_ hk => Kd.freshB (qk_ a0) k_ hk)); (case aO => exact (qR_ a1)); (case aS => exact (below_size qB_)); (case aL => have := LMc14.out; omega); intro k8 w16 ho hb hg hat; rw [← Ny354.out] at ho; have e3 := am_ (ho); replace a0 := am_ (blk_grown (qk_ a0) hg (Kd.R_away a1.out (fun _ hk => hk))); replace HB := am_ (hb); clear a1; clear ho hb hg hat)))
    go_roundg k1
    case measure => have := HK1.out; omega
    case rel => exact ⟨(k7), (wrap64 (x6_1 + 1)), qe_, H', ⟨by have := HK1.out; omega⟩, ⟨ra_ e3⟩, ⟨qk_ a0⟩, ⟨qB_⟩⟩
   refine jg_ H ?_; clear H; intro c19 H
   have LMc19 := am_ c19
   clear c19
   obtain ⟨k9, hy357⟩ : ∃ y_ : List (S72), y_ = (x5_1 ++ [(⟨a1_0, a1_1, a1_2, a1_3⟩ : S72)]) := ⟨_, rfl⟩
   replace H : (spec_l08Put.l1 k1 l0 k9 0 a1_0 a1_1 a1_2 a1_3) = some r := hq_ hy357 H
   have Ny357 := am_ hy357
   clear hy357; have H' := am_ H; clear H
   obtain ⟨j2, j3, j4, j5, j6, j7, j8, j9⟩ := bc4_ a0
   go_wp2_with (first | ((with_reducible refine gate_builtin (b := .append) (xs := #[.tmp 50, .tmp 52]) rfl ?_); at_builtin; refine Kd.R_append k72 (w0 := w) w.heap.size rfl (.tmp 50) (.tmp 52) 27 72 (.agg #[(.int .i64 0), (.int .i64 0), (.int .i64 0), (.bool false)]) 32 rfl Try.underlying27 info72 rfl (by decide) (by omega) u5 x5_1 (⟨a1_0, a1_1, a1_2, a1_3⟩ : S72) [.int .i64 a1_0, .int .i64 a1_1, .int .i64 a1_2, .bool a1_3] (fun k_ => k_ ≠ a6) (fun _ => False) rfl rfl ?aP (fun _ hk => hk.elim) ?aF ?aO ?aB ?aS ?aL ?_; (case aP => exact k72_mkM _ _ _ (⟨a1_0, a1_1, a1_2, a1_3⟩ : S72)); (case aB => exact qB_); (case aF => exact (fun k_ hk => Kd.freshB (qk_ a0) k_ hk)); (case aO => exact (qR_ a1)); (case aS => exact (below_size qB_)); (case aL => have := LMc19.out; omega); intro l2 w21 ho hb hg hat; rw [← Ny357.out] at ho; have e4 := am_ (ho); replace a0 := am_ (blk_grown (qk_ a0) hg (Kd.R_away a1.out (fun _ hk => hk))); replace HB := am_ (hb); clear a1; clear ho hb hg hat))
   repeat (go_quiet (first | ((with_reducible refine gate_builtin (b := .append) (xs := #[.tmp 50, .tmp 52]) rfl ?_); at_builtin; refine Kd.R_append k72 (w0 := w) w.heap.size rfl (.tmp 50) (.tmp 52) 27 72 (.agg #[(.int .i64 0), (.int .i64 0), (.int .i64 0), (.bool false)]) 32 rfl Try.underlying27 info72 rfl (by decide) (by omega) u5 x5_1 (⟨a1_0, a1_1, a1_2, a1_3⟩ : S72) [.int .i64 a1_0, .int .i64 a1_1, .int .i64 a1_2, .bool a1_3] (fun k_ => k_ ≠ a6) (fun _ => False) rfl rfl ?aP (fun _ hk => hk.elim) ?aF ?aO ?aB ?aS ?aL ?_; (case aP => exact k72_mkM _ _ _ (⟨a1_0, a1_1, a1_2, a1_3⟩ : S72)); (case aB => exact qB_); (case aF => exact (fun k_ hk => Kd.freshB (qk_ a0) k_ hk)); (case aO => exact (qR_ a1)); (case aS => exact (below_size qB_)); (case aL => have := LMc19.out; omega); intro l2 w21 ho hb hg hat; rw [← Ny357.out] at ho; have e4 := am_ (ho); replace a0 := am_ (blk_grown (qk_ a0) hg (Kd.R_away a1.out (fun _ hk => hk))); replace HB := am_ (hb); clear a1; clear ho hb hg hat)); try go_wp2_with (first | ((with_reducible refine gate_builtin (b := .append) (xs := #[.tmp 50, .tmp 52]) rfl ?_); at_builtin; refine Kd.R_append k72 (w0 := w) w.heap.size rfl (.tmp 50) (.tmp 52) 27 72 (.agg #[(.int .i64 0), (.int .i64 0), (.int .i64 0), (.bool false)]) 32 rfl Try.underlying27 info72 rfl (by decide) (by omega) u5 x5_1 (⟨a1_0, a1_1, a1_2, a1_3⟩ : S72) [.int .i64 a1_0, .int .i64 a1_1, .int .i64 a1_2, .bool a1_3] (fun k_ => k_ ≠ a6) (fun _ => False) rfl rfl ?aP (fun _ hk => hk.elim) ?aF ?aO ?aB ?aS ?aL ?_; (case aP => exact k72_mkM _ _ _ (⟨a1_0, a1_1, a1_2, a1_3⟩ : S72)); (case aB => exact qB_); (case aF => exact (fun k_ hk => Kd.freshB (qk_ a0) k_ hk)); (case aO => exact (qR_ a1)); (case aS => exact (below_size qB_)); (case aL => have := LMc19.out; omega); intro l2 w21 ho hb hg hat; rw [← Ny357.out] at ho; have e4 := am_ (ho); replace a0 := am_ (blk_grown (qk_ a0) hg (Kd.R_away a1.out (fun _ hk => hk))); replace HB := am_ (hb); clear a1; clear ho hb hg hat)))
   go_loopg [5, 7] k1 (fun kq v5 v7 w' => ∃ (x5_2 : List (S72)) (x7_2 : Int), v7 = .int .i64 x7_2 ∧ Aside0 (spec_l08Put.l1 kq l0 x5_2 x7_2 a1_0 a1_1 a1_2 a1_3 = some r) ∧ Aside0 (kq ≤ k1) ∧ Aside0 (Kd.R k72 72 w' w.heap.size (fun k_ => k_ ≠ a6) v5 x5_2) ∧ Aside0 (w'.heap[a6]? = some (.cells #[.int .i64 a1_0, .int .i64 a1_1, .int .i64 a1_2, .bool a1_3] 72 (0, 0))) ∧ Aside0 (Below w.heap.size w w'))
   case atStart => exact ⟨(k9), (0), qe_, H', ⟨Nat.le_refl _⟩, ⟨ra_ e4⟩, ⟨qk_ a0⟩, ⟨qB_⟩⟩
   case round =>
    clear H'
    (try clear c1); (try clear p2); (try clear p3); (try clear q3); (try clear p1); (try clear c6); (try clear c6b0); (try clear p6); (try clear c7); (try clear c7b0); (try clear c8); (try clear c8b0); (try clear c9); (try clear c12); (try clear c12b0); (try clear c12b1); (try clear c13); (try clear c13b0); (try clear c14); (try clear c19); (try clear g0 g1 g2 g3); (try clear i4 i5 i6 i7); (try clear h6 h7 h8 h9); (try clear g8 g9 h0 h1); (try clear j2 j3 j4 j5); (try clear g4 g5 g6 g7); (try clear i8 i9 j0 j1); (try clear i0 i1 i2 i3); (try clear h2 h3 h4 h5); (try clear j6 j7 j8 j9); (try clear a2); (try clear a3); (try clear a4); (try clear a5); (try clear d4); (try clear d5); (try clear d6); (try clear d7); (try clear b1); (try clear b2); (try clear b3); (try clear b4); (try clear b9); (try clear c2); (try clear c3); (try clear c4); (try clear d8); (try clear d9); (try clear e0); (try clear e1); (try clear p2); (try clear p346); (try clear p347); (try clear p351); (try clear p352); (try clear p353); (try clear q346); (try clear q347); (try clear q351); (try clear q352); (try clear q353)
    obtain ⟨x5_2, x7_2, rfl, HA, HK2, a1, a0, HB⟩ := hrel
    cases gk with
    | zero => exact absurd HA.out (by simp [spec_l08Put.l1])
    | succ k2 =>
     have H := HA.out; clear HA
     simp only [spec_l08Put.l1] at H
     refine ib_ H ?_ ?_ <;> clear H <;> intro c22b0 H
     ·obtain rfl := oi_ H
      go_wp2
      repeat (go_quiet (fail); try go_wp2)
      go_ret
      exact ⟨_, qr_, by (with_reducible repeat (first | apply Kd.R_alloc | apply Kd.R_drewN | apply Kd.R_drew)); exact Kd.R_mono a1.out (fun _ hk => trivial), qB_⟩
     refine ig_ H ?_; clear H; intro c23b0 H
     refine jc_ H ?_ ?_ <;> clear H <;> intro c24 H
     ·have c24b0 : decide (a1_0 < ((rd_T72 l0 x7_2).f0)) = true := decide_eq_true c24
      clear c24
      refine jg_ H ?_; clear H; intro c25 H
      have LMc25 := am_ c25
      clear c25
      obtain ⟨l3, hy362⟩ : ∃ y_ : List (S72), y_ = (x5_2 ++ [(⟨(rd_T72 l0 x7_2).f0, (rd_T72 l0 x7_2).f1, (rd_T72 l0 x7_2).f2, (rd_T72 l0 x7_2).f3⟩ : S72)]) := ⟨_, rfl⟩
      replace H : (spec_l08Put.l1 k2 l0 l3 (wrap64 (x7_2 + 1)) a1_0 a1_1 a1_2 a1_3) = some r := hq_ hy362 H
      have Ny362 := am_ hy362
      clear hy362; have H' := am_ H; clear H
      have p360 := dp_ x7_2
      have q360 := dl_ x7_2 l0.length
      obtain ⟨ad360, e360, a7, a8, a9, b0⟩ := at_T72 d3.out x7_2 p360 q360
      cases e360
      replace a7 := qx_ HB a7
      replace a8 := qx_ HB a8
      replace a9 := qx_ HB a9
      replace b0 := qx_ HB b0
      replace p360 := eq_true p360; replace q360 := eq_true q360
      obtain ⟨l7, l8, l9, m0, m1, m2, m3, m4⟩ := bc4_ a0
      have p361 := dp_ x7_2
      have q361 := dl_ x7_2 l0.length
      obtain ⟨ad361, e361, e5, e6, e7, e8⟩ := at_T72 d3.out x7_2 p361 q361
      obtain rfl : ad360 = ad361 := (by injection e361)
      replace e5 := qx_ HB e5
      replace e6 := qx_ HB e6
      replace e7 := qx_ HB e7
      replace e8 := qx_ HB e8
      replace p361 := eq_true p361; replace q361 := eq_true q361
      go_wp2_with (first | ((with_reducible refine gate_builtin (b := .append) (xs := #[.tmp 88, .tmp 93]) rfl ?_); at_builtin; refine Kd.R_append k72 (w0 := w) w.heap.size rfl (.tmp 88) (.tmp 93) 27 72 (.agg #[(.int .i64 0), (.int .i64 0), (.int .i64 0), (.bool false)]) 32 rfl Try.underlying27 info72 rfl (by decide) (by omega) u5 x5_2 (⟨(rd_T72 l0 x7_2).f0, (rd_T72 l0 x7_2).f1, (rd_T72 l0 x7_2).f2, (rd_T72 l0 x7_2).f3⟩ : S72) [.int .i64 ((rd_T72 l0 x7_2).f0), .int .i64 ((rd_T72 l0 x7_2).f1), .int .i64 ((rd_T72 l0 x7_2).f2), .bool ((rd_T72 l0 x7_2).f3)] (fun k_ => k_ ≠ a6) (fun _ => False) rfl rfl ?aP (fun _ hk => hk.elim) ?aF ?aO ?aB ?aS ?aL ?_; (case aP => exact k72_mkM _ _ _ (⟨(rd_T72 l0 x7_2).f0, (rd_T72 l0 x7_2).f1, (rd_T72 l0 x7_2).f2, (rd_T72 l0 x7_2).f3⟩ : S72)); (case aB => exact qB_); (case aF => exact (fun k_ hk => Kd.freshB (qk_ a0) k_ hk)); (case aO => exact (qR_ a1)); (case aS => exact (below_size qB_)); (case aL => have := LMc25.out; omega); intro l4 w27 ho hb hg hat; rw [← Ny362.out] at ho; have e9 := am_ (ho); replace a0 := am_ (blk_grown (qk_ a0) hg (Kd.R_away a1.out (fun _ hk => hk))); replace HB := am_ (hb); clear a1; clear ho hb hg hat))
      repeat (go_quiet (first | ((with_reducible refine gate_builtin (b := .append) (xs := #[.tmp 88, .tmp 93]) rfl ?_); at_builtin; refine Kd.R_append k72 (w0 := w) w.heap.size rfl (.tmp 88) (.tmp 93) 27 72 (.agg #[(.int .i64 0), (.int .i64 0), (.int .i64 0), (.bool false)]) 32 rfl Try.underlying27 info72 rfl (by decide) (by omega) u5 x5_2 (⟨(rd_T72 l0 x7_2).f0, (rd_T72 l0 x7_2).f1, (rd_T72 l0 x7_2).f2, (rd_T72 l0 x7_2).f3⟩ : S72) [.int .i64 ((rd_T72 l0 x7_2).f0), .int .i64 ((rd_T72 l0 x7_2).f1), .int .i64 ((rd_T72 l0 x7_2).f2), .bool ((rd_T72 l0 x7_2).f3)] (fun k_ => k_ ≠ a6) (fun _ => False) rfl rfl ?aP (fun _ hk => hk.elim) ?aF ?aO ?aB ?aS ?aL ?_; (case aP => exact k72_mkM _ _ _ (⟨(rd_T72 l0 x7_2).f0, (rd_T72 l0 x7_2).f1, (rd_T72 l0 x7_2).f2, (rd_T72 l0 x7_2).f3⟩ : S72)); (case aB => exact qB_); (case aF => exact (fun k_ hk => Kd.freshB (qk_ a0) k_ hk)); (case aO => exact (qR_ a1)); (case aS => exact (below_size qB_)); (case aL => have := LMc25.out; omega); intro l4 w27 ho hb hg hat; rw [← Ny362.out] at ho; have e9 := am_ (ho); replace a0 := am_ (blk_grown (qk_ a0) hg (Kd.R_away a1.out (fun _ hk => hk))); replace HB := am_ (hb); clear a1; clear ho hb hg hat)); try go_wp2_with (first | ((with_reducible refine gate_builtin (b := .append) (xs := #[.tmp 88, .tmp 93]) rfl ?_); at_builtin; refine Kd.R_append k72 (w0 := w) w.heap.size rfl (.tmp 88) (.tmp 93) 27 72 (.agg #[(.int .i64 0), (.int .i64 0), (.int .i64 0), (.bool false)]) 32 rfl Try.underlying27 info72 rfl (by decide) (by omega) u5 x5_2 (⟨(rd_T72 l0 x7_2).f0, (rd_T72 l0 x7_2).f1, (rd_T72 l0 x7_2).f2, (rd_T72 l0 x7_2).f3⟩ : S72) [.int .i64 ((rd_T72 l0 x7_2).f0), .int .i64 ((rd_T72 l0 x7_2).f1), .int .i64 ((rd_T72 l0 x7_2).f2), .bool ((rd_T72 l0 x7_2).f3)] (fun k_ => k_ ≠ a6) (fun _ => False) rfl rfl ?aP (fun _ hk => hk.elim) ?aF ?aO ?aB ?aS ?aL ?_; (case aP => exact k72_mkM _ _ _ (⟨(rd_T72 l0 x7_2).f0, (rd_T72 l0 x7_2).f1, (rd_T72 l0 x7_2).f2, (rd_T72 l0 x7_2).f3⟩ : S72)); (case aB => exact qB_); (case aF => exact (fun k_ hk => Kd.freshB (qk_ a0) k_ hk)); (case aO => exact (qR_ a1)); (case aS => exact (below_size qB_)); (case aL => have := LMc25.out; omega); intro l4 w27 ho hb hg hat; rw [← Ny362.out] at ho; have e9 := am_ (ho); replace a0 := am_ (blk_grown (qk_ a0) hg (Kd.R_away a1.out (fun _ hk => hk))); replace HB := am_ (hb); clear a1; clear ho hb hg hat)))
      go_roundg k2
      case measure => have := HK1.out; have := HK2.out; omega
      case rel => exact ⟨(l3), (wrap64 (x7_2 + 1)), qe_, H', ⟨by have := HK1.out; have := HK2.out; omega⟩, ⟨ra_ e9⟩, ⟨qk_ a0⟩, ⟨qB_⟩⟩
     have c24b0 : decide (a1_0 < ((rd_T72 l0 x7_2).f0)) = false := decide_eq_false c24
     clear c24
     refine jb_ H ?_ ?_ <;> clear H <;> intro c28 H
     ·have c28b0 : (((rd_T72 l0 x7_2).f0) == a1_0) = false := beq_eq_false_iff_ne.mpr c28
      have c28b1 : (((rd_T72 l0 x7_2).f0) != a1_0) = true := bne_iff_ne.mpr c28
      have H' := am_ H; clear H
      have p360 := dp_ x7_2
      have q360 := dl_ x7_2 l0.length
      obtain ⟨ad360, e360, a7, a8, a9, b0⟩ := at_T72 d3.out x7_2 p360 q360
      cases e360
      replace a7 := qx_ HB a7
      replace a8 := qx_ HB a8
      replace a9 := qx_ HB a9
      replace b0 := qx_ HB b0
      replace p360 := eq_true p360; replace q360 := eq_true q360
      obtain ⟨m5, m6, m7, m8, m9, n0, n1, n2⟩ := bc4_ a0
      have p365 := dp_ x7_2
      have q365 := dl_ x7_2 l0.length
      obtain ⟨ad365, e365, b5, b6, b7, b8⟩ := at_T72 d3.out x7_2 p365 q365
      obtain rfl : ad360 = ad365 := (by injection e365)
      replace b5 := qx_ HB b5
      replace b6 := qx_ HB b6
      replace b7 := qx_ HB b7
      replace b8 := qx_ HB b8
      replace p365 := eq_true p365; replace q365 := eq_true q365
      go_wp2
      repeat (go_quiet (fail); try go_wp2)
      go_roundg k2
      case measure => have := HK1.out; have := HK2.out; omega
      case rel => exact ⟨(x5_2), (wrap64 (x7_2 + 1)), qe_, H', ⟨by have := HK1.out; have := HK2.out; omega⟩, ⟨ra_ a1⟩, ⟨qk_ a0⟩, ⟨qB_⟩⟩
     have c28b0 : (((rd_T72 l0 x7_2).f0) == a1_0) = true := beq_iff_eq.mpr c28
     have c28b1 : (((rd_T72 l0 x7_2).f0) != a1_0) = false := bne_eq_false_iff_eq.mpr c28
     clear c28
     refine jb_ H ?_ ?_ <;> clear H <;> intro c29 H
     ·have c29b0 : decide (a1_1 < ((rd_T72 l0 x7_2).f1)) = false := decide_eq_false c29
      clear c29; have H' := am_ H; clear H
      have p360 := dp_ x7_2
      have q360 := dl_ x7_2 l0.length
      obtain ⟨ad360, e360, a7, a8, a9, b0⟩ := at_T72 d3.out x7_2 p360 q360
      cases e360
      replace a7 := qx_ HB a7
      replace a8 := qx_ HB a8
      replace a9 := qx_ HB a9
      replace b0 := qx_ HB b0
      replace p360 := eq_true p360; replace q360 := eq_true q360
      obtain ⟨n3, n4, n5, n6, n7, n8, n9, o0⟩ := bc4_ a0
      have p365 := dp_ x7_2
      have q365 := dl_ x7_2 l0.length
      obtain ⟨ad365, e365, b5, b6, b7, b8⟩ := at_T72 d3.out x7_2 p365 q365
      obtain rfl : ad360 = ad365 := (by injection e365)
      replace b5 := qx_ HB b5
      replace b6 := qx_ HB b6
      replace b7 := qx_ HB b7
      replace b8 := qx_ HB b8
      replace p365 := eq_true p365; replace q365 := eq_true q365
      have p366 := dp_ x7_2
      have q366 := dl_ x7_2 l0.length
      obtain ⟨ad366, e366, c5, d0, d1, d2⟩ := at_T72 d3.out x7_2 p366 q366
      obtain rfl : ad360 = ad366 := (by injection e366)
      replace c5 := qx_ HB c5
      replace d0 := qx_ HB d0
      replace d1 := qx_ HB d1
      replace d2 := qx_ HB d2
      replace p366 := eq_true p366; replace q366 := eq_true q366
      go_wp2
      repeat (go_quiet (fail); try go_wp2)
      go_roundg k2
      case measure => have := HK1.out; have := HK2.out; omega
      case rel => exact ⟨(x5_2), (wrap64 (x7_2 + 1)), qe_, H', ⟨by have := HK1.out; have := HK2.out; omega⟩, ⟨ra_ a1⟩, ⟨qk_ a0⟩, ⟨qB_⟩⟩
     have c29b0 : decide (a1_1 < ((rd_T72 l0 x7_2).f1)) = true := decide_eq_true c29
     clear c29
     refine jg_ H ?_; clear H; intro c30 H
     have LMc30 := am_ c30
     clear c30
     obtain ⟨l5, hy368⟩ : ∃ y_ : List (S72), y_ = (x5_2 ++ [(⟨(rd_T72 l0 x7_2).f0, (rd_T72 l0 x7_2).f1, (rd_T72 l0 x7_2).f2, (rd_T72 l0 x7_2).f3⟩ : S72)]) := ⟨_, rfl⟩
     replace H : (spec_l08Put.l1 k2 l0 l5 (wrap64 (x7_2 + 1)) a1_0 a1_1 a1_2 a1_3) = some r := hq_ hy368 H
     have Ny368 := am_ hy368
     clear hy368; have H' := am_ H; clear H
     have p360 := dp_ x7_2
     have q360 := dl_ x7_2 l0.length
     obtain ⟨ad360, e360, a7, a8, a9, b0⟩ := at_T72 d3.out x7_2 p360 q360
     cases e360
     replace a7 := qx_ HB a7
     replace a8 := qx_ HB a8
     replace a9 := qx_ HB a9
     replace b0 := qx_ HB b0
     replace p360 := eq_true p360; replace q360 := eq_true q360
     obtain ⟨o1, o2, o3, o4, o5, o6, o7, o8⟩ := bc4_ a0
     have p365 := dp_ x7_2
     have q365 := dl_ x7_2 l0.length
     obtain ⟨ad365, e365, b5, b6, b7, b8⟩ := at_T72 d3.out x7_2 p365 q365
     obtain rfl : ad360 = ad365 := (by injection e365)
     replace b5 := qx_ HB b5
     replace b6 := qx_ HB b6
     replace b7 := qx_ HB b7
     replace b8 := qx_ HB b8
     replace p365 := eq_true p365; replace q365 := eq_true q365
     have p366 := dp_ x7_2
     have q366 := dl_ x7_2 l0.length
     obtain ⟨ad366, e366, c5, d0, d1, d2⟩ := at_T72 d3.out x7_2 p366 q366
     obtain rfl : ad360 = ad366 := (by injection e366)
     replace c5 := qx_ HB c5
     replace d0 := qx_ HB d0
     replace d1 := qx_ HB d1
     replace d2 := qx_ HB d2
     replace p366 := eq_true p366; replace q366 := eq_true q366
     have p367 := dp_ x7_2
     have q367 := dl_ x7_2 l0.length
     obtain ⟨ad367, e367, f4, f5, f6, f7⟩ := at_T72 d3.out x7_2 p367 q367
     obtain rfl : ad360 = ad367 := (by injection e367)
     replace f4 := qx_ HB f4
     replace f5 := qx_ HB f5
     replace f6 := qx_ HB f6
     replace f7 := qx_ HB f7
     replace p367 := eq_true p367; replace q367 := eq_true q367
     go_wp2_with (first | ((with_reducible refine gate_builtin (b := .append) (xs := #[.tmp 88, .tmp 93]) rfl ?_); at_builtin; refine Kd.R_append k72 (w0 := w) w.heap.size rfl (.tmp 88) (.tmp 93) 27 72 (.agg #[(.int .i64 0), (.int .i64 0), (.int .i64 0), (.bool false)]) 32 rfl Try.underlying27 info72 rfl (by decide) (by omega) u5 x5_2 (⟨(rd_T72 l0 x7_2).f0, (rd_T72 l0 x7_2).f1, (rd_T72 l0 x7_2).f2, (rd_T72 l0 x7_2).f3⟩ : S72) [.int .i64 ((rd_T72 l0 x7_2).f0), .int .i64 ((rd_T72 l0 x7_2).f1), .int .i64 ((rd_T72 l0 x7_2).f2), .bool ((rd_T72 l0 x7_2).f3)] (fun k_ => k_ ≠ a6) (fun _ => False) rfl rfl ?aP (fun _ hk => hk.elim) ?aF ?aO ?aB ?aS ?aL ?_; (case aP => exact k72_mkM _ _ _ (⟨(rd_T72 l0 x7_2).f0, (rd_T72 l0 x7_2).f1, (rd_T72 l0 x7_2).f2, (rd_T72 l0 x7_2).f3⟩ : S72)); (case aB => exact qB_); (case aF => exact (fun k_ hk => Kd.freshB (qk_ a0) k_ hk)); (case aO => exact (qR_ a1)); (case aS => exact (below_size qB_)); (case aL => have := LMc30.out; omega); intro l6 w32 ho hb hg hat; rw [← Ny368.out] at ho; have f8 := am_ (ho); replace a0 := am_ (blk_grown (qk_ a0) hg (Kd.R_away a1.out (fun _ hk => hk))); replace HB := am_ (hb); clear a1; clear ho hb hg hat))
     repeat (go_quiet (first | ((with_reducible refine gate_builtin (b := .append) (xs := #[.tmp 88, .tmp 93]) rfl ?_); at_builtin; refine Kd.R_append k72 (w0 := w) w.heap.size rfl (.tmp 88) (.tmp 93) 27 72 (.agg #[(.int .i64 0), (.int .i64 0), (.int .i64 0), (.bool false)]) 32 rfl Try.underlying27 info72 rfl (by decide) (by omega) u5 x5_2 (⟨(rd_T72 l0 x7_2).f0, (rd_T72 l0 x7_2).f1, (rd_T72 l0 x7_2).f2, (rd_T72 l0 x7_2).f3⟩ : S72) [.int .i64 ((rd_T72 l0 x7_2).f0), .int .i64 ((rd_T72 l0 x7_2).f1), .int .i64 ((rd_T72 l0 x7_2).f2), .bool ((rd_T72 l0 x7_2).f3)] (fun k_ => k_ ≠ a6) (fun _ => False) rfl rfl ?aP (fun _ hk => hk.elim) ?aF ?aO ?aB ?aS ?aL ?_; (case aP => exact k72_mkM _ _ _ (⟨(rd_T72 l0 x7_2).f0, (rd_T72 l0 x7_2).f1, (rd_T72 l0 x7_2).f2, (rd_T72 l0 x7_2).f3⟩ : S72)); (case aB => exact qB_); (case aF => exact (fun k_ hk => Kd.freshB (qk_ a0) k_ hk)); (case aO => exact (qR_ a1)); (case aS => exact (below_size qB_)); (case aL => have := LMc30.out; omega); intro l6 w32 ho hb hg hat; rw [← Ny368.out] at ho; have f8 := am_ (ho); replace a0 := am_ (blk_grown (qk_ a0) hg (Kd.R_away a1.out (fun _ hk => hk))); replace HB := am_ (hb); clear a1; clear ho hb hg hat)); try go_wp2_with (first | ((with_reducible refine gate_builtin (b := .append) (xs := #[.tmp 88, .tmp 93]) rfl ?_); at_builtin; refine Kd.R_append k72 (w0 := w) w.heap.size rfl (.tmp 88) (.tmp 93) 27 72 (.agg #[(.int .i64 0), (.int .i64 0), (.int .i64 0), (.bool false)]) 32 rfl Try.underlying27 info72 rfl (by decide) (by omega) u5 x5_2 (⟨(rd_T72 l0 x7_2).f0, (rd_T72 l0 x7_2).f1, (rd_T72 l0 x7_2).f2, (rd_T72 l0 x7_2).f3⟩ : S72) [.int .i64 ((rd_T72 l0 x7_2).f0), .int .i64 ((rd_T72 l0 x7_2).f1), .int .i64 ((rd_T72 l0 x7_2).f2), .bool ((rd_T72 l0 x7_2).f3)] (fun k_ => k_ ≠ a6) (fun _ => False) rfl rfl ?aP (fun _ hk => hk.elim) ?aF ?aO ?aB ?aS ?aL ?_; (case aP => exact k72_mkM _ _ _ (⟨(rd_T72 l0 x7_2).f0, (rd_T72 l0 x7_2).f1, (rd_T72 l0 x7_2).f2, (rd_T72 l0 x7_2).f3⟩ : S72)); (case aB => exact qB_); (case aF => exact (fun k_ hk => Kd.freshB (qk_ a0) k_ hk)); (case aO => exact (qR_ a1)); (case aS => exact (below_size qB_)); (case aL => have := LMc30.out; omega); intro l6 w32 ho hb hg hat; rw [← Ny368.out] at ho; have f8 := am_ (ho); replace a0 := am_ (blk_grown (qk_ a0) hg (Kd.R_away a1.out (fun _ hk => hk))); replace HB := am_ (hb); clear a1; clear ho hb hg hat)))
     go_roundg k2
     case measure => have := HK1.out; have := HK2.out; omega
     case rel => exact ⟨(l5), (wrap64 (x7_2 + 1)), qe_, H', ⟨by have := HK1.out; have := HK2.out; omega⟩, ⟨ra_ f8⟩, ⟨qk_ a0⟩, ⟨qB_⟩⟩
end Go.Proofs.Ytbkklafkoegdpaa.QFnExactWebAdd
