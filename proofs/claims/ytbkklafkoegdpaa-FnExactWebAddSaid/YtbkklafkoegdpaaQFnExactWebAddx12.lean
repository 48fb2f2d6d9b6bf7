import Derived.Test.YtbkklafkoegdpaaQFnExactWebAddx5
namespace Go.Proofs.Ytbkklafkoegdpaa.QFnExactWebAdd
open Go.RowKit Go.Proofs.YtbkklafkoegdpaaW.PrintWords Go.Proofs.YtbkklafkoegdpaaW.PrintLast Go.Proofs.YtbkklafkoegdpaaW.PrintMore
set_option maxHeartbeats 8000000
set_option maxRecDepth 100000
set_option linter.unusedVariables false
set_option linter.unusedSimpArgs false
def spec_HasEdge.f (k : Nat) (a0_0 : Int) (l0_1 : List (S43)) (a1_0 : Int) (a1_1 : Int) : Option (Bool) := (spec_l05Has.f k l0_1 a1_0 a1_1).bind fun t313 => (some t313)
theorem spec_HasEdge.mono : ∀ a0 a1 a2 a3 k, LeO (spec_HasEdge.f k a0 a1 a2 a3) (spec_HasEdge.f (k + 1) a0 a1 a2 a3) := by
  intro a0 a1 a2 a3 k
  have m0 := @spec_l05Has.mono
  unfold spec_HasEdge.f
  exact lo_
theorem spec_HasEdge.calls (k : Nat) (a0_0 : Int) (A0_1 : Option Addr) (c0_1 : Nat) (l0_1 : List (S43)) (a1_0 : Int) (a1_1 : Int) (r : Bool) (w : World) (hr0_1 : Kd.C k43 w A0_1 l0_1.length l0_1) (hc0_1 : l0_1.length ≤ c0_1) (h : spec_HasEdge.f k a0_0 l0_1 a1_0 a1_1 = some r) :
  Calls Try.prog 46 #[.agg #[.int .i64 a0_0, .slice A0_1 l0_1.length c0_1], .agg #[.int .i64 a1_0, .int .i64 a1_1]] w fun e w' => e = .returned (.bool r) ∧ Below w.heap.size w w' := by
 have hu69 := Try.underlying69; have hu43 := Try.underlying43
 have HR0_1 := am_ hr0_1
 have HC0_1 := am_ hc0_1
 clear hr0_1 hc0_1
 have HB := am_ (Below.refl w.heap.size w)
 rw [spec_HasEdge.f] at h; have H := h; clear h
 obtain ⟨a3, A3, H⟩ := bs_ H
 obtain rfl := oi_ H
 go_enter Try.func46, Try.ntmps46
 go_wp2_with (first | ((with_reducible refine gd_ 2 ?_); refine by_ 2 (cs := #[.int .i64 a0_0, .slice A0_1 l0_1.length c0_1]) (t := 69) ?_; intro b5 hg w4 a0 hb; have a5 := gw_ hg; replace HB := hs_ hb; clear hb hg) | ((with_reducible refine gd_ 3 ?_); refine by_ 3 (cs := #[.int .i64 a1_0, .int .i64 a1_1]) (t := 43) ?_; intro b7 hg w5 a2 hb; have a6 := gw_ hg; obtain ⟨a1, a4⟩ := qn_ a0 hg; replace a0 := qbl_ a0 hb; replace HB := hs_ hb; clear hb hg; obtain ⟨b9, c0⟩ := nn_ a1; obtain ⟨a7, a8, a9, b0⟩ := bc2_ a0; obtain ⟨b1, b2, b3, b4⟩ := bc2_ a2) | ((with_reducible refine gc_ 101 ?_); refine gl_ (some 8) Try.func101 #[.slice A0_1 l0_1.length c0_1, .agg #[.int .i64 a1_0, .int .i64 a1_1]] ?_; (with_reducible refine (spec_l05Has.calls k _ _ l0_1 a1_0 a1_1 a3 _ ?_ ?_ A3.out).mono ?_); exact qC_ HR0_1 HB; exact HC0_1.out; rintro e w9 ⟨rfl, hb⟩; refine ⟨_, rfl, ?_⟩; replace a0 := qbl_ a0 hb; replace a2 := qbl_ a2 hb; replace HB := hs_ hb; (try clear hb); (try clear hb2); (try clear hk); (try clear hi)))
 go_ret
 exact ⟨qr_, qB_⟩
mutual
def spec_l05Put.l0 : Nat → List (S43) → List (S43) → Int → Int → Int → Option ((List (S43)))
  | 0, _, _, _, _, _ => none
  | k + 1, x0, x5, x6, x315000, x315001 => if x6 < (x0.length : Int) then (if 0 ≤ x6 then ((spec_l05Less.f ((rd_T43 x0 x6).f0) ((rd_T43 x0 x6).f1) x315000 x315001).bind fun t319 => (if t319 = true then (if x5.length < 8796093022208 then (spec_l05Put.l0 k x0 (x5 ++ [(⟨(rd_T43 x0 x6).f0, (rd_T43 x0 x6).f1⟩ : S43)]) (wrap64 (x6 + 1)) x315000 x315001) else (none)) else (spec_l05Put.l0 k x0 x5 (wrap64 (x6 + 1)) x315000 x315001))) else (none)) else (if x5.length < 8796093022208 then (spec_l05Put.l1 k x0 (x5 ++ [(⟨x315000, x315001⟩ : S43)]) 0 x315000 x315001) else (none))
def spec_l05Put.l1 : Nat → List (S43) → List (S43) → Int → Int → Int → Option ((List (S43)))
  | 0, _, _, _, _, _ => none
  | k + 1, x0, x5, x7, x315000, x315001 => if x7 < (x0.length : Int) then (if 0 ≤ x7 then ((spec_l05Less.f x315000 x315001 ((rd_T43 x0 x7).f0) ((rd_T43 x0 x7).f1)).bind fun t328 => (if t328 = true then (if x5.length < 8796093022208 then (spec_l05Put.l1 k x0 (x5 ++ [(⟨(rd_T43 x0 x7).f0, (rd_T43 x0 x7).f1⟩ : S43)]) (wrap64 (x7 + 1)) x315000 x315001) else (none)) else (spec_l05Put.l1 k x0 x5 (wrap64 (x7 + 1)) x315000 x315001))) else (none)) else (some x5)
end
def spec_l05Put.f (k : Nat) (l0 : List (S43)) (a1_0 : Int) (a1_1 : Int) : Option ((List (S43))) := spec_l05Put.l0 k l0 (([] : List (S43))) 0 a1_0 a1_1
theorem spec_l05Put.mono_l : ∀ k, (∀ y0 y1 y2 y3 y4, LeO (spec_l05Put.l0 k y0 y1 y2 y3 y4) (spec_l05Put.l0 (k + 1) y0 y1 y2 y3 y4)) ∧ (∀ y0 y1 y2 y3 y4, LeO (spec_l05Put.l1 k y0 y1 y2 y3 y4) (spec_l05Put.l1 (k + 1) y0 y1 y2 y3 y4))
  | 0 => ⟨fun _ _ _ _ _ r h => by simp [spec_l05Put.l0] at h, fun _ _ _ _ _ r h => by simp [spec_l05Put.l1] at h⟩
  | k + 1 => by
    obtain ⟨ih0, ih1⟩ := spec_l05Put.mono_l k
    refine ⟨?_, ?_⟩ <;> (intros; first | unfold spec_l05Put.l0 | unfold spec_l05Put.l1) <;> exact lo_
theorem spec_l05Put.mono : ∀ a0 a1 a2 k, LeO (spec_l05Put.f k a0 a1 a2) (spec_l05Put.f (k + 1) a0 a1 a2) := by
  intro a0 a1 a2 k
  obtain ⟨ih0, ih1⟩ := spec_l05Put.mono_l k
  unfold spec_l05Put.f
  exact lo_
theorem spec_l05Put.calls (k : Nat) (A0 : Option Addr) (c0 : Nat) (l0 : List (S43)) (a1_0 : Int) (a1_1 : Int) (r : List (S43)) (w : World) (hr0 : Kd.C k43 w A0 l0.length l0) (hc0 : l0.length ≤ c0) (h : spec_l05Put.f k l0 a1_0 a1_1 = some r) :
  Calls Try.prog 127 #[.slice A0 l0.length c0, .agg #[.int .i64 a1_0, .int .i64 a1_1]] w fun e w' => ∃ v0_ : Value, e = .returned (v0_) ∧ Kd.R k43 43 w' w.heap.size (fun _ => True) v0_ r ∧ Below w.heap.size w w' := by
 have hu43 := Try.underlying43
 have c4 := am_ hr0
 have e2 := am_ hc0
 clear hr0 hc0
 have HB := am_ (Below.refl w.heap.size w)
 rw [spec_l05Put.f] at h; have H := h; clear h
 obtain ⟨c5, hy315⟩ : ∃ y_ : List (S43), y_ = (([] : List (S43))) := ⟨_, rfl⟩
 replace H : (spec_l05Put.l0 k l0 c5 0 a1_0 a1_1) = some r := hq_ hy315 H
 have Ny315 := am_ hy315
 clear hy315; have H' := am_ H; clear H
 go_enter Try.func127, Try.ntmps127
 go_wp2_with (first | ((with_reducible refine gd_ 3 ?_); refine by_ 3 (cs := #[.int .i64 a1_0, .int .i64 a1_1]) (t := 43) ?_; intro a6 hg w3 a0 hb; have c8 := gw_ hg; replace HB := hs_ hb; clear hb hg) | ((with_reducible refine gd_ 8 ?_); refine Kd.R_lit k43 _ 43 ?hg (N := 8) ?hd (xs := ([] : List (S43))) (inner := []) (ok := fun _ => True) (okp := fun _ => True) ?hr ?hp (fun _ hk => hk) trivial (Below.refl _ _) (Nat.le_refl _) (by simp) ?_; (case hd => rfl); (case hg => rfl); (case hr => first | (go_simp; done) | (go_simp; rfl)); (case hp => exact (Reps.none _ _)); intro d8 w4 ho5 hb hg_ hnew_; clear hg_ hnew_; (first | rw [← Ny315.out] at ho5 | (simp only [Int.reduceToNat] at ho5; rw [← Ny315.out] at ho5)); have d0 := am_ (Kd.R_lower (Kd.R_newB ho5 (qk_ a0)) (below_size qB_)); replace a0 := qbl_ a0 hb; replace HB := hs_ hb; clear hb ho5))
 go_loopg [5, 6] k (fun kq v5 v6 w' => ∃ (x5_1 : List (S43)) (x6_1 : Int), v6 = .int .i64 x6_1 ∧ Aside0 (spec_l05Put.l0 kq l0 x5_1 x6_1 a1_0 a1_1 = some r) ∧ Aside0 (kq ≤ k) ∧ Aside0 (Kd.R k43 43 w' w.heap.size (fun k_ => k_ ≠ a6) v5 x5_1) ∧ Aside0 (w'.heap[a6]? = some (.cells #[.int .i64 a1_0, .int .i64 a1_1] 43 (0, 0))) ∧ Aside0 (Below w.heap.size w w'))
 case atStart => exact ⟨(c5), (0), qe_, H', ⟨Nat.le_refl _⟩, ⟨by (with_reducible repeat (first | apply Kd.R_alloc | apply Kd.R_drewN | apply Kd.R_drew)); exact Kd.R_mono d0.out (fun _ hk => hk.2)⟩, ⟨qk_ a0⟩, ⟨qB_⟩⟩
 case round =>
  clear H'
  (try clear c1); (try clear p2)
  obtain ⟨x5_1, x6_1, rfl, HA, HK1, a1, a0, HB⟩ := hrel
  cases gk with
  | zero => exact absurd HA.out (by simp [spec_l05Put.l0])
  | succ k1 =>
   have H := HA.out; clear HA
   simp only [spec_l05Put.l0] at H
   refine ic_ H ?_ ?_ <;> clear H <;> intro c6b0 H
   ·refine ig_ H ?_; clear H; intro c7b0 H
    obtain ⟨d5, A8, H⟩ := bs_ H
    refine id_ H ?_ ?_ <;> clear H <;> rintro rfl H
    ·have H' := am_ H; clear H
     try go_wp2
     replace a1 := am_ (Kd.R_drew a1.out); replace a0 := am_ (blk_drew a0.out); replace HB := am_ (below_drew1 HB.out)
     have p318 := dp_ x6_1
     have q318 := dl_ x6_1 l0.length
     obtain ⟨ad318, e318, a2, a3⟩ := at_T43 c4.out x6_1 p318 q318
     have a7 := a3; have a8 := a2; cases e318
     replace a2 := qx_ HB a2
     replace a3 := qx_ HB a3
     replace p318 := eq_true p318; replace q318 := eq_true q318
     refine start_ (n := 6) (S := fun w' => w'.cell? ⟨a6, 0, none⟩ = some (.int .i64 a1_0) ∧ w'.cell? ⟨a6, 1, none⟩ = some (.int .i64 a1_1) ∧ w'.cell? (ad318.add ((x6_1).toNat * 2)) = some (.int .i64 ((rd_T43 l0 x6_1).f0)) ∧ w'.cell? ⟨(ad318.add ((x6_1).toNat * 2)).block, (ad318.add ((x6_1).toNat * 2)).off + 1, none⟩ = some (.int .i64 ((rd_T43 l0 x6_1).f1))) (ds := []) (bm 6 0) (by kernel_rfl) rfl (by kernel_rfl) ⟨bl_ a0 0, bl_ a0 1, ((qx_ HB a8).trans rfl), ((qx_ HB a7).trans rfl)⟩ (fun hHeld => ?_)
     generalize wr.drew = w14 at a1 a0 HB a2 a3 hHeld ⊢
     refine pure_ (i := 0) (N := some 15) (v := ?_) (a' := ?_) (bm 6 1) rfl rfl (by kernel_rfl) (fun _ _ _ h => h) (Or.inl ⟨by rfl, ?_⟩) ?_ ?_
     rotate_left
     ·intro w'
      go_simp
      with_reducible rfl
     rotate_left
     ·simp only [Act.put, sA_, sB_, sC_, i64_w, i32_w]
      rfl
     refine pure_ (i := 1) (N := some 16) (v := ?_) (a' := ?_) (bm 6 3) rfl rfl (by kernel_rfl) (fun _ _ _ h => h) (Or.inl ⟨by rfl, ?_⟩) ?_ ?_
     rotate_left
     ·intro w'
      go_simp
      with_reducible rfl
     rotate_left
     ·simp only [Act.put, sA_, sB_, sC_, i64_w, i32_w]
      rfl
     refine pure_ (i := 2) (N := some 17) (v := ?_) (a' := ?_) (bm 6 7) rfl rfl (by kernel_rfl) (fun _ _ _ h => h) (Or.inl ⟨by rfl, ?_⟩) ?_ ?_
     rotate_left
     ·intro w'
      go_simp
      with_reducible rfl
     rotate_left
     ·simp only [Act.put, sA_, sB_, sC_, i64_w, i32_w]
      rfl
     refine take_ (i := 3) (N := some 18) (v := ?_) (a' := ?_) (bm 6 15) rfl rfl (by kernel_rfl) (fun _ _ _ h => h) (Or.inl ⟨by rfl, ?_⟩) hHeld ?_ ?_
     rotate_left
     ·rintro w' ⟨s0, s1, s2, s3⟩
      go_simp
      with_reducible rfl
     rotate_left
     ·simp only [Act.put, sA_, sB_, sC_, i64_w, i32_w]
      rfl
     refine take_ (i := 4) (N := some 19) (v := ?_) (a' := ?_) (bm 6 31) rfl rfl (by kernel_rfl) (fun _ _ _ h => h) (Or.inl ⟨by rfl, ?_⟩) hHeld ?_ ?_
     rotate_left
     ·rintro w' ⟨s0, s1, s2, s3⟩
      go_simp
      with_reducible rfl
     rotate_left
     ·simp only [Act.put, sA_, sB_, sC_, i64_w, i32_w]
      rfl
     refine one_ (i := 5) (N := some 20) (bm 6 63) rfl rfl (by kernel_rfl) (by decide) (fun K hK => ?_)
     refine gs_ Try.func135 #[.agg #[.int .i64 ((rd_T43 l0 x6_1).f0), .int .i64 ((rd_T43 l0 x6_1).f1)], .agg #[.int .i64 a1_0, .int .i64 a1_1]] ?_
     with_reducible refine (spec_l05Less.calls ((rd_T43 l0 x6_1).f0) ((rd_T43 l0 x6_1).f1) a1_0 a1_1 false _ A8.out).mono ?_
     rintro e w15 ⟨rfl, hb⟩
     refine ⟨_, rfl, ?_⟩
     replace a1 := kb_ a1 hb; replace a0 := qbl_ a0 hb; replace HB := hs_ hb; (try clear hb); (try clear hb2); (try clear hk); (try clear hi)
     refine hK.out _ _ ⟨bl_ a0 0, bl_ a0 1, ((qx_ HB a8).trans rfl), ((qx_ HB a7).trans rfl)⟩ (fun hHeld => ?_)
     clear hK K
     refine nm_ 20 ?_
     refine done_ (by kernel_rfl) ?_
     try go_wp2
     go_roundg k1
     case measure => have := HK1.out; omega
     case rel => exact ⟨(x5_1), (wrap64 (x6_1 + 1)), qe_, H', ⟨by have := HK1.out; omega⟩, ⟨ra_ a1⟩, ⟨qk_ a0⟩, ⟨qB_⟩⟩
    refine jg_ H ?_; clear H; intro c10 H
    have LMc10 := am_ c10
    clear c10
    obtain ⟨d1, hy321⟩ : ∃ y_ : List (S43), y_ = (x5_1 ++ [(⟨(rd_T43 l0 x6_1).f0, (rd_T43 l0 x6_1).f1⟩ : S43)]) := ⟨_, rfl⟩
    replace H : (spec_l05Put.l0 k1 l0 d1 (wrap64 (x6_1 + 1)) a1_0 a1_1) = some r := hq_ hy321 H
    have Ny321 := am_ hy321
    clear hy321; have H' := am_ H; clear H
    try go_wp2
    replace a1 := am_ (Kd.R_drew a1.out); replace a0 := am_ (blk_drew a0.out); replace HB := am_ (below_drew1 HB.out)
    have p318 := dp_ x6_1
    have q318 := dl_ x6_1 l0.length
    obtain ⟨ad318, e318, a2, a3⟩ := at_T43 c4.out x6_1 p318 q318
    have a7 := a3; have a8 := a2; cases e318
    replace a2 := qx_ HB a2
    replace a3 := qx_ HB a3
    replace p318 := eq_true p318; replace q318 := eq_true q318
    refine start_ (n := 6) (S := fun w' => w'.cell? ⟨a6, 0, none⟩ = some (.int .i64 a1_0) ∧ w'.cell? ⟨a6, 1, none⟩ = some (.int .i64 a1_1) ∧ w'.cell? (ad318.add ((x6_1).toNat * 2)) = some (.int .i64 ((rd_T43 l0 x6_1).f0)) ∧ w'.cell? ⟨(ad318.add ((x6_1).toNat * 2)).block, (ad318.add ((x6_1).toNat * 2)).off + 1, none⟩ = some (.int .i64 ((rd_T43 l0 x6_1).f1))) (ds := []) (bm 6 0) (by kernel_rfl) rfl (by kernel_rfl) ⟨bl_ a0 0, bl_ a0 1, ((qx_ HB a8).trans rfl), ((qx_ HB a7).trans rfl)⟩ (fun hHeld => ?_)
    generalize wr.drew = w11 at a1 a0 HB a2 a3 hHeld ⊢
    refine pure_ (i := 0) (N := some 15) (v := ?_) (a' := ?_) (bm 6 1) rfl rfl (by kernel_rfl) (fun _ _ _ h => h) (Or.inl ⟨by rfl, ?_⟩) ?_ ?_
    rotate_left
    ·intro w'
     go_simp
     with_reducible rfl
    rotate_left
    ·simp only [Act.put, sA_, sB_, sC_, i64_w, i32_w]
     rfl
    refine pure_ (i := 1) (N := some 16) (v := ?_) (a' := ?_) (bm 6 3) rfl rfl (by kernel_rfl) (fun _ _ _ h => h) (Or.inl ⟨by rfl, ?_⟩) ?_ ?_
    rotate_left
    ·intro w'
     go_simp
     with_reducible rfl
    rotate_left
    ·simp only [Act.put, sA_, sB_, sC_, i64_w, i32_w]
     rfl
    refine pure_ (i := 2) (N := some 17) (v := ?_) (a' := ?_) (bm 6 7) rfl rfl (by kernel_rfl) (fun _ _ _ h => h) (Or.inl ⟨by rfl, ?_⟩) ?_ ?_
    rotate_left
    ·intro w'
     go_simp
     with_reducible rfl
    rotate_left
    ·simp only [Act.put, sA_, sB_, sC_, i64_w, i32_w]
     rfl
    refine take_ (i := 3) (N := some 18) (v := ?_) (a' := ?_) (bm 6 15) rfl rfl (by kernel_rfl) (fun _ _ _ h => h) (Or.inl ⟨by rfl, ?_⟩) hHeld ?_ ?_
    rotate_left
    ·rintro w' ⟨s0, s1, s2, s3⟩
     go_simp
     with_reducible rfl
    rotate_left
    ·simp only [Act.put, sA_, sB_, sC_, i64_w, i32_w]
     rfl
    refine take_ (i := 4) (N := some 19) (v := ?_) (a' := ?_) (bm 6 31) rfl rfl (by kernel_rfl) (fun _ _ _ h => h) (Or.inl ⟨by rfl, ?_⟩) hHeld ?_ ?_
    rotate_left
    ·rintro w' ⟨s0, s1, s2, s3⟩
     go_simp
     with_reducible rfl
    rotate_left
    ·simp only [Act.put, sA_, sB_, sC_, i64_w, i32_w]
     rfl
    refine one_ (i := 5) (N := some 20) (bm 6 63) rfl rfl (by kernel_rfl) (by decide) (fun K hK => ?_)
    refine gs_ Try.func135 #[.agg #[.int .i64 ((rd_T43 l0 x6_1).f0), .int .i64 ((rd_T43 l0 x6_1).f1)], .agg #[.int .i64 a1_0, .int .i64 a1_1]] ?_
    with_reducible refine (spec_l05Less.calls ((rd_T43 l0 x6_1).f0) ((rd_T43 l0 x6_1).f1) a1_0 a1_1 true _ A8.out).mono ?_
    rintro e w12 ⟨rfl, hb⟩
    refine ⟨_, rfl, ?_⟩
    replace a1 := kb_ a1 hb; replace a0 := qbl_ a0 hb; replace HB := hs_ hb; (try clear hb); (try clear hb2); (try clear hk); (try clear hi)
    refine hK.out _ _ ⟨bl_ a0 0, bl_ a0 1, ((qx_ HB a8).trans rfl), ((qx_ HB a7).trans rfl)⟩ (fun hHeld => ?_)
    clear hK K
    refine nm_ 20 ?_
    refine done_ (by kernel_rfl) ?_
    have p320 := dp_ x6_1
    have q320 := dl_ x6_1 l0.length
    obtain ⟨ad320, e320, b1, b2⟩ := at_T43 c4.out x6_1 p320 q320
    obtain rfl : ad318 = ad320 := (by injection e320)
    replace b1 := qx_ HB b1
    replace b2 := qx_ HB b2
    replace p320 := eq_true p320; replace q320 := eq_true q320
    try go_wp2_with (first | ((with_reducible refine gate_builtin (b := .append) (xs := #[.tmp 21, .tmp 26]) rfl ?_); at_builtin; refine Kd.R_append k43 (w0 := w) w.heap.size rfl (.tmp 21) (.tmp 26) 67 43 (.agg #[(.int .i64 0), (.int .i64 0)]) 16 rfl Try.underlying67 info43 rfl (by decide) (by omega) u5 x5_1 (⟨(rd_T43 l0 x6_1).f0, (rd_T43 l0 x6_1).f1⟩ : S43) [.int .i64 ((rd_T43 l0 x6_1).f0), .int .i64 ((rd_T43 l0 x6_1).f1)] (fun k_ => k_ ≠ a6) (fun _ => False) rfl rfl ?aP (fun _ hk => hk.elim) ?aF ?aO ?aB ?aS ?aL ?_; (case aP => exact k43_mkM _ _ _ (⟨(rd_T43 l0 x6_1).f0, (rd_T43 l0 x6_1).f1⟩ : S43)); (case aB => exact qB_); (case aF => exact (fun k_ hk => Kd.freshB (qk_ a0) k_ hk)); (case aO => exact (qR_ a1)); (case aS => exact (below_size qB_)); (case aL => have := LMc10.out; omega); intro d9 w13 ho hb hg hat; rw [← Ny321.out] at ho; have b9 := am_ (ho); replace a0 := am_ (blk_grown (qk_ a0) hg (Kd.R_away a1.out (fun _ hk => hk))); replace HB := am_ (hb); clear a1; clear ho hb hg hat))
    go_roundg k1
    case measure => have := HK1.out; omega
    case rel => exact ⟨(d1), (wrap64 (x6_1 + 1)), qe_, H', ⟨by have := HK1.out; omega⟩, ⟨ra_ b9⟩, ⟨qk_ a0⟩, ⟨qB_⟩⟩
   refine jg_ H ?_; clear H; intro c16 H
   have LMc16 := am_ c16
   clear c16
   obtain ⟨d2, hy324⟩ : ∃ y_ : List (S43), y_ = (x5_1 ++ [(⟨a1_0, a1_1⟩ : S43)]) := ⟨_, rfl⟩
   replace H : (spec_l05Put.l1 k1 l0 d2 0 a1_0 a1_1) = some r := hq_ hy324 H
   have Ny324 := am_ hy324
   clear hy324; have H' := am_ H; clear H
   obtain ⟨b5, b6, b7, b8⟩ := bc2_ a0
   go_wp2_with (first | ((with_reducible refine gate_builtin (b := .append) (xs := #[.tmp 28, .tmp 30]) rfl ?_); at_builtin; refine Kd.R_append k43 (w0 := w) w.heap.size rfl (.tmp 28) (.tmp 30) 67 43 (.agg #[(.int .i64 0), (.int .i64 0)]) 16 rfl Try.underlying67 info43 rfl (by decide) (by omega) u5 x5_1 (⟨a1_0, a1_1⟩ : S43) [.int .i64 a1_0, .int .i64 a1_1] (fun k_ => k_ ≠ a6) (fun _ => False) rfl rfl ?aP (fun _ hk => hk.elim) ?aF ?aO ?aB ?aS ?aL ?_; (case aP => exact k43_mkM _ _ _ (⟨a1_0, a1_1⟩ : S43)); (case aB => exact qB_); (case aF => exact (fun k_ hk => Kd.freshB (qk_ a0) k_ hk)); (case aO => exact (qR_ a1)); (case aS => exact (below_size qB_)); (case aL => have := LMc16.out; omega); intro e0 w18 ho hb hg hat; rw [← Ny324.out] at ho; have c2 := am_ (ho); replace a0 := am_ (blk_grown (qk_ a0) hg (Kd.R_away a1.out (fun _ hk => hk))); replace HB := am_ (hb); clear a1; clear ho hb hg hat))
   go_loopg [5, 7] k1 (fun kq v5 v7 w' => ∃ (x5_2 : List (S43)) (x7_2 : Int), v7 = .int .i64 x7_2 ∧ Aside0 (spec_l05Put.l1 kq l0 x5_2 x7_2 a1_0 a1_1 = some r) ∧ Aside0 (kq ≤ k1) ∧ Aside0 (Kd.R k43 43 w' w.heap.size (fun k_ => k_ ≠ a6) v5 x5_2) ∧ Aside0 (w'.heap[a6]? = some (.cells #[.int .i64 a1_0, .int .i64 a1_1] 43 (0, 0))) ∧ Aside0 (Below w.heap.size w w'))
   case atStart => exact ⟨(d2), (0), qe_, H', ⟨Nat.le_refl _⟩, ⟨ra_ c2⟩, ⟨qk_ a0⟩, ⟨qB_⟩⟩
   case round =>
    clear H'
    (try clear c1); (try clear p2); (try clear p3); (try clear q3); (try clear e3); (try clear c6); (try clear c6b0); (try clear p6); (try clear c7); (try clear c7b0); (try clear c9); (try clear c10); (try clear c12); (try clear c13); (try clear c16); (try clear b5 b6 b7 b8); (try clear a2); (try clear a3); (try clear b1); (try clear b2); (try clear p2); (try clear p318); (try clear p320); (try clear q318); (try clear q320)
    obtain ⟨x5_2, x7_2, rfl, HA, HK2, a1, a0, HB⟩ := hrel
    cases gk with
    | zero => exact absurd HA.out (by simp [spec_l05Put.l1])
    | succ k2 =>
     have H := HA.out; clear HA
     simp only [spec_l05Put.l1] at H
     refine ib_ H ?_ ?_ <;> clear H <;> intro c19b0 H
     ·obtain rfl := oi_ H
      go_wp2
      go_ret
      exact ⟨_, qr_, by (with_reducible repeat (first | apply Kd.R_alloc | apply Kd.R_drewN | apply Kd.R_drew)); exact Kd.R_mono a1.out (fun _ hk => trivial), qB_⟩
     refine ig_ H ?_; clear H; intro c20b0 H
     obtain ⟨d6, A21, H⟩ := bs_ H
     refine id_ H ?_ ?_ <;> clear H <;> rintro rfl H
     ·have H' := am_ H; clear H
      try go_wp2
      replace a1 := am_ (Kd.R_drew a1.out); replace a0 := am_ (blk_drew a0.out); replace HB := am_ (below_drew1 HB.out)
      have p327 := dp_ x7_2
      have q327 := dl_ x7_2 l0.length
      obtain ⟨ad327, e327, a4, a5⟩ := at_T43 c4.out x7_2 p327 q327
      have a9 := a5; have b0 := a4; cases e327
      replace a4 := qx_ HB a4
      replace a5 := qx_ HB a5
      replace p327 := eq_true p327; replace q327 := eq_true q327
      refine start_ (n := 6) (S := fun w' => w'.cell? ⟨a6, 0, none⟩ = some (.int .i64 a1_0) ∧ w'.cell? ⟨a6, 1, none⟩ = some (.int .i64 a1_1) ∧ w'.cell? (ad327.add ((x7_2).toNat * 2)) = some (.int .i64 ((rd_T43 l0 x7_2).f0)) ∧ w'.cell? ⟨(ad327.add ((x7_2).toNat * 2)).block, (ad327.add ((x7_2).toNat * 2)).off + 1, none⟩ = some (.int .i64 ((rd_T43 l0 x7_2).f1))) (ds := []) (bm 6 0) (by kernel_rfl) rfl (by kernel_rfl) ⟨bl_ a0 0, bl_ a0 1, ((qx_ HB b0).trans rfl), ((qx_ HB a9).trans rfl)⟩ (fun hHeld => ?_)
      generalize wr.drew = w27 at a1 a0 HB a4 a5 hHeld ⊢
      refine pure_ (i := 1) (N := some 39) (v := ?_) (a' := ?_) (bm 6 2) rfl rfl (by kernel_rfl) (fun _ _ _ h => h) (Or.inl ⟨by rfl, ?_⟩) ?_ ?_
      rotate_left
      ·intro w'
       go_simp
       with_reducible rfl
      rotate_left
      ·simp only [Act.put, sA_, sB_, sC_, i64_w, i32_w]
       rfl
      refine pure_ (i := 2) (N := some 40) (v := ?_) (a' := ?_) (bm 6 6) rfl rfl (by kernel_rfl) (fun _ _ _ h => h) (Or.inl ⟨by rfl, ?_⟩) ?_ ?_
      rotate_left
      ·intro w'
       go_simp
       with_reducible rfl
      rotate_left
      ·simp only [Act.put, sA_, sB_, sC_, i64_w, i32_w]
       rfl
      refine pure_ (i := 3) (N := some 41) (v := ?_) (a' := ?_) (bm 6 14) rfl rfl (by kernel_rfl) (fun _ _ _ h => h) (Or.inl ⟨by rfl, ?_⟩) ?_ ?_
      rotate_left
      ·intro w'
       go_simp
       with_reducible rfl
      rotate_left
      ·simp only [Act.put, sA_, sB_, sC_, i64_w, i32_w]
       rfl
      refine take_ (i := 0) (N := some 38) (v := ?_) (a' := ?_) (bm 6 15) rfl rfl (by kernel_rfl) (fun _ _ _ h => h) (Or.inl ⟨by rfl, ?_⟩) hHeld ?_ ?_
      rotate_left
      ·rintro w' ⟨s0, s1, s2, s3⟩
       go_simp
       with_reducible rfl
      rotate_left
      ·simp only [Act.put, sA_, sB_, sC_, i64_w, i32_w]
       rfl
      refine take_ (i := 4) (N := some 42) (v := ?_) (a' := ?_) (bm 6 31) rfl rfl (by kernel_rfl) (fun _ _ _ h => h) (Or.inl ⟨by rfl, ?_⟩) hHeld ?_ ?_
      rotate_left
      ·rintro w' ⟨s0, s1, s2, s3⟩
       go_simp
       with_reducible rfl
      rotate_left
      ·simp only [Act.put, sA_, sB_, sC_, i64_w, i32_w]
       rfl
      refine one_ (i := 5) (N := some 43) (bm 6 63) rfl rfl (by kernel_rfl) (by decide) (fun K hK => ?_)
      refine gs_ Try.func135 #[.agg #[.int .i64 a1_0, .int .i64 a1_1], .agg #[.int .i64 ((rd_T43 l0 x7_2).f0), .int .i64 ((rd_T43 l0 x7_2).f1)]] ?_
      with_reducible refine (spec_l05Less.calls a1_0 a1_1 ((rd_T43 l0 x7_2).f0) ((rd_T43 l0 x7_2).f1) false _ A21.out).mono ?_
      rintro e w28 ⟨rfl, hb⟩
      refine ⟨_, rfl, ?_⟩
      replace a1 := kb_ a1 hb; replace a0 := qbl_ a0 hb; replace HB := hs_ hb; (try clear hb); (try clear hb2); (try clear hk); (try clear hi)
      refine hK.out _ _ ⟨bl_ a0 0, bl_ a0 1, ((qx_ HB b0).trans rfl), ((qx_ HB a9).trans rfl)⟩ (fun hHeld => ?_)
      clear hK K
      refine nm_ 43 ?_
      refine done_ (by kernel_rfl) ?_
      try go_wp2
      go_roundg k2
      case measure => have := HK1.out; have := HK2.out; omega
      case rel => exact ⟨(x5_2), (wrap64 (x7_2 + 1)), qe_, H', ⟨by have := HK1.out; have := HK2.out; omega⟩, ⟨ra_ a1⟩, ⟨qk_ a0⟩, ⟨qB_⟩⟩
     refine jg_ H ?_; clear H; intro c23 H
     have LMc23 := am_ c23
     clear c23
     obtain ⟨d4, hy330⟩ : ∃ y_ : List (S43), y_ = (x5_2 ++ [(⟨(rd_T43 l0 x7_2).f0, (rd_T43 l0 x7_2).f1⟩ : S43)]) := ⟨_, rfl⟩
     replace H : (spec_l05Put.l1 k2 l0 d4 (wrap64 (x7_2 + 1)) a1_0 a1_1) = some r := hq_ hy330 H
     have Ny330 := am_ hy330
     clear hy330; have H' := am_ H; clear H
     try go_wp2
     replace a1 := am_ (Kd.R_drew a1.out); replace a0 := am_ (blk_drew a0.out); replace HB := am_ (below_drew1 HB.out)
     have p327 := dp_ x7_2
     have q327 := dl_ x7_2 l0.length
     obtain ⟨ad327, e327, a4, a5⟩ := at_T43 c4.out x7_2 p327 q327
     have a9 := a5; have b0 := a4; cases e327
     replace a4 := qx_ HB a4
     replace a5 := qx_ HB a5
     replace p327 := eq_true p327; replace q327 := eq_true q327
     refine start_ (n := 6) (S := fun w' => w'.cell? ⟨a6, 0, none⟩ = some (.int .i64 a1_0) ∧ w'.cell? ⟨a6, 1, none⟩ = some (.int .i64 a1_1) ∧ w'.cell? (ad327.add ((x7_2).toNat * 2)) = some (.int .i64 ((rd_T43 l0 x7_2).f0)) ∧ w'.cell? ⟨(ad327.add ((x7_2).toNat * 2)).block, (ad327.add ((x7_2).toNat * 2)).off + 1, none⟩ = some (.int .i64 ((rd_T43 l0 x7_2).f1))) (ds := []) (bm 6 0) (by kernel_rfl) rfl (by kernel_rfl) ⟨bl_ a0 0, bl_ a0 1, ((qx_ HB b0).trans rfl), ((qx_ HB a9).trans rfl)⟩ (fun hHeld => ?_)
     generalize wr.drew = w24 at a1 a0 HB a4 a5 hHeld ⊢
     refine pure_ (i := 1) (N := some 39) (v := ?_) (a' := ?_) (bm 6 2) rfl rfl (by kernel_rfl) (fun _ _ _ h => h) (Or.inl ⟨by rfl, ?_⟩) ?_ ?_
     rotate_left
     ·intro w'
      go_simp
      with_reducible rfl
     rotate_left
     ·simp only [Act.put, sA_, sB_, sC_, i64_w, i32_w]
      rfl
     refine pure_ (i := 2) (N := some 40) (v := ?_) (a' := ?_) (bm 6 6) rfl rfl (by kernel_rfl) (fun _ _ _ h => h) (Or.inl ⟨by rfl, ?_⟩) ?_ ?_
     rotate_left
     ·intro w'
      go_simp
      with_reducible rfl
     rotate_left
     ·simp only [Act.put, sA_, sB_, sC_, i64_w, i32_w]
      rfl
     refine pure_ (i := 3) (N := some 41) (v := ?_) (a' := ?_) (bm 6 14) rfl rfl (by kernel_rfl) (fun _ _ _ h => h) (Or.inl ⟨by rfl, ?_⟩) ?_ ?_
     rotate_left
     ·intro w'
      go_simp
      with_reducible rfl
     rotate_left
     ·simp only [Act.put, sA_, sB_, sC_, i64_w, i32_w]
      rfl
     refine take_ (i := 0) (N := some 38) (v := ?_) (a' := ?_) (bm 6 15) rfl rfl (by kernel_rfl) (fun _ _ _ h => h) (Or.inl ⟨by rfl, ?_⟩) hHeld ?_ ?_
     rotate_left
     ·rintro w' ⟨s0, s1, s2, s3⟩
      go_simp
      with_reducible rfl
     rotate_left
     ·simp only [Act.put, sA_, sB_, sC_, i64_w, i32_w]
      rfl
     refine take_ (i := 4) (N := some 42) (v := ?_) (a' := ?_) (bm 6 31) rfl rfl (by kernel_rfl) (fun _ _ _ h => h) (Or.inl ⟨by rfl, ?_⟩) hHeld ?_ ?_
     rotate_left
     ·rintro w' ⟨s0, s1, s2, s3⟩
      go_simp
      with_reducible rfl
     rotate_left
     ·simp only [Act.put, sA_, sB_, sC_, i64_w, i32_w]
      rfl
     refine one_ (i := 5) (N := some 43) (bm 6 63) rfl rfl (by kernel_rfl) (by decide) (fun K hK => ?_)
     refine gs_ Try.func135 #[.agg #[.int .i64 a1_0, .int .i64 a1_1], .agg #[.int .i64 ((rd_T43 l0 x7_2).f0), .int .i64 ((rd_T43 l0 x7_2).f1)]] ?_
     with_reducible refine (spec_l05Less.calls a1_0 a1_1 ((rd_T43 l0 x7_2).f0) ((rd_T43 l0 x7_2).f1) true _ A21.out).mono ?_
     rintro e w25 ⟨rfl, hb⟩
     refine ⟨_, rfl, ?_⟩
     replace a1 := kb_ a1 hb; replace a0 := qbl_ a0 hb; replace HB := hs_ hb; (try clear hb); (try clear hb2); (try clear hk); (try clear hi)
     refine hK.out _ _ ⟨bl_ a0 0, bl_ a0 1, ((qx_ HB b0).trans rfl), ((qx_ HB a9).trans rfl)⟩ (fun hHeld => ?_)
     clear hK K
     refine nm_ 43 ?_
     refine done_ (by kernel_rfl) ?_
     have p329 := dp_ x7_2
     have q329 := dl_ x7_2 l0.length
     obtain ⟨ad329, e329, b3, b4⟩ := at_T43 c4.out x7_2 p329 q329
     obtain rfl : ad327 = ad329 := (by injection e329)
     replace b3 := qx_ HB b3
     replace b4 := qx_ HB b4
     replace p329 := eq_true p329; replace q329 := eq_true q329
     try go_wp2_with (first | ((with_reducible refine gate_builtin (b := .append) (xs := #[.tmp 44, .tmp 49]) rfl ?_); at_builtin; refine Kd.R_append k43 (w0 := w) w.heap.size rfl (.tmp 44) (.tmp 49) 67 43 (.agg #[(.int .i64 0), (.int .i64 0)]) 16 rfl Try.underlying67 info43 rfl (by decide) (by omega) u5 x5_2 (⟨(rd_T43 l0 x7_2).f0, (rd_T43 l0 x7_2).f1⟩ : S43) [.int .i64 ((rd_T43 l0 x7_2).f0), .int .i64 ((rd_T43 l0 x7_2).f1)] (fun k_ => k_ ≠ a6) (fun _ => False) rfl rfl ?aP (fun _ hk => hk.elim) ?aF ?aO ?aB ?aS ?aL ?_; (case aP => exact k43_mkM _ _ _ (⟨(rd_T43 l0 x7_2).f0, (rd_T43 l0 x7_2).f1⟩ : S43)); (case aB => exact qB_); (case aF => exact (fun k_ hk => Kd.freshB (qk_ a0) k_ hk)); (case aO => exact (qR_ a1)); (case aS => exact (below_size qB_)); (case aL => have := LMc23.out; omega); intro e1 w26 ho hb hg hat; rw [← Ny330.out] at ho; have c3 := am_ (ho); replace a0 := am_ (blk_grown (qk_ a0) hg (Kd.R_away a1.out (fun _ hk => hk))); replace HB := am_ (hb); clear a1; clear ho hb hg hat))
     go_roundg k2
     case measure => have := HK1.out; have := HK2.out; omega
     case rel => exact ⟨(d4), (wrap64 (x7_2 + 1)), qe_, H', ⟨by have := HK1.out; have := HK2.out; omega⟩, ⟨ra_ c3⟩, ⟨qk_ a0⟩, ⟨qB_⟩⟩
end Go.Proofs.Ytbkklafkoegdpaa.QFnExactWebAdd
