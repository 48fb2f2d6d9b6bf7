import Derived.Test.YtbkklafkoegdpaaQFnExactWebAddx17
namespace Go.Proofs.Ytbkklafkoegdpaa.QFnExactWebAdd
open Go.RowKit Go.Proofs.YtbkklafkoegdpaaW.PrintWords Go.Proofs.YtbkklafkoegdpaaW.PrintLast Go.Proofs.YtbkklafkoegdpaaW.PrintMore
set_option maxHeartbeats 8000000
set_option maxRecDepth 100000
set_option linter.unusedVariables false
set_option linter.unusedSimpArgs false
def impl_GraphOk.f (k : Nat) (a0_0 : Int) (l0_1 : List (S43)) : Option (Bool) := (impl_in.f a0_0 1 12).bind fun t409 => (if t409 = true then ((impl_edgesOk.f k a0_0 l0_1).bind fun t410 => (some t410)) else (some false))
theorem impl_GraphOk.mono : ∀ a0 a1 k, LeO (impl_GraphOk.f k a0 a1) (impl_GraphOk.f (k + 1) a0 a1) := by
  intro a0 a1 k
  have m0 := @impl_edgesOk.mono
  unfold impl_GraphOk.f
  exact lo_
theorem impl_GraphOk.calls (k : Nat) (a0_0 : Int) (A0_1 : Option Addr) (c0_1 : Nat) (l0_1 : List (S43)) (r : Bool) (w : World) (hr0_1 : Kd.C k43 w A0_1 l0_1.length l0_1) (hc0_1 : l0_1.length ≤ c0_1) (h : impl_GraphOk.f k a0_0 l0_1 = some r) :
  Calls Try.prog 62 #[.agg #[.int .i64 a0_0, .slice A0_1 l0_1.length c0_1]] w fun e w' => e = .returned (.bool r) ∧ Below w.heap.size w w' := by
 have hu69 := Try.underlying69
 have HR0_1 := am_ hr0_1
 have HC0_1 := am_ hc0_1
 clear hr0_1 hc0_1
 have HB := am_ (Below.refl w.heap.size w)
 rw [impl_GraphOk.f] at h; have H := h; clear h
 obtain ⟨a2, A2, H⟩ := bs_ H
 refine ie_ H ?_ ?_ <;> clear H <;> rintro rfl H
 ·obtain ⟨a3, A4, H⟩ := bs_ H
  obtain rfl := oi_ H
  go_enter Try.func62, Try.ntmps62
  go_wp2_with (first | ((with_reducible refine gd_ 1 ?_); refine by_ 1 (cs := #[.int .i64 a0_0, .slice A0_1 l0_1.length c0_1]) (t := 69) ?_; intro a4 hg w5 a0 hb; have a1 := gw_ hg; replace HB := hs_ hb; clear hb hg; obtain ⟨a6, a7, a8, a9⟩ := bc2_ a0) | ((with_reducible refine gc_ 66 ?_); refine gl_ (some 5) Try.func66 #[.int .i64 a0_0, .int .i64 1, .int .i64 12] ?_; (with_reducible refine (impl_in.calls a0_0 1 12 true _ A2.out).mono ?_); rintro e w' ⟨rfl, ⟨nd, rfl⟩⟩; refine ⟨_, rfl, ?_⟩) | (go_at_call 111; (with_reducible refine (impl_edgesOk.calls k a0_0 _ _ l0_1 a3 _ ?side1 ?side2 A4.out).mono ?_); (case side1 => repeat (first | exact (Kd.C_below HR0_1.out qB_) | (with_reducible refine Kd.C_alloc ?_ _) | (with_reducible refine Kd.C_drewN ?_ _) | (with_reducible refine Kd.C_drew ?_))); (case side2 => exact HC0_1.out); rintro e w7 ⟨rfl, hb⟩; replace a0 := qbl_ a0 hb; replace HB := hs_ hb; (try clear hb); (try clear hb2); (try clear hk); (try clear hi)))
  go_ret
  exact ⟨qr_, qB_⟩
 obtain rfl := oi_ H
 go_enter Try.func62, Try.ntmps62
 go_wp2_with (first | ((with_reducible refine gd_ 1 ?_); refine by_ 1 (cs := #[.int .i64 a0_0, .slice A0_1 l0_1.length c0_1]) (t := 69) ?_; intro a4 hg w8 a0 hb; have a1 := gw_ hg; replace HB := hs_ hb; clear hb hg; obtain ⟨b0, b1, b2, b3⟩ := bc2_ a0) | ((with_reducible refine gc_ 66 ?_); refine gl_ (some 5) Try.func66 #[.int .i64 a0_0, .int .i64 1, .int .i64 12] ?_; (with_reducible refine (impl_in.calls a0_0 1 12 false _ A2.out).mono ?_); rintro e w' ⟨rfl, ⟨nd, rfl⟩⟩; refine ⟨_, rfl, ?_⟩))
 go_ret
 exact ⟨qr_, qB_⟩
def impl_GraphOf.l0 : Nat → List (S72) → Int → Int → Int → List (S43) → Option (Int × (List (S43)))
  | 0, _, _, _, _, _ => none
  | k + 1, x10, x11, x12, x414000, x414001 => if x12 < x11 then (if 0 ≤ x12 then (if x12 < (x10.length : Int) then (if x414001.length < 8796093022208 then (impl_GraphOf.l0 k x10 x11 (wrap64 (x12 + 1)) x414000 (x414001 ++ [(⟨(rd_T72 x10 x12).f0, (rd_T72 x10 x12).f1⟩ : S43)])) else (none)) else (none)) else (none)) else (some (x414000, x414001))
def impl_GraphOf.f (k : Nat) (a0_0 : Int) (l0_1 : List (S72)) : Option (Int × (List (S43))) := impl_GraphOf.l0 k l0_1 (l0_1.length : Int) 0 a0_0 ([] : List (S43))
theorem impl_GraphOf.mono_l : ∀ k, (∀ y0 y1 y2 y3 y4, LeO (impl_GraphOf.l0 k y0 y1 y2 y3 y4) (impl_GraphOf.l0 (k + 1) y0 y1 y2 y3 y4))
  | 0 => fun _ _ _ _ _ r h => by simp [impl_GraphOf.l0] at h
  | k + 1 => by
    have ih0 := impl_GraphOf.mono_l k
    · intro y0 y1 y2 y3 y4
      unfold impl_GraphOf.l0
      exact lo_
theorem impl_GraphOf.mono : ∀ a0 a1 k, LeO (impl_GraphOf.f k a0 a1) (impl_GraphOf.f (k + 1) a0 a1) := by
  intro a0 a1 k
  have ih0 := impl_GraphOf.mono_l k
  unfold impl_GraphOf.f
  exact lo_
theorem impl_GraphOf.calls (k : Nat) (a0_0 : Int) (A0_1 : Option Addr) (c0_1 : Nat) (l0_1 : List (S72)) (r1 : Int) (r2 : List (S43)) (w : World) (hr0_1 : Kd.C k72 w A0_1 l0_1.length l0_1) (hc0_1 : l0_1.length ≤ c0_1) (h : impl_GraphOf.f k a0_0 l0_1 = some (r1, r2)) :
  Calls Try.prog 63 #[.agg #[.int .i64 a0_0, .slice A0_1 l0_1.length c0_1]] w fun e w' => ∃ v1_ : Value, e = .returned (.agg #[.int .i64 r1, v1_]) ∧ Kd.R k43 43 w' w.heap.size (fun _ => True) v1_ r2 ∧ Below w.heap.size w w' := by
 have hu29 := Try.underlying29; have hu69 := Try.underlying69; have hu72 := Try.underlying72; have hu43 := Try.underlying43
 have HR0_1 := am_ hr0_1
 have HC0_1 := am_ hc0_1
 clear hr0_1 hc0_1
 have HB := am_ (Below.refl w.heap.size w)
 have H : (impl_GraphOf.l0 k l0_1 (l0_1.length : Int) 0 a0_0 ([] : List (S43))) = some (r1, r2) := h
 clear h; have H' := am_ H; clear H
 go_enter Try.func63, Try.ntmps63
 go_wp2_with (first | ((with_reducible refine gd_ 1 ?_); refine by_ 1 (cs := #[.int .i64 a0_0, .slice A0_1 l0_1.length c0_1]) (t := 29) ?_; intro d0 hg w2 a2 hb; have e5 := gw_ hg; replace HB := hs_ hb; clear hb hg) | ((with_reducible refine gd_ 2 ?_); refine by_ 2 (cs := #[.int .i64 0, .slice none 0 0]) (t := 69) ?_; intro a8 hg w3 a3 hb; have e6 := gw_ hg; obtain ⟨b5, b6⟩ := qn_ a2 hg; replace a2 := qbl_ a2 hb; replace HB := hs_ hb; clear hb hg; obtain ⟨k4, k5⟩ := nn_ b5; obtain ⟨d2, d3, d4, d5⟩ := bc2_ a2) | ((with_reducible refine gd_ 3 ?_); refine by_ 3 (cs := #[.int .i64 0, .slice none 0 0]) (t := 69) ?_; intro c0 hg w6 a4 hb; have e7 := gw_ hg; obtain ⟨e0, a6⟩ := qn_ a2 hg; obtain ⟨e1, a7⟩ := qn_ a3 hg; replace a2 := qbl_ a2 hb; replace a3 := qbl_ a3 hb; replace HB := hs_ hb; clear hb hg; obtain ⟨k6, k7⟩ := nn_ a6; obtain ⟨k8, k9⟩ := nn_ a7; obtain ⟨d6, d7, d8, d9⟩ := bc2_ a4; obtain ⟨c1, c2, c3, c5⟩ := bc2_ a2))
 go_loopg [12] k (fun kq v12 w' => ∃ (x12_1 : Int) (a1 : List (S43)) (a5 : Value), v12 = .int .i64 x12_1 ∧ Aside0 (impl_GraphOf.l0 kq l0_1 (l0_1.length : Int) x12_1 a0_0 a1 = some (r1, r2)) ∧ Aside0 (kq ≤ k) ∧ Aside0 (Kd.R k43 43 w' w.heap.size (fun _ => True) a5 a1) ∧ Aside0 (w'.heap[d0]? = some (.cells #[.int .i64 a0_0, (.slice A0_1 l0_1.length c0_1)] 29 (0, 0))) ∧ Aside0 (w'.heap[a8]? = some (.cells #[.int .i64 0, (.slice none 0 0)] 69 (0, 0))) ∧ Aside0 (w'.heap[c0]? = some (.cells #[.int .i64 a0_0, a5] 69 (0, 0))) ∧ Aside0 (Below w.heap.size w w'))
 case atStart => exact ⟨(0), (([] : List (S43))), (.slice none 0 0), qe_, H', ⟨Nat.le_refl _⟩, ⟨by first | exact Kd.R_nil _ _ _ _ _ | exact Kd.N_nil _ _ _ _ _ | exact Kd.V_nil _ _ _ _ _ | exact Kd.Q_nil _ _ _ _ _ | exact Kd.S_nil _ _ _ _ _⟩, ⟨qf_ a2⟩, ⟨qf_ a3⟩, ⟨by (with_reducible repeat (first | refine blk_drewN ?_ _ | refine blk_drew ?_ | refine blk_alloc ?_ _)); refine blk_put (cs := #[.int .i64 a0_0, .slice none 0 0]) ?_ 1 _ rfl; (with_reducible repeat (first | refine blk_drewN ?_ _ | refine blk_drew ?_ | refine blk_alloc ?_ _)); refine blk_put (cs := #[.int .i64 0, .slice none 0 0]) ?_ 0 _ rfl; exact qf_ a4⟩, ⟨qB_⟩⟩
 case round =>
  clear H'
  (try clear p2); (try clear c4); (try clear c6); (try clear c7); (try clear c8); (try clear c1 c2); (try clear d2 d3); (try clear d6 d7); (try clear c3 c5); (try clear d4 d5); (try clear d8 d9)
  obtain ⟨x12_1, a1, a5, rfl, HA, HK1, a0, a2, a3, a4, HB⟩ := hrel
  cases gk with
  | zero => exact absurd HA.out (by simp [impl_GraphOf.l0])
  | succ k1 =>
   have H := HA.out; clear HA
   simp only [impl_GraphOf.l0] at H
   refine ib_ H ?_ ?_ <;> clear H <;> intro c11b0 H
   ·simp only [Option.some.injEq, Prod.mk.injEq] at H
    obtain ⟨rfl, rfl⟩ := H
    obtain ⟨i6, i7⟩ := nn_ a6; obtain ⟨i8, i9⟩ := nn_ a7
    obtain ⟨f7, f8, f9, g0⟩ := bc2_ a4
    obtain ⟨j0, j1⟩ := nn_ b6
    obtain ⟨g1, g2, g3, g4⟩ := bc2_ a3
    obtain ⟨e8, e9, i1⟩ := Kd.R_slice a0.out
    subst i1
    go_wp2
    refine bodyPost_ret (results_cell_row rfl _ _ a8 69 #[.int .i64 a0_0, .slice e8 a1.length e9] (0, 0) _ rfl (by (with_reducible repeat (first | refine blk_drewN ?_ _ | refine blk_drew ?_ | refine blk_alloc ?_ _)); refine blk_put (cs := #[.int .i64 a0_0, .slice none 0 0]) ?_ 1 _ rfl; (with_reducible repeat (first | refine blk_drewN ?_ _ | refine blk_drew ?_ | refine blk_alloc ?_ _)); refine blk_put (cs := #[.int .i64 0, .slice none 0 0]) ?_ 0 _ rfl; exact qf_ a3) Try.underlying69 rfl (by kernel_rfl)) rfl ?_
    exact ⟨_, qr_, by (with_reducible repeat (first | apply Kd.R_alloc | apply Kd.R_drewN | apply Kd.R_drew)); exact Kd.R_mono (Kd.R_far (p := ⟨a8, 1, none⟩) (Kd.R_far (p := ⟨a8, 0, none⟩) (Kd.R_types a0.out a3.out (by decide)) (fun _ hk => hk.2) (.int .i64 a0_0)) (fun _ hk => hk.2) (.slice e8 a1.length e9)) (fun _ hk => trivial), qB_⟩
   refine ig_ H ?_; clear H; intro c12b0 H
   refine ig_ H ?_; clear H; intro c13b0 H
   refine jg_ H ?_; clear H; intro c14 H
   have LMc14 := am_ c14
   clear c14
   obtain ⟨c9, hy416⟩ : ∃ y_ : List (S43), y_ = (a1 ++ [(⟨(rd_T72 l0_1 x12_1).f0, (rd_T72 l0_1 x12_1).f1⟩ : S43)]) := ⟨_, rfl⟩
   replace H : (impl_GraphOf.l0 k1 l0_1 (l0_1.length : Int) (wrap64 (x12_1 + 1)) a0_0 c9) = some (r1, r2) := hq_ hy416 H
   have Ny416 := am_ hy416
   clear hy416; have H' := am_ H; clear H
   have p414 := dp_ x12_1
   have q414 := dl_ x12_1 l0_1.length
   obtain ⟨ad414, e414, b1, b2, b3, b4⟩ := at_T72 HR0_1.out x12_1 p414 q414
   cases e414
   replace b1 := qx_ HB b1
   replace b2 := qx_ HB b2
   replace b3 := qx_ HB b3
   replace b4 := qx_ HB b4
   replace p414 := eq_true p414; replace q414 := eq_true q414
   go_wp2_with (first | ((with_reducible refine gd_ 5 ?_); refine by_ 5 (cs := #[.int .i64 0, .int .i64 0, .int .i64 0, .bool false]) (t := 72) ?_; intro a9 hg w15 b0 hb; have f4 := gw_ hg; obtain ⟨e2, b7⟩ := qn_ a2 hg; obtain ⟨e3, b8⟩ := qn_ a3 hg; obtain ⟨e4, b9⟩ := qn_ a4 hg; replace a0 := kb_ a0 hb; replace a2 := qbl_ a2 hb; replace a3 := qbl_ a3 hb; replace a4 := qbl_ a4 hb; replace HB := hs_ hb; clear hb hg; obtain ⟨j3, j4⟩ := nn_ b7; obtain ⟨j5, j6⟩ := nn_ b8; obtain ⟨j7, j8⟩ := nn_ b9; obtain ⟨g5, g6, g7, g8, g9, h0, h1, h2⟩ := bc4_ b0; obtain ⟨j9, k0⟩ := nn_ a6; obtain ⟨k2, k3⟩ := nn_ a7; obtain ⟨h3, h4, h5, h6⟩ := bc2_ a4) | ((with_reducible refine gate_builtin (b := .append) (xs := #[.tmp 17, .tmp 23]) rfl ?_); at_builtin; refine Kd.R_append k43 (w0 := w) w.heap.size rfl (.tmp 17) (.tmp 23) 67 43 (.agg #[(.int .i64 0), (.int .i64 0)]) 16 rfl Try.underlying67 info43 rfl (by decide) (by omega) a5 a1 (⟨(rd_T72 l0_1 x12_1).f0, (rd_T72 l0_1 x12_1).f1⟩ : S43) [.int .i64 ((rd_T72 l0_1 x12_1).f0), .int .i64 ((rd_T72 l0_1 x12_1).f1)] (fun _ => True) (fun _ => False) rfl (by first | (go_simp; done) | (go_simp; rfl)) ?aP (fun _ hk => hk.elim) ?aF ?aO ?aB ?aS ?aL ?_; (case aP => exact k43_mkM _ _ _ (⟨(rd_T72 l0_1 x12_1).f0, (rd_T72 l0_1 x12_1).f1⟩ : S43)); (case aB => exact qB_); (case aF => exact (fun _ _ => trivial)); (case aO => exact (by (with_reducible repeat (first | apply Kd.R_alloc | apply Kd.R_drewN | apply Kd.R_drew)); exact Kd.R_mono (Kd.R_far (p := ⟨a9, 3, none⟩) (Kd.R_far (p := ⟨a9, 2, none⟩) (Kd.R_far (p := ⟨a9, 1, none⟩) (Kd.R_far (p := ⟨a9, 0, none⟩) (Kd.R_types a0.out b0.out (by decide)) (fun _ hk => hk.2) (.int .i64 ((rd_T72 l0_1 x12_1).f0))) (fun _ hk => hk.2) (.int .i64 ((rd_T72 l0_1 x12_1).f1))) (fun _ hk => hk.2) (.int .i64 ((rd_T72 l0_1 x12_1).f2))) (fun _ hk => hk.2) (.bool ((rd_T72 l0_1 x12_1).f3))) (fun _ hk => trivial))); (case aS => exact (below_size qB_)); (case aL => have := LMc14.out; omega); intro l1 w23 ho hb hg hat; rw [← Ny416.out] at ho; have d1 := am_ (ho); replace a2 := am_ (blk_grown (g := d0) (o := .cells #[.int .i64 a0_0, .slice (some ad414) l0_1.length c0_1] 29 (0, 0)) (qf_ a2) hg (Kd.R_ne a0.out a2.out (by decide))); replace a3 := am_ (blk_grown (g := a8) (o := .cells #[.int .i64 0, .slice none 0 0] 69 (0, 0)) (qf_ a3) hg (Kd.R_ne a0.out a3.out (by decide))); replace a4 := am_ (blk_grown (g := c0) (o := .cells #[.int .i64 a0_0, a5] 69 (0, 0)) (qf_ a4) hg (Kd.R_ne a0.out a4.out (by decide))); replace b0 := am_ (blk_grown (g := a9) (o := .cells #[.int .i64 ((rd_T72 l0_1 x12_1).f0), .int .i64 ((rd_T72 l0_1 x12_1).f1), .int .i64 ((rd_T72 l0_1 x12_1).f2), .bool ((rd_T72 l0_1 x12_1).f3)] 72 (0, 0)) (by (with_reducible repeat (first | refine blk_drewN ?_ _ | refine blk_drew ?_ | refine blk_alloc ?_ _)); refine blk_put (cs := #[.int .i64 ((rd_T72 l0_1 x12_1).f0), .int .i64 ((rd_T72 l0_1 x12_1).f1), .int .i64 ((rd_T72 l0_1 x12_1).f2), .bool false]) ?_ 3 _ rfl; (with_reducible repeat (first | refine blk_drewN ?_ _ | refine blk_drew ?_ | refine blk_alloc ?_ _)); refine blk_put (cs := #[.int .i64 ((rd_T72 l0_1 x12_1).f0), .int .i64 ((rd_T72 l0_1 x12_1).f1), .int .i64 0, .bool false]) ?_ 2 _ rfl; (with_reducible repeat (first | refine blk_drewN ?_ _ | refine blk_drew ?_ | refine blk_alloc ?_ _)); refine blk_put (cs := #[.int .i64 ((rd_T72 l0_1 x12_1).f0), .int .i64 0, .int .i64 0, .bool false]) ?_ 1 _ rfl; (with_reducible repeat (first | refine blk_drewN ?_ _ | refine blk_drew ?_ | refine blk_alloc ?_ _)); refine blk_put (cs := #[.int .i64 0, .int .i64 0, .int .i64 0, .bool false]) ?_ 0 _ rfl; exact qf_ b0) hg (Kd.R_ne a0.out b0.out (by decide))); replace HB := am_ (hb); clear a0; clear ho hb hg hat; obtain ⟨f5, f6, i2⟩ := Kd.R_slice d1.out; subst i2; obtain ⟨h7, h8, h9, i0⟩ := bc2_ a4))
   go_roundg k1
   case measure => have := HK1.out; omega
   case rel => exact ⟨(wrap64 (x12_1 + 1)), (c9), (.slice f5 c9.length f6), qe_, H', ⟨by have := HK1.out; omega⟩, ⟨by (with_reducible repeat (first | apply Kd.R_alloc | apply Kd.R_drewN | apply Kd.R_drew)); exact Kd.R_mono (Kd.R_far (p := ⟨c0, 1, none⟩) (Kd.R_types d1.out a4.out (by decide)) (fun _ hk => hk.2) (.slice f5 c9.length f6)) (fun _ hk => trivial)⟩, ⟨qf_ a2⟩, ⟨qf_ a3⟩, ⟨by (with_reducible repeat (first | refine blk_drewN ?_ _ | refine blk_drew ?_ | refine blk_alloc ?_ _)); refine blk_put (cs := #[.int .i64 a0_0, a5]) ?_ 1 _ rfl; exact qf_ a4⟩, ⟨qB_⟩⟩
def impl_first.l0 : Nat → List Int → Int → Int → Option (List Int)
  | 0, _, _, _ => none
  | k + 1, x3, x5, x6 => if x6 < x5 then (if x3.length < 17592186044416 then (impl_first.l0 k (x3 ++ [x6]) x5 (wrap64 (x6 + 1))) else (none)) else (some x3)
def impl_first.f (k : Nat) (a0 : Int) : Option (List Int) := impl_first.l0 k ([] : List Int) a0 0
theorem impl_first.mono_l : ∀ k, (∀ y0 y1 y2, LeO (impl_first.l0 k y0 y1 y2) (impl_first.l0 (k + 1) y0 y1 y2))
  | 0 => fun _ _ _ r h => by simp [impl_first.l0] at h
  | k + 1 => by
    have ih0 := impl_first.mono_l k
    · intro y0 y1 y2
      unfold impl_first.l0
      exact lo_
theorem impl_first.mono : ∀ a0 k, LeO (impl_first.f k a0) (impl_first.f (k + 1) a0) := by
  intro a0 k
  have ih0 := impl_first.mono_l k
  unfold impl_first.f
  exact lo_
theorem impl_first.calls (k : Nat) (a0 : Int) (r : List Int) (w : World) (h : impl_first.f k a0 = some r) :
  Calls Try.prog 112 #[.int .i64 a0] w fun e w' => ∃ v0_ : Value, e = .returned (v0_) ∧ Kd.R (Kd.int .i64) 3 w' w.heap.size (fun _ => True) v0_ r ∧ Below w.heap.size w w' := by
 have HB := am_ (Below.refl w.heap.size w)
 rw [impl_first.f] at h; have H := h; clear h; have H' := am_ H; clear H
 go_enter Try.func112, Try.ntmps112
 go_wp2
 go_loopg [3, 6] k (fun kq v3 v6 w' => ∃ (x3_1 : List Int) (x6_1 : Int), v6 = .int .i64 x6_1 ∧ Aside0 (impl_first.l0 kq x3_1 a0 x6_1 = some r) ∧ Aside0 (kq ≤ k) ∧ Aside0 (Kd.R (Kd.int .i64) 3 w' w.heap.size (fun _ => True) v3 x3_1) ∧ Aside0 (Below w.heap.size w w'))
 case atStart => exact ⟨(([] : List Int)), (0), qe_, H', ⟨Nat.le_refl _⟩, ⟨by first | exact Kd.R_nil _ _ _ _ _ | exact Kd.N_nil _ _ _ _ _ | exact Kd.V_nil _ _ _ _ _ | exact Kd.Q_nil _ _ _ _ _ | exact Kd.S_nil _ _ _ _ _⟩, ⟨qB_⟩⟩
 case round =>
  clear H'
  (try clear c1)
  obtain ⟨x3_1, x6_1, rfl, HA, HK1, a2, HB⟩ := hrel
  cases gk with
  | zero => exact absurd HA.out (by simp [impl_first.l0])
  | succ k1 =>
   have H := HA.out; clear HA
   simp only [impl_first.l0] at H
   refine ib_ H ?_ ?_ <;> clear H <;> intro c2b0 H
   ·obtain rfl := oi_ H
    go_wp2
    go_ret
    exact ⟨_, qr_, qR_ a2, qB_⟩
   refine jg_ H ?_; clear H; intro c3 H
   have LMc3 := am_ c3
   clear c3
   obtain ⟨a3, hy419⟩ : ∃ y_ : List Int, y_ = (x3_1 ++ [x6_1]) := ⟨_, rfl⟩
   replace H : (impl_first.l0 k1 a3 a0 (wrap64 (x6_1 + 1))) = some r := hq_ hy419 H
   have Ny419 := am_ hy419
   clear hy419; have H' := am_ H; clear H
   go_wp2_with (first | ((with_reducible refine gate_builtin (b := .append) (xs := #[.tmp 9, .tmp 11]) rfl ?_); at_builtin; refine Kd.R_append (Kd.int .i64) (w0 := w) w.heap.size rfl (.tmp 9) (.tmp 11) 51 3 (.int .i64 0) 8 rfl Try.underlying51 info3 rfl (by decide) (by omega) u3 x3_1 x6_1 [.int .i64 x6_1] (fun _ => True) (fun _ => False) rfl rfl ?aP (fun _ hk => hk.elim) ?aF ?aO ?aB ?aS ?aL ?_; (case aP => exact rfl); (case aB => exact qB_); (case aF => exact (fun _ _ => trivial)); (case aO => exact (qR_ a2)); (case aS => exact (below_size qB_)); (case aL => have := LMc3.out; omega); intro a4 w4 ho hb hg hat; rw [← Ny419.out] at ho; have a1 := am_ (ho); replace HB := am_ (hb); clear a2; clear ho hb hg hat))
   go_roundg k1
   case measure => have := HK1.out; omega
   case rel => exact ⟨(a3), (wrap64 (x6_1 + 1)), qe_, H', ⟨by have := HK1.out; omega⟩, ⟨ra_ a1⟩, ⟨qB_⟩⟩
def impl_union.l0 : Nat → List Int → Int → Int → Int → Int → Option (Bool × List Int)
  | 0, _, _, _, _, _ => none
  | k + 1, x0, x7, x8, x22, x23 => if x23 < x22 then (if 0 ≤ x23 then (if x23 < (x0.length : Int) then (if (rd x0 x23) = (mx x7 x8) then (impl_union.l0 k (x0.set (x23 : Int).toNat (mn x7 x8)) x7 x8 x22 (wrap64 (x23 + 1))) else (impl_union.l0 k x0 x7 x8 x22 (wrap64 (x23 + 1)))) else (none)) else (none)) else (some (true, x0))
def impl_union.f (k : Nat) (l0 : List Int) (a1 : Int) (a2 : Int) : Option (Bool × List Int) := if 0 ≤ a1 then (if a1 < (l0.length : Int) then (if 0 ≤ a2 then (if a2 < (l0.length : Int) then (if (rd l0 a1) = (rd l0 a2) then (some (false, l0)) else (impl_union.l0 k l0 (rd l0 a1) (rd l0 a2) (l0.length : Int) 0)) else (none)) else (none)) else (none)) else (none)
theorem impl_union.mono_l : ∀ k, (∀ y0 y1 y2 y3 y4, LeO (impl_union.l0 k y0 y1 y2 y3 y4) (impl_union.l0 (k + 1) y0 y1 y2 y3 y4))
  | 0 => fun _ _ _ _ _ r h => by simp [impl_union.l0] at h
  | k + 1 => by
    have ih0 := impl_union.mono_l k
    · intro y0 y1 y2 y3 y4
      unfold impl_union.l0
      exact lo_
theorem impl_union.mono : ∀ a0 a1 a2 k, LeO (impl_union.f k a0 a1 a2) (impl_union.f (k + 1) a0 a1 a2) := by
  intro a0 a1 a2 k
  have ih0 := impl_union.mono_l k
  unfold impl_union.f
  exact lo_
theorem impl_union.calls (k : Nat) (P0_ : Nat → Prop) (u9000_ : Value) (l0 : List Int) (a1 : Int) (a2 : Int) (r1 : Bool) (r2 : List Int) (w0 w : World) (hB : Below w0.heap.size w0 w) (ho0 : Kd.R (Kd.int .i64) 3 w w0.heap.size P0_ u9000_ l0) (h : impl_union.f k l0 a1 a2 = some (r1, r2)) :
  Calls Try.prog 113 #[u9000_, .int .i64 a1, .int .i64 a2] w fun e w' => e = .returned (.bool r1) ∧ Kd.R (Kd.int .i64) 3 w' w0.heap.size (fun k_ => (P0_ k_ ∨ w.heap.size ≤ k_)) u9000_ r2 ∧ Below w0.heap.size w0 w' ∧ Kept w w' (fun k_ => P0_ k_) := by
 have a6 := am_ (show Kd.R (Kd.int .i64) 3 w w0.heap.size (fun k_ => (P0_ k_ ∨ w.heap.size ≤ k_)) u9000_ l0 from Kd.R_mono ho0 (fun k_ hk => (.inl hk)))
 have HK := am_ (Kept.refl w (fun k_ => P0_ k_))
 have HW0 := am_ hB.size
 have HB := am_ hB
 clear hB
 have H : (if 0 ≤ a1 then (if a1 < (l0.length : Int) then (if 0 ≤ a2 then (if a2 < (l0.length : Int) then (if (rd l0 a1) = (rd l0 a2) then (some (false, l0)) else (impl_union.l0 k l0 (rd l0 a1) (rd l0 a2) (l0.length : Int) 0)) else (none)) else (none)) else (none)) else (none)) = some (r1, r2) := h
 clear h
 refine ig_ H ?_; clear H; intro c4b0 H
 refine ig_ H ?_; clear H; intro c5b0 H
 refine ig_ H ?_; clear H; intro c6b0 H
 refine ig_ H ?_; clear H; intro c7b0 H
 refine jc_ H ?_ ?_ <;> clear H <;> intro c8 H
 ·have c8b0 : ((rd l0 a1) == (rd l0 a2)) = true := beq_iff_eq.mpr c8
  have c8b1 : ((rd l0 a1) != (rd l0 a2)) = false := bne_eq_false_iff_eq.mpr c8
  clear c8
  simp only [Option.some.injEq, Prod.mk.injEq] at H
  obtain ⟨rfl, rfl⟩ := H
  obtain ⟨b6, b7, b3⟩ := Kd.R_slice a6.out
  subst b3
  have p422 := dp_ a1
  have q422 := dl_ a1 l0.length
  obtain ⟨ad422, e422, a3⟩ := Kd.at_int (Kd.R_reads' a6.out).2.2 a1 p422 q422
  cases e422; replace p422 := eq_true p422; replace q422 := eq_true q422
  have p423 := dp_ a2
  have q423 := dl_ a2 l0.length
  obtain ⟨ad423, e423, a4⟩ := Kd.at_int (Kd.R_reads' a6.out).2.2 a2 p423 q423
  obtain rfl : ad422 = ad423 := (by injection e423)
  replace p423 := eq_true p423; replace q423 := eq_true q423
  go_enter Try.func113, Try.ntmps113
  go_wp2
  repeat (go_quiet (fail); try go_wp2)
  go_ret
  exact ⟨qr_, qR_ a6, by repeat (first | (with_reducible first | exact HB.out | apply below_alloc | apply pw_below_drewN | apply below_drew1) | exact HB.out), by repeat (first | (with_reducible first | exact HK.out | apply Kept.alloc | apply Kept.drewN | apply Kept.drew) | exact HK.out)⟩
 have c8b0 : ((rd l0 a1) == (rd l0 a2)) = false := beq_eq_false_iff_ne.mpr c8
 have c8b1 : ((rd l0 a1) != (rd l0 a2)) = true := bne_iff_ne.mpr c8
 have H' := am_ H; clear H
 obtain ⟨b4, a8, b1⟩ := Kd.R_slice a6.out
 subst b1
 have p422 := dp_ a1
 have q422 := dl_ a1 l0.length
 obtain ⟨ad422, e422, a3⟩ := Kd.at_int (Kd.R_reads' a6.out).2.2 a1 p422 q422
 cases e422; replace p422 := eq_true p422; replace q422 := eq_true q422
 have p423 := dp_ a2
 have q423 := dl_ a2 l0.length
 obtain ⟨ad423, e423, a4⟩ := Kd.at_int (Kd.R_reads' a6.out).2.2 a2 p423 q423
 obtain rfl : ad422 = ad423 := (by injection e423)
 replace p423 := eq_true p423; replace q423 := eq_true q423
 go_enter Try.func113, Try.ntmps113
 go_wp2
 repeat (go_quiet (fail); try go_wp2)
 go_loopg [23] k (fun kq v23 w' => ∃ (x0_1 : List Int) (x23_1 : Int), v23 = .int .i64 x23_1 ∧ Aside0 (impl_union.l0 kq x0_1 (rd l0 a1) (rd l0 a2) (l0.length : Int) x23_1 = some (r1, r2)) ∧ Aside0 (kq ≤ k) ∧ Aside0 (Kd.R (Kd.int .i64) 3 w' w0.heap.size (fun k_ => (P0_ k_ ∨ w.heap.size ≤ k_)) (.slice (some ad422) l0.length a8) x0_1) ∧ Aside0 (Kept w w' (fun k_ => P0_ k_)) ∧ Aside0 (Below w0.heap.size w0 w'))
 case atStart => exact ⟨(l0), (0), qe_, H', ⟨Nat.le_refl _⟩, ⟨ra_ a6⟩, ⟨by repeat (first | (with_reducible first | exact HK.out | apply Kept.alloc | apply Kept.drewN | apply Kept.drew) | exact HK.out)⟩, ⟨qB_⟩⟩
 case round =>
  clear H'
  (try clear c1); (try clear p2); (try clear c4); (try clear c4b0); (try clear p4); (try clear q4); (try clear b8); (try clear c5); (try clear c5b0); (try clear c6); (try clear c6b0); (try clear c7); (try clear c7b0); (try clear c8); (try clear c8b0); (try clear c8b1); (try clear a3); (try clear a4); (try clear p422); (try clear p423); (try clear q422); (try clear q423)
  obtain ⟨x0_1, x23_1, rfl, HA, HK1, a0, HK, HB⟩ := hrel
  have hl0_1 := (Kd.R_reads' a0.out).1
  rw [hl0_1] at a0
  (try simp only [hl0_1])
  cases gk with
  | zero => exact absurd HA.out (by simp [impl_union.l0])
  | succ k1 =>
   have H := HA.out; clear HA
   simp only [impl_union.l0] at H
   refine jb_ H ?_ ?_ <;> clear H <;> intro c11 H
   ·have c11b0 := decide_eq_false c11
    (try rw [hl0_1] at c11b0)
    clear c11
    simp only [Option.some.injEq, Prod.mk.injEq] at H
    obtain ⟨rfl, rfl⟩ := H
    go_wp2
    repeat (go_quiet (fail); try go_wp2)
    go_ret
    exact ⟨qr_, (by first | exact (qR_ a0) | (simp only [hl0_1]; exact (qR_ a0))), by repeat (first | (with_reducible first | exact HB.out | apply below_alloc | apply pw_below_drewN | apply below_drew1) | exact HB.out), by repeat (first | (with_reducible first | exact HK.out | apply Kept.alloc | apply Kept.drewN | apply Kept.drew) | exact HK.out)⟩
   have c11b0 := decide_eq_true c11
   (try rw [hl0_1] at c11b0)
   clear c11
   refine ig_ H ?_; clear H; intro c12b0 H
   refine ig_ H ?_; clear H; intro c13b0 H
   obtain ⟨ji14, hji14⟩ : ∃ j_ : Int, (mx (rd l0 a1) (rd l0 a2)) = j_ := ⟨_, rfl⟩
   first | rw [hji14] at H | simp only [hji14] at H
   have hji14_ : (if (rd l0 a1) < (rd l0 a2) then (rd l0 a2) else (rd l0 a1)) = ji14 := hji14
   refine jb_ H ?_ ?_ <;> clear H <;> intro c15 H
   ·have c15b0 : ((rd x0_1 x23_1) == (ji14)) = false := beq_eq_false_iff_ne.mpr c15
    have c15b1 : ((rd x0_1 x23_1) != (ji14)) = true := bne_iff_ne.mpr c15
    have H' := am_ H; clear H
    have p424 := dp_ x23_1
    have q424 := dl_ x23_1 x0_1.length
    obtain ⟨ad424, e424, a5⟩ := Kd.at_int (Kd.R_reads' a0.out).2.2 x23_1 p424 q424
    obtain rfl : ad422 = ad424 := (by injection e424)
    replace p424 := eq_true p424; replace q424 := eq_true q424
    go_wp2
    repeat (go_quiet (fail); try go_wp2)
    (try simp only [← hl0_1])
    go_roundg k1
    case measure => have := HK1.out; omega
    case rel => exact ⟨(x0_1), (wrap64 (x23_1 + 1)), qe_, H', ⟨by have := HK1.out; omega⟩, ⟨by (try simp only [hl0_1]); (with_reducible repeat (first | apply Kd.R_alloc | apply Kd.R_drewN | apply Kd.R_drew)); first | exact a0.out | (have h_ := a0.out; simp only [own_slice] at h_ ⊢; exact h_)⟩, ⟨by repeat (first | (with_reducible first | exact HK.out | apply Kept.alloc | apply Kept.drewN | apply Kept.drew) | exact HK.out)⟩, ⟨qB_⟩⟩
   have c15b0 : ((rd x0_1 x23_1) == (ji14)) = true := beq_iff_eq.mpr c15
   have c15b1 : ((rd x0_1 x23_1) != (ji14)) = false := bne_eq_false_iff_eq.mpr c15
   clear c15
   obtain ⟨ji16, hji16⟩ : ∃ j_ : Int, (mn (rd l0 a1) (rd l0 a2)) = j_ := ⟨_, rfl⟩
   first | rw [hji16] at H | simp only [hji16] at H
   have hji16_ : (if (rd l0 a2) < (rd l0 a1) then (rd l0 a2) else (rd l0 a1)) = ji16 := hji16
   obtain ⟨a7, hy425⟩ : ∃ y_ : List Int, y_ = (x0_1.set (x23_1 : Int).toNat (ji16)) := ⟨_, rfl⟩
   replace H : (impl_union.l0 k1 a7 (rd l0 a1) (rd l0 a2) (l0.length : Int) (wrap64 (x23_1 + 1))) = some (r1, r2) := hq_ hy425 H
   have Ny425 := am_ hy425
   clear hy425; have H' := am_ H; clear H
   have p424 := dp_ x23_1
   have q424 := dl_ x23_1 x0_1.length
   obtain ⟨ad424, e424, a5⟩ := Kd.at_int (Kd.R_reads' a0.out).2.2 x23_1 p424 q424
   obtain rfl : ad422 = ad424 := (by injection e424)
   replace p424 := eq_true p424; replace q424 := eq_true q424
   have p17 := dp_ x23_1
   have q17 : (x23_1 : Int) < ((x0_1.length : Int) : Int) := of_decide_eq_true qa_
   obtain ⟨go17, b5, a9, b0, gl17, cl17, HG17⟩ := Kd.R_form a0.out (by omega)
   (first | cases a9 | (injection a9 with ea_ en_ ec_; (first | subst ea_ | (injection ea_ with ea_; subst ea_)); subst ec_; clear en_))
   have GB17 := am_ b0
   have GG17 := am_ HG17
   clear b0 gl17 HG17
   have HMgo17 := am_ (show (P0_ go17 ∨ w.heap.size ≤ go17) from (a0.out.1 _ rfl))
   (first | simp only [add_plain] at a3 | skip)
   (first | simp only [add_plain] at a4 | skip)
   (first | simp only [add_plain] at a5 | skip)
   (try simp only [add_plain] at *)
   obtain ⟨b2, hf17_0⟩ := Kd.R_celln 0 a0.out (x23_1 : Int) p17 q17
   replace p17 := eq_true p17; replace q17 := eq_true q17
   have HP18 := Kd.R_putg a0.out (x23_1 : Int) ji16
   go_wp2_with (first | ((with_reducible refine gate_store (t := 3) (p := 39) rfl ?_); (try (rw [drewN_self wr]; generalize hq_ : World.drewN wr _ = wr; have n0_ := am_ (Kd.R_at hq_ a0.out); have n1_ := am_ (kept_at hq_ HK.out); have n2_ := am_ (below_at hq_ HB.out); clear hq_ a0 HK HB; have a0 := n0_; have HK := n1_; have HB := n2_; clear n0_ n1_ n2_; (try (have HP18 := Kd.R_putg a0.out (x23_1 : Int) ji16)))); refine store_event (t := 3) (p := 39) (v := ?vo_w19) (w1 := (wr.setCell ⟨go17, (x23_1 : Int).toNat, none⟩ (.int .i64 ji16))) ?hg ?ho ?hn ?hr ?_; (case ho => rfl); (case hg => rfl); (case hn => rfl); (case hr => first | (go_simp; done) | (go_simp; rfl)); intro w19 hw; have hg : wr.grownBy w19 (some go17) := (by rw [hw]; exact HP18.2); have hp_ : Kd.R (Kd.int .i64) 3 w19 w0.heap.size (fun k_ => (P0_ k_ ∨ w.heap.size ≤ k_)) (.slice (some ⟨go17, 0, none⟩) x0_1.length a8) a7 := (by rw [hw, Ny425.out]; exact HP18.1); clear HP18; have n0_ := am_ (hp_); have n1_ := am_ ((by rw [hw]; exact below_set (HB.out) GB17.out : Below w0.heap.size w0 w19)); have n2_ := am_ (Kept.of_grown (S := (fun k_ => P0_ k_)) hg (by repeat (first | (with_reducible first | exact HK.out | apply Kept.alloc | apply Kept.drewN | apply Kept.drew) | exact HK.out)) (fun k_ e_ => (a0.out.1 k_ e_))); clear a0; clear HB; clear HK; have a0 := n0_; have HB := n1_; have HK := n2_; clear n0_ n1_ n2_; clear hg hw hp_))
   repeat (go_quiet (fail); try go_wp2_with (first | ((with_reducible refine gate_store (t := 3) (p := 39) rfl ?_); (try (rw [drewN_self wr]; generalize hq_ : World.drewN wr _ = wr; have n0_ := am_ (Kd.R_at hq_ a0.out); have n1_ := am_ (kept_at hq_ HK.out); have n2_ := am_ (below_at hq_ HB.out); clear hq_ a0 HK HB; have a0 := n0_; have HK := n1_; have HB := n2_; clear n0_ n1_ n2_; (try (have HP18 := Kd.R_putg a0.out (x23_1 : Int) ji16)))); refine store_event (t := 3) (p := 39) (v := ?vo_w19) (w1 := (wr.setCell ⟨go17, (x23_1 : Int).toNat, none⟩ (.int .i64 ji16))) ?hg ?ho ?hn ?hr ?_; (case ho => rfl); (case hg => rfl); (case hn => rfl); (case hr => first | (go_simp; done) | (go_simp; rfl)); intro w19 hw; have hg : wr.grownBy w19 (some go17) := (by rw [hw]; exact HP18.2); have hp_ : Kd.R (Kd.int .i64) 3 w19 w0.heap.size (fun k_ => (P0_ k_ ∨ w.heap.size ≤ k_)) (.slice (some ⟨go17, 0, none⟩) x0_1.length a8) a7 := (by rw [hw, Ny425.out]; exact HP18.1); clear HP18; have n0_ := am_ (hp_); have n1_ := am_ ((by rw [hw]; exact below_set (HB.out) GB17.out : Below w0.heap.size w0 w19)); have n2_ := am_ (Kept.of_grown (S := (fun k_ => P0_ k_)) hg (by repeat (first | (with_reducible first | exact HK.out | apply Kept.alloc | apply Kept.drewN | apply Kept.drew) | exact HK.out)) (fun k_ e_ => (a0.out.1 k_ e_))); clear a0; clear HB; clear HK; have a0 := n0_; have HB := n1_; have HK := n2_; clear n0_ n1_ n2_; clear hg hw hp_)))
   (try simp only [← hl0_1])
   go_roundg k1
   case measure => have := HK1.out; omega
   case rel => exact ⟨(a7), (wrap64 (x23_1 + 1)), qe_, H', ⟨by have := HK1.out; omega⟩, ⟨by (try simp only [hl0_1]); (with_reducible repeat (first | apply Kd.R_alloc | apply Kd.R_drewN | apply Kd.R_drew)); first | exact a0.out | (have h_ := a0.out; simp only [own_slice] at h_ ⊢; exact h_)⟩, ⟨by repeat (first | (with_reducible first | exact HK.out | apply Kept.alloc | apply Kept.drewN | apply Kept.drew) | exact HK.out)⟩, ⟨qB_⟩⟩
def impl_rings.l0 : Nat → List Int → List (S43) → Int → Int → Option (Bool)
  | 0, _, _, _, _ => none
  | k + 1, x5, x10, x11, x12 => if x12 < x11 then (if 0 ≤ x12 then (if x12 < (x10.length : Int) then ((impl_union.f k x5 ((rd_T43 x10 x12).f0) ((rd_T43 x10 x12).f1)).bind fun bt431 => (if bt431.1 = true then (impl_rings.l0 k bt431.2 x10 x11 (wrap64 (x12 + 1))) else (some true))) else (none)) else (none)) else (some false)
def impl_rings.f (k : Nat) (a0 : Int) (l1 : List (S43)) : Option (Bool) := (impl_first.f k a0).bind fun t426 => (impl_rings.l0 k t426 l1 (l1.length : Int) 0)
theorem impl_rings.mono_l : ∀ k, (∀ y0 y1 y2 y3, LeO (impl_rings.l0 k y0 y1 y2 y3) (impl_rings.l0 (k + 1) y0 y1 y2 y3))
  | 0 => fun _ _ _ _ r h => by simp [impl_rings.l0] at h
  | k + 1 => by
    have ih0 := impl_rings.mono_l k
    have m0 := @impl_first.mono; have m1 := @impl_union.mono
    · intro y0 y1 y2 y3
      unfold impl_rings.l0
      exact lo_
theorem impl_rings.mono : ∀ a0 a1 k, LeO (impl_rings.f k a0 a1) (impl_rings.f (k + 1) a0 a1) := by
  intro a0 a1 k
  have ih0 := impl_rings.mono_l k
  have m0 := @impl_first.mono; have m1 := @impl_union.mono
  unfold impl_rings.f
  exact lo_
theorem impl_rings.calls (k : Nat) (a0 : Int) (A1 : Option Addr) (c1 : Nat) (l1 : List (S43)) (r : Bool) (w : World) (hr1 : Kd.C k43 w A1 l1.length l1) (hc1 : l1.length ≤ c1) (h : impl_rings.f k a0 l1 = some r) :
  Calls Try.prog 64 #[.int .i64 a0, .slice A1 l1.length c1] w fun e w' => e = .returned (.bool r) ∧ Below w.heap.size w w' := by
 have hu43 := Try.underlying43
 have e0 := am_ hr1
 have e1 := am_ hc1
 clear hr1 hc1
 have HB := am_ (Below.refl w.heap.size w)
 rw [impl_rings.f] at h; have H := h; clear h
 obtain ⟨a8, A3, H⟩ := bs_ H
 have H' := am_ H; clear H
 go_enter Try.func64, Try.ntmps64
 go_wp2_with (first | ((with_reducible refine gc_ 112 ?_); refine gl_ (some 9) Try.func112 #[.int .i64 a0] ?_; (with_reducible refine (impl_first.calls k a0 a8 _ A3.out).mono ?_); rintro e w4 ⟨b1, rfl, ho0, hb⟩; refine ⟨_, rfl, ?_⟩; have b0 := am_ (Kd.R_lower ho0 (below_size qB_)); replace HB := hs_ hb; (try clear hb); (try clear hb2); (try clear hk); (try clear hi); (try clear ho0)))
 go_loopg [12] k (fun kq v12 w' => ∃ (x5_1 : List Int) (x12_1 : Int), v12 = .int .i64 x12_1 ∧ Aside0 (impl_rings.l0 kq x5_1 l1 (l1.length : Int) x12_1 = some r) ∧ Aside0 (kq ≤ k) ∧ Aside0 (Kd.R (Kd.int .i64) 3 w' w.heap.size (fun _ => True) b1 x5_1) ∧ Aside0 (Below w.heap.size w w'))
 case atStart => exact ⟨(a8), (0), qe_, H', ⟨Nat.le_refl _⟩, ⟨ra_ b0⟩, ⟨qB_⟩⟩
 case round =>
  clear H'
  (try clear c1); (try clear p2)
  obtain ⟨x5_1, x12_1, rfl, HA, HK1, a2, HB⟩ := hrel
  cases gk with
  | zero => exact absurd HA.out (by simp [impl_rings.l0])
  | succ k1 =>
   have H := HA.out; clear HA
   simp only [impl_rings.l0] at H
   refine ib_ H ?_ ?_ <;> clear H <;> intro c5b0 H
   ·obtain rfl := oi_ H
    go_wp2
    go_ret
    exact ⟨qr_, qB_⟩
   refine ig_ H ?_; clear H; intro c6b0 H
   refine ig_ H ?_; clear H; intro c7b0 H
   replace H := Option.bind_eq_some_iff.mp H
   obtain ⟨⟨b6, a9⟩, A80, H⟩ := H
   replace H : (if b6 = true then (impl_rings.l0 k1 a9 l1 (l1.length : Int) (wrap64 (x12_1 + 1))) else (some true)) = some r := H
   have A8 := am_ A80
   clear A80
   refine ie_ H ?_ ?_ <;> clear H <;> rintro rfl H
   ·have H' := am_ H; clear H
    have p429 := dp_ x12_1
    have q429 := dl_ x12_1 l1.length
    obtain ⟨ad429, e429, a4, a5⟩ := at_T43 e0.out x12_1 p429 q429
    cases e429
    replace a4 := qx_ HB a4
    replace a5 := qx_ HB a5
    replace p429 := eq_true p429; replace q429 := eq_true q429
    go_wp2_with (first | ((with_reducible refine gd_ 7 ?_); refine by_ 7 (cs := #[.int .i64 0, .int .i64 0]) (t := 43) ?_; intro a3 hg w10 a1 hb; have a6 := gw_ hg; replace a2 := kb_ a2 hb; replace HB := hs_ hb; clear hb hg; obtain ⟨b7, b8, b9, c0⟩ := bc2_ a1) | ((with_reducible refine gate_store (t := 43) (p := 7) rfl ?_); refine store_event (t := 43) (p := 7) (v := ?vo_w12) (w1 := ((w10.setCell ⟨a3, 0, none⟩ (.int .i64 ((rd_T43 l1 x12_1).f0))).setCell ⟨a3, 1, none⟩ (.int .i64 ((rd_T43 l1 x12_1).f1)))) ?hg ?ho ?hn ?hr ?_; (case ho => rfl); (case hg => rfl); (case hn => rfl); (case hr => first | (go_simp; done) | (go_simp; rfl)); intro w12 hw; have n0_ : Aside0 (Kd.R (Kd.int .i64) 3 w12 w.heap.size (fun _ => True) b1 x5_1) := ⟨(by rw [hw]; exact (by (with_reducible repeat (first | apply Kd.R_alloc | apply Kd.R_drewN | apply Kd.R_drew)); exact Kd.R_mono (Kd.R_far (p := ⟨a3, 1, none⟩) (Kd.R_far (p := ⟨a3, 0, none⟩) (Kd.R_types a2.out a1.out (by decide)) (fun _ hk => hk.2) (.int .i64 ((rd_T43 l1 x12_1).f0))) (fun _ hk => hk.2) (.int .i64 ((rd_T43 l1 x12_1).f1))) (fun _ hk => trivial)))⟩; have n1_ : Aside0 (w12.heap[a3]? = some (.cells #[.int .i64 ((rd_T43 l1 x12_1).f0), .int .i64 ((rd_T43 l1 x12_1).f1)] 43 (0, 0))) := ⟨(by rw [hw]; exact (by (with_reducible repeat (first | refine blk_drewN ?_ _ | refine blk_drew ?_ | refine blk_alloc ?_ _)); refine blk_put (cs := #[.int .i64 ((rd_T43 l1 x12_1).f0), .int .i64 0]) ?_ 1 _ rfl; (with_reducible repeat (first | refine blk_drewN ?_ _ | refine blk_drew ?_ | refine blk_alloc ?_ _)); refine blk_put (cs := #[.int .i64 0, .int .i64 0]) ?_ 0 _ rfl; exact qf_ a1))⟩; have n2_ : Aside0 (Below w.heap.size w w12) := ⟨(by rw [hw]; exact qB_)⟩; clear hw; clear a2; clear a1; clear HB; have a2 := n0_; have a1 := n1_; have HB := n2_; clear n0_ n1_ n2_; obtain ⟨c2, c3, c4, c8⟩ := bc2_ a1; obtain ⟨b2, b3, d8⟩ := Kd.R_slice a2.out; subst d8) | ((with_reducible refine gc_ 113 ?_); refine gl_ (some 21) Try.func113 #[.slice b2 x5_1.length b3, .int .i64 ((rd_T43 l1 x12_1).f0), .int .i64 ((rd_T43 l1 x12_1).f1)] ?_; (with_reducible refine (impl_union.calls k1 (fun k_ => some k_ = (.slice b2 x5_1.length b3 : Value).ownBlock) (.slice b2 x5_1.length b3) x5_1 ((rd_T43 l1 x12_1).f0) ((rd_T43 l1 x12_1).f1) true a9 w _ ?side1 ?side2 A8.out).mono ?_); (case side1 => repeat (first | (with_reducible first | exact HB.out | apply below_alloc | apply pw_below_drewN | apply below_drew1 | refine below_set ?_ a6.out) | exact HB.out)); (case side2 => exact Kd.R_tight rfl a2.out); rintro e w15 ⟨rfl, hy0, hb, hkp⟩; refine ⟨_, rfl, ?_⟩; have n0_ := am_ (Kd.R_reok rfl hy0 (fun k_ e_ => a2.out.1 k_ e_)); have n1_ := (qkp_ a1 hkp (fun hs_ => (fun e_ => (Kd.R_ne a2.out a1.out (by decide)) e_) hs_)); have n2_ := am_ (hb); clear a2; clear a1; clear HB; have a2 := n0_; have a1 := n1_; have HB := n2_; clear n0_ n1_ n2_; (try clear hb); (try clear hkp); (try clear hy0)))
    go_roundg k1
    case measure => have := HK1.out; omega
    case rel => exact ⟨(a9), (wrap64 (x12_1 + 1)), qe_, H', ⟨by have := HK1.out; omega⟩, ⟨ra_ a2⟩, ⟨qB_⟩⟩
   obtain rfl := oi_ H
   have p429 := dp_ x12_1
   have q429 := dl_ x12_1 l1.length
   obtain ⟨ad429, e429, a4, a5⟩ := at_T43 e0.out x12_1 p429 q429
   cases e429
   replace a4 := qx_ HB a4
   replace a5 := qx_ HB a5
   replace p429 := eq_true p429; replace q429 := eq_true q429
   go_wp2_with (first | ((with_reducible refine gd_ 7 ?_); refine by_ 7 (cs := #[.int .i64 0, .int .i64 0]) (t := 43) ?_; intro a3 hg w16 a1 hb; have a6 := gw_ hg; replace a2 := kb_ a2 hb; replace HB := hs_ hb; clear hb hg; obtain ⟨d0, d1, d2, d3⟩ := bc2_ a1) | ((with_reducible refine gate_store (t := 43) (p := 7) rfl ?_); refine store_event (t := 43) (p := 7) (v := ?vo_w18) (w1 := ((w16.setCell ⟨a3, 0, none⟩ (.int .i64 ((rd_T43 l1 x12_1).f0))).setCell ⟨a3, 1, none⟩ (.int .i64 ((rd_T43 l1 x12_1).f1)))) ?hg ?ho ?hn ?hr ?_; (case ho => rfl); (case hg => rfl); (case hn => rfl); (case hr => first | (go_simp; done) | (go_simp; rfl)); intro w18 hw; have n0_ : Aside0 (Kd.R (Kd.int .i64) 3 w18 w.heap.size (fun _ => True) b1 x5_1) := ⟨(by rw [hw]; exact (by (with_reducible repeat (first | apply Kd.R_alloc | apply Kd.R_drewN | apply Kd.R_drew)); exact Kd.R_mono (Kd.R_far (p := ⟨a3, 1, none⟩) (Kd.R_far (p := ⟨a3, 0, none⟩) (Kd.R_types a2.out a1.out (by decide)) (fun _ hk => hk.2) (.int .i64 ((rd_T43 l1 x12_1).f0))) (fun _ hk => hk.2) (.int .i64 ((rd_T43 l1 x12_1).f1))) (fun _ hk => trivial)))⟩; have n1_ : Aside0 (w18.heap[a3]? = some (.cells #[.int .i64 ((rd_T43 l1 x12_1).f0), .int .i64 ((rd_T43 l1 x12_1).f1)] 43 (0, 0))) := ⟨(by rw [hw]; exact (by (with_reducible repeat (first | refine blk_drewN ?_ _ | refine blk_drew ?_ | refine blk_alloc ?_ _)); refine blk_put (cs := #[.int .i64 ((rd_T43 l1 x12_1).f0), .int .i64 0]) ?_ 1 _ rfl; (with_reducible repeat (first | refine blk_drewN ?_ _ | refine blk_drew ?_ | refine blk_alloc ?_ _)); refine blk_put (cs := #[.int .i64 0, .int .i64 0]) ?_ 0 _ rfl; exact qf_ a1))⟩; have n2_ : Aside0 (Below w.heap.size w w18) := ⟨(by rw [hw]; exact qB_)⟩; clear hw; clear a2; clear a1; clear HB; have a2 := n0_; have a1 := n1_; have HB := n2_; clear n0_ n1_ n2_; obtain ⟨d4, d5, d6, d7⟩ := bc2_ a1; obtain ⟨b4, b5, d9⟩ := Kd.R_slice a2.out; subst d9) | ((with_reducible refine gc_ 113 ?_); refine gl_ (some 21) Try.func113 #[.slice b4 x5_1.length b5, .int .i64 ((rd_T43 l1 x12_1).f0), .int .i64 ((rd_T43 l1 x12_1).f1)] ?_; (with_reducible refine (impl_union.calls k1 (fun k_ => some k_ = (.slice b4 x5_1.length b5 : Value).ownBlock) (.slice b4 x5_1.length b5) x5_1 ((rd_T43 l1 x12_1).f0) ((rd_T43 l1 x12_1).f1) false a9 w _ ?side1 ?side2 A8.out).mono ?_); (case side1 => repeat (first | (with_reducible first | exact HB.out | apply below_alloc | apply pw_below_drewN | apply below_drew1 | refine below_set ?_ a6.out) | exact HB.out)); (case side2 => exact Kd.R_tight rfl a2.out); rintro e w21 ⟨rfl, hy0, hb, hkp⟩; refine ⟨_, rfl, ?_⟩; have n0_ := am_ (Kd.R_reok rfl hy0 (fun k_ e_ => a2.out.1 k_ e_)); have n1_ := (qkp_ a1 hkp (fun hs_ => (fun e_ => (Kd.R_ne a2.out a1.out (by decide)) e_) hs_)); have n2_ := am_ (hb); clear a2; clear a1; clear HB; have a2 := n0_; have a1 := n1_; have HB := n2_; clear n0_ n1_ n2_; (try clear hb); (try clear hkp); (try clear hy0)))
   go_ret
   exact ⟨qr_, qB_⟩
def impl_treeEdges.l0 : Nat → List (S43) → List (S72) → Int → Int → Option ((List (S43)))
  | 0, _, _, _, _ => none
  | k + 1, x3, x7, x8, x9 => if x9 < x8 then (if 0 ≤ x9 then (if x9 < (x7.length : Int) then (if (rd_T72 x7 x9).f3 = true then (if x3.length < 8796093022208 then (impl_treeEdges.l0 k (x3 ++ [(⟨(rd_T72 x7 x9).f0, (rd_T72 x7 x9).f1⟩ : S43)]) x7 x8 (wrap64 (x9 + 1))) else (none)) else (impl_treeEdges.l0 k x3 x7 x8 (wrap64 (x9 + 1)))) else (none)) else (none)) else (some x3)
def impl_treeEdges.f (k : Nat) (a0_0 : Int) (l0_1 : List (S72)) : Option ((List (S43))) := impl_treeEdges.l0 k ([] : List (S43)) l0_1 (l0_1.length : Int) 0
theorem impl_treeEdges.mono_l : ∀ k, (∀ y0 y1 y2 y3, LeO (impl_treeEdges.l0 k y0 y1 y2 y3) (impl_treeEdges.l0 (k + 1) y0 y1 y2 y3))
  | 0 => fun _ _ _ _ r h => by simp [impl_treeEdges.l0] at h
  | k + 1 => by
    have ih0 := impl_treeEdges.mono_l k
    · intro y0 y1 y2 y3
      unfold impl_treeEdges.l0
      exact lo_
theorem impl_treeEdges.mono : ∀ a0 a1 k, LeO (impl_treeEdges.f k a0 a1) (impl_treeEdges.f (k + 1) a0 a1) := by
  intro a0 a1 k
  have ih0 := impl_treeEdges.mono_l k
  unfold impl_treeEdges.f
  exact lo_
theorem impl_treeEdges.calls (k : Nat) (a0_0 : Int) (A0_1 : Option Addr) (c0_1 : Nat) (l0_1 : List (S72)) (r : List (S43)) (w : World) (hr0_1 : Kd.C k72 w A0_1 l0_1.length l0_1) (hc0_1 : l0_1.length ≤ c0_1) (h : impl_treeEdges.f k a0_0 l0_1 = some r) :
  Calls Try.prog 65 #[.agg #[.int .i64 a0_0, .slice A0_1 l0_1.length c0_1]] w fun e w' => ∃ v0_ : Value, e = .returned (v0_) ∧ Kd.R k43 43 w' w.heap.size (fun _ => True) v0_ r ∧ Below w.heap.size w w' := by
 have hu29 := Try.underlying29; have hu72 := Try.underlying72; have hu43 := Try.underlying43
 have HR0_1 := am_ hr0_1
 have HC0_1 := am_ hc0_1
 clear hr0_1 hc0_1
 have HB := am_ (Below.refl w.heap.size w)
 rw [impl_treeEdges.f] at h; have H := h; clear h; have H' := am_ H; clear H
 go_enter Try.func65, Try.ntmps65
 go_wp2_with (first | ((with_reducible refine gd_ 1 ?_); refine by_ 1 (cs := #[.int .i64 a0_0, .slice A0_1 l0_1.length c0_1]) (t := 29) ?_; intro b1 hg w2 a0 hb; have b7 := gw_ hg; replace HB := hs_ hb; clear hb hg; obtain ⟨b3, b4, b5, b6⟩ := bc2_ a0))
 go_loopg [3, 9] k (fun kq v3 v9 w' => ∃ (x3_1 : List (S43)) (x9_1 : Int), v9 = .int .i64 x9_1 ∧ Aside0 (impl_treeEdges.l0 kq x3_1 l0_1 (l0_1.length : Int) x9_1 = some r) ∧ Aside0 (kq ≤ k) ∧ Aside0 (Kd.R k43 43 w' w.heap.size (fun _ => True) v3 x3_1) ∧ Aside0 (w'.heap[b1]? = some (.cells #[.int .i64 a0_0, (.slice A0_1 l0_1.length c0_1)] 29 (0, 0))) ∧ Aside0 (Below w.heap.size w w'))
 case atStart => exact ⟨(([] : List (S43))), (0), qe_, H', ⟨Nat.le_refl _⟩, ⟨by first | exact Kd.R_nil _ _ _ _ _ | exact Kd.N_nil _ _ _ _ _ | exact Kd.V_nil _ _ _ _ _ | exact Kd.Q_nil _ _ _ _ _ | exact Kd.S_nil _ _ _ _ _⟩, ⟨qk_ a0⟩, ⟨qB_⟩⟩
 case round =>
  clear H'
  (try clear p2); (try clear b3 b4 b5 b6)
  obtain ⟨x3_1, x9_1, rfl, HA, HK1, a8, a0, HB⟩ := hrel
  cases gk with
  | zero => exact absurd HA.out (by simp [impl_treeEdges.l0])
  | succ k1 =>
   have H := HA.out; clear HA
   simp only [impl_treeEdges.l0] at H
   refine ib_ H ?_ ?_ <;> clear H <;> intro c4b0 H
   ·obtain rfl := oi_ H
    go_wp2
    go_ret
    exact ⟨_, qr_, qR_ a8, qB_⟩
   refine ig_ H ?_; clear H; intro c5b0 H
   refine ig_ H ?_; clear H; intro c6b0 H
   obtain ⟨bq7, hbq7⟩ : ∃ b_ : Bool, b_ = ((rd_T72 l0_1 x9_1).f3) := ⟨_, rfl⟩
   replace H : (if bq7 = true then (if x3_1.length < 8796093022208 then (impl_treeEdges.l0 k1 (x3_1 ++ [(⟨(rd_T72 l0_1 x9_1).f0, (rd_T72 l0_1 x9_1).f1⟩ : S43)]) l0_1 (l0_1.length : Int) (wrap64 (x9_1 + 1))) else (none)) else (impl_treeEdges.l0 k1 x3_1 l0_1 (l0_1.length : Int) (wrap64 (x9_1 + 1)))) = some r := by rw [← hbq7] at H; exact H
   have Nbq7 := am_ hbq7
   clear hbq7
   refine id_ H ?_ ?_ <;> clear H <;> rintro rfl H
   ·have H' := am_ H; clear H
    have p434 := dp_ x9_1
    have q434 := dl_ x9_1 l0_1.length
    obtain ⟨ad434, e434, a3, a4, a5, a1⟩ := at_T72 HR0_1.out x9_1 p434 q434
    (try rw [← Nbq7.out] at a1)
    cases e434
    replace a3 := qx_ HB a3
    replace a4 := qx_ HB a4
    replace a5 := qx_ HB a5
    replace a1 := qx_ HB a1
    replace p434 := eq_true p434; replace q434 := eq_true q434
    go_wp2_with (first | ((with_reducible refine gd_ 5 ?_); refine by_ 5 (cs := #[.int .i64 0, .int .i64 0, .int .i64 0, .bool false]) (t := 72) ?_; intro a2 hg w14 a7 hb; have b0 := gw_ hg; obtain ⟨a9, a6⟩ := qn_ a0 hg; replace a8 := kb_ a8 hb; replace a0 := qbl_ a0 hb; replace HB := hs_ hb; clear hb hg; obtain ⟨e2, e3⟩ := nn_ a6; obtain ⟨c0, c1, c2, c3, c7, d0, d1, d2⟩ := bc4_ a7))
    go_roundg k1
    case measure => have := HK1.out; omega
    case rel => exact ⟨(x3_1), (wrap64 (x9_1 + 1)), qe_, H', ⟨by have := HK1.out; omega⟩, ⟨by (with_reducible repeat (first | apply Kd.R_alloc | apply Kd.R_drewN | apply Kd.R_drew)); exact Kd.R_mono (Kd.R_far (p := ⟨a2, 3, none⟩) (Kd.R_far (p := ⟨a2, 2, none⟩) (Kd.R_far (p := ⟨a2, 1, none⟩) (Kd.R_far (p := ⟨a2, 0, none⟩) (Kd.R_types a8.out a7.out (by decide)) (fun _ hk => hk.2) (.int .i64 ((rd_T72 l0_1 x9_1).f0))) (fun _ hk => hk.2) (.int .i64 ((rd_T72 l0_1 x9_1).f1))) (fun _ hk => hk.2) (.int .i64 ((rd_T72 l0_1 x9_1).f2))) (fun _ hk => hk.2) (.bool false)) (fun _ hk => trivial)⟩, ⟨qf_ a0⟩, ⟨qB_⟩⟩
   refine jg_ H ?_; clear H; intro c9 H
   have LMc9 := am_ c9
   clear c9
   obtain ⟨b9, hy436⟩ : ∃ y_ : List (S43), y_ = (x3_1 ++ [(⟨(rd_T72 l0_1 x9_1).f0, (rd_T72 l0_1 x9_1).f1⟩ : S43)]) := ⟨_, rfl⟩
   replace H : (impl_treeEdges.l0 k1 b9 l0_1 (l0_1.length : Int) (wrap64 (x9_1 + 1))) = some r := hq_ hy436 H
   have Ny436 := am_ hy436
   clear hy436; have H' := am_ H; clear H
   have p434 := dp_ x9_1
   have q434 := dl_ x9_1 l0_1.length
   obtain ⟨ad434, e434, a3, a4, a5, a1⟩ := at_T72 HR0_1.out x9_1 p434 q434
   (try rw [← Nbq7.out] at a1)
   cases e434
   replace a3 := qx_ HB a3
   replace a4 := qx_ HB a4
   replace a5 := qx_ HB a5
   replace a1 := qx_ HB a1
   replace p434 := eq_true p434; replace q434 := eq_true q434
   go_wp2_with (first | ((with_reducible refine gd_ 5 ?_); refine by_ 5 (cs := #[.int .i64 0, .int .i64 0, .int .i64 0, .bool false]) (t := 72) ?_; intro a2 hg w10 a7 hb; have b0 := gw_ hg; obtain ⟨a9, a6⟩ := qn_ a0 hg; replace a8 := kb_ a8 hb; replace a0 := qbl_ a0 hb; replace HB := hs_ hb; clear hb hg; obtain ⟨e4, e5⟩ := nn_ a6; obtain ⟨d3, d4, d5, d6, d7, d8, d9, e0⟩ := bc4_ a7) | ((with_reducible refine gate_builtin (b := .append) (xs := #[.tmp 15, .tmp 21]) rfl ?_); at_builtin; refine Kd.R_append k43 (w0 := w) w.heap.size rfl (.tmp 15) (.tmp 21) 67 43 (.agg #[(.int .i64 0), (.int .i64 0)]) 16 rfl Try.underlying67 info43 rfl (by decide) (by omega) u3 x3_1 (⟨(rd_T72 l0_1 x9_1).f0, (rd_T72 l0_1 x9_1).f1⟩ : S43) [.int .i64 ((rd_T72 l0_1 x9_1).f0), .int .i64 ((rd_T72 l0_1 x9_1).f1)] (fun _ => True) (fun _ => False) rfl (by first | (go_simp; done) | (go_simp; rfl)) ?aP (fun _ hk => hk.elim) ?aF ?aO ?aB ?aS ?aL ?_; (case aP => exact k43_mkM _ _ _ (⟨(rd_T72 l0_1 x9_1).f0, (rd_T72 l0_1 x9_1).f1⟩ : S43)); (case aB => exact qB_); (case aF => exact (fun _ _ => trivial)); (case aO => exact (by (with_reducible repeat (first | apply Kd.R_alloc | apply Kd.R_drewN | apply Kd.R_drew)); exact Kd.R_mono (Kd.R_far (p := ⟨a2, 3, none⟩) (Kd.R_far (p := ⟨a2, 2, none⟩) (Kd.R_far (p := ⟨a2, 1, none⟩) (Kd.R_far (p := ⟨a2, 0, none⟩) (Kd.R_types a8.out a7.out (by decide)) (fun _ hk => hk.2) (.int .i64 ((rd_T72 l0_1 x9_1).f0))) (fun _ hk => hk.2) (.int .i64 ((rd_T72 l0_1 x9_1).f1))) (fun _ hk => hk.2) (.int .i64 ((rd_T72 l0_1 x9_1).f2))) (fun _ hk => hk.2) (.bool true)) (fun _ hk => trivial))); (case aS => exact (below_size qB_)); (case aL => have := LMc9.out; omega); intro e6 w13 ho hb hg hat; rw [← Ny436.out] at ho; have b2 := am_ (ho); replace a0 := am_ (blk_grown (g := b1) (o := .cells #[.int .i64 a0_0, .slice (some ad434) l0_1.length c0_1] 29 (0, 0)) (qf_ a0) hg (Kd.R_ne a8.out a0.out (by decide))); replace a7 := am_ (blk_grown (g := a2) (o := .cells #[.int .i64 ((rd_T72 l0_1 x9_1).f0), .int .i64 ((rd_T72 l0_1 x9_1).f1), .int .i64 ((rd_T72 l0_1 x9_1).f2), .bool true] 72 (0, 0)) (by (with_reducible repeat (first | refine blk_drewN ?_ _ | refine blk_drew ?_ | refine blk_alloc ?_ _)); refine blk_put (cs := #[.int .i64 ((rd_T72 l0_1 x9_1).f0), .int .i64 ((rd_T72 l0_1 x9_1).f1), .int .i64 ((rd_T72 l0_1 x9_1).f2), .bool false]) ?_ 3 _ rfl; (with_reducible repeat (first | refine blk_drewN ?_ _ | refine blk_drew ?_ | refine blk_alloc ?_ _)); refine blk_put (cs := #[.int .i64 ((rd_T72 l0_1 x9_1).f0), .int .i64 ((rd_T72 l0_1 x9_1).f1), .int .i64 0, .bool false]) ?_ 2 _ rfl; (with_reducible repeat (first | refine blk_drewN ?_ _ | refine blk_drew ?_ | refine blk_alloc ?_ _)); refine blk_put (cs := #[.int .i64 ((rd_T72 l0_1 x9_1).f0), .int .i64 0, .int .i64 0, .bool false]) ?_ 1 _ rfl; (with_reducible repeat (first | refine blk_drewN ?_ _ | refine blk_drew ?_ | refine blk_alloc ?_ _)); refine blk_put (cs := #[.int .i64 0, .int .i64 0, .int .i64 0, .bool false]) ?_ 0 _ rfl; exact qf_ a7) hg (Kd.R_ne a8.out a7.out (by decide))); replace HB := am_ (hb); clear a8; clear ho hb hg hat))
   go_roundg k1
   case measure => have := HK1.out; omega
   case rel => exact ⟨(b9), (wrap64 (x9_1 + 1)), qe_, H', ⟨by have := HK1.out; omega⟩, ⟨ra_ b2⟩, ⟨qk_ a0⟩, ⟨qB_⟩⟩
end Go.Proofs.Ytbkklafkoegdpaa.QFnExactWebAdd
