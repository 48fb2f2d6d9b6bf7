import Derived.Test.YtbkklafkoegdpaaQFnExactLinkx2
namespace Go.Proofs.Ytbkklafkoegdpaa.QFnExactLink
open Go.RowKit Go.Proofs.YtbkklafkoegdpaaW.PrintWords Go.Proofs.YtbkklafkoegdpaaW.PrintLast Go.Proofs.YtbkklafkoegdpaaW.PrintMore
set_option linter.unusedVariables false
set_option linter.unusedSimpArgs false
mutual
def spec_l07With.l0 : Nat → List Int → List (List Int) → List (List Int) → Int → Int → List (List Int) → Option (Int × (List (List Int)))
  | 0, _, _, _, _, _, _ => none
  | k + 1, x1, x2, x7, x8, x205000, x205001 => if x8 < (x205001.length : Int) then ((spec_l05In.f k x1 x8).bind fun t209 => (if t209 = true then (spec_l07With.l0 k x1 x2 x7 (wrap64 (x8 + 1)) x205000 x205001) else ((some (([] : List Int) : List Int)).bind fun y210 => (if 0 ≤ x8 then (if y210.length + (rd_L1 x205001 x8).length < 17592186044416 then (if x7.length < 5864062014805 then (spec_l07With.l0 k x1 x2 (x7 ++ [(y210 ++ (rd_L1 x205001 x8))]) (wrap64 (x8 + 1)) x205000 x205001) else (none)) else (none)) else (none))))) else (if x7.length + x2.length < 5864062014805 then (spec_l07With.l1 k (x7 ++ x2) 0 x205000 x205001 x205000 ([] : List (List Int))) else (none))
def spec_l07With.l1 : Nat → List (List Int) → Int → Int → List (List Int) → Int → List (List Int) → Option (Int × (List (List Int)))
  | 0, _, _, _, _, _, _ => none
  | k + 1, x7, x10, x205000, x205001, x224000, x224001 => if x10 < x205000 then (spec_l07With.l2 k x7 x10 0 x205000 x205001 x224000 x224001) else (some (x224000, x224001))
def spec_l07With.l2 : Nat → List (List Int) → Int → Int → Int → List (List Int) → Int → List (List Int) → Option (Int × (List (List Int)))
  | 0, _, _, _, _, _, _, _ => none
  | k + 1, x7, x10, x11, x205000, x205001, x224000, x224001 => if x11 < (x7.length : Int) then (if 0 ≤ x11 then ((spec_VertsOf.f k (rd_L1 x7 x11)).bind fun t225 => (if 0 < (t225.length : Int) then (if (rd t225 0) = x10 then (if x224001.length < 5864062014805 then (spec_l07With.l2 k x7 x10 (wrap64 (x11 + 1)) x205000 x205001 x224000 (x224001 ++ [rd_L1 x7 x11])) else (none)) else (spec_l07With.l2 k x7 x10 (wrap64 (x11 + 1)) x205000 x205001 x224000 x224001)) else (none))) else (none)) else (spec_l07With.l1 k x7 (wrap64 (x10 + 1)) x205000 x205001 x224000 x224001)
end
def spec_l07With.f (k : Nat) (a0_0 : Int) (l0_1 : List (List Int)) (l1 : List Int) (l2 : List (List Int)) : Option (Int × (List (List Int))) := spec_l07With.l0 k l1 l2 (([] : List (List Int))) 0 a0_0 l0_1
theorem spec_l07With.mono_l : ∀ k, (∀ y0 y1 y2 y3 y4 y5, LeO (spec_l07With.l0 k y0 y1 y2 y3 y4 y5) (spec_l07With.l0 (k + 1) y0 y1 y2 y3 y4 y5)) ∧ (∀ y0 y1 y2 y3 y4 y5, LeO (spec_l07With.l1 k y0 y1 y2 y3 y4 y5) (spec_l07With.l1 (k + 1) y0 y1 y2 y3 y4 y5)) ∧ (∀ y0 y1 y2 y3 y4 y5 y6, LeO (spec_l07With.l2 k y0 y1 y2 y3 y4 y5 y6) (spec_l07With.l2 (k + 1) y0 y1 y2 y3 y4 y5 y6))
  | 0 => ⟨fun _ _ _ _ _ _ r h => by simp [spec_l07With.l0] at h, fun _ _ _ _ _ _ r h => by simp [spec_l07With.l1] at h, fun _ _ _ _ _ _ _ r h => by simp [spec_l07With.l2] at h⟩
  | k + 1 => by
    obtain ⟨ih0, ih1, ih2⟩ := spec_l07With.mono_l k
    refine ⟨?_, ?_, ?_⟩ <;> (intros; first | unfold spec_l07With.l0 | unfold spec_l07With.l1 | unfold spec_l07With.l2) <;> repeat' first | (with_reducible first | exact ih0 _ _ _ _ _ _ | exact ih1 _ _ _ _ _ _ | exact ih2 _ _ _ _ _ _ _ | exact spec_VertsOf.mono _ _ | exact spec_l05In.mono _ _ _ | exact LeO.refl _ | exact LeO.none _ | refine LeO.ite ?_ ?_ | refine LeO.bind ?_ (fun _ => ?_)) | exact LeO.none _ | refine LeO.ite ?_ ?_ | refine LeO.bind ?_ (fun _ => ?_)
theorem spec_l07With.mono : ∀ a0 a1 a2 a3 k, LeO (spec_l07With.f k a0 a1 a2 a3) (spec_l07With.f (k + 1) a0 a1 a2 a3) := by
  intro a0 a1 a2 a3 k
  obtain ⟨ih0, ih1, ih2⟩ := spec_l07With.mono_l k
  unfold spec_l07With.f
  repeat' first | (with_reducible first | exact ih0 _ _ _ _ _ _ | exact ih1 _ _ _ _ _ _ | exact ih2 _ _ _ _ _ _ _ | exact spec_VertsOf.mono _ _ | exact spec_l05In.mono _ _ _ | exact LeO.refl _ | exact LeO.none _ | refine LeO.ite ?_ ?_ | refine LeO.bind ?_ (fun _ => ?_)) | exact LeO.none _ | refine LeO.ite ?_ ?_ | refine LeO.bind ?_ (fun _ => ?_)
def spec_l07With.T16 : Bool × List (List Nat × List Nat) := (true, [([], []), ([0], [0]), ([], []), ([], []), ([2, 3], [2, 3]), ([4], [4]), ([5], [5]), ([1, 6], [1, 6]), ([0, 1, 2, 3, 4, 5, 6, 7], []), ([8, 7, 7, 0, 1, 2, 3, 4, 5, 6, 7], [7, 8])])
def spec_l07With.B16 : List Nat := [0, 1, 0, 0, 12, 28, 60, 127, 255, 511]
theorem spec_l07With.tab16 : rtab .any (opsOf Try.f73 16) = spec_l07With.T16 := by kernel_rfl
theorem spec_l07With.bits16 : waitsOk spec_l07With.T16.2 spec_l07With.B16 = true := by kernel_rfl
set_option maxHeartbeats 8000000 in
set_option maxRecDepth 100000 in
theorem spec_l07With.calls (k : Nat) (a0_0 : Int) (A0_1 : Option Addr) (c0_1 : Nat) (l0_1 : List (List Int)) (A1 : Option Addr) (c1 : Nat) (l1 : List Int) (P2_ : Nat → Prop) (A2 : Option Addr) (c2 : Nat) (l2 : List (List Int)) (r1 : Int) (r2 : List (List Int)) (w : World) (hr0_1 : Kd.C (Kd.slice 3 (Kd.int .i64)) w A0_1 l0_1.length l0_1) (hc0_1 : l0_1.length ≤ c0_1) (hr1 : Kd.C (Kd.int .i64) w A1 l1.length l1) (hc1 : l1.length ≤ c1) (hs2 : Kd.V (Kd.slice 3 (Kd.int .i64)) 51 w w.heap.size (fun k_ => P2_ k_) (.slice A2 l2.length c2) l2) (h : spec_l07With.f k a0_0 l0_1 l1 l2 = some (r1, r2)) :
  Calls Try.prog 73 #[.agg #[.int .i64 a0_0, .slice A0_1 l0_1.length c0_1], .slice A1 l1.length c1, .slice A2 l2.length c2] w fun e w' => ∃ v1_ : Value, e = .returned (.agg #[.int .i64 r1, v1_]) ∧ Kd.N (Kd.slice 3 (Kd.int .i64)) 51 w' w.heap.size (fun k_ => (P2_ k_ ∨ w.heap.size ≤ k_)) v1_ r2 ∧ Below w.heap.size w w' := by
 have hu39 := Try.underlying39
 have HR0_1 := am_ hr0_1
 have HC0_1 := am_ hc0_1
 clear hr0_1 hc0_1
 have l7 := am_ hr1
 have l8 := am_ hc1
 clear hr1 hc1
 have g9 := am_ (show Kd.V (Kd.slice 3 (Kd.int .i64)) 51 w w.heap.size (fun k_ => (P2_ k_ ∨ w.heap.size ≤ k_)) (.slice A2 l2.length c2) l2 from Kd.V_mono hs2 (fun k_ hk => .inl hk))
 have HB := am_ (Below.refl w.heap.size w)
 have H : (spec_l07With.l0 k l1 l2 (([] : List (List Int))) 0 a0_0 l0_1) = some (r1, r2) := h
 clear h
 obtain ⟨h3, hy206⟩ : ∃ y_ : List (List Int), y_ = (([] : List (List Int))) := ⟨_, rfl⟩
 replace H : (spec_l07With.l0 k l1 l2 h3 0 a0_0 l0_1) = some (r1, r2) := by first | (rw [hy206]; with_reducible exact H) | (have H2_ := (Option.bind_some _ _).symm.trans H; rw [hy206]; with_reducible exact H2_) | (have H2_ := (Option.bind_some _ _).symm.trans H; with_reducible exact H2_) | with_reducible exact H | (rw [hy206]; exact H) | exact H
 have Ny206 := am_ hy206
 clear hy206; have H' := am_ H; clear H
 go_enter Try.func73, Try.ntmps73
 go_wp2_with (first | ((with_reducible refine gate_dst (N := 3) rfl ?_); refine by_ 3 (cs := #[.int .i64 a0_0, .slice A0_1 l0_1.length c0_1]) (t := 39) ?_; intro a5 hg w4 a0 hb; have h4 := gw_ hg; have l9 := h4; replace g9 := am_ (Kd.V_below (Kd.V_elderB (by (with_reducible repeat (first | apply Kd.V_alloc | apply Kd.V_drewN | apply Kd.V_drew)); exact g9.out) a5 (Nat.le_of_eq hg.symm)) hb); replace HB := hs_ hb; clear hb hg) | ((with_reducible refine gate_dst (N := 6) rfl ?_); refine by_ 6 (cs := #[.int .i64 0, .slice none 0 0]) (t := 39) ?_; intro a3 hg w5 a2 hb; have h5 := gw_ hg; have m0 := h5; obtain ⟨b2, h2⟩ := qn_ a0 hg; replace g9 := am_ (Kd.V_below (Kd.V_elderB (by (with_reducible repeat (first | apply Kd.V_alloc | apply Kd.V_drewN | apply Kd.V_drew)); exact g9.out) a3 (Nat.le_of_eq hg.symm)) hb); replace a0 := qbl_ a0 hb; replace HB := hs_ hb; clear hb hg) | ((with_reducible refine gate_dst (N := 12) rfl ?_); refine Kd.N_lit (Kd.slice 3 (Kd.int .i64)) _ 51 ?hg (N' := 12) ?hd (xs := ([] : List (List Int))) (inner := []) (ok := (fun k_ => (P2_ k_ ∨ w.heap.size ≤ k_) ∧ k_ ≠ a5 ∧ k_ ≠ a3)) (okp := (fun k_ => (P2_ k_ ∨ w.heap.size ≤ k_) ∧ k_ ≠ a5 ∧ k_ ≠ a3)) ?hr ?hp (fun _ hk => hk) ((show ∀ k_, w5.heap.size ≤ k_ → (fun k_ => (P2_ k_ ∨ w.heap.size ≤ k_) ∧ k_ ≠ a5 ∧ k_ ≠ a3) k_ from fun k_ hk => ⟨(.inr (Nat.le_trans (below_size qB_) hk)), Kd.freshB (qk_ a0) k_ hk, Kd.freshB (qk_ a2) k_ hk⟩) _ (Nat.le_refl _)) (Below.refl _ _) (Nat.le_refl _) (by simp) ?_; (case hd => rfl); (case hg => rfl); (case hr => first | (go_simp; done) | (go_simp; rfl)); (case hp => exact (Reps.none _ _)); intro o2 w6 ho7 hb hg_ hnew_; clear hg_ hnew_; (first | rw [← Ny206.out] at ho7 | (simp only [Int.reduceToNat] at ho7; rw [← Ny206.out] at ho7)); have g6 := am_ (Kd.N_lower ho7 (below_size qB_)); replace g9 := am_ (Kd.V_elder' (by (with_reducible repeat (first | apply Kd.V_alloc | apply Kd.V_drewN | apply Kd.V_drew)); exact g9.out) (Kd.N_base ho7) hb); replace a0 := qbl_ a0 hb; replace a2 := qbl_ a2 hb; replace HB := hs_ hb; clear hb ho7))
 go_loopg [7, 8] k (fun kq v7 v8 w' => ∃ (x7_1 : List (List Int)) (x8_1 : Int), v8 = .int .i64 x8_1 ∧ Aside0 (spec_l07With.l0 kq l1 l2 x7_1 x8_1 a0_0 l0_1 = some (r1, r2)) ∧ Aside0 (kq ≤ k) ∧ Aside0 (Kd.V (Kd.slice 3 (Kd.int .i64)) 51 w' w.heap.size (fun k_ => (P2_ k_ ∨ w.heap.size ≤ k_) ∧ some k_ ≠ (v7 : Value).ownBlock ∧ k_ ≠ a5 ∧ k_ ≠ a3) (.slice A2 l2.length c2) l2) ∧ Aside0 (Kd.N (Kd.slice 3 (Kd.int .i64)) 51 w' w.heap.size (fun k_ => (P2_ k_ ∨ w.heap.size ≤ k_) ∧ k_ ≠ a5 ∧ k_ ≠ a3) v7 x7_1) ∧ Aside0 (w'.heap[a5]? = some (.cells #[.int .i64 a0_0, (.slice A0_1 l0_1.length c0_1)] 39 (0, 0))) ∧ Aside0 (w'.heap[a3]? = some (.cells #[.int .i64 0, (.slice none 0 0)] 39 (0, 0))) ∧ Aside0 (Below w.heap.size w w'))
 case atStart => exact ⟨(h3), (0), qe_, H', ⟨Nat.le_refl _⟩, ⟨by (with_reducible repeat (first | apply Kd.V_alloc | apply Kd.V_drewN | apply Kd.V_drew)); exact Kd.V_mono g9.out (fun _ hk => ⟨hk.1.1.1, ⟨hk.2, ⟨hk.1.1.2, hk.1.2⟩⟩⟩)⟩, ⟨by (with_reducible repeat (first | apply Kd.N_alloc | apply Kd.N_drewN | apply Kd.N_drew)); first | exact g6.out | (have h_ := g6.out; simp only [own_slice] at h_ ⊢; exact h_)⟩, ⟨qk_ a0⟩, ⟨qk_ a2⟩, ⟨qB_⟩⟩
 case round =>
  clear H'
  (try clear c1); (try clear c2); (try clear p2); (try clear c7)
  obtain ⟨x7_1, x8_1, rfl, HA, HK1, b5, a6, a0, a2, HB⟩ := hrel
  cases gk with
  | zero => exact absurd HA.out (by simp [spec_l07With.l0])
  | succ k1 =>
   have H := HA.out; clear HA
   simp only [spec_l07With.l0] at H
   by_cases c8 : x8_1 < (l0_1.length : Int)
   ·rw [if_pos c8] at H
    have c8b0 := decide_eq_true c8
    clear c8
    obtain ⟨k0, A90, H⟩ := Option.bind_eq_some_iff.mp H; have A9 := am_ A90; clear A90
    by_cases c10 : k0 = true
    ·subst c10
     rw [if_pos rfl] at H; have H' := am_ H; clear H; obtain ⟨m1, m2⟩ := nn_ b2
     obtain ⟨c9, d0, d1, d2⟩ := bc2_ a0
     go_wp2_with (first | ((with_reducible refine gate_callee (f := 105) rfl ?_); refine gl_ (some 22) Try.func105 #[.slice A1 l1.length c1, .int .i64 x8_1] ?_; (with_reducible refine (spec_l05In.calls k1 _ _ l1 x8_1 true _ ?side1 ?side2 A9.out).mono ?_); (case side1 => exact qC_ l7 HB); (case side2 => exact l8.out); rintro e w' ⟨rfl, ⟨nd, rfl⟩⟩; refine ⟨_, rfl, ?_⟩))
     go_roundg k1
     case measure => have := HK1.out; omega
     case rel => exact ⟨(x7_1), (wrap64 (x8_1 + 1)), qe_, H', ⟨by have := HK1.out; omega⟩, ⟨by (with_reducible repeat (first | apply Kd.V_alloc | apply Kd.V_drewN | apply Kd.V_drew)); first | exact b5.out | (have h_ := b5.out; simp only [own_slice] at h_ ⊢; exact h_)⟩, ⟨by (with_reducible repeat (first | apply Kd.N_alloc | apply Kd.N_drewN | apply Kd.N_drew)); first | exact a6.out | (have h_ := a6.out; simp only [own_slice] at h_ ⊢; exact h_)⟩, ⟨qk_ a0⟩, ⟨qk_ a2⟩, ⟨qB_⟩⟩
    replace c10 := Bool.eq_false_iff.mpr c10
    subst c10
    rw [if_neg ff_] at H
    obtain ⟨f7, hy210⟩ : ∃ y_ : List Int, y_ = (([] : List Int)) := ⟨_, rfl⟩
    replace H : (if 0 ≤ x8_1 then (if f7.length + (rd_L1 l0_1 x8_1).length < 17592186044416 then (if x7_1.length < 5864062014805 then (spec_l07With.l0 k1 l1 l2 (x7_1 ++ [(f7 ++ (rd_L1 l0_1 x8_1))]) (wrap64 (x8_1 + 1)) a0_0 l0_1) else (none)) else (none)) else (none)) = some (r1, r2) := by first | (rw [hy210]; with_reducible exact H) | (have H2_ := (Option.bind_some _ _).symm.trans H; rw [hy210]; with_reducible exact H2_) | (have H2_ := (Option.bind_some _ _).symm.trans H; with_reducible exact H2_) | with_reducible exact H | (rw [hy210]; exact H) | exact H
    have Ny210 := am_ hy210
    clear hy210
    by_cases c13 : 0 ≤ x8_1
    rotate_left
    ·rw [if_neg c13] at H
     exact absurd H (by simp)
    rw [if_pos c13] at H
    have c13b0 := decide_eq_true c13
    clear c13
    by_cases c14 : f7.length + (rd_L1 l0_1 x8_1).length < 17592186044416
    rotate_left
    ·rw [if_neg c14] at H
     exact absurd H (by simp)
    rw [if_pos c14] at H
    have LMc14 := am_ c14
    clear c14
    obtain ⟨f8, hy214⟩ : ∃ y_ : List Int, y_ = (f7 ++ (rd_L1 l0_1 x8_1)) := ⟨_, rfl⟩
    replace H : (if x7_1.length < 5864062014805 then (spec_l07With.l0 k1 l1 l2 (x7_1 ++ [f8]) (wrap64 (x8_1 + 1)) a0_0 l0_1) else (none)) = some (r1, r2) := by first | (rw [hy214]; with_reducible exact H) | (have H2_ := (Option.bind_some _ _).symm.trans H; rw [hy214]; with_reducible exact H2_) | (have H2_ := (Option.bind_some _ _).symm.trans H; with_reducible exact H2_) | with_reducible exact H | (rw [hy214]; exact H) | exact H
    have Ny214 := am_ hy214
    clear hy214
    by_cases c15 : x7_1.length < 5864062014805
    rotate_left
    ·rw [if_neg c15] at H
     exact absurd H (by simp)
    rw [if_pos c15] at H
    have LMc15 := am_ c15
    clear c15
    obtain ⟨h6, hy217⟩ : ∃ y_ : List (List Int), y_ = (x7_1 ++ [f8]) := ⟨_, rfl⟩
    replace H : (spec_l07With.l0 k1 l1 l2 h6 (wrap64 (x8_1 + 1)) a0_0 l0_1) = some (r1, r2) := by first | (rw [hy217]; with_reducible exact H) | (have H2_ := (Option.bind_some _ _).symm.trans H; rw [hy217]; with_reducible exact H2_) | (have H2_ := (Option.bind_some _ _).symm.trans H; with_reducible exact H2_) | with_reducible exact H | (rw [hy217]; exact H) | exact H
    have Ny217 := am_ hy217
    clear hy217; have H' := am_ H; clear H; obtain ⟨m3, m4⟩ := nn_ b2
    obtain ⟨d3, d4, d5, d6⟩ := bc2_ a0
    go_wp2_with (first | ((with_reducible refine gate_callee (f := 105) rfl ?_); refine gl_ (some 22) Try.func105 #[.slice A1 l1.length c1, .int .i64 x8_1] ?_; (with_reducible refine (spec_l05In.calls k1 _ _ l1 x8_1 false _ ?side1 ?side2 A9.out).mono ?_); (case side1 => exact qC_ l7 HB); (case side2 => exact l8.out); rintro e w' ⟨rfl, ⟨nd, rfl⟩⟩; refine ⟨_, rfl, ?_⟩) | ((with_reducible refine gate_dst (N := 25) rfl ?_); refine Kd.R_lit (Kd.int .i64) _ 3 ?hg (N := 25) ?hd (xs := ([] : List Int)) (inner := []) (ok := fun _ => True) (okp := fun _ => True) ?hr ?hp (fun _ hk => hk) trivial (Below.refl _ _) (Nat.le_refl _) (by simp) ?_; (case hd => rfl); (case hg => rfl); (case hr => first | (go_simp; done) | (go_simp; rfl)); (case hp => exact (Reps.none _ _)); intro k4 w18 ho19 hb hg_ hnew_; clear hg_ hnew_; (first | rw [← Ny210.out] at ho19 | (simp only [Int.reduceToNat] at ho19; rw [← Ny210.out] at ho19)); have d7 := am_ (Kd.R_lower (Kd.R_newM (M := fun k_ => (w.heap.size ≤ k_)) ho19 (below_size qB_) (fun k_ h_ => h_)) (below_size qB_)); replace b5 := am_ (Kd.V_elder' (by (with_reducible repeat (first | apply Kd.V_alloc | apply Kd.V_drewN | apply Kd.V_drew)); exact b5.out) (Kd.R_base ho19) hb); replace a6 := am_ (Kd.N_elder' (by (with_reducible repeat (first | apply Kd.N_alloc | apply Kd.N_drewN | apply Kd.N_drew)); exact a6.out) (Kd.R_base ho19) hb); replace a0 := qbl_ a0 hb; replace a2 := qbl_ a2 hb; replace HB := hs_ hb; clear hb ho19; obtain ⟨d8, d9, e0, e1⟩ := bc2_ a0; have p213 := dp_ x8_1; have q213 := dl_ x8_1 l0_1.length; obtain ⟨ad213, A213_0, c213_0, e213, b9, hl213_0, hi213_0⟩ := at_L1 HR0_1.out x8_1 p213 q213; cases e213; replace b9 := qx_ HB b9; have HR213_0 := am_ hi213_0; have HC213_0 := am_ hl213_0; clear hi213_0 hl213_0; replace p213 := eq_true p213; replace q213 := eq_true q213) | ((with_reducible refine gate_builtin (b := .append) (xs := #[.tmp 25, .tmp 30]) rfl ?_); at_builtin; refine Kd.R_append_rows (Kd.int .i64) (w0 := w) w.heap.size rfl (.tmp 25) (.tmp 30) 51 3 (.int .i64 0) 8 rfl Try.underlying51 info3 rfl (by decide) (by omega) k4 f7 (rd_L1 l0_1 x8_1) _ _ _ (fun k_ => (w.heap.size ≤ k_)) (fun _ => False) rfl rfl ?aO ?aR (fun _ _ h => h) (fun _ h => h.elim) ?aF ?aB ?aS ?aL ?_; (case aR => repeat (first | exact (Kd.C_below HR213_0.out HB.out) | (with_reducible refine Kd.C_alloc ?_ _) | (with_reducible refine Kd.C_drewN ?_ _) | (with_reducible refine Kd.C_drew ?_))); (case aB => exact qB_); (case aF => exact (fun k_ hk => (Nat.le_trans (below_size qB_) hk))); (case aO => exact (by (with_reducible repeat (first | apply Kd.R_alloc | apply Kd.R_drewN | apply Kd.R_drew)); exact Kd.R_mono d7.out (fun _ hk => hk.1))); (case aS => exact (below_size qB_)); (case aL => have := LMc14.out; omega); intro o3 w21 ho hb hg hat; rw [← Ny214.out] at ho; have e2 := am_ (ho); replace b5 := am_ (Kd.V_afterv (ok := (fun k_ => (P2_ k_ ∨ w.heap.size ≤ k_) ∧ some k_ ≠ (u7 : Value).ownBlock ∧ k_ ≠ a5 ∧ k_ ≠ a3)) (by (with_reducible repeat (first | apply Kd.V_alloc | apply Kd.V_drewN | apply Kd.V_drew)); exact b5.out) hg hat); replace a6 := am_ (Kd.N_afterv (ok := (fun k_ => (P2_ k_ ∨ w.heap.size ≤ k_) ∧ k_ ≠ a5 ∧ k_ ≠ a3)) (by (with_reducible repeat (first | apply Kd.N_alloc | apply Kd.N_drewN | apply Kd.N_drew)); exact a6.out) hg hat); replace a0 := am_ (blk_grown (qk_ a0) hg (Kd.R_ne d7.out a0.out (by decide))); replace a2 := am_ (blk_grown (qk_ a2) hg (Kd.R_ne d7.out a2.out (by decide))); replace HB := am_ (hb); clear d7; clear ho hb hg hat; obtain ⟨h7, h8, k5⟩ := Kd.R_slice e2.out; subst k5) | ((with_reducible refine gate_builtin (b := .append) (xs := #[.tmp 24, .tmp 32]) rfl ?_); at_builtin; refine Kd.N_append (Kd.slice 3 (Kd.int .i64)) (w0 := w) w.heap.size rfl (.tmp 24) (.tmp 32) 33 51 (.slice none 0 0) 24 rfl Try.underlying33 info51 rfl (by decide) (by omega) u7 x7_1 f8 [.slice h7 f8.length h8] (fun k_ => (P2_ k_ ∨ w.heap.size ≤ k_) ∧ k_ ≠ a5 ∧ k_ ≠ a3) (fun k_ => ((fun k_ => (P2_ k_ ∨ w.heap.size ≤ k_) ∧ k_ ≠ a5 ∧ k_ ≠ a3)) k_ ∧ some k_ ≠ (u7 : Value).ownBlock) rfl rfl ?aP (fun _ hk => hk) ?aF ?aO ?aB ?aS ?aL ?_; (case aP => exact (Kd.FK_slice_mk (Kd.R_reads' (Kd.R_mono (ok' := (fun k_ => ((fun k_ => (P2_ k_ ∨ w.heap.size ≤ k_) ∧ k_ ≠ a5 ∧ k_ ≠ a3)) k_ ∧ some k_ ≠ (u7 : Value).ownBlock)) (Kd.R_types (Kd.R_types (Kd.R_apart' (e2.out) (Kd.N_typed a6.out) (by decide)) a0.out (by decide)) a2.out (by decide)) (fun k_ hk => ⟨⟨(.inr (hk.1.1.1)), ⟨hk.1.2, hk.2⟩⟩, hk.1.1.2⟩))).2.1 (Kd.R_F (Kd.R_mono (ok' := (fun k_ => ((fun k_ => (P2_ k_ ∨ w.heap.size ≤ k_) ∧ k_ ≠ a5 ∧ k_ ≠ a3)) k_ ∧ some k_ ≠ (u7 : Value).ownBlock)) (Kd.R_types (Kd.R_types (Kd.R_apart' (e2.out) (Kd.N_typed a6.out) (by decide)) a0.out (by decide)) a2.out (by decide)) (fun k_ hk => ⟨⟨(.inr (hk.1.1.1)), ⟨hk.1.2, hk.2⟩⟩, hk.1.1.2⟩))))); (case aB => exact qB_); (case aF => exact (fun k_ hk => ⟨(.inr (Nat.le_trans (below_size qB_) hk)), Kd.freshB (qk_ a0) k_ hk, Kd.freshB (qk_ a2) k_ hk⟩)); (case aO => exact (by (with_reducible repeat (first | apply Kd.N_alloc | apply Kd.N_drewN | apply Kd.N_drew)); exact Kd.N_mono a6.out (fun _ hk => ⟨hk.1.1, ⟨hk.1.2.1, hk.1.2.2⟩⟩))); (case aS => exact (below_size qB_)); (case aL => have := LMc15.out; omega); intro o4 w22 ho hb hg hat; rw [← Ny217.out] at ho; have g7 := am_ (ho); replace b5 := am_ (Kd.V_afterv (ok := (fun k_ => (P2_ k_ ∨ w.heap.size ≤ k_) ∧ some k_ ≠ (.slice h7 f8.length h8 : Value).ownBlock ∧ k_ ≠ a5 ∧ k_ ≠ a3)) (by (with_reducible repeat (first | apply Kd.V_alloc | apply Kd.V_drewN | apply Kd.V_drew)); exact Kd.V_mono b5.out (fun _ hk => ⟨⟨hk.1.1, ⟨hk.2, ⟨hk.1.2.2.1, hk.1.2.2.2⟩⟩⟩, hk.1.2.1⟩)) hg hat); replace a0 := am_ (blk_grown (qk_ a0) hg (Kd.N_ne a6.out a0.out (by decide))); replace a2 := am_ (blk_grown (qk_ a2) hg (Kd.N_ne a6.out a2.out (by decide))); replace HB := am_ (hb); clear a6 e2; clear ho hb hg hat))
    go_roundg k1
    case measure => have := HK1.out; omega
    case rel => exact ⟨(h6), (wrap64 (x8_1 + 1)), qe_, H', ⟨by have := HK1.out; omega⟩, ⟨by (with_reducible repeat (first | apply Kd.V_alloc | apply Kd.V_drewN | apply Kd.V_drew)); exact Kd.V_mono b5.out (fun _ hk => ⟨hk.1.1, ⟨hk.2, ⟨hk.1.2.2.1, hk.1.2.2.2⟩⟩⟩)⟩, ⟨by (with_reducible repeat (first | apply Kd.N_alloc | apply Kd.N_drewN | apply Kd.N_drew)); first | exact g7.out | (have h_ := g7.out; simp only [own_slice] at h_ ⊢; exact h_)⟩, ⟨qk_ a0⟩, ⟨qk_ a2⟩, ⟨qB_⟩⟩
   rw [if_neg c8] at H
   have c8b0 := decide_eq_false c8
   clear c8
   by_cases c24 : x7_1.length + l2.length < 5864062014805
   rotate_left
   ·rw [if_neg c24] at H
    exact absurd H (by simp)
   rw [if_pos c24] at H
   have LMc24 := am_ c24
   clear c24
   obtain ⟨b0, hy220⟩ : ∃ y_ : List (List Int), y_ = (x7_1 ++ l2) := ⟨_, rfl⟩
   replace H : (spec_l07With.l1 k1 b0 0 a0_0 l0_1 a0_0 ([] : List (List Int))) = some (r1, r2) := by first | (rw [hy220]; with_reducible exact H) | (have H2_ := (Option.bind_some _ _).symm.trans H; rw [hy220]; with_reducible exact H2_) | (have H2_ := (Option.bind_some _ _).symm.trans H; with_reducible exact H2_) | with_reducible exact H | (rw [hy220]; exact H) | exact H
   have Ny220 := am_ hy220
   clear hy220; have H' := am_ H; clear H; obtain ⟨m5, m6⟩ := nn_ b2
   obtain ⟨e3, e4, e5, e6⟩ := bc2_ a0
   go_wp2_with (first | ((with_reducible refine gate_builtin (b := .append) (xs := #[.tmp 34, .tmp 35]) rfl ?_); at_builtin; refine Kd.N_append_rows (Kd.slice 3 (Kd.int .i64)) (w0 := w) w.heap.size rfl (.tmp 34) (.tmp 35) 33 51 (.slice none 0 0) 24 rfl Try.underlying33 info51 rfl (by decide) (by omega) u7 x7_1 l2 _ _ _ (fun k_ => (P2_ k_ ∨ w.heap.size ≤ k_) ∧ k_ ≠ a5 ∧ k_ ≠ a3) (fun k_ => ((fun k_ => (P2_ k_ ∨ w.heap.size ≤ k_) ∧ k_ ≠ a5 ∧ k_ ≠ a3)) k_ ∧ some k_ ≠ (u7 : Value).ownBlock) rfl rfl ?aO ?aR (fun _ hk => hk) ?aF ?aB ?aS ?aL ?_; (case aR => exact (by skip; exact Kd.V_F (Kd.V_mono (ok' := (fun k_ => ((fun k_ => (P2_ k_ ∨ w.heap.size ≤ k_) ∧ k_ ≠ a5 ∧ k_ ≠ a3)) k_ ∧ some k_ ≠ (u7 : Value).ownBlock)) (b5.out) (fun k_ hk => ⟨⟨hk.1, ⟨hk.2.2.1, hk.2.2.2⟩⟩, hk.2.1⟩)))); (case aB => exact qB_); (case aF => exact (fun k_ hk => ⟨(.inr (Nat.le_trans (below_size qB_) hk)), Kd.freshB (qk_ a0) k_ hk, Kd.freshB (qk_ a2) k_ hk⟩)); (case aO => exact (by (with_reducible repeat (first | apply Kd.N_alloc | apply Kd.N_drewN | apply Kd.N_drew)); exact a6.out)); (case aS => exact (below_size qB_)); (case aL => have := LMc24.out; omega); intro g1 w27 ho hb hg hat; rw [← Ny220.out] at ho; have f9 := am_ (ho); replace b5 := am_ (Kd.V_afterv (ok := (fun k_ => (P2_ k_ ∨ w.heap.size ≤ k_) ∧ k_ ≠ a5 ∧ k_ ≠ a3)) (by (with_reducible repeat (first | apply Kd.V_alloc | apply Kd.V_drewN | apply Kd.V_drew)); exact Kd.V_mono b5.out (fun _ hk => ⟨⟨hk.1, ⟨hk.2.2.1, hk.2.2.2⟩⟩, hk.2.1⟩)) hg hat); replace a0 := am_ (blk_grown (qk_ a0) hg (Kd.N_ne a6.out a0.out (by decide))); replace a2 := am_ (blk_grown (qk_ a2) hg (Kd.N_ne a6.out a2.out (by decide))); replace HB := am_ (hb); clear a6; clear ho hb hg hat; obtain ⟨e7, e8, e9, f0⟩ := bc2_ a0) | ((with_reducible refine gate_dst (N := 9) rfl ?_); refine by_ 9 (cs := #[.int .i64 0, .slice none 0 0]) (t := 39) ?_; intro a8 hg w29 a7 hb; have h9 := gw_ hg; have m7 := h9; obtain ⟨b7, c0⟩ := qn_ a0 hg; obtain ⟨f5, b8⟩ := qn_ a2 hg; replace b5 := am_ (Kd.V_below (Kd.V_elderB (by (with_reducible repeat (first | apply Kd.V_alloc | apply Kd.V_drewN | apply Kd.V_drew)); exact b5.out) a8 (Nat.le_of_eq hg.symm)) hb); replace f9 := am_ (Kd.N_below (Kd.N_elderB (by (with_reducible repeat (first | apply Kd.N_alloc | apply Kd.N_drewN | apply Kd.N_drew)); exact f9.out) a8 (Nat.le_of_eq hg.symm)) hb); replace a0 := qbl_ a0 hb; replace a2 := qbl_ a2 hb; replace HB := hs_ hb; clear hb hg; obtain ⟨m8, m9⟩ := nn_ c0; obtain ⟨n0, n1⟩ := nn_ b8; obtain ⟨f1, f2, f3, f4⟩ := bc2_ a7))
   go_loopg [10] k1 (fun kq v10 w' => ∃ (x10_2 : Int) (b1 : List (List Int)) (a4 : Value), v10 = .int .i64 x10_2 ∧ Aside0 (spec_l07With.l1 kq b0 x10_2 a0_0 l0_1 a0_0 b1 = some (r1, r2)) ∧ Aside0 (kq ≤ k1) ∧ Aside0 (Kd.N (Kd.slice 3 (Kd.int .i64)) 51 w' w.heap.size (fun k_ => (P2_ k_ ∨ w.heap.size ≤ k_) ∧ some k_ ≠ (a4 : Value).ownBlock ∧ k_ ≠ a5 ∧ k_ ≠ a3 ∧ k_ ≠ a8) g1 b0) ∧ Aside0 (Kd.N (Kd.slice 3 (Kd.int .i64)) 51 w' w.heap.size (fun k_ => (P2_ k_ ∨ w.heap.size ≤ k_) ∧ some k_ ≠ (g1 : Value).ownBlock ∧ k_ ≠ a5 ∧ k_ ≠ a3 ∧ k_ ≠ a8) a4 b1) ∧ Aside0 (w'.heap[a5]? = some (.cells #[.int .i64 a0_0, (.slice A0_1 l0_1.length c0_1)] 39 (0, 0))) ∧ Aside0 (w'.heap[a3]? = some (.cells #[.int .i64 0, (.slice none 0 0)] 39 (0, 0))) ∧ Aside0 (w'.heap[a8]? = some (.cells #[.int .i64 a0_0, a4] 39 (0, 0))) ∧ Aside0 (Below w.heap.size w w'))
   case atStart => exact ⟨(0), (([] : List (List Int))), (.slice none 0 0), qe_, H', ⟨Nat.le_refl _⟩, ⟨by (with_reducible repeat (first | apply Kd.N_alloc | apply Kd.N_drewN | apply Kd.N_drew)); exact Kd.N_mono (Kd.N_far (p := ⟨a8, 1, none⟩) (Kd.N_far (p := ⟨a8, 0, none⟩) (Kd.N_mono f9.out (fun k_ hk => (⟨hk, hk.2⟩ : _ ∧ k_ ≠ a8))) (fun _ hk => hk.2) (.int .i64 a0_0)) (fun _ hk => hk.2) (.slice none 0 0)) (fun _ hk => ⟨hk.1.1.1, ⟨(by simp [Value.ownBlock]), ⟨hk.1.1.2.1, ⟨hk.1.1.2.2, hk.1.2⟩⟩⟩⟩)⟩, ⟨by first | exact Kd.S_nil _ _ _ _ _ | exact Kd.N_nil _ _ _ _ _ | exact Kd.V_nil _ _ _ _ _ | exact Kd.Q_nil _ _ _ _ _ | exact Kd.R_nil _ _ _ _ _⟩, ⟨qf_ a0⟩, ⟨qf_ a2⟩, ⟨by (with_reducible repeat (first | refine blk_drewN ?_ _ | refine blk_drew ?_ | refine blk_alloc ?_ _)); refine blk_put (cs := #[.int .i64 a0_0, .slice none 0 0]) ?_ 1 _ rfl; (with_reducible repeat (first | refine blk_drewN ?_ _ | refine blk_drew ?_ | refine blk_alloc ?_ _)); refine blk_put (cs := #[.int .i64 0, .slice none 0 0]) ?_ 0 _ rfl; exact qf_ a7⟩, ⟨qB_⟩⟩
   case round =>
    clear H'
    (try clear c1); (try clear c2); (try clear p2); (try clear q2); (try clear o5); (try clear c3); (try clear p6); (try clear c7); (try clear c8); (try clear c8b0); (try clear c10); (try clear c11); (try clear c13); (try clear c13b0); (try clear c14); (try clear c15); (try clear c16); (try clear c21); (try clear p21); (try clear q21); (try clear k6); (try clear c24); (try clear c25); (try clear c30); (try clear c31); (try clear c9 d0); (try clear d3 d4); (try clear d8 d9); (try clear e3 e4); (try clear e7 e8); (try clear f1 f2); (try clear d1 d2); (try clear d5 d6); (try clear e0 e1); (try clear e5 e6); (try clear e9 f0); (try clear f3 f4); (try clear b9); (try clear p2); (try clear p213); (try clear q213)
    obtain ⟨x10_2, b1, a4, rfl, HA, HK2, a6, a1, a0, a2, a7, HB⟩ := hrel
    cases gk with
    | zero => exact absurd HA.out (by simp [spec_l07With.l1])
    | succ k2 =>
     have H := HA.out; clear HA
     simp only [spec_l07With.l1] at H
     by_cases c33 : x10_2 < a0_0
     rotate_left
     ·rw [if_neg c33] at H
      have c33b0 := decide_eq_false c33
      clear c33
      simp only [Option.some.injEq, Prod.mk.injEq] at H
      obtain ⟨rfl, rfl⟩ := H
      obtain ⟨n2, n3⟩ := nn_ b2; obtain ⟨n4, n5⟩ := nn_ b7
      obtain ⟨i4, i5, i6, i7⟩ := bc2_ a0
      obtain ⟨n6, n7⟩ := nn_ b8
      obtain ⟨i8, i9, j0, j1⟩ := bc2_ a7
      obtain ⟨j2, j3, j4, j5⟩ := bc2_ a2
      obtain ⟨i0, i1, k7⟩ := Kd.N_slice a1.out
      subst k7
      go_wp2
      refine bodyPost_ret (results_cell_row rfl _ _ a3 39 #[.int .i64 a0_0, .slice i0 b1.length i1] (0, 0) _ rfl (by (with_reducible repeat (first | refine blk_drewN ?_ _ | refine blk_drew ?_ | refine blk_alloc ?_ _)); refine blk_put (cs := #[.int .i64 a0_0, .slice none 0 0]) ?_ 1 _ rfl; (with_reducible repeat (first | refine blk_drewN ?_ _ | refine blk_drew ?_ | refine blk_alloc ?_ _)); refine blk_put (cs := #[.int .i64 0, .slice none 0 0]) ?_ 0 _ rfl; exact qf_ a2) Try.underlying39 rfl (by kernel_rfl)) rfl ?_
      exact ⟨_, qr_, by (with_reducible repeat (first | apply Kd.N_alloc | apply Kd.N_drewN | apply Kd.N_drew)); exact Kd.N_mono (Kd.N_far (p := ⟨a3, 1, none⟩) (Kd.N_far (p := ⟨a3, 0, none⟩) (Kd.N_mono a1.out (fun k_ hk => (⟨hk, hk.2.2.2.1⟩ : _ ∧ k_ ≠ a3))) (fun _ hk => hk.2) (.int .i64 a0_0)) (fun _ hk => hk.2) (.slice i0 b1.length i1)) (fun _ hk => hk.1.1), qB_⟩
     rw [if_pos c33] at H
     have c33b0 := decide_eq_true c33
     clear c33; have H' := am_ H; clear H; obtain ⟨n8, n9⟩ := nn_ b2; obtain ⟨o0, o1⟩ := nn_ b7
     obtain ⟨g2, g3, g4, g5⟩ := bc2_ a0
     go_wp2
     go_loopg [11] k2 (fun kq v11 w' => ∃ (x11_3 : Int) (a9 : List (List Int)) (a4 : Value), v11 = .int .i64 x11_3 ∧ Aside0 (spec_l07With.l2 kq b0 x10_2 x11_3 a0_0 l0_1 a0_0 a9 = some (r1, r2)) ∧ Aside0 (kq ≤ k2) ∧ Aside0 (Kd.N (Kd.slice 3 (Kd.int .i64)) 51 w' w.heap.size (fun k_ => (P2_ k_ ∨ w.heap.size ≤ k_) ∧ some k_ ≠ (a4 : Value).ownBlock ∧ k_ ≠ a5 ∧ k_ ≠ a3 ∧ k_ ≠ a8) g1 b0) ∧ Aside0 (Kd.N (Kd.slice 3 (Kd.int .i64)) 51 w' w.heap.size (fun k_ => (P2_ k_ ∨ w.heap.size ≤ k_) ∧ some k_ ≠ (g1 : Value).ownBlock ∧ k_ ≠ a5 ∧ k_ ≠ a3 ∧ k_ ≠ a8) a4 a9) ∧ Aside0 (w'.heap[a5]? = some (.cells #[.int .i64 a0_0, (.slice A0_1 l0_1.length c0_1)] 39 (0, 0))) ∧ Aside0 (w'.heap[a3]? = some (.cells #[.int .i64 0, (.slice none 0 0)] 39 (0, 0))) ∧ Aside0 (w'.heap[a8]? = some (.cells #[.int .i64 a0_0, a4] 39 (0, 0))) ∧ Aside0 (Below w.heap.size w w'))
     case atStart => exact ⟨(0), (b1), (a4), qe_, H', ⟨Nat.le_refl _⟩, ⟨by (with_reducible repeat (first | apply Kd.N_alloc | apply Kd.N_drewN | apply Kd.N_drew)); first | exact a6.out | (have h_ := a6.out; simp only [own_slice] at h_ ⊢; exact h_)⟩, ⟨by (with_reducible repeat (first | apply Kd.N_alloc | apply Kd.N_drewN | apply Kd.N_drew)); first | exact a1.out | (have h_ := a1.out; simp only [own_slice] at h_ ⊢; exact h_)⟩, ⟨qk_ a0⟩, ⟨qk_ a2⟩, ⟨qk_ a7⟩, ⟨qB_⟩⟩
     case round =>
      clear H'
      (try clear c1); (try clear c2); (try clear p2); (try clear q2); (try clear o5); (try clear c3); (try clear p6); (try clear c7); (try clear c8); (try clear c8b0); (try clear c10); (try clear c11); (try clear c13); (try clear c13b0); (try clear c14); (try clear c15); (try clear c16); (try clear c21); (try clear p21); (try clear q21); (try clear k6); (try clear c24); (try clear c25); (try clear c30); (try clear c31); (try clear c33); (try clear c33b0); (try clear c34); (try clear c35); (try clear c9 d0); (try clear d3 d4); (try clear d8 d9); (try clear e3 e4); (try clear e7 e8); (try clear f1 f2); (try clear g2 g3); (try clear d1 d2); (try clear d5 d6); (try clear e0 e1); (try clear e5 e6); (try clear e9 f0); (try clear f3 f4); (try clear g4 g5); (try clear b9); (try clear p2); (try clear p21); (try clear p213); (try clear p6); (try clear q2); (try clear q21); (try clear q213)
      obtain ⟨x11_3, a9, a4, rfl, HA, HK3, a6, a1, a0, a2, a7, HB⟩ := hrel
      cases gk with
      | zero => exact absurd HA.out (by simp [spec_l07With.l2])
      | succ k3 =>
       have H := HA.out; clear HA
       simp only [spec_l07With.l2] at H
       by_cases c37 : x11_3 < (b0.length : Int)
       rotate_left
       ·rw [if_neg c37] at H
        have c37b0 := decide_eq_false c37
        clear c37; have H' := am_ H; clear H
        obtain ⟨o6, o7, k8⟩ := Kd.N_slice a6.out
        subst k8
        go_wp2
        go_roundg k3
        case measure => have := HK1.out; have := HK2.out; have := HK3.out; omega
        case rel => exact ⟨(wrap64 (x10_2 + 1)), (a9), (a4), qe_, H', ⟨by have := HK1.out; have := HK2.out; have := HK3.out; omega⟩, ⟨by (with_reducible repeat (first | apply Kd.N_alloc | apply Kd.N_drewN | apply Kd.N_drew)); first | exact a6.out | (have h_ := a6.out; simp only [own_slice] at h_ ⊢; exact h_)⟩, ⟨by (with_reducible repeat (first | apply Kd.N_alloc | apply Kd.N_drewN | apply Kd.N_drew)); first | exact a1.out | (have h_ := a1.out; simp only [own_slice] at h_ ⊢; exact h_)⟩, ⟨qk_ a0⟩, ⟨qk_ a2⟩, ⟨qk_ a7⟩, ⟨qB_⟩⟩
       rw [if_pos c37] at H
       have c37b0 := decide_eq_true c37
       clear c37
       by_cases c38 : 0 ≤ x11_3
       rotate_left
       ·rw [if_neg c38] at H
        exact absurd H (by simp)
       rw [if_pos c38] at H
       have c38b0 := decide_eq_true c38
       clear c38
       obtain ⟨b3, i2, H⟩ := Option.bind_eq_some_iff.mp H; have A39 := am_ i2; clear i2
       by_cases c40 : 0 < (b3.length : Int)
       rotate_left
       ·rw [if_neg c40] at H
        exact absurd H (by simp)
       rw [if_pos c40] at H
       have c40b0 := decide_eq_true c40
       have c40b1 : decide (0 < b3.length) = true := decide_eq_true (by omega)
       clear c40
       by_cases c41 : (rd b3 0) = x10_2
       rotate_left
       ·rw [if_neg c41] at H
        have c41b0 : ((rd b3 0) == x10_2) = false := beq_eq_false_iff_ne.mpr c41
        have c41b1 : ((rd b3 0) != x10_2) = true := bne_iff_ne.mpr c41
        have H' := am_ H; clear H
        obtain ⟨o8, o9, k9⟩ := Kd.N_slice a6.out
        subst k9
        have p224 := dp_ x11_3
        have q224 := dl_ x11_3 b0.length
        obtain ⟨ad224, A224_0, c224_0, e224, c4, hl224_0, hi224_0⟩ := at_L1 (Kd.N_reads' a6.out).2.2 x11_3 p224 q224
        cases e224
        obtain ⟨ce224, hce224, hMe224, hcc224⟩ := Kd.N_get a6.out [] x11_3 p224 (by first | exact q224 | exact of_decide_eq_true qa_ | (have e_ := (Kd.N_reads' a6.out).1; omega))
        obtain ⟨ua224_0, uc224_0, rfl, ul224_0, ge224_0⟩ := Kd.FK_slice_open hMe224
        have hv224_0 := hcc224 0 _ rfl
        rw [Nat.add_zero, show ((Kd.slice 3 (Kd.int .i64))).sz = 1 from rfl, Nat.mul_one] at hv224_0
        replace hv224_0 := Option.some.inj (hv224_0.symm.trans c4)
        injection hv224_0 with hva_ hvn_ hvc_
        rw [hva_] at ge224_0
        rw [hvc_] at ul224_0
        have HL224_0 := am_ (show Kd.V (Kd.int .i64) 3 _ w.heap.size _ _ (rd_L1 b0 x11_3) from Kd.V_mk ul224_0 ge224_0)
        clear hva_ hvn_ hvc_ ge224_0 ul224_0; clear hcc224 hce224
        have HR224_0 := am_ hi224_0
        have HC224_0 := am_ hl224_0
        clear hi224_0 hl224_0; replace p224 := eq_true p224; replace q224 := eq_true q224
        go_wp2_with (first | ((with_reducible refine gate_callee (f := 59) rfl ?_); refine gl_ (some 56) Try.func59 #[.slice A224_0 (rd_L1 b0 x11_3).length c224_0] ?_; (with_reducible refine (spec_VertsOf.calls k3 _ _ (rd_L1 b0 x11_3) b3 _ ?side1 ?side2 A39.out).mono ?_); (case side1 => repeat (first | exact (by repeat (first | (with_reducible exact HR224_0.out) | (with_reducible refine Kd.C_alloc ?_ _) | (with_reducible refine Kd.C_drewN ?_ _) | (with_reducible refine Kd.C_drew ?_) | exact HR224_0.out)) | (with_reducible refine Kd.C_alloc ?_ _) | (with_reducible refine Kd.C_drewN ?_ _) | (with_reducible refine Kd.C_drew ?_))); (case side2 => exact HC224_0.out); rintro e w51 ⟨l3, rfl, ho0, hb⟩; refine ⟨_, rfl, ?_⟩; have b4 := am_ (Kd.R_lower (Kd.R_newM (M := fun k_ => (w.heap.size ≤ k_)) ho0 (below_size qB_) (fun k_ h_ => h_)) (below_size qB_)); replace a6 := am_ (Kd.N_elder' (by (with_reducible repeat (first | apply Kd.N_alloc | apply Kd.N_drewN | apply Kd.N_drew)); exact a6.out) (Kd.R_base ho0) hb); replace a1 := am_ (Kd.N_elder' (by (with_reducible repeat (first | apply Kd.N_alloc | apply Kd.N_drewN | apply Kd.N_drew)); exact a1.out) (Kd.R_base ho0) hb); replace HL224_0 := am_ (Kd.V_elder' (by (with_reducible repeat (first | apply Kd.V_alloc | apply Kd.V_drewN | apply Kd.V_drew)); exact HL224_0.out) (Kd.R_base ho0) hb); replace a0 := qbl_ a0 hb; replace a2 := qbl_ a2 hb; replace a7 := qbl_ a7 hb; replace HR224_0 := am_ (Kd.C_below (by repeat (first | (with_reducible exact HR224_0.out) | (with_reducible refine Kd.C_alloc ?_ _) | (with_reducible refine Kd.C_drewN ?_ _) | (with_reducible refine Kd.C_drew ?_) | exact HR224_0.out)) hb); replace HB := hs_ hb; (try clear hb); (try clear hb2); (try clear hk); (try clear hi); (try clear ho0); obtain ⟨p0, p1, l4⟩ := Kd.R_slice b4.out; subst l4; have p228 : 0 ≤ (0 : Int) := (by omega); have q228 := dl_ 0 b3.length; obtain ⟨ad228, e228, b6⟩ := Kd.at_int (Kd.R_reads' b4.out).2.2 0 p228 q228; cases e228; have qi228 : (0 < b3.length) = True := eq_true (by omega); (try rw [show ((0 : Int)).toNat = 0 from rfl] at b6); (try rw [Addr.add_zero'] at b6); replace p228 := eq_true p228; replace q228 := eq_true q228))
        go_roundg k3
        case measure => have := HK1.out; have := HK2.out; have := HK3.out; omega
        case rel => exact ⟨(wrap64 (x11_3 + 1)), (a9), (a4), qe_, H', ⟨by have := HK1.out; have := HK2.out; have := HK3.out; omega⟩, ⟨by (with_reducible repeat (first | apply Kd.N_alloc | apply Kd.N_drewN | apply Kd.N_drew)); exact Kd.N_mono a6.out (fun _ hk => ⟨hk.1.1, ⟨hk.1.2.1, ⟨hk.1.2.2.1, ⟨hk.1.2.2.2.1, hk.1.2.2.2.2⟩⟩⟩⟩)⟩, ⟨by (with_reducible repeat (first | apply Kd.N_alloc | apply Kd.N_drewN | apply Kd.N_drew)); exact Kd.N_mono a1.out (fun _ hk => ⟨hk.1.1, ⟨hk.1.2.1, ⟨hk.1.2.2.1, ⟨hk.1.2.2.2.1, hk.1.2.2.2.2⟩⟩⟩⟩)⟩, ⟨qk_ a0⟩, ⟨qk_ a2⟩, ⟨qk_ a7⟩, ⟨qB_⟩⟩
       rw [if_pos c41] at H
       have c41b0 : ((rd b3 0) == x10_2) = true := beq_iff_eq.mpr c41
       have c41b1 : ((rd b3 0) != x10_2) = false := bne_eq_false_iff_eq.mpr c41
       clear c41
       by_cases c42 : a9.length < 5864062014805
       rotate_left
       ·rw [if_neg c42] at H
        exact absurd H (by simp)
       rw [if_pos c42] at H
       have LMc42 := am_ c42
       clear c42
       obtain ⟨g0, hy230⟩ : ∃ y_ : List (List Int), y_ = (a9 ++ [rd_L1 b0 x11_3]) := ⟨_, rfl⟩
       replace H : (spec_l07With.l2 k3 b0 x10_2 (wrap64 (x11_3 + 1)) a0_0 l0_1 a0_0 g0) = some (r1, r2) := by first | (rw [hy230]; with_reducible exact H) | (have H2_ := (Option.bind_some _ _).symm.trans H; rw [hy230]; with_reducible exact H2_) | (have H2_ := (Option.bind_some _ _).symm.trans H; with_reducible exact H2_) | with_reducible exact H | (rw [hy230]; exact H) | exact H
       have Ny230 := am_ hy230
       clear hy230; have H' := am_ H; clear H
       obtain ⟨p3, f6, l5⟩ := Kd.N_slice a6.out
       subst l5
       have p224 := dp_ x11_3
       have q224 := dl_ x11_3 b0.length
       obtain ⟨ad224, A224_0, c224_0, e224, c4, hl224_0, hi224_0⟩ := at_L1 (Kd.N_reads' a6.out).2.2 x11_3 p224 q224
       cases e224
       obtain ⟨ce224, hce224, hMe224, hcc224⟩ := Kd.N_get a6.out [] x11_3 p224 (by first | exact q224 | exact of_decide_eq_true qa_ | (have e_ := (Kd.N_reads' a6.out).1; omega))
       obtain ⟨ua224_0, uc224_0, rfl, ul224_0, ge224_0⟩ := Kd.FK_slice_open hMe224
       have hv224_0 := hcc224 0 _ rfl
       rw [Nat.add_zero, show ((Kd.slice 3 (Kd.int .i64))).sz = 1 from rfl, Nat.mul_one] at hv224_0
       replace hv224_0 := Option.some.inj (hv224_0.symm.trans c4)
       injection hv224_0 with hva_ hvn_ hvc_
       rw [hva_] at ge224_0
       rw [hvc_] at ul224_0
       have HL224_0 := am_ (show Kd.V (Kd.int .i64) 3 _ w.heap.size _ _ (rd_L1 b0 x11_3) from Kd.V_mk ul224_0 ge224_0)
       clear hva_ hvn_ hvc_ ge224_0 ul224_0; clear hcc224 hce224
       have HR224_0 := am_ hi224_0
       have HC224_0 := am_ hl224_0
       clear hi224_0 hl224_0; replace p224 := eq_true p224; replace q224 := eq_true q224
       try go_wp2_with (first | ((with_reducible refine gate_callee (f := 59) rfl ?_); refine gl_ (some 56) Try.func59 #[.slice A224_0 (rd_L1 b0 x11_3).length c224_0] ?_; (with_reducible refine (spec_VertsOf.calls k3 _ _ (rd_L1 b0 x11_3) b3 _ ?side1 ?side2 A39.out).mono ?_); (case side1 => repeat (first | exact (by repeat (first | (with_reducible exact HR224_0.out) | (with_reducible refine Kd.C_alloc ?_ _) | (with_reducible refine Kd.C_drewN ?_ _) | (with_reducible refine Kd.C_drew ?_) | exact HR224_0.out)) | (with_reducible refine Kd.C_alloc ?_ _) | (with_reducible refine Kd.C_drewN ?_ _) | (with_reducible refine Kd.C_drew ?_))); (case side2 => exact HC224_0.out); rintro e w44 ⟨l3, rfl, ho0, hb⟩; refine ⟨_, rfl, ?_⟩; have b4 := am_ (Kd.R_lower (Kd.R_newM (M := fun k_ => (w.heap.size ≤ k_)) ho0 (below_size qB_) (fun k_ h_ => h_)) (below_size qB_)); replace a6 := am_ (Kd.N_elder' (by (with_reducible repeat (first | apply Kd.N_alloc | apply Kd.N_drewN | apply Kd.N_drew)); exact a6.out) (Kd.R_base ho0) hb); replace a1 := am_ (Kd.N_elder' (by (with_reducible repeat (first | apply Kd.N_alloc | apply Kd.N_drewN | apply Kd.N_drew)); exact a1.out) (Kd.R_base ho0) hb); replace HL224_0 := am_ (Kd.V_elder' (by (with_reducible repeat (first | apply Kd.V_alloc | apply Kd.V_drewN | apply Kd.V_drew)); exact HL224_0.out) (Kd.R_base ho0) hb); replace a0 := qbl_ a0 hb; replace a2 := qbl_ a2 hb; replace a7 := qbl_ a7 hb; replace HR224_0 := am_ (Kd.C_below (by repeat (first | (with_reducible exact HR224_0.out) | (with_reducible refine Kd.C_alloc ?_ _) | (with_reducible refine Kd.C_drewN ?_ _) | (with_reducible refine Kd.C_drew ?_) | exact HR224_0.out)) hb); replace HB := hs_ hb; (try clear hb); (try clear hb2); (try clear hk); (try clear hi); (try clear ho0); obtain ⟨p4, c6, l6⟩ := Kd.R_slice b4.out; subst l6; have p228 : 0 ≤ (0 : Int) := (by omega); have q228 := dl_ 0 b3.length; obtain ⟨ad228, e228, b6⟩ := Kd.at_int (Kd.R_reads' b4.out).2.2 0 p228 q228; cases e228; have qi228 : (0 < b3.length) = True := eq_true (by omega); (try rw [show ((0 : Int)).toNat = 0 from rfl] at b6); (try rw [Addr.add_zero'] at b6); replace p228 := eq_true p228; replace q228 := eq_true q228))
       replace a6 := am_ (Kd.N_drew a6.out); replace a1 := am_ (Kd.N_drew a1.out); replace HL224_0 := am_ (Kd.V_drew HL224_0.out); replace b4 := am_ (Kd.R_drew b4.out); replace a0 := am_ (blk_drew a0.out); replace a2 := am_ (blk_drew a2.out); replace a7 := am_ (blk_drew a7.out); replace HR224_0 := am_ (Kd.C_drew HR224_0.out); replace HB := am_ (below_drew1 HB.out)
       have p229 := dp_ x11_3
       have q229 := dl_ x11_3 b0.length
       obtain ⟨ad229, A229_0, c229_0, e229, c5, hl229_0, hi229_0⟩ := at_L1 (Kd.N_reads' a6.out).2.2 x11_3 p229 q229
       obtain rfl : ad224 = ad229 := (by injection e229)
       obtain ⟨ce229, hce229, hMe229, hcc229⟩ := Kd.N_get a6.out [] x11_3 p229 (by first | exact q229 | exact of_decide_eq_true qa_ | (have e_ := (Kd.N_reads' a6.out).1; omega))
       obtain ⟨ua229_0, uc229_0, rfl, ul229_0, ge229_0⟩ := Kd.FK_slice_open hMe229
       have hv229_0 := hcc229 0 _ rfl
       rw [Nat.add_zero, show ((Kd.slice 3 (Kd.int .i64))).sz = 1 from rfl, Nat.mul_one] at hv229_0
       replace hv229_0 := Option.some.inj (hv229_0.symm.trans c5)
       injection hv229_0 with hva_ hvn_ hvc_
       rw [hva_] at ge229_0
       rw [hvc_] at ul229_0
       have HL229_0 := am_ (show Kd.V (Kd.int .i64) 3 _ w.heap.size _ _ (rd_L1 b0 x11_3) from Kd.V_mk ul229_0 ge229_0)
       clear hva_ hvn_ hvc_ ge229_0 ul229_0; clear hcc229 hce229
       have HR229_0 := am_ hi229_0
       have HC229_0 := am_ hl229_0
       clear hi229_0 hl229_0; replace p229 := eq_true p229; replace q229 := eq_true q229
       refine start_ (n := 10) (S := fun w' => w'.cell? ⟨a8, 0, none⟩ = some (.int .i64 a0_0) ∧ w'.cell? ⟨a8, 1, none⟩ = some (a4) ∧ w'.cell? (ad224.add (x11_3).toNat) = some (.slice A229_0 (rd_L1 b0 x11_3).length c229_0)) (ds := [7, 9]) (bm 10 0) (by kernel_rfl) rfl (by kernel_rfl) ⟨bl_ a7 0, bl_ a7 1, c5⟩ (fun hHeld => ?_); refine with_tabW spec_l07With.tab16 spec_l07With.bits16 (fun HT_ HW_ => ?_)
       generalize w44.drew = w46 at a6 a1 HL224_0 b4 a0 a2 a7 HR224_0 HB HL229_0 HR229_0 c5 hHeld ⊢
       refine pz_ 0 61 (bm 10 1) ?_; refine pz_ 2 63 (bm 10 5) ?_; refine pz_ 3 64 (bm 10 13) ?_; refine pz_ 4 65 (bm 10 29) ?_; refine tz3_ 1 62 (bm 10 31) ?_; refine tz3_ 5 66 (bm 10 63) ?_
       refine o1_ 6 (some 67) (bm 10 127) (fun K hK => ?_)
       refine value_ (w1 := ?_) (v := ?_) (by rfl) rfl ?_ ?_
       rotate_left 2
       ·go_simp
        constructor
        ·rfl
        rfl
       refine hK.out _ _ ⟨(blk_cell (blk_alloc a7.out _) 0).trans rfl, (blk_cell (blk_alloc a7.out _) 1).trans rfl, (World.cell?_alloc_lt _ _ _ (World.block_lt_of_cell? _ _ (hHeld.2.2))).trans (hHeld.2.2)⟩ (fun hHeld => ?_)
       clear hK K
       refine nm_ 67 ?_
       refine last_ (i := 7) (N := some 68) (bm 10 255) rfl rfl (one_of HT_.out (by kernel_rfl)) (by decide) (fun K hK => ?_)
       refine Kd.N_append_step (Kd.slice 3 (Kd.int .i64)) (w0 := w) w.heap.size (by rfl) (.tmp 62) (.tmp 67) 33 51 (.slice none 0 0) 24 rfl Try.underlying33 info51 rfl (by decide) (by omega) a4 a9 (rd_L1 b0 x11_3) [.slice A229_0 (rd_L1 b0 x11_3).length c229_0] (fun k_ => (P2_ k_ ∨ w.heap.size ≤ k_) ∧ some k_ ≠ (.slice (some ad224) b0.length f6 : Value).ownBlock ∧ some k_ ≠ (.slice (some ad228) b3.length c6 : Value).ownBlock ∧ k_ ≠ a5 ∧ k_ ≠ a3 ∧ k_ ≠ a8) (fun k_ => ((fun k_ => (P2_ k_ ∨ w.heap.size ≤ k_) ∧ some k_ ≠ (.slice (some ad224) b0.length f6 : Value).ownBlock ∧ some k_ ≠ (.slice (some ad228) b3.length c6 : Value).ownBlock ∧ k_ ≠ a5 ∧ k_ ≠ a3 ∧ k_ ≠ a8)) k_ ∧ some k_ ≠ (a4 : Value).ownBlock) rfl rfl ?aP (fun _ hk => hk) ?aF ?aO ?aB ?aS ?aL ?_
       (case aP => exact (Kd.FK_slice_mk (Kd.V_reads' (Kd.V_mono (ok' := (fun k_ => ((fun k_ => (P2_ k_ ∨ w.heap.size ≤ k_) ∧ some k_ ≠ (.slice (some ad224) b0.length f6 : Value).ownBlock ∧ some k_ ≠ (.slice (some ad228) b3.length c6 : Value).ownBlock ∧ k_ ≠ a5 ∧ k_ ≠ a3 ∧ k_ ≠ a8)) k_ ∧ some k_ ≠ (a4 : Value).ownBlock)) (HL229_0.out) (fun k_ hk => ⟨⟨hk.1.1.1, ⟨hk.2, ⟨hk.1.2, ⟨hk.1.1.2.2.1, ⟨hk.1.1.2.2.2.1, hk.1.1.2.2.2.2⟩⟩⟩⟩⟩, hk.1.1.2.1⟩))).2.1 (Kd.V_F (Kd.V_mono (ok' := (fun k_ => ((fun k_ => (P2_ k_ ∨ w.heap.size ≤ k_) ∧ some k_ ≠ (.slice (some ad224) b0.length f6 : Value).ownBlock ∧ some k_ ≠ (.slice (some ad228) b3.length c6 : Value).ownBlock ∧ k_ ≠ a5 ∧ k_ ≠ a3 ∧ k_ ≠ a8)) k_ ∧ some k_ ≠ (a4 : Value).ownBlock)) (HL229_0.out) (fun k_ hk => ⟨⟨hk.1.1.1, ⟨hk.2, ⟨hk.1.2, ⟨hk.1.1.2.2.1, ⟨hk.1.1.2.2.2.1, hk.1.1.2.2.2.2⟩⟩⟩⟩⟩, hk.1.1.2.1⟩)))))
       (case aB => exact qB_)
       (case aF => exact (fun k_ hk => ⟨(.inr (Nat.le_trans (below_size qB_) hk)), Kd.fresh' (Kd.N_lt (by (with_reducible repeat (first | apply Kd.N_alloc | apply Kd.N_drewN | apply Kd.N_drew)); exact a6.out)) k_ hk, Kd.fresh' (Kd.R_lt (qR_ b4)) k_ hk, Kd.freshB (qk_ a0) k_ hk, Kd.freshB (qk_ a2) k_ hk, Kd.freshB (qk_ a7) k_ hk⟩))
       (case aO => exact (by (with_reducible repeat (first | apply Kd.N_alloc | apply Kd.N_drewN | apply Kd.N_drew)); exact Kd.N_mono a1.out (fun _ hk => ⟨hk.1.1, ⟨hk.1.2.1, ⟨hk.2, ⟨hk.1.2.2.1, ⟨hk.1.2.2.2.1, hk.1.2.2.2.2⟩⟩⟩⟩⟩)))
       (case aS => exact (below_size qB_))
       (case aL => have := LMc42.out; omega)
       intro p5 w47 ho hb hg hat
       rw [← Ny230.out] at ho
       have n0_ := am_ (Kd.N_afterv (ok := (fun k_ => (P2_ k_ ∨ w.heap.size ≤ k_) ∧ some k_ ≠ (.slice (some ad228) b3.length c6 : Value).ownBlock ∧ k_ ≠ a5 ∧ k_ ≠ a3 ∧ k_ ≠ a8)) (by (with_reducible repeat (first | apply Kd.N_alloc | apply Kd.N_drewN | apply Kd.N_drew)); exact Kd.N_mono a6.out (fun _ hk => ⟨⟨hk.1.1, ⟨hk.2, ⟨hk.1.2.2.1, ⟨hk.1.2.2.2.1, hk.1.2.2.2.2⟩⟩⟩⟩, hk.1.2.1⟩)) hg hat)
       have n1_ := am_ (blk_grown (qk_ a0) hg (Kd.N_ne a1.out a0.out (by decide)))
       have n2_ := am_ (blk_grown (qk_ a2) hg (Kd.N_ne a1.out a2.out (by decide)))
       have n3_ := am_ (blk_grown (qk_ a7) hg (Kd.N_ne a1.out a7.out (by decide)))
       have n4_ := am_ (Kd.V_afterv (ok := (fun k_ => (P2_ k_ ∨ w.heap.size ≤ k_) ∧ some k_ ≠ (.slice (some ad224) b0.length f6 : Value).ownBlock ∧ some k_ ≠ (.slice (some ad228) b3.length c6 : Value).ownBlock ∧ k_ ≠ a5 ∧ k_ ≠ a3 ∧ k_ ≠ a8)) (by (with_reducible repeat (first | apply Kd.V_alloc | apply Kd.V_drewN | apply Kd.V_drew)); exact Kd.V_mono HL224_0.out (fun _ hk => ⟨⟨hk.1.1.1, ⟨hk.1.2, ⟨hk.2, ⟨hk.1.1.2.2.1, ⟨hk.1.1.2.2.2.1, hk.1.1.2.2.2.2⟩⟩⟩⟩⟩, hk.1.1.2.1⟩)) hg hat)
       have n5_ := am_ (Kd.R_over' (qR_ b4) (Kd.N_typed (by (with_reducible repeat (first | apply Kd.N_alloc | apply Kd.N_drewN | apply Kd.N_drew)); exact a1.out)) (by decide) hg)
       have n6_ := am_ (Kd.V_afterv (ok := (fun k_ => (P2_ k_ ∨ w.heap.size ≤ k_) ∧ some k_ ≠ (.slice (some ad224) b0.length f6 : Value).ownBlock ∧ some k_ ≠ (.slice (some ad228) b3.length c6 : Value).ownBlock ∧ k_ ≠ a5 ∧ k_ ≠ a3 ∧ k_ ≠ a8)) (by (with_reducible repeat (first | apply Kd.V_alloc | apply Kd.V_drewN | apply Kd.V_drew)); exact Kd.V_mono HL229_0.out (fun _ hk => ⟨⟨hk.1.1.1, ⟨hk.2, ⟨hk.1.2, ⟨hk.1.1.2.2.1, ⟨hk.1.1.2.2.2.1, hk.1.1.2.2.2.2⟩⟩⟩⟩⟩, hk.1.1.2.1⟩)) hg hat)
       have n7_ := am_ (hb)
       have n8_ := am_ (ho)
       clear a6; clear a0; clear a2; clear a7; clear HL224_0; clear b4; clear HL229_0; clear HB; clear a1; have a6 := n0_; have a0 := n1_; have a2 := n2_; have a7 := n3_; have HL224_0 := n4_; have b4 := n5_; have HL229_0 := n6_; have HB := n7_; have g8 := n8_; clear n0_ n1_ n2_ n3_ n4_ n5_ n6_ n7_ n8_; clear ho hb hg hat
       obtain ⟨h0, h1, i3⟩ := Kd.N_slice g8.out
       (first | subst i3 | (injection i3 with f1_ f2_ f3_; have f4_ := f1_.symm; have f5_ := f3_.symm; clear f1_ f2_ f3_; subst f4_; subst f5_))
       refine hK.out _ _ ?_
       clear hK K
       refine nm_ 68 ?_
       refine pz_ 8 69 (bm 10 511) ?_
       refine last_ (i := 9) (N := none) (bm 10 1023) rfl rfl (one_of HT_.out (by kernel_rfl)) (by decide) (fun K hK => ?_)
       have hs49 : w47.cell? ⟨a8, 1, none⟩ = some (a4) := bl_ a7 1
       have hfs49 := blk_frozen a7.out 1
       have j6 := b7.out; have j7 := f5.out; have j8 := c0.out; have j9 := b8.out
       refine skip_ (w1 := ?_) (by rfl) rfl ?_ ?_
       rotate_left
       ·go_simp
        rfl
       refine hK.out _ _ ?_
       clear hK K
       refine done_ (done_of HT_.out (by kernel_rfl)) ?_
       try go_wp2
       go_roundg k3
       case measure => have := HK1.out; have := HK2.out; have := HK3.out; omega
       case rel => exact ⟨(wrap64 (x11_3 + 1)), (g0), (.slice h0 g0.length h1), qe_, H', ⟨by have := HK1.out; have := HK2.out; have := HK3.out; omega⟩, ⟨by (with_reducible repeat (first | apply Kd.N_alloc | apply Kd.N_drewN | apply Kd.N_drew)); exact Kd.N_mono (Kd.N_far (p := ⟨a8, 1, none⟩) (Kd.N_mono a6.out (fun k_ hk => (⟨hk, hk.1.2.2.2.2⟩ : _ ∧ k_ ≠ a8))) (fun _ hk => hk.2) (.slice h0 g0.length h1)) (fun _ hk => ⟨hk.1.1.1, ⟨hk.1.2, ⟨hk.1.1.2.2.1, ⟨hk.1.1.2.2.2.1, hk.1.1.2.2.2.2⟩⟩⟩⟩)⟩, ⟨by (with_reducible repeat (first | apply Kd.N_alloc | apply Kd.N_drewN | apply Kd.N_drew)); exact Kd.N_mono (Kd.N_far (p := ⟨a8, 1, none⟩) (Kd.N_mono g8.out (fun k_ hk => (⟨hk, hk.2.2.2.2.2⟩ : _ ∧ k_ ≠ a8))) (fun _ hk => hk.2) (.slice h0 g0.length h1)) (fun _ hk => ⟨hk.1.1, ⟨hk.1.2.1, ⟨hk.1.2.2.2.1, ⟨hk.1.2.2.2.2.1, hk.1.2.2.2.2.2⟩⟩⟩⟩)⟩, ⟨qf_ a0⟩, ⟨qf_ a2⟩, ⟨by (with_reducible repeat (first | refine blk_drewN ?_ _ | refine blk_drew ?_ | refine blk_alloc ?_ _)); refine blk_put (cs := #[.int .i64 a0_0, a4]) ?_ 1 _ rfl; exact qf_ a7⟩, ⟨qB_⟩⟩
def spec_l06First.l0 : Nat → List Int → Int → Int → Option (Int)
  | 0, _, _, _ => none
  | k + 1, x0, x1, x5 => if x5 < (x0.length : Int) then (if 0 ≤ x5 then (if (rd x0 x5) = x1 then (some x5) else (spec_l06First.l0 k x0 x1 (wrap64 (x5 + 1)))) else (none)) else (some (-1))
def spec_l06First.f (k : Nat) (l0 : List Int) (a1 : Int) : Option (Int) := spec_l06First.l0 k l0 a1 0
theorem spec_l06First.mono_l : ∀ k, (∀ y0 y1 y2, LeO (spec_l06First.l0 k y0 y1 y2) (spec_l06First.l0 (k + 1) y0 y1 y2))
  | 0 => fun _ _ _ r h => by simp [spec_l06First.l0] at h
  | k + 1 => by
    have ih0 := spec_l06First.mono_l k
    · intro y0 y1 y2
      unfold spec_l06First.l0
      repeat' first | (with_reducible first | exact ih0 _ _ _ | exact LeO.refl _ | exact LeO.none _ | refine LeO.ite ?_ ?_ | refine LeO.bind ?_ (fun _ => ?_)) | exact LeO.none _ | refine LeO.ite ?_ ?_ | refine LeO.bind ?_ (fun _ => ?_)
theorem spec_l06First.mono : ∀ a0 a1 k, LeO (spec_l06First.f k a0 a1) (spec_l06First.f (k + 1) a0 a1) := by
  intro a0 a1 k
  have ih0 := spec_l06First.mono_l k
  unfold spec_l06First.f
  repeat' first | (with_reducible first | exact ih0 _ _ _ | exact LeO.refl _ | exact LeO.none _ | refine LeO.ite ?_ ?_ | refine LeO.bind ?_ (fun _ => ?_)) | exact LeO.none _ | refine LeO.ite ?_ ?_ | refine LeO.bind ?_ (fun _ => ?_)
set_option maxHeartbeats 8000000 in
set_option maxRecDepth 100000 in
theorem spec_l06First.calls (k : Nat) (A0 : Option Addr) (c0 : Nat) (l0 : List Int) (a1 : Int) (r : Int) (w : World) (hr0 : Kd.C (Kd.int .i64) w A0 l0.length l0) (hc0 : l0.length ≤ c0) (h : spec_l06First.f k l0 a1 = some r) :
  Calls Try.prog 122 #[.slice A0 l0.length c0, .int .i64 a1] w fun e w' => e = .returned (.int .i64 r) ∧ Drawn0 w w' := by
 have a2 := am_ hr0
 have a3 := am_ hc0
 clear hr0 hc0
 have H : (spec_l06First.l0 k l0 a1 0) = some r := h
 clear h; have H' := am_ H; clear H
 go_enter Try.func122, Try.ntmps122
 go_wp2
 go_loopg [5] k (fun kq v5 w' => ∃ (x5_1 : Int), v5 = .int .i64 x5_1 ∧ Aside0 (spec_l06First.l0 kq l0 a1 x5_1 = some r) ∧ Aside0 (kq ≤ k) ∧ Drawn0 w w')
 case atStart => exact ⟨(0), qe_, H', ⟨Nat.le_refl _⟩, by repeat (first | exact Drawn0.refl _ | apply Drawn0.step)⟩
 case round =>
  clear H'
  (try clear c1); (try clear p2)
  obtain ⟨x5_1, rfl, HA, HK1, ⟨m1, rfl⟩⟩ := hrel
  cases gk with
  | zero => exact absurd HA.out (by simp [spec_l06First.l0])
  | succ k1 =>
   have H := HA.out; clear HA
   simp only [spec_l06First.l0] at H
   by_cases c3 : x5_1 < (l0.length : Int)
   rotate_left
   ·rw [if_neg c3] at H
    have c3b0 := decide_eq_false c3
    clear c3
    obtain rfl := Option.some.inj H
    go_wp2
    go_ret
    exact ⟨by first | rfl | (simp; done) | (simp [*]; done), by repeat (first | exact Drawn0.refl _ | apply Drawn0.step)⟩
   rw [if_pos c3] at H
   have c3b0 := decide_eq_true c3
   clear c3
   by_cases c4 : 0 ≤ x5_1
   rotate_left
   ·rw [if_neg c4] at H
    exact absurd H (by simp)
   rw [if_pos c4] at H
   have c4b0 := decide_eq_true c4
   clear c4
   by_cases c5 : (rd l0 x5_1) = a1
   ·rw [if_pos c5] at H
    have c5b0 : ((rd l0 x5_1) == a1) = true := beq_iff_eq.mpr c5
    have c5b1 : ((rd l0 x5_1) != a1) = false := bne_eq_false_iff_eq.mpr c5
    clear c5
    obtain rfl := Option.some.inj H
    have p233 := dp_ x5_1
    have q233 := dl_ x5_1 l0.length
    obtain ⟨ad233, e233, a0⟩ := Kd.at_int a2.out x5_1 p233 q233
    cases e233; replace p233 := eq_true p233; replace q233 := eq_true q233
    go_wp2
    go_ret
    exact ⟨by first | rfl | (simp; done) | (simp [*]; done), by repeat (first | exact Drawn0.refl _ | apply Drawn0.step)⟩
   rw [if_neg c5] at H
   have c5b0 : ((rd l0 x5_1) == a1) = false := beq_eq_false_iff_ne.mpr c5
   have c5b1 : ((rd l0 x5_1) != a1) = true := bne_iff_ne.mpr c5
   have H' := am_ H; clear H
   have p233 := dp_ x5_1
   have q233 := dl_ x5_1 l0.length
   obtain ⟨ad233, e233, a0⟩ := Kd.at_int a2.out x5_1 p233 q233
   cases e233; replace p233 := eq_true p233; replace q233 := eq_true q233
   go_wp2
   go_roundg k1
   case measure => have := HK1.out; omega
   case rel => exact ⟨(wrap64 (x5_1 + 1)), qe_, H', ⟨by have := HK1.out; omega⟩, by repeat (first | exact Drawn0.refl _ | apply Drawn0.step)⟩
end Go.Proofs.Ytbkklafkoegdpaa.QFnExactLink
