import Derived.Test.YtbkklafkoegdpaaQFnExactLinkx2
namespace Go.Proofs.Ytbkklafkoegdpaa.QFnExactLink
open Go.RowKit Go.Proofs.YtbkklafkoegdpaaW.PrintWords Go.Proofs.YtbkklafkoegdpaaW.PrintLast Go.Proofs.YtbkklafkoegdpaaW.PrintMore
set_option linter.unusedVariables false
set_option linter.unusedSimpArgs false
mutual
def spec_l06Open.l0 : Nat → List Int → List Int → List Int → Int → Option (Bool)
  | 0, _, _, _, _ => none
  | k + 1, x0, x3, x4, x5 => if x5 < (x0.length : Int) then (if (x3.length : Int) > 1 then (if 0 ≤ x5 then (if 0 ≤ (wrap64 ((x3.length : Int) - 2)) then (if (wrap64 ((x3.length : Int) - 2)) < (x3.length : Int) then (spec_l06Open.j1 k x0 x3 x4 x5 ((rd x0 x5) == (rd x3 (wrap64 ((x3.length : Int) - 2))))) else (none)) else (none)) else (none)) else (spec_l06Open.j1 k x0 x3 x4 x5 false)) else (some ((x3.length : Int) == 1))
def spec_l06Open.j1 : Nat → List Int → List Int → List Int → Int → Bool → Option (Bool)
  | 0, _, _, _, _, _ => none
  | k + 1, x0, x3, x4, x5, x35 => if x35 = true then (if 0 ≤ (wrap64 ((x3.length : Int) - 1)) then (if (wrap64 ((x3.length : Int) - 1)) ≤ (x3.length : Int) then (spec_l06Open.l0 k x0 (x3.take ((wrap64 ((x3.length : Int) - 1)) : Int).toNat) x4 (wrap64 (x5 + 1))) else (none)) else (none)) else (if 0 ≤ x5 then (if x5 < (x0.length : Int) then ((spec_l05In.f k x4 (rd x0 x5)).bind fun t165 => (if t165 = true then (some false) else (if x4.length < 17592186044416 then (if x3.length < 17592186044416 then (spec_l06Open.l0 k x0 (x3 ++ [rd x0 x5]) (x4 ++ [rd x0 x5]) (wrap64 (x5 + 1))) else (none)) else (none)))) else (none)) else (none))
end
def spec_l06Open.f (k : Nat) (l0 : List Int) : Option (Bool) := if 0 < (l0.length : Int) then (spec_l06Open.l0 k l0 (([rd l0 0] : List Int)) (([rd l0 0] : List Int)) 1) else (none)
theorem spec_l06Open.mono_l : ∀ k, (∀ y0 y1 y2 y3, LeO (spec_l06Open.l0 k y0 y1 y2 y3) (spec_l06Open.l0 (k + 1) y0 y1 y2 y3)) ∧ (∀ y0 y1 y2 y3 y4, LeO (spec_l06Open.j1 k y0 y1 y2 y3 y4) (spec_l06Open.j1 (k + 1) y0 y1 y2 y3 y4))
  | 0 => ⟨fun _ _ _ _ r h => by simp [spec_l06Open.l0] at h, fun _ _ _ _ _ r h => by simp [spec_l06Open.j1] at h⟩
  | k + 1 => by
    obtain ⟨ih0, ih1⟩ := spec_l06Open.mono_l k
    refine ⟨?_, ?_⟩ <;> (intros; first | unfold spec_l06Open.l0 | unfold spec_l06Open.j1) <;> repeat' first | (with_reducible first | exact ih0 _ _ _ _ | exact ih1 _ _ _ _ _ | exact spec_l05In.mono _ _ _ | exact LeO.refl _ | exact LeO.none _ | refine LeO.ite ?_ ?_ | refine LeO.bind ?_ (fun _ => ?_)) | exact LeO.none _ | refine LeO.ite ?_ ?_ | refine LeO.bind ?_ (fun _ => ?_)
theorem spec_l06Open.mono : ∀ a0 k, LeO (spec_l06Open.f k a0) (spec_l06Open.f (k + 1) a0) := by
  intro a0 k
  obtain ⟨ih0, ih1⟩ := spec_l06Open.mono_l k
  unfold spec_l06Open.f
  repeat' first | (with_reducible first | exact ih0 _ _ _ _ | exact ih1 _ _ _ _ _ | exact spec_l05In.mono _ _ _ | exact LeO.refl _ | exact LeO.none _ | refine LeO.ite ?_ ?_ | refine LeO.bind ?_ (fun _ => ?_)) | exact LeO.none _ | refine LeO.ite ?_ ?_ | refine LeO.bind ?_ (fun _ => ?_)
set_option maxHeartbeats 8000000 in
set_option maxRecDepth 100000 in
theorem spec_l06Open.calls (k : Nat) (A0 : Option Addr) (c0 : Nat) (l0 : List Int) (r : Bool) (w : World) (hr0 : Kd.C (Kd.int .i64) w A0 l0.length l0) (hc0 : l0.length ≤ c0) (h : spec_l06Open.f k l0 = some r) :
  Calls Try.prog 134 #[.slice A0 l0.length c0] w fun e w' => e = .returned (.bool r) ∧ Below w.heap.size w w' := by
 have b1 := am_ hr0
 have f3 := am_ hc0
 clear hr0 hc0
 have HB := am_ (Below.refl w.heap.size w)
 have H : (if 0 < (l0.length : Int) then (spec_l06Open.l0 k l0 (([rd l0 0] : List Int)) (([rd l0 0] : List Int)) 1) else (none)) = some r := h
 clear h
 by_cases c2 : 0 < (l0.length : Int)
 rotate_left
 ·rw [if_neg c2] at H
  exact absurd H (by simp)
 rw [if_pos c2] at H
 have c2b0 := decide_eq_true c2
 have c2b1 : decide (0 < l0.length) = true := decide_eq_true (by omega)
 clear c2
 obtain ⟨b6, hy152⟩ : ∃ y_ : List Int, y_ = (([rd l0 0] : List Int)) := ⟨_, rfl⟩
 replace H : (spec_l06Open.l0 k l0 b6 (([rd l0 0] : List Int)) 1) = some r := by first | (rw [hy152]; with_reducible exact H) | (have H2_ := (Option.bind_some _ _).symm.trans H; rw [hy152]; with_reducible exact H2_) | (have H2_ := (Option.bind_some _ _).symm.trans H; with_reducible exact H2_) | with_reducible exact H | (rw [hy152]; exact H) | exact H
 have Ny152 := am_ hy152
 clear hy152
 obtain ⟨c4, hy156⟩ : ∃ y_ : List Int, y_ = (([rd l0 0] : List Int)) := ⟨_, rfl⟩
 replace H : (spec_l06Open.l0 k l0 b6 c4 1) = some r := by first | (rw [hy156]; with_reducible exact H) | (have H2_ := (Option.bind_some _ _).symm.trans H; rw [hy156]; with_reducible exact H2_) | (have H2_ := (Option.bind_some _ _).symm.trans H; with_reducible exact H2_) | with_reducible exact H | (rw [hy156]; exact H) | exact H
 have Ny156 := am_ hy156
 clear hy156; have H' := am_ H; clear H
 have p151 : 0 ≤ (0 : Int) := (by omega)
 have q151 := dl_ 0 l0.length
 obtain ⟨ad151, e151, a8⟩ := Kd.at_int b1.out 0 p151 q151
 cases e151
 have qi151 : (0 < l0.length) = True := eq_true (by omega)
 (try rw [show ((0 : Int)).toNat = 0 from rfl] at a8)
 (try rw [Addr.add_zero'] at a8)
 replace p151 := eq_true p151; replace q151 := eq_true q151
 go_enter Try.func134, Try.ntmps134
 go_wp2_with (first | ((with_reducible refine gate_dst (N := 9) rfl ?_); (try (refine gate_guard (by rfl) ?_; dsimp only)); refine Kd.R_lit (Kd.int .i64) _ 3 ?hg (N := 9) ?hd (xs := ([rd l0 0] : List Int)) (inner := [.int .i64 (rd l0 0)]) (ok := fun _ => True) (okp := fun _ => True) ?hr ?hp (fun _ hk => hk) trivial (Below.refl _ _) (Nat.le_refl _) (by simp) ?_; (case hd => rfl); (case hg => rfl); (case hr => first | (go_simp; done) | (go_simp; rfl)); (case hp => exact (Reps.one (show Kd.M (Kd.int .i64) _ _ _ (rd l0 0) [.int .i64 (rd l0 0)] from rfl) (Reps.none _ _))); intro d1 w3 ho4 hb hg_ hnew_; clear hg_ hnew_; (first | rw [← Ny152.out] at ho4 | (simp only [Int.reduceToNat] at ho4; rw [← Ny152.out] at ho4)); have a7 := am_ (Kd.R_lower ho4 (below_size qB_)); replace HB := hs_ hb; clear hb ho4; have p155 : 0 ≤ (0 : Int) := (by omega); have q155 := dl_ 0 l0.length; obtain ⟨ad155, e155, a0⟩ := Kd.at_int b1.out 0 p155 q155; obtain rfl : ad151 = ad155 := (by injection e155); have qi155 : (0 < l0.length) = True := eq_true (by omega); (try rw [show ((0 : Int)).toNat = 0 from rfl] at a0); (try rw [Addr.add_zero'] at a0); replace a0 := qx_ HB a0; replace p155 := eq_true p155; replace q155 := eq_true q155) | ((with_reducible refine gate_dst (N := 13) rfl ?_); (try (refine gate_guard (by rfl) ?_; dsimp only)); refine Kd.R_lit (Kd.int .i64) _ 3 ?hg (N := 13) ?hd (xs := ([rd l0 0] : List Int)) (inner := [.int .i64 (rd l0 0)]) (ok := fun _ => True) (okp := fun _ => True) ?hr ?hp (fun _ hk => hk) trivial (Below.refl _ _) (Nat.le_refl _) (by simp) ?_; (case hd => rfl); (case hg => rfl); (case hr => first | (go_simp; done) | (go_simp; rfl)); (case hp => exact (Reps.one (show Kd.M (Kd.int .i64) _ _ _ (rd l0 0) [.int .i64 (rd l0 0)] from rfl) (Reps.none _ _))); intro d2 w5 ho6 hb hg_ hnew_; clear hg_ hnew_; (first | rw [← Ny156.out] at ho6 | (simp only [Int.reduceToNat] at ho6; rw [← Ny156.out] at ho6)); have b4 := am_ (Kd.R_lower (Kd.R_new' ho6 (Kd.R_lt (qR_ a7))) (below_size qB_)); replace a7 := am_ (Kd.R_elder' (qR_ a7) (Kd.R_base ho6) hb); replace HB := hs_ hb; clear hb ho6))
 repeat (go_quiet (fail); try go_wp2_with (first | ((with_reducible refine gate_dst (N := 9) rfl ?_); (try (refine gate_guard (by rfl) ?_; dsimp only)); refine Kd.R_lit (Kd.int .i64) _ 3 ?hg (N := 9) ?hd (xs := ([rd l0 0] : List Int)) (inner := [.int .i64 (rd l0 0)]) (ok := fun _ => True) (okp := fun _ => True) ?hr ?hp (fun _ hk => hk) trivial (Below.refl _ _) (Nat.le_refl _) (by simp) ?_; (case hd => rfl); (case hg => rfl); (case hr => first | (go_simp; done) | (go_simp; rfl)); (case hp => exact (Reps.one (show Kd.M (Kd.int .i64) _ _ _ (rd l0 0) [.int .i64 (rd l0 0)] from rfl) (Reps.none _ _))); intro d1 w3 ho4 hb hg_ hnew_; clear hg_ hnew_; (first | rw [← Ny152.out] at ho4 | (simp only [Int.reduceToNat] at ho4; rw [← Ny152.out] at ho4)); have a7 := am_ (Kd.R_lower ho4 (below_size qB_)); replace HB := hs_ hb; clear hb ho4; have p155 : 0 ≤ (0 : Int) := (by omega); have q155 := dl_ 0 l0.length; obtain ⟨ad155, e155, a0⟩ := Kd.at_int b1.out 0 p155 q155; obtain rfl : ad151 = ad155 := (by injection e155); have qi155 : (0 < l0.length) = True := eq_true (by omega); (try rw [show ((0 : Int)).toNat = 0 from rfl] at a0); (try rw [Addr.add_zero'] at a0); replace a0 := qx_ HB a0; replace p155 := eq_true p155; replace q155 := eq_true q155) | ((with_reducible refine gate_dst (N := 13) rfl ?_); (try (refine gate_guard (by rfl) ?_; dsimp only)); refine Kd.R_lit (Kd.int .i64) _ 3 ?hg (N := 13) ?hd (xs := ([rd l0 0] : List Int)) (inner := [.int .i64 (rd l0 0)]) (ok := fun _ => True) (okp := fun _ => True) ?hr ?hp (fun _ hk => hk) trivial (Below.refl _ _) (Nat.le_refl _) (by simp) ?_; (case hd => rfl); (case hg => rfl); (case hr => first | (go_simp; done) | (go_simp; rfl)); (case hp => exact (Reps.one (show Kd.M (Kd.int .i64) _ _ _ (rd l0 0) [.int .i64 (rd l0 0)] from rfl) (Reps.none _ _))); intro d2 w5 ho6 hb hg_ hnew_; clear hg_ hnew_; (first | rw [← Ny156.out] at ho6 | (simp only [Int.reduceToNat] at ho6; rw [← Ny156.out] at ho6)); have b4 := am_ (Kd.R_lower (Kd.R_new' ho6 (Kd.R_lt (qR_ a7))) (below_size qB_)); replace a7 := am_ (Kd.R_elder' (qR_ a7) (Kd.R_base ho6) hb); replace HB := hs_ hb; clear hb ho6)))
 go_loopg [3, 4, 5] k (fun kq v3 v4 v5 w' => ∃ (x3_1 : List Int) (x4_1 : List Int) (x5_1 : Int), v5 = .int .i64 x5_1 ∧ Aside0 (spec_l06Open.l0 kq l0 x3_1 x4_1 x5_1 = some r) ∧ Aside0 (kq ≤ k) ∧ Aside0 (Kd.R (Kd.int .i64) 3 w' w.heap.size (fun k_ => some k_ ≠ (v4 : Value).ownBlock) v3 x3_1) ∧ Aside0 (Kd.R (Kd.int .i64) 3 w' w.heap.size (fun k_ => some k_ ≠ (v3 : Value).ownBlock) v4 x4_1) ∧ Aside0 (Below w.heap.size w w'))
 case atStart => exact ⟨(b6), (c4), (1), qe_, H', ⟨Nat.le_refl _⟩, ⟨by (with_reducible repeat (first | apply Kd.R_alloc | apply Kd.R_drewN | apply Kd.R_drew)); exact Kd.R_mono a7.out (fun _ hk => hk.2)⟩, ⟨by (with_reducible repeat (first | apply Kd.R_alloc | apply Kd.R_drewN | apply Kd.R_drew)); exact Kd.R_mono b4.out (fun _ hk => hk.2)⟩, ⟨qB_⟩⟩
 case round =>
  clear H'
  (try clear c1); (try clear p1); (try clear q1); (try clear e3); (try clear qi1); (try clear c2); (try clear c2b0); (try clear c2b1); (try clear p2); (try clear a8); (try clear a0); (try clear p151); (try clear p155); (try clear q151); (try clear q155)
  obtain ⟨x3_1, x4_1, x5_1, rfl, HA, HK1, a1, a2, HB⟩ := hrel
  cases gk with
  | zero => exact absurd HA.out (by simp [spec_l06Open.l0])
  | succ k1 =>
   have H := HA.out; clear HA
   simp only [spec_l06Open.l0] at H
   by_cases c7 : x5_1 < (l0.length : Int)
   rotate_left
   ·rw [if_neg c7] at H
    have c7b0 := decide_eq_false c7
    clear c7
    obtain rfl := Option.some.inj H
    obtain ⟨e4, e5, d3⟩ := Kd.R_slice a1.out
    subst d3
    go_wp2
    repeat (go_quiet (fail); try go_wp2)
    go_ret
    exact ⟨qr_, qB_⟩
   rw [if_pos c7] at H
   have c7b0 := decide_eq_true c7
   clear c7
   have d4 := am_ H
   clear H
   go_upto_region 6 with (fail)
   repeat (go_quiet (fail); go_upto_region 6 with (fail))
   go_cut [35] (fun v35 wc => ∃ (kq : Nat) (x35_7 : Bool), v35 = .bool x35_7 ∧ Aside0 (spec_l06Open.j1 kq l0 x3_1 x4_1 x5_1 x35_7 = some r) ∧ Aside0 (kq ≤ k1) ∧ Aside0 (Kd.R (Kd.int .i64) 3 wc w.heap.size (fun k_ => some k_ ≠ (u4 : Value).ownBlock) u3 x3_1) ∧ Aside0 (Kd.R (Kd.int .i64) 3 wc w.heap.size (fun k_ => some k_ ≠ (u3 : Value).ownBlock) u4 x4_1) ∧ Aside0 (Below w.heap.size w wc))
   case first =>
    have H := d4.out; clear d4
    by_cases c9 : (x3_1.length : Int) > 1
    rotate_left
    ·rw [if_neg c9] at H
     have c9b0 : decide (1 < (x3_1.length : Int)) = false := decide_eq_false c9
     have c9b1 : decide (1 < x3_1.length) = false := decide_eq_false (by omega)
     clear c9
     (first | rw [c9b0] | (simp only [i64_w, i32_w]; rw [c9b0]) | skip)
     have H' := am_ H; clear H
     obtain ⟨e6, e7, d5⟩ := Kd.R_slice a1.out
     subst d5
     go_wp2
     repeat (go_quiet (fail); try go_wp2)
     go_meet
     case rel => exact ⟨_, (false), qe_, H', ⟨by have := HK1.out; first | omega | exact Nat.le_refl _⟩, ⟨by (with_reducible repeat (first | apply Kd.R_alloc | apply Kd.R_drewN | apply Kd.R_drew)); first | exact a1.out | (have h_ := a1.out; simp only [own_slice] at h_ ⊢; exact h_)⟩, ⟨by (with_reducible repeat (first | apply Kd.R_alloc | apply Kd.R_drewN | apply Kd.R_drew)); first | exact a2.out | (have h_ := a2.out; simp only [own_slice] at h_ ⊢; exact h_)⟩, ⟨qB_⟩⟩
    rw [if_pos c9] at H
    have c9b0 : decide (1 < (x3_1.length : Int)) = true := decide_eq_true c9
    have c9b1 : decide (1 < x3_1.length) = true := decide_eq_true (by omega)
    clear c9
    (first | rw [c9b0] | (simp only [i64_w, i32_w]; rw [c9b0]) | skip)
    by_cases c10 : 0 ≤ x5_1
    rotate_left
    ·rw [if_neg c10] at H
     exact absurd H (by simp)
    rw [if_pos c10] at H
    have c10b0 := decide_eq_true c10
    clear c10
    obtain ⟨ji11, hji11⟩ : ∃ j_ : Int, (wrap64 ((x3_1.length : Int) - 2)) = j_ := ⟨_, rfl⟩
    first | rw [hji11] at H | simp only [hji11] at H
    have hji11w : (IntKind.i64.wrap ((x3_1.length : Int) - 2)) = ji11 := (i64_w _).trans hji11
    by_cases c12 : 0 ≤ (ji11)
    rotate_left
    ·rw [if_neg c12] at H
     exact absurd H (by simp)
    rw [if_pos c12] at H
    have c12b0 := decide_eq_true c12
    clear c12
    by_cases c13 : (ji11) < (x3_1.length : Int)
    rotate_left
    ·rw [if_neg c13] at H
     exact absurd H (by simp)
    rw [if_pos c13] at H
    have c13b0 := decide_eq_true c13
    clear c13; have H' := am_ H; clear H
    obtain ⟨e8, e9, d6⟩ := Kd.R_slice a1.out
    subst d6
    have p159 := dp_ x5_1
    have q159 := dl_ x5_1 l0.length
    obtain ⟨ad159, e159, a9⟩ := Kd.at_int b1.out x5_1 p159 q159
    obtain rfl : ad151 = ad159 := (by injection e159)
    replace a9 := qx_ HB a9
    replace p159 := eq_true p159; replace q159 := eq_true q159
    have p160 := dp_ ((ji11))
    have q160 := dl_ (ji11) x3_1.length
    obtain ⟨ad160, e160, b3⟩ := Kd.at_int (Kd.R_reads' a1.out).2.2 (ji11) p160 q160
    cases e160; replace p160 := eq_true p160; replace q160 := eq_true q160
    go_wp2
    repeat (go_quiet (fail); try go_wp2)
    go_meet
    case rel => exact ⟨_, (((rd l0 x5_1) == (rd x3_1 (ji11)))), (by first | rfl | (simp; done) | (simp only [← hji11] <;> (first | rfl | simp)) | (simp [*]; done)), H', ⟨by have := HK1.out; first | omega | exact Nat.le_refl _⟩, ⟨by (with_reducible repeat (first | apply Kd.R_alloc | apply Kd.R_drewN | apply Kd.R_drew)); first | exact a1.out | (have h_ := a1.out; simp only [own_slice] at h_ ⊢; exact h_)⟩, ⟨by (with_reducible repeat (first | apply Kd.R_alloc | apply Kd.R_drewN | apply Kd.R_drew)); first | exact a2.out | (have h_ := a2.out; simp only [own_slice] at h_ ⊢; exact h_)⟩, ⟨qB_⟩⟩
   case rest =>
    clear d4; (try clear c1); (try clear p1); (try clear q1); (try clear e3); (try clear qi1); (try clear c2); (try clear c2b0); (try clear c2b1); (try clear p2); (try clear p6); (try clear c7); (try clear c7b0); (try clear c9); (try clear c9b0); (try clear c9b1); (try clear c10); (try clear c10b0); (try clear c12); (try clear c12b0); (try clear c13); (try clear c13b0); (try clear p15); (try clear q15); (try clear f0); (try clear qi15); (try clear a8); (try clear a0); (try clear a9); (try clear b3); (try clear p1); (try clear p151); (try clear p155); (try clear p159); (try clear p160); (try clear p2); (try clear q1); (try clear q151); (try clear q155); (try clear q159); (try clear q160)
    obtain ⟨kq, x35_7, rfl, HA, d0, a1, a2, HB⟩ := hcut
    cases kq with
    | zero => exact absurd HA.out (by simp [spec_l06Open.j1])
    | succ kj7 =>
     have H := HA.out; clear HA
     simp only [spec_l06Open.j1] at H
     by_cases c16 : x35_7 = true
     ·subst c16
      rw [if_pos rfl] at H
      obtain ⟨ji17, hji17⟩ : ∃ j_ : Int, (wrap64 ((x3_1.length : Int) - 1)) = j_ := ⟨_, rfl⟩
      first | rw [hji17] at H | simp only [hji17] at H
      have hji17w : (IntKind.i64.wrap ((x3_1.length : Int) - 1)) = ji17 := (i64_w _).trans hji17
      by_cases c18 : 0 ≤ (ji17)
      rotate_left
      ·rw [if_neg c18] at H
       exact absurd H (by simp)
      rw [if_pos c18] at H
      have c18b0 := eq_true c18
      have c18b1 := decide_eq_true c18
      clear c18
      by_cases c19 : (ji17) ≤ (x3_1.length : Int)
      rotate_left
      ·rw [if_neg c19] at H
       exact absurd H (by simp)
      rw [if_pos c19] at H
      have c19b0 := eq_true c19
      have c19b1 := decide_eq_true c19
      clear c19
      obtain ⟨b7, hy161⟩ : ∃ y_ : List Int, y_ = (x3_1.take ((ji17) : Int).toNat) := ⟨_, rfl⟩
      replace H : (spec_l06Open.l0 kj7 l0 b7 x4_1 (wrap64 (x5_1 + 1))) = some r := by first | (rw [hy161]; with_reducible exact H) | (have H2_ := (Option.bind_some _ _).symm.trans H; rw [hy161]; with_reducible exact H2_) | (have H2_ := (Option.bind_some _ _).symm.trans H; with_reducible exact H2_) | with_reducible exact H | (rw [hy161]; exact H) | exact H
      have Ny161 := am_ hy161
      clear hy161; have H' := am_ H; clear H
      obtain ⟨d7, d8, d9⟩ := Kd.R_slice a1.out
      subst d9
      have q21 : ((ji17) : Int) ≤ ((x3_1.length : Int) : Int) := of_decide_eq_true qa_
      obtain ⟨i021, hi021, _, hsz21, _⟩ := info_parts info3
      have hcut21 := cut_to (P := Try.prog) 51 3 .i64 Try.underlying51 hi021 d7 x3_1.length d8 (ji17) (of_decide_eq_true qa_) q21 (Kd.R_reads' a1.out).2.1
      have hr21 := Kd.R_take (m := ((ji17) : Int).toNat) a1.out (by omega)
      have hy21 : b7.length = ((ji17) : Int).toNat := (by rw [Ny161.out, List.length_take]; omega)
      rw [← Ny161.out] at hr21
      rw [← hy21] at hr21 hcut21
      clear hy21 hi021 hsz21 a1
      have b5 := am_ hr21
      clear hr21; replace q21 := eq_true q21
      go_wp2
      repeat (go_quiet (fail); try go_wp2)
      go_roundg kj7
      case measure => have := HK1.out; have := d0.out; omega
      case rel => exact ⟨(b7), (x4_1), (wrap64 (x5_1 + 1)), qe_, H', ⟨by have := HK1.out; have := d0.out; omega⟩, ⟨by (with_reducible repeat (first | apply Kd.R_alloc | apply Kd.R_drewN | apply Kd.R_drew)); first | exact b5.out | (have h_ := b5.out; simp only [own_slice] at h_ ⊢; exact h_)⟩, ⟨by (with_reducible repeat (first | apply Kd.R_alloc | apply Kd.R_drewN | apply Kd.R_drew)); first | exact a2.out | (have h_ := a2.out; simp only [own_slice] at h_ ⊢; exact h_)⟩, ⟨qB_⟩⟩
     replace c16 := Bool.eq_false_iff.mpr c16
     subst c16
     rw [if_neg ff_] at H
     by_cases c22 : 0 ≤ x5_1
     rotate_left
     ·rw [if_neg c22] at H
      exact absurd H (by simp)
     rw [if_pos c22] at H
     have c22b0 := decide_eq_true c22
     clear c22
     by_cases c23 : x5_1 < (l0.length : Int)
     rotate_left
     ·rw [if_neg c23] at H
      exact absurd H (by simp)
     rw [if_pos c23] at H
     have c23b0 := decide_eq_true c23
     clear c23
     obtain ⟨e0, c5, H⟩ := Option.bind_eq_some_iff.mp H; have A24 := am_ c5; clear c5
     by_cases c25 : e0 = true
     ·subst c25
      rw [if_pos rfl] at H
      obtain rfl := Option.some.inj H
      have p164 := dp_ x5_1
      have q164 := dl_ x5_1 l0.length
      obtain ⟨ad164, e164, a6⟩ := Kd.at_int b1.out x5_1 p164 q164
      obtain rfl : ad151 = ad164 := (by injection e164)
      replace a6 := qx_ HB a6
      replace p164 := eq_true p164; replace q164 := eq_true q164
      obtain ⟨f1, f2, e1⟩ := Kd.R_slice a2.out
      subst e1
      go_wp2_with (first | (go_at_call 105; (with_reducible refine (spec_l05In.calls kj7 _ _ x4_1 (rd l0 x5_1) true _ ?side1 ?side2 A24.out).mono ?_); (case side1 => exact qD_ (Kd.R_reads' a2.out).2.2); (case side2 => exact (Kd.R_reads' a2.out).2.1); rintro e w' ⟨rfl, ⟨nd, rfl⟩⟩; (try first | exact ⟨rfl, _, World.drewN_drewN _ _ _⟩ | exact ⟨rfl, _, Eq.trans (World.drewN_drewN _ _ _) (congrArg (World.drewN _) (Nat.add_assoc _ _ _))⟩)))
      repeat (go_quiet (first | (go_at_call 105; (with_reducible refine (spec_l05In.calls kj7 _ _ x4_1 (rd l0 x5_1) true _ ?side1 ?side2 A24.out).mono ?_); (case side1 => exact qD_ (Kd.R_reads' a2.out).2.2); (case side2 => exact (Kd.R_reads' a2.out).2.1); rintro e w' ⟨rfl, ⟨nd, rfl⟩⟩; (try first | exact ⟨rfl, _, World.drewN_drewN _ _ _⟩ | exact ⟨rfl, _, Eq.trans (World.drewN_drewN _ _ _) (congrArg (World.drewN _) (Nat.add_assoc _ _ _))⟩))); try go_wp2_with (first | (go_at_call 105; (with_reducible refine (spec_l05In.calls kj7 _ _ x4_1 (rd l0 x5_1) true _ ?side1 ?side2 A24.out).mono ?_); (case side1 => exact qD_ (Kd.R_reads' a2.out).2.2); (case side2 => exact (Kd.R_reads' a2.out).2.1); rintro e w' ⟨rfl, ⟨nd, rfl⟩⟩; (try first | exact ⟨rfl, _, World.drewN_drewN _ _ _⟩ | exact ⟨rfl, _, Eq.trans (World.drewN_drewN _ _ _) (congrArg (World.drewN _) (Nat.add_assoc _ _ _))⟩))))
      go_ret
      exact ⟨qr_, qB_⟩
     replace c25 := Bool.eq_false_iff.mpr c25
     subst c25
     rw [if_neg ff_] at H
     by_cases c27 : x4_1.length < 17592186044416
     rotate_left
     ·rw [if_neg c27] at H
      exact absurd H (by simp)
     rw [if_pos c27] at H
     have LMc27 := am_ c27
     clear c27
     obtain ⟨b8, hy167⟩ : ∃ y_ : List Int, y_ = (x4_1 ++ [rd l0 x5_1]) := ⟨_, rfl⟩
     replace H : (if x3_1.length < 17592186044416 then (spec_l06Open.l0 kj7 l0 (x3_1 ++ [rd l0 x5_1]) b8 (wrap64 (x5_1 + 1))) else (none)) = some r := by first | (rw [hy167]; with_reducible exact H) | (have H2_ := (Option.bind_some _ _).symm.trans H; rw [hy167]; with_reducible exact H2_) | (have H2_ := (Option.bind_some _ _).symm.trans H; with_reducible exact H2_) | with_reducible exact H | (rw [hy167]; exact H) | exact H
     have Ny167 := am_ hy167
     clear hy167
     by_cases c28 : x3_1.length < 17592186044416
     rotate_left
     ·rw [if_neg c28] at H
      exact absurd H (by simp)
     rw [if_pos c28] at H
     have LMc28 := am_ c28
     clear c28
     obtain ⟨c6, hy171⟩ : ∃ y_ : List Int, y_ = (x3_1 ++ [rd l0 x5_1]) := ⟨_, rfl⟩
     replace H : (spec_l06Open.l0 kj7 l0 c6 b8 (wrap64 (x5_1 + 1))) = some r := by first | (rw [hy171]; with_reducible exact H) | (have H2_ := (Option.bind_some _ _).symm.trans H; rw [hy171]; with_reducible exact H2_) | (have H2_ := (Option.bind_some _ _).symm.trans H; with_reducible exact H2_) | with_reducible exact H | (rw [hy171]; exact H) | exact H
     have Ny171 := am_ hy171
     clear hy171; have H' := am_ H; clear H
     have p164 := dp_ x5_1
     have q164 := dl_ x5_1 l0.length
     obtain ⟨ad164, e164, a6⟩ := Kd.at_int b1.out x5_1 p164 q164
     obtain rfl : ad151 = ad164 := (by injection e164)
     replace a6 := qx_ HB a6
     replace p164 := eq_true p164; replace q164 := eq_true q164
     obtain ⟨b9, c3, e2⟩ := Kd.R_slice a2.out
     subst e2
     go_wp2_with (first | (go_at_call 105; (with_reducible refine (spec_l05In.calls kj7 _ _ x4_1 (rd l0 x5_1) false _ ?side1 ?side2 A24.out).mono ?_); (case side1 => exact qD_ (Kd.R_reads' a2.out).2.2); (case side2 => exact (Kd.R_reads' a2.out).2.1); rintro e w' ⟨rfl, ⟨nd, rfl⟩⟩; (try first | exact ⟨rfl, _, World.drewN_drewN _ _ _⟩ | exact ⟨rfl, _, Eq.trans (World.drewN_drewN _ _ _) (congrArg (World.drewN _) (Nat.add_assoc _ _ _))⟩); have p166 := dp_ x5_1; have q166 := dl_ x5_1 l0.length; obtain ⟨ad166, e166, a3⟩ := Kd.at_int b1.out x5_1 p166 q166; obtain rfl : ad151 = ad166 := (by injection e166); replace a3 := qx_ HB a3; replace p166 := eq_true p166; replace q166 := eq_true q166) | ((with_reducible refine gate_builtin (b := .append) (xs := #[.tmp 47, .tmp 52]) rfl ?_); (try (refine gate_guard (by rfl) ?_; dsimp only)); at_builtin; refine Kd.R_append (Kd.int .i64) (w0 := w) w.heap.size rfl (.tmp 47) (.tmp 52) 51 3 (.int .i64 0) 8 rfl Try.underlying51 info3 rfl (by decide) (by omega) (.slice b9 x4_1.length c3) x4_1 (rd l0 x5_1) [.int .i64 (rd l0 x5_1)] (fun k_ => some k_ ≠ (u3 : Value).ownBlock) (fun _ => False) rfl rfl ?aP (fun _ hk => hk.elim) ?aF ?aO ?aB ?aS ?aL ?_; (case aP => exact rfl); (case aB => exact qB_); (case aF => exact (fun k_ hk => Kd.fresh' (Kd.R_lt (qR_ a1)) k_ hk)); (case aO => exact (qR_ a2)); (case aS => exact (below_size qB_)); (case aL => have := LMc27.out; omega); intro b2 w30 ho hb hg hat; rw [← Ny167.out] at ho; have a5 := am_ (ho); replace a1 := am_ (Kd.R_after (ok := (fun _ => True)) (by (with_reducible repeat (first | apply Kd.R_alloc | apply Kd.R_drewN | apply Kd.R_drew)); exact Kd.R_mono a1.out (fun _ hk => ⟨trivial, hk⟩)) hg hat); replace HB := am_ (hb); clear a2; clear ho hb hg hat; have p170 := dp_ x5_1; have q170 := dl_ x5_1 l0.length; obtain ⟨ad170, e170, a4⟩ := Kd.at_int b1.out x5_1 p170 q170; obtain rfl : ad151 = ad170 := (by injection e170); replace a4 := qx_ HB a4; replace p170 := eq_true p170; replace q170 := eq_true q170) | ((with_reducible refine gate_builtin (b := .append) (xs := #[.tmp 54, .tmp 59]) rfl ?_); (try (refine gate_guard (by rfl) ?_; dsimp only)); at_builtin; refine Kd.R_append (Kd.int .i64) (w0 := w) w.heap.size rfl (.tmp 54) (.tmp 59) 51 3 (.int .i64 0) 8 rfl Try.underlying51 info3 rfl (by decide) (by omega) u3 x3_1 (rd l0 x5_1) [.int .i64 (rd l0 x5_1)] (fun k_ => some k_ ≠ (b2 : Value).ownBlock) (fun _ => False) rfl rfl ?aP (fun _ hk => hk.elim) ?aF ?aO ?aB ?aS ?aL ?_; (case aP => exact rfl); (case aB => exact qB_); (case aF => exact (fun k_ hk => Kd.fresh' (Kd.R_lt (qR_ a5)) k_ hk)); (case aO => exact (by (with_reducible repeat (first | apply Kd.R_alloc | apply Kd.R_drewN | apply Kd.R_drew)); exact Kd.R_mono a1.out (fun _ hk => hk.2))); (case aS => exact (below_size qB_)); (case aL => have := LMc28.out; omega); intro c8 w31 ho hb hg hat; rw [← Ny171.out] at ho; have b0 := am_ (ho); replace a5 := am_ (Kd.R_after (ok := (fun _ => True)) (by (with_reducible repeat (first | apply Kd.R_alloc | apply Kd.R_drewN | apply Kd.R_drew)); exact Kd.R_mono a5.out (fun _ hk => ⟨trivial, hk⟩)) hg hat); replace HB := am_ (hb); clear a1; clear ho hb hg hat))
     have p166 := dp_ x5_1
     have q166 := dl_ x5_1 l0.length
     obtain ⟨ad166, e166, a3⟩ := Kd.at_int b1.out x5_1 p166 q166
     obtain rfl : ad151 = ad166 := (by injection e166)
     replace a3 := qx_ HB a3
     replace p166 := eq_true p166; replace q166 := eq_true q166
     repeat (go_quiet (first | (go_at_call 105; (with_reducible refine (spec_l05In.calls kj7 _ _ x4_1 (rd l0 x5_1) false _ ?side1 ?side2 A24.out).mono ?_); (case side1 => exact qD_ (Kd.R_reads' a2.out).2.2); (case side2 => exact (Kd.R_reads' a2.out).2.1); rintro e w' ⟨rfl, ⟨nd, rfl⟩⟩; (try first | exact ⟨rfl, _, World.drewN_drewN _ _ _⟩ | exact ⟨rfl, _, Eq.trans (World.drewN_drewN _ _ _) (congrArg (World.drewN _) (Nat.add_assoc _ _ _))⟩)) | ((with_reducible refine gate_builtin (b := .append) (xs := #[.tmp 47, .tmp 52]) rfl ?_); (try (refine gate_guard (by rfl) ?_; dsimp only)); at_builtin; refine Kd.R_append (Kd.int .i64) (w0 := w) w.heap.size rfl (.tmp 47) (.tmp 52) 51 3 (.int .i64 0) 8 rfl Try.underlying51 info3 rfl (by decide) (by omega) (.slice b9 x4_1.length c3) x4_1 (rd l0 x5_1) [.int .i64 (rd l0 x5_1)] (fun k_ => some k_ ≠ (u3 : Value).ownBlock) (fun _ => False) rfl rfl ?aP (fun _ hk => hk.elim) ?aF ?aO ?aB ?aS ?aL ?_; (case aP => exact rfl); (case aB => exact qB_); (case aF => exact (fun k_ hk => Kd.fresh' (Kd.R_lt (qR_ a1)) k_ hk)); (case aO => exact (qR_ a2)); (case aS => exact (below_size qB_)); (case aL => have := LMc27.out; omega); intro b2 w30 ho hb hg hat; rw [← Ny167.out] at ho; have a5 := am_ (ho); replace a1 := am_ (Kd.R_after (ok := (fun _ => True)) (by (with_reducible repeat (first | apply Kd.R_alloc | apply Kd.R_drewN | apply Kd.R_drew)); exact Kd.R_mono a1.out (fun _ hk => ⟨trivial, hk⟩)) hg hat); replace HB := am_ (hb); clear a2; clear ho hb hg hat; have p170 := dp_ x5_1; have q170 := dl_ x5_1 l0.length; obtain ⟨ad170, e170, a4⟩ := Kd.at_int b1.out x5_1 p170 q170; obtain rfl : ad151 = ad170 := (by injection e170); replace a4 := qx_ HB a4; replace p170 := eq_true p170; replace q170 := eq_true q170) | ((with_reducible refine gate_builtin (b := .append) (xs := #[.tmp 54, .tmp 59]) rfl ?_); (try (refine gate_guard (by rfl) ?_; dsimp only)); at_builtin; refine Kd.R_append (Kd.int .i64) (w0 := w) w.heap.size rfl (.tmp 54) (.tmp 59) 51 3 (.int .i64 0) 8 rfl Try.underlying51 info3 rfl (by decide) (by omega) u3 x3_1 (rd l0 x5_1) [.int .i64 (rd l0 x5_1)] (fun k_ => some k_ ≠ (b2 : Value).ownBlock) (fun _ => False) rfl rfl ?aP (fun _ hk => hk.elim) ?aF ?aO ?aB ?aS ?aL ?_; (case aP => exact rfl); (case aB => exact qB_); (case aF => exact (fun k_ hk => Kd.fresh' (Kd.R_lt (qR_ a5)) k_ hk)); (case aO => exact (by (with_reducible repeat (first | apply Kd.R_alloc | apply Kd.R_drewN | apply Kd.R_drew)); exact Kd.R_mono a1.out (fun _ hk => hk.2))); (case aS => exact (below_size qB_)); (case aL => have := LMc28.out; omega); intro c8 w31 ho hb hg hat; rw [← Ny171.out] at ho; have b0 := am_ (ho); replace a5 := am_ (Kd.R_after (ok := (fun _ => True)) (by (with_reducible repeat (first | apply Kd.R_alloc | apply Kd.R_drewN | apply Kd.R_drew)); exact Kd.R_mono a5.out (fun _ hk => ⟨trivial, hk⟩)) hg hat); replace HB := am_ (hb); clear a1; clear ho hb hg hat)); try go_wp2_with (first | (go_at_call 105; (with_reducible refine (spec_l05In.calls kj7 _ _ x4_1 (rd l0 x5_1) false _ ?side1 ?side2 A24.out).mono ?_); (case side1 => exact qD_ (Kd.R_reads' a2.out).2.2); (case side2 => exact (Kd.R_reads' a2.out).2.1); rintro e w' ⟨rfl, ⟨nd, rfl⟩⟩; (try first | exact ⟨rfl, _, World.drewN_drewN _ _ _⟩ | exact ⟨rfl, _, Eq.trans (World.drewN_drewN _ _ _) (congrArg (World.drewN _) (Nat.add_assoc _ _ _))⟩); have p166 := dp_ x5_1; have q166 := dl_ x5_1 l0.length; obtain ⟨ad166, e166, a3⟩ := Kd.at_int b1.out x5_1 p166 q166; obtain rfl : ad151 = ad166 := (by injection e166); replace a3 := qx_ HB a3; replace p166 := eq_true p166; replace q166 := eq_true q166) | ((with_reducible refine gate_builtin (b := .append) (xs := #[.tmp 47, .tmp 52]) rfl ?_); (try (refine gate_guard (by rfl) ?_; dsimp only)); at_builtin; refine Kd.R_append (Kd.int .i64) (w0 := w) w.heap.size rfl (.tmp 47) (.tmp 52) 51 3 (.int .i64 0) 8 rfl Try.underlying51 info3 rfl (by decide) (by omega) (.slice b9 x4_1.length c3) x4_1 (rd l0 x5_1) [.int .i64 (rd l0 x5_1)] (fun k_ => some k_ ≠ (u3 : Value).ownBlock) (fun _ => False) rfl rfl ?aP (fun _ hk => hk.elim) ?aF ?aO ?aB ?aS ?aL ?_; (case aP => exact rfl); (case aB => exact qB_); (case aF => exact (fun k_ hk => Kd.fresh' (Kd.R_lt (qR_ a1)) k_ hk)); (case aO => exact (qR_ a2)); (case aS => exact (below_size qB_)); (case aL => have := LMc27.out; omega); intro b2 w30 ho hb hg hat; rw [← Ny167.out] at ho; have a5 := am_ (ho); replace a1 := am_ (Kd.R_after (ok := (fun _ => True)) (by (with_reducible repeat (first | apply Kd.R_alloc | apply Kd.R_drewN | apply Kd.R_drew)); exact Kd.R_mono a1.out (fun _ hk => ⟨trivial, hk⟩)) hg hat); replace HB := am_ (hb); clear a2; clear ho hb hg hat; have p170 := dp_ x5_1; have q170 := dl_ x5_1 l0.length; obtain ⟨ad170, e170, a4⟩ := Kd.at_int b1.out x5_1 p170 q170; obtain rfl : ad151 = ad170 := (by injection e170); replace a4 := qx_ HB a4; replace p170 := eq_true p170; replace q170 := eq_true q170) | ((with_reducible refine gate_builtin (b := .append) (xs := #[.tmp 54, .tmp 59]) rfl ?_); (try (refine gate_guard (by rfl) ?_; dsimp only)); at_builtin; refine Kd.R_append (Kd.int .i64) (w0 := w) w.heap.size rfl (.tmp 54) (.tmp 59) 51 3 (.int .i64 0) 8 rfl Try.underlying51 info3 rfl (by decide) (by omega) u3 x3_1 (rd l0 x5_1) [.int .i64 (rd l0 x5_1)] (fun k_ => some k_ ≠ (b2 : Value).ownBlock) (fun _ => False) rfl rfl ?aP (fun _ hk => hk.elim) ?aF ?aO ?aB ?aS ?aL ?_; (case aP => exact rfl); (case aB => exact qB_); (case aF => exact (fun k_ hk => Kd.fresh' (Kd.R_lt (qR_ a5)) k_ hk)); (case aO => exact (by (with_reducible repeat (first | apply Kd.R_alloc | apply Kd.R_drewN | apply Kd.R_drew)); exact Kd.R_mono a1.out (fun _ hk => hk.2))); (case aS => exact (below_size qB_)); (case aL => have := LMc28.out; omega); intro c8 w31 ho hb hg hat; rw [← Ny171.out] at ho; have b0 := am_ (ho); replace a5 := am_ (Kd.R_after (ok := (fun _ => True)) (by (with_reducible repeat (first | apply Kd.R_alloc | apply Kd.R_drewN | apply Kd.R_drew)); exact Kd.R_mono a5.out (fun _ hk => ⟨trivial, hk⟩)) hg hat); replace HB := am_ (hb); clear a1; clear ho hb hg hat)))
     go_roundg kj7
     case measure => have := HK1.out; have := d0.out; omega
     case rel => exact ⟨(c6), (b8), (wrap64 (x5_1 + 1)), qe_, H', ⟨by have := HK1.out; have := d0.out; omega⟩, ⟨by (with_reducible repeat (first | apply Kd.R_alloc | apply Kd.R_drewN | apply Kd.R_drew)); first | exact b0.out | (have h_ := b0.out; simp only [own_slice] at h_ ⊢; exact h_)⟩, ⟨by (with_reducible repeat (first | apply Kd.R_alloc | apply Kd.R_drewN | apply Kd.R_drew)); exact Kd.R_mono a5.out (fun _ hk => hk.2)⟩, ⟨qB_⟩⟩
def spec_TourOk.l0 : Nat → List Int → Int → Option (Bool)
  | 0, _, _ => none
  | k + 1, x0, x3 => if x3 < (x0.length : Int) then (if 0 ≤ x3 then ((spec_l01In.f (rd x0 x3) 0 11).bind fun t176 => (if t176 = true then (spec_TourOk.l0 k x0 (wrap64 (x3 + 1))) else (some false))) else (none)) else ((spec_l06Open.f k x0).bind fun t177 => (some t177))
def spec_TourOk.f (k : Nat) (l0 : List Int) : Option (Bool) := (spec_l01In.f (l0.length : Int) 1 23).bind fun t174 => (if t174 = true then (spec_TourOk.l0 k l0 0) else (some false))
theorem spec_TourOk.mono_l : ∀ k, (∀ y0 y1, LeO (spec_TourOk.l0 k y0 y1) (spec_TourOk.l0 (k + 1) y0 y1))
  | 0 => fun _ _ r h => by simp [spec_TourOk.l0] at h
  | k + 1 => by
    have ih0 := spec_TourOk.mono_l k
    · intro y0 y1
      unfold spec_TourOk.l0
      repeat' first | (with_reducible first | exact ih0 _ _ | exact spec_l06Open.mono _ _ | exact LeO.refl _ | exact LeO.none _ | refine LeO.ite ?_ ?_ | refine LeO.bind ?_ (fun _ => ?_)) | exact LeO.none _ | refine LeO.ite ?_ ?_ | refine LeO.bind ?_ (fun _ => ?_)
theorem spec_TourOk.mono : ∀ a0 k, LeO (spec_TourOk.f k a0) (spec_TourOk.f (k + 1) a0) := by
  intro a0 k
  have ih0 := spec_TourOk.mono_l k
  unfold spec_TourOk.f
  repeat' first | (with_reducible first | exact ih0 _ _ | exact spec_l06Open.mono _ _ | exact LeO.refl _ | exact LeO.none _ | refine LeO.ite ?_ ?_ | refine LeO.bind ?_ (fun _ => ?_)) | exact LeO.none _ | refine LeO.ite ?_ ?_ | refine LeO.bind ?_ (fun _ => ?_)
set_option maxHeartbeats 8000000 in
set_option maxRecDepth 100000 in
theorem spec_TourOk.calls (k : Nat) (A0 : Option Addr) (c0 : Nat) (l0 : List Int) (r : Bool) (w : World) (hr0 : Kd.C (Kd.int .i64) w A0 l0.length l0) (hc0 : l0.length ≤ c0) (h : spec_TourOk.f k l0 = some r) :
  Calls Try.prog 104 #[.slice A0 l0.length c0] w fun e w' => e = .returned (.bool r) ∧ Below w.heap.size w w' := by
 have a2 := am_ hr0
 have a5 := am_ hc0
 clear hr0 hc0
 have HB := am_ (Below.refl w.heap.size w)
 have H : ((spec_l01In.f (l0.length : Int) 1 23).bind fun a1 => (if a1 = true then (spec_TourOk.l0 k l0 0) else (some false))) = some r := h
 clear h
 obtain ⟨a1, A20, H⟩ := Option.bind_eq_some_iff.mp H; have A2 := am_ A20; clear A20
 by_cases c3 : a1 = true
 rotate_left
 ·replace c3 := Bool.eq_false_iff.mpr c3
  subst c3
  rw [if_neg ff_] at H
  obtain rfl := Option.some.inj H
  go_enter Try.func104, Try.ntmps104
  go_wp2_with (first | ((with_reducible refine gate_callee (f := 57) rfl ?_); refine gl_ (some 6) Try.func57 #[.int .i64 (l0.length : Int), .int .i64 1, .int .i64 23] ?_; (with_reducible refine (spec_l01In.calls (l0.length : Int) 1 23 false _ A2.out).mono ?_); rintro e w' ⟨rfl, ⟨nd, rfl⟩⟩; refine ⟨_, rfl, ?_⟩))
  go_ret
  exact ⟨qr_, qB_⟩
 subst c3
 rw [if_pos rfl] at H; have H' := am_ H; clear H
 go_enter Try.func104, Try.ntmps104
 go_wp2_with (first | ((with_reducible refine gate_callee (f := 57) rfl ?_); refine gl_ (some 6) Try.func57 #[.int .i64 (l0.length : Int), .int .i64 1, .int .i64 23] ?_; (with_reducible refine (spec_l01In.calls (l0.length : Int) 1 23 true _ A2.out).mono ?_); rintro e w' ⟨rfl, ⟨nd, rfl⟩⟩; refine ⟨_, rfl, ?_⟩))
 go_loopg [3] k (fun kq v3 w' => ∃ (x3_1 : Int), v3 = .int .i64 x3_1 ∧ Aside0 (spec_TourOk.l0 kq l0 x3_1 = some r) ∧ Aside0 (kq ≤ k) ∧ Aside0 (Below w.heap.size w w'))
 case atStart => exact ⟨(0), qe_, H', ⟨Nat.le_refl _⟩, ⟨qB_⟩⟩
 case round =>
  clear H'
  (try clear c1); (try clear p2); (try clear c3)
  obtain ⟨x3_1, rfl, HA, HK1, HB⟩ := hrel
  cases gk with
  | zero => exact absurd HA.out (by simp [spec_TourOk.l0])
  | succ k1 =>
   have H := HA.out; clear HA
   simp only [spec_TourOk.l0] at H
   by_cases c4 : x3_1 < (l0.length : Int)
   rotate_left
   ·rw [if_neg c4] at H
    have c4b0 := decide_eq_false c4
    clear c4
    obtain ⟨a3, A80, H⟩ := Option.bind_eq_some_iff.mp H; have A8 := am_ A80; clear A80
    obtain rfl := Option.some.inj H
    go_wp2_with (first | ((with_reducible refine gate_callee (f := 134) rfl ?_); refine gl_ (some 21) Try.func134 #[.slice A0 l0.length c0] ?_; (with_reducible refine (spec_l06Open.calls k1 _ _ l0 a3 _ ?side1 ?side2 A8.out).mono ?_); (case side1 => exact qC_ a2 HB); (case side2 => exact a5.out); rintro e w9 ⟨rfl, hb⟩; refine ⟨_, rfl, ?_⟩; replace HB := hs_ hb; (try clear hb); (try clear hb2); (try clear hk); (try clear hi)))
    go_ret
    exact ⟨qr_, qB_⟩
   rw [if_pos c4] at H
   have c4b0 := decide_eq_true c4
   clear c4
   by_cases c5 : 0 ≤ x3_1
   rotate_left
   ·rw [if_neg c5] at H
    exact absurd H (by simp)
   rw [if_pos c5] at H
   have c5b0 := decide_eq_true c5
   clear c5
   obtain ⟨a4, A60, H⟩ := Option.bind_eq_some_iff.mp H; have A6 := am_ A60; clear A60
   by_cases c7 : a4 = true
   ·subst c7
    rw [if_pos rfl] at H; have H' := am_ H; clear H
    have p175 := dp_ x3_1
    have q175 := dl_ x3_1 l0.length
    obtain ⟨ad175, e175, a0⟩ := Kd.at_int a2.out x3_1 p175 q175
    cases e175
    replace a0 := qx_ HB a0
    replace p175 := eq_true p175; replace q175 := eq_true q175
    go_wp2_with (first | ((with_reducible refine gate_callee (f := 57) rfl ?_); refine gl_ (some 18) Try.func57 #[.int .i64 (rd l0 x3_1), .int .i64 0, .int .i64 11] ?_; (with_reducible refine (spec_l01In.calls (rd l0 x3_1) 0 11 true _ A6.out).mono ?_); rintro e w' ⟨rfl, ⟨nd, rfl⟩⟩; refine ⟨_, rfl, ?_⟩))
    go_roundg k1
    case measure => have := HK1.out; omega
    case rel => exact ⟨(wrap64 (x3_1 + 1)), qe_, H', ⟨by have := HK1.out; omega⟩, ⟨qB_⟩⟩
   replace c7 := Bool.eq_false_iff.mpr c7
   subst c7
   rw [if_neg ff_] at H
   obtain rfl := Option.some.inj H
   have p175 := dp_ x3_1
   have q175 := dl_ x3_1 l0.length
   obtain ⟨ad175, e175, a0⟩ := Kd.at_int a2.out x3_1 p175 q175
   cases e175
   replace a0 := qx_ HB a0
   replace p175 := eq_true p175; replace q175 := eq_true q175
   go_wp2_with (first | ((with_reducible refine gate_callee (f := 57) rfl ?_); refine gl_ (some 18) Try.func57 #[.int .i64 (rd l0 x3_1), .int .i64 0, .int .i64 11] ?_; (with_reducible refine (spec_l01In.calls (rd l0 x3_1) 0 11 false _ A6.out).mono ?_); rintro e w' ⟨rfl, ⟨nd, rfl⟩⟩; refine ⟨_, rfl, ?_⟩))
   go_ret
   exact ⟨qr_, qB_⟩
end Go.Proofs.Ytbkklafkoegdpaa.QFnExactLink
