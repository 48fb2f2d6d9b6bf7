import Derived.Test.YtbkklafkoegdpaaQFnExactCutx4
namespace Go.Proofs.Ytbkklafkoegdpaa.QFnExactCut
open Go.RowKit Go.Proofs.YtbkklafkoegdpaaW.PrintWords Go.Proofs.YtbkklafkoegdpaaW.PrintLast Go.Proofs.YtbkklafkoegdpaaW.PrintMore
set_option linter.unusedVariables false
set_option linter.unusedSimpArgs false
def spec_SplitTour.j0 : Nat → List Int → List Int → Int → Int → Bool → Option (List Int × List Int × Bool)
  | 0, _, _, _, _, _ => none
  | k + 1, x0, x9, x10, x11, x32 => if x32 = true then (some (x9, x9, false)) else (if x11 < x10 then ((some (([] : List Int) : List Int)).bind fun y174 => (if 0 ≤ (wrap64 (x11 + 1)) then (if (wrap64 (x11 + 1)) ≤ (x0.length : Int) then (if y174.length + (x0.take ((wrap64 (x11 + 1)) : Int).toNat).length < 17592186044416 then ((some (y174 ++ (x0.take ((wrap64 (x11 + 1)) : Int).toNat) : List Int)).bind fun y178 => (if 0 ≤ (wrap64 (x10 + 2)) then (if (wrap64 (x10 + 2)) ≤ (x0.length : Int) then (if y178.length + (x0.drop ((wrap64 (x10 + 2)) : Int).toNat).length < 17592186044416 then ((some (([] : List Int) : List Int)).bind fun y185 => (if (wrap64 (x11 + 1)) ≤ (wrap64 (x10 + 1)) then (if (wrap64 (x10 + 1)) ≤ (x0.length : Int) then (if y185.length + ((x0.take ((wrap64 (x10 + 1)) : Int).toNat).drop ((wrap64 (x11 + 1)) : Int).toNat).length < 17592186044416 then (some ((y178 ++ (x0.drop ((wrap64 (x10 + 2)) : Int).toNat)), (y185 ++ ((x0.take ((wrap64 (x10 + 1)) : Int).toNat).drop ((wrap64 (x11 + 1)) : Int).toNat)), true)) else (none)) else (none)) else (none))) else (none)) else (none)) else (none))) else (none)) else (none)) else (none))) else ((some (([] : List Int) : List Int)).bind fun y192 => (if 0 ≤ (wrap64 (x10 + 1)) then (if (wrap64 (x10 + 1)) ≤ (x0.length : Int) then (if y192.length + (x0.take ((wrap64 (x10 + 1)) : Int).toNat).length < 17592186044416 then ((some (y192 ++ (x0.take ((wrap64 (x10 + 1)) : Int).toNat) : List Int)).bind fun y196 => (if 0 ≤ (wrap64 (x11 + 2)) then (if (wrap64 (x11 + 2)) ≤ (x0.length : Int) then (if y196.length + (x0.drop ((wrap64 (x11 + 2)) : Int).toNat).length < 17592186044416 then ((some (([] : List Int) : List Int)).bind fun y203 => (if (wrap64 (x10 + 1)) ≤ (wrap64 (x11 + 1)) then (if (wrap64 (x11 + 1)) ≤ (x0.length : Int) then (if y203.length + ((x0.take ((wrap64 (x11 + 1)) : Int).toNat).drop ((wrap64 (x10 + 1)) : Int).toNat).length < 17592186044416 then (some ((y196 ++ (x0.drop ((wrap64 (x11 + 2)) : Int).toNat)), (y203 ++ ((x0.take ((wrap64 (x11 + 1)) : Int).toNat).drop ((wrap64 (x10 + 1)) : Int).toNat)), true)) else (none)) else (none)) else (none))) else (none)) else (none)) else (none))) else (none)) else (none)) else (none))))
def spec_SplitTour.f (k : Nat) (l0 : List Int) (a1 : Int) (a2 : Int) : Option (List Int × List Int × Bool) := (some (([] : List Int) : List Int)).bind fun y168 => ((spec_TourOk.f k l0).bind fun t171 => (if t171 = true then ((spec_l06Going.f k l0 a1 a2).bind fun t172 => ((spec_l06Going.f k l0 a2 a1).bind fun t173 => (if t172 < 0 then (spec_SplitTour.j0 k l0 y168 t172 t173 true) else (spec_SplitTour.j0 k l0 y168 t172 t173 (decide (t173 < 0)))))) else (some (y168, y168, false))))
theorem spec_SplitTour.mono_l : ∀ k, (∀ y0 y1 y2 y3 y4, LeO (spec_SplitTour.j0 k y0 y1 y2 y3 y4) (spec_SplitTour.j0 (k + 1) y0 y1 y2 y3 y4))
  | 0 => fun _ _ _ _ _ r h => by simp [spec_SplitTour.j0] at h
  | k + 1 => by
    have ih0 := spec_SplitTour.mono_l k
    · intro y0 y1 y2 y3 y4
      unfold spec_SplitTour.j0
      repeat' first | (with_reducible first | exact ih0 _ _ _ _ _ | exact spec_TourOk.mono _ _ | exact spec_l06Going.mono _ _ _ _ | exact LeO.refl _ | exact LeO.none _ | refine LeO.ite ?_ ?_ | refine LeO.bind ?_ (fun _ => ?_)) | exact LeO.none _ | refine LeO.ite ?_ ?_ | refine LeO.bind ?_ (fun _ => ?_)
theorem spec_SplitTour.mono : ∀ a0 a1 a2 k, LeO (spec_SplitTour.f k a0 a1 a2) (spec_SplitTour.f (k + 1) a0 a1 a2) := by
  intro a0 a1 a2 k
  have ih0 := spec_SplitTour.mono_l k
  unfold spec_SplitTour.f
  repeat' first | (with_reducible first | exact ih0 _ _ _ _ _ | exact spec_TourOk.mono _ _ | exact spec_l06Going.mono _ _ _ _ | exact LeO.refl _ | exact LeO.none _ | refine LeO.ite ?_ ?_ | refine LeO.bind ?_ (fun _ => ?_)) | exact LeO.none _ | refine LeO.ite ?_ ?_ | refine LeO.bind ?_ (fun _ => ?_)
def spec_SplitTour.T11 : Bool × List (List Nat × List Nat) := (true, [([], []), ([], []), ([], []), ([2], [2]), ([1, 3], [1, 3]), ([0, 4], [0, 4]), ([], []), ([], []), ([], []), ([8], [8]), ([], []), ([10], [10]), ([7, 9, 11], [7, 9, 11]), ([6, 12, 5], [6, 12]), ([5, 13, 0, 1, 2, 3, 4, 5], [5]), ([13, 14, 0, 1, 2, 3, 4, 5, 6, 7, 8, 9, 10, 11, 12, 13, 14], [13]), ([15, 0, 1, 2, 3, 4, 5, 6, 7, 8, 9, 10, 11, 12, 13, 14, 15], [])])
def spec_SplitTour.B11 : List Nat := [0, 0, 0, 4, 14, 31, 0, 0, 0, 256, 0, 1024, 3968, 8191, 16383, 32767, 65535]
theorem spec_SplitTour.tab11 : rtab .any (opsOf Try.f72 11) = spec_SplitTour.T11 := by kernel_rfl
theorem spec_SplitTour.bits11 : waitsOk spec_SplitTour.T11.2 spec_SplitTour.B11 = true := by kernel_rfl
set_option maxHeartbeats 8000000 in
set_option maxRecDepth 100000 in
theorem spec_SplitTour.calls (k : Nat) (A0 : Option Addr) (c0 : Nat) (l0 : List Int) (a1 : Int) (a2 : Int) (r1 : List Int) (r2 : List Int) (r3 : Bool) (w : World) (hr0 : Kd.C (Kd.int .i64) w A0 l0.length l0) (hc0 : l0.length ≤ c0) (h : spec_SplitTour.f k l0 a1 a2 = some (r1, r2, r3)) :
  Calls Try.prog 72 #[.slice A0 l0.length c0, .int .i64 a1, .int .i64 a2] w fun e w' => ∃ v0_ v1_ : Value, e = .returned (.tuple #[v0_, v1_, .bool r3]) ∧ Kd.V (Kd.int .i64) 3 w' w.heap.size (fun k_ => (w.heap.size ≤ k_)) v0_ r1 ∧ Kd.V (Kd.int .i64) 3 w' w.heap.size (fun k_ => (w.heap.size ≤ k_)) v1_ r2 ∧ Below w.heap.size w w' := by
 have d5 := am_ hr0
 have d6 := am_ hc0
 clear hr0 hc0
 have HB := am_ (Below.refl w.heap.size w)
 have H : ((some (([] : List Int) : List Int)).bind fun b4 => ((spec_TourOk.f k l0).bind fun c8 => (if c8 = true then ((spec_l06Going.f k l0 a1 a2).bind fun a3 => ((spec_l06Going.f k l0 a2 a1).bind fun a4 => (if a3 < 0 then (spec_SplitTour.j0 k l0 b4 a3 a4 true) else (spec_SplitTour.j0 k l0 b4 a3 a4 (decide (a4 < 0)))))) else (some (b4, b4, false))))) = some (r1, r2, r3) := h
 clear h
 obtain ⟨b4, hy168⟩ : ∃ y_ : List Int, y_ = (([] : List Int)) := ⟨_, rfl⟩
 replace H : ((spec_TourOk.f k l0).bind fun c8 => (if c8 = true then ((spec_l06Going.f k l0 a1 a2).bind fun a3 => ((spec_l06Going.f k l0 a2 a1).bind fun a4 => (if a3 < 0 then (spec_SplitTour.j0 k l0 b4 a3 a4 true) else (spec_SplitTour.j0 k l0 b4 a3 a4 (decide (a4 < 0)))))) else (some (b4, b4, false)))) = some (r1, r2, r3) := by first | (rw [hy168]; with_reducible exact H) | (have H2_ := (Option.bind_some _ _).symm.trans H; rw [hy168]; with_reducible exact H2_) | (have H2_ := (Option.bind_some _ _).symm.trans H; with_reducible exact H2_) | with_reducible exact H | (rw [hy168]; exact H) | exact H
 have Ny168 := am_ hy168
 clear hy168
 obtain ⟨c8, A40, H⟩ := Option.bind_eq_some_iff.mp H; have A4 := am_ A40; clear A40
 by_cases c5 : c8 = true
 rotate_left
 ·replace c5 := Bool.eq_false_iff.mpr c5
  subst c5
  rw [if_neg ff_] at H
  simp only [Option.some.injEq, Prod.mk.injEq] at H
  obtain ⟨rfl, rfl, rfl⟩ := H
  go_enter Try.func72, Try.ntmps72
  go_wp2_with (first | ((with_reducible refine gate_dst (N := 13) rfl ?_); refine Kd.R_lit (Kd.int .i64) _ 3 ?hg (N := 13) ?hd (xs := ([] : List Int)) (inner := []) (ok := fun _ => True) (okp := fun _ => True) ?hr ?hp (fun _ hk => hk) trivial (Below.refl _ _) (Nat.le_refl _) (by simp) ?_; (case hd => rfl); (case hg => rfl); (case hr => first | (go_simp; done) | (go_simp; rfl)); (case hp => exact (Reps.none _ _)); intro a5 w65 ho66 hb hg_ hnew_; clear hg_ hnew_; (first | rw [← Ny168.out] at ho66 | (simp only [Int.reduceToNat] at ho66; rw [← Ny168.out] at ho66)); have b5 := am_ (Kd.R_lower (Kd.R_newM (M := fun k_ => (w.heap.size ≤ k_)) ho66 (below_size qB_) (fun k_ h_ => h_)) (below_size qB_)); replace HB := hs_ hb; clear hb ho66) | ((with_reducible refine gate_callee (f := 104) rfl ?_); refine gl_ (some 15) Try.func104 #[.slice A0 l0.length c0] ?_; (with_reducible refine (spec_TourOk.calls k _ _ l0 false _ ?side1 ?side2 A4.out).mono ?_); (case side1 => exact qC_ d5 HB); (case side2 => exact d6.out); rintro e w67 ⟨rfl, hb⟩; refine ⟨_, rfl, ?_⟩; replace b5 := am_ (Kd.R_below (qR_ b5) hb); replace HB := hs_ hb; (try clear hb); (try clear hb2); (try clear hk); (try clear hi)))
  go_ret3
  exact ⟨_, _, qr_, Kd.R_V (by (with_reducible repeat (first | apply Kd.R_alloc | apply Kd.R_drewN | apply Kd.R_drew)); exact Kd.R_mono b5.out (fun _ hk => hk.1)), Kd.R_V (by (with_reducible repeat (first | apply Kd.R_alloc | apply Kd.R_drewN | apply Kd.R_drew)); exact Kd.R_mono b5.out (fun _ hk => hk.1)), qB_⟩
 subst c5
 rw [if_pos rfl] at H
 obtain ⟨a3, A60, H⟩ := Option.bind_eq_some_iff.mp H; have A6 := am_ A60; clear A60
 obtain ⟨a4, A70, H⟩ := Option.bind_eq_some_iff.mp H; have A7 := am_ A70; clear A70
 have e7 := am_ H
 clear H
 go_enter Try.func72, Try.ntmps72
 go_upto_region 6 with (first | ((with_reducible refine gate_dst (N := 13) rfl ?_); refine Kd.R_lit (Kd.int .i64) _ 3 ?hg (N := 13) ?hd (xs := ([] : List Int)) (inner := []) (ok := fun _ => True) (okp := fun _ => True) ?hr ?hp (fun _ hk => hk) trivial (Below.refl _ _) (Nat.le_refl _) (by simp) ?_; (case hd => rfl); (case hg => rfl); (case hr => first | (go_simp; done) | (go_simp; rfl)); (case hp => exact (Reps.none _ _)); intro a5 w9 ho10 hb hg_ hnew_; clear hg_ hnew_; (first | rw [← Ny168.out] at ho10 | (simp only [Int.reduceToNat] at ho10; rw [← Ny168.out] at ho10)); have b5 := am_ (Kd.R_lower (Kd.R_newM (M := fun k_ => (w.heap.size ≤ k_)) ho10 (below_size qB_) (fun k_ h_ => h_)) (below_size qB_)); replace HB := hs_ hb; clear hb ho10) | ((with_reducible refine gate_callee (f := 104) rfl ?_); refine gl_ (some 15) Try.func104 #[.slice A0 l0.length c0] ?_; (with_reducible refine (spec_TourOk.calls k _ _ l0 true _ ?side1 ?side2 A4.out).mono ?_); (case side1 => exact qC_ d5 HB); (case side2 => exact d6.out); rintro e w11 ⟨rfl, hb⟩; refine ⟨_, rfl, ?_⟩; replace b5 := am_ (Kd.R_below (qR_ b5) hb); replace HB := hs_ hb; (try clear hb); (try clear hb2); (try clear hk); (try clear hi)) | ((with_reducible refine gate_callee (f := 117) rfl ?_); refine gl_ (some 22) Try.func117 #[.slice A0 l0.length c0, .int .i64 a1, .int .i64 a2] ?_; (with_reducible refine (spec_l06Going.calls k _ _ l0 a1 a2 a3 _ ?side1 ?side2 A6.out).mono ?_); (case side1 => exact qC_ d5 HB); (case side2 => exact d6.out); rintro e w' ⟨rfl, ⟨nd, rfl⟩⟩; refine ⟨_, rfl, ?_⟩) | ((with_reducible refine gate_callee (f := 117) rfl ?_); refine gl_ (some 26) Try.func117 #[.slice A0 l0.length c0, .int .i64 a2, .int .i64 a1] ?_; (with_reducible refine (spec_l06Going.calls k _ _ l0 a2 a1 a4 _ ?side1 ?side2 A7.out).mono ?_); (case side1 => repeat (first | exact (Kd.C_below d5.out qB_) | (with_reducible refine Kd.C_alloc ?_ _) | (with_reducible refine Kd.C_drewN ?_ _) | (with_reducible refine Kd.C_drew ?_))); (case side2 => exact d6.out); rintro e w' ⟨rfl, ⟨nd, rfl⟩⟩; refine ⟨_, rfl, ?_⟩))
 (try simp only [Act.put, sA_, sB_, sC_])
 go_cut [32] (fun v32 wc => ∃ (kq : Nat) (x32_7 : Bool), v32 = .bool x32_7 ∧ Aside0 (spec_SplitTour.j0 kq l0 b4 a3 a4 x32_7 = some (r1, r2, r3)) ∧ Aside0 (kq ≤ k) ∧ Aside0 (Kd.R (Kd.int .i64) 3 wc w.heap.size (fun k_ => (w.heap.size ≤ k_)) a5 b4) ∧ Aside0 (Below w.heap.size w wc))
 case first =>
  have H := e7.out; clear e7
  by_cases c12 : a3 < 0
  ·rw [if_pos c12] at H
   have c12b0 := decide_eq_true c12
   clear c12
   (first | rw [c12b0] | (simp only [i64_w, i32_w]; rw [c12b0]) | skip)
   have H' := am_ H; clear H
   go_wp2
   go_meet
   case rel => exact ⟨_, (true), qe_, H', ⟨qo_⟩, ⟨by (with_reducible repeat (first | apply Kd.R_alloc | apply Kd.R_drewN | apply Kd.R_drew)); exact Kd.R_mono b5.out (fun _ hk => hk.1)⟩, ⟨qB_⟩⟩
  rw [if_neg c12] at H
  have c12b0 := decide_eq_false c12
  clear c12
  (first | rw [c12b0] | (simp only [i64_w, i32_w]; rw [c12b0]) | skip)
  have H' := am_ H; clear H
  go_wp2
  go_meet
  case rel => exact ⟨_, (decide (a4 < 0)), qe_, H', ⟨qo_⟩, ⟨by (with_reducible repeat (first | apply Kd.R_alloc | apply Kd.R_drewN | apply Kd.R_drew)); exact Kd.R_mono b5.out (fun _ hk => hk.1)⟩, ⟨qB_⟩⟩
 case rest =>
  clear e7; (try clear c1); (try clear p2); (try clear c5); (try clear c7); (try clear c10); (try clear c11); (try clear c12); (try clear c12b0)
  obtain ⟨kq, x32_7, rfl, HA, g4, a0, HB⟩ := hcut
  cases kq with
  | zero => exact absurd HA.out (by simp [spec_SplitTour.j0])
  | succ kj7 =>
   have H := HA.out; clear HA
   simp only [spec_SplitTour.j0] at H
   by_cases c13 : x32_7 = true
   ·subst c13
    rw [if_pos rfl] at H
    simp only [Option.some.injEq, Prod.mk.injEq] at H
    obtain ⟨rfl, rfl, rfl⟩ := H
    go_wp2
    go_ret3
    exact ⟨_, _, qr_, Kd.R_V (qR_ a0), Kd.R_V (qR_ a0), qB_⟩
   replace c13 := Bool.eq_false_iff.mpr c13
   subst c13
   rw [if_neg ff_] at H
   by_cases c14 : a4 < a3
   ·rw [if_pos c14] at H
    have c14b0 := decide_eq_true c14
    clear c14
    obtain ⟨c9, hy174⟩ : ∃ y_ : List Int, y_ = (([] : List Int)) := ⟨_, rfl⟩
    replace H : (if 0 ≤ (wrap64 (a4 + 1)) then (if (wrap64 (a4 + 1)) ≤ (l0.length : Int) then (if c9.length + (l0.take ((wrap64 (a4 + 1)) : Int).toNat).length < 17592186044416 then ((some (c9 ++ (l0.take ((wrap64 (a4 + 1)) : Int).toNat) : List Int)).bind fun b6 => (if 0 ≤ (wrap64 (a3 + 2)) then (if (wrap64 (a3 + 2)) ≤ (l0.length : Int) then (if b6.length + (l0.drop ((wrap64 (a3 + 2)) : Int).toNat).length < 17592186044416 then ((some (([] : List Int) : List Int)).bind fun b0 => (if (wrap64 (a4 + 1)) ≤ (wrap64 (a3 + 1)) then (if (wrap64 (a3 + 1)) ≤ (l0.length : Int) then (if b0.length + ((l0.take ((wrap64 (a3 + 1)) : Int).toNat).drop ((wrap64 (a4 + 1)) : Int).toNat).length < 17592186044416 then (some ((b6 ++ (l0.drop ((wrap64 (a3 + 2)) : Int).toNat)), (b0 ++ ((l0.take ((wrap64 (a3 + 1)) : Int).toNat).drop ((wrap64 (a4 + 1)) : Int).toNat)), true)) else (none)) else (none)) else (none))) else (none)) else (none)) else (none))) else (none)) else (none)) else (none)) = some (r1, r2, r3) := by first | (rw [hy174]; with_reducible exact H) | (have H2_ := (Option.bind_some _ _).symm.trans H; rw [hy174]; with_reducible exact H2_) | (have H2_ := (Option.bind_some _ _).symm.trans H; with_reducible exact H2_) | with_reducible exact H | (rw [hy174]; exact H) | exact H
    have Ny174 := am_ hy174
    clear hy174
    obtain ⟨ji15, hji15⟩ : ∃ j_ : Int, (wrap64 (a4 + 1)) = j_ := ⟨_, rfl⟩
    first | rw [hji15] at H | simp only [hji15] at H
    have hji15w : (IntKind.i64.wrap (a4 + 1)) = ji15 := (i64_w _).trans hji15
    by_cases c16 : 0 ≤ (ji15)
    rotate_left
    ·rw [if_neg c16] at H
     exact absurd H (by simp)
    rw [if_pos c16] at H
    have c16b0 := eq_true c16
    have c16b1 := decide_eq_true c16
    clear c16
    by_cases c17 : (ji15) ≤ (l0.length : Int)
    rotate_left
    ·rw [if_neg c17] at H
     exact absurd H (by simp)
    rw [if_pos c17] at H
    have c17b0 := eq_true c17
    have c17b1 := decide_eq_true c17
    clear c17
    by_cases c18 : c9.length + (l0.take ((ji15) : Int).toNat).length < 17592186044416
    rotate_left
    ·rw [if_neg c18] at H
     exact absurd H (by simp)
    rw [if_pos c18] at H
    have LMc18 := am_ c18
    clear c18
    obtain ⟨b6, hy178⟩ : ∃ y_ : List Int, y_ = (c9 ++ (l0.take ((ji15) : Int).toNat)) := ⟨_, rfl⟩
    replace H : (if 0 ≤ (wrap64 (a3 + 2)) then (if (wrap64 (a3 + 2)) ≤ (l0.length : Int) then (if b6.length + (l0.drop ((wrap64 (a3 + 2)) : Int).toNat).length < 17592186044416 then ((some (([] : List Int) : List Int)).bind fun b0 => (if (ji15) ≤ (wrap64 (a3 + 1)) then (if (wrap64 (a3 + 1)) ≤ (l0.length : Int) then (if b0.length + ((l0.take ((wrap64 (a3 + 1)) : Int).toNat).drop ((ji15) : Int).toNat).length < 17592186044416 then (some ((b6 ++ (l0.drop ((wrap64 (a3 + 2)) : Int).toNat)), (b0 ++ ((l0.take ((wrap64 (a3 + 1)) : Int).toNat).drop ((ji15) : Int).toNat)), true)) else (none)) else (none)) else (none))) else (none)) else (none)) else (none)) = some (r1, r2, r3) := by first | (rw [hy178]; with_reducible exact H) | (have H2_ := (Option.bind_some _ _).symm.trans H; rw [hy178]; with_reducible exact H2_) | (have H2_ := (Option.bind_some _ _).symm.trans H; with_reducible exact H2_) | with_reducible exact H | (rw [hy178]; exact H) | exact H
    have Ny178 := am_ hy178
    clear hy178
    obtain ⟨ji19, hji19⟩ : ∃ j_ : Int, (wrap64 (a3 + 2)) = j_ := ⟨_, rfl⟩
    first | rw [hji19] at H | simp only [hji19] at H
    have hji19w : (IntKind.i64.wrap (a3 + 2)) = ji19 := (i64_w _).trans hji19
    by_cases c20 : 0 ≤ (ji19)
    rotate_left
    ·rw [if_neg c20] at H
     exact absurd H (by simp)
    rw [if_pos c20] at H
    have c20b0 := eq_true c20
    have c20b1 := decide_eq_true c20
    clear c20
    by_cases c21 : (ji19) ≤ (l0.length : Int)
    rotate_left
    ·rw [if_neg c21] at H
     exact absurd H (by simp)
    rw [if_pos c21] at H
    have c21b0 := eq_true c21
    have c21b1 := decide_eq_true c21
    clear c21
    by_cases c22 : b6.length + (l0.drop ((ji19) : Int).toNat).length < 17592186044416
    rotate_left
    ·rw [if_neg c22] at H
     exact absurd H (by simp)
    rw [if_pos c22] at H
    have LMc22 := am_ c22
    clear c22
    obtain ⟨d0, hy182⟩ : ∃ y_ : List Int, y_ = (b6 ++ (l0.drop ((ji19) : Int).toNat)) := ⟨_, rfl⟩
    replace H : ((some (([] : List Int) : List Int)).bind fun b0 => (if (ji15) ≤ (wrap64 (a3 + 1)) then (if (wrap64 (a3 + 1)) ≤ (l0.length : Int) then (if b0.length + ((l0.take ((wrap64 (a3 + 1)) : Int).toNat).drop ((ji15) : Int).toNat).length < 17592186044416 then (some (d0, (b0 ++ ((l0.take ((wrap64 (a3 + 1)) : Int).toNat).drop ((ji15) : Int).toNat)), true)) else (none)) else (none)) else (none))) = some (r1, r2, r3) := by first | (rw [hy182]; with_reducible exact H) | (have H2_ := (Option.bind_some _ _).symm.trans H; rw [hy182]; with_reducible exact H2_) | (have H2_ := (Option.bind_some _ _).symm.trans H; with_reducible exact H2_) | with_reducible exact H | (rw [hy182]; exact H) | exact H
    have Ny182 := am_ hy182
    clear hy182
    obtain ⟨b0, hy185⟩ : ∃ y_ : List Int, y_ = (([] : List Int)) := ⟨_, rfl⟩
    replace H : (if (ji15) ≤ (wrap64 (a3 + 1)) then (if (wrap64 (a3 + 1)) ≤ (l0.length : Int) then (if b0.length + ((l0.take ((wrap64 (a3 + 1)) : Int).toNat).drop ((ji15) : Int).toNat).length < 17592186044416 then (some (d0, (b0 ++ ((l0.take ((wrap64 (a3 + 1)) : Int).toNat).drop ((ji15) : Int).toNat)), true)) else (none)) else (none)) else (none)) = some (r1, r2, r3) := by first | (rw [hy185]; with_reducible exact H) | (have H2_ := (Option.bind_some _ _).symm.trans H; rw [hy185]; with_reducible exact H2_) | (have H2_ := (Option.bind_some _ _).symm.trans H; with_reducible exact H2_) | with_reducible exact H | (rw [hy185]; exact H) | exact H
    have Ny185 := am_ hy185
    clear hy185
    have c23b0 := eq_true (of_decide_eq_true qa_ : 0 ≤ (ji15))
    by_cases c24 : (ji15) ≤ (wrap64 (a3 + 1))
    rotate_left
    ·rw [if_neg c24] at H
     exact absurd H (by simp)
    rw [if_pos c24] at H
    have c24b0 := eq_true c24
    have c24b1 := decide_eq_true c24
    by_cases c25 : (wrap64 (a3 + 1)) ≤ (l0.length : Int)
    rotate_left
    ·rw [if_neg c25] at H
     exact absurd H (by simp)
    rw [if_pos c25] at H
    have c25b0 := eq_true c25
    have c25b1 := decide_eq_true c25
    by_cases c26 : b0.length + ((l0.take ((wrap64 (a3 + 1)) : Int).toNat).drop ((ji15) : Int).toNat).length < 17592186044416
    rotate_left
    ·rw [if_neg c26] at H
     exact absurd H (by simp)
    rw [if_pos c26] at H
    have LMc26 := am_ c26
    clear c26
    obtain ⟨e8, hy189⟩ : ∃ y_ : List Int, y_ = (b0 ++ ((l0.take ((wrap64 (a3 + 1)) : Int).toNat).drop ((ji15) : Int).toNat)) := ⟨_, rfl⟩
    replace H : (some (d0, e8, true)) = some (r1, r2, r3) := by first | (rw [hy189]; with_reducible exact H) | (have H2_ := (Option.bind_some _ _).symm.trans H; rw [hy189]; with_reducible exact H2_) | (have H2_ := (Option.bind_some _ _).symm.trans H; with_reducible exact H2_) | with_reducible exact H | (rw [hy189]; exact H) | exact H
    have Ny189 := am_ hy189
    clear hy189
    simp only [Option.some.injEq, Prod.mk.injEq] at H
    obtain ⟨rfl, rfl, rfl⟩ := H
    try go_wp2_with (first | ((with_reducible refine gate_dst (N := 40) rfl ?_); refine Kd.R_lit (Kd.int .i64) _ 3 ?hg (N := 40) ?hd (xs := ([] : List Int)) (inner := []) (ok := fun _ => True) (okp := fun _ => True) ?hr ?hp (fun _ hk => hk) trivial (Below.refl _ _) (Nat.le_refl _) (by simp) ?_; (case hd => rfl); (case hg => rfl); (case hr => first | (go_simp; done) | (go_simp; rfl)); (case hp => exact (Reps.none _ _)); intro e9 w27 ho28 hb hg_ hnew_; clear hg_ hnew_; (first | rw [← Ny174.out] at ho28 | (simp only [Int.reduceToNat] at ho28; rw [← Ny174.out] at ho28)); have d7 := am_ (Kd.R_lower (Kd.R_new' (Kd.R_newM (M := fun k_ => (w.heap.size ≤ k_)) ho28 (below_size qB_) (fun k_ h_ => h_)) (Kd.R_lt (qR_ a0))) (below_size qB_)); replace a0 := am_ (Kd.R_elder' (qR_ a0) (Kd.R_base ho28) hb); replace HB := hs_ hb; clear hb ho28; obtain ⟨i029, hi029, _, hsz29, _⟩ := info_parts info3; obtain ⟨hcut29, hA29, hC29⟩ := print_take_of (P := Try.prog) (Value.int .i64) 0 51 3 .i64 Try.underlying51 hi029 hsz29 A0 c0 l0 (ji15) (of_decide_eq_true qa_) (of_decide_eq_true qa_) d6.out; have d8 := am_ (Kd.C_of_reads (h1 := fun _ => rfl) (hA29 _ (Kd.reads_of_C d5.out))); have f4 := am_ hC29; clear hA29 hC29 hi029 hsz29) | ((with_reducible refine gate_builtin (b := .append) (xs := #[.tmp 40, .tmp 44]) rfl ?_); at_builtin; refine Kd.R_append_rows (Kd.int .i64) (w0 := w) w.heap.size rfl (.tmp 40) (.tmp 44) 51 3 (.int .i64 0) 8 rfl Try.underlying51 info3 rfl (by decide) (by omega) e9 c9 (l0.take ((ji15) : Int).toNat) _ _ _ (fun k_ => (w.heap.size ≤ k_) ∧ some k_ ≠ (a5 : Value).ownBlock) (fun _ => False) rfl rfl ?aO ?aR (fun _ _ h => h) (fun _ h => h.elim) ?aF ?aB ?aS ?aL ?_; (case aR => first | (refine rr_len (show (l0.take ((ji15) : Int).toNat).length = (ji15).toNat from (by rw [List.length_take]; have h_ : ((ji15) : Int) ≤ (l0.length : Int) := of_decide_eq_true qa_; omega)) ?_; repeat (first | exact (Kd.C_below d8.out HB.out) | (with_reducible refine Kd.C_alloc ?_ _) | (with_reducible refine Kd.C_drewN ?_ _) | (with_reducible refine Kd.C_drew ?_))) | (repeat (first | exact (Kd.C_below d8.out HB.out) | (with_reducible refine Kd.C_alloc ?_ _) | (with_reducible refine Kd.C_drewN ?_ _) | (with_reducible refine Kd.C_drew ?_)))); (case aB => exact qB_); (case aF => exact (fun k_ hk => ⟨(Nat.le_trans (below_size qB_) hk), Kd.fresh' (Kd.R_lt (qR_ a0)) k_ hk⟩)); (case aO => exact (by (with_reducible repeat (first | apply Kd.R_alloc | apply Kd.R_drewN | apply Kd.R_drew)); exact Kd.R_mono d7.out (fun _ hk => ⟨hk.1.1, hk.2⟩))); (case aS => exact (below_size qB_)); (case aL => have := LMc18.out; have hlx_ := (show (l0.take ((ji15) : Int).toNat).length = (ji15).toNat from (by rw [List.length_take]; have h_ : ((ji15) : Int) ≤ (l0.length : Int) := of_decide_eq_true qa_; omega)); omega); intro g0 w30 ho hb hg hat; rw [← Ny178.out] at ho; have a6 := am_ (ho); replace a0 := am_ (Kd.R_after (ok := (fun k_ => (w.heap.size ≤ k_))) (qR_ a0) hg hat); replace HB := am_ (hb); clear d7; clear ho hb hg hat; obtain ⟨e1, e2, f0⟩ := Kd.R_slice a6.out; subst f0))
    replace a0 := am_ (Kd.R_drew a0.out); replace a6 := am_ (Kd.R_drew a6.out); replace HB := am_ (below_drew1 HB.out)
    obtain ⟨i033, hi033, _, hsz33, _⟩ := info_parts info3
    obtain ⟨A33, hcut33, hA33, hC33⟩ := print_drop_of (P := Try.prog) (Value.int .i64) 0 51 3 .i64 Try.underlying51 hi033 hsz33 A0 c0 l0 (ji19) (of_decide_eq_true qa_) (of_decide_eq_true qa_) d6.out
    have c4 := am_ (Kd.C_of_reads (h1 := fun _ => rfl) (hA33 _ (Kd.reads_of_C d5.out)))
    have f5 := am_ hC33
    clear hA33 hC33 hi033 hsz33
    obtain ⟨i034, hi034, _, hsz34, _⟩ := info_parts info3
    obtain ⟨A34, hcut34, hA34, hC34⟩ := print_mid_of (P := Try.prog) (Value.int .i64) 0 51 3 .i64 .i64 Try.underlying51 hi034 hsz34 A0 c0 l0 (ji15) (wrap64 (a3 + 1)) (of_decide_eq_true qa_) (by first | omega | exact of_decide_eq_true qa_) (of_decide_eq_true qa_) d6.out
    have d1 := am_ (Kd.C_of_reads (h1 := fun _ => rfl) (hA34 _ (Kd.reads_of_C d5.out)))
    have f6 := am_ hC34
    clear hA34 hC34 hi034 hsz34
    refine start_ (n := 17) (S := fun w' => True) (ds := []) (bm 17 0) (by kernel_rfl) rfl (by kernel_rfl) trivial (fun hHeld => ?_); refine with_tabW spec_SplitTour.tab11 spec_SplitTour.bits11 (fun HT_ HW_ => ?_)
    generalize w30.drew = w32 at a0 a6 HB c4 d1 hHeld ⊢
    refine pz_ 0 46 (bm 17 1) ?_; refine pz_ 1 47 (bm 17 3) ?_; refine pz_ 2 48 (bm 17 7) ?_; refine pz_ 3 49 (bm 17 15) ?_; refine pz_ 4 50 (bm 17 31) ?_; refine pz_ 7 53 (bm 17 159) ?_; refine pz_ 8 54 (bm 17 415) ?_; refine pz_ 9 55 (bm 17 927) ?_; refine pz_ 10 56 (bm 17 1951) ?_; refine pz_ 11 57 (bm 17 3999) ?_; refine pz_ 12 58 (bm 17 8095) ?_
    refine join_ (σ := Value × Value) 4 #[true, true, true, true, true, true, true, true, true, true, true, true, true, false, false, false, false] (fun s_ => [(51, s_.1), (52, s_.2)]) (fun s_ w' => (Kd.R (Kd.int .i64) 3 w' w.heap.size (fun k_ => (w.heap.size ≤ k_) ∧ some k_ ≠ (s_.2 : Value).ownBlock ∧ some k_ ≠ (a5 : Value).ownBlock) s_.1 d0) ∧ (Kd.R (Kd.int .i64) 3 w' w.heap.size (fun k_ => (w.heap.size ≤ k_) ∧ some k_ ≠ (s_.1 : Value).ownBlock ∧ some k_ ≠ (a5 : Value).ownBlock) s_.2 b0) ∧ (Kd.R (Kd.int .i64) 3 w' w.heap.size (fun k_ => (w.heap.size ≤ k_) ∧ some k_ ≠ (s_.1 : Value).ownBlock ∧ some k_ ≠ (s_.2 : Value).ownBlock) a5 b4) ∧ (Below w.heap.size w w')) ?_ ?_
    rotate_left
    ·intro hCont
     refine two_ (i := 5) (j := 6) (Ni := some 51) (Nj := some 52) (bm 17 8127) #[true, true, true, true, true, false, true, true, true, true, true, true, true, false, false, false, false] rfl rfl rfl rfl (two_of HT_.out (by kernel_rfl)) (by decide) (by decide) (fun K hK => ?_) (fun K hK => ?_)
     ·skip
      refine Kd.R_append_rows_step (Kd.int .i64) (w0 := w) w.heap.size (by rfl) (.tmp 46) (.tmp 50) 51 3 (.int .i64 0) 8 rfl Try.underlying51 info3 rfl (by decide) (by omega) (.slice e1 b6.length e2) b6 (l0.drop ((ji19) : Int).toNat) _ _ _ (fun k_ => (w.heap.size ≤ k_) ∧ some k_ ≠ (a5 : Value).ownBlock) (fun _ => False) rfl rfl ?aO ?aR (fun _ _ h => h) (fun _ h => h.elim) ?aF ?aB ?aS ?aL ?_
      (case aR => first | (refine rr_len (show (l0.drop ((ji19) : Int).toNat).length = (l0.length - (ji19).toNat) from List.length_drop) ?_; repeat (first | exact (Kd.C_below c4.out HB.out) | (with_reducible refine Kd.C_alloc ?_ _) | (with_reducible refine Kd.C_drewN ?_ _) | (with_reducible refine Kd.C_drew ?_))) | (repeat (first | exact (Kd.C_below c4.out HB.out) | (with_reducible refine Kd.C_alloc ?_ _) | (with_reducible refine Kd.C_drewN ?_ _) | (with_reducible refine Kd.C_drew ?_))))
      (case aB => exact qB_)
      (case aF => exact (fun k_ hk => ⟨(Nat.le_trans (below_size qB_) hk), Kd.fresh' (Kd.R_lt (qR_ a0)) k_ hk⟩))
      (case aO => exact (qR_ a6))
      (case aS => exact (below_size qB_))
      (case aL => have := LMc22.out; have hlx_ := (show (l0.drop ((ji19) : Int).toNat).length = (l0.length - (ji19).toNat) from List.length_drop); omega)
      intro c2 w35 ho hb hg hat
      rw [← Ny182.out] at ho
      have a7 := am_ (ho); replace a0 := am_ (Kd.R_after (ok := (fun k_ => (w.heap.size ≤ k_))) (qR_ a0) hg hat); replace HB := am_ (hb); clear a6; clear ho hb hg hat
      refine hK.out _ _ trivial (fun hHeld => ?_)
      clear hK K
      refine nm_ 51 ?_
      refine o1_ 6 (some 52) (bm 17 8191) (fun K hK => ?_)
      refine Kd.R_lit_step (Kd.int .i64) _ 3 ?hg (N := 52) ?hd (xs := ([] : List Int)) (inner := []) (ok := fun _ => True) (okp := fun _ => True) ?hr ?hp (fun _ hk => hk) trivial (Below.refl _ _) (Nat.le_refl _) (by simp) ?_; (case hd => rfl); (case hg => rfl); (case hr => first | (go_simp; done) | (go_simp; rfl)); (case hp => exact (Reps.none _ _))
      intro b8 w36 ho37 hb hg_ hnew_
      clear hg_ hnew_
      (first | rw [← Ny185.out] at ho37 | (simp only [Int.reduceToNat] at ho37; rw [← Ny185.out] at ho37))
      have b2 := am_ (Kd.R_lower (Kd.R_new' (Kd.R_new' (Kd.R_newM (M := fun k_ => (w.heap.size ≤ k_)) ho37 (below_size qB_) (fun k_ h_ => h_)) (Kd.R_lt (qR_ a0))) (Kd.R_lt (qR_ a7))) (below_size qB_)); replace a0 := am_ (Kd.R_elder' (qR_ a0) (Kd.R_base ho37) hb); replace a7 := am_ (Kd.R_elder' (qR_ a7) (Kd.R_base ho37) hb); replace HB := am_ (below_step qB_ hb); clear hb ho37
      refine hK.out _ _ trivial (fun hHeld => ?_)
      clear hK K
      refine nm_ 52 ?_
      exact norm_ (by simp only [putAll, Act.put, sA_, sB_, sC_]) (hCont (c2, b8) _ ⟨(by (with_reducible repeat (first | apply Kd.R_alloc | apply Kd.R_drewN | apply Kd.R_drew)); exact Kd.R_mono a7.out (fun _ hk => ⟨hk.1.1, ⟨hk.2, hk.1.2⟩⟩)), (by (with_reducible repeat (first | apply Kd.R_alloc | apply Kd.R_drewN | apply Kd.R_drew)); exact Kd.R_mono b2.out (fun _ hk => ⟨hk.1.1.1, ⟨hk.2, hk.1.2⟩⟩)), (by (with_reducible repeat (first | apply Kd.R_alloc | apply Kd.R_drewN | apply Kd.R_drew)); exact Kd.R_mono a0.out (fun _ hk => ⟨hk.1.1, ⟨hk.1.2, hk.2⟩⟩)), qB_⟩)
     skip
     refine Kd.R_lit_step (Kd.int .i64) _ 3 ?hg (N := 52) ?hd (xs := ([] : List Int)) (inner := []) (ok := fun _ => True) (okp := fun _ => True) ?hr ?hp (fun _ hk => hk) trivial (Below.refl _ _) (Nat.le_refl _) (by simp) ?_; (case hd => rfl); (case hg => rfl); (case hr => first | (go_simp; done) | (go_simp; rfl)); (case hp => exact (Reps.none _ _))
     intro b8 w35 ho36 hb hg_ hnew_
     clear hg_ hnew_
     (first | rw [← Ny185.out] at ho36 | (simp only [Int.reduceToNat] at ho36; rw [← Ny185.out] at ho36))
     have b2 := am_ (Kd.R_lower (Kd.R_new' (Kd.R_new' (Kd.R_newM (M := fun k_ => (w.heap.size ≤ k_)) ho36 (below_size qB_) (fun k_ h_ => h_)) (Kd.R_lt (qR_ a0))) (Kd.R_lt (qR_ a6))) (below_size qB_)); replace a0 := am_ (Kd.R_elder' (qR_ a0) (Kd.R_base ho36) hb); replace a6 := am_ (Kd.R_elder' (qR_ a6) (Kd.R_base ho36) hb); replace HB := am_ (below_step qB_ hb); clear hb ho36
     refine hK.out _ _ trivial (fun hHeld => ?_)
     clear hK K
     refine nm_ 52 ?_
     refine o1_ 5 (some 51) (bm 17 8191) (fun K hK => ?_)
     refine Kd.R_append_rows_step (Kd.int .i64) (w0 := w) w.heap.size (by rfl) (.tmp 46) (.tmp 50) 51 3 (.int .i64 0) 8 rfl Try.underlying51 info3 rfl (by decide) (by omega) (.slice e1 b6.length e2) b6 (l0.drop ((ji19) : Int).toNat) _ _ _ (fun k_ => (w.heap.size ≤ k_) ∧ some k_ ≠ (a5 : Value).ownBlock ∧ some k_ ≠ (b8 : Value).ownBlock) (fun _ => False) rfl rfl ?aO ?aR (fun _ _ h => h) (fun _ h => h.elim) ?aF ?aB ?aS ?aL ?_
     (case aR => first | (refine rr_len (show (l0.drop ((ji19) : Int).toNat).length = (l0.length - (ji19).toNat) from List.length_drop) ?_; repeat (first | exact (Kd.C_below c4.out HB.out) | (with_reducible refine Kd.C_alloc ?_ _) | (with_reducible refine Kd.C_drewN ?_ _) | (with_reducible refine Kd.C_drew ?_))) | (repeat (first | exact (Kd.C_below c4.out HB.out) | (with_reducible refine Kd.C_alloc ?_ _) | (with_reducible refine Kd.C_drewN ?_ _) | (with_reducible refine Kd.C_drew ?_))))
     (case aB => exact qB_)
     (case aF => exact (fun k_ hk => ⟨(Nat.le_trans (below_size qB_) hk), Kd.fresh' (Kd.R_lt (qR_ a0)) k_ hk, Kd.fresh' (Kd.R_lt (qR_ b2)) k_ hk⟩))
     (case aO => exact (by (with_reducible repeat (first | apply Kd.R_alloc | apply Kd.R_drewN | apply Kd.R_drew)); exact Kd.R_mono a6.out (fun _ hk => ⟨hk.1.1, ⟨hk.1.2, hk.2⟩⟩)))
     (case aS => exact (below_size qB_))
     (case aL => have := LMc22.out; have hlx_ := (show (l0.drop ((ji19) : Int).toNat).length = (l0.length - (ji19).toNat) from List.length_drop); omega)
     intro c2 w37 ho hb hg hat
     rw [← Ny182.out] at ho
     have n0_ := am_ (Kd.R_after (ok := (fun k_ => (w.heap.size ≤ k_) ∧ some k_ ≠ (b8 : Value).ownBlock)) (by (with_reducible repeat (first | apply Kd.R_alloc | apply Kd.R_drewN | apply Kd.R_drew)); exact Kd.R_mono a0.out (fun _ hk => ⟨⟨hk.1.1, hk.2⟩, hk.1.2⟩)) hg hat)
     have n1_ := am_ (Kd.R_after (ok := (fun k_ => (w.heap.size ≤ k_) ∧ some k_ ≠ (a5 : Value).ownBlock)) (by (with_reducible repeat (first | apply Kd.R_alloc | apply Kd.R_drewN | apply Kd.R_drew)); exact Kd.R_mono b2.out (fun _ hk => ⟨⟨hk.1.1.1, hk.1.2⟩, hk.2⟩)) hg hat)
     have n2_ := am_ (hb)
     have n3_ := am_ (ho)
     clear a0; clear b2; clear HB; clear a6; have a0 := n0_; have b2 := n1_; have HB := n2_; have a7 := n3_; clear n0_ n1_ n2_ n3_; clear ho hb hg hat
     refine hK.out _ _ trivial (fun hHeld => ?_)
     clear hK K
     refine nm_ 51 ?_
     exact norm_ (by simp only [putAll, Act.put, sA_, sB_, sC_]) (hCont (c2, b8) _ ⟨(by (with_reducible repeat (first | apply Kd.R_alloc | apply Kd.R_drewN | apply Kd.R_drew)); exact Kd.R_mono a7.out (fun _ hk => ⟨hk.1, ⟨hk.2.2, hk.2.1⟩⟩)), (by (with_reducible repeat (first | apply Kd.R_alloc | apply Kd.R_drewN | apply Kd.R_drew)); exact Kd.R_mono b2.out (fun _ hk => ⟨hk.1.1, ⟨hk.2, hk.1.2⟩⟩)), (by (with_reducible repeat (first | apply Kd.R_alloc | apply Kd.R_drewN | apply Kd.R_drew)); exact Kd.R_mono a0.out (fun _ hk => ⟨hk.1.1, ⟨hk.2, hk.1.2⟩⟩)), qB_⟩)
    rintro ⟨c2, b8⟩ w38 ⟨h0_, h1_, h2_, h3_⟩
    have n0_ : Aside0 (Kd.R (Kd.int .i64) 3 w38 w.heap.size (fun k_ => (w.heap.size ≤ k_) ∧ some k_ ≠ (b8 : Value).ownBlock ∧ some k_ ≠ (a5 : Value).ownBlock) c2 d0) := ⟨h0_⟩
    have n1_ : Aside0 (Kd.R (Kd.int .i64) 3 w38 w.heap.size (fun k_ => (w.heap.size ≤ k_) ∧ some k_ ≠ (c2 : Value).ownBlock ∧ some k_ ≠ (a5 : Value).ownBlock) b8 b0) := ⟨h1_⟩
    have n2_ : Aside0 (Kd.R (Kd.int .i64) 3 w38 w.heap.size (fun k_ => (w.heap.size ≤ k_) ∧ some k_ ≠ (c2 : Value).ownBlock ∧ some k_ ≠ (b8 : Value).ownBlock) a5 b4) := ⟨h2_⟩
    have n3_ : Aside0 (Below w.heap.size w w38) := ⟨h3_⟩
    clear a0; clear a6; clear HB; clear h0_ h1_ h2_ h3_; have a7 := n0_; have b2 := n1_; have a0 := n2_; have HB := n3_; clear n0_ n1_ n2_ n3_; have hHeld := trivial
    refine norm_ (a' := ?_) ?_ ?_
    rotate_left
    ·simp only [putAll, Act.put, sA_, sB_, sC_]
     rfl
    refine o1_ 13 (some 59) (bm 17 16383) (fun K hK => ?_)
    refine Kd.R_append_rows_step (Kd.int .i64) (w0 := w) w.heap.size (by rfl) (.tmp 52) (.tmp 58) 51 3 (.int .i64 0) 8 rfl Try.underlying51 info3 rfl (by decide) (by omega) b8 b0 ((l0.take ((wrap64 (a3 + 1)) : Int).toNat).drop ((ji15) : Int).toNat) _ _ _ (fun k_ => (w.heap.size ≤ k_) ∧ some k_ ≠ (a5 : Value).ownBlock ∧ some k_ ≠ (c2 : Value).ownBlock) (fun _ => False) rfl rfl ?aO ?aR (fun _ _ h => h) (fun _ h => h.elim) ?aF ?aB ?aS ?aL ?_
    (case aR => first | (refine rr_len (show ((l0.take ((wrap64 (a3 + 1)) : Int).toNat).drop ((ji15) : Int).toNat).length = ((wrap64 (a3 + 1)).toNat - (ji15).toNat) from (by rw [List.length_drop, List.length_take]; have h_ : ((wrap64 (a3 + 1)) : Int) ≤ (l0.length : Int) := of_decide_eq_true qa_; omega)) ?_; repeat (first | exact (Kd.C_below d1.out HB.out) | (with_reducible refine Kd.C_alloc ?_ _) | (with_reducible refine Kd.C_drewN ?_ _) | (with_reducible refine Kd.C_drew ?_))) | (repeat (first | exact (Kd.C_below d1.out HB.out) | (with_reducible refine Kd.C_alloc ?_ _) | (with_reducible refine Kd.C_drewN ?_ _) | (with_reducible refine Kd.C_drew ?_))))
    (case aB => exact qB_)
    (case aF => exact (fun k_ hk => ⟨(Nat.le_trans (below_size qB_) hk), Kd.fresh' (Kd.R_lt (qR_ a0)) k_ hk, Kd.fresh' (Kd.R_lt (qR_ a7)) k_ hk⟩))
    (case aO => exact (by (with_reducible repeat (first | apply Kd.R_alloc | apply Kd.R_drewN | apply Kd.R_drew)); exact Kd.R_mono b2.out (fun _ hk => ⟨hk.1, ⟨hk.2.2, hk.2.1⟩⟩)))
    (case aS => exact (below_size qB_))
    (case aL => have := LMc26.out; have hlx_ := (show ((l0.take ((wrap64 (a3 + 1)) : Int).toNat).drop ((ji15) : Int).toNat).length = ((wrap64 (a3 + 1)).toNat - (ji15).toNat) from (by rw [List.length_drop, List.length_take]; have h_ : ((wrap64 (a3 + 1)) : Int) ≤ (l0.length : Int) := of_decide_eq_true qa_; omega)); omega)
    intro g1 w39 ho hb hg hat
    rw [← Ny189.out] at ho
    have n0_ := am_ (Kd.R_after (ok := (fun k_ => (w.heap.size ≤ k_) ∧ some k_ ≠ (c2 : Value).ownBlock)) (by (with_reducible repeat (first | apply Kd.R_alloc | apply Kd.R_drewN | apply Kd.R_drew)); exact Kd.R_mono a0.out (fun _ hk => ⟨⟨hk.1, hk.2.1⟩, hk.2.2⟩)) hg hat)
    have n1_ := am_ (Kd.R_after (ok := (fun k_ => (w.heap.size ≤ k_) ∧ some k_ ≠ (a5 : Value).ownBlock)) (by (with_reducible repeat (first | apply Kd.R_alloc | apply Kd.R_drewN | apply Kd.R_drew)); exact Kd.R_mono a7.out (fun _ hk => ⟨⟨hk.1, hk.2.2⟩, hk.2.1⟩)) hg hat)
    have n2_ := am_ (hb)
    have n3_ := am_ (ho)
    clear a0; clear a7; clear HB; clear b2; have a0 := n0_; have a7 := n1_; have HB := n2_; have e3 := n3_; clear n0_ n1_ n2_ n3_; clear ho hb hg hat
    refine hK.out _ _ trivial (fun hHeld => ?_)
    clear hK K
    refine nm_ 59 ?_
    refine pz_ 14 6 (bm 17 32767) ?_; refine pz_ 15 7 (bm 17 65535) ?_; refine pz_ 16 8 (bm 17 131071) ?_
    refine done_ (done_of HT_.out (by kernel_rfl)) ?_
    try go_wp2
    go_ret3
    exact ⟨_, _, by first | rfl | (simp [errW_none, errW_some] <;> rfl) | (simp only [← hji15, ← hji19]; first | rfl | (simp [errW_none, errW_some] <;> rfl)) | (simp [*, errW_none, errW_some] <;> rfl), Kd.R_V (by (with_reducible repeat (first | apply Kd.R_alloc | apply Kd.R_drewN | apply Kd.R_drew)); exact Kd.R_mono a7.out (fun _ hk => hk.1.1)), Kd.R_V (by (with_reducible repeat (first | apply Kd.R_alloc | apply Kd.R_drewN | apply Kd.R_drew)); exact Kd.R_mono e3.out (fun _ hk => hk.1)), qB_⟩
   rw [if_neg c14] at H
   have c14b0 := decide_eq_false c14
   clear c14
   obtain ⟨d2, hy192⟩ : ∃ y_ : List Int, y_ = (([] : List Int)) := ⟨_, rfl⟩
   replace H : (if 0 ≤ (wrap64 (a3 + 1)) then (if (wrap64 (a3 + 1)) ≤ (l0.length : Int) then (if d2.length + (l0.take ((wrap64 (a3 + 1)) : Int).toNat).length < 17592186044416 then ((some (d2 ++ (l0.take ((wrap64 (a3 + 1)) : Int).toNat) : List Int)).bind fun b7 => (if 0 ≤ (wrap64 (a4 + 2)) then (if (wrap64 (a4 + 2)) ≤ (l0.length : Int) then (if b7.length + (l0.drop ((wrap64 (a4 + 2)) : Int).toNat).length < 17592186044416 then ((some (([] : List Int) : List Int)).bind fun b1 => (if (wrap64 (a3 + 1)) ≤ (wrap64 (a4 + 1)) then (if (wrap64 (a4 + 1)) ≤ (l0.length : Int) then (if b1.length + ((l0.take ((wrap64 (a4 + 1)) : Int).toNat).drop ((wrap64 (a3 + 1)) : Int).toNat).length < 17592186044416 then (some ((b7 ++ (l0.drop ((wrap64 (a4 + 2)) : Int).toNat)), (b1 ++ ((l0.take ((wrap64 (a4 + 1)) : Int).toNat).drop ((wrap64 (a3 + 1)) : Int).toNat)), true)) else (none)) else (none)) else (none))) else (none)) else (none)) else (none))) else (none)) else (none)) else (none)) = some (r1, r2, r3) := by first | (rw [hy192]; with_reducible exact H) | (have H2_ := (Option.bind_some _ _).symm.trans H; rw [hy192]; with_reducible exact H2_) | (have H2_ := (Option.bind_some _ _).symm.trans H; with_reducible exact H2_) | with_reducible exact H | (rw [hy192]; exact H) | exact H
   have Ny192 := am_ hy192
   clear hy192
   obtain ⟨ji40, hji40⟩ : ∃ j_ : Int, (wrap64 (a3 + 1)) = j_ := ⟨_, rfl⟩
   first | rw [hji40] at H | simp only [hji40] at H
   have hji40w : (IntKind.i64.wrap (a3 + 1)) = ji40 := (i64_w _).trans hji40
   by_cases c41 : 0 ≤ (ji40)
   rotate_left
   ·rw [if_neg c41] at H
    exact absurd H (by simp)
   rw [if_pos c41] at H
   have c41b0 := eq_true c41
   have c41b1 := decide_eq_true c41
   clear c41
   by_cases c42 : (ji40) ≤ (l0.length : Int)
   rotate_left
   ·rw [if_neg c42] at H
    exact absurd H (by simp)
   rw [if_pos c42] at H
   have c42b0 := eq_true c42
   have c42b1 := decide_eq_true c42
   clear c42
   by_cases c43 : d2.length + (l0.take ((ji40) : Int).toNat).length < 17592186044416
   rotate_left
   ·rw [if_neg c43] at H
    exact absurd H (by simp)
   rw [if_pos c43] at H
   have LMc43 := am_ c43
   clear c43
   obtain ⟨b7, hy196⟩ : ∃ y_ : List Int, y_ = (d2 ++ (l0.take ((ji40) : Int).toNat)) := ⟨_, rfl⟩
   replace H : (if 0 ≤ (wrap64 (a4 + 2)) then (if (wrap64 (a4 + 2)) ≤ (l0.length : Int) then (if b7.length + (l0.drop ((wrap64 (a4 + 2)) : Int).toNat).length < 17592186044416 then ((some (([] : List Int) : List Int)).bind fun b1 => (if (ji40) ≤ (wrap64 (a4 + 1)) then (if (wrap64 (a4 + 1)) ≤ (l0.length : Int) then (if b1.length + ((l0.take ((wrap64 (a4 + 1)) : Int).toNat).drop ((ji40) : Int).toNat).length < 17592186044416 then (some ((b7 ++ (l0.drop ((wrap64 (a4 + 2)) : Int).toNat)), (b1 ++ ((l0.take ((wrap64 (a4 + 1)) : Int).toNat).drop ((ji40) : Int).toNat)), true)) else (none)) else (none)) else (none))) else (none)) else (none)) else (none)) = some (r1, r2, r3) := by first | (rw [hy196]; with_reducible exact H) | (have H2_ := (Option.bind_some _ _).symm.trans H; rw [hy196]; with_reducible exact H2_) | (have H2_ := (Option.bind_some _ _).symm.trans H; with_reducible exact H2_) | with_reducible exact H | (rw [hy196]; exact H) | exact H
   have Ny196 := am_ hy196
   clear hy196
   obtain ⟨ji44, hji44⟩ : ∃ j_ : Int, (wrap64 (a4 + 2)) = j_ := ⟨_, rfl⟩
   first | rw [hji44] at H | simp only [hji44] at H
   have hji44w : (IntKind.i64.wrap (a4 + 2)) = ji44 := (i64_w _).trans hji44
   by_cases c45 : 0 ≤ (ji44)
   rotate_left
   ·rw [if_neg c45] at H
    exact absurd H (by simp)
   rw [if_pos c45] at H
   have c45b0 := eq_true c45
   have c45b1 := decide_eq_true c45
   clear c45
   by_cases c46 : (ji44) ≤ (l0.length : Int)
   rotate_left
   ·rw [if_neg c46] at H
    exact absurd H (by simp)
   rw [if_pos c46] at H
   have c46b0 := eq_true c46
   have c46b1 := decide_eq_true c46
   clear c46
   by_cases c47 : b7.length + (l0.drop ((ji44) : Int).toNat).length < 17592186044416
   rotate_left
   ·rw [if_neg c47] at H
    exact absurd H (by simp)
   rw [if_pos c47] at H
   have LMc47 := am_ c47
   clear c47
   obtain ⟨d3, hy200⟩ : ∃ y_ : List Int, y_ = (b7 ++ (l0.drop ((ji44) : Int).toNat)) := ⟨_, rfl⟩
   replace H : ((some (([] : List Int) : List Int)).bind fun b1 => (if (ji40) ≤ (wrap64 (a4 + 1)) then (if (wrap64 (a4 + 1)) ≤ (l0.length : Int) then (if b1.length + ((l0.take ((wrap64 (a4 + 1)) : Int).toNat).drop ((ji40) : Int).toNat).length < 17592186044416 then (some (d3, (b1 ++ ((l0.take ((wrap64 (a4 + 1)) : Int).toNat).drop ((ji40) : Int).toNat)), true)) else (none)) else (none)) else (none))) = some (r1, r2, r3) := by first | (rw [hy200]; with_reducible exact H) | (have H2_ := (Option.bind_some _ _).symm.trans H; rw [hy200]; with_reducible exact H2_) | (have H2_ := (Option.bind_some _ _).symm.trans H; with_reducible exact H2_) | with_reducible exact H | (rw [hy200]; exact H) | exact H
   have Ny200 := am_ hy200
   clear hy200
   obtain ⟨b1, hy203⟩ : ∃ y_ : List Int, y_ = (([] : List Int)) := ⟨_, rfl⟩
   replace H : (if (ji40) ≤ (wrap64 (a4 + 1)) then (if (wrap64 (a4 + 1)) ≤ (l0.length : Int) then (if b1.length + ((l0.take ((wrap64 (a4 + 1)) : Int).toNat).drop ((ji40) : Int).toNat).length < 17592186044416 then (some (d3, (b1 ++ ((l0.take ((wrap64 (a4 + 1)) : Int).toNat).drop ((ji40) : Int).toNat)), true)) else (none)) else (none)) else (none)) = some (r1, r2, r3) := by first | (rw [hy203]; with_reducible exact H) | (have H2_ := (Option.bind_some _ _).symm.trans H; rw [hy203]; with_reducible exact H2_) | (have H2_ := (Option.bind_some _ _).symm.trans H; with_reducible exact H2_) | with_reducible exact H | (rw [hy203]; exact H) | exact H
   have Ny203 := am_ hy203
   clear hy203
   have c48b0 := eq_true (of_decide_eq_true qa_ : 0 ≤ (ji40))
   by_cases c49 : (ji40) ≤ (wrap64 (a4 + 1))
   rotate_left
   ·rw [if_neg c49] at H
    exact absurd H (by simp)
   rw [if_pos c49] at H
   have c49b0 := eq_true c49
   have c49b1 := decide_eq_true c49
   by_cases c50 : (wrap64 (a4 + 1)) ≤ (l0.length : Int)
   rotate_left
   ·rw [if_neg c50] at H
    exact absurd H (by simp)
   rw [if_pos c50] at H
   have c50b0 := eq_true c50
   have c50b1 := decide_eq_true c50
   by_cases c51 : b1.length + ((l0.take ((wrap64 (a4 + 1)) : Int).toNat).drop ((ji40) : Int).toNat).length < 17592186044416
   rotate_left
   ·rw [if_neg c51] at H
    exact absurd H (by simp)
   rw [if_pos c51] at H
   have LMc51 := am_ c51
   clear c51
   obtain ⟨f1, hy207⟩ : ∃ y_ : List Int, y_ = (b1 ++ ((l0.take ((wrap64 (a4 + 1)) : Int).toNat).drop ((ji40) : Int).toNat)) := ⟨_, rfl⟩
   replace H : (some (d3, f1, true)) = some (r1, r2, r3) := by first | (rw [hy207]; with_reducible exact H) | (have H2_ := (Option.bind_some _ _).symm.trans H; rw [hy207]; with_reducible exact H2_) | (have H2_ := (Option.bind_some _ _).symm.trans H; with_reducible exact H2_) | with_reducible exact H | (rw [hy207]; exact H) | exact H
   have Ny207 := am_ hy207
   clear hy207
   simp only [Option.some.injEq, Prod.mk.injEq] at H
   obtain ⟨rfl, rfl, rfl⟩ := H
   try go_wp2_with (first | ((with_reducible refine gate_dst (N := 40) rfl ?_); refine Kd.R_lit (Kd.int .i64) _ 3 ?hg (N := 40) ?hd (xs := ([] : List Int)) (inner := []) (ok := fun _ => True) (okp := fun _ => True) ?hr ?hp (fun _ hk => hk) trivial (Below.refl _ _) (Nat.le_refl _) (by simp) ?_; (case hd => rfl); (case hg => rfl); (case hr => first | (go_simp; done) | (go_simp; rfl)); (case hp => exact (Reps.none _ _)); intro f2 w52 ho53 hb hg_ hnew_; clear hg_ hnew_; (first | rw [← Ny192.out] at ho53 | (simp only [Int.reduceToNat] at ho53; rw [← Ny192.out] at ho53)); have d9 := am_ (Kd.R_lower (Kd.R_new' (Kd.R_newM (M := fun k_ => (w.heap.size ≤ k_)) ho53 (below_size qB_) (fun k_ h_ => h_)) (Kd.R_lt (qR_ a0))) (below_size qB_)); replace a0 := am_ (Kd.R_elder' (qR_ a0) (Kd.R_base ho53) hb); replace HB := hs_ hb; clear hb ho53; obtain ⟨i054, hi054, _, hsz54, _⟩ := info_parts info3; obtain ⟨hcut54, hA54, hC54⟩ := print_take_of (P := Try.prog) (Value.int .i64) 0 51 3 .i64 Try.underlying51 hi054 hsz54 A0 c0 l0 (ji40) (of_decide_eq_true qa_) (of_decide_eq_true qa_) d6.out; have e0 := am_ (Kd.C_of_reads (h1 := fun _ => rfl) (hA54 _ (Kd.reads_of_C d5.out))); have f7 := am_ hC54; clear hA54 hC54 hi054 hsz54) | ((with_reducible refine gate_builtin (b := .append) (xs := #[.tmp 40, .tmp 44]) rfl ?_); at_builtin; refine Kd.R_append_rows (Kd.int .i64) (w0 := w) w.heap.size rfl (.tmp 40) (.tmp 44) 51 3 (.int .i64 0) 8 rfl Try.underlying51 info3 rfl (by decide) (by omega) f2 d2 (l0.take ((ji40) : Int).toNat) _ _ _ (fun k_ => (w.heap.size ≤ k_) ∧ some k_ ≠ (a5 : Value).ownBlock) (fun _ => False) rfl rfl ?aO ?aR (fun _ _ h => h) (fun _ h => h.elim) ?aF ?aB ?aS ?aL ?_; (case aR => first | (refine rr_len (show (l0.take ((ji40) : Int).toNat).length = (ji40).toNat from (by rw [List.length_take]; have h_ : ((ji40) : Int) ≤ (l0.length : Int) := of_decide_eq_true qa_; omega)) ?_; repeat (first | exact (Kd.C_below e0.out HB.out) | (with_reducible refine Kd.C_alloc ?_ _) | (with_reducible refine Kd.C_drewN ?_ _) | (with_reducible refine Kd.C_drew ?_))) | (repeat (first | exact (Kd.C_below e0.out HB.out) | (with_reducible refine Kd.C_alloc ?_ _) | (with_reducible refine Kd.C_drewN ?_ _) | (with_reducible refine Kd.C_drew ?_)))); (case aB => exact qB_); (case aF => exact (fun k_ hk => ⟨(Nat.le_trans (below_size qB_) hk), Kd.fresh' (Kd.R_lt (qR_ a0)) k_ hk⟩)); (case aO => exact (by (with_reducible repeat (first | apply Kd.R_alloc | apply Kd.R_drewN | apply Kd.R_drew)); exact Kd.R_mono d9.out (fun _ hk => ⟨hk.1.1, hk.2⟩))); (case aS => exact (below_size qB_)); (case aL => have := LMc43.out; have hlx_ := (show (l0.take ((ji40) : Int).toNat).length = (ji40).toNat from (by rw [List.length_take]; have h_ : ((ji40) : Int) ≤ (l0.length : Int) := of_decide_eq_true qa_; omega)); omega); intro g2 w55 ho hb hg hat; rw [← Ny196.out] at ho; have a8 := am_ (ho); replace a0 := am_ (Kd.R_after (ok := (fun k_ => (w.heap.size ≤ k_))) (qR_ a0) hg hat); replace HB := am_ (hb); clear d9; clear ho hb hg hat; obtain ⟨e4, e5, f3⟩ := Kd.R_slice a8.out; subst f3))
   replace a0 := am_ (Kd.R_drew a0.out); replace a8 := am_ (Kd.R_drew a8.out); replace HB := am_ (below_drew1 HB.out)
   obtain ⟨i058, hi058, _, hsz58, _⟩ := info_parts info3
   obtain ⟨A58, hcut58, hA58, hC58⟩ := print_drop_of (P := Try.prog) (Value.int .i64) 0 51 3 .i64 Try.underlying51 hi058 hsz58 A0 c0 l0 (ji44) (of_decide_eq_true qa_) (of_decide_eq_true qa_) d6.out
   have c6 := am_ (Kd.C_of_reads (h1 := fun _ => rfl) (hA58 _ (Kd.reads_of_C d5.out)))
   have f8 := am_ hC58
   clear hA58 hC58 hi058 hsz58
   obtain ⟨i059, hi059, _, hsz59, _⟩ := info_parts info3
   obtain ⟨A59, hcut59, hA59, hC59⟩ := print_mid_of (P := Try.prog) (Value.int .i64) 0 51 3 .i64 .i64 Try.underlying51 hi059 hsz59 A0 c0 l0 (ji40) (wrap64 (a4 + 1)) (of_decide_eq_true qa_) (by first | omega | exact of_decide_eq_true qa_) (of_decide_eq_true qa_) d6.out
   have d4 := am_ (Kd.C_of_reads (h1 := fun _ => rfl) (hA59 _ (Kd.reads_of_C d5.out)))
   have f9 := am_ hC59
   clear hA59 hC59 hi059 hsz59
   refine start_ (n := 17) (S := fun w' => True) (ds := []) (bm 17 0) (by kernel_rfl) rfl (by kernel_rfl) trivial (fun hHeld => ?_); refine with_tabW spec_SplitTour.tab11 spec_SplitTour.bits11 (fun HT_ HW_ => ?_)
   generalize w55.drew = w57 at a0 a8 HB c6 d4 hHeld ⊢
   refine pz_ 0 46 (bm 17 1) ?_; refine pz_ 1 47 (bm 17 3) ?_; refine pz_ 2 48 (bm 17 7) ?_; refine pz_ 3 49 (bm 17 15) ?_; refine pz_ 4 50 (bm 17 31) ?_; refine pz_ 7 53 (bm 17 159) ?_; refine pz_ 8 54 (bm 17 415) ?_; refine pz_ 9 55 (bm 17 927) ?_; refine pz_ 10 56 (bm 17 1951) ?_; refine pz_ 11 57 (bm 17 3999) ?_; refine pz_ 12 58 (bm 17 8095) ?_
   refine join_ (σ := Value × Value) 4 #[true, true, true, true, true, true, true, true, true, true, true, true, true, false, false, false, false] (fun s_ => [(51, s_.1), (52, s_.2)]) (fun s_ w' => (Kd.R (Kd.int .i64) 3 w' w.heap.size (fun k_ => (w.heap.size ≤ k_) ∧ some k_ ≠ (s_.2 : Value).ownBlock ∧ some k_ ≠ (a5 : Value).ownBlock) s_.1 d3) ∧ (Kd.R (Kd.int .i64) 3 w' w.heap.size (fun k_ => (w.heap.size ≤ k_) ∧ some k_ ≠ (s_.1 : Value).ownBlock ∧ some k_ ≠ (a5 : Value).ownBlock) s_.2 b1) ∧ (Kd.R (Kd.int .i64) 3 w' w.heap.size (fun k_ => (w.heap.size ≤ k_) ∧ some k_ ≠ (s_.1 : Value).ownBlock ∧ some k_ ≠ (s_.2 : Value).ownBlock) a5 b4) ∧ (Below w.heap.size w w')) ?_ ?_
   rotate_left
   ·intro hCont
    refine two_ (i := 5) (j := 6) (Ni := some 51) (Nj := some 52) (bm 17 8127) #[true, true, true, true, true, false, true, true, true, true, true, true, true, false, false, false, false] rfl rfl rfl rfl (two_of HT_.out (by kernel_rfl)) (by decide) (by decide) (fun K hK => ?_) (fun K hK => ?_)
    ·skip
     refine Kd.R_append_rows_step (Kd.int .i64) (w0 := w) w.heap.size (by rfl) (.tmp 46) (.tmp 50) 51 3 (.int .i64 0) 8 rfl Try.underlying51 info3 rfl (by decide) (by omega) (.slice e4 b7.length e5) b7 (l0.drop ((ji44) : Int).toNat) _ _ _ (fun k_ => (w.heap.size ≤ k_) ∧ some k_ ≠ (a5 : Value).ownBlock) (fun _ => False) rfl rfl ?aO ?aR (fun _ _ h => h) (fun _ h => h.elim) ?aF ?aB ?aS ?aL ?_
     (case aR => first | (refine rr_len (show (l0.drop ((ji44) : Int).toNat).length = (l0.length - (ji44).toNat) from List.length_drop) ?_; repeat (first | exact (Kd.C_below c6.out HB.out) | (with_reducible refine Kd.C_alloc ?_ _) | (with_reducible refine Kd.C_drewN ?_ _) | (with_reducible refine Kd.C_drew ?_))) | (repeat (first | exact (Kd.C_below c6.out HB.out) | (with_reducible refine Kd.C_alloc ?_ _) | (with_reducible refine Kd.C_drewN ?_ _) | (with_reducible refine Kd.C_drew ?_))))
     (case aB => exact qB_)
     (case aF => exact (fun k_ hk => ⟨(Nat.le_trans (below_size qB_) hk), Kd.fresh' (Kd.R_lt (qR_ a0)) k_ hk⟩))
     (case aO => exact (qR_ a8))
     (case aS => exact (below_size qB_))
     (case aL => have := LMc47.out; have hlx_ := (show (l0.drop ((ji44) : Int).toNat).length = (l0.length - (ji44).toNat) from List.length_drop); omega)
     intro c3 w60 ho hb hg hat
     rw [← Ny200.out] at ho
     have a9 := am_ (ho); replace a0 := am_ (Kd.R_after (ok := (fun k_ => (w.heap.size ≤ k_))) (qR_ a0) hg hat); replace HB := am_ (hb); clear a8; clear ho hb hg hat
     refine hK.out _ _ trivial (fun hHeld => ?_)
     clear hK K
     refine nm_ 51 ?_
     refine o1_ 6 (some 52) (bm 17 8191) (fun K hK => ?_)
     refine Kd.R_lit_step (Kd.int .i64) _ 3 ?hg (N := 52) ?hd (xs := ([] : List Int)) (inner := []) (ok := fun _ => True) (okp := fun _ => True) ?hr ?hp (fun _ hk => hk) trivial (Below.refl _ _) (Nat.le_refl _) (by simp) ?_; (case hd => rfl); (case hg => rfl); (case hr => first | (go_simp; done) | (go_simp; rfl)); (case hp => exact (Reps.none _ _))
     intro b9 w61 ho62 hb hg_ hnew_
     clear hg_ hnew_
     (first | rw [← Ny203.out] at ho62 | (simp only [Int.reduceToNat] at ho62; rw [← Ny203.out] at ho62))
     have b3 := am_ (Kd.R_lower (Kd.R_new' (Kd.R_new' (Kd.R_newM (M := fun k_ => (w.heap.size ≤ k_)) ho62 (below_size qB_) (fun k_ h_ => h_)) (Kd.R_lt (qR_ a0))) (Kd.R_lt (qR_ a9))) (below_size qB_)); replace a0 := am_ (Kd.R_elder' (qR_ a0) (Kd.R_base ho62) hb); replace a9 := am_ (Kd.R_elder' (qR_ a9) (Kd.R_base ho62) hb); replace HB := am_ (below_step qB_ hb); clear hb ho62
     refine hK.out _ _ trivial (fun hHeld => ?_)
     clear hK K
     refine nm_ 52 ?_
     exact norm_ (by simp only [putAll, Act.put, sA_, sB_, sC_]) (hCont (c3, b9) _ ⟨(by (with_reducible repeat (first | apply Kd.R_alloc | apply Kd.R_drewN | apply Kd.R_drew)); exact Kd.R_mono a9.out (fun _ hk => ⟨hk.1.1, ⟨hk.2, hk.1.2⟩⟩)), (by (with_reducible repeat (first | apply Kd.R_alloc | apply Kd.R_drewN | apply Kd.R_drew)); exact Kd.R_mono b3.out (fun _ hk => ⟨hk.1.1.1, ⟨hk.2, hk.1.2⟩⟩)), (by (with_reducible repeat (first | apply Kd.R_alloc | apply Kd.R_drewN | apply Kd.R_drew)); exact Kd.R_mono a0.out (fun _ hk => ⟨hk.1.1, ⟨hk.1.2, hk.2⟩⟩)), qB_⟩)
    skip
    refine Kd.R_lit_step (Kd.int .i64) _ 3 ?hg (N := 52) ?hd (xs := ([] : List Int)) (inner := []) (ok := fun _ => True) (okp := fun _ => True) ?hr ?hp (fun _ hk => hk) trivial (Below.refl _ _) (Nat.le_refl _) (by simp) ?_; (case hd => rfl); (case hg => rfl); (case hr => first | (go_simp; done) | (go_simp; rfl)); (case hp => exact (Reps.none _ _))
    intro b9 w60 ho61 hb hg_ hnew_
    clear hg_ hnew_
    (first | rw [← Ny203.out] at ho61 | (simp only [Int.reduceToNat] at ho61; rw [← Ny203.out] at ho61))
    have b3 := am_ (Kd.R_lower (Kd.R_new' (Kd.R_new' (Kd.R_newM (M := fun k_ => (w.heap.size ≤ k_)) ho61 (below_size qB_) (fun k_ h_ => h_)) (Kd.R_lt (qR_ a0))) (Kd.R_lt (qR_ a8))) (below_size qB_)); replace a0 := am_ (Kd.R_elder' (qR_ a0) (Kd.R_base ho61) hb); replace a8 := am_ (Kd.R_elder' (qR_ a8) (Kd.R_base ho61) hb); replace HB := am_ (below_step qB_ hb); clear hb ho61
    refine hK.out _ _ trivial (fun hHeld => ?_)
    clear hK K
    refine nm_ 52 ?_
    refine o1_ 5 (some 51) (bm 17 8191) (fun K hK => ?_)
    refine Kd.R_append_rows_step (Kd.int .i64) (w0 := w) w.heap.size (by rfl) (.tmp 46) (.tmp 50) 51 3 (.int .i64 0) 8 rfl Try.underlying51 info3 rfl (by decide) (by omega) (.slice e4 b7.length e5) b7 (l0.drop ((ji44) : Int).toNat) _ _ _ (fun k_ => (w.heap.size ≤ k_) ∧ some k_ ≠ (a5 : Value).ownBlock ∧ some k_ ≠ (b9 : Value).ownBlock) (fun _ => False) rfl rfl ?aO ?aR (fun _ _ h => h) (fun _ h => h.elim) ?aF ?aB ?aS ?aL ?_
    (case aR => first | (refine rr_len (show (l0.drop ((ji44) : Int).toNat).length = (l0.length - (ji44).toNat) from List.length_drop) ?_; repeat (first | exact (Kd.C_below c6.out HB.out) | (with_reducible refine Kd.C_alloc ?_ _) | (with_reducible refine Kd.C_drewN ?_ _) | (with_reducible refine Kd.C_drew ?_))) | (repeat (first | exact (Kd.C_below c6.out HB.out) | (with_reducible refine Kd.C_alloc ?_ _) | (with_reducible refine Kd.C_drewN ?_ _) | (with_reducible refine Kd.C_drew ?_))))
    (case aB => exact qB_)
    (case aF => exact (fun k_ hk => ⟨(Nat.le_trans (below_size qB_) hk), Kd.fresh' (Kd.R_lt (qR_ a0)) k_ hk, Kd.fresh' (Kd.R_lt (qR_ b3)) k_ hk⟩))
    (case aO => exact (by (with_reducible repeat (first | apply Kd.R_alloc | apply Kd.R_drewN | apply Kd.R_drew)); exact Kd.R_mono a8.out (fun _ hk => ⟨hk.1.1, ⟨hk.1.2, hk.2⟩⟩)))
    (case aS => exact (below_size qB_))
    (case aL => have := LMc47.out; have hlx_ := (show (l0.drop ((ji44) : Int).toNat).length = (l0.length - (ji44).toNat) from List.length_drop); omega)
    intro c3 w62 ho hb hg hat
    rw [← Ny200.out] at ho
    have n0_ := am_ (Kd.R_after (ok := (fun k_ => (w.heap.size ≤ k_) ∧ some k_ ≠ (b9 : Value).ownBlock)) (by (with_reducible repeat (first | apply Kd.R_alloc | apply Kd.R_drewN | apply Kd.R_drew)); exact Kd.R_mono a0.out (fun _ hk => ⟨⟨hk.1.1, hk.2⟩, hk.1.2⟩)) hg hat)
    have n1_ := am_ (Kd.R_after (ok := (fun k_ => (w.heap.size ≤ k_) ∧ some k_ ≠ (a5 : Value).ownBlock)) (by (with_reducible repeat (first | apply Kd.R_alloc | apply Kd.R_drewN | apply Kd.R_drew)); exact Kd.R_mono b3.out (fun _ hk => ⟨⟨hk.1.1.1, hk.1.2⟩, hk.2⟩)) hg hat)
    have n2_ := am_ (hb)
    have n3_ := am_ (ho)
    clear a0; clear b3; clear HB; clear a8; have a0 := n0_; have b3 := n1_; have HB := n2_; have a9 := n3_; clear n0_ n1_ n2_ n3_; clear ho hb hg hat
    refine hK.out _ _ trivial (fun hHeld => ?_)
    clear hK K
    refine nm_ 51 ?_
    exact norm_ (by simp only [putAll, Act.put, sA_, sB_, sC_]) (hCont (c3, b9) _ ⟨(by (with_reducible repeat (first | apply Kd.R_alloc | apply Kd.R_drewN | apply Kd.R_drew)); exact Kd.R_mono a9.out (fun _ hk => ⟨hk.1, ⟨hk.2.2, hk.2.1⟩⟩)), (by (with_reducible repeat (first | apply Kd.R_alloc | apply Kd.R_drewN | apply Kd.R_drew)); exact Kd.R_mono b3.out (fun _ hk => ⟨hk.1.1, ⟨hk.2, hk.1.2⟩⟩)), (by (with_reducible repeat (first | apply Kd.R_alloc | apply Kd.R_drewN | apply Kd.R_drew)); exact Kd.R_mono a0.out (fun _ hk => ⟨hk.1.1, ⟨hk.2, hk.1.2⟩⟩)), qB_⟩)
   rintro ⟨c3, b9⟩ w63 ⟨h0_, h1_, h2_, h3_⟩
   have n0_ : Aside0 (Kd.R (Kd.int .i64) 3 w63 w.heap.size (fun k_ => (w.heap.size ≤ k_) ∧ some k_ ≠ (b9 : Value).ownBlock ∧ some k_ ≠ (a5 : Value).ownBlock) c3 d3) := ⟨h0_⟩
   have n1_ : Aside0 (Kd.R (Kd.int .i64) 3 w63 w.heap.size (fun k_ => (w.heap.size ≤ k_) ∧ some k_ ≠ (c3 : Value).ownBlock ∧ some k_ ≠ (a5 : Value).ownBlock) b9 b1) := ⟨h1_⟩
   have n2_ : Aside0 (Kd.R (Kd.int .i64) 3 w63 w.heap.size (fun k_ => (w.heap.size ≤ k_) ∧ some k_ ≠ (c3 : Value).ownBlock ∧ some k_ ≠ (b9 : Value).ownBlock) a5 b4) := ⟨h2_⟩
   have n3_ : Aside0 (Below w.heap.size w w63) := ⟨h3_⟩
   clear a0; clear a8; clear HB; clear h0_ h1_ h2_ h3_; have a9 := n0_; have b3 := n1_; have a0 := n2_; have HB := n3_; clear n0_ n1_ n2_ n3_; have hHeld := trivial
   refine norm_ (a' := ?_) ?_ ?_
   rotate_left
   ·simp only [putAll, Act.put, sA_, sB_, sC_]
    rfl
   refine o1_ 13 (some 59) (bm 17 16383) (fun K hK => ?_)
   refine Kd.R_append_rows_step (Kd.int .i64) (w0 := w) w.heap.size (by rfl) (.tmp 52) (.tmp 58) 51 3 (.int .i64 0) 8 rfl Try.underlying51 info3 rfl (by decide) (by omega) b9 b1 ((l0.take ((wrap64 (a4 + 1)) : Int).toNat).drop ((ji40) : Int).toNat) _ _ _ (fun k_ => (w.heap.size ≤ k_) ∧ some k_ ≠ (a5 : Value).ownBlock ∧ some k_ ≠ (c3 : Value).ownBlock) (fun _ => False) rfl rfl ?aO ?aR (fun _ _ h => h) (fun _ h => h.elim) ?aF ?aB ?aS ?aL ?_
   (case aR => first | (refine rr_len (show ((l0.take ((wrap64 (a4 + 1)) : Int).toNat).drop ((ji40) : Int).toNat).length = ((wrap64 (a4 + 1)).toNat - (ji40).toNat) from (by rw [List.length_drop, List.length_take]; have h_ : ((wrap64 (a4 + 1)) : Int) ≤ (l0.length : Int) := of_decide_eq_true qa_; omega)) ?_; repeat (first | exact (Kd.C_below d4.out HB.out) | (with_reducible refine Kd.C_alloc ?_ _) | (with_reducible refine Kd.C_drewN ?_ _) | (with_reducible refine Kd.C_drew ?_))) | (repeat (first | exact (Kd.C_below d4.out HB.out) | (with_reducible refine Kd.C_alloc ?_ _) | (with_reducible refine Kd.C_drewN ?_ _) | (with_reducible refine Kd.C_drew ?_))))
   (case aB => exact qB_)
   (case aF => exact (fun k_ hk => ⟨(Nat.le_trans (below_size qB_) hk), Kd.fresh' (Kd.R_lt (qR_ a0)) k_ hk, Kd.fresh' (Kd.R_lt (qR_ a9)) k_ hk⟩))
   (case aO => exact (by (with_reducible repeat (first | apply Kd.R_alloc | apply Kd.R_drewN | apply Kd.R_drew)); exact Kd.R_mono b3.out (fun _ hk => ⟨hk.1, ⟨hk.2.2, hk.2.1⟩⟩)))
   (case aS => exact (below_size qB_))
   (case aL => have := LMc51.out; have hlx_ := (show ((l0.take ((wrap64 (a4 + 1)) : Int).toNat).drop ((ji40) : Int).toNat).length = ((wrap64 (a4 + 1)).toNat - (ji40).toNat) from (by rw [List.length_drop, List.length_take]; have h_ : ((wrap64 (a4 + 1)) : Int) ≤ (l0.length : Int) := of_decide_eq_true qa_; omega)); omega)
   intro g3 w64 ho hb hg hat
   rw [← Ny207.out] at ho
   have n0_ := am_ (Kd.R_after (ok := (fun k_ => (w.heap.size ≤ k_) ∧ some k_ ≠ (c3 : Value).ownBlock)) (by (with_reducible repeat (first | apply Kd.R_alloc | apply Kd.R_drewN | apply Kd.R_drew)); exact Kd.R_mono a0.out (fun _ hk => ⟨⟨hk.1, hk.2.1⟩, hk.2.2⟩)) hg hat)
   have n1_ := am_ (Kd.R_after (ok := (fun k_ => (w.heap.size ≤ k_) ∧ some k_ ≠ (a5 : Value).ownBlock)) (by (with_reducible repeat (first | apply Kd.R_alloc | apply Kd.R_drewN | apply Kd.R_drew)); exact Kd.R_mono a9.out (fun _ hk => ⟨⟨hk.1, hk.2.2⟩, hk.2.1⟩)) hg hat)
   have n2_ := am_ (hb)
   have n3_ := am_ (ho)
   clear a0; clear a9; clear HB; clear b3; have a0 := n0_; have a9 := n1_; have HB := n2_; have e6 := n3_; clear n0_ n1_ n2_ n3_; clear ho hb hg hat
   refine hK.out _ _ trivial (fun hHeld => ?_)
   clear hK K
   refine nm_ 59 ?_
   refine pz_ 14 6 (bm 17 32767) ?_; refine pz_ 15 7 (bm 17 65535) ?_; refine pz_ 16 8 (bm 17 131071) ?_
   refine done_ (done_of HT_.out (by kernel_rfl)) ?_
   try go_wp2
   go_ret3
   exact ⟨_, _, by first | rfl | (simp [errW_none, errW_some] <;> rfl) | (simp only [← hji40, ← hji44]; first | rfl | (simp [errW_none, errW_some] <;> rfl)) | (simp [*, errW_none, errW_some] <;> rfl), Kd.R_V (by (with_reducible repeat (first | apply Kd.R_alloc | apply Kd.R_drewN | apply Kd.R_drew)); exact Kd.R_mono a9.out (fun _ hk => hk.1.1)), Kd.R_V (by (with_reducible repeat (first | apply Kd.R_alloc | apply Kd.R_drewN | apply Kd.R_drew)); exact Kd.R_mono e6.out (fun _ hk => hk.1)), qB_⟩
end Go.Proofs.Ytbkklafkoegdpaa.QFnExactCut
