import Derived.Test.YtbkklafkoegdpaaQFnExactCutx10
namespace Go.Proofs.Ytbkklafkoegdpaa.QFnExactCut
open Go.RowKit Go.Proofs.YtbkklafkoegdpaaW.PrintWords Go.Proofs.YtbkklafkoegdpaaW.PrintLast Go.Proofs.YtbkklafkoegdpaaW.PrintMore
set_option linter.unusedVariables false
set_option linter.unusedSimpArgs false
mutual
def impl_SplitTour.l0 : Nat → List Int → Int → Int → Int → Int → Int → Option (List Int × List Int × Bool)
  | 0, _, _, _, _, _, _ => none
  | k + 1, x0, x1, x2, x9, x10, x11 => if (wrap64 (x11 + 1)) < (x0.length : Int) then (if 0 ≤ x11 then (if x11 < (x0.length : Int) then (if (rd x0 x11) = x1 then (if 0 ≤ (wrap64 (x11 + 1)) then (if (rd x0 (wrap64 (x11 + 1))) = x2 then (impl_SplitTour.j1 k x0 x1 x2 x9 x10 x11 true) else (if (rd x0 x11) = x2 then (impl_SplitTour.j1 k x0 x1 x2 x9 x10 x11 ((rd x0 (wrap64 (x11 + 1))) == x1)) else (impl_SplitTour.j1 k x0 x1 x2 x9 x10 x11 false))) else (none)) else (if (rd x0 x11) = x2 then (if 0 ≤ (wrap64 (x11 + 1)) then (impl_SplitTour.j1 k x0 x1 x2 x9 x10 x11 ((rd x0 (wrap64 (x11 + 1))) == x1)) else (none)) else (impl_SplitTour.j1 k x0 x1 x2 x9 x10 x11 false))) else (none)) else (none)) else (if x9 < 0 then (some (([] : List Int), ([] : List Int), false)) else (if 0 ≤ (wrap64 (x9 + 1)) then (if (wrap64 (x9 + 1)) ≤ (x0.length : Int) then ((impl_copyInts.f (x0.take ((wrap64 (x9 + 1)) : Int).toNat)).bind fun t393 => (if 0 ≤ (wrap64 (x10 + 2)) then (if (wrap64 (x10 + 2)) ≤ (x0.length : Int) then (if t393.length + (x0.drop ((wrap64 (x10 + 2)) : Int).toNat).length < 17592186044416 then (if (wrap64 (x9 + 1)) ≤ (wrap64 (x10 + 1)) then (if (wrap64 (x10 + 1)) ≤ (x0.length : Int) then ((impl_copyInts.f ((x0.take ((wrap64 (x10 + 1)) : Int).toNat).drop ((wrap64 (x9 + 1)) : Int).toNat)).bind fun t401 => (some ((t393 ++ (x0.drop ((wrap64 (x10 + 2)) : Int).toNat)), t401, true))) else (none)) else (none)) else (none)) else (none)) else (none))) else (none)) else (none)))
def impl_SplitTour.j1 : Nat → List Int → Int → Int → Int → Int → Int → Bool → Option (List Int × List Int × Bool)
  | 0, _, _, _, _, _, _, _ => none
  | k + 1, x0, x1, x2, x9, x10, x11, x53 => if x53 = true then (if x9 < 0 then (impl_SplitTour.l0 k x0 x1 x2 x11 x11 (wrap64 (x11 + 1))) else (impl_SplitTour.l0 k x0 x1 x2 x9 x11 (wrap64 (x11 + 1)))) else (impl_SplitTour.l0 k x0 x1 x2 x9 x10 (wrap64 (x11 + 1)))
end
def impl_SplitTour.f (k : Nat) (l0 : List Int) (a1 : Int) (a2 : Int) : Option (List Int × List Int × Bool) := (impl_TourOk.f k l0).bind fun t385 => (if t385 = true then (impl_SplitTour.l0 k l0 a1 a2 (-1) (-1) 0) else (some (([] : List Int), ([] : List Int), false)))
theorem impl_SplitTour.mono_l : ∀ k, (∀ y0 y1 y2 y3 y4 y5, LeO (impl_SplitTour.l0 k y0 y1 y2 y3 y4 y5) (impl_SplitTour.l0 (k + 1) y0 y1 y2 y3 y4 y5)) ∧ (∀ y0 y1 y2 y3 y4 y5 y6, LeO (impl_SplitTour.j1 k y0 y1 y2 y3 y4 y5 y6) (impl_SplitTour.j1 (k + 1) y0 y1 y2 y3 y4 y5 y6))
  | 0 => ⟨fun _ _ _ _ _ _ r h => by simp [impl_SplitTour.l0] at h, fun _ _ _ _ _ _ _ r h => by simp [impl_SplitTour.j1] at h⟩
  | k + 1 => by
    obtain ⟨ih0, ih1⟩ := impl_SplitTour.mono_l k
    refine ⟨?_, ?_⟩ <;> (intros; first | unfold impl_SplitTour.l0 | unfold impl_SplitTour.j1) <;> repeat' first | (with_reducible first | exact ih0 _ _ _ _ _ _ | exact ih1 _ _ _ _ _ _ _ | exact impl_TourOk.mono _ _ | exact LeO.refl _ | exact LeO.none _ | refine LeO.ite ?_ ?_ | refine LeO.bind ?_ (fun _ => ?_)) | exact LeO.none _ | refine LeO.ite ?_ ?_ | refine LeO.bind ?_ (fun _ => ?_)
theorem impl_SplitTour.mono : ∀ a0 a1 a2 k, LeO (impl_SplitTour.f k a0 a1 a2) (impl_SplitTour.f (k + 1) a0 a1 a2) := by
  intro a0 a1 a2 k
  obtain ⟨ih0, ih1⟩ := impl_SplitTour.mono_l k
  unfold impl_SplitTour.f
  repeat' first | (with_reducible first | exact ih0 _ _ _ _ _ _ | exact ih1 _ _ _ _ _ _ _ | exact impl_TourOk.mono _ _ | exact LeO.refl _ | exact LeO.none _ | refine LeO.ite ?_ ?_ | refine LeO.bind ?_ (fun _ => ?_)) | exact LeO.none _ | refine LeO.ite ?_ ?_ | refine LeO.bind ?_ (fun _ => ?_)
def impl_SplitTour.T13 : Bool × List (List Nat × List Nat) := (true, [([], []), ([], []), ([1], [1]), ([0, 2], [0, 2]), ([3], [3]), ([], []), ([], []), ([6], [6]), ([5, 7], [5, 7]), ([4, 8, 4], [4, 8]), ([], []), ([], []), ([11], [11]), ([], []), ([13], [13]), ([10, 12, 14], [10, 12, 14]), ([15, 9], [15]), ([9, 16, 0, 1, 2, 3, 4, 5, 6, 7, 8, 9], [9]), ([16, 17, 0, 1, 2, 3, 4, 5, 6, 7, 8, 9, 10, 11, 12, 13, 14, 15, 16, 17], [16]), ([18, 0, 1, 2, 3, 4, 5, 6, 7, 8, 9, 10, 11, 12, 13, 14, 15, 16, 17, 18], [])])
def impl_SplitTour.B13 : List Nat := [0, 0, 2, 7, 15, 0, 0, 64, 224, 511, 0, 0, 2048, 0, 8192, 31744, 65535, 131071, 262143, 524287]
theorem impl_SplitTour.tab13 : rtab .any (opsOf Try.f78 13) = impl_SplitTour.T13 := by kernel_rfl
theorem impl_SplitTour.bits13 : waitsOk impl_SplitTour.T13.2 impl_SplitTour.B13 = true := by kernel_rfl
set_option maxHeartbeats 8000000 in
set_option maxRecDepth 100000 in
theorem impl_SplitTour.calls (k : Nat) (A0 : Option Addr) (c0 : Nat) (l0 : List Int) (a1 : Int) (a2 : Int) (r1 : List Int) (r2 : List Int) (r3 : Bool) (w : World) (hr0 : Kd.C (Kd.int .i64) w A0 l0.length l0) (hc0 : l0.length ≤ c0) (h : impl_SplitTour.f k l0 a1 a2 = some (r1, r2, r3)) :
  Calls Try.prog 78 #[.slice A0 l0.length c0, .int .i64 a1, .int .i64 a2] w fun e w' => ∃ v0_ v1_ : Value, e = .returned (.tuple #[v0_, v1_, .bool r3]) ∧ Kd.R (Kd.int .i64) 3 w' w.heap.size (fun k_ => some k_ ≠ (v1_ : Value).ownBlock) v0_ r1 ∧ Kd.R (Kd.int .i64) 3 w' w.heap.size (fun k_ => some k_ ≠ (v0_ : Value).ownBlock) v1_ r2 ∧ Below w.heap.size w w' := by
 have a6 := am_ hr0
 have b8 := am_ hc0
 clear hr0 hc0
 have HB := am_ (Below.refl w.heap.size w)
 have H : ((impl_TourOk.f k l0).bind fun b5 => (if b5 = true then (impl_SplitTour.l0 k l0 a1 a2 (-1) (-1) 0) else (some (([] : List Int), ([] : List Int), false)))) = some (r1, r2, r3) := h
 clear h
 obtain ⟨b5, A40, H⟩ := Option.bind_eq_some_iff.mp H; have A4 := am_ A40; clear A40
 by_cases c5 : b5 = true
 rotate_left
 ·replace c5 := Bool.eq_false_iff.mpr c5
  subst c5
  rw [if_neg ff_] at H
  simp only [Option.some.injEq, Prod.mk.injEq] at H
  obtain ⟨rfl, rfl, rfl⟩ := H
  go_enter Try.func78, Try.ntmps78
  go_wp2_with (first | ((with_reducible refine gate_callee (f := 119) rfl ?_); refine gl_ (some 13) Try.func119 #[.slice A0 l0.length c0] ?_; (with_reducible refine (impl_TourOk.calls k _ _ l0 false _ ?side1 ?side2 A4.out).mono ?_); (case side1 => exact qD_ a6.out); (case side2 => exact b8.out); rintro e w41 ⟨rfl, hb⟩; refine ⟨_, rfl, ?_⟩; replace HB := hs_ hb; (try clear hb); (try clear hb2); (try clear hk); (try clear hi)))
  go_ret3
  exact ⟨_, _, qr_, by first | exact Kd.R_nil _ _ _ _ _ | exact Kd.N_nil _ _ _ _ _ | exact Kd.V_nil _ _ _ _ _ | exact Kd.Q_nil _ _ _ _ _ | exact Kd.S_nil _ _ _ _ _, by first | exact Kd.R_nil _ _ _ _ _ | exact Kd.N_nil _ _ _ _ _ | exact Kd.V_nil _ _ _ _ _ | exact Kd.Q_nil _ _ _ _ _ | exact Kd.S_nil _ _ _ _ _, qB_⟩
 subst c5
 rw [if_pos rfl] at H; have H' := am_ H; clear H
 go_enter Try.func78, Try.ntmps78
 go_wp2_with (first | ((with_reducible refine gate_callee (f := 119) rfl ?_); refine gl_ (some 13) Try.func119 #[.slice A0 l0.length c0] ?_; (with_reducible refine (impl_TourOk.calls k _ _ l0 true _ ?side1 ?side2 A4.out).mono ?_); (case side1 => exact qD_ a6.out); (case side2 => exact b8.out); rintro e w6 ⟨rfl, hb⟩; refine ⟨_, rfl, ?_⟩; replace HB := hs_ hb; (try clear hb); (try clear hb2); (try clear hk); (try clear hi)))
 go_loopg [9, 10, 11] k (fun kq v9 v10 v11 w' => ∃ (x9_1 : Int) (x10_1 : Int) (x11_1 : Int), v9 = .int .i64 x9_1 ∧ v10 = .int .i64 x10_1 ∧ v11 = .int .i64 x11_1 ∧ Aside0 (impl_SplitTour.l0 kq l0 a1 a2 x9_1 x10_1 x11_1 = some (r1, r2, r3)) ∧ Aside0 (kq ≤ k) ∧ Aside0 (Below w.heap.size w w'))
 case atStart => exact ⟨((-1)), ((-1)), (0), qe_, qe_, qe_, H', ⟨Nat.le_refl _⟩, ⟨qB_⟩⟩
 case round =>
  clear H'
  (try clear c1); (try clear p2); (try clear c5)
  obtain ⟨x9_1, x10_1, x11_1, rfl, rfl, rfl, HA, HK1, HB⟩ := hrel
  cases gk with
  | zero => exact absurd HA.out (by simp [impl_SplitTour.l0])
  | succ k1 =>
   have H := HA.out; clear HA
   simp only [impl_SplitTour.l0] at H
   by_cases c7 : (wrap64 (x11_1 + 1)) < (l0.length : Int)
   rotate_left
   ·rw [if_neg c7] at H
    have c7b0 := decide_eq_false c7
    clear c7
    by_cases c21 : x9_1 < 0
    ·rw [if_pos c21] at H
     have c21b0 := decide_eq_true c21
     clear c21
     simp only [Option.some.injEq, Prod.mk.injEq] at H
     obtain ⟨rfl, rfl, rfl⟩ := H
     go_wp2
     go_ret3
     exact ⟨_, _, qr_, by first | exact Kd.R_nil _ _ _ _ _ | exact Kd.N_nil _ _ _ _ _ | exact Kd.V_nil _ _ _ _ _ | exact Kd.Q_nil _ _ _ _ _ | exact Kd.S_nil _ _ _ _ _, by first | exact Kd.R_nil _ _ _ _ _ | exact Kd.N_nil _ _ _ _ _ | exact Kd.V_nil _ _ _ _ _ | exact Kd.Q_nil _ _ _ _ _ | exact Kd.S_nil _ _ _ _ _, qB_⟩
    rw [if_neg c21] at H
    have c21b0 := decide_eq_false c21
    clear c21
    obtain ⟨ji22, hji22⟩ : ∃ j_ : Int, (wrap64 (x9_1 + 1)) = j_ := ⟨_, rfl⟩
    first | rw [hji22] at H | simp only [hji22] at H
    have hji22w : (IntKind.i64.wrap (x9_1 + 1)) = ji22 := (i64_w _).trans hji22
    by_cases c23 : 0 ≤ (ji22)
    rotate_left
    ·rw [if_neg c23] at H
     exact absurd H (by simp)
    rw [if_pos c23] at H
    have c23b0 := eq_true c23
    have c23b1 := decide_eq_true c23
    clear c23
    by_cases c24 : (ji22) ≤ (l0.length : Int)
    rotate_left
    ·rw [if_neg c24] at H
     exact absurd H (by simp)
    rw [if_pos c24] at H
    have c24b0 := eq_true c24
    have c24b1 := decide_eq_true c24
    clear c24
    obtain ⟨b1, b9, H⟩ := Option.bind_eq_some_iff.mp H; have A25 := am_ b9; clear b9
    obtain ⟨ji26, hji26⟩ : ∃ j_ : Int, (wrap64 (x10_1 + 2)) = j_ := ⟨_, rfl⟩
    first | rw [hji26] at H | simp only [hji26] at H
    (try rw [hji26] at A25)
    have hji26w : (IntKind.i64.wrap (x10_1 + 2)) = ji26 := (i64_w _).trans hji26
    by_cases c27 : 0 ≤ (ji26)
    rotate_left
    ·rw [if_neg c27] at H
     exact absurd H (by simp)
    rw [if_pos c27] at H
    have c27b0 := eq_true c27
    have c27b1 := decide_eq_true c27
    clear c27
    by_cases c28 : (ji26) ≤ (l0.length : Int)
    rotate_left
    ·rw [if_neg c28] at H
     exact absurd H (by simp)
    rw [if_pos c28] at H
    have c28b0 := eq_true c28
    have c28b1 := decide_eq_true c28
    clear c28
    by_cases c29 : b1.length + (l0.drop ((ji26) : Int).toNat).length < 17592186044416
    rotate_left
    ·rw [if_neg c29] at H
     exact absurd H (by simp)
    rw [if_pos c29] at H
    have LMc29 := am_ c29
    clear c29
    obtain ⟨c8, hy397⟩ : ∃ y_ : List Int, y_ = (b1 ++ (l0.drop ((ji26) : Int).toNat)) := ⟨_, rfl⟩
    replace H : (if (ji22) ≤ (wrap64 (x10_1 + 1)) then (if (wrap64 (x10_1 + 1)) ≤ (l0.length : Int) then ((impl_copyInts.f ((l0.take ((wrap64 (x10_1 + 1)) : Int).toNat).drop ((ji22) : Int).toNat)).bind fun b6 => (some (c8, b6, true))) else (none)) else (none)) = some (r1, r2, r3) := by first | (rw [hy397]; with_reducible exact H) | (have H2_ := (Option.bind_some _ _).symm.trans H; rw [hy397]; with_reducible exact H2_) | (have H2_ := (Option.bind_some _ _).symm.trans H; with_reducible exact H2_) | with_reducible exact H | (rw [hy397]; exact H) | exact H
    have Ny397 := am_ hy397
    clear hy397
    have c30b0 := eq_true (of_decide_eq_true qa_ : 0 ≤ (ji22))
    by_cases c31 : (ji22) ≤ (wrap64 (x10_1 + 1))
    rotate_left
    ·rw [if_neg c31] at H
     exact absurd H (by simp)
    rw [if_pos c31] at H
    have c31b0 := eq_true c31
    have c31b1 := decide_eq_true c31
    by_cases c32 : (wrap64 (x10_1 + 1)) ≤ (l0.length : Int)
    rotate_left
    ·rw [if_neg c32] at H
     exact absurd H (by simp)
    rw [if_pos c32] at H
    have c32b0 := eq_true c32
    have c32b1 := decide_eq_true c32
    obtain ⟨b6, c2, H⟩ := Option.bind_eq_some_iff.mp H; have A33 := am_ c2; clear c2
    simp only [Option.some.injEq, Prod.mk.injEq] at H
    obtain ⟨rfl, rfl, rfl⟩ := H
    try go_wp2
    replace HB := am_ (below_drew1 HB.out)
    obtain ⟨i035, hi035, _, hsz35, _⟩ := info_parts info3
    obtain ⟨hcut35, hA35, hC35⟩ := print_take_of (P := Try.prog) (Value.int .i64) 0 51 3 .i64 Try.underlying51 hi035 hsz35 A0 c0 l0 (ji22) (of_decide_eq_true qa_) (of_decide_eq_true qa_) b8.out
    have b2 := am_ (Kd.C_of_reads (h1 := fun _ => rfl) (hA35 _ (Kd.reads_of_C a6.out)))
    have c3 := am_ hC35
    clear hA35 hC35 hi035 hsz35
    obtain ⟨i036, hi036, _, hsz36, _⟩ := info_parts info3
    obtain ⟨A36, hcut36, hA36, hC36⟩ := print_drop_of (P := Try.prog) (Value.int .i64) 0 51 3 .i64 Try.underlying51 hi036 hsz36 A0 c0 l0 (ji26) (of_decide_eq_true qa_) (of_decide_eq_true qa_) b8.out
    have b0 := am_ (Kd.C_of_reads (h1 := fun _ => rfl) (hA36 _ (Kd.reads_of_C a6.out)))
    have d2 := am_ hC36
    clear hA36 hC36 hi036 hsz36
    obtain ⟨i037, hi037, _, hsz37, _⟩ := info_parts info3
    obtain ⟨A37, hcut37, hA37, hC37⟩ := print_mid_of (P := Try.prog) (Value.int .i64) 0 51 3 .i64 .i64 Try.underlying51 hi037 hsz37 A0 c0 l0 (ji22) (wrap64 (x10_1 + 1)) (of_decide_eq_true qa_) (by first | omega | exact of_decide_eq_true qa_) (of_decide_eq_true qa_) b8.out
    have b3 := am_ (Kd.C_of_reads (h1 := fun _ => rfl) (hA37 _ (Kd.reads_of_C a6.out)))
    have c4 := am_ hC37
    clear hA37 hC37 hi037 hsz37
    refine start_ (n := 20) (S := fun w' => True) (ds := []) (bm 20 0) (by kernel_rfl) rfl (by kernel_rfl) trivial (fun hHeld => ?_); refine with_tabW impl_SplitTour.tab13 impl_SplitTour.bits13 (fun HT_ HW_ => ?_)
    generalize wr.drew = w34 at HB b2 b0 b3 hHeld ⊢
    refine pz_ 0 60 (bm 20 1) ?_; refine pz_ 1 61 (bm 20 3) ?_; refine pz_ 2 62 (bm 20 7) ?_; refine pz_ 3 63 (bm 20 15) ?_; refine pz_ 5 65 (bm 20 47) ?_; refine pz_ 6 66 (bm 20 111) ?_; refine pz_ 7 67 (bm 20 239) ?_; refine pz_ 8 68 (bm 20 495) ?_; refine pz_ 10 70 (bm 20 1519) ?_; refine pz_ 11 71 (bm 20 3567) ?_; refine pz_ 12 72 (bm 20 7663) ?_; refine pz_ 13 73 (bm 20 15855) ?_; refine pz_ 14 74 (bm 20 32239) ?_; refine pz_ 15 75 (bm 20 65007) ?_
    refine o1_ 4 (some 64) (bm 20 65023) (fun K hK => ?_)
    refine goes_ Try.func121 (by kernel_rfl) rfl #[.slice A0 (l0.take ((ji22) : Int).toNat).length c0] (by rfl) rfl rfl (by (try simp only [List.map_toArray, List.map_cons, List.map_nil]); first | done | (rw [show (l0.take ((ji22) : Int).toNat).length = (ji22).toNat from (by rw [List.length_take]; have h_ : ((ji22) : Int) ≤ (l0.length : Int) := of_decide_eq_true qa_; omega)] <;> rfl) | (simp only [hji22]; rfl) | rfl | (simp only [List.length_drop, List.length_take]; rfl)) ?_
    with_reducible refine (impl_copyInts.calls _ _ (l0.take ((ji22) : Int).toNat) b1 _ ?side1 ?side2 A25.out).mono ?_
    (case side1 => exact qC_ b2 HB)
    (case side2 => exact c3.out)
    rintro e w38 ⟨d0, rfl, ho0, hb⟩
    refine ⟨_, rfl, ?_⟩
    have b4 := am_ (Kd.R_lower ho0 (below_size qB_)); replace HB := am_ (below_step qB_ hb); (try clear hb); (try clear hb2); (try clear hk); (try clear hi); (try clear ho0)
    refine hK.out _ _ trivial (fun hHeld => ?_)
    clear hK K
    refine nm_ 64 ?_
    refine o1_ 9 (some 69) (bm 20 65535) (fun K hK => ?_)
    refine Kd.R_append_rows_step (Kd.int .i64) (w0 := w) w.heap.size (by rfl) (.tmp 64) (.tmp 68) 51 3 (.int .i64 0) 8 rfl Try.underlying51 info3 rfl (by decide) (by omega) d0 b1 (l0.drop ((ji26) : Int).toNat) _ _ _ (fun _ => True) (fun _ => False) rfl rfl ?aO ?aR (fun _ _ h => h) (fun _ h => h.elim) ?aF ?aB ?aS ?aL ?_
    (case aR => first | (refine rr_len (show (l0.drop ((ji26) : Int).toNat).length = (l0.length - (ji26).toNat) from List.length_drop) ?_; repeat (first | exact (Kd.C_below b0.out HB.out) | (with_reducible refine Kd.C_alloc ?_ _) | (with_reducible refine Kd.C_drewN ?_ _) | (with_reducible refine Kd.C_drew ?_))) | (repeat (first | exact (Kd.C_below b0.out HB.out) | (with_reducible refine Kd.C_alloc ?_ _) | (with_reducible refine Kd.C_drewN ?_ _) | (with_reducible refine Kd.C_drew ?_))))
    (case aB => exact qB_)
    (case aF => exact (fun _ _ => trivial))
    (case aO => exact (qR_ b4))
    (case aS => exact (below_size qB_))
    (case aL => have := LMc29.out; have hlx_ := (show (l0.drop ((ji26) : Int).toNat).length = (l0.length - (ji26).toNat) from List.length_drop); omega)
    intro d3 w39 ho hb hg hat
    rw [← Ny397.out] at ho
    have a9 := am_ (ho); replace HB := am_ (hb); clear b4; clear ho hb hg hat
    refine hK.out _ _ trivial (fun hHeld => ?_)
    clear hK K
    refine nm_ 69 ?_
    refine o1_ 16 (some 76) (bm 20 131071) (fun K hK => ?_)
    refine goes_ Try.func121 (by kernel_rfl) rfl #[.slice A37 ((l0.take ((wrap64 (x10_1 + 1)) : Int).toNat).drop ((ji22) : Int).toNat).length (c0 - (ji22).toNat)] (by rfl) rfl rfl (by (try simp only [List.map_toArray, List.map_cons, List.map_nil]); first | done | (rw [show ((l0.take ((wrap64 (x10_1 + 1)) : Int).toNat).drop ((ji22) : Int).toNat).length = ((wrap64 (x10_1 + 1)).toNat - (ji22).toNat) from (by rw [List.length_drop, List.length_take]; have h_ : ((wrap64 (x10_1 + 1)) : Int) ≤ (l0.length : Int) := of_decide_eq_true qa_; omega)] <;> rfl) | (simp only [hji22]; rfl) | rfl | (simp only [List.length_drop, List.length_take]; rfl)) ?_
    with_reducible refine (impl_copyInts.calls _ _ ((l0.take ((wrap64 (x10_1 + 1)) : Int).toNat).drop ((ji22) : Int).toNat) b6 _ ?side1 ?side2 A33.out).mono ?_
    (case side1 => exact qC_ b3 HB)
    (case side2 => exact c4.out)
    rintro e w40 ⟨d4, rfl, ho0, hb⟩
    refine ⟨_, rfl, ?_⟩
    have c6 := am_ (Kd.R_lower (Kd.R_new' ho0 (Kd.R_lt (qR_ a9))) (below_size qB_)); replace a9 := am_ (Kd.R_elder' (qR_ a9) (Kd.R_base ho0) hb); replace HB := am_ (below_step qB_ hb); (try clear hb); (try clear hb2); (try clear hk); (try clear hi); (try clear ho0)
    refine hK.out _ _ trivial (fun hHeld => ?_)
    clear hK K
    refine nm_ 76 ?_
    refine pz_ 17 6 (bm 20 262143) ?_; refine pz_ 18 7 (bm 20 524287) ?_; refine pz_ 19 8 (bm 20 1048575) ?_
    refine done_ (done_of HT_.out (by kernel_rfl)) ?_
    try go_wp2
    go_ret3
    exact ⟨_, _, by first | rfl | (simp [errW_none, errW_some] <;> rfl) | (simp only [← hji22, ← hji26]; first | rfl | (simp [errW_none, errW_some] <;> rfl)) | (simp [*, errW_none, errW_some] <;> rfl), by (with_reducible repeat (first | apply Kd.R_alloc | apply Kd.R_drewN | apply Kd.R_drew)); exact Kd.R_mono a9.out (fun _ hk => hk.2), by (with_reducible repeat (first | apply Kd.R_alloc | apply Kd.R_drewN | apply Kd.R_drew)); exact Kd.R_mono c6.out (fun _ hk => hk.2), qB_⟩
   rw [if_pos c7] at H
   have c7b0 := decide_eq_true c7
   clear c7
   have d1 := am_ H
   clear H
   go_upto_region 7 with (fail)
   go_cut [53] (fun v53 wc => ∃ (kq : Nat) (x53_7 : Bool), v53 = .bool x53_7 ∧ Aside0 (impl_SplitTour.j1 kq l0 a1 a2 x9_1 x10_1 x11_1 x53_7 = some (r1, r2, r3)) ∧ Aside0 (kq ≤ k1) ∧ Aside0 (Below w.heap.size w wc))
   case first =>
    have H := d1.out; clear d1
    by_cases c9 : 0 ≤ x11_1
    rotate_left
    ·rw [if_neg c9] at H
     exact absurd H (by simp)
    rw [if_pos c9] at H
    have c9b0 := decide_eq_true c9
    clear c9
    (first | rw [c9b0] | (simp only [i64_w, i32_w]; rw [c9b0]) | skip)
    by_cases c10 : x11_1 < (l0.length : Int)
    rotate_left
    ·rw [if_neg c10] at H
     exact absurd H (by simp)
    rw [if_pos c10] at H
    have c10b0 := decide_eq_true c10
    clear c10
    by_cases c11 : (rd l0 x11_1) = a1
    rotate_left
    ·rw [if_neg c11] at H
     have c11b0 : ((rd l0 x11_1) == a1) = false := beq_eq_false_iff_ne.mpr c11
     have c11b1 : ((rd l0 x11_1) != a1) = true := bne_iff_ne.mpr c11
     by_cases c16 : (rd l0 x11_1) = a2
     rotate_left
     ·rw [if_neg c16] at H
      have c16b0 : ((rd l0 x11_1) == a2) = false := beq_eq_false_iff_ne.mpr c16
      have c16b1 : ((rd l0 x11_1) != a2) = true := bne_iff_ne.mpr c16
      have H' := am_ H; clear H
      have p386 := dp_ x11_1
      have q386 := dl_ x11_1 l0.length
      obtain ⟨ad386, e386, a0⟩ := Kd.at_int a6.out x11_1 p386 q386
      cases e386
      replace a0 := qx_ HB a0
      replace p386 := eq_true p386; replace q386 := eq_true q386
      have p390 := dp_ x11_1
      have q390 := dl_ x11_1 l0.length
      obtain ⟨ad390, e390, a4⟩ := Kd.at_int a6.out x11_1 p390 q390
      obtain rfl : ad386 = ad390 := (by injection e390)
      replace a4 := qx_ HB a4
      replace p390 := eq_true p390; replace q390 := eq_true q390
      go_wp2
      go_meet
      case rel => exact ⟨_, (false), qe_, H', ⟨by have := HK1.out; first | omega | exact Nat.le_refl _⟩, ⟨qB_⟩⟩
     rw [if_pos c16] at H
     have c16b0 : ((rd l0 x11_1) == a2) = true := beq_iff_eq.mpr c16
     have c16b1 : ((rd l0 x11_1) != a2) = false := bne_eq_false_iff_eq.mpr c16
     clear c16
     obtain ⟨ji17, hji17⟩ : ∃ j_ : Int, (wrap64 (x11_1 + 1)) = j_ := ⟨_, rfl⟩
     first | rw [hji17] at H | simp only [hji17] at H
     (try rw [hji17] at c7b0)
     have hji17w : (IntKind.i64.wrap (x11_1 + 1)) = ji17 := (i64_w _).trans hji17
     by_cases c18 : 0 ≤ (ji17)
     rotate_left
     ·rw [if_neg c18] at H
      exact absurd H (by simp)
     rw [if_pos c18] at H
     have c18b0 := decide_eq_true c18
     clear c18; have H' := am_ H; clear H
     have p386 := dp_ x11_1
     have q386 := dl_ x11_1 l0.length
     obtain ⟨ad386, e386, a0⟩ := Kd.at_int a6.out x11_1 p386 q386
     cases e386
     replace a0 := qx_ HB a0
     replace p386 := eq_true p386; replace q386 := eq_true q386
     have p390 := dp_ x11_1
     have q390 := dl_ x11_1 l0.length
     obtain ⟨ad390, e390, a4⟩ := Kd.at_int a6.out x11_1 p390 q390
     obtain rfl : ad386 = ad390 := (by injection e390)
     replace a4 := qx_ HB a4
     replace p390 := eq_true p390; replace q390 := eq_true q390
     have p391 := dp_ ((ji17))
     have q391 := dl_ (ji17) l0.length
     obtain ⟨ad391, e391, a7⟩ := Kd.at_int a6.out (ji17) p391 q391
     obtain rfl : ad386 = ad391 := (by injection e391)
     replace a7 := qx_ HB a7
     replace p391 := eq_true p391; replace q391 := eq_true q391
     go_wp2
     go_meet
     case rel => exact ⟨_, (((rd l0 (ji17)) == a1)), (by first | rfl | (simp; done) | (simp only [← hji17] <;> (first | rfl | simp)) | (simp [*]; done)), H', ⟨by have := HK1.out; first | omega | exact Nat.le_refl _⟩, ⟨qB_⟩⟩
    rw [if_pos c11] at H
    have c11b0 : ((rd l0 x11_1) == a1) = true := beq_iff_eq.mpr c11
    have c11b1 : ((rd l0 x11_1) != a1) = false := bne_eq_false_iff_eq.mpr c11
    clear c11
    obtain ⟨ji12, hji12⟩ : ∃ j_ : Int, (wrap64 (x11_1 + 1)) = j_ := ⟨_, rfl⟩
    first | rw [hji12] at H | simp only [hji12] at H
    (try rw [hji12] at c7b0)
    have hji12w : (IntKind.i64.wrap (x11_1 + 1)) = ji12 := (i64_w _).trans hji12
    by_cases c13 : 0 ≤ (ji12)
    rotate_left
    ·rw [if_neg c13] at H
     exact absurd H (by simp)
    rw [if_pos c13] at H
    have c13b0 := decide_eq_true c13
    clear c13
    by_cases c14 : (rd l0 (ji12)) = a2
    ·rw [if_pos c14] at H
     have c14b0 : ((rd l0 (ji12)) == a2) = true := beq_iff_eq.mpr c14
     have c14b1 : ((rd l0 (ji12)) != a2) = false := bne_eq_false_iff_eq.mpr c14
     clear c14; have H' := am_ H; clear H
     have p386 := dp_ x11_1
     have q386 := dl_ x11_1 l0.length
     obtain ⟨ad386, e386, a0⟩ := Kd.at_int a6.out x11_1 p386 q386
     cases e386
     replace a0 := qx_ HB a0
     replace p386 := eq_true p386; replace q386 := eq_true q386
     have p387 := dp_ ((ji12))
     have q387 := dl_ (ji12) l0.length
     obtain ⟨ad387, e387, a3⟩ := Kd.at_int a6.out (ji12) p387 q387
     obtain rfl : ad386 = ad387 := (by injection e387)
     replace a3 := qx_ HB a3
     replace p387 := eq_true p387; replace q387 := eq_true q387
     go_wp2
     go_meet
     case rel => exact ⟨_, (true), qe_, H', ⟨by have := HK1.out; first | omega | exact Nat.le_refl _⟩, ⟨qB_⟩⟩
    rw [if_neg c14] at H
    have c14b0 : ((rd l0 (ji12)) == a2) = false := beq_eq_false_iff_ne.mpr c14
    have c14b1 : ((rd l0 (ji12)) != a2) = true := bne_iff_ne.mpr c14
    by_cases c15 : (rd l0 x11_1) = a2
    rotate_left
    ·rw [if_neg c15] at H
     have c15b0 : ((rd l0 x11_1) == a2) = false := beq_eq_false_iff_ne.mpr c15
     have c15b1 : ((rd l0 x11_1) != a2) = true := bne_iff_ne.mpr c15
     have H' := am_ H; clear H
     have p386 := dp_ x11_1
     have q386 := dl_ x11_1 l0.length
     obtain ⟨ad386, e386, a0⟩ := Kd.at_int a6.out x11_1 p386 q386
     cases e386
     replace a0 := qx_ HB a0
     replace p386 := eq_true p386; replace q386 := eq_true q386
     have p387 := dp_ ((ji12))
     have q387 := dl_ (ji12) l0.length
     obtain ⟨ad387, e387, a3⟩ := Kd.at_int a6.out (ji12) p387 q387
     obtain rfl : ad386 = ad387 := (by injection e387)
     replace a3 := qx_ HB a3
     replace p387 := eq_true p387; replace q387 := eq_true q387
     have p388 := dp_ x11_1
     have q388 := dl_ x11_1 l0.length
     obtain ⟨ad388, e388, a5⟩ := Kd.at_int a6.out x11_1 p388 q388
     obtain rfl : ad386 = ad388 := (by injection e388)
     replace a5 := qx_ HB a5
     replace p388 := eq_true p388; replace q388 := eq_true q388
     go_wp2
     go_meet
     case rel => exact ⟨_, (false), qe_, H', ⟨by have := HK1.out; first | omega | exact Nat.le_refl _⟩, ⟨qB_⟩⟩
    rw [if_pos c15] at H
    have c15b0 : ((rd l0 x11_1) == a2) = true := beq_iff_eq.mpr c15
    have c15b1 : ((rd l0 x11_1) != a2) = false := bne_eq_false_iff_eq.mpr c15
    clear c15; have H' := am_ H; clear H
    have p386 := dp_ x11_1
    have q386 := dl_ x11_1 l0.length
    obtain ⟨ad386, e386, a0⟩ := Kd.at_int a6.out x11_1 p386 q386
    cases e386
    replace a0 := qx_ HB a0
    replace p386 := eq_true p386; replace q386 := eq_true q386
    have p387 := dp_ ((ji12))
    have q387 := dl_ (ji12) l0.length
    obtain ⟨ad387, e387, a3⟩ := Kd.at_int a6.out (ji12) p387 q387
    obtain rfl : ad386 = ad387 := (by injection e387)
    replace a3 := qx_ HB a3
    replace p387 := eq_true p387; replace q387 := eq_true q387
    have p388 := dp_ x11_1
    have q388 := dl_ x11_1 l0.length
    obtain ⟨ad388, e388, a5⟩ := Kd.at_int a6.out x11_1 p388 q388
    obtain rfl : ad386 = ad388 := (by injection e388)
    replace a5 := qx_ HB a5
    replace p388 := eq_true p388; replace q388 := eq_true q388
    have p389 := dp_ ((ji12))
    have q389 := dl_ (ji12) l0.length
    obtain ⟨ad389, e389, a8⟩ := Kd.at_int a6.out (ji12) p389 q389
    obtain rfl : ad386 = ad389 := (by injection e389)
    replace a8 := qx_ HB a8
    replace p389 := eq_true p389; replace q389 := eq_true q389
    go_wp2
    go_meet
    case rel => exact ⟨_, (((rd l0 (ji12)) == a1)), (by first | rfl | (simp; done) | (simp only [← hji12] <;> (first | rfl | simp)) | (simp [*]; done)), H', ⟨by have := HK1.out; first | omega | exact Nat.le_refl _⟩, ⟨qB_⟩⟩
   case rest =>
    clear d1; (try clear c1); (try clear p2); (try clear p3); (try clear q3); (try clear d5); (try clear c5); (try clear p6); (try clear c7); (try clear c7b0); (try clear c9); (try clear c9b0); (try clear c10); (try clear c10b0); (try clear c11); (try clear c11b0); (try clear c11b1); (try clear c13); (try clear c13b0); (try clear c14); (try clear c14b0); (try clear c14b1); (try clear c15); (try clear c15b0); (try clear c15b1); (try clear c16); (try clear c16b0); (try clear c16b1); (try clear c18); (try clear c18b0); (try clear a0); (try clear a3); (try clear a5); (try clear a8); (try clear a4); (try clear a7); (try clear p2); (try clear p386); (try clear p387); (try clear p388); (try clear p389); (try clear p390); (try clear p391); (try clear q386); (try clear q387); (try clear q388); (try clear q389); (try clear q390); (try clear q391)
    obtain ⟨kq, x53_7, rfl, HA, b7, HB⟩ := hcut
    cases kq with
    | zero => exact absurd HA.out (by simp [impl_SplitTour.j1])
    | succ kj7 =>
     have H := HA.out; clear HA
     simp only [impl_SplitTour.j1] at H
     by_cases c19 : x53_7 = true
     rotate_left
     ·replace c19 := Bool.eq_false_iff.mpr c19
      subst c19
      rw [if_neg ff_] at H; have H' := am_ H; clear H
      go_wp2
      go_roundg kj7
      case measure => have := HK1.out; have := b7.out; omega
      case rel => exact ⟨(x9_1), (x10_1), (wrap64 (x11_1 + 1)), qe_, qe_, qe_, H', ⟨by have := HK1.out; have := b7.out; omega⟩, ⟨qB_⟩⟩
     subst c19
     rw [if_pos rfl] at H
     by_cases c20 : x9_1 < 0
     ·rw [if_pos c20] at H
      have c20b0 := decide_eq_true c20
      clear c20; have H' := am_ H; clear H
      go_wp2
      go_roundg kj7
      case measure => have := HK1.out; have := b7.out; omega
      case rel => exact ⟨(x11_1), (x11_1), (wrap64 (x11_1 + 1)), qe_, qe_, qe_, H', ⟨by have := HK1.out; have := b7.out; omega⟩, ⟨qB_⟩⟩
     rw [if_neg c20] at H
     have c20b0 := decide_eq_false c20
     clear c20; have H' := am_ H; clear H
     go_wp2
     go_roundg kj7
     case measure => have := HK1.out; have := b7.out; omega
     case rel => exact ⟨(x9_1), (x11_1), (wrap64 (x11_1 + 1)), qe_, qe_, qe_, H', ⟨by have := HK1.out; have := b7.out; omega⟩, ⟨qB_⟩⟩
end Go.Proofs.Ytbkklafkoegdpaa.QFnExactCut
