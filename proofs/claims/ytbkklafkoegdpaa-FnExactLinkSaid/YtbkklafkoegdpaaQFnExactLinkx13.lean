import Derived.Test.YtbkklafkoegdpaaQFnExactLinkx10
namespace Go.Proofs.Ytbkklafkoegdpaa.QFnExactLink
open Go.RowKit Go.Proofs.YtbkklafkoegdpaaW.PrintWords Go.Proofs.YtbkklafkoegdpaaW.PrintLast Go.Proofs.YtbkklafkoegdpaaW.PrintMore
set_option linter.unusedVariables false
set_option linter.unusedSimpArgs false
def impl_putTour.l0 : Nat → List (List Int) → List Int → Int → Int → Option ((List (List Int)))
  | 0, _, _, _, _ => none
  | k + 1, x0, x1, x5, x6 => if x6 < (x0.length : Int) then (if 0 ≤ x6 then ((impl_VertsOf.f k (rd_L1 x0 x6)).bind fun t430 => (if 0 < (t430.length : Int) then (if (rd t430 0) < x5 then (impl_putTour.l0 k x0 x1 x5 (wrap64 (x6 + 1))) else (if x6 ≤ (x0.length : Int) then ((some (x0.take (x6 : Int).toNat : List (List Int))).bind fun y434 => (if ([] : List (List Int)).length + y434.length < 5864062014805 then ((some (([] : List (List Int)) ++ y434 : List (List Int))).bind fun y439 => ((some (([x1] : List (List Int)) : List (List Int))).bind fun y442 => (if y439.length + y442.length < 5864062014805 then ((some (y439 ++ y442 : List (List Int))).bind fun y445 => ((some (x0.drop (x6 : Int).toNat : List (List Int))).bind fun y448 => (if y445.length + y448.length < 5864062014805 then (some (y445 ++ y448)) else (none)))) else (none)))) else (none))) else (none))) else (none))) else (none)) else (if 0 ≤ x6 then (if x6 ≤ (x0.length : Int) then ((some (x0.take (x6 : Int).toNat : List (List Int))).bind fun y456 => (if ([] : List (List Int)).length + y456.length < 5864062014805 then ((some (([] : List (List Int)) ++ y456 : List (List Int))).bind fun y461 => ((some (([x1] : List (List Int)) : List (List Int))).bind fun y464 => (if y461.length + y464.length < 5864062014805 then ((some (y461 ++ y464 : List (List Int))).bind fun y467 => ((some (x0.drop (x6 : Int).toNat : List (List Int))).bind fun y470 => (if y467.length + y470.length < 5864062014805 then (some (y467 ++ y470)) else (none)))) else (none)))) else (none))) else (none)) else (none))
def impl_putTour.f (k : Nat) (l0 : List (List Int)) (l1 : List Int) : Option ((List (List Int))) := (impl_VertsOf.f k l1).bind fun t425 => (if 0 < (t425.length : Int) then (impl_putTour.l0 k l0 l1 (rd t425 0) 0) else (none))
theorem impl_putTour.mono_l : ∀ k, (∀ y0 y1 y2 y3, LeO (impl_putTour.l0 k y0 y1 y2 y3) (impl_putTour.l0 (k + 1) y0 y1 y2 y3))
  | 0 => fun _ _ _ _ r h => by simp [impl_putTour.l0] at h
  | k + 1 => by
    have ih0 := impl_putTour.mono_l k
    · intro y0 y1 y2 y3
      unfold impl_putTour.l0
      repeat' first | (with_reducible first | exact ih0 _ _ _ _ | exact impl_VertsOf.mono _ _ | exact LeO.refl _ | exact LeO.none _ | refine LeO.ite ?_ ?_ | refine LeO.bind ?_ (fun _ => ?_)) | exact LeO.none _ | refine LeO.ite ?_ ?_ | refine LeO.bind ?_ (fun _ => ?_)
theorem impl_putTour.mono : ∀ a0 a1 k, LeO (impl_putTour.f k a0 a1) (impl_putTour.f (k + 1) a0 a1) := by
  intro a0 a1 k
  have ih0 := impl_putTour.mono_l k
  unfold impl_putTour.f
  repeat' first | (with_reducible first | exact ih0 _ _ _ _ | exact impl_VertsOf.mono _ _ | exact LeO.refl _ | exact LeO.none _ | refine LeO.ite ?_ ?_ | refine LeO.bind ?_ (fun _ => ?_)) | exact LeO.none _ | refine LeO.ite ?_ ?_ | refine LeO.bind ?_ (fun _ => ?_)
def impl_putTour.T5 : Bool × List (List Nat × List Nat) := (true, [([], []), ([], []), ([0, 1], [0, 1]), ([2], [2]), ([], []), ([4], [4]), ([3, 5, 3], [3, 5]), ([], []), ([], []), ([7, 8], [7, 8]), ([6, 9, 6], [6, 9]), ([10, 10, 0, 1, 2, 3, 4, 5, 6, 7, 8, 9, 10], [10])])
def impl_putTour.B5 : List Nat := [0, 0, 3, 7, 0, 16, 63, 0, 0, 384, 1023, 2047]
theorem impl_putTour.tab5 : rtab .any (opsOf Try.f80 5) = impl_putTour.T5 := by kernel_rfl
theorem impl_putTour.bits5 : waitsOk impl_putTour.T5.2 impl_putTour.B5 = true := by kernel_rfl
set_option maxHeartbeats 8000000 in
set_option maxRecDepth 100000 in
theorem impl_putTour.calls (k : Nat) (P0_ : Nat → Prop) (A0 : Option Addr) (c0 : Nat) (l0 : List (List Int)) (P1_ : Nat → Prop) (A1 : Option Addr) (c1 : Nat) (l1 : List Int) (r : List (List Int)) (w : World) (hs0 : Kd.V (Kd.slice 3 (Kd.int .i64)) 51 w w.heap.size (fun k_ => P0_ k_) (.slice A0 l0.length c0) l0) (hs1 : Kd.V (Kd.int .i64) 3 w w.heap.size (fun k_ => P1_ k_) (.slice A1 l1.length c1) l1) (h : impl_putTour.f k l0 l1 = some r) :
  Calls Try.prog 80 #[.slice A0 l0.length c0, .slice A1 l1.length c1] w fun e w' => ∃ v0_ : Value, e = .returned (v0_) ∧ Kd.N (Kd.slice 3 (Kd.int .i64)) 51 w' w.heap.size (fun k_ => ((P0_ k_ ∨ P1_ k_) ∨ w.heap.size ≤ k_)) v0_ r ∧ Below w.heap.size w w' := by
 have f0 := am_ (show Kd.V (Kd.slice 3 (Kd.int .i64)) 51 w w.heap.size (fun k_ => ((P0_ k_ ∨ P1_ k_) ∨ w.heap.size ≤ k_)) (.slice A0 l0.length c0) l0 from Kd.V_mono hs0 (fun k_ hk => .inl (.inl hk)))
 have e5 := am_ (show Kd.V (Kd.int .i64) 3 w w.heap.size (fun k_ => ((P0_ k_ ∨ P1_ k_) ∨ w.heap.size ≤ k_)) (.slice A1 l1.length c1) l1 from Kd.V_mono hs1 (fun k_ hk => .inl (.inr hk)))
 have HB := am_ (Below.refl w.heap.size w)
 have H : ((impl_VertsOf.f k l1).bind fun d3 => (if 0 < (d3.length : Int) then (impl_putTour.l0 k l0 l1 (rd d3 0) 0) else (none))) = some r := h
 clear h
 obtain ⟨d3, A30, H⟩ := Option.bind_eq_some_iff.mp H; have A3 := am_ A30; clear A30
 by_cases c4 : 0 < (d3.length : Int)
 rotate_left
 ·rw [if_neg c4] at H
  exact absurd H (by simp)
 rw [if_pos c4] at H
 have c4b0 := decide_eq_true c4
 have c4b1 : decide (0 < d3.length) = true := decide_eq_true (by omega)
 clear c4; have H' := am_ H; clear H
 go_enter Try.func80, Try.ntmps80
 go_wp2_with (first | ((with_reducible refine gate_callee (f := 106) rfl ?_); refine gl_ (some 8) Try.func106 #[.slice A1 l1.length c1] ?_; (with_reducible refine (impl_VertsOf.calls k _ _ l1 d3 _ ?side1 ?side2 A3.out).mono ?_); (case side1 => repeat (first | exact (Kd.V_reads' e5.out).2.2 | (with_reducible refine Kd.C_alloc ?_ _) | (with_reducible refine Kd.C_drewN ?_ _) | (with_reducible refine Kd.C_drew ?_))); (case side2 => exact (Kd.V_reads' e5.out).2.1); rintro e w5 ⟨g0, rfl, ho0, hb⟩; refine ⟨_, rfl, ?_⟩; have e1 := am_ (Kd.R_lower (Kd.R_newM (M := fun k_ => (w.heap.size ≤ k_)) ho0 (below_size qB_) (fun k_ h_ => h_)) (below_size qB_)); replace f0 := am_ (Kd.V_elder' (by (with_reducible repeat (first | apply Kd.V_alloc | apply Kd.V_drewN | apply Kd.V_drew)); exact f0.out) (Kd.R_base ho0) hb); replace e5 := am_ (Kd.V_elder' (by (with_reducible repeat (first | apply Kd.V_alloc | apply Kd.V_drewN | apply Kd.V_drew)); exact e5.out) (Kd.R_base ho0) hb); replace HB := hs_ hb; (try clear hb); (try clear hb2); (try clear hk); (try clear hi); (try clear ho0); obtain ⟨g7, g8, g1⟩ := Kd.R_slice e1.out; subst g1; have p428 : 0 ≤ (0 : Int) := (by omega); have q428 := dl_ 0 d3.length; obtain ⟨ad428, e428, d6⟩ := Kd.at_int (Kd.R_reads' e1.out).2.2 0 p428 q428; cases e428; have qi428 : (0 < d3.length) = True := eq_true (by omega); (try rw [show ((0 : Int)).toNat = 0 from rfl] at d6); (try rw [Addr.add_zero'] at d6); replace p428 := eq_true p428; replace q428 := eq_true q428))
 go_loopg [6] k (fun kq v6 w' => ∃ (x6_1 : Int), v6 = .int .i64 x6_1 ∧ Aside0 (impl_putTour.l0 kq l0 l1 (rd d3 0) x6_1 = some r) ∧ Aside0 (kq ≤ k) ∧ Aside0 (Kd.V (Kd.slice 3 (Kd.int .i64)) 51 w' w.heap.size (fun k_ => ((P0_ k_ ∨ P1_ k_) ∨ w.heap.size ≤ k_)) (.slice A0 l0.length c0) l0) ∧ Aside0 (Kd.V (Kd.int .i64) 3 w' w.heap.size (fun k_ => ((P0_ k_ ∨ P1_ k_) ∨ w.heap.size ≤ k_)) (.slice A1 l1.length c1) l1) ∧ Aside0 (Below w.heap.size w w'))
 case atStart => exact ⟨(0), qe_, H', ⟨Nat.le_refl _⟩, ⟨by (with_reducible repeat (first | apply Kd.V_alloc | apply Kd.V_drewN | apply Kd.V_drew)); exact Kd.V_mono f0.out (fun _ hk => hk.1)⟩, ⟨by (with_reducible repeat (first | apply Kd.V_alloc | apply Kd.V_drewN | apply Kd.V_drew)); exact Kd.V_mono e5.out (fun _ hk => hk.1)⟩, ⟨qB_⟩⟩
 case round =>
  clear H'
  (try clear c1); (try clear p2); (try clear c4); (try clear c4b0); (try clear c4b1); (try clear p4); (try clear q4); (try clear g9); (try clear qi4); (try clear d6); (try clear p428); (try clear q428)
  obtain ⟨x6_1, rfl, HA, HK1, a0, a1, HB⟩ := hrel
  cases gk with
  | zero => exact absurd HA.out (by simp [impl_putTour.l0])
  | succ k1 =>
   have H := HA.out; clear HA
   simp only [impl_putTour.l0] at H
   by_cases c7 : x6_1 < (l0.length : Int)
   rotate_left
   ·rw [if_neg c7] at H
    have c7b0 := decide_eq_false c7
    clear c7
    by_cases c33 : 0 ≤ x6_1
    rotate_left
    ·rw [if_neg c33] at H
     exact absurd H (by simp)
    rw [if_pos c33] at H
    have c33b0 := eq_true c33
    have c33b1 := decide_eq_true c33
    clear c33
    by_cases c34 : x6_1 ≤ (l0.length : Int)
    rotate_left
    ·rw [if_neg c34] at H
     exact absurd H (by simp)
    rw [if_pos c34] at H
    have c34b0 := eq_true c34
    have c34b1 := decide_eq_true c34
    clear c34
    obtain ⟨c5, hy456⟩ : ∃ y_ : List (List Int), y_ = (l0.take (x6_1 : Int).toNat) := ⟨_, rfl⟩
    replace H : (if ([] : List (List Int)).length + c5.length < 5864062014805 then ((some (([] : List (List Int)) ++ c5 : List (List Int))).bind fun d1 => ((some (([l1] : List (List Int)) : List (List Int))).bind fun b4 => (if d1.length + b4.length < 5864062014805 then ((some (d1 ++ b4 : List (List Int))).bind fun b8 => ((some (l0.drop (x6_1 : Int).toNat : List (List Int))).bind fun a9 => (if b8.length + a9.length < 5864062014805 then (some (b8 ++ a9)) else (none)))) else (none)))) else (none)) = some r := by first | (rw [hy456]; with_reducible exact H) | (have H2_ := (Option.bind_some _ _).symm.trans H; rw [hy456]; with_reducible exact H2_) | (have H2_ := (Option.bind_some _ _).symm.trans H; with_reducible exact H2_) | with_reducible exact H | (rw [hy456]; exact H) | exact H
    have Ny456 := am_ hy456
    clear hy456
    by_cases c35 : ([] : List (List Int)).length + c5.length < 5864062014805
    rotate_left
    ·rw [if_neg c35] at H
     exact absurd H (by simp)
    rw [if_pos c35] at H
    have LMc35 := am_ c35
    clear c35
    obtain ⟨d1, hy461⟩ : ∃ y_ : List (List Int), y_ = (([] : List (List Int)) ++ c5) := ⟨_, rfl⟩
    replace H : ((some (([l1] : List (List Int)) : List (List Int))).bind fun b4 => (if d1.length + b4.length < 5864062014805 then ((some (d1 ++ b4 : List (List Int))).bind fun b8 => ((some (l0.drop (x6_1 : Int).toNat : List (List Int))).bind fun a9 => (if b8.length + a9.length < 5864062014805 then (some (b8 ++ a9)) else (none)))) else (none))) = some r := by first | (rw [hy461]; with_reducible exact H) | (have H2_ := (Option.bind_some _ _).symm.trans H; rw [hy461]; with_reducible exact H2_) | (have H2_ := (Option.bind_some _ _).symm.trans H; with_reducible exact H2_) | with_reducible exact H | (rw [hy461]; exact H) | exact H
    have Ny461 := am_ hy461
    clear hy461
    obtain ⟨b4, hy464⟩ : ∃ y_ : List (List Int), y_ = (([l1] : List (List Int))) := ⟨_, rfl⟩
    replace H : (if d1.length + b4.length < 5864062014805 then ((some (d1 ++ b4 : List (List Int))).bind fun b8 => ((some (l0.drop (x6_1 : Int).toNat : List (List Int))).bind fun a9 => (if b8.length + a9.length < 5864062014805 then (some (b8 ++ a9)) else (none)))) else (none)) = some r := by first | (rw [hy464]; with_reducible exact H) | (have H2_ := (Option.bind_some _ _).symm.trans H; rw [hy464]; with_reducible exact H2_) | (have H2_ := (Option.bind_some _ _).symm.trans H; with_reducible exact H2_) | with_reducible exact H | (rw [hy464]; exact H) | exact H
    have Ny464 := am_ hy464
    clear hy464
    by_cases c36 : d1.length + b4.length < 5864062014805
    rotate_left
    ·rw [if_neg c36] at H
     exact absurd H (by simp)
    rw [if_pos c36] at H
    have LMc36 := am_ c36
    clear c36
    obtain ⟨b8, hy467⟩ : ∃ y_ : List (List Int), y_ = (d1 ++ b4) := ⟨_, rfl⟩
    replace H : ((some (l0.drop (x6_1 : Int).toNat : List (List Int))).bind fun a9 => (if b8.length + a9.length < 5864062014805 then (some (b8 ++ a9)) else (none))) = some r := by first | (rw [hy467]; with_reducible exact H) | (have H2_ := (Option.bind_some _ _).symm.trans H; rw [hy467]; with_reducible exact H2_) | (have H2_ := (Option.bind_some _ _).symm.trans H; with_reducible exact H2_) | with_reducible exact H | (rw [hy467]; exact H) | exact H
    have Ny467 := am_ hy467
    clear hy467
    have c37b0 := eq_true (of_decide_eq_true qa_ : 0 ≤ x6_1)
    have c38b0 := eq_true (of_decide_eq_true qa_ : x6_1 ≤ (l0.length : Int))
    obtain ⟨a9, hy470⟩ : ∃ y_ : List (List Int), y_ = (l0.drop (x6_1 : Int).toNat) := ⟨_, rfl⟩
    replace H : (if b8.length + a9.length < 5864062014805 then (some (b8 ++ a9)) else (none)) = some r := by first | (rw [hy470]; with_reducible exact H) | (have H2_ := (Option.bind_some _ _).symm.trans H; rw [hy470]; with_reducible exact H2_) | (have H2_ := (Option.bind_some _ _).symm.trans H; with_reducible exact H2_) | with_reducible exact H | (rw [hy470]; exact H) | exact H
    have Ny470 := am_ hy470
    clear hy470
    by_cases c39 : b8.length + a9.length < 5864062014805
    rotate_left
    ·rw [if_neg c39] at H
     exact absurd H (by simp)
    rw [if_pos c39] at H
    have LMc39 := am_ c39
    clear c39
    obtain ⟨f1, hy475⟩ : ∃ y_ : List (List Int), y_ = (b8 ++ a9) := ⟨_, rfl⟩
    replace H : (some f1) = some r := by first | (rw [hy475]; with_reducible exact H) | (have H2_ := (Option.bind_some _ _).symm.trans H; rw [hy475]; with_reducible exact H2_) | (have H2_ := (Option.bind_some _ _).symm.trans H; with_reducible exact H2_) | with_reducible exact H | (rw [hy475]; exact H) | exact H
    have Ny475 := am_ hy475
    clear hy475
    obtain rfl := Option.some.inj H
    try go_wp2
    replace a0 := am_ (Kd.V_drew a0.out); replace a1 := am_ (Kd.V_drew a1.out); replace HB := am_ (below_drew1 HB.out)
    have q41 : (x6_1 : Int) ≤ ((l0.length : Int) : Int) := of_decide_eq_true qa_
    obtain ⟨i041, hi041, _, hsz41, _⟩ := info_parts info51
    have hroom41 : l0.length ≤ c0 := (Kd.V_reads' a0.out).2.1
    have hC41 : Kd.F (Kd.slice 3 (Kd.int .i64)) _ _ A0 l0.length l0 := (Kd.V_at (base := w.heap.size) a0.out).2.2
    have hcut41 := cut_to (P := Try.prog) 33 51 .i64 Try.underlying33 hi041 A0 l0.length c0 x6_1 (of_decide_eq_true qa_) q41 hroom41
    have hr41 := Kd.F_take (m := (x6_1 : Int).toNat) hC41 (by omega)
    have hy41 : c5.length = (x6_1 : Int).toNat := (by rw [Ny456.out, List.length_take]; omega)
    rw [← Ny456.out] at hr41
    rw [← hy41] at hcut41
    have a5 := am_ (show Kd.V (Kd.slice 3 (Kd.int .i64)) 51 _ w.heap.size _ (.slice A0 c5.length c0) c5 from Kd.V_mk (by omega) hr41)
    have f6 := am_ (show c5.length ≤ c0 from by omega)
    clear hr41 hC41 hroom41 hi041 hsz41
    have KY41 := am_ hy41
    clear hy41; replace q41 := eq_true q41
    have q42 : (x6_1 : Int) ≤ ((l0.length : Int) : Int) := of_decide_eq_true qa_
    obtain ⟨i042, hi042, _, hsz42, _⟩ := info_parts info51
    have hroom42 : l0.length ≤ c0 := (Kd.V_reads' a0.out).2.1
    have hC42 : Kd.F (Kd.slice 3 (Kd.int .i64)) _ _ A0 l0.length l0 := (Kd.V_at (base := w.heap.size) a0.out).2.2
    have q042 : (0 : Int) ≤ (x6_1 : Int) := of_decide_eq_true qa_
    have hcut42 := cut_from (P := Try.prog) 33 51 .i64 Try.underlying33 hi042 1 hsz42 A0 l0.length c0 x6_1 q042 q42
    have hr42 := Kd.F_cut (m := (x6_1 : Int).toNat) (c := c0) hC42 (by omega) hroom42
    obtain ⟨A42, hA42⟩ : ∃ A1, A1 = (if c0 = (x6_1 : Int).toNat then A0 else (A0 : Option Addr).map (·.add ((x6_1 : Int).toNat * 1))) := ⟨_, rfl⟩
    obtain ⟨c42, hc42⟩ : ∃ c1, c1 = c0 - (x6_1 : Int).toNat := ⟨_, rfl⟩
    have hy42 : a9.length = l0.length - (x6_1 : Int).toNat := (by rw [Ny470.out, List.length_drop] <;> omega)
    rw [show (l0).drop (x6_1 : Int).toNat = a9 from Ny470.out.symm] at hr42
    replace hr42 : Kd.F (Kd.slice 3 (Kd.int .i64)) _ _ A42 a9.length a9 := (by rw [hA42]; exact hr42)
    rw [← hy42, ← hA42, ← hc42] at hcut42
    have a7 := am_ (show Kd.V (Kd.slice 3 (Kd.int .i64)) 51 _ w.heap.size _ (.slice A42 a9.length c42) a9 from Kd.V_mk (by rw [hy42, hc42]; exact Nat.sub_le_sub_right hroom42 _) hr42)
    have f7 := am_ (show a9.length ≤ c42 from by rw [hy42, hc42]; exact Nat.sub_le_sub_right hroom42 _)
    clear hr42 hC42 hroom42 hi042 hsz42 hc42
    have KY42 := am_ hy42
    have KA42 := am_ hA42
    clear hy42 hA42; replace q42 := eq_true q42
    refine start_ (n := 12) (S := fun w' => True) (ds := []) (bm 12 0) (by kernel_rfl) rfl (by kernel_rfl) trivial (fun hHeld => ?_); refine with_tabW impl_putTour.tab5 impl_putTour.bits5 (fun HT_ HW_ => ?_)
    generalize wr.drew = w40 at a0 a1 HB a5 a7 hHeld ⊢
    refine pz_ 0 28 (bm 12 1) ?_; refine pz_ 1 29 (bm 12 3) ?_; refine pz_ 2 30 (bm 12 7) ?_; refine pz_ 4 32 (bm 12 23) ?_; refine pz_ 7 35 (bm 12 151) ?_; refine pz_ 8 36 (bm 12 407) ?_; refine pz_ 9 37 (bm 12 919) ?_
    refine join_ (σ := Value × Value) 3 #[true, true, true, true, true, true, false, true, true, true, false, false] (fun s_ => [(31, s_.1), (33, s_.2)]) (fun s_ w' => (Kd.V (Kd.slice 3 (Kd.int .i64)) 51 w' w.heap.size (fun k_ => ((P0_ k_ ∨ P1_ k_) ∨ w.heap.size ≤ k_) ∧ some k_ ≠ (s_.1 : Value).ownBlock ∧ some k_ ≠ (s_.2 : Value).ownBlock) (.slice A0 c5.length c0) c5) ∧ (Kd.N (Kd.slice 3 (Kd.int .i64)) 51 w' w.heap.size (fun k_ => ((P0_ k_ ∨ P1_ k_) ∨ w.heap.size ≤ k_) ∧ some k_ ≠ (s_.2 : Value).ownBlock) s_.1 d1) ∧ (Kd.N (Kd.slice 3 (Kd.int .i64)) 51 w' w.heap.size (fun k_ => ((P0_ k_ ∨ P1_ k_) ∨ w.heap.size ≤ k_) ∧ some k_ ≠ (s_.1 : Value).ownBlock) s_.2 b4) ∧ (Kd.V (Kd.slice 3 (Kd.int .i64)) 51 w' w.heap.size (fun k_ => ((P0_ k_ ∨ P1_ k_) ∨ w.heap.size ≤ k_) ∧ some k_ ≠ (s_.1 : Value).ownBlock ∧ some k_ ≠ (s_.2 : Value).ownBlock) (.slice A42 a9.length c42) a9) ∧ (Kd.V (Kd.slice 3 (Kd.int .i64)) 51 w' w.heap.size (fun k_ => ((P0_ k_ ∨ P1_ k_) ∨ w.heap.size ≤ k_) ∧ some k_ ≠ (s_.1 : Value).ownBlock ∧ some k_ ≠ (s_.2 : Value).ownBlock) (.slice A0 l0.length c0) l0) ∧ (Kd.V (Kd.int .i64) 3 w' w.heap.size (fun k_ => ((P0_ k_ ∨ P1_ k_) ∨ w.heap.size ≤ k_) ∧ some k_ ≠ (s_.1 : Value).ownBlock ∧ some k_ ≠ (s_.2 : Value).ownBlock) (.slice A1 l1.length c1) l1) ∧ (Below w.heap.size w w')) ?_ ?_
    rotate_left
    ·intro hCont
     refine two_ (i := 3) (j := 5) (Ni := some 31) (Nj := some 33) (bm 12 927) #[true, true, true, false, true, true, false, true, true, true, false, false] rfl rfl rfl rfl (two_of HT_.out (by kernel_rfl)) (by decide) (by decide) (fun K hK => ?_) (fun K hK => ?_)
     ·skip
      refine Kd.N_append_rows_step (Kd.slice 3 (Kd.int .i64)) (w0 := w) w.heap.size rfl (.const (.slice none 0 0)) (.tmp 30) 33 51 (.slice none 0 0) 24 rfl Try.underlying33 info51 rfl (by decide) (by omega) (.slice none 0 0) ([] : List (List Int)) c5 _ _ _ (fun k_ => ((P0_ k_ ∨ P1_ k_) ∨ w.heap.size ≤ k_)) (fun k_ => ((fun k_ => ((P0_ k_ ∨ P1_ k_) ∨ w.heap.size ≤ k_))) k_ ∧ some k_ ≠ (.slice none 0 0 : Value).ownBlock) rfl rfl ?aO ?aR (fun _ hk => hk) ?aF ?aB ?aS ?aL ?_
      (case aR => exact (by skip; exact Kd.V_F (Kd.V_mono (ok' := (fun k_ => ((fun k_ => ((P0_ k_ ∨ P1_ k_) ∨ w.heap.size ≤ k_))) k_ ∧ some k_ ≠ (.slice none 0 0 : Value).ownBlock)) (a5.out) (fun k_ hk => ⟨hk, (by simp [Value.ownBlock])⟩))))
      (case aB => exact qB_)
      (case aF => exact (fun k_ hk => (.inr (Nat.le_trans (below_size qB_) hk))))
      (case aO => exact ((Kd.N_nil _ _ _ _ (fun k_ => ((P0_ k_ ∨ P1_ k_) ∨ w.heap.size ≤ k_)))))
      (case aS => exact (below_size qB_))
      (case aL => have := LMc35.out; omega)
      intro b6 w43 ho hb hg hat
      rw [← Ny461.out] at ho
      have n0_ := am_ (Kd.V_afterv (Kd.V_apart_nil (by (with_reducible repeat (first | apply Kd.V_alloc | apply Kd.V_drewN | apply Kd.V_drew)); exact a0.out)) hg hat)
      have n1_ := am_ (Kd.V_afterv (Kd.V_apart_nil (by (with_reducible repeat (first | apply Kd.V_alloc | apply Kd.V_drewN | apply Kd.V_drew)); exact a1.out)) hg hat)
      have n2_ := am_ (Kd.V_afterv (Kd.V_apart_nil (by (with_reducible repeat (first | apply Kd.V_alloc | apply Kd.V_drewN | apply Kd.V_drew)); exact a5.out)) hg hat)
      have n3_ := am_ (Kd.V_afterv (Kd.V_apart_nil (by (with_reducible repeat (first | apply Kd.V_alloc | apply Kd.V_drewN | apply Kd.V_drew)); exact a7.out)) hg hat)
      have n4_ := am_ (hb)
      have n5_ := am_ (ho)
      clear a0; clear a1; clear a5; clear a7; clear HB; have a0 := n0_; have a1 := n1_; have a5 := n2_; have a7 := n3_; have HB := n4_; have c2 := n5_; clear n0_ n1_ n2_ n3_ n4_ n5_; clear ho hb hg hat
      refine hK.out _ _ trivial (fun hHeld => ?_)
      clear hK K
      refine nm_ 31 ?_
      refine o1_ 5 (some 33) (bm 12 959) (fun K hK => ?_)
      refine Kd.N_lit_step (Kd.slice 3 (Kd.int .i64)) _ 51 ?hg (N' := 33) ?hd (xs := ([l1] : List (List Int))) (inner := [.slice A1 l1.length c1]) (ok := (fun k_ => ((P0_ k_ ∨ P1_ k_) ∨ w.heap.size ≤ k_) ∧ some k_ ≠ (b6 : Value).ownBlock)) (okp := (fun k_ => ((P0_ k_ ∨ P1_ k_) ∨ w.heap.size ≤ k_) ∧ some k_ ≠ (b6 : Value).ownBlock)) ?hr ?hp (fun _ hk => hk) ((show ∀ k_, w43.heap.size ≤ k_ → (fun k_ => ((P0_ k_ ∨ P1_ k_) ∨ w.heap.size ≤ k_) ∧ some k_ ≠ (b6 : Value).ownBlock) k_ from fun k_ hk => ⟨(.inr (Nat.le_trans (below_size qB_) hk)), Kd.fresh' (Kd.N_lt (by (with_reducible repeat (first | apply Kd.N_alloc | apply Kd.N_drewN | apply Kd.N_drew)); exact c2.out)) k_ hk⟩) _ (Nat.le_refl _)) (Below.refl _ _) (Nat.le_refl _) (by simp) ?_; (case hd => rfl); (case hg => rfl); (case hr => first | (go_simp; done) | (go_simp; rfl)); (case hp => exact (Reps.one (show Kd.FK (Kd.slice 3 (Kd.int .i64)) _ _ l1 [.slice A1 l1.length c1] from (Kd.FK_slice_mk (Kd.V_reads' (Kd.V_mono (ok' := (fun k_ => ((P0_ k_ ∨ P1_ k_) ∨ w.heap.size ≤ k_) ∧ some k_ ≠ (b6 : Value).ownBlock)) (a1.out) (fun k_ hk => ⟨hk.1, hk.2⟩))).2.1 (Kd.V_F (Kd.V_mono (ok' := (fun k_ => ((P0_ k_ ∨ P1_ k_) ∨ w.heap.size ≤ k_) ∧ some k_ ≠ (b6 : Value).ownBlock)) (a1.out) (fun k_ hk => ⟨hk.1, hk.2⟩))))) (Reps.none _ _)))
      intro c6 w44 ho45 hb hg_ hnew_
      clear hg_ hnew_
      (first | rw [← Ny464.out] at ho45 | (simp only [Int.reduceToNat] at ho45; rw [← Ny464.out] at ho45))
      have n0_ := am_ (Kd.V_elder' (by (with_reducible repeat (first | apply Kd.V_alloc | apply Kd.V_drewN | apply Kd.V_drew)); exact a0.out) (Kd.N_base ho45) hb)
      have n1_ := am_ (Kd.V_elder' (by (with_reducible repeat (first | apply Kd.V_alloc | apply Kd.V_drewN | apply Kd.V_drew)); exact a1.out) (Kd.N_base ho45) hb)
      have n2_ := am_ (Kd.V_elder' (by (with_reducible repeat (first | apply Kd.V_alloc | apply Kd.V_drewN | apply Kd.V_drew)); exact a5.out) (Kd.N_base ho45) hb)
      have n3_ := am_ (Kd.V_elder' (by (with_reducible repeat (first | apply Kd.V_alloc | apply Kd.V_drewN | apply Kd.V_drew)); exact a7.out) (Kd.N_base ho45) hb)
      have n4_ := am_ (Kd.N_elder' (by (with_reducible repeat (first | apply Kd.N_alloc | apply Kd.N_drewN | apply Kd.N_drew)); exact c2.out) (Kd.N_base ho45) hb)
      have n5_ := am_ (Kd.N_lower ho45 (below_size qB_))
      have n6_ := am_ (below_step qB_ hb)
      clear a0; clear a1; clear a5; clear a7; clear c2; clear HB; have a0 := n0_; have a1 := n1_; have a5 := n2_; have a7 := n3_; have c2 := n4_; have b1 := n5_; have HB := n6_; clear n0_ n1_ n2_ n3_ n4_ n5_ n6_; clear hb ho45
      refine hK.out _ _ trivial (fun hHeld => ?_)
      clear hK K
      refine nm_ 33 ?_
      exact norm_ (by simp only [putAll, Act.put, sA_, sB_, sC_]) (hCont (b6, c6) _ ⟨(by (with_reducible repeat (first | apply Kd.V_alloc | apply Kd.V_drewN | apply Kd.V_drew)); exact Kd.V_mono a5.out (fun _ hk => ⟨hk.1.1, ⟨hk.1.2, hk.2⟩⟩)), (by (with_reducible repeat (first | apply Kd.N_alloc | apply Kd.N_drewN | apply Kd.N_drew)); exact c2.out), (by (with_reducible repeat (first | apply Kd.N_alloc | apply Kd.N_drewN | apply Kd.N_drew)); exact b1.out), (by (with_reducible repeat (first | apply Kd.V_alloc | apply Kd.V_drewN | apply Kd.V_drew)); exact Kd.V_mono a7.out (fun _ hk => ⟨hk.1.1, ⟨hk.1.2, hk.2⟩⟩)), (by (with_reducible repeat (first | apply Kd.V_alloc | apply Kd.V_drewN | apply Kd.V_drew)); exact Kd.V_mono a0.out (fun _ hk => ⟨hk.1.1, ⟨hk.1.2, hk.2⟩⟩)), (by (with_reducible repeat (first | apply Kd.V_alloc | apply Kd.V_drewN | apply Kd.V_drew)); exact Kd.V_mono a1.out (fun _ hk => ⟨hk.1.1, ⟨hk.1.2, hk.2⟩⟩)), qB_⟩)
     skip
     refine Kd.N_lit_step (Kd.slice 3 (Kd.int .i64)) _ 51 ?hg (N' := 33) ?hd (xs := ([l1] : List (List Int))) (inner := [.slice A1 l1.length c1]) (ok := (fun k_ => ((P0_ k_ ∨ P1_ k_) ∨ w.heap.size ≤ k_))) (okp := (fun k_ => ((P0_ k_ ∨ P1_ k_) ∨ w.heap.size ≤ k_))) ?hr ?hp (fun _ hk => hk) ((show ∀ k_, w40.heap.size ≤ k_ → (fun k_ => ((P0_ k_ ∨ P1_ k_) ∨ w.heap.size ≤ k_)) k_ from fun k_ hk => (.inr (Nat.le_trans (below_size qB_) hk))) _ (Nat.le_refl _)) (Below.refl _ _) (Nat.le_refl _) (by simp) ?_; (case hd => rfl); (case hg => rfl); (case hr => first | (go_simp; done) | (go_simp; rfl)); (case hp => exact (Reps.one (show Kd.FK (Kd.slice 3 (Kd.int .i64)) _ _ l1 [.slice A1 l1.length c1] from (Kd.FK_slice_mk (Kd.V_reads' (Kd.V_mono (ok' := (fun k_ => ((P0_ k_ ∨ P1_ k_) ∨ w.heap.size ≤ k_))) (a1.out) (fun k_ hk => hk))).2.1 (Kd.V_F (Kd.V_mono (ok' := (fun k_ => ((P0_ k_ ∨ P1_ k_) ∨ w.heap.size ≤ k_))) (a1.out) (fun k_ hk => hk))))) (Reps.none _ _)))
     intro c6 w43 ho44 hb hg_ hnew_
     clear hg_ hnew_
     (first | rw [← Ny464.out] at ho44 | (simp only [Int.reduceToNat] at ho44; rw [← Ny464.out] at ho44))
     have n0_ := am_ (Kd.V_elder' (by (with_reducible repeat (first | apply Kd.V_alloc | apply Kd.V_drewN | apply Kd.V_drew)); exact a0.out) (Kd.N_base ho44) hb)
     have n1_ := am_ (Kd.V_elder' (by (with_reducible repeat (first | apply Kd.V_alloc | apply Kd.V_drewN | apply Kd.V_drew)); exact a1.out) (Kd.N_base ho44) hb)
     have n2_ := am_ (Kd.V_elder' (by (with_reducible repeat (first | apply Kd.V_alloc | apply Kd.V_drewN | apply Kd.V_drew)); exact a5.out) (Kd.N_base ho44) hb)
     have n3_ := am_ (Kd.V_elder' (by (with_reducible repeat (first | apply Kd.V_alloc | apply Kd.V_drewN | apply Kd.V_drew)); exact a7.out) (Kd.N_base ho44) hb)
     have n4_ := am_ (Kd.N_lower ho44 (below_size qB_))
     have n5_ := am_ (below_step qB_ hb)
     clear a0; clear a1; clear a5; clear a7; clear HB; have a0 := n0_; have a1 := n1_; have a5 := n2_; have a7 := n3_; have b1 := n4_; have HB := n5_; clear n0_ n1_ n2_ n3_ n4_ n5_; clear hb ho44
     refine hK.out _ _ trivial (fun hHeld => ?_)
     clear hK K
     refine nm_ 33 ?_
     refine o1_ 3 (some 31) (bm 12 959) (fun K hK => ?_)
     refine Kd.N_append_rows_step (Kd.slice 3 (Kd.int .i64)) (w0 := w) w.heap.size rfl (.const (.slice none 0 0)) (.tmp 30) 33 51 (.slice none 0 0) 24 rfl Try.underlying33 info51 rfl (by decide) (by omega) (.slice none 0 0) ([] : List (List Int)) c5 _ _ _ (fun k_ => ((P0_ k_ ∨ P1_ k_) ∨ w.heap.size ≤ k_) ∧ some k_ ≠ (c6 : Value).ownBlock) (fun k_ => ((fun k_ => ((P0_ k_ ∨ P1_ k_) ∨ w.heap.size ≤ k_) ∧ some k_ ≠ (c6 : Value).ownBlock)) k_ ∧ some k_ ≠ (.slice none 0 0 : Value).ownBlock) rfl rfl ?aO ?aR (fun _ hk => hk) ?aF ?aB ?aS ?aL ?_
     (case aR => exact (by skip; exact Kd.V_F (Kd.V_mono (ok' := (fun k_ => ((fun k_ => ((P0_ k_ ∨ P1_ k_) ∨ w.heap.size ≤ k_) ∧ some k_ ≠ (c6 : Value).ownBlock)) k_ ∧ some k_ ≠ (.slice none 0 0 : Value).ownBlock)) (a5.out) (fun k_ hk => ⟨⟨hk.1, hk.2⟩, (by simp [Value.ownBlock])⟩))))
     (case aB => exact qB_)
     (case aF => exact (fun k_ hk => ⟨(.inr (Nat.le_trans (below_size qB_) hk)), Kd.fresh' (Kd.N_lt (by (with_reducible repeat (first | apply Kd.N_alloc | apply Kd.N_drewN | apply Kd.N_drew)); exact b1.out)) k_ hk⟩))
     (case aO => exact ((Kd.N_nil _ _ _ _ (fun k_ => ((P0_ k_ ∨ P1_ k_) ∨ w.heap.size ≤ k_) ∧ some k_ ≠ (c6 : Value).ownBlock))))
     (case aS => exact (below_size qB_))
     (case aL => have := LMc35.out; omega)
     intro b6 w45 ho hb hg hat
     rw [← Ny461.out] at ho
     have n0_ := am_ (Kd.V_afterv (Kd.V_apart_nil (by (with_reducible repeat (first | apply Kd.V_alloc | apply Kd.V_drewN | apply Kd.V_drew)); exact a0.out)) hg hat)
     have n1_ := am_ (Kd.V_afterv (Kd.V_apart_nil (by (with_reducible repeat (first | apply Kd.V_alloc | apply Kd.V_drewN | apply Kd.V_drew)); exact a1.out)) hg hat)
     have n2_ := am_ (Kd.V_afterv (Kd.V_apart_nil (by (with_reducible repeat (first | apply Kd.V_alloc | apply Kd.V_drewN | apply Kd.V_drew)); exact a5.out)) hg hat)
     have n3_ := am_ (Kd.V_afterv (Kd.V_apart_nil (by (with_reducible repeat (first | apply Kd.V_alloc | apply Kd.V_drewN | apply Kd.V_drew)); exact a7.out)) hg hat)
     have n4_ := am_ (Kd.N_afterv (Kd.N_apart_nil (by (with_reducible repeat (first | apply Kd.N_alloc | apply Kd.N_drewN | apply Kd.N_drew)); exact b1.out)) hg hat)
     have n5_ := am_ (hb)
     have n6_ := am_ (ho)
     clear a0; clear a1; clear a5; clear a7; clear b1; clear HB; have a0 := n0_; have a1 := n1_; have a5 := n2_; have a7 := n3_; have b1 := n4_; have HB := n5_; have c2 := n6_; clear n0_ n1_ n2_ n3_ n4_ n5_ n6_; clear ho hb hg hat
     refine hK.out _ _ trivial (fun hHeld => ?_)
     clear hK K
     refine nm_ 31 ?_
     exact norm_ (by simp only [putAll, Act.put, sA_, sB_, sC_]) (hCont (b6, c6) _ ⟨(by (with_reducible repeat (first | apply Kd.V_alloc | apply Kd.V_drewN | apply Kd.V_drew)); exact Kd.V_mono a5.out (fun _ hk => ⟨hk.1.1, ⟨hk.2, hk.1.2⟩⟩)), (by (with_reducible repeat (first | apply Kd.N_alloc | apply Kd.N_drewN | apply Kd.N_drew)); exact c2.out), (by (with_reducible repeat (first | apply Kd.N_alloc | apply Kd.N_drewN | apply Kd.N_drew)); exact b1.out), (by (with_reducible repeat (first | apply Kd.V_alloc | apply Kd.V_drewN | apply Kd.V_drew)); exact Kd.V_mono a7.out (fun _ hk => ⟨hk.1.1, ⟨hk.2, hk.1.2⟩⟩)), (by (with_reducible repeat (first | apply Kd.V_alloc | apply Kd.V_drewN | apply Kd.V_drew)); exact Kd.V_mono a0.out (fun _ hk => ⟨hk.1.1, ⟨hk.2, hk.1.2⟩⟩)), (by (with_reducible repeat (first | apply Kd.V_alloc | apply Kd.V_drewN | apply Kd.V_drew)); exact Kd.V_mono a1.out (fun _ hk => ⟨hk.1.1, ⟨hk.2, hk.1.2⟩⟩)), qB_⟩)
    rintro ⟨b6, c6⟩ w46 ⟨h0_, h1_, h2_, h3_, h4_, h5_, h6_⟩
    have n0_ : Aside0 (Kd.V (Kd.slice 3 (Kd.int .i64)) 51 w46 w.heap.size (fun k_ => ((P0_ k_ ∨ P1_ k_) ∨ w.heap.size ≤ k_) ∧ some k_ ≠ (b6 : Value).ownBlock ∧ some k_ ≠ (c6 : Value).ownBlock) (.slice A0 c5.length c0) c5) := ⟨h0_⟩
    have n1_ : Aside0 (Kd.N (Kd.slice 3 (Kd.int .i64)) 51 w46 w.heap.size (fun k_ => ((P0_ k_ ∨ P1_ k_) ∨ w.heap.size ≤ k_) ∧ some k_ ≠ (c6 : Value).ownBlock) b6 d1) := ⟨h1_⟩
    have n2_ : Aside0 (Kd.N (Kd.slice 3 (Kd.int .i64)) 51 w46 w.heap.size (fun k_ => ((P0_ k_ ∨ P1_ k_) ∨ w.heap.size ≤ k_) ∧ some k_ ≠ (b6 : Value).ownBlock) c6 b4) := ⟨h2_⟩
    have n3_ : Aside0 (Kd.V (Kd.slice 3 (Kd.int .i64)) 51 w46 w.heap.size (fun k_ => ((P0_ k_ ∨ P1_ k_) ∨ w.heap.size ≤ k_) ∧ some k_ ≠ (b6 : Value).ownBlock ∧ some k_ ≠ (c6 : Value).ownBlock) (.slice A42 a9.length c42) a9) := ⟨h3_⟩
    have n4_ : Aside0 (Kd.V (Kd.slice 3 (Kd.int .i64)) 51 w46 w.heap.size (fun k_ => ((P0_ k_ ∨ P1_ k_) ∨ w.heap.size ≤ k_) ∧ some k_ ≠ (b6 : Value).ownBlock ∧ some k_ ≠ (c6 : Value).ownBlock) (.slice A0 l0.length c0) l0) := ⟨h4_⟩
    have n5_ : Aside0 (Kd.V (Kd.int .i64) 3 w46 w.heap.size (fun k_ => ((P0_ k_ ∨ P1_ k_) ∨ w.heap.size ≤ k_) ∧ some k_ ≠ (b6 : Value).ownBlock ∧ some k_ ≠ (c6 : Value).ownBlock) (.slice A1 l1.length c1) l1) := ⟨h5_⟩
    have n6_ : Aside0 (Below w.heap.size w w46) := ⟨h6_⟩
    clear a0; clear a1; clear HB; clear h0_ h1_ h2_ h3_ h4_ h5_ h6_; have a5 := n0_; have c2 := n1_; have b1 := n2_; have a7 := n3_; have a0 := n4_; have a1 := n5_; have HB := n6_; clear n0_ n1_ n2_ n3_ n4_ n5_ n6_; have hHeld := trivial
    obtain ⟨d8, d9, e6⟩ := Kd.N_slice b1.out
    (first | subst e6 | (injection e6 with f1_ f2_ f3_; have f4_ := f1_.symm; have f5_ := f3_.symm; clear f1_ f2_ f3_; subst f4_; subst f5_))
    refine norm_ (a' := ?_) ?_ ?_
    rotate_left
    ·simp only [putAll, Act.put, sA_, sB_, sC_]
     rfl
    refine o1_ 6 (some 34) (bm 12 1023) (fun K hK => ?_)
    refine Kd.N_append_rows_step (Kd.slice 3 (Kd.int .i64)) (w0 := w) w.heap.size (by rfl) (.tmp 31) (.tmp 33) 33 51 (.slice none 0 0) 24 rfl Try.underlying33 info51 rfl (by decide) (by omega) b6 d1 b4 _ _ _ (fun k_ => ((P0_ k_ ∨ P1_ k_) ∨ w.heap.size ≤ k_)) (fun k_ => ((fun k_ => ((P0_ k_ ∨ P1_ k_) ∨ w.heap.size ≤ k_))) k_ ∧ some k_ ≠ (b6 : Value).ownBlock) rfl rfl ?aO ?aR (fun _ hk => hk) ?aF ?aB ?aS ?aL ?_
    (case aR => exact (by skip; exact Kd.N_F (Kd.N_mono (ok' := (fun k_ => ((fun k_ => ((P0_ k_ ∨ P1_ k_) ∨ w.heap.size ≤ k_))) k_ ∧ some k_ ≠ (b6 : Value).ownBlock)) (b1.out) (fun k_ hk => ⟨hk.1, hk.2⟩))))
    (case aB => exact qB_)
    (case aF => exact (fun k_ hk => (.inr (Nat.le_trans (below_size qB_) hk))))
    (case aO => exact (by (with_reducible repeat (first | apply Kd.N_alloc | apply Kd.N_drewN | apply Kd.N_drew)); exact Kd.N_mono c2.out (fun _ hk => hk.1)))
    (case aS => exact (below_size qB_))
    (case aL => have := LMc36.out; omega)
    intro e3 w47 ho hb hg hat
    rw [← Ny467.out] at ho
    have n0_ := am_ (Kd.V_afterv (ok := (fun k_ => ((P0_ k_ ∨ P1_ k_) ∨ w.heap.size ≤ k_) ∧ some k_ ≠ (.slice d8 b4.length d9 : Value).ownBlock)) (by (with_reducible repeat (first | apply Kd.V_alloc | apply Kd.V_drewN | apply Kd.V_drew)); exact Kd.V_mono a0.out (fun _ hk => ⟨⟨hk.1, hk.2.2⟩, hk.2.1⟩)) hg hat)
    have n1_ := am_ (Kd.V_afterv (ok := (fun k_ => ((P0_ k_ ∨ P1_ k_) ∨ w.heap.size ≤ k_) ∧ some k_ ≠ (.slice d8 b4.length d9 : Value).ownBlock)) (by (with_reducible repeat (first | apply Kd.V_alloc | apply Kd.V_drewN | apply Kd.V_drew)); exact Kd.V_mono a1.out (fun _ hk => ⟨⟨hk.1, hk.2.2⟩, hk.2.1⟩)) hg hat)
    have n2_ := am_ (Kd.V_afterv (ok := (fun k_ => ((P0_ k_ ∨ P1_ k_) ∨ w.heap.size ≤ k_) ∧ some k_ ≠ (.slice d8 b4.length d9 : Value).ownBlock)) (by (with_reducible repeat (first | apply Kd.V_alloc | apply Kd.V_drewN | apply Kd.V_drew)); exact Kd.V_mono a5.out (fun _ hk => ⟨⟨hk.1, hk.2.2⟩, hk.2.1⟩)) hg hat)
    have n3_ := am_ (Kd.V_afterv (ok := (fun k_ => ((P0_ k_ ∨ P1_ k_) ∨ w.heap.size ≤ k_) ∧ some k_ ≠ (.slice d8 b4.length d9 : Value).ownBlock)) (by (with_reducible repeat (first | apply Kd.V_alloc | apply Kd.V_drewN | apply Kd.V_drew)); exact Kd.V_mono a7.out (fun _ hk => ⟨⟨hk.1, hk.2.2⟩, hk.2.1⟩)) hg hat)
    have n4_ := am_ (Kd.N_afterv (ok := (fun k_ => ((P0_ k_ ∨ P1_ k_) ∨ w.heap.size ≤ k_))) (by (with_reducible repeat (first | apply Kd.N_alloc | apply Kd.N_drewN | apply Kd.N_drew)); exact b1.out) hg hat)
    have n5_ := am_ (hb)
    have n6_ := am_ (ho)
    clear a0; clear a1; clear a5; clear a7; clear b1; clear HB; clear c2; have a0 := n0_; have a1 := n1_; have a5 := n2_; have a7 := n3_; have b1 := n4_; have HB := n5_; have e2 := n6_; clear n0_ n1_ n2_ n3_ n4_ n5_ n6_; clear ho hb hg hat
    refine hK.out _ _ trivial (fun hHeld => ?_)
    clear hK K
    refine nm_ 34 ?_
    refine o1_ 10 (some 38) (bm 12 2047) (fun K hK => ?_)
    refine Kd.N_append_rows_step (Kd.slice 3 (Kd.int .i64)) (w0 := w) w.heap.size (by rfl) (.tmp 34) (.tmp 37) 33 51 (.slice none 0 0) 24 rfl Try.underlying33 info51 rfl (by decide) (by omega) e3 b8 a9 _ _ _ (fun k_ => ((P0_ k_ ∨ P1_ k_) ∨ w.heap.size ≤ k_)) (fun k_ => ((fun k_ => ((P0_ k_ ∨ P1_ k_) ∨ w.heap.size ≤ k_))) k_ ∧ some k_ ≠ (e3 : Value).ownBlock) rfl rfl ?aO ?aR (fun _ hk => hk) ?aF ?aB ?aS ?aL ?_
    (case aR => exact (by skip; exact Kd.V_F (Kd.V_mono (ok' := (fun k_ => ((fun k_ => ((P0_ k_ ∨ P1_ k_) ∨ w.heap.size ≤ k_))) k_ ∧ some k_ ≠ (e3 : Value).ownBlock)) (a7.out) (fun k_ hk => ⟨hk.1.1, hk.2⟩))))
    (case aB => exact qB_)
    (case aF => exact (fun k_ hk => (.inr (Nat.le_trans (below_size qB_) hk))))
    (case aO => exact (by (with_reducible repeat (first | apply Kd.N_alloc | apply Kd.N_drewN | apply Kd.N_drew)); exact e2.out))
    (case aS => exact (below_size qB_))
    (case aL => have := LMc39.out; omega)
    intro g2 w49 ho hb hg hat
    rw [← Ny475.out] at ho
    have n0_ := am_ (Kd.V_afterv (ok := (fun k_ => ((P0_ k_ ∨ P1_ k_) ∨ w.heap.size ≤ k_) ∧ some k_ ≠ (.slice d8 b4.length d9 : Value).ownBlock)) (by (with_reducible repeat (first | apply Kd.V_alloc | apply Kd.V_drewN | apply Kd.V_drew)); exact a0.out) hg hat)
    have n1_ := am_ (Kd.V_afterv (ok := (fun k_ => ((P0_ k_ ∨ P1_ k_) ∨ w.heap.size ≤ k_) ∧ some k_ ≠ (.slice d8 b4.length d9 : Value).ownBlock)) (by (with_reducible repeat (first | apply Kd.V_alloc | apply Kd.V_drewN | apply Kd.V_drew)); exact a1.out) hg hat)
    have n2_ := am_ (Kd.V_afterv (ok := (fun k_ => ((P0_ k_ ∨ P1_ k_) ∨ w.heap.size ≤ k_) ∧ some k_ ≠ (.slice d8 b4.length d9 : Value).ownBlock)) (by (with_reducible repeat (first | apply Kd.V_alloc | apply Kd.V_drewN | apply Kd.V_drew)); exact a5.out) hg hat)
    have n3_ := am_ (Kd.V_afterv (ok := (fun k_ => ((P0_ k_ ∨ P1_ k_) ∨ w.heap.size ≤ k_) ∧ some k_ ≠ (.slice d8 b4.length d9 : Value).ownBlock)) (by (with_reducible repeat (first | apply Kd.V_alloc | apply Kd.V_drewN | apply Kd.V_drew)); exact a7.out) hg hat)
    have n4_ := am_ (Kd.N_afterv (ok := (fun k_ => ((P0_ k_ ∨ P1_ k_) ∨ w.heap.size ≤ k_))) (by (with_reducible repeat (first | apply Kd.N_alloc | apply Kd.N_drewN | apply Kd.N_drew)); exact b1.out) hg hat)
    have n5_ := am_ (hb)
    have n6_ := am_ (ho)
    clear a0; clear a1; clear a5; clear a7; clear b1; clear HB; clear e2; have a0 := n0_; have a1 := n1_; have a5 := n2_; have a7 := n3_; have b1 := n4_; have HB := n5_; have e7 := n6_; clear n0_ n1_ n2_ n3_ n4_ n5_ n6_; clear ho hb hg hat
    refine hK.out _ _ trivial (fun hHeld => ?_)
    clear hK K
    refine nm_ 38 ?_
    refine pz_ 11 4 (bm 12 4095) ?_
    refine done_ (done_of HT_.out (by kernel_rfl)) ?_
    try go_wp2
    go_ret
    exact ⟨_, qr_, by (with_reducible repeat (first | apply Kd.N_alloc | apply Kd.N_drewN | apply Kd.N_drew)); exact e7.out, qB_⟩
   rw [if_pos c7] at H
   have c7b0 := decide_eq_true c7
   clear c7
   by_cases c8 : 0 ≤ x6_1
   rotate_left
   ·rw [if_neg c8] at H
    exact absurd H (by simp)
   rw [if_pos c8] at H
   have c8b0 := decide_eq_true c8
   clear c8
   obtain ⟨a2, A90, H⟩ := Option.bind_eq_some_iff.mp H; have A9 := am_ A90; clear A90
   by_cases c10 : 0 < (a2.length : Int)
   rotate_left
   ·rw [if_neg c10] at H
    exact absurd H (by simp)
   rw [if_pos c10] at H
   have c10b0 := decide_eq_true c10
   have c10b1 : decide (0 < a2.length) = true := decide_eq_true (by omega)
   clear c10
   by_cases c11 : (rd a2 0) < (rd d3 0)
   ·rw [if_pos c11] at H
    have c11b0 := decide_eq_true c11
    clear c11; have H' := am_ H; clear H
    have p429 := dp_ x6_1
    have q429 := dl_ x6_1 l0.length
    obtain ⟨ad429, A429_0, c429_0, e429, d7, hl429_0, hi429_0⟩ := at_L1 (Kd.V_reads' a0.out).2.2 x6_1 p429 q429
    cases e429
    obtain ⟨ce429, hce429, hMe429, hcc429⟩ := Kd.V_get a0.out [] x6_1 p429 (by first | exact q429 | exact of_decide_eq_true qa_ | (have e_ := (Kd.V_reads' a0.out).1; omega))
    obtain ⟨ua429_0, uc429_0, rfl, ul429_0, ge429_0⟩ := Kd.FK_slice_open hMe429
    have hv429_0 := hcc429 0 _ rfl
    rw [Nat.add_zero, show ((Kd.slice 3 (Kd.int .i64))).sz = 1 from rfl, Nat.mul_one] at hv429_0
    replace hv429_0 := Option.some.inj (hv429_0.symm.trans d7)
    injection hv429_0 with hva_ hvn_ hvc_
    rw [hva_] at ge429_0
    rw [hvc_] at ul429_0
    have HL429_0 := am_ (show Kd.V (Kd.int .i64) 3 _ w.heap.size _ _ (rd_L1 l0 x6_1) from Kd.V_mk ul429_0 ge429_0)
    clear hva_ hvn_ hvc_ ge429_0 ul429_0; clear hcc429 hce429
    have HR429_0 := am_ hi429_0
    have HC429_0 := am_ hl429_0
    clear hi429_0 hl429_0; replace p429 := eq_true p429; replace q429 := eq_true q429
    go_wp2_with (first | (go_at_call 106; (with_reducible refine (impl_VertsOf.calls k1 _ _ (rd_L1 l0 x6_1) a2 _ ?side1 ?side2 A9.out).mono ?_); (case side1 => repeat (first | exact (by repeat (first | (with_reducible exact HR429_0.out) | (with_reducible refine Kd.C_alloc ?_ _) | (with_reducible refine Kd.C_drewN ?_ _) | (with_reducible refine Kd.C_drew ?_) | exact HR429_0.out)) | (with_reducible refine Kd.C_alloc ?_ _) | (with_reducible refine Kd.C_drewN ?_ _) | (with_reducible refine Kd.C_drew ?_))); (case side2 => exact HC429_0.out); rintro e w12 ⟨f2, rfl, ho0, hb⟩; have a3 := am_ (Kd.R_lower (Kd.R_newM (M := fun k_ => (w.heap.size ≤ k_)) ho0 (below_size qB_) (fun k_ h_ => h_)) (below_size qB_)); replace a0 := am_ (Kd.V_elder' (by (with_reducible repeat (first | apply Kd.V_alloc | apply Kd.V_drewN | apply Kd.V_drew)); exact a0.out) (Kd.R_base ho0) hb); replace a1 := am_ (Kd.V_elder' (by (with_reducible repeat (first | apply Kd.V_alloc | apply Kd.V_drewN | apply Kd.V_drew)); exact a1.out) (Kd.R_base ho0) hb); replace HL429_0 := am_ (Kd.V_elder' (by (with_reducible repeat (first | apply Kd.V_alloc | apply Kd.V_drewN | apply Kd.V_drew)); exact HL429_0.out) (Kd.R_base ho0) hb); replace HR429_0 := am_ (Kd.C_below (by repeat (first | (with_reducible exact HR429_0.out) | (with_reducible refine Kd.C_alloc ?_ _) | (with_reducible refine Kd.C_drewN ?_ _) | (with_reducible refine Kd.C_drew ?_) | exact HR429_0.out)) hb); replace HB := hs_ hb; (try clear hb); (try clear hb2); (try clear hk); (try clear hi); (try clear ho0); obtain ⟨g3, g4, f3⟩ := Kd.R_slice a3.out; subst f3; have p433 : 0 ≤ (0 : Int) := (by omega); have q433 := dl_ 0 a2.length; obtain ⟨ad433, e433, c9⟩ := Kd.at_int (Kd.R_reads' a3.out).2.2 0 p433 q433; cases e433; have qi433 : (0 < a2.length) = True := eq_true (by omega); (try rw [show ((0 : Int)).toNat = 0 from rfl] at c9); (try rw [Addr.add_zero'] at c9); replace p433 := eq_true p433; replace q433 := eq_true q433))
    go_roundg k1
    case measure => have := HK1.out; omega
    case rel => exact ⟨(wrap64 (x6_1 + 1)), qe_, H', ⟨by have := HK1.out; omega⟩, ⟨by (with_reducible repeat (first | apply Kd.V_alloc | apply Kd.V_drewN | apply Kd.V_drew)); exact Kd.V_mono a0.out (fun _ hk => hk.1)⟩, ⟨by (with_reducible repeat (first | apply Kd.V_alloc | apply Kd.V_drewN | apply Kd.V_drew)); exact Kd.V_mono a1.out (fun _ hk => hk.1)⟩, ⟨qB_⟩⟩
   rw [if_neg c11] at H
   have c11b0 := decide_eq_false c11
   clear c11
   have c14b0 := eq_true (of_decide_eq_true qa_ : 0 ≤ x6_1)
   by_cases c15 : x6_1 ≤ (l0.length : Int)
   rotate_left
   ·rw [if_neg c15] at H
    exact absurd H (by simp)
   rw [if_pos c15] at H
   have c15b0 := eq_true c15
   have c15b1 := decide_eq_true c15
   clear c15
   obtain ⟨d0, hy434⟩ : ∃ y_ : List (List Int), y_ = (l0.take (x6_1 : Int).toNat) := ⟨_, rfl⟩
   replace H : (if ([] : List (List Int)).length + d0.length < 5864062014805 then ((some (([] : List (List Int)) ++ d0 : List (List Int))).bind fun d2 => ((some (([l1] : List (List Int)) : List (List Int))).bind fun b3 => (if d2.length + b3.length < 5864062014805 then ((some (d2 ++ b3 : List (List Int))).bind fun b9 => ((some (l0.drop (x6_1 : Int).toNat : List (List Int))).bind fun b0 => (if b9.length + b0.length < 5864062014805 then (some (b9 ++ b0)) else (none)))) else (none)))) else (none)) = some r := by first | (rw [hy434]; with_reducible exact H) | (have H2_ := (Option.bind_some _ _).symm.trans H; rw [hy434]; with_reducible exact H2_) | (have H2_ := (Option.bind_some _ _).symm.trans H; with_reducible exact H2_) | with_reducible exact H | (rw [hy434]; exact H) | exact H
   have Ny434 := am_ hy434
   clear hy434
   by_cases c16 : ([] : List (List Int)).length + d0.length < 5864062014805
   rotate_left
   ·rw [if_neg c16] at H
    exact absurd H (by simp)
   rw [if_pos c16] at H
   have LMc16 := am_ c16
   clear c16
   obtain ⟨d2, hy439⟩ : ∃ y_ : List (List Int), y_ = (([] : List (List Int)) ++ d0) := ⟨_, rfl⟩
   replace H : ((some (([l1] : List (List Int)) : List (List Int))).bind fun b3 => (if d2.length + b3.length < 5864062014805 then ((some (d2 ++ b3 : List (List Int))).bind fun b9 => ((some (l0.drop (x6_1 : Int).toNat : List (List Int))).bind fun b0 => (if b9.length + b0.length < 5864062014805 then (some (b9 ++ b0)) else (none)))) else (none))) = some r := by first | (rw [hy439]; with_reducible exact H) | (have H2_ := (Option.bind_some _ _).symm.trans H; rw [hy439]; with_reducible exact H2_) | (have H2_ := (Option.bind_some _ _).symm.trans H; with_reducible exact H2_) | with_reducible exact H | (rw [hy439]; exact H) | exact H
   have Ny439 := am_ hy439
   clear hy439
   obtain ⟨b3, hy442⟩ : ∃ y_ : List (List Int), y_ = (([l1] : List (List Int))) := ⟨_, rfl⟩
   replace H : (if d2.length + b3.length < 5864062014805 then ((some (d2 ++ b3 : List (List Int))).bind fun b9 => ((some (l0.drop (x6_1 : Int).toNat : List (List Int))).bind fun b0 => (if b9.length + b0.length < 5864062014805 then (some (b9 ++ b0)) else (none)))) else (none)) = some r := by first | (rw [hy442]; with_reducible exact H) | (have H2_ := (Option.bind_some _ _).symm.trans H; rw [hy442]; with_reducible exact H2_) | (have H2_ := (Option.bind_some _ _).symm.trans H; with_reducible exact H2_) | with_reducible exact H | (rw [hy442]; exact H) | exact H
   have Ny442 := am_ hy442
   clear hy442
   by_cases c17 : d2.length + b3.length < 5864062014805
   rotate_left
   ·rw [if_neg c17] at H
    exact absurd H (by simp)
   rw [if_pos c17] at H
   have LMc17 := am_ c17
   clear c17
   obtain ⟨b9, hy445⟩ : ∃ y_ : List (List Int), y_ = (d2 ++ b3) := ⟨_, rfl⟩
   replace H : ((some (l0.drop (x6_1 : Int).toNat : List (List Int))).bind fun b0 => (if b9.length + b0.length < 5864062014805 then (some (b9 ++ b0)) else (none))) = some r := by first | (rw [hy445]; with_reducible exact H) | (have H2_ := (Option.bind_some _ _).symm.trans H; rw [hy445]; with_reducible exact H2_) | (have H2_ := (Option.bind_some _ _).symm.trans H; with_reducible exact H2_) | with_reducible exact H | (rw [hy445]; exact H) | exact H
   have Ny445 := am_ hy445
   clear hy445
   have c18b0 := eq_true (of_decide_eq_true qa_ : 0 ≤ x6_1)
   have c19b0 := eq_true (of_decide_eq_true qa_ : x6_1 ≤ (l0.length : Int))
   obtain ⟨b0, hy448⟩ : ∃ y_ : List (List Int), y_ = (l0.drop (x6_1 : Int).toNat) := ⟨_, rfl⟩
   replace H : (if b9.length + b0.length < 5864062014805 then (some (b9 ++ b0)) else (none)) = some r := by first | (rw [hy448]; with_reducible exact H) | (have H2_ := (Option.bind_some _ _).symm.trans H; rw [hy448]; with_reducible exact H2_) | (have H2_ := (Option.bind_some _ _).symm.trans H; with_reducible exact H2_) | with_reducible exact H | (rw [hy448]; exact H) | exact H
   have Ny448 := am_ hy448
   clear hy448
   by_cases c20 : b9.length + b0.length < 5864062014805
   rotate_left
   ·rw [if_neg c20] at H
    exact absurd H (by simp)
   rw [if_pos c20] at H
   have LMc20 := am_ c20
   clear c20
   obtain ⟨f4, hy453⟩ : ∃ y_ : List (List Int), y_ = (b9 ++ b0) := ⟨_, rfl⟩
   replace H : (some f4) = some r := by first | (rw [hy453]; with_reducible exact H) | (have H2_ := (Option.bind_some _ _).symm.trans H; rw [hy453]; with_reducible exact H2_) | (have H2_ := (Option.bind_some _ _).symm.trans H; with_reducible exact H2_) | with_reducible exact H | (rw [hy453]; exact H) | exact H
   have Ny453 := am_ hy453
   clear hy453
   obtain rfl := Option.some.inj H
   have p429 := dp_ x6_1
   have q429 := dl_ x6_1 l0.length
   obtain ⟨ad429, A429_0, c429_0, e429, d7, hl429_0, hi429_0⟩ := at_L1 (Kd.V_reads' a0.out).2.2 x6_1 p429 q429
   cases e429
   obtain ⟨ce429, hce429, hMe429, hcc429⟩ := Kd.V_get a0.out [] x6_1 p429 (by first | exact q429 | exact of_decide_eq_true qa_ | (have e_ := (Kd.V_reads' a0.out).1; omega))
   obtain ⟨ua429_0, uc429_0, rfl, ul429_0, ge429_0⟩ := Kd.FK_slice_open hMe429
   have hv429_0 := hcc429 0 _ rfl
   rw [Nat.add_zero, show ((Kd.slice 3 (Kd.int .i64))).sz = 1 from rfl, Nat.mul_one] at hv429_0
   replace hv429_0 := Option.some.inj (hv429_0.symm.trans d7)
   injection hv429_0 with hva_ hvn_ hvc_
   rw [hva_] at ge429_0
   rw [hvc_] at ul429_0
   have HL429_0 := am_ (show Kd.V (Kd.int .i64) 3 _ w.heap.size _ _ (rd_L1 l0 x6_1) from Kd.V_mk ul429_0 ge429_0)
   clear hva_ hvn_ hvc_ ge429_0 ul429_0; clear hcc429 hce429
   have HR429_0 := am_ hi429_0
   have HC429_0 := am_ hl429_0
   clear hi429_0 hl429_0; replace p429 := eq_true p429; replace q429 := eq_true q429
   try go_wp2_with (first | (go_at_call 106; (with_reducible refine (impl_VertsOf.calls k1 _ _ (rd_L1 l0 x6_1) a2 _ ?side1 ?side2 A9.out).mono ?_); (case side1 => repeat (first | exact (by repeat (first | (with_reducible exact HR429_0.out) | (with_reducible refine Kd.C_alloc ?_ _) | (with_reducible refine Kd.C_drewN ?_ _) | (with_reducible refine Kd.C_drew ?_) | exact HR429_0.out)) | (with_reducible refine Kd.C_alloc ?_ _) | (with_reducible refine Kd.C_drewN ?_ _) | (with_reducible refine Kd.C_drew ?_))); (case side2 => exact HC429_0.out); rintro e w21 ⟨f2, rfl, ho0, hb⟩; have a3 := am_ (Kd.R_lower (Kd.R_newM (M := fun k_ => (w.heap.size ≤ k_)) ho0 (below_size qB_) (fun k_ h_ => h_)) (below_size qB_)); replace a0 := am_ (Kd.V_elder' (by (with_reducible repeat (first | apply Kd.V_alloc | apply Kd.V_drewN | apply Kd.V_drew)); exact a0.out) (Kd.R_base ho0) hb); replace a1 := am_ (Kd.V_elder' (by (with_reducible repeat (first | apply Kd.V_alloc | apply Kd.V_drewN | apply Kd.V_drew)); exact a1.out) (Kd.R_base ho0) hb); replace HL429_0 := am_ (Kd.V_elder' (by (with_reducible repeat (first | apply Kd.V_alloc | apply Kd.V_drewN | apply Kd.V_drew)); exact HL429_0.out) (Kd.R_base ho0) hb); replace HR429_0 := am_ (Kd.C_below (by repeat (first | (with_reducible exact HR429_0.out) | (with_reducible refine Kd.C_alloc ?_ _) | (with_reducible refine Kd.C_drewN ?_ _) | (with_reducible refine Kd.C_drew ?_) | exact HR429_0.out)) hb); replace HB := hs_ hb; (try clear hb); (try clear hb2); (try clear hk); (try clear hi); (try clear ho0); obtain ⟨g5, a4, f5⟩ := Kd.R_slice a3.out; subst f5; have p433 : 0 ≤ (0 : Int) := (by omega); have q433 := dl_ 0 a2.length; obtain ⟨ad433, e433, c9⟩ := Kd.at_int (Kd.R_reads' a3.out).2.2 0 p433 q433; cases e433; have qi433 : (0 < a2.length) = True := eq_true (by omega); (try rw [show ((0 : Int)).toNat = 0 from rfl] at c9); (try rw [Addr.add_zero'] at c9); replace p433 := eq_true p433; replace q433 := eq_true q433))
   replace a0 := am_ (Kd.V_drew a0.out); replace a1 := am_ (Kd.V_drew a1.out); replace HL429_0 := am_ (Kd.V_drew HL429_0.out); replace a3 := am_ (Kd.R_drew a3.out); replace HR429_0 := am_ (Kd.C_drew HR429_0.out); replace HB := am_ (below_drew1 HB.out)
   have q24 : (x6_1 : Int) ≤ ((l0.length : Int) : Int) := of_decide_eq_true qa_
   obtain ⟨i024, hi024, _, hsz24, _⟩ := info_parts info51
   have hroom24 : l0.length ≤ c0 := (Kd.V_reads' a0.out).2.1
   have hC24 : Kd.F (Kd.slice 3 (Kd.int .i64)) _ _ (some ad429) l0.length l0 := (Kd.V_at (base := w.heap.size) a0.out).2.2
   have hcut24 := cut_to (P := Try.prog) 33 51 .i64 Try.underlying33 hi024 (some ad429) l0.length c0 x6_1 (of_decide_eq_true qa_) q24 hroom24
   have hr24 := Kd.F_take (m := (x6_1 : Int).toNat) hC24 (by omega)
   have hy24 : d0.length = (x6_1 : Int).toNat := (by rw [Ny434.out, List.length_take]; omega)
   rw [← Ny434.out] at hr24
   rw [← hy24] at hcut24
   have a6 := am_ (show Kd.V (Kd.slice 3 (Kd.int .i64)) 51 _ w.heap.size _ (.slice (some ad429) d0.length c0) d0 from Kd.V_mk (by omega) hr24)
   have f8 := am_ (show d0.length ≤ c0 from by omega)
   clear hr24 hC24 hroom24 hi024 hsz24
   have KY24 := am_ hy24
   clear hy24; replace q24 := eq_true q24
   have q25 : (x6_1 : Int) ≤ ((l0.length : Int) : Int) := of_decide_eq_true qa_
   obtain ⟨i025, hi025, _, hsz25, _⟩ := info_parts info51
   have hroom25 : l0.length ≤ c0 := (Kd.V_reads' a0.out).2.1
   have hC25 : Kd.F (Kd.slice 3 (Kd.int .i64)) _ _ (some ad429) l0.length l0 := (Kd.V_at (base := w.heap.size) a0.out).2.2
   have q025 : (0 : Int) ≤ (x6_1 : Int) := of_decide_eq_true qa_
   have hcut25 := cut_from (P := Try.prog) 33 51 .i64 Try.underlying33 hi025 1 hsz25 (some ad429) l0.length c0 x6_1 q025 q25
   have hr25 := Kd.F_cut (m := (x6_1 : Int).toNat) (c := c0) hC25 (by omega) hroom25
   obtain ⟨A25, hA25⟩ : ∃ A1, A1 = (if c0 = (x6_1 : Int).toNat then (some ad429) else ((some ad429) : Option Addr).map (·.add ((x6_1 : Int).toNat * 1))) := ⟨_, rfl⟩
   obtain ⟨c25, hc25⟩ : ∃ c1, c1 = c0 - (x6_1 : Int).toNat := ⟨_, rfl⟩
   have hy25 : b0.length = l0.length - (x6_1 : Int).toNat := (by rw [Ny448.out, List.length_drop] <;> omega)
   rw [show (l0).drop (x6_1 : Int).toNat = b0 from Ny448.out.symm] at hr25
   replace hr25 : Kd.F (Kd.slice 3 (Kd.int .i64)) _ _ A25 b0.length b0 := (by rw [hA25]; exact hr25)
   rw [← hy25, ← hA25, ← hc25] at hcut25
   have a8 := am_ (show Kd.V (Kd.slice 3 (Kd.int .i64)) 51 _ w.heap.size _ (.slice A25 b0.length c25) b0 from Kd.V_mk (by rw [hy25, hc25]; exact Nat.sub_le_sub_right hroom25 _) hr25)
   have f9 := am_ (show b0.length ≤ c25 from by rw [hy25, hc25]; exact Nat.sub_le_sub_right hroom25 _)
   clear hr25 hC25 hroom25 hi025 hsz25 hc25
   have KY25 := am_ hy25
   have KA25 := am_ hA25
   clear hy25 hA25; replace q25 := eq_true q25
   refine start_ (n := 12) (S := fun w' => True) (ds := []) (bm 12 0) (by kernel_rfl) rfl (by kernel_rfl) trivial (fun hHeld => ?_); refine with_tabW impl_putTour.tab5 impl_putTour.bits5 (fun HT_ HW_ => ?_)
   generalize w21.drew = w23 at a0 a1 HL429_0 a3 HR429_0 HB a6 a8 hHeld ⊢
   refine pz_ 0 28 (bm 12 1) ?_; refine pz_ 1 29 (bm 12 3) ?_; refine pz_ 2 30 (bm 12 7) ?_; refine pz_ 4 32 (bm 12 23) ?_; refine pz_ 7 35 (bm 12 151) ?_; refine pz_ 8 36 (bm 12 407) ?_; refine pz_ 9 37 (bm 12 919) ?_
   refine join_ (σ := Value × Value) 3 #[true, true, true, true, true, true, false, true, true, true, false, false] (fun s_ => [(31, s_.1), (33, s_.2)]) (fun s_ w' => (Kd.V (Kd.int .i64) 3 w' w.heap.size (fun k_ => ((P0_ k_ ∨ P1_ k_) ∨ w.heap.size ≤ k_) ∧ some k_ ≠ (.slice (some ad433) a2.length a4 : Value).ownBlock ∧ some k_ ≠ (s_.1 : Value).ownBlock ∧ some k_ ≠ (s_.2 : Value).ownBlock) (.slice A429_0 (rd_L1 l0 x6_1).length c429_0) (rd_L1 l0 x6_1)) ∧ (Kd.R (Kd.int .i64) 3 w' w.heap.size (fun k_ => (w.heap.size ≤ k_)) (.slice (some ad433) a2.length a4) a2) ∧ (Kd.V (Kd.slice 3 (Kd.int .i64)) 51 w' w.heap.size (fun k_ => ((P0_ k_ ∨ P1_ k_) ∨ w.heap.size ≤ k_) ∧ some k_ ≠ (.slice (some ad433) a2.length a4 : Value).ownBlock ∧ some k_ ≠ (s_.1 : Value).ownBlock ∧ some k_ ≠ (s_.2 : Value).ownBlock) (.slice (some ad429) d0.length c0) d0) ∧ (Kd.N (Kd.slice 3 (Kd.int .i64)) 51 w' w.heap.size (fun k_ => ((P0_ k_ ∨ P1_ k_) ∨ w.heap.size ≤ k_) ∧ some k_ ≠ (.slice (some ad433) a2.length a4 : Value).ownBlock ∧ some k_ ≠ (s_.2 : Value).ownBlock) s_.1 d2) ∧ (Kd.N (Kd.slice 3 (Kd.int .i64)) 51 w' w.heap.size (fun k_ => ((P0_ k_ ∨ P1_ k_) ∨ w.heap.size ≤ k_) ∧ some k_ ≠ (.slice (some ad433) a2.length a4 : Value).ownBlock ∧ some k_ ≠ (s_.1 : Value).ownBlock) s_.2 b3) ∧ (Kd.V (Kd.slice 3 (Kd.int .i64)) 51 w' w.heap.size (fun k_ => ((P0_ k_ ∨ P1_ k_) ∨ w.heap.size ≤ k_) ∧ some k_ ≠ (.slice (some ad433) a2.length a4 : Value).ownBlock ∧ some k_ ≠ (s_.1 : Value).ownBlock ∧ some k_ ≠ (s_.2 : Value).ownBlock) (.slice A25 b0.length c25) b0) ∧ (Kd.V (Kd.slice 3 (Kd.int .i64)) 51 w' w.heap.size (fun k_ => ((P0_ k_ ∨ P1_ k_) ∨ w.heap.size ≤ k_) ∧ some k_ ≠ (.slice (some ad433) a2.length a4 : Value).ownBlock ∧ some k_ ≠ (s_.1 : Value).ownBlock ∧ some k_ ≠ (s_.2 : Value).ownBlock) (.slice (some ad429) l0.length c0) l0) ∧ (Kd.V (Kd.int .i64) 3 w' w.heap.size (fun k_ => ((P0_ k_ ∨ P1_ k_) ∨ w.heap.size ≤ k_) ∧ some k_ ≠ (.slice (some ad433) a2.length a4 : Value).ownBlock ∧ some k_ ≠ (s_.1 : Value).ownBlock ∧ some k_ ≠ (s_.2 : Value).ownBlock) (.slice A1 l1.length c1) l1) ∧ (Below w.heap.size w w')) ?_ ?_
   rotate_left
   ·intro hCont
    refine two_ (i := 3) (j := 5) (Ni := some 31) (Nj := some 33) (bm 12 927) #[true, true, true, false, true, true, false, true, true, true, false, false] rfl rfl rfl rfl (two_of HT_.out (by kernel_rfl)) (by decide) (by decide) (fun K hK => ?_) (fun K hK => ?_)
    ·skip
     refine Kd.N_append_rows_step (Kd.slice 3 (Kd.int .i64)) (w0 := w) w.heap.size rfl (.const (.slice none 0 0)) (.tmp 30) 33 51 (.slice none 0 0) 24 rfl Try.underlying33 info51 rfl (by decide) (by omega) (.slice none 0 0) ([] : List (List Int)) d0 _ _ _ (fun k_ => ((P0_ k_ ∨ P1_ k_) ∨ w.heap.size ≤ k_) ∧ some k_ ≠ (.slice (some ad433) a2.length a4 : Value).ownBlock) (fun k_ => ((fun k_ => ((P0_ k_ ∨ P1_ k_) ∨ w.heap.size ≤ k_) ∧ some k_ ≠ (.slice (some ad433) a2.length a4 : Value).ownBlock)) k_ ∧ some k_ ≠ (.slice none 0 0 : Value).ownBlock) rfl rfl ?aO ?aR (fun _ hk => hk) ?aF ?aB ?aS ?aL ?_
     (case aR => exact (by skip; exact Kd.V_F (Kd.V_mono (ok' := (fun k_ => ((fun k_ => ((P0_ k_ ∨ P1_ k_) ∨ w.heap.size ≤ k_) ∧ some k_ ≠ (.slice (some ad433) a2.length a4 : Value).ownBlock)) k_ ∧ some k_ ≠ (.slice none 0 0 : Value).ownBlock)) (a6.out) (fun k_ hk => ⟨⟨hk.1, hk.2⟩, (by simp [Value.ownBlock])⟩))))
     (case aB => exact qB_)
     (case aF => exact (fun k_ hk => ⟨(.inr (Nat.le_trans (below_size qB_) hk)), Kd.fresh' (Kd.R_lt (qR_ a3)) k_ hk⟩))
     (case aO => exact ((Kd.N_nil _ _ _ _ (fun k_ => ((P0_ k_ ∨ P1_ k_) ∨ w.heap.size ≤ k_) ∧ some k_ ≠ (.slice (some ad433) a2.length a4 : Value).ownBlock))))
     (case aS => exact (below_size qB_))
     (case aL => have := LMc16.out; omega)
     intro b5 w26 ho hb hg hat
     rw [← Ny439.out] at ho
     have n0_ := am_ (Kd.V_afterv (Kd.V_apart_nil (by (with_reducible repeat (first | apply Kd.V_alloc | apply Kd.V_drewN | apply Kd.V_drew)); exact a0.out)) hg hat)
     have n1_ := am_ (Kd.V_afterv (Kd.V_apart_nil (by (with_reducible repeat (first | apply Kd.V_alloc | apply Kd.V_drewN | apply Kd.V_drew)); exact a1.out)) hg hat)
     have n2_ := am_ (Kd.V_afterv (Kd.V_apart_nil (by (with_reducible repeat (first | apply Kd.V_alloc | apply Kd.V_drewN | apply Kd.V_drew)); exact HL429_0.out)) hg hat)
     have n3_ := am_ (Kd.R_grown (qR_ a3) hg (fun _ _ => by simp [Value.ownBlock]))
     have n4_ := am_ (Kd.V_afterv (Kd.V_apart_nil (by (with_reducible repeat (first | apply Kd.V_alloc | apply Kd.V_drewN | apply Kd.V_drew)); exact a6.out)) hg hat)
     have n5_ := am_ (Kd.V_afterv (Kd.V_apart_nil (by (with_reducible repeat (first | apply Kd.V_alloc | apply Kd.V_drewN | apply Kd.V_drew)); exact a8.out)) hg hat)
     have n6_ := am_ (hb)
     have n7_ := am_ (ho)
     clear a0; clear a1; clear HL429_0; clear a3; clear a6; clear a8; clear HB; have a0 := n0_; have a1 := n1_; have HL429_0 := n2_; have a3 := n3_; have a6 := n4_; have a8 := n5_; have HB := n6_; have b7 := n7_; clear n0_ n1_ n2_ n3_ n4_ n5_ n6_ n7_; clear ho hb hg hat
     refine hK.out _ _ trivial (fun hHeld => ?_)
     clear hK K
     refine nm_ 31 ?_
     refine o1_ 5 (some 33) (bm 12 959) (fun K hK => ?_)
     refine Kd.N_lit_step (Kd.slice 3 (Kd.int .i64)) _ 51 ?hg (N' := 33) ?hd (xs := ([l1] : List (List Int))) (inner := [.slice A1 l1.length c1]) (ok := (fun k_ => ((P0_ k_ ∨ P1_ k_) ∨ w.heap.size ≤ k_) ∧ some k_ ≠ (.slice (some ad433) a2.length a4 : Value).ownBlock ∧ some k_ ≠ (b5 : Value).ownBlock)) (okp := (fun k_ => ((P0_ k_ ∨ P1_ k_) ∨ w.heap.size ≤ k_) ∧ some k_ ≠ (.slice (some ad433) a2.length a4 : Value).ownBlock ∧ some k_ ≠ (b5 : Value).ownBlock)) ?hr ?hp (fun _ hk => hk) ((show ∀ k_, w26.heap.size ≤ k_ → (fun k_ => ((P0_ k_ ∨ P1_ k_) ∨ w.heap.size ≤ k_) ∧ some k_ ≠ (.slice (some ad433) a2.length a4 : Value).ownBlock ∧ some k_ ≠ (b5 : Value).ownBlock) k_ from fun k_ hk => ⟨(.inr (Nat.le_trans (below_size qB_) hk)), Kd.fresh' (Kd.R_lt (qR_ a3)) k_ hk, Kd.fresh' (Kd.N_lt (by (with_reducible repeat (first | apply Kd.N_alloc | apply Kd.N_drewN | apply Kd.N_drew)); exact b7.out)) k_ hk⟩) _ (Nat.le_refl _)) (Below.refl _ _) (Nat.le_refl _) (by simp) ?_; (case hd => rfl); (case hg => rfl); (case hr => first | (go_simp; done) | (go_simp; rfl)); (case hp => exact (Reps.one (show Kd.FK (Kd.slice 3 (Kd.int .i64)) _ _ l1 [.slice A1 l1.length c1] from (Kd.FK_slice_mk (Kd.V_reads' (Kd.V_mono (ok' := (fun k_ => ((P0_ k_ ∨ P1_ k_) ∨ w.heap.size ≤ k_) ∧ some k_ ≠ (.slice (some ad433) a2.length a4 : Value).ownBlock ∧ some k_ ≠ (b5 : Value).ownBlock)) (a1.out) (fun k_ hk => ⟨hk.1.1, ⟨hk.1.2, hk.2⟩⟩))).2.1 (Kd.V_F (Kd.V_mono (ok' := (fun k_ => ((P0_ k_ ∨ P1_ k_) ∨ w.heap.size ≤ k_) ∧ some k_ ≠ (.slice (some ad433) a2.length a4 : Value).ownBlock ∧ some k_ ≠ (b5 : Value).ownBlock)) (a1.out) (fun k_ hk => ⟨hk.1.1, ⟨hk.1.2, hk.2⟩⟩))))) (Reps.none _ _)))
     intro c3 w27 ho28 hb hg_ hnew_
     clear hg_ hnew_
     (first | rw [← Ny442.out] at ho28 | (simp only [Int.reduceToNat] at ho28; rw [← Ny442.out] at ho28))
     have n0_ := am_ (Kd.V_elder' (by (with_reducible repeat (first | apply Kd.V_alloc | apply Kd.V_drewN | apply Kd.V_drew)); exact a0.out) (Kd.N_base ho28) hb)
     have n1_ := am_ (Kd.V_elder' (by (with_reducible repeat (first | apply Kd.V_alloc | apply Kd.V_drewN | apply Kd.V_drew)); exact a1.out) (Kd.N_base ho28) hb)
     have n2_ := am_ (Kd.V_elder' (by (with_reducible repeat (first | apply Kd.V_alloc | apply Kd.V_drewN | apply Kd.V_drew)); exact HL429_0.out) (Kd.N_base ho28) hb)
     have n3_ := am_ (Kd.R_below (qR_ a3) hb)
     have n4_ := am_ (Kd.V_elder' (by (with_reducible repeat (first | apply Kd.V_alloc | apply Kd.V_drewN | apply Kd.V_drew)); exact a6.out) (Kd.N_base ho28) hb)
     have n5_ := am_ (Kd.V_elder' (by (with_reducible repeat (first | apply Kd.V_alloc | apply Kd.V_drewN | apply Kd.V_drew)); exact a8.out) (Kd.N_base ho28) hb)
     have n6_ := am_ (Kd.N_elder' (by (with_reducible repeat (first | apply Kd.N_alloc | apply Kd.N_drewN | apply Kd.N_drew)); exact b7.out) (Kd.N_base ho28) hb)
     have n7_ := am_ (Kd.N_lower ho28 (below_size qB_))
     have n8_ := am_ (below_step qB_ hb)
     clear a0; clear a1; clear HL429_0; clear a3; clear a6; clear a8; clear b7; clear HB; have a0 := n0_; have a1 := n1_; have HL429_0 := n2_; have a3 := n3_; have a6 := n4_; have a8 := n5_; have b7 := n6_; have b2 := n7_; have HB := n8_; clear n0_ n1_ n2_ n3_ n4_ n5_ n6_ n7_ n8_; clear hb ho28
     refine hK.out _ _ trivial (fun hHeld => ?_)
     clear hK K
     refine nm_ 33 ?_
     exact norm_ (by simp only [putAll, Act.put, sA_, sB_, sC_]) (hCont (b5, c3) _ ⟨(by (with_reducible repeat (first | apply Kd.V_alloc | apply Kd.V_drewN | apply Kd.V_drew)); exact Kd.V_mono HL429_0.out (fun _ hk => ⟨hk.1.1.1, ⟨hk.1.1.2, ⟨hk.1.2, hk.2⟩⟩⟩)), (by (with_reducible repeat (first | apply Kd.R_alloc | apply Kd.R_drewN | apply Kd.R_drew)); exact Kd.R_mono a3.out (fun _ hk => hk.1)), (by (with_reducible repeat (first | apply Kd.V_alloc | apply Kd.V_drewN | apply Kd.V_drew)); exact Kd.V_mono a6.out (fun _ hk => ⟨hk.1.1.1, ⟨hk.1.1.2, ⟨hk.1.2, hk.2⟩⟩⟩)), (by (with_reducible repeat (first | apply Kd.N_alloc | apply Kd.N_drewN | apply Kd.N_drew)); exact Kd.N_mono b7.out (fun _ hk => ⟨hk.1.1, ⟨hk.1.2, hk.2⟩⟩)), (by (with_reducible repeat (first | apply Kd.N_alloc | apply Kd.N_drewN | apply Kd.N_drew)); exact b2.out), (by (with_reducible repeat (first | apply Kd.V_alloc | apply Kd.V_drewN | apply Kd.V_drew)); exact Kd.V_mono a8.out (fun _ hk => ⟨hk.1.1.1, ⟨hk.1.1.2, ⟨hk.1.2, hk.2⟩⟩⟩)), (by (with_reducible repeat (first | apply Kd.V_alloc | apply Kd.V_drewN | apply Kd.V_drew)); exact Kd.V_mono a0.out (fun _ hk => ⟨hk.1.1.1, ⟨hk.1.1.2, ⟨hk.1.2, hk.2⟩⟩⟩)), (by (with_reducible repeat (first | apply Kd.V_alloc | apply Kd.V_drewN | apply Kd.V_drew)); exact Kd.V_mono a1.out (fun _ hk => ⟨hk.1.1.1, ⟨hk.1.1.2, ⟨hk.1.2, hk.2⟩⟩⟩)), qB_⟩)
    skip
    refine Kd.N_lit_step (Kd.slice 3 (Kd.int .i64)) _ 51 ?hg (N' := 33) ?hd (xs := ([l1] : List (List Int))) (inner := [.slice A1 l1.length c1]) (ok := (fun k_ => ((P0_ k_ ∨ P1_ k_) ∨ w.heap.size ≤ k_) ∧ some k_ ≠ (.slice (some ad433) a2.length a4 : Value).ownBlock)) (okp := (fun k_ => ((P0_ k_ ∨ P1_ k_) ∨ w.heap.size ≤ k_) ∧ some k_ ≠ (.slice (some ad433) a2.length a4 : Value).ownBlock)) ?hr ?hp (fun _ hk => hk) ((show ∀ k_, w23.heap.size ≤ k_ → (fun k_ => ((P0_ k_ ∨ P1_ k_) ∨ w.heap.size ≤ k_) ∧ some k_ ≠ (.slice (some ad433) a2.length a4 : Value).ownBlock) k_ from fun k_ hk => ⟨(.inr (Nat.le_trans (below_size qB_) hk)), Kd.fresh' (Kd.R_lt (qR_ a3)) k_ hk⟩) _ (Nat.le_refl _)) (Below.refl _ _) (Nat.le_refl _) (by simp) ?_; (case hd => rfl); (case hg => rfl); (case hr => first | (go_simp; done) | (go_simp; rfl)); (case hp => exact (Reps.one (show Kd.FK (Kd.slice 3 (Kd.int .i64)) _ _ l1 [.slice A1 l1.length c1] from (Kd.FK_slice_mk (Kd.V_reads' (Kd.V_mono (ok' := (fun k_ => ((P0_ k_ ∨ P1_ k_) ∨ w.heap.size ≤ k_) ∧ some k_ ≠ (.slice (some ad433) a2.length a4 : Value).ownBlock)) (a1.out) (fun k_ hk => ⟨hk.1, hk.2⟩))).2.1 (Kd.V_F (Kd.V_mono (ok' := (fun k_ => ((P0_ k_ ∨ P1_ k_) ∨ w.heap.size ≤ k_) ∧ some k_ ≠ (.slice (some ad433) a2.length a4 : Value).ownBlock)) (a1.out) (fun k_ hk => ⟨hk.1, hk.2⟩))))) (Reps.none _ _)))
    intro c3 w26 ho27 hb hg_ hnew_
    clear hg_ hnew_
    (first | rw [← Ny442.out] at ho27 | (simp only [Int.reduceToNat] at ho27; rw [← Ny442.out] at ho27))
    have n0_ := am_ (Kd.V_elder' (by (with_reducible repeat (first | apply Kd.V_alloc | apply Kd.V_drewN | apply Kd.V_drew)); exact a0.out) (Kd.N_base ho27) hb)
    have n1_ := am_ (Kd.V_elder' (by (with_reducible repeat (first | apply Kd.V_alloc | apply Kd.V_drewN | apply Kd.V_drew)); exact a1.out) (Kd.N_base ho27) hb)
    have n2_ := am_ (Kd.V_elder' (by (with_reducible repeat (first | apply Kd.V_alloc | apply Kd.V_drewN | apply Kd.V_drew)); exact HL429_0.out) (Kd.N_base ho27) hb)
    have n3_ := am_ (Kd.R_below (qR_ a3) hb)
    have n4_ := am_ (Kd.V_elder' (by (with_reducible repeat (first | apply Kd.V_alloc | apply Kd.V_drewN | apply Kd.V_drew)); exact a6.out) (Kd.N_base ho27) hb)
    have n5_ := am_ (Kd.V_elder' (by (with_reducible repeat (first | apply Kd.V_alloc | apply Kd.V_drewN | apply Kd.V_drew)); exact a8.out) (Kd.N_base ho27) hb)
    have n6_ := am_ (Kd.N_lower ho27 (below_size qB_))
    have n7_ := am_ (Kd.C_below (by repeat (first | (with_reducible exact HR429_0.out) | (with_reducible refine Kd.C_alloc ?_ _) | (with_reducible refine Kd.C_drewN ?_ _) | (with_reducible refine Kd.C_drew ?_) | exact HR429_0.out)) hb)
    have n8_ := am_ (below_step qB_ hb)
    clear a0; clear a1; clear HL429_0; clear a3; clear a6; clear a8; clear HR429_0; clear HB; have a0 := n0_; have a1 := n1_; have HL429_0 := n2_; have a3 := n3_; have a6 := n4_; have a8 := n5_; have b2 := n6_; have HR429_0 := n7_; have HB := n8_; clear n0_ n1_ n2_ n3_ n4_ n5_ n6_ n7_ n8_; clear hb ho27
    refine hK.out _ _ trivial (fun hHeld => ?_)
    clear hK K
    refine nm_ 33 ?_
    refine o1_ 3 (some 31) (bm 12 959) (fun K hK => ?_)
    refine Kd.N_append_rows_step (Kd.slice 3 (Kd.int .i64)) (w0 := w) w.heap.size rfl (.const (.slice none 0 0)) (.tmp 30) 33 51 (.slice none 0 0) 24 rfl Try.underlying33 info51 rfl (by decide) (by omega) (.slice none 0 0) ([] : List (List Int)) d0 _ _ _ (fun k_ => ((P0_ k_ ∨ P1_ k_) ∨ w.heap.size ≤ k_) ∧ some k_ ≠ (.slice (some ad433) a2.length a4 : Value).ownBlock ∧ some k_ ≠ (c3 : Value).ownBlock) (fun k_ => ((fun k_ => ((P0_ k_ ∨ P1_ k_) ∨ w.heap.size ≤ k_) ∧ some k_ ≠ (.slice (some ad433) a2.length a4 : Value).ownBlock ∧ some k_ ≠ (c3 : Value).ownBlock)) k_ ∧ some k_ ≠ (.slice none 0 0 : Value).ownBlock) rfl rfl ?aO ?aR (fun _ hk => hk) ?aF ?aB ?aS ?aL ?_
    (case aR => exact (by skip; exact Kd.V_F (Kd.V_mono (ok' := (fun k_ => ((fun k_ => ((P0_ k_ ∨ P1_ k_) ∨ w.heap.size ≤ k_) ∧ some k_ ≠ (.slice (some ad433) a2.length a4 : Value).ownBlock ∧ some k_ ≠ (c3 : Value).ownBlock)) k_ ∧ some k_ ≠ (.slice none 0 0 : Value).ownBlock)) (a6.out) (fun k_ hk => ⟨⟨hk.1.1, ⟨hk.1.2, hk.2⟩⟩, (by simp [Value.ownBlock])⟩))))
    (case aB => exact qB_)
    (case aF => exact (fun k_ hk => ⟨(.inr (Nat.le_trans (below_size qB_) hk)), Kd.fresh' (Kd.R_lt (qR_ a3)) k_ hk, Kd.fresh' (Kd.N_lt (by (with_reducible repeat (first | apply Kd.N_alloc | apply Kd.N_drewN | apply Kd.N_drew)); exact b2.out)) k_ hk⟩))
    (case aO => exact ((Kd.N_nil _ _ _ _ (fun k_ => ((P0_ k_ ∨ P1_ k_) ∨ w.heap.size ≤ k_) ∧ some k_ ≠ (.slice (some ad433) a2.length a4 : Value).ownBlock ∧ some k_ ≠ (c3 : Value).ownBlock))))
    (case aS => exact (below_size qB_))
    (case aL => have := LMc16.out; omega)
    intro b5 w28 ho hb hg hat
    rw [← Ny439.out] at ho
    have n0_ := am_ (Kd.V_afterv (Kd.V_apart_nil (by (with_reducible repeat (first | apply Kd.V_alloc | apply Kd.V_drewN | apply Kd.V_drew)); exact a0.out)) hg hat)
    have n1_ := am_ (Kd.V_afterv (Kd.V_apart_nil (by (with_reducible repeat (first | apply Kd.V_alloc | apply Kd.V_drewN | apply Kd.V_drew)); exact a1.out)) hg hat)
    have n2_ := am_ (Kd.V_afterv (Kd.V_apart_nil (by (with_reducible repeat (first | apply Kd.V_alloc | apply Kd.V_drewN | apply Kd.V_drew)); exact HL429_0.out)) hg hat)
    have n3_ := am_ (Kd.R_grown (qR_ a3) hg (fun _ _ => by simp [Value.ownBlock]))
    have n4_ := am_ (Kd.V_afterv (Kd.V_apart_nil (by (with_reducible repeat (first | apply Kd.V_alloc | apply Kd.V_drewN | apply Kd.V_drew)); exact a6.out)) hg hat)
    have n5_ := am_ (Kd.V_afterv (Kd.V_apart_nil (by (with_reducible repeat (first | apply Kd.V_alloc | apply Kd.V_drewN | apply Kd.V_drew)); exact a8.out)) hg hat)
    have n6_ := am_ (Kd.N_afterv (Kd.N_apart_nil (by (with_reducible repeat (first | apply Kd.N_alloc | apply Kd.N_drewN | apply Kd.N_drew)); exact b2.out)) hg hat)
    have n7_ := am_ (hb)
    have n8_ := am_ (ho)
    clear a0; clear a1; clear HL429_0; clear a3; clear a6; clear a8; clear b2; clear HB; have a0 := n0_; have a1 := n1_; have HL429_0 := n2_; have a3 := n3_; have a6 := n4_; have a8 := n5_; have b2 := n6_; have HB := n7_; have b7 := n8_; clear n0_ n1_ n2_ n3_ n4_ n5_ n6_ n7_ n8_; clear ho hb hg hat
    refine hK.out _ _ trivial (fun hHeld => ?_)
    clear hK K
    refine nm_ 31 ?_
    exact norm_ (by simp only [putAll, Act.put, sA_, sB_, sC_]) (hCont (b5, c3) _ ⟨(by (with_reducible repeat (first | apply Kd.V_alloc | apply Kd.V_drewN | apply Kd.V_drew)); exact Kd.V_mono HL429_0.out (fun _ hk => ⟨hk.1.1.1, ⟨hk.1.1.2, ⟨hk.2, hk.1.2⟩⟩⟩)), (by (with_reducible repeat (first | apply Kd.R_alloc | apply Kd.R_drewN | apply Kd.R_drew)); exact Kd.R_mono a3.out (fun _ hk => hk.1)), (by (with_reducible repeat (first | apply Kd.V_alloc | apply Kd.V_drewN | apply Kd.V_drew)); exact Kd.V_mono a6.out (fun _ hk => ⟨hk.1.1.1, ⟨hk.1.1.2, ⟨hk.2, hk.1.2⟩⟩⟩)), (by (with_reducible repeat (first | apply Kd.N_alloc | apply Kd.N_drewN | apply Kd.N_drew)); exact b7.out), (by (with_reducible repeat (first | apply Kd.N_alloc | apply Kd.N_drewN | apply Kd.N_drew)); exact Kd.N_mono b2.out (fun _ hk => ⟨hk.1.1, ⟨hk.1.2, hk.2⟩⟩)), (by (with_reducible repeat (first | apply Kd.V_alloc | apply Kd.V_drewN | apply Kd.V_drew)); exact Kd.V_mono a8.out (fun _ hk => ⟨hk.1.1.1, ⟨hk.1.1.2, ⟨hk.2, hk.1.2⟩⟩⟩)), (by (with_reducible repeat (first | apply Kd.V_alloc | apply Kd.V_drewN | apply Kd.V_drew)); exact Kd.V_mono a0.out (fun _ hk => ⟨hk.1.1.1, ⟨hk.1.1.2, ⟨hk.2, hk.1.2⟩⟩⟩)), (by (with_reducible repeat (first | apply Kd.V_alloc | apply Kd.V_drewN | apply Kd.V_drew)); exact Kd.V_mono a1.out (fun _ hk => ⟨hk.1.1.1, ⟨hk.1.1.2, ⟨hk.2, hk.1.2⟩⟩⟩)), qB_⟩)
   rintro ⟨b5, c3⟩ w29 ⟨h0_, h1_, h2_, h3_, h4_, h5_, h6_, h7_, h8_⟩
   have n0_ : Aside0 (Kd.V (Kd.int .i64) 3 w29 w.heap.size (fun k_ => ((P0_ k_ ∨ P1_ k_) ∨ w.heap.size ≤ k_) ∧ some k_ ≠ (.slice (some ad433) a2.length a4 : Value).ownBlock ∧ some k_ ≠ (b5 : Value).ownBlock ∧ some k_ ≠ (c3 : Value).ownBlock) (.slice A429_0 (rd_L1 l0 x6_1).length c429_0) (rd_L1 l0 x6_1)) := ⟨h0_⟩
   have n1_ : Aside0 (Kd.R (Kd.int .i64) 3 w29 w.heap.size (fun k_ => (w.heap.size ≤ k_)) (.slice (some ad433) a2.length a4) a2) := ⟨h1_⟩
   have n2_ : Aside0 (Kd.V (Kd.slice 3 (Kd.int .i64)) 51 w29 w.heap.size (fun k_ => ((P0_ k_ ∨ P1_ k_) ∨ w.heap.size ≤ k_) ∧ some k_ ≠ (.slice (some ad433) a2.length a4 : Value).ownBlock ∧ some k_ ≠ (b5 : Value).ownBlock ∧ some k_ ≠ (c3 : Value).ownBlock) (.slice (some ad429) d0.length c0) d0) := ⟨h2_⟩
   have n3_ : Aside0 (Kd.N (Kd.slice 3 (Kd.int .i64)) 51 w29 w.heap.size (fun k_ => ((P0_ k_ ∨ P1_ k_) ∨ w.heap.size ≤ k_) ∧ some k_ ≠ (.slice (some ad433) a2.length a4 : Value).ownBlock ∧ some k_ ≠ (c3 : Value).ownBlock) b5 d2) := ⟨h3_⟩
   have n4_ : Aside0 (Kd.N (Kd.slice 3 (Kd.int .i64)) 51 w29 w.heap.size (fun k_ => ((P0_ k_ ∨ P1_ k_) ∨ w.heap.size ≤ k_) ∧ some k_ ≠ (.slice (some ad433) a2.length a4 : Value).ownBlock ∧ some k_ ≠ (b5 : Value).ownBlock) c3 b3) := ⟨h4_⟩
   have n5_ : Aside0 (Kd.V (Kd.slice 3 (Kd.int .i64)) 51 w29 w.heap.size (fun k_ => ((P0_ k_ ∨ P1_ k_) ∨ w.heap.size ≤ k_) ∧ some k_ ≠ (.slice (some ad433) a2.length a4 : Value).ownBlock ∧ some k_ ≠ (b5 : Value).ownBlock ∧ some k_ ≠ (c3 : Value).ownBlock) (.slice A25 b0.length c25) b0) := ⟨h5_⟩
   have n6_ : Aside0 (Kd.V (Kd.slice 3 (Kd.int .i64)) 51 w29 w.heap.size (fun k_ => ((P0_ k_ ∨ P1_ k_) ∨ w.heap.size ≤ k_) ∧ some k_ ≠ (.slice (some ad433) a2.length a4 : Value).ownBlock ∧ some k_ ≠ (b5 : Value).ownBlock ∧ some k_ ≠ (c3 : Value).ownBlock) (.slice (some ad429) l0.length c0) l0) := ⟨h6_⟩
   have n7_ : Aside0 (Kd.V (Kd.int .i64) 3 w29 w.heap.size (fun k_ => ((P0_ k_ ∨ P1_ k_) ∨ w.heap.size ≤ k_) ∧ some k_ ≠ (.slice (some ad433) a2.length a4 : Value).ownBlock ∧ some k_ ≠ (b5 : Value).ownBlock ∧ some k_ ≠ (c3 : Value).ownBlock) (.slice A1 l1.length c1) l1) := ⟨h7_⟩
   have n8_ : Aside0 (Below w.heap.size w w29) := ⟨h8_⟩
   clear a0; clear a1; clear HL429_0; clear a3; clear HR429_0; clear HB; clear h0_ h1_ h2_ h3_ h4_ h5_ h6_ h7_ h8_; have HL429_0 := n0_; have a3 := n1_; have a6 := n2_; have b7 := n3_; have b2 := n4_; have a8 := n5_; have a0 := n6_; have a1 := n7_; have HB := n8_; clear n0_ n1_ n2_ n3_ n4_ n5_ n6_ n7_ n8_; have hHeld := trivial
   obtain ⟨d4, d5, e8⟩ := Kd.N_slice b2.out
   (first | subst e8 | (injection e8 with f1_ f2_ f3_; have f4_ := f1_.symm; have f5_ := f3_.symm; clear f1_ f2_ f3_; subst f4_; subst f5_))
   refine norm_ (a' := ?_) ?_ ?_
   rotate_left
   ·simp only [putAll, Act.put, sA_, sB_, sC_]
    rfl
   refine o1_ 6 (some 34) (bm 12 1023) (fun K hK => ?_)
   refine Kd.N_append_rows_step (Kd.slice 3 (Kd.int .i64)) (w0 := w) w.heap.size (by rfl) (.tmp 31) (.tmp 33) 33 51 (.slice none 0 0) 24 rfl Try.underlying33 info51 rfl (by decide) (by omega) b5 d2 b3 _ _ _ (fun k_ => ((P0_ k_ ∨ P1_ k_) ∨ w.heap.size ≤ k_) ∧ some k_ ≠ (.slice (some ad433) a2.length a4 : Value).ownBlock) (fun k_ => ((fun k_ => ((P0_ k_ ∨ P1_ k_) ∨ w.heap.size ≤ k_) ∧ some k_ ≠ (.slice (some ad433) a2.length a4 : Value).ownBlock)) k_ ∧ some k_ ≠ (b5 : Value).ownBlock) rfl rfl ?aO ?aR (fun _ hk => hk) ?aF ?aB ?aS ?aL ?_
   (case aR => exact (by skip; exact Kd.N_F (Kd.N_mono (ok' := (fun k_ => ((fun k_ => ((P0_ k_ ∨ P1_ k_) ∨ w.heap.size ≤ k_) ∧ some k_ ≠ (.slice (some ad433) a2.length a4 : Value).ownBlock)) k_ ∧ some k_ ≠ (b5 : Value).ownBlock)) (b2.out) (fun k_ hk => ⟨⟨hk.1, hk.2.1⟩, hk.2.2⟩))))
   (case aB => exact qB_)
   (case aF => exact (fun k_ hk => ⟨(.inr (Nat.le_trans (below_size qB_) hk)), Kd.fresh' (Kd.R_lt (qR_ a3)) k_ hk⟩))
   (case aO => exact (by (with_reducible repeat (first | apply Kd.N_alloc | apply Kd.N_drewN | apply Kd.N_drew)); exact Kd.N_mono b7.out (fun _ hk => ⟨hk.1, hk.2.1⟩)))
   (case aS => exact (below_size qB_))
   (case aL => have := LMc17.out; omega)
   intro e4 w30 ho hb hg hat
   rw [← Ny445.out] at ho
   have n0_ := am_ (Kd.V_afterv (ok := (fun k_ => ((P0_ k_ ∨ P1_ k_) ∨ w.heap.size ≤ k_) ∧ some k_ ≠ (.slice (some ad433) a2.length a4 : Value).ownBlock ∧ some k_ ≠ (.slice d4 b3.length d5 : Value).ownBlock)) (by (with_reducible repeat (first | apply Kd.V_alloc | apply Kd.V_drewN | apply Kd.V_drew)); exact Kd.V_mono a0.out (fun _ hk => ⟨⟨hk.1, ⟨hk.2.1, hk.2.2.2⟩⟩, hk.2.2.1⟩)) hg hat)
   have n1_ := am_ (Kd.V_afterv (ok := (fun k_ => ((P0_ k_ ∨ P1_ k_) ∨ w.heap.size ≤ k_) ∧ some k_ ≠ (.slice (some ad433) a2.length a4 : Value).ownBlock ∧ some k_ ≠ (.slice d4 b3.length d5 : Value).ownBlock)) (by (with_reducible repeat (first | apply Kd.V_alloc | apply Kd.V_drewN | apply Kd.V_drew)); exact Kd.V_mono a1.out (fun _ hk => ⟨⟨hk.1, ⟨hk.2.1, hk.2.2.2⟩⟩, hk.2.2.1⟩)) hg hat)
   have n2_ := am_ (Kd.V_afterv (ok := (fun k_ => ((P0_ k_ ∨ P1_ k_) ∨ w.heap.size ≤ k_) ∧ some k_ ≠ (.slice (some ad433) a2.length a4 : Value).ownBlock ∧ some k_ ≠ (.slice d4 b3.length d5 : Value).ownBlock)) (by (with_reducible repeat (first | apply Kd.V_alloc | apply Kd.V_drewN | apply Kd.V_drew)); exact Kd.V_mono HL429_0.out (fun _ hk => ⟨⟨hk.1, ⟨hk.2.1, hk.2.2.2⟩⟩, hk.2.2.1⟩)) hg hat)
   have n3_ := am_ (Kd.R_over' (qR_ a3) (Kd.N_typed (by (with_reducible repeat (first | apply Kd.N_alloc | apply Kd.N_drewN | apply Kd.N_drew)); exact b7.out)) (by decide) hg)
   have n4_ := am_ (Kd.V_afterv (ok := (fun k_ => ((P0_ k_ ∨ P1_ k_) ∨ w.heap.size ≤ k_) ∧ some k_ ≠ (.slice (some ad433) a2.length a4 : Value).ownBlock ∧ some k_ ≠ (.slice d4 b3.length d5 : Value).ownBlock)) (by (with_reducible repeat (first | apply Kd.V_alloc | apply Kd.V_drewN | apply Kd.V_drew)); exact Kd.V_mono a6.out (fun _ hk => ⟨⟨hk.1, ⟨hk.2.1, hk.2.2.2⟩⟩, hk.2.2.1⟩)) hg hat)
   have n5_ := am_ (Kd.V_afterv (ok := (fun k_ => ((P0_ k_ ∨ P1_ k_) ∨ w.heap.size ≤ k_) ∧ some k_ ≠ (.slice (some ad433) a2.length a4 : Value).ownBlock ∧ some k_ ≠ (.slice d4 b3.length d5 : Value).ownBlock)) (by (with_reducible repeat (first | apply Kd.V_alloc | apply Kd.V_drewN | apply Kd.V_drew)); exact Kd.V_mono a8.out (fun _ hk => ⟨⟨hk.1, ⟨hk.2.1, hk.2.2.2⟩⟩, hk.2.2.1⟩)) hg hat)
   have n6_ := am_ (Kd.N_afterv (ok := (fun k_ => ((P0_ k_ ∨ P1_ k_) ∨ w.heap.size ≤ k_) ∧ some k_ ≠ (.slice (some ad433) a2.length a4 : Value).ownBlock)) (by (with_reducible repeat (first | apply Kd.N_alloc | apply Kd.N_drewN | apply Kd.N_drew)); exact Kd.N_mono b2.out (fun _ hk => ⟨⟨hk.1, hk.2.1⟩, hk.2.2⟩)) hg hat)
   have n7_ := am_ (hb)
   have n8_ := am_ (ho)
   clear a0; clear a1; clear HL429_0; clear a3; clear a6; clear a8; clear b2; clear HB; clear b7; have a0 := n0_; have a1 := n1_; have HL429_0 := n2_; have a3 := n3_; have a6 := n4_; have a8 := n5_; have b2 := n6_; have HB := n7_; have e0 := n8_; clear n0_ n1_ n2_ n3_ n4_ n5_ n6_ n7_ n8_; clear ho hb hg hat
   refine hK.out _ _ trivial (fun hHeld => ?_)
   clear hK K
   refine nm_ 34 ?_
   refine o1_ 10 (some 38) (bm 12 2047) (fun K hK => ?_)
   refine Kd.N_append_rows_step (Kd.slice 3 (Kd.int .i64)) (w0 := w) w.heap.size (by rfl) (.tmp 34) (.tmp 37) 33 51 (.slice none 0 0) 24 rfl Try.underlying33 info51 rfl (by decide) (by omega) e4 b9 b0 _ _ _ (fun k_ => ((P0_ k_ ∨ P1_ k_) ∨ w.heap.size ≤ k_) ∧ some k_ ≠ (.slice (some ad433) a2.length a4 : Value).ownBlock) (fun k_ => ((fun k_ => ((P0_ k_ ∨ P1_ k_) ∨ w.heap.size ≤ k_) ∧ some k_ ≠ (.slice (some ad433) a2.length a4 : Value).ownBlock)) k_ ∧ some k_ ≠ (e4 : Value).ownBlock) rfl rfl ?aO ?aR (fun _ hk => hk) ?aF ?aB ?aS ?aL ?_
   (case aR => exact (by skip; exact Kd.V_F (Kd.V_mono (ok' := (fun k_ => ((fun k_ => ((P0_ k_ ∨ P1_ k_) ∨ w.heap.size ≤ k_) ∧ some k_ ≠ (.slice (some ad433) a2.length a4 : Value).ownBlock)) k_ ∧ some k_ ≠ (e4 : Value).ownBlock)) (a8.out) (fun k_ hk => ⟨⟨hk.1.1, hk.1.2.1⟩, hk.2⟩))))
   (case aB => exact qB_)
   (case aF => exact (fun k_ hk => ⟨(.inr (Nat.le_trans (below_size qB_) hk)), Kd.fresh' (Kd.R_lt (qR_ a3)) k_ hk⟩))
   (case aO => exact (by (with_reducible repeat (first | apply Kd.N_alloc | apply Kd.N_drewN | apply Kd.N_drew)); exact e0.out))
   (case aS => exact (below_size qB_))
   (case aL => have := LMc20.out; omega)
   intro g6 w32 ho hb hg hat
   rw [← Ny453.out] at ho
   have n0_ := am_ (Kd.V_afterv (ok := (fun k_ => ((P0_ k_ ∨ P1_ k_) ∨ w.heap.size ≤ k_) ∧ some k_ ≠ (.slice (some ad433) a2.length a4 : Value).ownBlock ∧ some k_ ≠ (.slice d4 b3.length d5 : Value).ownBlock)) (by (with_reducible repeat (first | apply Kd.V_alloc | apply Kd.V_drewN | apply Kd.V_drew)); exact a0.out) hg hat)
   have n1_ := am_ (Kd.V_afterv (ok := (fun k_ => ((P0_ k_ ∨ P1_ k_) ∨ w.heap.size ≤ k_) ∧ some k_ ≠ (.slice (some ad433) a2.length a4 : Value).ownBlock ∧ some k_ ≠ (.slice d4 b3.length d5 : Value).ownBlock)) (by (with_reducible repeat (first | apply Kd.V_alloc | apply Kd.V_drewN | apply Kd.V_drew)); exact a1.out) hg hat)
   have n2_ := am_ (Kd.V_afterv (ok := (fun k_ => ((P0_ k_ ∨ P1_ k_) ∨ w.heap.size ≤ k_) ∧ some k_ ≠ (.slice (some ad433) a2.length a4 : Value).ownBlock ∧ some k_ ≠ (.slice d4 b3.length d5 : Value).ownBlock)) (by (with_reducible repeat (first | apply Kd.V_alloc | apply Kd.V_drewN | apply Kd.V_drew)); exact HL429_0.out) hg hat)
   have n3_ := am_ (Kd.R_over' (qR_ a3) (Kd.N_typed (by (with_reducible repeat (first | apply Kd.N_alloc | apply Kd.N_drewN | apply Kd.N_drew)); exact e0.out)) (by decide) hg)
   have n4_ := am_ (Kd.V_afterv (ok := (fun k_ => ((P0_ k_ ∨ P1_ k_) ∨ w.heap.size ≤ k_) ∧ some k_ ≠ (.slice (some ad433) a2.length a4 : Value).ownBlock ∧ some k_ ≠ (.slice d4 b3.length d5 : Value).ownBlock)) (by (with_reducible repeat (first | apply Kd.V_alloc | apply Kd.V_drewN | apply Kd.V_drew)); exact a6.out) hg hat)
   have n5_ := am_ (Kd.V_afterv (ok := (fun k_ => ((P0_ k_ ∨ P1_ k_) ∨ w.heap.size ≤ k_) ∧ some k_ ≠ (.slice (some ad433) a2.length a4 : Value).ownBlock ∧ some k_ ≠ (.slice d4 b3.length d5 : Value).ownBlock)) (by (with_reducible repeat (first | apply Kd.V_alloc | apply Kd.V_drewN | apply Kd.V_drew)); exact a8.out) hg hat)
   have n6_ := am_ (Kd.N_afterv (ok := (fun k_ => ((P0_ k_ ∨ P1_ k_) ∨ w.heap.size ≤ k_) ∧ some k_ ≠ (.slice (some ad433) a2.length a4 : Value).ownBlock)) (by (with_reducible repeat (first | apply Kd.N_alloc | apply Kd.N_drewN | apply Kd.N_drew)); exact b2.out) hg hat)
   have n7_ := am_ (hb)
   have n8_ := am_ (ho)
   clear a0; clear a1; clear HL429_0; clear a3; clear a6; clear a8; clear b2; clear HB; clear e0; have a0 := n0_; have a1 := n1_; have HL429_0 := n2_; have a3 := n3_; have a6 := n4_; have a8 := n5_; have b2 := n6_; have HB := n7_; have e9 := n8_; clear n0_ n1_ n2_ n3_ n4_ n5_ n6_ n7_ n8_; clear ho hb hg hat
   refine hK.out _ _ trivial (fun hHeld => ?_)
   clear hK K
   refine nm_ 38 ?_
   refine pz_ 11 4 (bm 12 4095) ?_
   refine done_ (done_of HT_.out (by kernel_rfl)) ?_
   try go_wp2
   go_ret
   exact ⟨_, qr_, by (with_reducible repeat (first | apply Kd.N_alloc | apply Kd.N_drewN | apply Kd.N_drew)); exact Kd.N_mono e9.out (fun _ hk => hk.1), qB_⟩
end Go.Proofs.Ytbkklafkoegdpaa.QFnExactLink
