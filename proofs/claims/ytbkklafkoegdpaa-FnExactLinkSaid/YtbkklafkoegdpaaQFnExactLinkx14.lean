import Derived.Test.YtbkklafkoegdpaaQFnExactLinkx10
namespace Go.Proofs.Ytbkklafkoegdpaa.QFnExactLink
open Go.RowKit Go.Proofs.YtbkklafkoegdpaaW.PrintWords Go.Proofs.YtbkklafkoegdpaaW.PrintLast Go.Proofs.YtbkklafkoegdpaaW.PrintMore
set_option linter.unusedVariables false
set_option linter.unusedSimpArgs false
def impl_placeOf.l0 : Nat → Int → List Int → Int → Int → Option (Int)
  | 0, _, _, _, _ => none
  | k + 1, x1, x7, x8, x9 => if x9 < x8 then (if 0 ≤ x9 then (if x9 < (x7.length : Int) then (if (rd x7 x9) = x1 then (some x9) else (impl_placeOf.l0 k x1 x7 x8 (wrap64 (x9 + 1)))) else (none)) else (none)) else (some (-1))
def impl_placeOf.f (k : Nat) (l0 : List Int) (a1 : Int) : Option (Int) := impl_placeOf.l0 k a1 l0 (l0.length : Int) 0
theorem impl_placeOf.mono_l : ∀ k, (∀ y0 y1 y2 y3, LeO (impl_placeOf.l0 k y0 y1 y2 y3) (impl_placeOf.l0 (k + 1) y0 y1 y2 y3))
  | 0 => fun _ _ _ _ r h => by simp [impl_placeOf.l0] at h
  | k + 1 => by
    have ih0 := impl_placeOf.mono_l k
    · intro y0 y1 y2 y3
      unfold impl_placeOf.l0
      repeat' first | (with_reducible first | exact ih0 _ _ _ _ | exact LeO.refl _ | exact LeO.none _ | refine LeO.ite ?_ ?_ | refine LeO.bind ?_ (fun _ => ?_)) | exact LeO.none _ | refine LeO.ite ?_ ?_ | refine LeO.bind ?_ (fun _ => ?_)
theorem impl_placeOf.mono : ∀ a0 a1 k, LeO (impl_placeOf.f k a0 a1) (impl_placeOf.f (k + 1) a0 a1) := by
  intro a0 a1 k
  have ih0 := impl_placeOf.mono_l k
  unfold impl_placeOf.f
  repeat' first | (with_reducible first | exact ih0 _ _ _ _ | exact LeO.refl _ | exact LeO.none _ | refine LeO.ite ?_ ?_ | refine LeO.bind ?_ (fun _ => ?_)) | exact LeO.none _ | refine LeO.ite ?_ ?_ | refine LeO.bind ?_ (fun _ => ?_)
set_option maxHeartbeats 8000000 in
set_option maxRecDepth 100000 in
theorem impl_placeOf.calls (k : Nat) (A0 : Option Addr) (c0 : Nat) (l0 : List Int) (a1 : Int) (r : Int) (w : World) (hr0 : Kd.C (Kd.int .i64) w A0 l0.length l0) (hc0 : l0.length ≤ c0) (h : impl_placeOf.f k l0 a1 = some r) :
  Calls Try.prog 126 #[.slice A0 l0.length c0, .int .i64 a1] w fun e w' => e = .returned (.int .i64 r) ∧ Drawn0 w w' := by
 have a2 := am_ hr0
 have a3 := am_ hc0
 clear hr0 hc0
 have H : (impl_placeOf.l0 k a1 l0 (l0.length : Int) 0) = some r := h
 clear h; have H' := am_ H; clear H
 go_enter Try.func126, Try.ntmps126
 go_wp2
 go_loopg [9] k (fun kq v9 w' => ∃ (x9_1 : Int), v9 = .int .i64 x9_1 ∧ Aside0 (impl_placeOf.l0 kq a1 l0 (l0.length : Int) x9_1 = some r) ∧ Aside0 (kq ≤ k) ∧ Drawn0 w w')
 case atStart => exact ⟨(0), qe_, H', ⟨Nat.le_refl _⟩, by repeat (first | exact Drawn0.refl _ | apply Drawn0.step)⟩
 case round =>
  clear H'
  (try clear c1); (try clear p2)
  obtain ⟨x9_1, rfl, HA, HK1, ⟨m1, rfl⟩⟩ := hrel
  cases gk with
  | zero => exact absurd HA.out (by simp [impl_placeOf.l0])
  | succ k1 =>
   have H := HA.out; clear HA
   simp only [impl_placeOf.l0] at H
   by_cases c3 : x9_1 < (l0.length : Int)
   rotate_left
   ·rw [if_neg c3] at H
    have c3b0 := decide_eq_false c3
    clear c3
    obtain rfl := Option.some.inj H
    go_wp2
    go_ret
    exact ⟨by first | rfl | (simp; done) | (simp [*]; done), by repeat (first | exact Drawn0.refl _ | apply Drawn0.step)⟩
   rw [if_pos c3] at H
   have c3b0 := decide_eq_true c3
   clear c3
   by_cases c4 : 0 ≤ x9_1
   rotate_left
   ·rw [if_neg c4] at H
    exact absurd H (by simp)
   rw [if_pos c4] at H
   have c4b0 := decide_eq_true c4
   clear c4
   by_cases c5 : x9_1 < (l0.length : Int)
   rotate_left
   ·rw [if_neg c5] at H
    exact absurd H (by simp)
   rw [if_pos c5] at H
   have c5b0 := decide_eq_true c5
   clear c5
   by_cases c6 : (rd l0 x9_1) = a1
   ·rw [if_pos c6] at H
    have c6b0 : ((rd l0 x9_1) == a1) = true := beq_iff_eq.mpr c6
    have c6b1 : ((rd l0 x9_1) != a1) = false := bne_eq_false_iff_eq.mpr c6
    clear c6
    obtain rfl := Option.some.inj H
    have p478 := dp_ x9_1
    have q478 := dl_ x9_1 l0.length
    obtain ⟨ad478, e478, a0⟩ := Kd.at_int a2.out x9_1 p478 q478
    cases e478; replace p478 := eq_true p478; replace q478 := eq_true q478
    go_wp2
    go_ret
    exact ⟨by first | rfl | (simp; done) | (simp [*]; done), by repeat (first | exact Drawn0.refl _ | apply Drawn0.step)⟩
   rw [if_neg c6] at H
   have c6b0 : ((rd l0 x9_1) == a1) = false := beq_eq_false_iff_ne.mpr c6
   have c6b1 : ((rd l0 x9_1) != a1) = true := bne_iff_ne.mpr c6
   have H' := am_ H; clear H
   have p478 := dp_ x9_1
   have q478 := dl_ x9_1 l0.length
   obtain ⟨ad478, e478, a0⟩ := Kd.at_int a2.out x9_1 p478 q478
   cases e478; replace p478 := eq_true p478; replace q478 := eq_true q478
   go_wp2
   go_roundg k1
   case measure => have := HK1.out; omega
   case rel => exact ⟨(wrap64 (x9_1 + 1)), qe_, H', ⟨by have := HK1.out; omega⟩, by repeat (first | exact Drawn0.refl _ | apply Drawn0.step)⟩
def impl_Reroot.f (k : Nat) (l0 : List Int) (a1 : Int) : Option (List Int × Bool) := (impl_placeOf.f k l0 a1).bind fun t479 => ((impl_TourOk.f k l0).bind fun t480 => (if t480 = true then (if t479 < 0 then (some (([] : List Int), false)) else (if 0 ≤ t479 then (if t479 ≤ (wrap64 ((l0.length : Int) - 1)) then (if (wrap64 ((l0.length : Int) - 1)) ≤ (l0.length : Int) then ((impl_copyInts.f ((l0.take ((wrap64 ((l0.length : Int) - 1)) : Int).toNat).drop (t479 : Int).toNat)).bind fun t482 => (if t479 ≤ (l0.length : Int) then (if t482.length + (l0.take (t479 : Int).toNat).length < 17592186044416 then ((some (t482 ++ (l0.take (t479 : Int).toNat) : List Int)).bind fun y486 => (if y486.length < 17592186044416 then (some ((y486 ++ [a1]), true)) else (none))) else (none)) else (none))) else (none)) else (none)) else (none))) else (some (([] : List Int), false))))
theorem impl_Reroot.mono : ∀ a0 a1 k, LeO (impl_Reroot.f k a0 a1) (impl_Reroot.f (k + 1) a0 a1) := by
  intro a0 a1 k
  unfold impl_Reroot.f
  repeat' first | (with_reducible first | exact impl_TourOk.mono _ _ | exact impl_placeOf.mono _ _ _ | exact LeO.refl _ | exact LeO.none _ | refine LeO.ite ?_ ?_ | refine LeO.bind ?_ (fun _ => ?_)) | exact LeO.none _ | refine LeO.ite ?_ ?_ | refine LeO.bind ?_ (fun _ => ?_)
set_option maxHeartbeats 8000000 in
set_option maxRecDepth 100000 in
theorem impl_Reroot.calls (k : Nat) (A0 : Option Addr) (c0 : Nat) (l0 : List Int) (a1 : Int) (r1 : List Int) (r2 : Bool) (w : World) (hr0 : Kd.C (Kd.int .i64) w A0 l0.length l0) (hc0 : l0.length ≤ c0) (h : impl_Reroot.f k l0 a1 = some (r1, r2)) :
  Calls Try.prog 125 #[.slice A0 l0.length c0, .int .i64 a1] w fun e w' => ∃ v0_ : Value, e = .returned (.tuple #[v0_, .bool r2]) ∧ Kd.R (Kd.int .i64) 3 w' w.heap.size (fun _ => True) v0_ r1 ∧ Below w.heap.size w w' := by
 have a4 := am_ hr0
 have a5 := am_ hc0
 clear hr0 hc0
 have HB := am_ (Below.refl w.heap.size w)
 have H : ((impl_placeOf.f k l0 a1).bind fun a0 => ((impl_TourOk.f k l0).bind fun a9 => (if a9 = true then (if a0 < 0 then (some (([] : List Int), false)) else (if 0 ≤ a0 then (if a0 ≤ (wrap64 ((l0.length : Int) - 1)) then (if (wrap64 ((l0.length : Int) - 1)) ≤ (l0.length : Int) then ((impl_copyInts.f ((l0.take ((wrap64 ((l0.length : Int) - 1)) : Int).toNat).drop (a0 : Int).toNat)).bind fun a3 => (if a0 ≤ (l0.length : Int) then (if a3.length + (l0.take (a0 : Int).toNat).length < 17592186044416 then ((some (a3 ++ (l0.take (a0 : Int).toNat) : List Int)).bind fun a2 => (if a2.length < 17592186044416 then (some ((a2 ++ [a1]), true)) else (none))) else (none)) else (none))) else (none)) else (none)) else (none))) else (some (([] : List Int), false))))) = some (r1, r2) := h
 clear h
 obtain ⟨a0, A30, H⟩ := Option.bind_eq_some_iff.mp H; have A3 := am_ A30; clear A30
 obtain ⟨a9, A40, H⟩ := Option.bind_eq_some_iff.mp H; have A4 := am_ A40; clear A40
 by_cases c5 : a9 = true
 rotate_left
 ·replace c5 := Bool.eq_false_iff.mpr c5
  subst c5
  rw [if_neg ff_] at H
  simp only [Option.some.injEq, Prod.mk.injEq] at H
  obtain ⟨rfl, rfl⟩ := H
  go_enter Try.func125, Try.ntmps125
  go_wp2_with (first | ((with_reducible refine gate_callee (f := 126) rfl ?_); refine gl_ (some 10) Try.func126 #[.slice A0 l0.length c0, .int .i64 a1] ?_; (with_reducible refine (impl_placeOf.calls k _ _ l0 a1 a0 _ ?side1 ?side2 A3.out).mono ?_); (case side1 => exact qD_ a4.out); (case side2 => exact a5.out); rintro e w' ⟨rfl, ⟨nd, rfl⟩⟩; refine ⟨_, rfl, ?_⟩) | ((with_reducible refine gate_callee (f := 119) rfl ?_); refine gl_ (some 12) Try.func119 #[.slice A0 l0.length c0] ?_; (with_reducible refine (impl_TourOk.calls k _ _ l0 false _ ?side1 ?side2 A4.out).mono ?_); (case side1 => exact qD_ a4.out); (case side2 => exact a5.out); rintro e w22 ⟨rfl, hb⟩; refine ⟨_, rfl, ?_⟩; replace HB := hs_ hb; (try clear hb); (try clear hb2); (try clear hk); (try clear hi)))
  go_ret2
  exact ⟨_, qr_, by first | exact Kd.R_nil _ _ _ _ _ | exact Kd.N_nil _ _ _ _ _ | exact Kd.V_nil _ _ _ _ _ | exact Kd.Q_nil _ _ _ _ _ | exact Kd.S_nil _ _ _ _ _, qB_⟩
 subst c5
 rw [if_pos rfl] at H
 by_cases c6 : a0 < 0
 ·rw [if_pos c6] at H
  have c6b0 := decide_eq_true c6
  clear c6
  simp only [Option.some.injEq, Prod.mk.injEq] at H
  obtain ⟨rfl, rfl⟩ := H
  go_enter Try.func125, Try.ntmps125
  go_wp2_with (first | ((with_reducible refine gate_callee (f := 126) rfl ?_); refine gl_ (some 10) Try.func126 #[.slice A0 l0.length c0, .int .i64 a1] ?_; (with_reducible refine (impl_placeOf.calls k _ _ l0 a1 a0 _ ?side1 ?side2 A3.out).mono ?_); (case side1 => exact qD_ a4.out); (case side2 => exact a5.out); rintro e w' ⟨rfl, ⟨nd, rfl⟩⟩; refine ⟨_, rfl, ?_⟩) | ((with_reducible refine gate_callee (f := 119) rfl ?_); refine gl_ (some 12) Try.func119 #[.slice A0 l0.length c0] ?_; (with_reducible refine (impl_TourOk.calls k _ _ l0 true _ ?side1 ?side2 A4.out).mono ?_); (case side1 => exact qD_ a4.out); (case side2 => exact a5.out); rintro e w7 ⟨rfl, hb⟩; refine ⟨_, rfl, ?_⟩; replace HB := hs_ hb; (try clear hb); (try clear hb2); (try clear hk); (try clear hi)))
  go_ret2
  exact ⟨_, qr_, by first | exact Kd.R_nil _ _ _ _ _ | exact Kd.N_nil _ _ _ _ _ | exact Kd.V_nil _ _ _ _ _ | exact Kd.Q_nil _ _ _ _ _ | exact Kd.S_nil _ _ _ _ _, qB_⟩
 rw [if_neg c6] at H
 have c6b0 := decide_eq_false c6
 clear c6
 by_cases c8 : 0 ≤ a0
 rotate_left
 ·rw [if_neg c8] at H
  exact absurd H (by simp)
 rw [if_pos c8] at H
 have c8b0 := eq_true c8
 have c8b1 := decide_eq_true c8
 clear c8
 by_cases c9 : a0 ≤ (wrap64 ((l0.length : Int) - 1))
 rotate_left
 ·rw [if_neg c9] at H
  exact absurd H (by simp)
 rw [if_pos c9] at H
 have c9b0 := eq_true c9
 have c9b1 := decide_eq_true c9
 clear c9
 by_cases c10 : (wrap64 ((l0.length : Int) - 1)) ≤ (l0.length : Int)
 rotate_left
 ·rw [if_neg c10] at H
  exact absurd H (by simp)
 rw [if_pos c10] at H
 have c10b0 := eq_true c10
 have c10b1 := decide_eq_true c10
 clear c10
 obtain ⟨a3, b0, H⟩ := Option.bind_eq_some_iff.mp H; have A11 := am_ b0; clear b0
 have c12b0 := eq_true (of_decide_eq_true qa_ : 0 ≤ a0)
 by_cases c13 : a0 ≤ (l0.length : Int)
 rotate_left
 ·rw [if_neg c13] at H
  exact absurd H (by simp)
 rw [if_pos c13] at H
 have c13b0 := eq_true c13
 have c13b1 := decide_eq_true c13
 clear c13
 by_cases c14 : a3.length + (l0.take (a0 : Int).toNat).length < 17592186044416
 rotate_left
 ·rw [if_neg c14] at H
  exact absurd H (by simp)
 rw [if_pos c14] at H
 have LMc14 := am_ c14
 clear c14
 obtain ⟨a2, hy486⟩ : ∃ y_ : List Int, y_ = (a3 ++ (l0.take (a0 : Int).toNat)) := ⟨_, rfl⟩
 replace H : (if a2.length < 17592186044416 then (some ((a2 ++ [a1]), true)) else (none)) = some (r1, r2) := by first | (rw [hy486]; with_reducible exact H) | (have H2_ := (Option.bind_some _ _).symm.trans H; rw [hy486]; with_reducible exact H2_) | (have H2_ := (Option.bind_some _ _).symm.trans H; with_reducible exact H2_) | with_reducible exact H | (rw [hy486]; exact H) | exact H
 have Ny486 := am_ hy486
 clear hy486
 by_cases c15 : a2.length < 17592186044416
 rotate_left
 ·rw [if_neg c15] at H
  exact absurd H (by simp)
 rw [if_pos c15] at H
 have LMc15 := am_ c15
 clear c15
 obtain ⟨b4, hy489⟩ : ∃ y_ : List Int, y_ = (a2 ++ [a1]) := ⟨_, rfl⟩
 replace H : (some (b4, true)) = some (r1, r2) := by first | (rw [hy489]; with_reducible exact H) | (have H2_ := (Option.bind_some _ _).symm.trans H; rw [hy489]; with_reducible exact H2_) | (have H2_ := (Option.bind_some _ _).symm.trans H; with_reducible exact H2_) | with_reducible exact H | (rw [hy489]; exact H) | exact H
 have Ny489 := am_ hy489
 clear hy489
 simp only [Option.some.injEq, Prod.mk.injEq] at H
 obtain ⟨rfl, rfl⟩ := H
 go_enter Try.func125, Try.ntmps125
 go_wp2_with (first | ((with_reducible refine gate_callee (f := 126) rfl ?_); refine gl_ (some 10) Try.func126 #[.slice A0 l0.length c0, .int .i64 a1] ?_; (with_reducible refine (impl_placeOf.calls k _ _ l0 a1 a0 _ ?side1 ?side2 A3.out).mono ?_); (case side1 => exact qD_ a4.out); (case side2 => exact a5.out); rintro e w' ⟨rfl, ⟨nd, rfl⟩⟩; refine ⟨_, rfl, ?_⟩) | ((with_reducible refine gate_callee (f := 119) rfl ?_); refine gl_ (some 12) Try.func119 #[.slice A0 l0.length c0] ?_; (with_reducible refine (impl_TourOk.calls k _ _ l0 true _ ?side1 ?side2 A4.out).mono ?_); (case side1 => exact qD_ a4.out); (case side2 => exact a5.out); rintro e w16 ⟨rfl, hb⟩; refine ⟨_, rfl, ?_⟩; replace HB := hs_ hb; (try clear hb); (try clear hb2); (try clear hk); (try clear hi); obtain ⟨i017, hi017, _, hsz17, _⟩ := info_parts info3; obtain ⟨A17, hcut17, hA17, hC17⟩ := print_mid_of (P := Try.prog) (Value.int .i64) 0 51 3 .i64 .i64 Try.underlying51 hi017 hsz17 A0 c0 l0 a0 (wrap64 ((l0.length : Int) - 1)) (of_decide_eq_true qa_) (by first | omega | exact of_decide_eq_true qa_) (of_decide_eq_true qa_) a5.out; have b1 := am_ (Kd.C_of_reads (h1 := fun _ => rfl) (hA17 _ (Kd.reads_of_C a4.out))); have b2 := am_ hC17; clear hA17 hC17 hi017 hsz17) | ((with_reducible refine gate_callee (f := 121) rfl ?_); refine goesL_ (some 24) rfl rfl Try.func121 (by kernel_rfl) rfl #[.slice A17 ((l0.take ((wrap64 ((l0.length : Int) - 1)) : Int).toNat).drop (a0 : Int).toNat).length (c0 - a0.toNat)] rfl (by (try simp only [List.map_toArray, List.map_cons, List.map_nil]); first | done | (rw [show ((l0.take ((wrap64 ((l0.length : Int) - 1)) : Int).toNat).drop (a0 : Int).toNat).length = ((wrap64 ((l0.length : Int) - 1)).toNat - a0.toNat) from (by rw [List.length_drop, List.length_take]; have h_ : ((wrap64 ((l0.length : Int) - 1)) : Int) ≤ (l0.length : Int) := of_decide_eq_true qa_; omega)] <;> rfl) | rfl | (simp only [List.length_drop, List.length_take]; rfl)) ?_; (with_reducible refine (impl_copyInts.calls _ _ ((l0.take ((wrap64 ((l0.length : Int) - 1)) : Int).toNat).drop (a0 : Int).toNat) a3 _ ?side1 ?side2 A11.out).mono ?_); (case side1 => exact qC_ b1 HB); (case side2 => exact b2.out); rintro e w18 ⟨b5, rfl, ho0, hb⟩; refine ⟨_, rfl, ?_⟩; have a6 := am_ (Kd.R_lower ho0 (below_size qB_)); replace HB := hs_ hb; (try clear hb); (try clear hb2); (try clear hk); (try clear hi); (try clear ho0); obtain ⟨i019, hi019, _, hsz19, _⟩ := info_parts info3; obtain ⟨hcut19, hA19, hC19⟩ := print_take_of (P := Try.prog) (Value.int .i64) 0 51 3 .i64 Try.underlying51 hi019 hsz19 A0 c0 l0 a0 (of_decide_eq_true qa_) (of_decide_eq_true qa_) a5.out; have a7 := am_ (Kd.C_of_reads (h1 := fun _ => rfl) (hA19 _ (Kd.reads_of_C a4.out))); have b7 := am_ hC19; clear hA19 hC19 hi019 hsz19) | ((with_reducible refine gate_builtin (b := .append) (xs := #[.tmp 25, .tmp 28]) rfl ?_); at_builtin; refine Kd.R_append_rows (Kd.int .i64) (w0 := w) w.heap.size rfl (.tmp 25) (.tmp 28) 51 3 (.int .i64 0) 8 rfl Try.underlying51 info3 rfl (by decide) (by omega) b5 a3 (l0.take (a0 : Int).toNat) _ _ _ (fun _ => True) (fun _ => False) rfl rfl ?aO ?aR (fun _ _ h => h) (fun _ h => h.elim) ?aF ?aB ?aS ?aL ?_; (case aR => first | (refine rr_len (show (l0.take (a0 : Int).toNat).length = a0.toNat from (by rw [List.length_take]; have h_ : (a0 : Int) ≤ (l0.length : Int) := of_decide_eq_true qa_; omega)) ?_; repeat (first | exact (Kd.C_below a7.out HB.out) | (with_reducible refine Kd.C_alloc ?_ _) | (with_reducible refine Kd.C_drewN ?_ _) | (with_reducible refine Kd.C_drew ?_))) | (repeat (first | exact (Kd.C_below a7.out HB.out) | (with_reducible refine Kd.C_alloc ?_ _) | (with_reducible refine Kd.C_drewN ?_ _) | (with_reducible refine Kd.C_drew ?_)))); (case aB => exact qB_); (case aF => exact (fun _ _ => trivial)); (case aO => exact (qR_ a6)); (case aS => exact (below_size qB_)); (case aL => have := LMc14.out; have hlx_ := (show (l0.take (a0 : Int).toNat).length = a0.toNat from (by rw [List.length_take]; have h_ : (a0 : Int) ≤ (l0.length : Int) := of_decide_eq_true qa_; omega)); omega); intro b6 w20 ho hb hg hat; rw [← Ny486.out] at ho; have a8 := am_ (ho); replace HB := am_ (hb); clear a6; clear ho hb hg hat) | ((with_reducible refine gate_builtin (b := .append) (xs := #[.tmp 29, .tmp 31]) rfl ?_); at_builtin; refine Kd.R_append (Kd.int .i64) (w0 := w) w.heap.size rfl (.tmp 29) (.tmp 31) 51 3 (.int .i64 0) 8 rfl Try.underlying51 info3 rfl (by decide) (by omega) b6 a2 a1 [.int .i64 a1] (fun _ => True) (fun _ => False) rfl rfl ?aP (fun _ hk => hk.elim) ?aF ?aO ?aB ?aS ?aL ?_; (case aP => exact rfl); (case aB => exact qB_); (case aF => exact (fun _ _ => trivial)); (case aO => exact (qR_ a8)); (case aS => exact (below_size qB_)); (case aL => have := LMc15.out; omega); intro b8 w21 ho hb hg hat; rw [← Ny489.out] at ho; have b3 := am_ (ho); replace HB := am_ (hb); clear a8; clear ho hb hg hat))
 go_ret2
 exact ⟨_, qr_, by (with_reducible repeat (first | apply Kd.R_alloc | apply Kd.R_drewN | apply Kd.R_drew)); exact b3.out, qB_⟩
mutual
def impl_JoinTours.j0 : Nat → List Int → Int → List Int → List Int → Bool → Option (List Int × Bool)
  | 0, _, _, _, _, _ => none
  | k + 1, x0, x1, x2, x10, x34 => if x34 = true then (some (([] : List Int), false)) else (impl_JoinTours.l0 k x0 x1 x2 x10 x0 (x0.length : Int) 0)
def impl_JoinTours.l0 : Nat → List Int → Int → List Int → List Int → List Int → Int → Int → Option (List Int × Bool)
  | 0, _, _, _, _, _, _, _ => none
  | k + 1, x0, x1, x2, x10, x35, x36, x37 => if x37 < x36 then (if 0 ≤ x37 then (if x37 < (x35.length : Int) then ((impl_hasInt.f k x2 (rd x35 x37)).bind fun t499 => (if t499 = true then (some (([] : List Int), false)) else (impl_JoinTours.l0 k x0 x1 x2 x10 x35 x36 (wrap64 (x37 + 1))))) else (none)) else (none)) else (impl_JoinTours.l1 k x0 x1 x10 (wrap64 ((x0.length : Int) - 1)))
def impl_JoinTours.l1 : Nat → List Int → Int → List Int → Int → Option (List Int × Bool)
  | 0, _, _, _, _ => none
  | k + 1, x0, x1, x10, x14 => if 0 ≤ x14 then (if x14 < (x0.length : Int) then (if (rd x0 x14) = x1 then (if 0 ≤ (wrap64 (x14 + 1)) then (if (wrap64 (x14 + 1)) ≤ (x0.length : Int) then ((impl_copyInts.f (x0.take ((wrap64 (x14 + 1)) : Int).toNat)).bind fun t502 => (if t502.length + x10.length < 17592186044416 then ((some (t502 ++ x10 : List Int)).bind fun y505 => (if x14 ≤ (x0.length : Int) then (if y505.length + (x0.drop (x14 : Int).toNat).length < 17592186044416 then (some ((y505 ++ (x0.drop (x14 : Int).toNat)), true)) else (none)) else (none))) else (none))) else (none)) else (none)) else (impl_JoinTours.l1 k x0 x1 x10 (wrap64 (x14 - 1)))) else (none)) else (none)
end
def impl_JoinTours.f (k : Nat) (l0 : List Int) (a1 : Int) (l2 : List Int) (a3 : Int) : Option (List Int × Bool) := (impl_Reroot.f k l2 a3).bind fun bt492 => ((impl_TourOk.f k l0).bind fun t496 => (if t496 = true then (if bt492.2 = true then ((impl_placeOf.f k l0 a1).bind fun t497 => (impl_JoinTours.j0 k l0 a1 l2 bt492.1 (decide (t497 < 0)))) else (impl_JoinTours.j0 k l0 a1 l2 bt492.1 true)) else (impl_JoinTours.j0 k l0 a1 l2 bt492.1 true)))
theorem impl_JoinTours.mono_l : ∀ k, (∀ y0 y1 y2 y3 y4, LeO (impl_JoinTours.j0 k y0 y1 y2 y3 y4) (impl_JoinTours.j0 (k + 1) y0 y1 y2 y3 y4)) ∧ (∀ y0 y1 y2 y3 y4 y5 y6, LeO (impl_JoinTours.l0 k y0 y1 y2 y3 y4 y5 y6) (impl_JoinTours.l0 (k + 1) y0 y1 y2 y3 y4 y5 y6)) ∧ (∀ y0 y1 y2 y3, LeO (impl_JoinTours.l1 k y0 y1 y2 y3) (impl_JoinTours.l1 (k + 1) y0 y1 y2 y3))
  | 0 => ⟨fun _ _ _ _ _ r h => by simp [impl_JoinTours.j0] at h, fun _ _ _ _ _ _ _ r h => by simp [impl_JoinTours.l0] at h, fun _ _ _ _ r h => by simp [impl_JoinTours.l1] at h⟩
  | k + 1 => by
    obtain ⟨ih0, ih1, ih2⟩ := impl_JoinTours.mono_l k
    refine ⟨?_, ?_, ?_⟩ <;> (intros; first | unfold impl_JoinTours.j0 | unfold impl_JoinTours.l0 | unfold impl_JoinTours.l1) <;> repeat' first | (with_reducible first | exact ih0 _ _ _ _ _ | exact ih1 _ _ _ _ _ _ _ | exact ih2 _ _ _ _ | exact impl_Reroot.mono _ _ _ | exact impl_TourOk.mono _ _ | exact impl_hasInt.mono _ _ _ | exact impl_placeOf.mono _ _ _ | exact LeO.refl _ | exact LeO.none _ | refine LeO.ite ?_ ?_ | refine LeO.bind ?_ (fun _ => ?_)) | exact LeO.none _ | refine LeO.ite ?_ ?_ | refine LeO.bind ?_ (fun _ => ?_)
theorem impl_JoinTours.mono : ∀ a0 a1 a2 a3 k, LeO (impl_JoinTours.f k a0 a1 a2 a3) (impl_JoinTours.f (k + 1) a0 a1 a2 a3) := by
  intro a0 a1 a2 a3 k
  obtain ⟨ih0, ih1, ih2⟩ := impl_JoinTours.mono_l k
  unfold impl_JoinTours.f
  repeat' first | (with_reducible first | exact ih0 _ _ _ _ _ | exact ih1 _ _ _ _ _ _ _ | exact ih2 _ _ _ _ | exact impl_Reroot.mono _ _ _ | exact impl_TourOk.mono _ _ | exact impl_hasInt.mono _ _ _ | exact impl_placeOf.mono _ _ _ | exact LeO.refl _ | exact LeO.none _ | refine LeO.ite ?_ ?_ | refine LeO.bind ?_ (fun _ => ?_)) | exact LeO.none _ | refine LeO.ite ?_ ?_ | refine LeO.bind ?_ (fun _ => ?_)
set_option maxHeartbeats 8000000 in
set_option maxRecDepth 100000 in
theorem impl_JoinTours.calls (k : Nat) (A0 : Option Addr) (c0 : Nat) (l0 : List Int) (a1 : Int) (A2 : Option Addr) (c2 : Nat) (l2 : List Int) (a3 : Int) (r1 : List Int) (r2 : Bool) (w : World) (hr0 : Kd.C (Kd.int .i64) w A0 l0.length l0) (hc0 : l0.length ≤ c0) (hr2 : Kd.C (Kd.int .i64) w A2 l2.length l2) (hc2 : l2.length ≤ c2) (h : impl_JoinTours.f k l0 a1 l2 a3 = some (r1, r2)) :
  Calls Try.prog 85 #[.slice A0 l0.length c0, .int .i64 a1, .slice A2 l2.length c2, .int .i64 a3] w fun e w' => ∃ v0_ : Value, e = .returned (.tuple #[v0_, .bool r2]) ∧ Kd.R (Kd.int .i64) 3 w' w.heap.size (fun _ => True) v0_ r1 ∧ Below w.heap.size w w' := by
 have b1 := am_ hr0
 have b8 := am_ hc0
 clear hr0 hc0
 have d3 := am_ hr2
 have d4 := am_ hc2
 clear hr2 hc2
 have HB := am_ (Below.refl w.heap.size w)
 have H : ((impl_Reroot.f k l2 a3).bind fun a7 => ((impl_TourOk.f k l0).bind fun a9 => (if a9 = true then (if a7.2 = true then ((impl_placeOf.f k l0 a1).bind fun a8 => (impl_JoinTours.j0 k l0 a1 l2 a7.1 (decide (a8 < 0)))) else (impl_JoinTours.j0 k l0 a1 l2 a7.1 true)) else (impl_JoinTours.j0 k l0 a1 l2 a7.1 true)))) = some (r1, r2) := h
 clear h
 replace H := Option.bind_eq_some_iff.mp H
 obtain ⟨⟨a5, b6⟩, A50, H⟩ := H
 replace H : ((impl_TourOk.f k l0).bind fun a9 => (if a9 = true then (if b6 = true then ((impl_placeOf.f k l0 a1).bind fun a8 => (impl_JoinTours.j0 k l0 a1 l2 a5 (decide (a8 < 0)))) else (impl_JoinTours.j0 k l0 a1 l2 a5 true)) else (impl_JoinTours.j0 k l0 a1 l2 a5 true))) = some (r1, r2) := H
 have A5 := am_ A50
 clear A50
 have d5 := am_ H
 clear H
 go_enter Try.func85, Try.ntmps85
 go_upto_region 2 with (first | ((with_reducible refine gate_callee (f := 125) rfl ?_); refine gl_ (some 19) Try.func125 #[.slice A2 l2.length c2, .int .i64 a3] ?_; (with_reducible refine (impl_Reroot.calls k _ _ l2 a3 a5 b6 _ ?side1 ?side2 A5.out).mono ?_); (case side1 => exact qD_ d3.out); (case side2 => exact d4.out); rintro e w7 ⟨b7, rfl, ho0, hb⟩; refine ⟨_, rfl, ?_⟩; have a2 := am_ (Kd.R_lower ho0 (below_size qB_)); replace HB := hs_ hb; (try clear hb); (try clear hb2); (try clear hk); (try clear hi); (try clear ho0)))
 (try simp only [Act.put, sA_, sB_, sC_])
 go_cut [34] (fun v34 wc => ∃ (kq : Nat) (x34_5 : Bool), v34 = .bool x34_5 ∧ Aside0 (impl_JoinTours.j0 kq l0 a1 l2 a5 x34_5 = some (r1, r2)) ∧ Aside0 (kq ≤ k) ∧ Aside0 (Kd.R (Kd.int .i64) 3 wc w.heap.size (fun _ => True) b7 a5) ∧ Aside0 (Below w.heap.size w wc))
 case first =>
  have H := d5.out; clear d5
  obtain ⟨a9, A80, H⟩ := Option.bind_eq_some_iff.mp H; have A8 := am_ A80; clear A80
  by_cases c9 : a9 = true
  rotate_left
  ·replace c9 := Bool.eq_false_iff.mpr c9
   subst c9
   rw [if_neg ff_] at H; have H' := am_ H; clear H
   go_wp2_with (first | ((with_reducible refine gate_callee (f := 119) rfl ?_); refine gl_ (some 23) Try.func119 #[.slice A0 l0.length c0] ?_; (with_reducible refine (impl_TourOk.calls k _ _ l0 false _ ?side1 ?side2 A8.out).mono ?_); (case side1 => exact qC_ b1 HB); (case side2 => exact b8.out); rintro e w14 ⟨rfl, hb⟩; refine ⟨_, rfl, ?_⟩; replace a2 := am_ (Kd.R_below (qR_ a2) hb); replace HB := hs_ hb; (try clear hb); (try clear hb2); (try clear hk); (try clear hi)))
   go_meet
   case rel => exact ⟨_, (true), qe_, H', ⟨qo_⟩, ⟨by (with_reducible repeat (first | apply Kd.R_alloc | apply Kd.R_drewN | apply Kd.R_drew)); first | exact a2.out | (have h_ := a2.out; simp only [own_slice] at h_ ⊢; exact h_)⟩, ⟨qB_⟩⟩
  subst c9
  rw [if_pos rfl] at H
  by_cases c10 : b6 = true
  ·subst c10
   rw [if_pos rfl] at H
   obtain ⟨a8, b9, H⟩ := Option.bind_eq_some_iff.mp H; have A11 := am_ b9; clear b9
   have H' := am_ H; clear H
   go_wp2_with (first | ((with_reducible refine gate_callee (f := 119) rfl ?_); refine gl_ (some 23) Try.func119 #[.slice A0 l0.length c0] ?_; (with_reducible refine (impl_TourOk.calls k _ _ l0 true _ ?side1 ?side2 A8.out).mono ?_); (case side1 => exact qC_ b1 HB); (case side2 => exact b8.out); rintro e w12 ⟨rfl, hb⟩; refine ⟨_, rfl, ?_⟩; replace a2 := am_ (Kd.R_below (qR_ a2) hb); replace HB := hs_ hb; (try clear hb); (try clear hb2); (try clear hk); (try clear hi)) | (go_at_call 126; (with_reducible refine (impl_placeOf.calls k _ _ l0 a1 a8 _ ?side1 ?side2 A11.out).mono ?_); (case side1 => exact qC_ b1 HB); (case side2 => exact b8.out); rintro e w' ⟨rfl, ⟨nd, rfl⟩⟩))
   go_meet
   case rel => exact ⟨_, (decide (a8 < 0)), qe_, H', ⟨qo_⟩, ⟨by (with_reducible repeat (first | apply Kd.R_alloc | apply Kd.R_drewN | apply Kd.R_drew)); first | exact a2.out | (have h_ := a2.out; simp only [own_slice] at h_ ⊢; exact h_)⟩, ⟨qB_⟩⟩
  replace c10 := Bool.eq_false_iff.mpr c10
  subst c10
  rw [if_neg ff_] at H; have H' := am_ H; clear H
  go_wp2_with (first | ((with_reducible refine gate_callee (f := 119) rfl ?_); refine gl_ (some 23) Try.func119 #[.slice A0 l0.length c0] ?_; (with_reducible refine (impl_TourOk.calls k _ _ l0 true _ ?side1 ?side2 A8.out).mono ?_); (case side1 => exact qC_ b1 HB); (case side2 => exact b8.out); rintro e w13 ⟨rfl, hb⟩; refine ⟨_, rfl, ?_⟩; replace a2 := am_ (Kd.R_below (qR_ a2) hb); replace HB := hs_ hb; (try clear hb); (try clear hb2); (try clear hk); (try clear hi)))
  go_meet
  case rel => exact ⟨_, (true), qe_, H', ⟨qo_⟩, ⟨by (with_reducible repeat (first | apply Kd.R_alloc | apply Kd.R_drewN | apply Kd.R_drew)); first | exact a2.out | (have h_ := a2.out; simp only [own_slice] at h_ ⊢; exact h_)⟩, ⟨qB_⟩⟩
 case rest =>
  clear d5; (try clear c1); (try clear c2); (try clear p2); (try clear c8); (try clear c9); (try clear c10); (try clear c11); (try clear c12)
  obtain ⟨kq, x34_5, rfl, HA, d2, a0, HB⟩ := hcut
  cases kq with
  | zero => exact absurd HA.out (by simp [impl_JoinTours.j0])
  | succ kj5 =>
   have H := HA.out; clear HA
   simp only [impl_JoinTours.j0] at H
   by_cases c15 : x34_5 = true
   ·subst c15
    rw [if_pos rfl] at H
    simp only [Option.some.injEq, Prod.mk.injEq] at H
    obtain ⟨rfl, rfl⟩ := H
    go_wp2
    go_ret2
    exact ⟨_, qr_, by first | exact Kd.R_nil _ _ _ _ _ | exact Kd.N_nil _ _ _ _ _ | exact Kd.V_nil _ _ _ _ _ | exact Kd.Q_nil _ _ _ _ _ | exact Kd.S_nil _ _ _ _ _, qB_⟩
   replace c15 := Bool.eq_false_iff.mpr c15
   subst c15
   rw [if_neg ff_] at H; have H' := am_ H; clear H
   go_wp2
   go_loopg [37] kj5 (fun kq v37 w' => ∃ (x37_2 : Int), v37 = .int .i64 x37_2 ∧ Aside0 (impl_JoinTours.l0 kq l0 a1 l2 a5 l0 (l0.length : Int) x37_2 = some (r1, r2)) ∧ Aside0 (kq ≤ kj5) ∧ Aside0 (Kd.R (Kd.int .i64) 3 w' w.heap.size (fun _ => True) b7 a5) ∧ Aside0 (Below w.heap.size w w'))
   case atStart => exact ⟨(0), qe_, H', ⟨Nat.le_refl _⟩, ⟨by (with_reducible repeat (first | apply Kd.R_alloc | apply Kd.R_drewN | apply Kd.R_drew)); first | exact a0.out | (have h_ := a0.out; simp only [own_slice] at h_ ⊢; exact h_)⟩, ⟨qB_⟩⟩
   case round =>
    clear H'
    (try clear c1); (try clear c2); (try clear p2); (try clear c8); (try clear c9); (try clear c10); (try clear c11); (try clear c12); (try clear c15); (try clear p2)
    obtain ⟨x37_2, rfl, HA, HK2, a0, HB⟩ := hrel
    cases gk with
    | zero => exact absurd HA.out (by simp [impl_JoinTours.l0])
    | succ k2 =>
     have H := HA.out; clear HA
     simp only [impl_JoinTours.l0] at H
     by_cases c16 : x37_2 < (l0.length : Int)
     ·rw [if_pos c16] at H
      have c16b0 := decide_eq_true c16
      clear c16
      by_cases c17 : 0 ≤ x37_2
      rotate_left
      ·rw [if_neg c17] at H
       exact absurd H (by simp)
      rw [if_pos c17] at H
      have c17b0 := decide_eq_true c17
      clear c17
      by_cases c18 : x37_2 < (l0.length : Int)
      rotate_left
      ·rw [if_neg c18] at H
       exact absurd H (by simp)
      rw [if_pos c18] at H
      have c18b0 := decide_eq_true c18
      clear c18
      obtain ⟨d6, c3, H⟩ := Option.bind_eq_some_iff.mp H; have A19 := am_ c3; clear c3
      by_cases c20 : d6 = true
      ·subst c20
       rw [if_pos rfl] at H
       simp only [Option.some.injEq, Prod.mk.injEq] at H
       obtain ⟨rfl, rfl⟩ := H
       have p498 := dp_ x37_2
       have q498 := dl_ x37_2 l0.length
       obtain ⟨ad498, e498, a4⟩ := Kd.at_int b1.out x37_2 p498 q498
       cases e498
       replace a4 := qx_ HB a4
       replace p498 := eq_true p498; replace q498 := eq_true q498
       go_wp2_with (first | ((with_reducible refine gate_callee (f := 120) rfl ?_); refine gl_ (some 43) Try.func120 #[.slice A2 l2.length c2, .int .i64 (rd l0 x37_2)] ?_; (with_reducible refine (impl_hasInt.calls k2 _ _ l2 (rd l0 x37_2) true _ ?side1 ?side2 A19.out).mono ?_); (case side1 => exact qC_ d3 HB); (case side2 => exact d4.out); rintro e w' ⟨rfl, ⟨nd, rfl⟩⟩; refine ⟨_, rfl, ?_⟩))
       go_ret2
       exact ⟨_, qr_, by first | exact Kd.R_nil _ _ _ _ _ | exact Kd.N_nil _ _ _ _ _ | exact Kd.V_nil _ _ _ _ _ | exact Kd.Q_nil _ _ _ _ _ | exact Kd.S_nil _ _ _ _ _, qB_⟩
      replace c20 := Bool.eq_false_iff.mpr c20
      subst c20
      rw [if_neg ff_] at H; have H' := am_ H; clear H
      have p498 := dp_ x37_2
      have q498 := dl_ x37_2 l0.length
      obtain ⟨ad498, e498, a4⟩ := Kd.at_int b1.out x37_2 p498 q498
      cases e498
      replace a4 := qx_ HB a4
      replace p498 := eq_true p498; replace q498 := eq_true q498
      go_wp2_with (first | ((with_reducible refine gate_callee (f := 120) rfl ?_); refine gl_ (some 43) Try.func120 #[.slice A2 l2.length c2, .int .i64 (rd l0 x37_2)] ?_; (with_reducible refine (impl_hasInt.calls k2 _ _ l2 (rd l0 x37_2) false _ ?side1 ?side2 A19.out).mono ?_); (case side1 => exact qC_ d3 HB); (case side2 => exact d4.out); rintro e w' ⟨rfl, ⟨nd, rfl⟩⟩; refine ⟨_, rfl, ?_⟩))
      go_roundg k2
      case measure => have := d2.out; have := HK2.out; omega
      case rel => exact ⟨(wrap64 (x37_2 + 1)), qe_, H', ⟨by have := d2.out; have := HK2.out; omega⟩, ⟨by (with_reducible repeat (first | apply Kd.R_alloc | apply Kd.R_drewN | apply Kd.R_drew)); first | exact a0.out | (have h_ := a0.out; simp only [own_slice] at h_ ⊢; exact h_)⟩, ⟨qB_⟩⟩
     rw [if_neg c16] at H
     have c16b0 := decide_eq_false c16
     clear c16; have H' := am_ H; clear H
     go_wp2
     go_loopg [14] k2 (fun kq v14 w' => ∃ (x14_3 : Int), v14 = .int .i64 x14_3 ∧ Aside0 (impl_JoinTours.l1 kq l0 a1 a5 x14_3 = some (r1, r2)) ∧ Aside0 (kq ≤ k2) ∧ Aside0 (Kd.R (Kd.int .i64) 3 w' w.heap.size (fun _ => True) b7 a5) ∧ Aside0 (Below w.heap.size w w'))
     case atStart => exact ⟨(wrap64 ((l0.length : Int) - 1)), qe_, H', ⟨Nat.le_refl _⟩, ⟨by (with_reducible repeat (first | apply Kd.R_alloc | apply Kd.R_drewN | apply Kd.R_drew)); first | exact a0.out | (have h_ := a0.out; simp only [own_slice] at h_ ⊢; exact h_)⟩, ⟨qB_⟩⟩
     case round =>
      clear H'
      (try clear c1); (try clear c2); (try clear p2); (try clear p4); (try clear q4); (try clear e3); (try clear p6); (try clear c8); (try clear c9); (try clear c10); (try clear c11); (try clear c12); (try clear c15); (try clear c16); (try clear c16b0); (try clear c17); (try clear c17b0); (try clear c18); (try clear c18b0); (try clear c20); (try clear a4); (try clear p2); (try clear p498); (try clear q498)
      obtain ⟨x14_3, rfl, HA, HK3, a0, HB⟩ := hrel
      cases gk with
      | zero => exact absurd HA.out (by simp [impl_JoinTours.l1])
      | succ k3 =>
       have H := HA.out; clear HA
       simp only [impl_JoinTours.l1] at H
       by_cases c21 : 0 ≤ x14_3
       rotate_left
       ·rw [if_neg c21] at H
        exact absurd H (by simp)
       rw [if_pos c21] at H
       have c21b0 := decide_eq_true c21
       clear c21
       by_cases c22 : x14_3 < (l0.length : Int)
       rotate_left
       ·rw [if_neg c22] at H
        exact absurd H (by simp)
       rw [if_pos c22] at H
       have c22b0 := decide_eq_true c22
       clear c22
       by_cases c23 : (rd l0 x14_3) = a1
       rotate_left
       ·rw [if_neg c23] at H
        have c23b0 : ((rd l0 x14_3) == a1) = false := beq_eq_false_iff_ne.mpr c23
        have c23b1 : ((rd l0 x14_3) != a1) = true := bne_iff_ne.mpr c23
        have H' := am_ H; clear H
        have p500 := dp_ x14_3
        have q500 := dl_ x14_3 l0.length
        obtain ⟨ad500, e500, a6⟩ := Kd.at_int b1.out x14_3 p500 q500
        cases e500
        replace a6 := qx_ HB a6
        replace p500 := eq_true p500; replace q500 := eq_true q500
        go_wp2
        go_roundg k3
        case measure => have := d2.out; have := HK2.out; have := HK3.out; omega
        case rel => exact ⟨(wrap64 (x14_3 - 1)), qe_, H', ⟨by have := d2.out; have := HK2.out; have := HK3.out; omega⟩, ⟨by (with_reducible repeat (first | apply Kd.R_alloc | apply Kd.R_drewN | apply Kd.R_drew)); first | exact a0.out | (have h_ := a0.out; simp only [own_slice] at h_ ⊢; exact h_)⟩, ⟨qB_⟩⟩
       rw [if_pos c23] at H
       have c23b0 : ((rd l0 x14_3) == a1) = true := beq_iff_eq.mpr c23
       have c23b1 : ((rd l0 x14_3) != a1) = false := bne_eq_false_iff_eq.mpr c23
       clear c23
       obtain ⟨ji24, hji24⟩ : ∃ j_ : Int, (wrap64 (x14_3 + 1)) = j_ := ⟨_, rfl⟩
       first | rw [hji24] at H | simp only [hji24] at H
       have hji24w : (IntKind.i64.wrap (x14_3 + 1)) = ji24 := (i64_w _).trans hji24
       by_cases c25 : 0 ≤ (ji24)
       rotate_left
       ·rw [if_neg c25] at H
        exact absurd H (by simp)
       rw [if_pos c25] at H
       have c25b0 := eq_true c25
       have c25b1 := decide_eq_true c25
       clear c25
       by_cases c26 : (ji24) ≤ (l0.length : Int)
       rotate_left
       ·rw [if_neg c26] at H
        exact absurd H (by simp)
       rw [if_pos c26] at H
       have c26b0 := eq_true c26
       have c26b1 := decide_eq_true c26
       clear c26
       obtain ⟨b2, c4, H⟩ := Option.bind_eq_some_iff.mp H; have A27 := am_ c4; clear c4
       by_cases c28 : b2.length + a5.length < 17592186044416
       rotate_left
       ·rw [if_neg c28] at H
        exact absurd H (by simp)
       rw [if_pos c28] at H
       have LMc28 := am_ c28
       clear c28
       obtain ⟨b0, hy505⟩ : ∃ y_ : List Int, y_ = (b2 ++ a5) := ⟨_, rfl⟩
       replace H : (if x14_3 ≤ (l0.length : Int) then (if b0.length + (l0.drop (x14_3 : Int).toNat).length < 17592186044416 then (some ((b0 ++ (l0.drop (x14_3 : Int).toNat)), true)) else (none)) else (none)) = some (r1, r2) := by first | (rw [hy505]; with_reducible exact H) | (have H2_ := (Option.bind_some _ _).symm.trans H; rw [hy505]; with_reducible exact H2_) | (have H2_ := (Option.bind_some _ _).symm.trans H; with_reducible exact H2_) | with_reducible exact H | (rw [hy505]; exact H) | exact H
       have Ny505 := am_ hy505
       clear hy505
       have c29b0 := eq_true (of_decide_eq_true qa_ : 0 ≤ x14_3)
       by_cases c30 : x14_3 ≤ (l0.length : Int)
       rotate_left
       ·rw [if_neg c30] at H
        exact absurd H (by simp)
       rw [if_pos c30] at H
       have c30b0 := eq_true c30
       have c30b1 := decide_eq_true c30
       clear c30
       by_cases c31 : b0.length + (l0.drop (x14_3 : Int).toNat).length < 17592186044416
       rotate_left
       ·rw [if_neg c31] at H
        exact absurd H (by simp)
       rw [if_pos c31] at H
       have LMc31 := am_ c31
       clear c31
       obtain ⟨d7, hy509⟩ : ∃ y_ : List Int, y_ = (b0 ++ (l0.drop (x14_3 : Int).toNat)) := ⟨_, rfl⟩
       replace H : (some (d7, true)) = some (r1, r2) := by first | (rw [hy509]; with_reducible exact H) | (have H2_ := (Option.bind_some _ _).symm.trans H; rw [hy509]; with_reducible exact H2_) | (have H2_ := (Option.bind_some _ _).symm.trans H; with_reducible exact H2_) | with_reducible exact H | (rw [hy509]; exact H) | exact H
       have Ny509 := am_ hy509
       clear hy509
       simp only [Option.some.injEq, Prod.mk.injEq] at H
       obtain ⟨rfl, rfl⟩ := H
       have p500 := dp_ x14_3
       have q500 := dl_ x14_3 l0.length
       obtain ⟨ad500, e500, a6⟩ := Kd.at_int b1.out x14_3 p500 q500
       cases e500
       replace a6 := qx_ HB a6
       replace p500 := eq_true p500; replace q500 := eq_true q500
       obtain ⟨i032, hi032, _, hsz32, _⟩ := info_parts info3
       obtain ⟨hcut32, hA32, hC32⟩ := print_take_of (P := Try.prog) (Value.int .i64) 0 51 3 .i64 Try.underlying51 hi032 hsz32 (some ad500) c0 l0 (ji24) (of_decide_eq_true qa_) (of_decide_eq_true qa_) b8.out
       have c5 := am_ (Kd.C_of_reads (h1 := fun _ => rfl) (hA32 _ (Kd.reads_of_C b1.out)))
       have c6 := am_ hC32
       clear hA32 hC32 hi032 hsz32
       go_wp2_with (first | ((with_reducible refine gate_callee (f := 121) rfl ?_); refine goesL_ (some 60) rfl rfl Try.func121 (by kernel_rfl) rfl #[.slice (some ad500) (l0.take ((ji24) : Int).toNat).length c0] rfl (by (try simp only [List.map_toArray, List.map_cons, List.map_nil]); first | done | (rw [show (l0.take ((ji24) : Int).toNat).length = (ji24).toNat from (by rw [List.length_take]; have h_ : ((ji24) : Int) ≤ (l0.length : Int) := of_decide_eq_true qa_; omega)] <;> rfl) | (simp only [hji24]; rfl) | rfl | (simp only [List.length_drop, List.length_take]; rfl)) ?_; (with_reducible refine (impl_copyInts.calls _ _ (l0.take ((ji24) : Int).toNat) b2 _ ?side1 ?side2 A27.out).mono ?_); (case side1 => exact qC_ c5 HB); (case side2 => exact c6.out); rintro e w33 ⟨d8, rfl, ho0, hb⟩; refine ⟨_, rfl, ?_⟩; have b3 := am_ (Kd.R_lower (Kd.R_new' ho0 (Kd.R_lt (qR_ a0))) (below_size qB_)); replace a0 := am_ (Kd.R_elder' (qR_ a0) (Kd.R_base ho0) hb); replace HB := hs_ hb; (try clear hb); (try clear hb2); (try clear hk); (try clear hi); (try clear ho0); obtain ⟨c7, d0, d9⟩ := Kd.R_slice a0.out; subst d9) | ((with_reducible refine gate_builtin (b := .append) (xs := #[.tmp 60, .tmp 61]) rfl ?_); at_builtin; refine Kd.R_append_rows (Kd.int .i64) (w0 := w) w.heap.size rfl (.tmp 60) (.tmp 61) 51 3 (.int .i64 0) 8 rfl Try.underlying51 info3 rfl (by decide) (by omega) d8 b2 a5 _ _ _ (fun k_ => some k_ ≠ (.slice c7 a5.length d0 : Value).ownBlock) (fun _ => False) rfl rfl ?aO ?aR (fun _ _ h => h) (fun _ h => h.elim) ?aF ?aB ?aS ?aL ?_; (case aR => repeat (first | exact (Kd.R_reads' a0.out).2.2 | (with_reducible refine Kd.C_alloc ?_ _) | (with_reducible refine Kd.C_drewN ?_ _) | (with_reducible refine Kd.C_drew ?_))); (case aB => exact qB_); (case aF => exact (fun k_ hk => Kd.fresh' (Kd.R_lt (qR_ a0)) k_ hk)); (case aO => exact (by (with_reducible repeat (first | apply Kd.R_alloc | apply Kd.R_drewN | apply Kd.R_drew)); exact Kd.R_mono b3.out (fun _ hk => hk.2))); (case aS => exact (below_size qB_)); (case aL => have := LMc28.out; omega); intro e0 w34 ho hb hg hat; rw [← Ny505.out] at ho; have b4 := am_ (ho); replace a0 := am_ (Kd.R_after (ok := (fun _ => True)) (qR_ a0) hg hat); replace HB := am_ (hb); clear b3; clear ho hb hg hat; obtain ⟨i036, hi036, _, hsz36, _⟩ := info_parts info3; obtain ⟨A36, hcut36, hA36, hC36⟩ := print_drop_of (P := Try.prog) (Value.int .i64) 0 51 3 .i64 Try.underlying51 hi036 hsz36 (some ad500) c0 l0 x14_3 (of_decide_eq_true qa_) (of_decide_eq_true qa_) b8.out; have b5 := am_ (Kd.C_of_reads (h1 := fun _ => rfl) (hA36 _ (Kd.reads_of_C b1.out))); have e1 := am_ hC36; clear hA36 hC36 hi036 hsz36) | ((with_reducible refine gate_builtin (b := .append) (xs := #[.tmp 63, .tmp 66]) rfl ?_); at_builtin; refine Kd.R_append_rows (Kd.int .i64) (w0 := w) w.heap.size rfl (.tmp 63) (.tmp 66) 51 3 (.int .i64 0) 8 rfl Try.underlying51 info3 rfl (by decide) (by omega) e0 b0 (l0.drop (x14_3 : Int).toNat) _ _ _ (fun k_ => some k_ ≠ (.slice c7 a5.length d0 : Value).ownBlock) (fun _ => False) rfl rfl ?aO ?aR (fun _ _ h => h) (fun _ h => h.elim) ?aF ?aB ?aS ?aL ?_; (case aR => first | (refine rr_len (show (l0.drop (x14_3 : Int).toNat).length = (l0.length - x14_3.toNat) from List.length_drop) ?_; repeat (first | exact (Kd.C_below b5.out HB.out) | (with_reducible refine Kd.C_alloc ?_ _) | (with_reducible refine Kd.C_drewN ?_ _) | (with_reducible refine Kd.C_drew ?_))) | (repeat (first | exact (Kd.C_below b5.out HB.out) | (with_reducible refine Kd.C_alloc ?_ _) | (with_reducible refine Kd.C_drewN ?_ _) | (with_reducible refine Kd.C_drew ?_)))); (case aB => exact qB_); (case aF => exact (fun k_ hk => Kd.fresh' (Kd.R_lt (qR_ a0)) k_ hk)); (case aO => exact (qR_ b4)); (case aS => exact (below_size qB_)); (case aL => have := LMc31.out; have hlx_ := (show (l0.drop (x14_3 : Int).toNat).length = (l0.length - x14_3.toNat) from List.length_drop); omega); intro e2 w37 ho hb hg hat; rw [← Ny509.out] at ho; have d1 := am_ (ho); replace a0 := am_ (Kd.R_after (ok := (fun _ => True)) (qR_ a0) hg hat); replace HB := am_ (hb); clear b4; clear ho hb hg hat))
       go_ret2
       exact ⟨_, by first | rfl | (simp [errW_none, errW_some] <;> rfl) | (simp only [← hji24]; first | rfl | (simp [errW_none, errW_some] <;> rfl)) | (simp [*, errW_none, errW_some] <;> rfl), by (with_reducible repeat (first | apply Kd.R_alloc | apply Kd.R_drewN | apply Kd.R_drew)); exact Kd.R_mono d1.out (fun _ hk => trivial), qB_⟩
end Go.Proofs.Ytbkklafkoegdpaa.QFnExactLink
