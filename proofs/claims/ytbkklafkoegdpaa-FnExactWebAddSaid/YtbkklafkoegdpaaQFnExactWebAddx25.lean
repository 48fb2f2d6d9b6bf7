import Derived.Test.YtbkklafkoegdpaaQFnExactWebAddx0
namespace Go.Proofs.Ytbkklafkoegdpaa.QFnExactWebAdd
open Go.RowKit Go.Proofs.YtbkklafkoegdpaaW.PrintWords Go.Proofs.YtbkklafkoegdpaaW.PrintLast Go.Proofs.YtbkklafkoegdpaaW.PrintMore
set_option maxHeartbeats 8000000
set_option maxRecDepth 100000
set_option linter.unusedVariables false
set_option linter.unusedSimpArgs false
def laws_heldLedgeS.l0 : Nat → List (S72) → Int → Int → Option (Int)
  | 0, _, _, _ => none
  | k + 1, x0, x1, x5 => if x5 < (x0.length : Int) then (if 0 ≤ x5 then (if ((rd_T72 x0 x5).f0) = x1 then (if ((rd_T72 x0 x5).f1) = (wrap64 (x1 + 1)) then (if ((rd_T72 x0 x5).f2) = (wrap64 ((wrap64 (x1 + 1)) + 1)) then (if (((rd_T72 x0 x5).f3) != ((Int.tmod (wrap64 ((wrap64 ((wrap64 (x1 + 1)) + 1)) + 1)) 3) == 0)) = true then (some (-1)) else (laws_heldLedgeS.l0 k x0 (wrap64 ((wrap64 ((wrap64 ((wrap64 (x1 + 1)) + 1)) + 1)) + 1)) (wrap64 (x5 + 1)))) else (some (-1))) else (some (-1))) else (some (-1))) else (none)) else (some x1)
def laws_heldLedgeS.f (k : Nat) (l0 : List (S72)) (a1 : Int) : Option (Int) := laws_heldLedgeS.l0 k l0 a1 0
theorem laws_heldLedgeS.mono_l : ∀ k, (∀ y0 y1 y2, LeO (laws_heldLedgeS.l0 k y0 y1 y2) (laws_heldLedgeS.l0 (k + 1) y0 y1 y2))
  | 0 => fun _ _ _ r h => by simp [laws_heldLedgeS.l0] at h
  | k + 1 => by
    have ih0 := laws_heldLedgeS.mono_l k
    · intro y0 y1 y2
      unfold laws_heldLedgeS.l0
      exact lo_
theorem laws_heldLedgeS.mono : ∀ a0 a1 k, LeO (laws_heldLedgeS.f k a0 a1) (laws_heldLedgeS.f (k + 1) a0 a1) := by
  intro a0 a1 k
  have ih0 := laws_heldLedgeS.mono_l k
  unfold laws_heldLedgeS.f
  exact lo_
theorem laws_heldLedgeS.calls (k : Nat) (A0 : Option Addr) (c0 : Nat) (l0 : List (S72)) (a1 : Int) (r : Int) (w : World) (hr0 : Kd.C k72 w A0 l0.length l0) (hc0 : l0.length ≤ c0) (h : laws_heldLedgeS.f k l0 a1 = some r) :
  Calls Try.prog 92 #[.slice A0 l0.length c0, .int .i64 a1] w fun e w' => e = .returned (.int .i64 r) ∧ Drawn0 w w' := by
 have a9 := am_ hr0
 have b8 := am_ hc0
 clear hr0 hc0
 rw [laws_heldLedgeS.f] at h; have H := h; clear h; have H' := am_ H; clear H
 go_enter Try.func92, Try.ntmps92
 go_wp2
 go_loopg [1, 5] k (fun kq v1 v5 w' => ∃ (x1_1 : Int) (x5_1 : Int), v1 = .int .i64 x1_1 ∧ v5 = .int .i64 x5_1 ∧ Aside0 (laws_heldLedgeS.l0 kq l0 x1_1 x5_1 = some r) ∧ Aside0 (kq ≤ k) ∧ Drawn0 w w')
 case atStart => exact ⟨(a1), (0), qe_, qe_, H', ⟨Nat.le_refl _⟩, by repeat (first | exact Drawn0.refl _ | apply Drawn0.step)⟩
 case round =>
  clear H'
  (try clear p2)
  obtain ⟨x1_1, x5_1, rfl, rfl, HA, HK1, ⟨m1, rfl⟩⟩ := hrel
  cases gk with
  | zero => exact absurd HA.out (by simp [laws_heldLedgeS.l0])
  | succ k1 =>
   have H := HA.out; clear HA
   simp only [laws_heldLedgeS.l0] at H
   refine ib_ H ?_ ?_ <;> clear H <;> intro c3b0 H
   ·obtain rfl := oi_ H
    go_wp2
    go_ret
    exact ⟨by first | rfl | (simp; done) | (simp [*]; done), by repeat (first | exact Drawn0.refl _ | apply Drawn0.step)⟩
   refine ig_ H ?_; clear H; intro c4b0 H
   refine jb_ H ?_ ?_ <;> clear H <;> intro c5 H
   ·have c5b0 : (((rd_T72 l0 x5_1).f0) == x1_1) = false := beq_eq_false_iff_ne.mpr c5
    have c5b1 : (((rd_T72 l0 x5_1).f0) != x1_1) = true := bne_iff_ne.mpr c5
    obtain rfl := oi_ H
    have p612 := dp_ x5_1
    have q612 := dl_ x5_1 l0.length
    obtain ⟨ad612, e612, a0, a2, a3, a4⟩ := at_T72 a9.out x5_1 p612 q612
    cases e612; replace p612 := eq_true p612; replace q612 := eq_true q612
    go_wp2
    go_ret
    exact ⟨by first | rfl | (simp; done) | (simp [*]; done), by repeat (first | exact Drawn0.refl _ | apply Drawn0.step)⟩
   have c5b0 : (((rd_T72 l0 x5_1).f0) == x1_1) = true := beq_iff_eq.mpr c5
   have c5b1 : (((rd_T72 l0 x5_1).f0) != x1_1) = false := bne_eq_false_iff_eq.mpr c5
   clear c5
   refine jb_ H ?_ ?_ <;> clear H <;> intro c6 H
   ·have c6b0 : (((rd_T72 l0 x5_1).f1) == (wrap64 (x1_1 + 1))) = false := beq_eq_false_iff_ne.mpr c6
    have c6b1 : (((rd_T72 l0 x5_1).f1) != (wrap64 (x1_1 + 1))) = true := bne_iff_ne.mpr c6
    obtain rfl := oi_ H
    have p612 := dp_ x5_1
    have q612 := dl_ x5_1 l0.length
    obtain ⟨ad612, e612, a0, a2, a3, a4⟩ := at_T72 a9.out x5_1 p612 q612
    cases e612; replace p612 := eq_true p612; replace q612 := eq_true q612
    have p613 := dp_ x5_1
    have q613 := dl_ x5_1 l0.length
    obtain ⟨ad613, e613, a5, a6, a7, a8⟩ := at_T72 a9.out x5_1 p613 q613
    obtain rfl : ad612 = ad613 := (by injection e613)
    replace p613 := eq_true p613; replace q613 := eq_true q613
    go_wp2
    go_ret
    exact ⟨by first | rfl | (simp; done) | (simp [*]; done), by repeat (first | exact Drawn0.refl _ | apply Drawn0.step)⟩
   have c6b0 : (((rd_T72 l0 x5_1).f1) == (wrap64 (x1_1 + 1))) = true := beq_iff_eq.mpr c6
   have c6b1 : (((rd_T72 l0 x5_1).f1) != (wrap64 (x1_1 + 1))) = false := bne_eq_false_iff_eq.mpr c6
   clear c6
   refine jb_ H ?_ ?_ <;> clear H <;> intro c7 H
   ·have c7b0 : (((rd_T72 l0 x5_1).f2) == (wrap64 ((wrap64 (x1_1 + 1)) + 1))) = false := beq_eq_false_iff_ne.mpr c7
    have c7b1 : (((rd_T72 l0 x5_1).f2) != (wrap64 ((wrap64 (x1_1 + 1)) + 1))) = true := bne_iff_ne.mpr c7
    obtain rfl := oi_ H
    have p612 := dp_ x5_1
    have q612 := dl_ x5_1 l0.length
    obtain ⟨ad612, e612, a0, a2, a3, a4⟩ := at_T72 a9.out x5_1 p612 q612
    cases e612; replace p612 := eq_true p612; replace q612 := eq_true q612
    have p613 := dp_ x5_1
    have q613 := dl_ x5_1 l0.length
    obtain ⟨ad613, e613, a5, a6, a7, a8⟩ := at_T72 a9.out x5_1 p613 q613
    obtain rfl : ad612 = ad613 := (by injection e613)
    replace p613 := eq_true p613; replace q613 := eq_true q613
    have p614 := dp_ x5_1
    have q614 := dl_ x5_1 l0.length
    obtain ⟨ad614, e614, b0, b1, b2, b3⟩ := at_T72 a9.out x5_1 p614 q614
    obtain rfl : ad612 = ad614 := (by injection e614)
    replace p614 := eq_true p614; replace q614 := eq_true q614
    go_wp2
    go_ret
    exact ⟨by first | rfl | (simp; done) | (simp [*]; done), by repeat (first | exact Drawn0.refl _ | apply Drawn0.step)⟩
   have c7b0 : (((rd_T72 l0 x5_1).f2) == (wrap64 ((wrap64 (x1_1 + 1)) + 1))) = true := beq_iff_eq.mpr c7
   have c7b1 : (((rd_T72 l0 x5_1).f2) != (wrap64 ((wrap64 (x1_1 + 1)) + 1))) = false := bne_eq_false_iff_eq.mpr c7
   clear c7
   refine jc_ H ?_ ?_ <;> clear H <;> intro c8 H
   ·have c8b0 : (((rd_T72 l0 x5_1).f3) != ((Int.tmod (wrap64 ((wrap64 ((wrap64 (x1_1 + 1)) + 1)) + 1)) 3) == 0)) = true := c8
    (try (have c8b1 : decide (((rd_T72 l0 x5_1).f3) = ((Int.tmod (wrap64 ((wrap64 ((wrap64 (x1_1 + 1)) + 1)) + 1)) 3) == 0)) = false := by simpa using c8))
    (try (have c8b2 : (((rd_T72 l0 x5_1).f3) == ((Int.tmod (wrap64 ((wrap64 ((wrap64 (x1_1 + 1)) + 1)) + 1)) 3) == 0)) = false := by simpa using c8))
    (try (have c8b3 : ¬ (((rd_T72 l0 x5_1).f3) = ((Int.tmod (wrap64 ((wrap64 ((wrap64 (x1_1 + 1)) + 1)) + 1)) 3) == 0)) := by simpa using c8))
    clear c8
    obtain rfl := oi_ H
    have p612 := dp_ x5_1
    have q612 := dl_ x5_1 l0.length
    obtain ⟨ad612, e612, a0, a2, a3, a4⟩ := at_T72 a9.out x5_1 p612 q612
    cases e612; replace p612 := eq_true p612; replace q612 := eq_true q612
    have p613 := dp_ x5_1
    have q613 := dl_ x5_1 l0.length
    obtain ⟨ad613, e613, a5, a6, a7, a8⟩ := at_T72 a9.out x5_1 p613 q613
    obtain rfl : ad612 = ad613 := (by injection e613)
    replace p613 := eq_true p613; replace q613 := eq_true q613
    have p614 := dp_ x5_1
    have q614 := dl_ x5_1 l0.length
    obtain ⟨ad614, e614, b0, b1, b2, b3⟩ := at_T72 a9.out x5_1 p614 q614
    obtain rfl : ad612 = ad614 := (by injection e614)
    replace p614 := eq_true p614; replace q614 := eq_true q614
    have p615 := dp_ x5_1
    have q615 := dl_ x5_1 l0.length
    obtain ⟨ad615, e615, b4, b5, b6, b7⟩ := at_T72 a9.out x5_1 p615 q615
    obtain rfl : ad612 = ad615 := (by injection e615)
    replace p615 := eq_true p615; replace q615 := eq_true q615
    go_wp2
    go_ret
    exact ⟨by first | rfl | (simp; done) | (simp [*]; done), by repeat (first | exact Drawn0.refl _ | apply Drawn0.step)⟩
   have c8b0 : (((rd_T72 l0 x5_1).f3) != ((Int.tmod (wrap64 ((wrap64 ((wrap64 (x1_1 + 1)) + 1)) + 1)) 3) == 0)) = false := by simpa using c8
   (try (have c8b1 : decide (((rd_T72 l0 x5_1).f3) = ((Int.tmod (wrap64 ((wrap64 ((wrap64 (x1_1 + 1)) + 1)) + 1)) 3) == 0)) = true := by simpa using c8))
   (try (have c8b2 : (((rd_T72 l0 x5_1).f3) == ((Int.tmod (wrap64 ((wrap64 ((wrap64 (x1_1 + 1)) + 1)) + 1)) 3) == 0)) = true := by simpa using c8))
   clear c8; have H' := am_ H; clear H
   have p612 := dp_ x5_1
   have q612 := dl_ x5_1 l0.length
   obtain ⟨ad612, e612, a0, a2, a3, a4⟩ := at_T72 a9.out x5_1 p612 q612
   cases e612; replace p612 := eq_true p612; replace q612 := eq_true q612
   have p613 := dp_ x5_1
   have q613 := dl_ x5_1 l0.length
   obtain ⟨ad613, e613, a5, a6, a7, a8⟩ := at_T72 a9.out x5_1 p613 q613
   obtain rfl : ad612 = ad613 := (by injection e613)
   replace p613 := eq_true p613; replace q613 := eq_true q613
   have p614 := dp_ x5_1
   have q614 := dl_ x5_1 l0.length
   obtain ⟨ad614, e614, b0, b1, b2, b3⟩ := at_T72 a9.out x5_1 p614 q614
   obtain rfl : ad612 = ad614 := (by injection e614)
   replace p614 := eq_true p614; replace q614 := eq_true q614
   have p615 := dp_ x5_1
   have q615 := dl_ x5_1 l0.length
   obtain ⟨ad615, e615, b4, b5, b6, b7⟩ := at_T72 a9.out x5_1 p615 q615
   obtain rfl : ad612 = ad615 := (by injection e615)
   replace p615 := eq_true p615; replace q615 := eq_true q615
   go_wp2
   go_roundg k1
   case measure => have := HK1.out; omega
   case rel => exact ⟨(wrap64 ((wrap64 ((wrap64 ((wrap64 (x1_1 + 1)) + 1)) + 1)) + 1)), (wrap64 (x5_1 + 1)), qe_, qe_, H', ⟨by have := HK1.out; omega⟩, by repeat (first | exact Drawn0.refl _ | apply Drawn0.step)⟩
def laws_heldWeb.f (k : Nat) (a0_0 : Int) (l0_1 : List (S72)) (a1 : Int) : Option (Int) := (laws_heldLedgeS.f k l0_1 a1).bind fun t617 => (if t617 < 0 then (some (-1)) else (some t617))
theorem laws_heldWeb.mono : ∀ a0 a1 a2 k, LeO (laws_heldWeb.f k a0 a1 a2) (laws_heldWeb.f (k + 1) a0 a1 a2) := by
  intro a0 a1 a2 k
  have m0 := @laws_heldLedgeS.mono
  unfold laws_heldWeb.f
  exact lo_
theorem laws_heldWeb.calls (k : Nat) (a0_0 : Int) (A0_1 : Option Addr) (c0_1 : Nat) (l0_1 : List (S72)) (a1 : Int) (r : Int) (w : World) (hr0_1 : Kd.C k72 w A0_1 l0_1.length l0_1) (hc0_1 : l0_1.length ≤ c0_1) (h : laws_heldWeb.f k a0_0 l0_1 a1 = some r) :
  Calls Try.prog 40 #[.agg #[.int .i64 a0_0, .slice A0_1 l0_1.length c0_1], .int .i64 a1] w fun e w' => e = .returned (.int .i64 r) ∧ Below w.heap.size w w' := by
 have hu29 := Try.underlying29
 have HR0_1 := am_ hr0_1
 have HC0_1 := am_ hc0_1
 clear hr0_1 hc0_1
 have HB := am_ (Below.refl w.heap.size w)
 rw [laws_heldWeb.f] at h; have H := h; clear h
 obtain ⟨a0, A3, H⟩ := bs_ H
 refine ic_ H ?_ ?_ <;> clear H <;> intro c4b0 H
 ·obtain rfl := oi_ H
  go_enter Try.func40, Try.ntmps40
  go_wp2_with (first | ((with_reducible refine gd_ 2 ?_); refine by_ 2 (cs := #[.int .i64 a0_0, .slice A0_1 l0_1.length c0_1]) (t := 29) ?_; intro a4 hg w5 a2 hb; have a3 := gw_ hg; replace HB := hs_ hb; clear hb hg; obtain ⟨a6, a7, a8, a9⟩ := bc2_ a2) | ((with_reducible refine gc_ 92 ?_); refine gl_ (some 8) Try.func92 #[.slice A0_1 l0_1.length c0_1, .int .i64 a1] ?_; (with_reducible refine (laws_heldLedgeS.calls k _ _ l0_1 a1 a0 _ ?_ ?_ A3.out).mono ?_); exact qC_ HR0_1 HB; exact HC0_1.out; rintro e w' ⟨rfl, ⟨nd, rfl⟩⟩; refine ⟨_, rfl, ?_⟩))
  go_ret
  exact ⟨qr_, qB_⟩
 obtain rfl := oi_ H
 go_enter Try.func40, Try.ntmps40
 go_wp2_with (first | ((with_reducible refine gd_ 2 ?_); refine by_ 2 (cs := #[.int .i64 a0_0, .slice A0_1 l0_1.length c0_1]) (t := 29) ?_; intro a4 hg w7 a2 hb; have a3 := gw_ hg; replace HB := hs_ hb; clear hb hg; obtain ⟨b0, b1, b2, b3⟩ := bc2_ a2) | ((with_reducible refine gc_ 92 ?_); refine gl_ (some 8) Try.func92 #[.slice A0_1 l0_1.length c0_1, .int .i64 a1] ?_; (with_reducible refine (laws_heldLedgeS.calls k _ _ l0_1 a1 a0 _ ?_ ?_ A3.out).mono ?_); exact qC_ HR0_1 HB; exact HC0_1.out; rintro e w' ⟨rfl, ⟨nd, rfl⟩⟩; refine ⟨_, rfl, ?_⟩))
 go_ret
 exact ⟨qr_, qB_⟩
end Go.Proofs.Ytbkklafkoegdpaa.QFnExactWebAdd
