-- printed for this claim by a program of the session's own (no text of the kit's print)
import Derived.Test.YtbkklafkoegdpaaQFnExactWebOkx0
import Derived.Test.YtbkklafkoegdpaaQFnExactWebOkx2
import Derived.Test.YtbkklafkoegdpaaQFnExactWebOkx10
import Derived.Test.YtbkklafkoegdpaaQFnExactWebOkx11
import Derived.Test.YtbkklafkoegdpaaQFnExactWebOkx15
namespace Go.Proofs.Ytbkklafkoegdpaa.QFnExactWebOk
open Go.RowKit Go.Proofs.YtbkklafkoegdpaaW.PrintWords Go.Proofs.YtbkklafkoegdpaaW.PrintLast Go.Proofs.YtbkklafkoegdpaaW.PrintMore
attribute [local go_sem] max2_int min2_int max_two min_two max_three min_three max_four min_four   -- for this text's walks alone
set_option linter.unusedVariables false
set_option linter.unusedSimpArgs false

/-! ### laws_eqLedge: function 115 -/
def laws_eqLedge.f (a0_0 : Int) (a0_1 : Int) (a0_2 : Int) (a0_3 : Bool) (a1_0 : Int) (a1_1 : Int) (a1_2 : Int) (a1_3 : Bool) : Option (Bool) := if a0_0 = a1_0 then (if a0_1 = a1_1 then (if a0_2 = a1_2 then (if (a0_3 != a1_3) = true then (some false) else (some true)) else (some false)) else (some false)) else (some false)
set_option maxHeartbeats 8000000 in
set_option maxRecDepth 100000 in
theorem laws_eqLedge.calls (a0_0 : Int) (a0_1 : Int) (a0_2 : Int) (a0_3 : Bool) (a1_0 : Int) (a1_1 : Int) (a1_2 : Int) (a1_3 : Bool) (r : Bool) (w : World) (h : laws_eqLedge.f a0_0 a0_1 a0_2 a0_3 a1_0 a1_1 a1_2 a1_3 = some r) :
  Calls Try.prog 115 #[.agg #[.int .i64 a0_0, .int .i64 a0_1, .int .i64 a0_2, .bool a0_3], .agg #[.int .i64 a1_0, .int .i64 a1_1, .int .i64 a1_2, .bool a1_3]] w fun e w' => e = .returned (.bool r) ∧ Below w.heap.size w w' := by
 have hu72 := Try.underlying72
 have HB := Aside0.mk (Below.refl w.heap.size w)
 have H : (if a0_0 = a1_0 then (if a0_1 = a1_1 then (if a0_2 = a1_2 then (if (a0_3 != a1_3) = true then (some false) else (some true)) else (some false)) else (some false)) else (some false)) = some r := h
 clear h
 by_cases c3 : a0_0 = a1_0
 ·rw [if_pos c3] at H
  have c3b0 : (a0_0 == a1_0) = true := beq_iff_eq.mpr c3
  have c3b1 : (a0_0 != a1_0) = false := bne_eq_false_iff_eq.mpr c3
  clear c3
  by_cases c4 : a0_1 = a1_1
  ·rw [if_pos c4] at H
   have c4b0 : (a0_1 == a1_1) = true := beq_iff_eq.mpr c4
   have c4b1 : (a0_1 != a1_1) = false := bne_eq_false_iff_eq.mpr c4
   clear c4
   by_cases c5 : a0_2 = a1_2
   ·rw [if_pos c5] at H
    have c5b0 : (a0_2 == a1_2) = true := beq_iff_eq.mpr c5
    have c5b1 : (a0_2 != a1_2) = false := bne_eq_false_iff_eq.mpr c5
    clear c5
    by_cases c6 : (a0_3 != a1_3) = true
    ·rw [if_pos c6] at H
     have c6b0 : (a0_3 != a1_3) = true := c6
     (try (have c6b1 : decide (a0_3 = a1_3) = false := by simpa using c6))
     (try (have c6b2 : (a0_3 == a1_3) = false := by simpa using c6))
     (try (have c6b3 : ¬ (a0_3 = a1_3) := by simpa using c6))
     clear c6
     obtain rfl := Option.some.inj H
     go_enter Try.func115, Try.ntmps115
     go_wp2_with (first | ((with_reducible refine gate_dst (N := 2) rfl ?_); refine bx_ 2 (cs := #[.int .i64 a0_0, .int .i64 a0_1, .int .i64 a0_2, .bool a0_3]) (t := 72) ?_; intro gb383 hg w7 hbox hb; have BK383 := Aside0.mk (hbox); have GW383 := Aside0.mk ((qs_ : w.heap.size ≤ gb383)); have GE383 := Aside0.mk ((qs_ : w.heap.size ≤ gb383)); replace HB := Aside0.mk (below_step qB_ hb); clear hb hbox hg) | ((with_reducible refine gate_dst (N := 3) rfl ?_); refine bx_ 3 (cs := #[.int .i64 a1_0, .int .i64 a1_1, .int .i64 a1_2, .bool a1_3]) (t := 72) ?_; intro gb384 hg w8 hbox hb; have BK384 := Aside0.mk (hbox); have GW384 := Aside0.mk ((qs_ : w.heap.size ≤ gb384)); have GE384 := Aside0.mk ((qs_ : w.heap.size ≤ gb384)); have NB383_384 := Aside0.mk ((by rw [hg]; exact Nat.ne_of_lt (blk_lt (qk_ BK383)) : gb383 ≠ gb384)); have NB384_383 := Aside0.mk ((by rw [hg]; exact Nat.ne_of_gt (blk_lt (qk_ BK383)) : gb384 ≠ gb383)); replace BK383 := Aside0.mk (blk_below (qk_ BK383) hb); replace HB := Aside0.mk (below_step qB_ hb); clear hb hbox hg; have hnb9 := NB383_384.out; have hnc9 := NB384_383.out; obtain ⟨hcz10_0, hcz10_1, hcz10_2, hcz10_3, hfz10_0, hfz10_1, hfz10_2, hfz10_3⟩ := bc4_ BK383; obtain ⟨hcz11_0, hcz11_1, hcz11_2, hcz11_3, hfz11_0, hfz11_1, hfz11_2, hfz11_3⟩ := bc4_ BK384))
     go_ret
     exact ⟨qr_, qB_⟩
    ·rw [if_neg c6] at H
     have c6b0 : (a0_3 != a1_3) = false := by simpa using c6
     (try (have c6b1 : decide (a0_3 = a1_3) = true := by simpa using c6))
     (try (have c6b2 : (a0_3 == a1_3) = true := by simpa using c6))
     clear c6
     obtain rfl := Option.some.inj H
     go_enter Try.func115, Try.ntmps115
     go_wp2_with (first | ((with_reducible refine gate_dst (N := 2) rfl ?_); refine bx_ 2 (cs := #[.int .i64 a0_0, .int .i64 a0_1, .int .i64 a0_2, .bool a0_3]) (t := 72) ?_; intro gb383 hg w12 hbox hb; have BK383 := Aside0.mk (hbox); have GW383 := Aside0.mk ((qs_ : w.heap.size ≤ gb383)); have GE383 := Aside0.mk ((qs_ : w.heap.size ≤ gb383)); replace HB := Aside0.mk (below_step qB_ hb); clear hb hbox hg) | ((with_reducible refine gate_dst (N := 3) rfl ?_); refine bx_ 3 (cs := #[.int .i64 a1_0, .int .i64 a1_1, .int .i64 a1_2, .bool a1_3]) (t := 72) ?_; intro gb384 hg w13 hbox hb; have BK384 := Aside0.mk (hbox); have GW384 := Aside0.mk ((qs_ : w.heap.size ≤ gb384)); have GE384 := Aside0.mk ((qs_ : w.heap.size ≤ gb384)); have NB383_384 := Aside0.mk ((by rw [hg]; exact Nat.ne_of_lt (blk_lt (qk_ BK383)) : gb383 ≠ gb384)); have NB384_383 := Aside0.mk ((by rw [hg]; exact Nat.ne_of_gt (blk_lt (qk_ BK383)) : gb384 ≠ gb383)); replace BK383 := Aside0.mk (blk_below (qk_ BK383) hb); replace HB := Aside0.mk (below_step qB_ hb); clear hb hbox hg; have hnb14 := NB383_384.out; have hnc14 := NB384_383.out; obtain ⟨hcz15_0, hcz15_1, hcz15_2, hcz15_3, hfz15_0, hfz15_1, hfz15_2, hfz15_3⟩ := bc4_ BK383; obtain ⟨hcz16_0, hcz16_1, hcz16_2, hcz16_3, hfz16_0, hfz16_1, hfz16_2, hfz16_3⟩ := bc4_ BK384))
     go_ret
     exact ⟨qr_, qB_⟩
   ·rw [if_neg c5] at H
    have c5b0 : (a0_2 == a1_2) = false := beq_eq_false_iff_ne.mpr c5
    have c5b1 : (a0_2 != a1_2) = true := bne_iff_ne.mpr c5
    obtain rfl := Option.some.inj H
    go_enter Try.func115, Try.ntmps115
    go_wp2_with (first | ((with_reducible refine gate_dst (N := 2) rfl ?_); refine bx_ 2 (cs := #[.int .i64 a0_0, .int .i64 a0_1, .int .i64 a0_2, .bool a0_3]) (t := 72) ?_; intro gb383 hg w17 hbox hb; have BK383 := Aside0.mk (hbox); have GW383 := Aside0.mk ((qs_ : w.heap.size ≤ gb383)); have GE383 := Aside0.mk ((qs_ : w.heap.size ≤ gb383)); replace HB := Aside0.mk (below_step qB_ hb); clear hb hbox hg) | ((with_reducible refine gate_dst (N := 3) rfl ?_); refine bx_ 3 (cs := #[.int .i64 a1_0, .int .i64 a1_1, .int .i64 a1_2, .bool a1_3]) (t := 72) ?_; intro gb384 hg w18 hbox hb; have BK384 := Aside0.mk (hbox); have GW384 := Aside0.mk ((qs_ : w.heap.size ≤ gb384)); have GE384 := Aside0.mk ((qs_ : w.heap.size ≤ gb384)); have NB383_384 := Aside0.mk ((by rw [hg]; exact Nat.ne_of_lt (blk_lt (qk_ BK383)) : gb383 ≠ gb384)); have NB384_383 := Aside0.mk ((by rw [hg]; exact Nat.ne_of_gt (blk_lt (qk_ BK383)) : gb384 ≠ gb383)); replace BK383 := Aside0.mk (blk_below (qk_ BK383) hb); replace HB := Aside0.mk (below_step qB_ hb); clear hb hbox hg; have hnb19 := NB383_384.out; have hnc19 := NB384_383.out; obtain ⟨hcz20_0, hcz20_1, hcz20_2, hcz20_3, hfz20_0, hfz20_1, hfz20_2, hfz20_3⟩ := bc4_ BK383; obtain ⟨hcz21_0, hcz21_1, hcz21_2, hcz21_3, hfz21_0, hfz21_1, hfz21_2, hfz21_3⟩ := bc4_ BK384))
    go_ret
    exact ⟨qr_, qB_⟩
  ·rw [if_neg c4] at H
   have c4b0 : (a0_1 == a1_1) = false := beq_eq_false_iff_ne.mpr c4
   have c4b1 : (a0_1 != a1_1) = true := bne_iff_ne.mpr c4
   obtain rfl := Option.some.inj H
   go_enter Try.func115, Try.ntmps115
   go_wp2_with (first | ((with_reducible refine gate_dst (N := 2) rfl ?_); refine bx_ 2 (cs := #[.int .i64 a0_0, .int .i64 a0_1, .int .i64 a0_2, .bool a0_3]) (t := 72) ?_; intro gb383 hg w22 hbox hb; have BK383 := Aside0.mk (hbox); have GW383 := Aside0.mk ((qs_ : w.heap.size ≤ gb383)); have GE383 := Aside0.mk ((qs_ : w.heap.size ≤ gb383)); replace HB := Aside0.mk (below_step qB_ hb); clear hb hbox hg) | ((with_reducible refine gate_dst (N := 3) rfl ?_); refine bx_ 3 (cs := #[.int .i64 a1_0, .int .i64 a1_1, .int .i64 a1_2, .bool a1_3]) (t := 72) ?_; intro gb384 hg w23 hbox hb; have BK384 := Aside0.mk (hbox); have GW384 := Aside0.mk ((qs_ : w.heap.size ≤ gb384)); have GE384 := Aside0.mk ((qs_ : w.heap.size ≤ gb384)); have NB383_384 := Aside0.mk ((by rw [hg]; exact Nat.ne_of_lt (blk_lt (qk_ BK383)) : gb383 ≠ gb384)); have NB384_383 := Aside0.mk ((by rw [hg]; exact Nat.ne_of_gt (blk_lt (qk_ BK383)) : gb384 ≠ gb383)); replace BK383 := Aside0.mk (blk_below (qk_ BK383) hb); replace HB := Aside0.mk (below_step qB_ hb); clear hb hbox hg; have hnb24 := NB383_384.out; have hnc24 := NB384_383.out; obtain ⟨hcz25_0, hcz25_1, hcz25_2, hcz25_3, hfz25_0, hfz25_1, hfz25_2, hfz25_3⟩ := bc4_ BK383; obtain ⟨hcz26_0, hcz26_1, hcz26_2, hcz26_3, hfz26_0, hfz26_1, hfz26_2, hfz26_3⟩ := bc4_ BK384))
   go_ret
   exact ⟨qr_, qB_⟩
 ·rw [if_neg c3] at H
  have c3b0 : (a0_0 == a1_0) = false := beq_eq_false_iff_ne.mpr c3
  have c3b1 : (a0_0 != a1_0) = true := bne_iff_ne.mpr c3
  obtain rfl := Option.some.inj H
  go_enter Try.func115, Try.ntmps115
  go_wp2_with (first | ((with_reducible refine gate_dst (N := 2) rfl ?_); refine bx_ 2 (cs := #[.int .i64 a0_0, .int .i64 a0_1, .int .i64 a0_2, .bool a0_3]) (t := 72) ?_; intro gb383 hg w27 hbox hb; have BK383 := Aside0.mk (hbox); have GW383 := Aside0.mk ((qs_ : w.heap.size ≤ gb383)); have GE383 := Aside0.mk ((qs_ : w.heap.size ≤ gb383)); replace HB := Aside0.mk (below_step qB_ hb); clear hb hbox hg) | ((with_reducible refine gate_dst (N := 3) rfl ?_); refine bx_ 3 (cs := #[.int .i64 a1_0, .int .i64 a1_1, .int .i64 a1_2, .bool a1_3]) (t := 72) ?_; intro gb384 hg w28 hbox hb; have BK384 := Aside0.mk (hbox); have GW384 := Aside0.mk ((qs_ : w.heap.size ≤ gb384)); have GE384 := Aside0.mk ((qs_ : w.heap.size ≤ gb384)); have NB383_384 := Aside0.mk ((by rw [hg]; exact Nat.ne_of_lt (blk_lt (qk_ BK383)) : gb383 ≠ gb384)); have NB384_383 := Aside0.mk ((by rw [hg]; exact Nat.ne_of_gt (blk_lt (qk_ BK383)) : gb384 ≠ gb383)); replace BK383 := Aside0.mk (blk_below (qk_ BK383) hb); replace HB := Aside0.mk (below_step qB_ hb); clear hb hbox hg; have hnb29 := NB383_384.out; have hnc29 := NB384_383.out; obtain ⟨hcz30_0, hcz30_1, hcz30_2, hcz30_3, hfz30_0, hfz30_1, hfz30_2, hfz30_3⟩ := bc4_ BK383; obtain ⟨hcz31_0, hcz31_1, hcz31_2, hcz31_3, hfz31_0, hfz31_1, hfz31_2, hfz31_3⟩ := bc4_ BK384))
  go_ret
  exact ⟨qr_, qB_⟩

/-! ### laws_eqLedgeS: function 69 -/
def laws_eqLedgeS.l0 : Nat → List (S72) → List (S72) → Int → Option (Bool)
  | 0, _, _, _ => none
  | k + 1, x0, x1, x5 => if x5 < (x0.length : Int) then (if 0 ≤ x5 then (if x5 < (x1.length : Int) then ((laws_eqLedge.f ((rd_T72 x0 x5).f0) ((rd_T72 x0 x5).f1) ((rd_T72 x0 x5).f2) ((rd_T72 x0 x5).f3) ((rd_T72 x1 x5).f0) ((rd_T72 x1 x5).f1) ((rd_T72 x1 x5).f2) ((rd_T72 x1 x5).f3)).bind fun t387 => (if t387 = true then (laws_eqLedgeS.l0 k x0 x1 (wrap64 (x5 + 1))) else (some false))) else (none)) else (none)) else (some true)
def laws_eqLedgeS.f (k : Nat) (l0 : List (S72)) (l1 : List (S72)) : Option (Bool) := if (l0.length : Int) = (l1.length : Int) then (laws_eqLedgeS.l0 k l0 l1 0) else (some false)
theorem laws_eqLedgeS.mono_l : ∀ k, (∀ y0 y1 y2, LeO (laws_eqLedgeS.l0 k y0 y1 y2) (laws_eqLedgeS.l0 (k + 1) y0 y1 y2))
  | 0 => fun _ _ _ r h => by simp [laws_eqLedgeS.l0] at h
  | k + 1 => by
    have ih0 := laws_eqLedgeS.mono_l k
    · intro y0 y1 y2
      unfold laws_eqLedgeS.l0
      repeat' first
      | (with_reducible exact ih0 _ _ _)
      | (with_reducible exact LeO.refl _)
      | (with_reducible exact LeO.none _)
      | (with_reducible refine LeO.ite ?_ ?_)
      | (with_reducible refine LeO.bind ?_ (fun _ => ?_))
      | exact ih0 _ _ _
      | exact LeO.none _
      | refine LeO.ite ?_ ?_
      | refine LeO.bind ?_ (fun _ => ?_)
theorem laws_eqLedgeS.mono : ∀ a0 a1 k, LeO (laws_eqLedgeS.f k a0 a1) (laws_eqLedgeS.f (k + 1) a0 a1) := by
  intro a0 a1 k
  have ih0 := laws_eqLedgeS.mono_l k
  unfold laws_eqLedgeS.f
  repeat' first
      | (with_reducible exact ih0 _ _ _)
      | (with_reducible exact LeO.refl _)
      | (with_reducible exact LeO.none _)
      | (with_reducible refine LeO.ite ?_ ?_)
      | (with_reducible refine LeO.bind ?_ (fun _ => ?_))
      | exact ih0 _ _ _
      | exact LeO.none _
      | refine LeO.ite ?_ ?_
      | refine LeO.bind ?_ (fun _ => ?_)
def laws_eqLedgeS.T6 : Bool × List (List Nat × List Nat) := (true, [([], []), ([], []), ([0, 1], [0, 1]), ([2], [2]), ([], []), ([], []), ([4, 5], [4, 5]), ([6], [6]), ([3, 7], [3, 7]), ([8], [8])])
def laws_eqLedgeS.B6 : List Nat := [0, 0, 3, 7, 0, 0, 48, 112, 255, 511]
theorem laws_eqLedgeS.tab6 : rtab .any (opsOf Try.f69 6) = laws_eqLedgeS.T6 := by kernel_rfl
theorem laws_eqLedgeS.bits6 : waitsOk laws_eqLedgeS.T6.2 laws_eqLedgeS.B6 = true := by kernel_rfl
set_option maxHeartbeats 8000000 in
set_option maxRecDepth 100000 in
theorem laws_eqLedgeS.calls (k : Nat) (A0 : Option Addr) (c0 : Nat) (l0 : List (S72)) (A1 : Option Addr) (c1 : Nat) (l1 : List (S72)) (r : Bool) (w : World) (hr0 : Kd.C k72 w A0 l0.length l0) (hc0 : l0.length ≤ c0) (hr1 : Kd.C k72 w A1 l1.length l1) (hc1 : l1.length ≤ c1) (h : laws_eqLedgeS.f k l0 l1 = some r) :
  Calls Try.prog 69 #[.slice A0 l0.length c0, .slice A1 l1.length c1] w fun e w' => e = .returned (.bool r) ∧ Below w.heap.size w w' := by
 have hu72 := Try.underlying72
 have HR0 := Aside0.mk hr0
 have HC0 := Aside0.mk hc0
 clear hr0 hc0
 have HR1 := Aside0.mk hr1
 have HC1 := Aside0.mk hc1
 clear hr1 hc1
 have HB := Aside0.mk (Below.refl w.heap.size w)
 have H : (if (l0.length : Int) = (l1.length : Int) then (laws_eqLedgeS.l0 k l0 l1 0) else (some false)) = some r := h
 clear h
 by_cases c3 : (l0.length : Int) = (l1.length : Int)
 ·rw [if_pos c3] at H
  have c3b0 : ((l0.length : Int) == (l1.length : Int)) = true := beq_iff_eq.mpr c3
  have c3b1 : ((l0.length : Int) != (l1.length : Int)) = false := bne_eq_false_iff_eq.mpr c3
  have c3b2 : (l0.length == l1.length) = true := by first | simpa using c3 | (simp at c3 ⊢; omega)
  clear c3; have H' := Aside0.mk H; clear H
  go_enter Try.func69, Try.ntmps69
  go_wp2
  go_loopg [5] k (fun kq v5 w' => ∃ (x5_1 : Int), v5 = .int .i64 x5_1 ∧ Aside0 (laws_eqLedgeS.l0 kq l0 l1 x5_1 = some r) ∧ Aside0 (kq ≤ k) ∧ Aside0 (Below w.heap.size w w'))
  case atStart => exact ⟨(0), qe_, H', ⟨Nat.le_refl _⟩, ⟨qB_⟩⟩
  case round =>
   clear H'
   (try clear c1); (try clear p2); (try clear c3); (try clear c3b0); (try clear c3b1); (try clear c3b2)
   obtain ⟨x5_1, rfl, HA, HK1, HB⟩ := hrel
   cases gk with
   | zero => exact absurd HA.out (by simp [laws_eqLedgeS.l0])
   | succ k1 =>
    have H := HA.out; clear HA
    simp only [laws_eqLedgeS.l0] at H
    by_cases c4 : x5_1 < (l0.length : Int)
    ·rw [if_pos c4] at H
     have c4b0 : decide (x5_1 < (l0.length : Int)) = true := decide_eq_true c4
     clear c4
     by_cases c5 : 0 ≤ x5_1
     ·rw [if_pos c5] at H
      have c5b0 : decide (0 ≤ x5_1) = true := decide_eq_true c5
      clear c5
      by_cases c6 : x5_1 < (l1.length : Int)
      ·rw [if_pos c6] at H
       have c6b0 : decide (x5_1 < (l1.length : Int)) = true := decide_eq_true c6
       clear c6
       obtain ⟨t387, A70, H⟩ := Option.bind_eq_some_iff.mp H; have A7 := Aside0.mk A70; clear A70
       by_cases c8 : t387 = true
       ·subst c8
        rw [if_pos rfl] at H; have H' := Aside0.mk H; clear H
        try go_wp2
        have n0_ := Aside0.mk (below_drew1 HB.out)
        clear HB; have HB := n0_; clear n0_
        have p385 : 0 ≤ (x5_1 : Int) := of_decide_eq_true qa_
        have q385 : x5_1 < (l0.length : Int) := of_decide_eq_true qa_
        obtain ⟨ad385, e385, hx385_0, hx385_1, hx385_2, hx385_3⟩ := at_T72 HR0.out x5_1 p385 q385
        have hw385_3 := hx385_3; have hw385_2 := hx385_2; have hw385_1 := hx385_1; have hw385_0 := hx385_0; cases e385
        replace hx385_0 := (HB.out.cell (World.block_lt_of_cell? w _ hx385_0)).trans hx385_0
        replace hx385_1 := (HB.out.cell (World.block_lt_of_cell? w _ hx385_1)).trans hx385_1
        replace hx385_2 := (HB.out.cell (World.block_lt_of_cell? w _ hx385_2)).trans hx385_2
        replace hx385_3 := (HB.out.cell (World.block_lt_of_cell? w _ hx385_3)).trans hx385_3
        replace p385 := eq_true p385; replace q385 := eq_true q385
        have p386 : 0 ≤ (x5_1 : Int) := of_decide_eq_true qa_
        have q386 : x5_1 < (l1.length : Int) := of_decide_eq_true qa_
        obtain ⟨ad386, e386, hx386_0, hx386_1, hx386_2, hx386_3⟩ := at_T72 HR1.out x5_1 p386 q386
        have hw386_3 := hx386_3; have hw386_2 := hx386_2; have hw386_1 := hx386_1; have hw386_0 := hx386_0; cases e386
        replace hx386_0 := (HB.out.cell (World.block_lt_of_cell? w _ hx386_0)).trans hx386_0
        replace hx386_1 := (HB.out.cell (World.block_lt_of_cell? w _ hx386_1)).trans hx386_1
        replace hx386_2 := (HB.out.cell (World.block_lt_of_cell? w _ hx386_2)).trans hx386_2
        replace hx386_3 := (HB.out.cell (World.block_lt_of_cell? w _ hx386_3)).trans hx386_3
        replace p386 := eq_true p386; replace q386 := eq_true q386
        refine start_ (n := 10) (S := fun w' => w'.cell? (ad385.add ((x5_1).toNat * 4)) = some (.int .i64 ((rd_T72 l0 x5_1).f0)) ∧ w'.cell? ⟨(ad385.add ((x5_1).toNat * 4)).block, (ad385.add ((x5_1).toNat * 4)).off + 1, none⟩ = some (.int .i64 ((rd_T72 l0 x5_1).f1)) ∧ w'.cell? ⟨(ad385.add ((x5_1).toNat * 4)).block, (ad385.add ((x5_1).toNat * 4)).off + 2, none⟩ = some (.int .i64 ((rd_T72 l0 x5_1).f2)) ∧ w'.cell? ⟨(ad385.add ((x5_1).toNat * 4)).block, (ad385.add ((x5_1).toNat * 4)).off + 3, none⟩ = some (.bool ((rd_T72 l0 x5_1).f3)) ∧ w'.cell? (ad386.add ((x5_1).toNat * 4)) = some (.int .i64 ((rd_T72 l1 x5_1).f0)) ∧ w'.cell? ⟨(ad386.add ((x5_1).toNat * 4)).block, (ad386.add ((x5_1).toNat * 4)).off + 1, none⟩ = some (.int .i64 ((rd_T72 l1 x5_1).f1)) ∧ w'.cell? ⟨(ad386.add ((x5_1).toNat * 4)).block, (ad386.add ((x5_1).toNat * 4)).off + 2, none⟩ = some (.int .i64 ((rd_T72 l1 x5_1).f2)) ∧ w'.cell? ⟨(ad386.add ((x5_1).toNat * 4)).block, (ad386.add ((x5_1).toNat * 4)).off + 3, none⟩ = some (.bool ((rd_T72 l1 x5_1).f3))) (ds := []) (bm 10 0) (by kernel_rfl) rfl (by kernel_rfl) ⟨((HB.out.cell (World.block_lt_of_cell? w _ hw385_0)).trans hw385_0), ((HB.out.cell (World.block_lt_of_cell? w _ hw385_1)).trans hw385_1), ((HB.out.cell (World.block_lt_of_cell? w _ hw385_2)).trans hw385_2), ((HB.out.cell (World.block_lt_of_cell? w _ hw385_3)).trans hw385_3), ((HB.out.cell (World.block_lt_of_cell? w _ hw386_0)).trans hw386_0), ((HB.out.cell (World.block_lt_of_cell? w _ hw386_1)).trans hw386_1), ((HB.out.cell (World.block_lt_of_cell? w _ hw386_2)).trans hw386_2), ((HB.out.cell (World.block_lt_of_cell? w _ hw386_3)).trans hw386_3)⟩ (fun hHeld => ?_); refine with_tabW laws_eqLedgeS.tab6 laws_eqLedgeS.bits6 (fun HT_ HW_ => ?_)
        generalize wr.drew = w9 at HB hx385_0 hx385_1 hx385_2 hx385_3 hx386_0 hx386_1 hx386_2 hx386_3 hHeld ⊢
        refine pz_ 0 17 (bm 10 1) ?_; refine pz_ 1 18 (bm 10 3) ?_; refine pz_ 2 19 (bm 10 7) ?_; refine pz_ 4 21 (bm 10 23) ?_; refine pz_ 5 22 (bm 10 55) ?_; refine pz_ 6 23 (bm 10 119) ?_; refine tz8_ 3 20 (bm 10 127) ?_; refine tz8_ 7 24 (bm 10 255) ?_
        refine one_ (i := 8) (N := some 25) (bm 10 511) rfl rfl (one_of HT_.out (by kernel_rfl)) (by decide) (fun K hK => ?_)
        refine goes_ Try.func115 (by kernel_rfl) rfl #[.agg #[.int .i64 ((rd_T72 l0 x5_1).f0), .int .i64 ((rd_T72 l0 x5_1).f1), .int .i64 ((rd_T72 l0 x5_1).f2), .bool ((rd_T72 l0 x5_1).f3)], .agg #[.int .i64 ((rd_T72 l1 x5_1).f0), .int .i64 ((rd_T72 l1 x5_1).f1), .int .i64 ((rd_T72 l1 x5_1).f2), .bool ((rd_T72 l1 x5_1).f3)]] (by rfl) rfl rfl (by (try simp only [List.map_toArray, List.map_cons, List.map_nil]); first | done | rfl | (simp only [List.length_drop, List.length_take]; rfl)) ?_
        with_reducible refine (laws_eqLedge.calls ((rd_T72 l0 x5_1).f0) ((rd_T72 l0 x5_1).f1) ((rd_T72 l0 x5_1).f2) ((rd_T72 l0 x5_1).f3) ((rd_T72 l1 x5_1).f0) ((rd_T72 l1 x5_1).f1) ((rd_T72 l1 x5_1).f2) ((rd_T72 l1 x5_1).f3) true _ A7.out).mono ?_
        rintro e w10 ⟨rfl, hb⟩
        refine ⟨_, rfl, ?_⟩
        have n0_ := Aside0.mk (below_step qB_ hb)
        clear HB; have HB := n0_; clear n0_; (try clear hb); (try clear hb2); (try clear hk); (try clear hi)
        refine hK.out _ _ ⟨((HB.out.cell (World.block_lt_of_cell? w _ hw385_0)).trans hw385_0), ((HB.out.cell (World.block_lt_of_cell? w _ hw385_1)).trans hw385_1), ((HB.out.cell (World.block_lt_of_cell? w _ hw385_2)).trans hw385_2), ((HB.out.cell (World.block_lt_of_cell? w _ hw385_3)).trans hw385_3), ((HB.out.cell (World.block_lt_of_cell? w _ hw386_0)).trans hw386_0), ((HB.out.cell (World.block_lt_of_cell? w _ hw386_1)).trans hw386_1), ((HB.out.cell (World.block_lt_of_cell? w _ hw386_2)).trans hw386_2), ((HB.out.cell (World.block_lt_of_cell? w _ hw386_3)).trans hw386_3)⟩ (fun hHeld => ?_)
        clear hK K
        refine norm_ (a' := ?_) ?_ ?_
        rotate_left
        ·show Act.put _ (some 25) _ = _
         simp only [Act.put, List.setIfInBounds_toArray, List.set_cons_zero, List.set_cons_succ, i64_w, i32_w]
         rfl
        refine pz_ 9 26 (bm 10 1023) ?_
        refine done_ (done_of HT_.out (by kernel_rfl)) ?_
        try go_wp2
        go_roundg k1
        case measure => have := HK1.out; omega
        case rel => exact ⟨(wrap64 (x5_1 + 1)), qe_, H', ⟨by have := HK1.out; omega⟩, ⟨qB_⟩⟩
       ·replace c8 := Bool.eq_false_iff.mpr c8
        subst c8
        rw [if_neg (show ¬ (false = true) by decide)] at H
        obtain rfl := Option.some.inj H
        try go_wp2
        have n0_ := Aside0.mk (below_drew1 HB.out)
        clear HB; have HB := n0_; clear n0_
        have p385 : 0 ≤ (x5_1 : Int) := of_decide_eq_true qa_
        have q385 : x5_1 < (l0.length : Int) := of_decide_eq_true qa_
        obtain ⟨ad385, e385, hx385_0, hx385_1, hx385_2, hx385_3⟩ := at_T72 HR0.out x5_1 p385 q385
        have hw385_3 := hx385_3; have hw385_2 := hx385_2; have hw385_1 := hx385_1; have hw385_0 := hx385_0; cases e385
        replace hx385_0 := (HB.out.cell (World.block_lt_of_cell? w _ hx385_0)).trans hx385_0
        replace hx385_1 := (HB.out.cell (World.block_lt_of_cell? w _ hx385_1)).trans hx385_1
        replace hx385_2 := (HB.out.cell (World.block_lt_of_cell? w _ hx385_2)).trans hx385_2
        replace hx385_3 := (HB.out.cell (World.block_lt_of_cell? w _ hx385_3)).trans hx385_3
        replace p385 := eq_true p385; replace q385 := eq_true q385
        have p386 : 0 ≤ (x5_1 : Int) := of_decide_eq_true qa_
        have q386 : x5_1 < (l1.length : Int) := of_decide_eq_true qa_
        obtain ⟨ad386, e386, hx386_0, hx386_1, hx386_2, hx386_3⟩ := at_T72 HR1.out x5_1 p386 q386
        have hw386_3 := hx386_3; have hw386_2 := hx386_2; have hw386_1 := hx386_1; have hw386_0 := hx386_0; cases e386
        replace hx386_0 := (HB.out.cell (World.block_lt_of_cell? w _ hx386_0)).trans hx386_0
        replace hx386_1 := (HB.out.cell (World.block_lt_of_cell? w _ hx386_1)).trans hx386_1
        replace hx386_2 := (HB.out.cell (World.block_lt_of_cell? w _ hx386_2)).trans hx386_2
        replace hx386_3 := (HB.out.cell (World.block_lt_of_cell? w _ hx386_3)).trans hx386_3
        replace p386 := eq_true p386; replace q386 := eq_true q386
        refine start_ (n := 10) (S := fun w' => w'.cell? (ad385.add ((x5_1).toNat * 4)) = some (.int .i64 ((rd_T72 l0 x5_1).f0)) ∧ w'.cell? ⟨(ad385.add ((x5_1).toNat * 4)).block, (ad385.add ((x5_1).toNat * 4)).off + 1, none⟩ = some (.int .i64 ((rd_T72 l0 x5_1).f1)) ∧ w'.cell? ⟨(ad385.add ((x5_1).toNat * 4)).block, (ad385.add ((x5_1).toNat * 4)).off + 2, none⟩ = some (.int .i64 ((rd_T72 l0 x5_1).f2)) ∧ w'.cell? ⟨(ad385.add ((x5_1).toNat * 4)).block, (ad385.add ((x5_1).toNat * 4)).off + 3, none⟩ = some (.bool ((rd_T72 l0 x5_1).f3)) ∧ w'.cell? (ad386.add ((x5_1).toNat * 4)) = some (.int .i64 ((rd_T72 l1 x5_1).f0)) ∧ w'.cell? ⟨(ad386.add ((x5_1).toNat * 4)).block, (ad386.add ((x5_1).toNat * 4)).off + 1, none⟩ = some (.int .i64 ((rd_T72 l1 x5_1).f1)) ∧ w'.cell? ⟨(ad386.add ((x5_1).toNat * 4)).block, (ad386.add ((x5_1).toNat * 4)).off + 2, none⟩ = some (.int .i64 ((rd_T72 l1 x5_1).f2)) ∧ w'.cell? ⟨(ad386.add ((x5_1).toNat * 4)).block, (ad386.add ((x5_1).toNat * 4)).off + 3, none⟩ = some (.bool ((rd_T72 l1 x5_1).f3))) (ds := []) (bm 10 0) (by kernel_rfl) rfl (by kernel_rfl) ⟨((HB.out.cell (World.block_lt_of_cell? w _ hw385_0)).trans hw385_0), ((HB.out.cell (World.block_lt_of_cell? w _ hw385_1)).trans hw385_1), ((HB.out.cell (World.block_lt_of_cell? w _ hw385_2)).trans hw385_2), ((HB.out.cell (World.block_lt_of_cell? w _ hw385_3)).trans hw385_3), ((HB.out.cell (World.block_lt_of_cell? w _ hw386_0)).trans hw386_0), ((HB.out.cell (World.block_lt_of_cell? w _ hw386_1)).trans hw386_1), ((HB.out.cell (World.block_lt_of_cell? w _ hw386_2)).trans hw386_2), ((HB.out.cell (World.block_lt_of_cell? w _ hw386_3)).trans hw386_3)⟩ (fun hHeld => ?_); refine with_tabW laws_eqLedgeS.tab6 laws_eqLedgeS.bits6 (fun HT_ HW_ => ?_)
        generalize wr.drew = w11 at HB hx385_0 hx385_1 hx385_2 hx385_3 hx386_0 hx386_1 hx386_2 hx386_3 hHeld ⊢
        refine pz_ 0 17 (bm 10 1) ?_; refine pz_ 1 18 (bm 10 3) ?_; refine pz_ 2 19 (bm 10 7) ?_; refine pz_ 4 21 (bm 10 23) ?_; refine pz_ 5 22 (bm 10 55) ?_; refine pz_ 6 23 (bm 10 119) ?_; refine tz8_ 3 20 (bm 10 127) ?_; refine tz8_ 7 24 (bm 10 255) ?_
        refine one_ (i := 8) (N := some 25) (bm 10 511) rfl rfl (one_of HT_.out (by kernel_rfl)) (by decide) (fun K hK => ?_)
        refine goes_ Try.func115 (by kernel_rfl) rfl #[.agg #[.int .i64 ((rd_T72 l0 x5_1).f0), .int .i64 ((rd_T72 l0 x5_1).f1), .int .i64 ((rd_T72 l0 x5_1).f2), .bool ((rd_T72 l0 x5_1).f3)], .agg #[.int .i64 ((rd_T72 l1 x5_1).f0), .int .i64 ((rd_T72 l1 x5_1).f1), .int .i64 ((rd_T72 l1 x5_1).f2), .bool ((rd_T72 l1 x5_1).f3)]] (by rfl) rfl rfl (by (try simp only [List.map_toArray, List.map_cons, List.map_nil]); first | done | rfl | (simp only [List.length_drop, List.length_take]; rfl)) ?_
        with_reducible refine (laws_eqLedge.calls ((rd_T72 l0 x5_1).f0) ((rd_T72 l0 x5_1).f1) ((rd_T72 l0 x5_1).f2) ((rd_T72 l0 x5_1).f3) ((rd_T72 l1 x5_1).f0) ((rd_T72 l1 x5_1).f1) ((rd_T72 l1 x5_1).f2) ((rd_T72 l1 x5_1).f3) false _ A7.out).mono ?_
        rintro e w12 ⟨rfl, hb⟩
        refine ⟨_, rfl, ?_⟩
        have n0_ := Aside0.mk (below_step qB_ hb)
        clear HB; have HB := n0_; clear n0_; (try clear hb); (try clear hb2); (try clear hk); (try clear hi)
        refine hK.out _ _ ⟨((HB.out.cell (World.block_lt_of_cell? w _ hw385_0)).trans hw385_0), ((HB.out.cell (World.block_lt_of_cell? w _ hw385_1)).trans hw385_1), ((HB.out.cell (World.block_lt_of_cell? w _ hw385_2)).trans hw385_2), ((HB.out.cell (World.block_lt_of_cell? w _ hw385_3)).trans hw385_3), ((HB.out.cell (World.block_lt_of_cell? w _ hw386_0)).trans hw386_0), ((HB.out.cell (World.block_lt_of_cell? w _ hw386_1)).trans hw386_1), ((HB.out.cell (World.block_lt_of_cell? w _ hw386_2)).trans hw386_2), ((HB.out.cell (World.block_lt_of_cell? w _ hw386_3)).trans hw386_3)⟩ (fun hHeld => ?_)
        clear hK K
        refine norm_ (a' := ?_) ?_ ?_
        rotate_left
        ·show Act.put _ (some 25) _ = _
         simp only [Act.put, List.setIfInBounds_toArray, List.set_cons_zero, List.set_cons_succ, i64_w, i32_w]
         rfl
        refine pz_ 9 26 (bm 10 1023) ?_
        refine done_ (done_of HT_.out (by kernel_rfl)) ?_
        try go_wp2
        go_ret
        exact ⟨qr_, qB_⟩
      ·rw [if_neg c6] at H
       exact absurd H (by simp)
     ·rw [if_neg c5] at H
      exact absurd H (by simp)
    ·rw [if_neg c4] at H
     have c4b0 : decide (x5_1 < (l0.length : Int)) = false := decide_eq_false c4
     clear c4
     obtain rfl := Option.some.inj H
     go_wp2
     go_ret
     exact ⟨qr_, qB_⟩
 ·rw [if_neg c3] at H
  have c3b0 : ((l0.length : Int) == (l1.length : Int)) = false := beq_eq_false_iff_ne.mpr c3
  have c3b1 : ((l0.length : Int) != (l1.length : Int)) = true := bne_iff_ne.mpr c3
  have c3b2 : (l0.length == l1.length) = false := by first | simpa using c3 | (simp at c3 ⊢; omega)
  obtain rfl := Option.some.inj H
  go_enter Try.func69, Try.ntmps69
  go_wp2
  go_ret
  exact ⟨qr_, qB_⟩

/-! ### laws_eqWeb: function 17 -/
def laws_eqWeb.f (k : Nat) (a0_0 : Int) (l0_1 : List (S72)) (a1_0 : Int) (l1_1 : List (S72)) : Option (Bool) := if a0_0 = a1_0 then ((laws_eqLedgeS.f k l0_1 l1_1).bind fun t390 => (if t390 = true then (some true) else (some false))) else (some false)
theorem laws_eqWeb.mono : ∀ a0 a1 a2 a3 k, LeO (laws_eqWeb.f k a0 a1 a2 a3) (laws_eqWeb.f (k + 1) a0 a1 a2 a3) := by
  intro a0 a1 a2 a3 k
  unfold laws_eqWeb.f
  repeat' first
      | (with_reducible exact laws_eqLedgeS.mono _ _ _)
      | (with_reducible exact LeO.refl _)
      | (with_reducible exact LeO.none _)
      | (with_reducible refine LeO.ite ?_ ?_)
      | (with_reducible refine LeO.bind ?_ (fun _ => ?_))
      | exact laws_eqLedgeS.mono _ _ _
      | exact LeO.none _
      | refine LeO.ite ?_ ?_
      | refine LeO.bind ?_ (fun _ => ?_)
set_option maxHeartbeats 8000000 in
set_option maxRecDepth 100000 in
theorem laws_eqWeb.calls (k : Nat) (a0_0 : Int) (A0_1 : Option Addr) (c0_1 : Nat) (l0_1 : List (S72)) (a1_0 : Int) (A1_1 : Option Addr) (c1_1 : Nat) (l1_1 : List (S72)) (r : Bool) (w : World) (hr0_1 : Kd.C k72 w A0_1 l0_1.length l0_1) (hc0_1 : l0_1.length ≤ c0_1) (hr1_1 : Kd.C k72 w A1_1 l1_1.length l1_1) (hc1_1 : l1_1.length ≤ c1_1) (h : laws_eqWeb.f k a0_0 l0_1 a1_0 l1_1 = some r) :
  Calls Try.prog 17 #[.agg #[.int .i64 a0_0, .slice A0_1 l0_1.length c0_1], .agg #[.int .i64 a1_0, .slice A1_1 l1_1.length c1_1]] w fun e w' => e = .returned (.bool r) ∧ Below w.heap.size w w' := by
 have hu29 := Try.underlying29
 have HR0_1 := Aside0.mk hr0_1
 have HC0_1 := Aside0.mk hc0_1
 clear hr0_1 hc0_1
 have HR1_1 := Aside0.mk hr1_1
 have HC1_1 := Aside0.mk hc1_1
 clear hr1_1 hc1_1
 have HB := Aside0.mk (Below.refl w.heap.size w)
 have H : (if a0_0 = a1_0 then ((laws_eqLedgeS.f k l0_1 l1_1).bind fun t390 => (if t390 = true then (some true) else (some false))) else (some false)) = some r := h
 clear h
 by_cases c3 : a0_0 = a1_0
 ·rw [if_pos c3] at H
  have c3b0 : (a0_0 == a1_0) = true := beq_iff_eq.mpr c3
  have c3b1 : (a0_0 != a1_0) = false := bne_eq_false_iff_eq.mpr c3
  clear c3
  obtain ⟨t390, A40, H⟩ := Option.bind_eq_some_iff.mp H; have A4 := Aside0.mk A40; clear A40
  by_cases c5 : t390 = true
  ·subst c5
   rw [if_pos rfl] at H
   obtain rfl := Option.some.inj H
   go_enter Try.func17, Try.ntmps17
   go_wp2_with (first | ((with_reducible refine gate_dst (N := 2) rfl ?_); refine bx_ 2 (cs := #[.int .i64 a0_0, .slice A0_1 l0_1.length c0_1]) (t := 29) ?_; intro gb388 hg w6 hbox hb; have BK388 := Aside0.mk (hbox); have GW388 := Aside0.mk ((qs_ : w.heap.size ≤ gb388)); have GE388 := Aside0.mk ((qs_ : w.heap.size ≤ gb388)); replace HB := Aside0.mk (below_step qB_ hb); clear hb hbox hg) | ((with_reducible refine gate_dst (N := 3) rfl ?_); refine bx_ 3 (cs := #[.int .i64 a1_0, .slice A1_1 l1_1.length c1_1]) (t := 29) ?_; intro gb389 hg w7 hbox hb; have BK389 := Aside0.mk (hbox); have GW389 := Aside0.mk ((qs_ : w.heap.size ≤ gb389)); have GE389 := Aside0.mk ((qs_ : w.heap.size ≤ gb389)); have NB388_389 := Aside0.mk ((by rw [hg]; exact Nat.ne_of_lt (blk_lt (qk_ BK388)) : gb388 ≠ gb389)); have NB389_388 := Aside0.mk ((by rw [hg]; exact Nat.ne_of_gt (blk_lt (qk_ BK388)) : gb389 ≠ gb388)); replace BK388 := Aside0.mk (blk_below (qk_ BK388) hb); replace HB := Aside0.mk (below_step qB_ hb); clear hb hbox hg; have hnb8 := NB388_389.out; have hnc8 := NB389_388.out; obtain ⟨hcz9_0, hcz9_1, hfz9_0, hfz9_1⟩ := bc2_ BK388; obtain ⟨hcz10_0, hcz10_1, hfz10_0, hfz10_1⟩ := bc2_ BK389) | ((with_reducible refine gate_callee (f := 69) rfl ?_); refine gl_ (some 14) Try.func69 #[.slice A0_1 l0_1.length c0_1, .slice A1_1 l1_1.length c1_1] ?_; (with_reducible refine (laws_eqLedgeS.calls k _ _ l0_1 _ _ l1_1 true _ ?side1 ?side2 ?side3 ?side4 A4.out).mono ?_); (case side1 => exact qC_ HR0_1 HB); (case side2 => exact HC0_1.out); (case side3 => exact qC_ HR1_1 HB); (case side4 => exact HC1_1.out); rintro e w11 ⟨rfl, hb⟩; refine ⟨_, rfl, ?_⟩; replace BK388 := Aside0.mk (blk_below (qk_ BK388) hb); replace BK389 := Aside0.mk (blk_below (qk_ BK389) hb); replace HB := Aside0.mk (below_step qB_ hb); (try clear hb); (try clear hb2); (try clear hk); (try clear hi)))
   go_ret
   exact ⟨qr_, qB_⟩
  ·replace c5 := Bool.eq_false_iff.mpr c5
   subst c5
   rw [if_neg (show ¬ (false = true) by decide)] at H
   obtain rfl := Option.some.inj H
   go_enter Try.func17, Try.ntmps17
   go_wp2_with (first | ((with_reducible refine gate_dst (N := 2) rfl ?_); refine bx_ 2 (cs := #[.int .i64 a0_0, .slice A0_1 l0_1.length c0_1]) (t := 29) ?_; intro gb388 hg w12 hbox hb; have BK388 := Aside0.mk (hbox); have GW388 := Aside0.mk ((qs_ : w.heap.size ≤ gb388)); have GE388 := Aside0.mk ((qs_ : w.heap.size ≤ gb388)); replace HB := Aside0.mk (below_step qB_ hb); clear hb hbox hg) | ((with_reducible refine gate_dst (N := 3) rfl ?_); refine bx_ 3 (cs := #[.int .i64 a1_0, .slice A1_1 l1_1.length c1_1]) (t := 29) ?_; intro gb389 hg w13 hbox hb; have BK389 := Aside0.mk (hbox); have GW389 := Aside0.mk ((qs_ : w.heap.size ≤ gb389)); have GE389 := Aside0.mk ((qs_ : w.heap.size ≤ gb389)); have NB388_389 := Aside0.mk ((by rw [hg]; exact Nat.ne_of_lt (blk_lt (qk_ BK388)) : gb388 ≠ gb389)); have NB389_388 := Aside0.mk ((by rw [hg]; exact Nat.ne_of_gt (blk_lt (qk_ BK388)) : gb389 ≠ gb388)); replace BK388 := Aside0.mk (blk_below (qk_ BK388) hb); replace HB := Aside0.mk (below_step qB_ hb); clear hb hbox hg; have hnb14 := NB388_389.out; have hnc14 := NB389_388.out; obtain ⟨hcz15_0, hcz15_1, hfz15_0, hfz15_1⟩ := bc2_ BK388; obtain ⟨hcz16_0, hcz16_1, hfz16_0, hfz16_1⟩ := bc2_ BK389) | ((with_reducible refine gate_callee (f := 69) rfl ?_); refine gl_ (some 14) Try.func69 #[.slice A0_1 l0_1.length c0_1, .slice A1_1 l1_1.length c1_1] ?_; (with_reducible refine (laws_eqLedgeS.calls k _ _ l0_1 _ _ l1_1 false _ ?side1 ?side2 ?side3 ?side4 A4.out).mono ?_); (case side1 => exact qC_ HR0_1 HB); (case side2 => exact HC0_1.out); (case side3 => exact qC_ HR1_1 HB); (case side4 => exact HC1_1.out); rintro e w17 ⟨rfl, hb⟩; refine ⟨_, rfl, ?_⟩; replace BK388 := Aside0.mk (blk_below (qk_ BK388) hb); replace BK389 := Aside0.mk (blk_below (qk_ BK389) hb); replace HB := Aside0.mk (below_step qB_ hb); (try clear hb); (try clear hb2); (try clear hk); (try clear hi)))
   go_ret
   exact ⟨qr_, qB_⟩
 ·rw [if_neg c3] at H
  have c3b0 : (a0_0 == a1_0) = false := beq_eq_false_iff_ne.mpr c3
  have c3b1 : (a0_0 != a1_0) = true := bne_iff_ne.mpr c3
  obtain rfl := Option.some.inj H
  go_enter Try.func17, Try.ntmps17
  go_wp2_with (first | ((with_reducible refine gate_dst (N := 2) rfl ?_); refine bx_ 2 (cs := #[.int .i64 a0_0, .slice A0_1 l0_1.length c0_1]) (t := 29) ?_; intro gb388 hg w18 hbox hb; have BK388 := Aside0.mk (hbox); have GW388 := Aside0.mk ((qs_ : w.heap.size ≤ gb388)); have GE388 := Aside0.mk ((qs_ : w.heap.size ≤ gb388)); replace HB := Aside0.mk (below_step qB_ hb); clear hb hbox hg) | ((with_reducible refine gate_dst (N := 3) rfl ?_); refine bx_ 3 (cs := #[.int .i64 a1_0, .slice A1_1 l1_1.length c1_1]) (t := 29) ?_; intro gb389 hg w19 hbox hb; have BK389 := Aside0.mk (hbox); have GW389 := Aside0.mk ((qs_ : w.heap.size ≤ gb389)); have GE389 := Aside0.mk ((qs_ : w.heap.size ≤ gb389)); have NB388_389 := Aside0.mk ((by rw [hg]; exact Nat.ne_of_lt (blk_lt (qk_ BK388)) : gb388 ≠ gb389)); have NB389_388 := Aside0.mk ((by rw [hg]; exact Nat.ne_of_gt (blk_lt (qk_ BK388)) : gb389 ≠ gb388)); replace BK388 := Aside0.mk (blk_below (qk_ BK388) hb); replace HB := Aside0.mk (below_step qB_ hb); clear hb hbox hg; have hnb20 := NB388_389.out; have hnc20 := NB389_388.out; obtain ⟨hcz21_0, hcz21_1, hfz21_0, hfz21_1⟩ := bc2_ BK388; obtain ⟨hcz22_0, hcz22_1, hfz22_0, hfz22_1⟩ := bc2_ BK389))
  go_ret
  exact ⟨qr_, qB_⟩

/-! ### laws_FnExactWebOk: function 3 -/
def laws_FnExactWebOk.f (k : Nat) (a0_0 : Int) (l0_1 : List (S120)) : Option (Bool) := (laws_szWeb.f a0_0 l0_1 1048576).bind fun t392 => (if t392 < 0 then (some true) else ((laws_toWeb.f k a0_0 l0_1).bind fun bt393 => ((spec_WebOk.f k bt393.1 bt393.2).bind fun t397 => ((laws_toWeb.f k a0_0 l0_1).bind fun bt398 => ((impl_WebOk.f k bt398.1 bt398.2).bind fun t403 => (if (t403 != t397) = true then (some false) else ((laws_toWeb.f k a0_0 l0_1).bind fun bt404 => ((laws_eqWeb.f k bt398.1 bt398.2 bt404.1 bt404.2).bind fun t408 => (if t408 = true then (some true) else (some false))))))))))
theorem laws_FnExactWebOk.mono : ∀ a0 a1 k, LeO (laws_FnExactWebOk.f k a0 a1) (laws_FnExactWebOk.f (k + 1) a0 a1) := by
  intro a0 a1 k
  unfold laws_FnExactWebOk.f
  repeat' first
      | (with_reducible exact impl_WebOk.mono _ _ _)
      | (with_reducible exact laws_eqWeb.mono _ _ _ _ _)
      | (with_reducible exact laws_toWeb.mono _ _ _)
      | (with_reducible exact spec_WebOk.mono _ _ _)
      | (with_reducible exact LeO.refl _)
      | (with_reducible exact LeO.none _)
      | (with_reducible refine LeO.ite ?_ ?_)
      | (with_reducible refine LeO.bind ?_ (fun _ => ?_))
      | exact impl_WebOk.mono _ _ _
      | exact laws_eqWeb.mono _ _ _ _ _
      | exact laws_toWeb.mono _ _ _
      | exact spec_WebOk.mono _ _ _
      | exact LeO.none _
      | refine LeO.ite ?_ ?_
      | refine LeO.bind ?_ (fun _ => ?_)
set_option maxHeartbeats 8000000 in
set_option maxRecDepth 100000 in
theorem laws_FnExactWebOk.calls (k : Nat) (a0_0 : Int) (A0_1 : Option Addr) (c0_1 : Nat) (l0_1 : List (S120)) (w : World) (hr0_1 : Kd.C k120 w A0_1 l0_1.length l0_1) (hc0_1 : l0_1.length ≤ c0_1) (h : laws_FnExactWebOk.f k a0_0 l0_1 = some true) :
  Calls Try.prog 3 #[.agg #[.int .i64 a0_0, .slice A0_1 l0_1.length c0_1]] w fun e w' => e = .returned (.bool true) ∧ Below w.heap.size w w' := by
 have hu24 := Try.underlying24; have hu29 := Try.underlying29
 have HR0_1 := Aside0.mk hr0_1
 have HC0_1 := Aside0.mk hc0_1
 clear hr0_1 hc0_1
 have HB := Aside0.mk (Below.refl w.heap.size w)
 have H : ((laws_szWeb.f a0_0 l0_1 1048576).bind fun t392 => (if t392 < 0 then (some true) else ((laws_toWeb.f k a0_0 l0_1).bind fun bt393 => ((spec_WebOk.f k bt393.1 bt393.2).bind fun t397 => ((laws_toWeb.f k a0_0 l0_1).bind fun bt398 => ((impl_WebOk.f k bt398.1 bt398.2).bind fun t403 => (if (t403 != t397) = true then (some false) else ((laws_toWeb.f k a0_0 l0_1).bind fun bt404 => ((laws_eqWeb.f k bt398.1 bt398.2 bt404.1 bt404.2).bind fun t408 => (if t408 = true then (some true) else (some false))))))))))) = some true := h
 clear h
 obtain ⟨t392, A20, H⟩ := Option.bind_eq_some_iff.mp H; have A2 := Aside0.mk A20; clear A20
 by_cases c3 : t392 < 0
 ·rw [if_pos c3] at H
  have c3b0 : decide (t392 < 0) = true := decide_eq_true c3
  clear c3; clear H
  go_enter Try.func3, Try.ntmps3
  go_wp2_with (first | ((with_reducible refine gate_dst (N := 1) rfl ?_); refine bx_ 1 (cs := #[.int .i64 a0_0, .slice A0_1 l0_1.length c0_1]) (t := 24) ?_; intro gb391 hg w4 hbox hb; have BK391 := Aside0.mk (hbox); have GW391 := Aside0.mk ((qs_ : w.heap.size ≤ gb391)); have GE391 := Aside0.mk ((qs_ : w.heap.size ≤ gb391)); replace HB := Aside0.mk (below_step qB_ hb); clear hb hbox hg; obtain ⟨hcz5_0, hcz5_1, hfz5_0, hfz5_1⟩ := bc2_ BK391) | ((with_reducible refine gate_callee (f := 13) rfl ?_); refine gl_ (some 9) Try.func13 #[.agg #[.int .i64 a0_0, .slice A0_1 l0_1.length c0_1], .int .i64 1048576] ?_; (with_reducible refine (laws_szWeb.calls a0_0 _ _ l0_1 1048576 t392 _ ?side1 ?side2 A2.out).mono ?_); (case side1 => exact qC_ HR0_1 HB); (case side2 => exact HC0_1.out); rintro e w6 ⟨rfl, hb⟩; refine ⟨_, rfl, ?_⟩; replace BK391 := Aside0.mk (blk_below (qk_ BK391) hb); replace HB := Aside0.mk (below_step qB_ hb); (try clear hb); (try clear hb2); (try clear hk); (try clear hi)))
  go_ret
  exact ⟨qr_, qB_⟩
 ·rw [if_neg c3] at H
  have c3b0 : decide (t392 < 0) = false := decide_eq_false c3
  clear c3
  replace H := Option.bind_eq_some_iff.mp H
  obtain ⟨⟨t393, t394⟩, A70, H⟩ := H
  replace H : ((spec_WebOk.f k t393 t394).bind fun t397 => ((laws_toWeb.f k a0_0 l0_1).bind fun bt398 => ((impl_WebOk.f k bt398.1 bt398.2).bind fun t403 => (if (t403 != t397) = true then (some false) else ((laws_toWeb.f k a0_0 l0_1).bind fun bt404 => ((laws_eqWeb.f k bt398.1 bt398.2 bt404.1 bt404.2).bind fun t408 => (if t408 = true then (some true) else (some false)))))))) = some true := H
  have A7 := Aside0.mk A70
  clear A70
  obtain ⟨t397, A80, H⟩ := Option.bind_eq_some_iff.mp H; have A8 := Aside0.mk A80; clear A80
  replace H := Option.bind_eq_some_iff.mp H
  obtain ⟨⟨t398, t399⟩, A90, H⟩ := H
  replace H : ((impl_WebOk.f k t398 t399).bind fun t403 => (if (t403 != t397) = true then (some false) else ((laws_toWeb.f k a0_0 l0_1).bind fun bt404 => ((laws_eqWeb.f k t398 t399 bt404.1 bt404.2).bind fun t408 => (if t408 = true then (some true) else (some false)))))) = some true := H
  have A9 := Aside0.mk A90
  clear A90
  obtain ⟨t403, A100, H⟩ := Option.bind_eq_some_iff.mp H; have A10 := Aside0.mk A100; clear A100
  by_cases c11 : (t403 != t397) = true
  ·rw [if_pos c11] at H
   have c11b0 : (t403 != t397) = true := c11
   (try (have c11b1 : decide (t403 = t397) = false := by simpa using c11))
   (try (have c11b2 : (t403 == t397) = false := by simpa using c11))
   (try (have c11b3 : ¬ (t403 = t397) := by simpa using c11))
   clear c11
   exact absurd (Option.some.inj H) (by decide)
  ·rw [if_neg c11] at H
   have c11b0 : (t403 != t397) = false := by simpa using c11
   (try (have c11b1 : decide (t403 = t397) = true := by simpa using c11))
   (try (have c11b2 : (t403 == t397) = true := by simpa using c11))
   clear c11
   replace H := Option.bind_eq_some_iff.mp H
   obtain ⟨⟨t404, t405⟩, A260, H⟩ := H
   replace H : ((laws_eqWeb.f k t398 t399 t404 t405).bind fun t408 => (if t408 = true then (some true) else (some false))) = some true := H
   have A26 := Aside0.mk A260
   clear A260
   obtain ⟨t408, A270, H⟩ := Option.bind_eq_some_iff.mp H; have A27 := Aside0.mk A270; clear A270
   by_cases c28 : t408 = true
   ·subst c28
    have H1 : (some true : Option Bool) = some true := rfl
    clear H; have H := H1; clear H1; clear H
    go_enter Try.func3, Try.ntmps3
    try go_wp2_with (first | ((with_reducible refine gate_dst (N := 1) rfl ?_); refine bx_ 1 (cs := #[.int .i64 a0_0, .slice A0_1 l0_1.length c0_1]) (t := 24) ?_; intro gb391 hg w29 hbox hb; have BK391 := Aside0.mk (hbox); have GW391 := Aside0.mk ((qs_ : w.heap.size ≤ gb391)); have GE391 := Aside0.mk ((qs_ : w.heap.size ≤ gb391)); replace HB := Aside0.mk (below_step qB_ hb); clear hb hbox hg; obtain ⟨hcz30_0, hcz30_1, hfz30_0, hfz30_1⟩ := bc2_ BK391) | ((with_reducible refine gate_callee (f := 13) rfl ?_); refine gl_ (some 9) Try.func13 #[.agg #[.int .i64 a0_0, .slice A0_1 l0_1.length c0_1], .int .i64 1048576] ?_; (with_reducible refine (laws_szWeb.calls a0_0 _ _ l0_1 1048576 t392 _ ?side1 ?side2 A2.out).mono ?_); (case side1 => exact qC_ HR0_1 HB); (case side2 => exact HC0_1.out); rintro e w31 ⟨rfl, hb⟩; refine ⟨_, rfl, ?_⟩; replace BK391 := Aside0.mk (blk_below (qk_ BK391) hb); replace HB := Aside0.mk (below_step qB_ hb); (try clear hb); (try clear hb2); (try clear hk); (try clear hi); obtain ⟨hcz32_0, hcz32_1, hfz32_0, hfz32_1⟩ := bc2_ BK391) | ((with_reducible refine gate_callee (f := 15) rfl ?_); refine gl_ (some 13) Try.func15 #[.agg #[.int .i64 a0_0, .slice A0_1 l0_1.length c0_1]] ?_; (with_reducible refine (laws_toWeb.calls k a0_0 _ _ l0_1 t393 t394 _ ?side1 ?side2 A7.out).mono ?_); (case side1 => exact qC_ HR0_1 HB); (case side2 => exact HC0_1.out); rintro e w33 ⟨v395, rfl, ho0, hb⟩; refine ⟨_, rfl, ?_⟩; have HO396 := Aside0.mk (Kd.R_lower ho0 (below_size qB_)); replace BK391 := Aside0.mk (blk_below (qk_ BK391) hb); replace HB := Aside0.mk (below_step qB_ hb); (try clear hb); (try clear hb2); (try clear hk); (try clear hi); (try clear ho0); obtain ⟨Ao34, co34, eo34⟩ := Kd.R_slice HO396.out; subst eo34) | ((with_reducible refine gate_callee (f := 14) rfl ?_); refine gl_ (some 14) Try.func14 #[.agg #[.int .i64 t393, .slice Ao34 t394.length co34]] ?_; (with_reducible refine (spec_WebOk.calls k t393 _ _ t394 t397 _ ?side1 ?side2 A8.out).mono ?_); (case side1 => exact qD_ (Kd.R_reads' HO396.out).2.2); (case side2 => exact (Kd.R_reads' HO396.out).2.1); rintro e w35 ⟨rfl, hb⟩; refine ⟨_, rfl, ?_⟩; replace HO396 := Aside0.mk (Kd.R_below (qR_ HO396) hb); replace BK391 := Aside0.mk (blk_below (qk_ BK391) hb); replace HB := Aside0.mk (below_step qB_ hb); (try clear hb); (try clear hb2); (try clear hk); (try clear hi); obtain ⟨hcz36_0, hcz36_1, hfz36_0, hfz36_1⟩ := bc2_ BK391) | ((with_reducible refine gate_callee (f := 15) rfl ?_); refine gl_ (some 16) Try.func15 #[.agg #[.int .i64 a0_0, .slice A0_1 l0_1.length c0_1]] ?_; (with_reducible refine (laws_toWeb.calls k a0_0 _ _ l0_1 t398 t399 _ ?side1 ?side2 A9.out).mono ?_); (case side1 => exact qC_ HR0_1 HB); (case side2 => exact HC0_1.out); rintro e w37 ⟨v400, rfl, ho0, hb⟩; refine ⟨_, rfl, ?_⟩; have HO401 := Aside0.mk (Kd.R_lower (Kd.R_new' ho0 (Kd.R_lt (qR_ HO396))) (below_size qB_)); replace HO396 := Aside0.mk (Kd.R_elder' (qR_ HO396) (Kd.R_base ho0) hb); replace BK391 := Aside0.mk (blk_below (qk_ BK391) hb); replace HB := Aside0.mk (below_step qB_ hb); (try clear hb); (try clear hb2); (try clear hk); (try clear hi); (try clear ho0)) | ((with_reducible refine gate_dst (N := 5) rfl ?_); refine bx_ 5 (cs := #[.int .i64 0, .slice none 0 0]) (t := 29) ?_; intro gb402 hg w38 hbox hb; have BK402 := Aside0.mk (hbox); have GW402 := Aside0.mk ((qs_ : w.heap.size ≤ gb402)); have GE402 := Aside0.mk ((qs_ : w.heap.size ≤ gb402)); have NB391_402 := Aside0.mk ((by rw [hg]; exact Nat.ne_of_lt (blk_lt (qk_ BK391)) : gb391 ≠ gb402)); have NB402_391 := Aside0.mk ((by rw [hg]; exact Nat.ne_of_gt (blk_lt (qk_ BK391)) : gb402 ≠ gb391)); replace HO396 := Aside0.mk (Kd.R_below (qR_ HO396) hb); replace HO401 := Aside0.mk (Kd.R_below (qR_ HO401) hb); replace BK391 := Aside0.mk (blk_below (qk_ BK391) hb); replace HB := Aside0.mk (below_step qB_ hb); clear hb hbox hg; have hnb39 := NB402_391.out; have hnc39 := NB391_402.out; obtain ⟨hcz40_0, hcz40_1, hfz40_0, hfz40_1⟩ := bc2_ BK402; obtain ⟨Ao41, co41, eo41⟩ := Kd.R_slice HO401.out; subst eo41) | ((with_reducible refine gate_callee (f := 16) rfl ?_); refine gl_ (some 18) Try.func16 #[.agg #[.int .i64 t398, .slice Ao41 t399.length co41]] ?_; (with_reducible refine (impl_WebOk.calls k t398 _ _ t399 t403 _ ?side1 ?side2 A10.out).mono ?_); (case side1 => refine (Kd.R_reads' (e := 72) (base := w.heap.size) (ok := fun k_ => (True ∧ some k_ ≠ (.slice Ao34 t394.length co34 : Value).ownBlock)) (n := t399.length) (c := co41) ?_).2.2; exact (by (with_reducible repeat (first | apply Kd.R_alloc | apply Kd.R_drewN | apply Kd.R_drew)); exact (Kd.R_mono (Kd.R_far (p := ⟨gb402, 1, none⟩) (Kd.R_far (p := ⟨gb402, 0, none⟩) (Kd.R_types HO401.out BK402.out (by decide)) (fun _ hk => hk.2) (.int .i64 t398)) (fun _ hk => hk.2) (.slice Ao41 t399.length co41)) (fun _ h_ => h_.1)))); (case side2 => exact (Kd.R_reads' HO401.out).2.1); rintro e w42 ⟨rfl, hb⟩; refine ⟨_, rfl, ?_⟩; replace HO396 := Aside0.mk (Kd.R_below (by (with_reducible repeat (first | apply Kd.R_alloc | apply Kd.R_drewN | apply Kd.R_drew)); exact (Kd.R_mono (Kd.R_far (p := ⟨gb402, 1, none⟩) (Kd.R_far (p := ⟨gb402, 0, none⟩) (Kd.R_types HO396.out BK402.out (by decide)) (fun _ hk => hk.2) (.int .i64 t398)) (fun _ hk => hk.2) (.slice Ao41 t399.length co41)) (fun _ h_ => h_.1))) hb); replace HO401 := Aside0.mk (Kd.R_below (by (with_reducible repeat (first | apply Kd.R_alloc | apply Kd.R_drewN | apply Kd.R_drew)); exact (Kd.R_mono (Kd.R_far (p := ⟨gb402, 1, none⟩) (Kd.R_far (p := ⟨gb402, 0, none⟩) (Kd.R_types HO401.out BK402.out (by decide)) (fun _ hk => hk.2) (.int .i64 t398)) (fun _ hk => hk.2) (.slice Ao41 t399.length co41)) (fun _ h_ => h_.1))) hb); replace BK391 := Aside0.mk (blk_below (g := gb391) (o := .cells #[.int .i64 a0_0, .slice A0_1 l0_1.length c0_1] 24 (0, 0)) (by (with_reducible repeat (first | refine blk_drewN ?_ _ | refine blk_drew ?_ | refine blk_alloc ?_ _)); refine blk_far ?_ NB391_402.out _; (with_reducible repeat (first | refine blk_drewN ?_ _ | refine blk_drew ?_ | refine blk_alloc ?_ _)); refine blk_far ?_ NB391_402.out _; (with_reducible repeat (first | refine blk_drewN ?_ _ | refine blk_drew ?_ | refine blk_alloc ?_ _)); exact BK391.out) hb); replace BK402 := Aside0.mk (blk_below (g := gb402) (o := .cells #[.int .i64 t398, .slice Ao41 t399.length co41] 29 (0, 0)) (by (with_reducible repeat (first | refine blk_drewN ?_ _ | refine blk_drew ?_ | refine blk_alloc ?_ _)); refine blk_put (cs := #[.int .i64 t398, .slice none 0 0]) ?_ 1 _ rfl; (with_reducible repeat (first | refine blk_drewN ?_ _ | refine blk_drew ?_ | refine blk_alloc ?_ _)); refine blk_put (cs := #[.int .i64 0, .slice none 0 0]) ?_ 0 _ rfl; (with_reducible repeat (first | refine blk_drewN ?_ _ | refine blk_drew ?_ | refine blk_alloc ?_ _)); exact BK402.out) hb); replace HB := Aside0.mk (below_step qB_ hb); (try clear hb); (try clear hb2); (try clear hk); (try clear hi)))
    have n0_ := Aside0.mk (Kd.R_drew HO396.out)
    have n1_ := Aside0.mk (Kd.R_drew HO401.out)
    have n2_ := Aside0.mk (blk_drew BK391.out)
    have n3_ := Aside0.mk (blk_drew BK402.out)
    have n4_ := Aside0.mk (below_drew1 HB.out)
    clear HO396; clear HO401; clear BK391; clear BK402; clear HB; have HO396 := n0_; have HO401 := n1_; have BK391 := n2_; have BK402 := n3_; have HB := n4_; clear n0_ n1_ n2_ n3_ n4_
    refine start_ (n := 5) (S := fun w' => w'.cell? ⟨gb402, 0, none⟩ = some (.int .i64 t398) ∧ w'.cell? ⟨gb402, 1, none⟩ = some (.slice Ao41 t399.length co41) ∧ w'.cell? ⟨gb391, 0, none⟩ = some (.int .i64 a0_0) ∧ w'.cell? ⟨gb391, 1, none⟩ = some (.slice A0_1 l0_1.length c0_1)) (ds := []) (bm 5 0) (by kernel_rfl) rfl (by kernel_rfl) ⟨(blk_cell BK402.out 0).trans rfl, (blk_cell BK402.out 1).trans rfl, (blk_cell BK391.out 0).trans rfl, (blk_cell BK391.out 1).trans rfl⟩ (fun hHeld => ?_)
    generalize w42.drew = w43 at HO396 HO401 BK391 BK402 HB hHeld ⊢
    refine take_ (i := 0) (N := some 22) (v := ?_) (a' := ?_) (bm 5 1) rfl rfl (by kernel_rfl) (fun _ _ _ h => h) (Or.inl ⟨by rfl, ?_⟩) hHeld ?_ ?_
    rotate_left
    ·rintro w' ⟨s0, s1, s2, s3⟩
     go_simp
     with_reducible rfl
    rotate_left
    ·simp only [Act.put, List.setIfInBounds_toArray, List.set_cons_zero, List.set_cons_succ, i64_w, i32_w]
     rfl
    refine take_ (i := 1) (N := some 23) (v := ?_) (a' := ?_) (bm 5 3) rfl rfl (by kernel_rfl) (fun _ _ _ h => h) (Or.inl ⟨by rfl, ?_⟩) hHeld ?_ ?_
    rotate_left
    ·rintro w' ⟨s0, s1, s2, s3⟩
     go_simp
     with_reducible rfl
    rotate_left
    ·simp only [Act.put, List.setIfInBounds_toArray, List.set_cons_zero, List.set_cons_succ, i64_w, i32_w]
     rfl
    refine one_ (i := 2) (N := some 24) (bm 5 7) rfl rfl (by kernel_rfl) (by decide) (fun K hK => ?_)
    refine goes_ Try.func15 (by kernel_rfl) rfl #[.agg #[.int .i64 a0_0, .slice A0_1 l0_1.length c0_1]] (by rfl) rfl rfl (by (try simp only [List.map_toArray, List.map_cons, List.map_nil]); first | done | rfl | (simp only [List.length_drop, List.length_take]; rfl)) ?_
    with_reducible refine (laws_toWeb.calls k a0_0 _ _ l0_1 t404 t405 _ ?side1 ?side2 A26.out).mono ?_
    (case side1 => exact qC_ HR0_1 HB)
    (case side2 => exact HC0_1.out)
    rintro e w44 ⟨v406, rfl, ho0, hb⟩
    refine ⟨_, rfl, ?_⟩
    have n0_ := Aside0.mk (Kd.R_elder' (qR_ HO396) (Kd.R_base ho0) hb)
    have n1_ := Aside0.mk (Kd.R_elder' (qR_ HO401) (Kd.R_base ho0) hb)
    have n2_ := Aside0.mk (Kd.R_lower (Kd.R_new' (Kd.R_new' ho0 (Kd.R_lt (qR_ HO396))) (Kd.R_lt (qR_ HO401))) (below_size qB_))
    have n3_ := Aside0.mk (blk_below (qk_ BK391) hb)
    have n4_ := Aside0.mk (blk_below (qk_ BK402) hb)
    have n5_ := Aside0.mk (below_step qB_ hb)
    clear HO396; clear HO401; clear BK391; clear BK402; clear HB; have HO396 := n0_; have HO401 := n1_; have HO407 := n2_; have BK391 := n3_; have BK402 := n4_; have HB := n5_; clear n0_ n1_ n2_ n3_ n4_ n5_; (try clear hb); (try clear hb2); (try clear hk); (try clear hi); (try clear ho0)
    obtain ⟨Ao45, co45, eo45⟩ := Kd.R_slice HO407.out
    (first | subst eo45 | (injection eo45 with f1_ f2_ f3_; have f4_ := f1_.symm; have f5_ := f3_.symm; clear f1_ f2_ f3_; subst f4_; subst f5_))
    refine hK.out _ _ ⟨(blk_cell BK402.out 0).trans rfl, (blk_cell BK402.out 1).trans rfl, (blk_cell BK391.out 0).trans rfl, (blk_cell BK391.out 1).trans rfl⟩ (fun hHeld => ?_)
    clear hK K
    refine norm_ (a' := ?_) ?_ ?_
    rotate_left
    ·show Act.put _ (some 24) _ = _
     simp only [Act.put, List.setIfInBounds_toArray, List.set_cons_zero, List.set_cons_succ, i64_w, i32_w]
     rfl
    refine one_ (i := 3) (N := some 25) (bm 5 15) rfl rfl (by kernel_rfl) (by decide) (fun K hK => ?_)
    refine goes_ Try.func17 (by kernel_rfl) rfl #[.agg #[.int .i64 t398, .slice Ao41 t399.length co41], .agg #[.int .i64 t404, .slice Ao45 t405.length co45]] (by rfl) rfl rfl (by (try simp only [List.map_toArray, List.map_cons, List.map_nil]); first | done | rfl | (simp only [List.length_drop, List.length_take]; rfl)) ?_
    with_reducible refine (laws_eqWeb.calls k t398 _ _ t399 t404 _ _ t405 true _ ?side1 ?side2 ?side3 ?side4 A27.out).mono ?_
    (case side1 => exact qD_ (Kd.R_reads' HO401.out).2.2)
    (case side2 => exact (Kd.R_reads' HO401.out).2.1)
    (case side3 => exact qD_ (Kd.R_reads' HO407.out).2.2)
    (case side4 => exact (Kd.R_reads' HO407.out).2.1)
    rintro e w46 ⟨rfl, hb⟩
    refine ⟨_, rfl, ?_⟩
    have n0_ := Aside0.mk (Kd.R_below (qR_ HO396) hb)
    have n1_ := Aside0.mk (Kd.R_below (qR_ HO401) hb)
    have n2_ := Aside0.mk (Kd.R_below (qR_ HO407) hb)
    have n3_ := Aside0.mk (blk_below (qk_ BK391) hb)
    have n4_ := Aside0.mk (blk_below (qk_ BK402) hb)
    have n5_ := Aside0.mk (below_step qB_ hb)
    clear HO396; clear HO401; clear HO407; clear BK391; clear BK402; clear HB; have HO396 := n0_; have HO401 := n1_; have HO407 := n2_; have BK391 := n3_; have BK402 := n4_; have HB := n5_; clear n0_ n1_ n2_ n3_ n4_ n5_; (try clear hb); (try clear hb2); (try clear hk); (try clear hi)
    refine hK.out _ _ ⟨(blk_cell BK402.out 0).trans rfl, (blk_cell BK402.out 1).trans rfl, (blk_cell BK391.out 0).trans rfl, (blk_cell BK391.out 1).trans rfl⟩ (fun hHeld => ?_)
    clear hK K
    refine norm_ (a' := ?_) ?_ ?_
    rotate_left
    ·show Act.put _ (some 25) _ = _
     simp only [Act.put, List.setIfInBounds_toArray, List.set_cons_zero, List.set_cons_succ, i64_w, i32_w]
     rfl
    refine pure_ (i := 4) (N := some 26) (v := ?_) (a' := ?_) (bm 5 31) rfl rfl (by kernel_rfl) (fun _ _ _ h => h) (Or.inl ⟨by rfl, ?_⟩) ?_ ?_
    rotate_left
    ·intro w'
     go_simp
     with_reducible rfl
    rotate_left
    ·simp only [Act.put, List.setIfInBounds_toArray, List.set_cons_zero, List.set_cons_succ, i64_w, i32_w]
     rfl
    refine done_ (by kernel_rfl) ?_
    try go_wp2
    go_ret
    exact ⟨qr_, qB_⟩
   ·replace c28 := Bool.eq_false_iff.mpr c28
    subst c28
    rw [if_neg (show ¬ (false = true) by decide)] at H
    exact absurd (Option.some.inj H) (by decide)

end Go.Proofs.Ytbkklafkoegdpaa.QFnExactWebOk
