-- printed for this claim by a program of the session's own (no text of the kit's print)
import Derived.Test.YtacnlodcbbhahaaQFnExactEdgesOfx0
import Derived.Test.YtacnlodcbbhahaaQFnExactEdgesOfx1
namespace Go.Proofs.Ytacnlodcbbhahaa.QFnExactEdgesOf
open Go.RowKit Go.Proofs.YtacnlodcbbhahaaW.PrintWords Go.Proofs.YtacnlodcbbhahaaW.PrintLast Go.Proofs.YtacnlodcbbhahaaW.PrintMore
attribute [local go_sem] max2_int min2_int max_two min_two max_three min_three max_four min_four   -- for this text's walks alone
set_option linter.unusedVariables false
set_option linter.unusedSimpArgs false

attribute [local go_sem high] eqA112
/-! ### impl_hasEdge: function 90 -/
def impl_hasEdge.l0 : Nat → List (S112) → Int → Int → Int → Int → Option (Bool)
  | 0, _, _, _, _, _ => none
  | k + 1, x7, x8, x9, x313000, x313001 => if x9 < x8 then (if 0 ≤ x9 then (if x9 < (x7.length : Int) then (if (((rd_T112 x7 x9).f0) == x313000 && (((rd_T112 x7 x9).f1) == x313001)) = true then (some true) else (impl_hasEdge.l0 k x7 x8 (wrap64 (x9 + 1)) x313000 x313001)) else (none)) else (none)) else (some false)
def impl_hasEdge.f (k : Nat) (l0 : List (S112)) (a1_0 : Int) (a1_1 : Int) : Option (Bool) := impl_hasEdge.l0 k l0 (l0.length : Int) 0 a1_0 a1_1
theorem impl_hasEdge.mono_l : ∀ k, (∀ y0 y1 y2 y3 y4, LeO (impl_hasEdge.l0 k y0 y1 y2 y3 y4) (impl_hasEdge.l0 (k + 1) y0 y1 y2 y3 y4))
  | 0 => fun _ _ _ _ _ r h => by simp [impl_hasEdge.l0] at h
  | k + 1 => by
    have ih0 := impl_hasEdge.mono_l k
    · intro y0 y1 y2 y3 y4
      unfold impl_hasEdge.l0
      repeat' first
      | (with_reducible exact ih0 _ _ _ _ _)
      | (with_reducible exact LeO.refl _)
      | (with_reducible exact LeO.none _)
      | (with_reducible refine LeO.ite ?_ ?_)
      | (with_reducible refine LeO.bind ?_ (fun _ => ?_))
      | exact ih0 _ _ _ _ _
      | exact LeO.none _
      | refine LeO.ite ?_ ?_
      | refine LeO.bind ?_ (fun _ => ?_)
theorem impl_hasEdge.mono : ∀ a0 a1 a2 k, LeO (impl_hasEdge.f k a0 a1 a2) (impl_hasEdge.f (k + 1) a0 a1 a2) := by
  intro a0 a1 a2 k
  have ih0 := impl_hasEdge.mono_l k
  unfold impl_hasEdge.f
  repeat' first
      | (with_reducible exact ih0 _ _ _ _ _)
      | (with_reducible exact LeO.refl _)
      | (with_reducible exact LeO.none _)
      | (with_reducible refine LeO.ite ?_ ?_)
      | (with_reducible refine LeO.bind ?_ (fun _ => ?_))
      | exact ih0 _ _ _ _ _
      | exact LeO.none _
      | refine LeO.ite ?_ ?_
      | refine LeO.bind ?_ (fun _ => ?_)
set_option maxHeartbeats 8000000 in
set_option maxRecDepth 100000 in
theorem impl_hasEdge.calls (k : Nat) (A0 : Option Addr) (c0 : Nat) (l0 : List (S112)) (a1_0 : Int) (a1_1 : Int) (r : Bool) (w : World) (hr0 : Kd.C k112 w A0 l0.length l0) (hc0 : l0.length ≤ c0) (h : impl_hasEdge.f k l0 a1_0 a1_1 = some r) :
  Calls Try.prog 90 #[.slice A0 l0.length c0, .agg #[.int .i64 a1_0, .int .i64 a1_1]] w fun e w' => e = .returned (.bool r) ∧ Below w.heap.size w w' := by
 have hu112 := Try.underlying112
 have HR0 := Aside0.mk hr0
 have HC0 := Aside0.mk hc0
 clear hr0 hc0
 have HB := Aside0.mk (Below.refl w.heap.size w)
 have H : (impl_hasEdge.l0 k l0 (l0.length : Int) 0 a1_0 a1_1) = some r := h
 clear h; have H' := Aside0.mk H; clear H
 go_enter Try.func90, Try.ntmps90
 go_wp2_with (first | ((with_reducible refine gate_dst (N := 3) rfl ?_); refine bx_ 3 (cs := #[.int .i64 a1_0, .int .i64 a1_1]) (t := 112) ?_; intro gb312 hg w3 hbox hb; have BK312 := Aside0.mk (hbox); have GW312 := Aside0.mk ((qs_ : w.heap.size ≤ gb312)); have GE312 := Aside0.mk ((qs_ : w.heap.size ≤ gb312)); replace HB := Aside0.mk (below_step qB_ hb); clear hb hbox hg))
 go_loopg [9] k (fun kq v9 w' => ∃ (x9_1 : Int), v9 = .int .i64 x9_1 ∧ Aside0 (impl_hasEdge.l0 kq l0 (l0.length : Int) x9_1 a1_0 a1_1 = some r) ∧ Aside0 (kq ≤ k) ∧ Aside0 (w'.heap[gb312]? = some (.cells #[.int .i64 a1_0, .int .i64 a1_1] 112 (0, 0))) ∧ Aside0 (Below w.heap.size w w'))
 case atStart => exact ⟨(0), qe_, H', ⟨Nat.le_refl _⟩, ⟨qk_ BK312⟩, ⟨qB_⟩⟩
 case round =>
  clear H'
  (try clear p2)
  obtain ⟨x9_1, rfl, HA, HK1, BK312, HB⟩ := hrel
  cases gk with
  | zero => exact absurd HA.out (by simp [impl_hasEdge.l0])
  | succ k1 =>
   have H := HA.out; clear HA
   simp only [impl_hasEdge.l0] at H
   by_cases c4 : x9_1 < (l0.length : Int)
   ·rw [if_pos c4] at H
    have c4b0 : decide (x9_1 < (l0.length : Int)) = true := decide_eq_true c4
    clear c4
    by_cases c5 : 0 ≤ x9_1
    ·rw [if_pos c5] at H
     have c5b0 : decide (0 ≤ x9_1) = true := decide_eq_true c5
     clear c5
     by_cases c6 : x9_1 < (l0.length : Int)
     ·rw [if_pos c6] at H
      have c6b0 : decide (x9_1 < (l0.length : Int)) = true := decide_eq_true c6
      clear c6
      by_cases c7 : (((rd_T112 l0 x9_1).f0) == a1_0 && (((rd_T112 l0 x9_1).f1) == a1_1)) = true
      ·rw [if_pos c7] at H
       have c7b0 : (((rd_T112 l0 x9_1).f0) == a1_0 && (((rd_T112 l0 x9_1).f1) == a1_1)) = true := c7
       (try (have c7b1 : decide (((rd_T112 l0 x9_1).f0) = a1_0 && (((rd_T112 l0 x9_1).f1) == a1_1)) = true := by simpa using c7))
       (try (have c7b2 : (((rd_T112 l0 x9_1).f0) == a1_0 && (((rd_T112 l0 x9_1).f1) == a1_1)) = true := by simpa using c7))
       clear c7
       obtain rfl := Option.some.inj H
       have p313 : 0 ≤ (x9_1 : Int) := of_decide_eq_true qa_
       have q313 : x9_1 < (l0.length : Int) := of_decide_eq_true qa_
       obtain ⟨ad313, e313, hx313_0, hx313_1⟩ := at_T112 HR0.out x9_1 p313 q313
       cases e313
       replace hx313_0 := (HB.out.cell (World.block_lt_of_cell? w _ hx313_0)).trans hx313_0
       replace hx313_1 := (HB.out.cell (World.block_lt_of_cell? w _ hx313_1)).trans hx313_1
       replace p313 := eq_true p313; replace q313 := eq_true q313
       go_wp2_with (first | ((with_reducible refine gate_dst (N := 6) rfl ?_); refine bx_ 6 (cs := #[.int .i64 0, .int .i64 0]) (t := 112) ?_; intro gb314 hg w8 hbox hb; have BK314 := Aside0.mk (hbox); have GW314 := Aside0.mk ((qs_ : w.heap.size ≤ gb314)); have GE314 := Aside0.mk ((qs_ : w.heap.size ≤ gb314)); have NB312_314 := Aside0.mk ((by rw [hg]; exact Nat.ne_of_lt (blk_lt (qk_ BK312)) : gb312 ≠ gb314)); have NB314_312 := Aside0.mk ((by rw [hg]; exact Nat.ne_of_gt (blk_lt (qk_ BK312)) : gb314 ≠ gb312)); replace BK312 := Aside0.mk (blk_below (qk_ BK312) hb); replace HB := Aside0.mk (below_step qB_ hb); clear hb hbox hg; have hnb9 := NB314_312.out; have hnc9 := NB312_314.out; obtain ⟨hcz10_0, hcz10_1, hfz10_0, hfz10_1⟩ := bc2_ BK314; obtain ⟨hcz11_0, hcz11_1, hfz11_0, hfz11_1⟩ := bc2_ BK312))
       go_ret
       exact ⟨qr_, qB_⟩
      ·rw [if_neg c7] at H
       have c7b0 : (((rd_T112 l0 x9_1).f0) == a1_0 && (((rd_T112 l0 x9_1).f1) == a1_1)) = false := by simpa using c7
       (try (have c7b1 : decide (((rd_T112 l0 x9_1).f0) = a1_0 && (((rd_T112 l0 x9_1).f1) == a1_1)) = false := by simpa using c7))
       (try (have c7b2 : (((rd_T112 l0 x9_1).f0) == a1_0 && (((rd_T112 l0 x9_1).f1) == a1_1)) = false := by simpa using c7))
       (try (have c7b3 : ¬ (((rd_T112 l0 x9_1).f0) = a1_0 && (((rd_T112 l0 x9_1).f1) == a1_1)) := by simpa using c7))
       clear c7; have H' := Aside0.mk H; clear H
       have p313 : 0 ≤ (x9_1 : Int) := of_decide_eq_true qa_
       have q313 : x9_1 < (l0.length : Int) := of_decide_eq_true qa_
       obtain ⟨ad313, e313, hx313_0, hx313_1⟩ := at_T112 HR0.out x9_1 p313 q313
       cases e313
       replace hx313_0 := (HB.out.cell (World.block_lt_of_cell? w _ hx313_0)).trans hx313_0
       replace hx313_1 := (HB.out.cell (World.block_lt_of_cell? w _ hx313_1)).trans hx313_1
       replace p313 := eq_true p313; replace q313 := eq_true q313
       go_wp2_with (first | ((with_reducible refine gate_dst (N := 6) rfl ?_); refine bx_ 6 (cs := #[.int .i64 0, .int .i64 0]) (t := 112) ?_; intro gb314 hg w12 hbox hb; have BK314 := Aside0.mk (hbox); have GW314 := Aside0.mk ((qs_ : w.heap.size ≤ gb314)); have GE314 := Aside0.mk ((qs_ : w.heap.size ≤ gb314)); have NB312_314 := Aside0.mk ((by rw [hg]; exact Nat.ne_of_lt (blk_lt (qk_ BK312)) : gb312 ≠ gb314)); have NB314_312 := Aside0.mk ((by rw [hg]; exact Nat.ne_of_gt (blk_lt (qk_ BK312)) : gb314 ≠ gb312)); replace BK312 := Aside0.mk (blk_below (qk_ BK312) hb); replace HB := Aside0.mk (below_step qB_ hb); clear hb hbox hg; have hnb13 := NB314_312.out; have hnc13 := NB312_314.out; obtain ⟨hcz14_0, hcz14_1, hfz14_0, hfz14_1⟩ := bc2_ BK314; obtain ⟨hcz15_0, hcz15_1, hfz15_0, hfz15_1⟩ := bc2_ BK312))
       go_roundg k1
       case measure => have := HK1.out; omega
       case rel => exact ⟨(wrap64 (x9_1 + 1)), qe_, H', ⟨by have := HK1.out; omega⟩, ⟨by (with_reducible repeat (first | refine blk_drewN ?_ _ | refine blk_drew ?_ | refine blk_alloc ?_ _)); refine blk_far ?_ NB312_314.out _; (with_reducible repeat (first | refine blk_drewN ?_ _ | refine blk_drew ?_ | refine blk_alloc ?_ _)); refine blk_far ?_ NB312_314.out _; (with_reducible repeat (first | refine blk_drewN ?_ _ | refine blk_drew ?_ | refine blk_alloc ?_ _)); exact BK312.out⟩, ⟨qB_⟩⟩
     ·rw [if_neg c6] at H
      exact absurd H (by simp)
    ·rw [if_neg c5] at H
     exact absurd H (by simp)
   ·rw [if_neg c4] at H
    have c4b0 : decide (x9_1 < (l0.length : Int)) = false := decide_eq_false c4
    clear c4
    obtain rfl := Option.some.inj H
    go_wp2
    go_ret
    exact ⟨qr_, qB_⟩

/-! ### impl_ahead: function 112 -/
def impl_ahead.f (a0_0 : Int) (a0_1 : Int) (a1_0 : Int) (a1_1 : Int) : Option (Bool) := if a0_0 < a1_0 then (some true) else (if a0_0 = a1_0 then (some (decide (a0_1 < a1_1))) else (some false))
set_option maxHeartbeats 8000000 in
set_option maxRecDepth 100000 in
theorem impl_ahead.calls (a0_0 : Int) (a0_1 : Int) (a1_0 : Int) (a1_1 : Int) (r : Bool) (w : World) (h : impl_ahead.f a0_0 a0_1 a1_0 a1_1 = some r) :
  Calls Try.prog 112 #[.agg #[.int .i64 a0_0, .int .i64 a0_1], .agg #[.int .i64 a1_0, .int .i64 a1_1]] w fun e w' => e = .returned (.bool r) ∧ Below w.heap.size w w' := by
 have hu112 := Try.underlying112
 have HB := Aside0.mk (Below.refl w.heap.size w)
 have H : (if a0_0 < a1_0 then (some true) else (if a0_0 = a1_0 then (some (decide (a0_1 < a1_1))) else (some false))) = some r := h
 clear h
 by_cases c3 : a0_0 < a1_0
 ·rw [if_pos c3] at H
  have c3b0 : decide (a0_0 < a1_0) = true := decide_eq_true c3
  clear c3
  obtain rfl := Option.some.inj H
  go_enter Try.func112, Try.ntmps112
  go_wp2_with (first | ((with_reducible refine gate_dst (N := 2) rfl ?_); refine bx_ 2 (cs := #[.int .i64 a0_0, .int .i64 a0_1]) (t := 112) ?_; intro gb315 hg w4 hbox hb; have BK315 := Aside0.mk (hbox); have GW315 := Aside0.mk ((qs_ : w.heap.size ≤ gb315)); have GE315 := Aside0.mk ((qs_ : w.heap.size ≤ gb315)); replace HB := Aside0.mk (below_step qB_ hb); clear hb hbox hg) | ((with_reducible refine gate_dst (N := 3) rfl ?_); refine bx_ 3 (cs := #[.int .i64 a1_0, .int .i64 a1_1]) (t := 112) ?_; intro gb316 hg w5 hbox hb; have BK316 := Aside0.mk (hbox); have GW316 := Aside0.mk ((qs_ : w.heap.size ≤ gb316)); have GE316 := Aside0.mk ((qs_ : w.heap.size ≤ gb316)); have NB315_316 := Aside0.mk ((by rw [hg]; exact Nat.ne_of_lt (blk_lt (qk_ BK315)) : gb315 ≠ gb316)); have NB316_315 := Aside0.mk ((by rw [hg]; exact Nat.ne_of_gt (blk_lt (qk_ BK315)) : gb316 ≠ gb315)); replace BK315 := Aside0.mk (blk_below (qk_ BK315) hb); replace HB := Aside0.mk (below_step qB_ hb); clear hb hbox hg; have hnb6 := NB315_316.out; have hnc6 := NB316_315.out; obtain ⟨hcz7_0, hcz7_1, hfz7_0, hfz7_1⟩ := bc2_ BK315; obtain ⟨hcz8_0, hcz8_1, hfz8_0, hfz8_1⟩ := bc2_ BK316))
  go_ret
  exact ⟨qr_, qB_⟩
 ·rw [if_neg c3] at H
  have c3b0 : decide (a0_0 < a1_0) = false := decide_eq_false c3
  clear c3
  by_cases c9 : a0_0 = a1_0
  ·rw [if_pos c9] at H
   have c9b0 : (a0_0 == a1_0) = true := beq_iff_eq.mpr c9
   have c9b1 : (a0_0 != a1_0) = false := bne_eq_false_iff_eq.mpr c9
   clear c9
   obtain rfl := Option.some.inj H
   go_enter Try.func112, Try.ntmps112
   go_wp2_with (first | ((with_reducible refine gate_dst (N := 2) rfl ?_); refine bx_ 2 (cs := #[.int .i64 a0_0, .int .i64 a0_1]) (t := 112) ?_; intro gb315 hg w10 hbox hb; have BK315 := Aside0.mk (hbox); have GW315 := Aside0.mk ((qs_ : w.heap.size ≤ gb315)); have GE315 := Aside0.mk ((qs_ : w.heap.size ≤ gb315)); replace HB := Aside0.mk (below_step qB_ hb); clear hb hbox hg) | ((with_reducible refine gate_dst (N := 3) rfl ?_); refine bx_ 3 (cs := #[.int .i64 a1_0, .int .i64 a1_1]) (t := 112) ?_; intro gb316 hg w11 hbox hb; have BK316 := Aside0.mk (hbox); have GW316 := Aside0.mk ((qs_ : w.heap.size ≤ gb316)); have GE316 := Aside0.mk ((qs_ : w.heap.size ≤ gb316)); have NB315_316 := Aside0.mk ((by rw [hg]; exact Nat.ne_of_lt (blk_lt (qk_ BK315)) : gb315 ≠ gb316)); have NB316_315 := Aside0.mk ((by rw [hg]; exact Nat.ne_of_gt (blk_lt (qk_ BK315)) : gb316 ≠ gb315)); replace BK315 := Aside0.mk (blk_below (qk_ BK315) hb); replace HB := Aside0.mk (below_step qB_ hb); clear hb hbox hg; have hnb12 := NB315_316.out; have hnc12 := NB316_315.out; obtain ⟨hcz13_0, hcz13_1, hfz13_0, hfz13_1⟩ := bc2_ BK315; obtain ⟨hcz14_0, hcz14_1, hfz14_0, hfz14_1⟩ := bc2_ BK316))
   go_ret
   exact ⟨qr_, qB_⟩
  ·rw [if_neg c9] at H
   have c9b0 : (a0_0 == a1_0) = false := beq_eq_false_iff_ne.mpr c9
   have c9b1 : (a0_0 != a1_0) = true := bne_iff_ne.mpr c9
   obtain rfl := Option.some.inj H
   go_enter Try.func112, Try.ntmps112
   go_wp2_with (first | ((with_reducible refine gate_dst (N := 2) rfl ?_); refine bx_ 2 (cs := #[.int .i64 a0_0, .int .i64 a0_1]) (t := 112) ?_; intro gb315 hg w15 hbox hb; have BK315 := Aside0.mk (hbox); have GW315 := Aside0.mk ((qs_ : w.heap.size ≤ gb315)); have GE315 := Aside0.mk ((qs_ : w.heap.size ≤ gb315)); replace HB := Aside0.mk (below_step qB_ hb); clear hb hbox hg) | ((with_reducible refine gate_dst (N := 3) rfl ?_); refine bx_ 3 (cs := #[.int .i64 a1_0, .int .i64 a1_1]) (t := 112) ?_; intro gb316 hg w16 hbox hb; have BK316 := Aside0.mk (hbox); have GW316 := Aside0.mk ((qs_ : w.heap.size ≤ gb316)); have GE316 := Aside0.mk ((qs_ : w.heap.size ≤ gb316)); have NB315_316 := Aside0.mk ((by rw [hg]; exact Nat.ne_of_lt (blk_lt (qk_ BK315)) : gb315 ≠ gb316)); have NB316_315 := Aside0.mk ((by rw [hg]; exact Nat.ne_of_gt (blk_lt (qk_ BK315)) : gb316 ≠ gb315)); replace BK315 := Aside0.mk (blk_below (qk_ BK315) hb); replace HB := Aside0.mk (below_step qB_ hb); clear hb hbox hg; have hnb17 := NB315_316.out; have hnc17 := NB316_315.out; obtain ⟨hcz18_0, hcz18_1, hfz18_0, hfz18_1⟩ := bc2_ BK315; obtain ⟨hcz19_0, hcz19_1, hfz19_0, hfz19_1⟩ := bc2_ BK316))
   go_ret
   exact ⟨qr_, qB_⟩

end Go.Proofs.Ytacnlodcbbhahaa.QFnExactEdgesOf
