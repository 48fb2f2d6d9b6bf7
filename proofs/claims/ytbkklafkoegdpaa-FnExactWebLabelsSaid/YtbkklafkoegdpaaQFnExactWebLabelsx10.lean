-- printed for this claim by a program of the session's own (no text of the kit's print)
import Derived.Test.YtbkklafkoegdpaaQFnExactWebLabelsx0
import Derived.Test.YtbkklafkoegdpaaQFnExactWebLabelsx5
import Derived.Test.YtbkklafkoegdpaaQFnExactWebLabelsx9
namespace Go.Proofs.Ytbkklafkoegdpaa.QFnExactWebLabels
open Go.RowKit Go.Proofs.YtbkklafkoegdpaaW.PrintWords Go.Proofs.YtbkklafkoegdpaaW.PrintLast Go.Proofs.YtbkklafkoegdpaaW.PrintMore
attribute [local go_sem] max2_int min2_int max_two min_two max_three min_three max_four min_four   -- for this text's walks alone
set_option linter.unusedVariables false
set_option linter.unusedSimpArgs false

/-! ### spec_TreeOf: function 60 -/
def spec_TreeOf.l0 : Nat → Int → Int → Int → List (List Int) → Option (Int)
  | 0, _, _, _, _ => none
  | k + 1, x1, x5, x276000, x276001 => if x5 < (x276001.length : Int) then (if 0 ≤ x5 then ((spec_l05In.f k (rd_L5 x276001 x5) x1).bind fun t278 => (if t278 = true then (some x5) else (spec_TreeOf.l0 k x1 (wrap64 (x5 + 1)) x276000 x276001))) else (none)) else (some (-1))
def spec_TreeOf.f (k : Nat) (a0_0 : Int) (l0_1 : List (List Int)) (a1 : Int) : Option (Int) := (spec_ForestOk.f k a0_0 l0_1).bind fun t276 => (if t276 = true then (spec_TreeOf.l0 k a1 0 a0_0 l0_1) else (some (-1)))
theorem spec_TreeOf.mono_l : ∀ k, (∀ y0 y1 y2 y3, LeO (spec_TreeOf.l0 k y0 y1 y2 y3) (spec_TreeOf.l0 (k + 1) y0 y1 y2 y3))
  | 0 => fun _ _ _ _ r h => by simp [spec_TreeOf.l0] at h
  | k + 1 => by
    have ih0 := spec_TreeOf.mono_l k
    · intro y0 y1 y2 y3
      unfold spec_TreeOf.l0
      repeat' first
      | (with_reducible exact ih0 _ _ _ _)
      | (with_reducible exact spec_ForestOk.mono _ _ _)
      | (with_reducible exact spec_l05In.mono _ _ _)
      | (with_reducible exact LeO.refl _)
      | (with_reducible exact LeO.none _)
      | (with_reducible refine LeO.ite ?_ ?_)
      | (with_reducible refine LeO.bind ?_ (fun _ => ?_))
      | exact ih0 _ _ _ _
      | exact spec_ForestOk.mono _ _ _
      | exact spec_l05In.mono _ _ _
      | exact LeO.none _
      | refine LeO.ite ?_ ?_
      | refine LeO.bind ?_ (fun _ => ?_)
theorem spec_TreeOf.mono : ∀ a0 a1 a2 k, LeO (spec_TreeOf.f k a0 a1 a2) (spec_TreeOf.f (k + 1) a0 a1 a2) := by
  intro a0 a1 a2 k
  have ih0 := spec_TreeOf.mono_l k
  unfold spec_TreeOf.f
  repeat' first
      | (with_reducible exact ih0 _ _ _ _)
      | (with_reducible exact spec_ForestOk.mono _ _ _)
      | (with_reducible exact spec_l05In.mono _ _ _)
      | (with_reducible exact LeO.refl _)
      | (with_reducible exact LeO.none _)
      | (with_reducible refine LeO.ite ?_ ?_)
      | (with_reducible refine LeO.bind ?_ (fun _ => ?_))
      | exact ih0 _ _ _ _
      | exact spec_ForestOk.mono _ _ _
      | exact spec_l05In.mono _ _ _
      | exact LeO.none _
      | refine LeO.ite ?_ ?_
      | refine LeO.bind ?_ (fun _ => ?_)
set_option maxHeartbeats 8000000 in
set_option maxRecDepth 100000 in
theorem spec_TreeOf.calls (k : Nat) (a0_0 : Int) (A0_1 : Option Addr) (c0_1 : Nat) (l0_1 : List (List Int)) (a1 : Int) (r : Int) (w : World) (hr0_1 : Kd.C (Kd.slice 3 (Kd.int .i64)) w A0_1 l0_1.length l0_1) (hc0_1 : l0_1.length ≤ c0_1) (h : spec_TreeOf.f k a0_0 l0_1 a1 = some r) :
  Calls Try.prog 60 #[.agg #[.int .i64 a0_0, .slice A0_1 l0_1.length c0_1], .int .i64 a1] w fun e w' => e = .returned (.int .i64 r) ∧ Below w.heap.size w w' := by
 have hu39 := Try.underlying39
 have HR0_1 := Aside0.mk hr0_1
 have HC0_1 := Aside0.mk hc0_1
 clear hr0_1 hc0_1
 have HB := Aside0.mk (Below.refl w.heap.size w)
 have H : ((spec_ForestOk.f k a0_0 l0_1).bind fun t276 => (if t276 = true then (spec_TreeOf.l0 k a1 0 a0_0 l0_1) else (some (-1)))) = some r := h
 clear h
 obtain ⟨t276, A30, H⟩ := Option.bind_eq_some_iff.mp H; have A3 := Aside0.mk A30; clear A30
 by_cases c4 : t276 = true
 ·subst c4
  rw [if_pos rfl] at H; have H' := Aside0.mk H; clear H
  go_enter Try.func60, Try.ntmps60
  go_wp2_with (first | ((with_reducible refine gate_dst (N := 2) rfl ?_); refine bx_ 2 (cs := #[.int .i64 a0_0, .slice A0_1 l0_1.length c0_1]) (t := 39) ?_; intro gb275 hg w5 hbox hb; have BK275 := Aside0.mk (hbox); have GW275 := Aside0.mk ((qs_ : w.heap.size ≤ gb275)); have GE275 := Aside0.mk ((qs_ : w.heap.size ≤ gb275)); replace HB := Aside0.mk (below_step qB_ hb); clear hb hbox hg; obtain ⟨hcz6_0, hcz6_1, hfz6_0, hfz6_1⟩ := bc2_ BK275) | ((with_reducible refine gate_callee (f := 51) rfl ?_); refine gl_ (some 7) Try.func51 #[.agg #[.int .i64 a0_0, .slice A0_1 l0_1.length c0_1]] ?_; (with_reducible refine (spec_ForestOk.calls k a0_0 _ _ l0_1 true _ ?side1 ?side2 A3.out).mono ?_); (case side1 => exact qC_ HR0_1 HB); (case side2 => exact HC0_1.out); rintro e w7 ⟨rfl, hb⟩; refine ⟨_, rfl, ?_⟩; replace BK275 := Aside0.mk (blk_below (qk_ BK275) hb); replace HB := Aside0.mk (below_step qB_ hb); (try clear hb); (try clear hb2); (try clear hk); (try clear hi)))
  go_loopg [5] k (fun kq v5 w' => ∃ (x5_1 : Int), v5 = .int .i64 x5_1 ∧ Aside0 (spec_TreeOf.l0 kq a1 x5_1 a0_0 l0_1 = some r) ∧ Aside0 (kq ≤ k) ∧ Aside0 (w'.heap[gb275]? = some (.cells #[.int .i64 a0_0, (.slice A0_1 l0_1.length c0_1)] 39 (0, 0))) ∧ Aside0 (Below w.heap.size w w'))
  case atStart => exact ⟨(0), qe_, H', ⟨Nat.le_refl _⟩, ⟨qk_ BK275⟩, ⟨qB_⟩⟩
  case round =>
   clear H'
   (try clear p2); (try clear c4); (try clear c5); (try clear c6); (try clear hcz6_0); (try clear hcz6_1); (try clear hfz6_0); (try clear hfz6_1)
   obtain ⟨x5_1, rfl, HA, HK1, BK275, HB⟩ := hrel
   cases gk with
   | zero => exact absurd HA.out (by simp [spec_TreeOf.l0])
   | succ k1 =>
    have H := HA.out; clear HA
    simp only [spec_TreeOf.l0] at H
    by_cases c8 : x5_1 < (l0_1.length : Int)
    ·rw [if_pos c8] at H
     have c8b0 : decide (x5_1 < (l0_1.length : Int)) = true := decide_eq_true c8
     clear c8
     by_cases c9 : 0 ≤ x5_1
     ·rw [if_pos c9] at H
      have c9b0 : decide (0 ≤ x5_1) = true := decide_eq_true c9
      clear c9
      obtain ⟨t278, A100, H⟩ := Option.bind_eq_some_iff.mp H; have A10 := Aside0.mk A100; clear A100
      by_cases c11 : t278 = true
      ·subst c11
       rw [if_pos rfl] at H
       obtain rfl := Option.some.inj H
       obtain ⟨hcz12_0, hcz12_1, hfz12_0, hfz12_1⟩ := bc2_ BK275
       have p277 : 0 ≤ (x5_1 : Int) := of_decide_eq_true qa_
       have q277 : x5_1 < (l0_1.length : Int) := of_decide_eq_true qa_
       obtain ⟨ad277, A277_0, c277_0, e277, hx277_0, hl277_0, hi277_0⟩ := at_L5 HR0_1.out x5_1 p277 q277
       cases e277
       replace hx277_0 := (HB.out.cell (World.block_lt_of_cell? w _ hx277_0)).trans hx277_0
       have HR277_0 := Aside0.mk hi277_0
       have HC277_0 := Aside0.mk hl277_0
       clear hi277_0 hl277_0; replace p277 := eq_true p277; replace q277 := eq_true q277
       go_wp2_with (first | ((with_reducible refine gate_callee (f := 105) rfl ?_); refine gl_ (some 22) Try.func105 #[.slice A277_0 (rd_L5 l0_1 x5_1).length c277_0, .int .i64 a1] ?_; (with_reducible refine (spec_l05In.calls k1 _ _ (rd_L5 l0_1 x5_1) a1 true _ ?side1 ?side2 A10.out).mono ?_); (case side1 => exact qC_ HR277_0 HB); (case side2 => exact HC277_0.out); rintro e w' ⟨rfl, ⟨nd, rfl⟩⟩; refine ⟨_, rfl, ?_⟩))
       go_ret
       exact ⟨qr_, qB_⟩
      ·replace c11 := Bool.eq_false_iff.mpr c11
       subst c11
       rw [if_neg (show ¬ (false = true) by decide)] at H; have H' := Aside0.mk H; clear H
       obtain ⟨hcz13_0, hcz13_1, hfz13_0, hfz13_1⟩ := bc2_ BK275
       have p277 : 0 ≤ (x5_1 : Int) := of_decide_eq_true qa_
       have q277 : x5_1 < (l0_1.length : Int) := of_decide_eq_true qa_
       obtain ⟨ad277, A277_0, c277_0, e277, hx277_0, hl277_0, hi277_0⟩ := at_L5 HR0_1.out x5_1 p277 q277
       cases e277
       replace hx277_0 := (HB.out.cell (World.block_lt_of_cell? w _ hx277_0)).trans hx277_0
       have HR277_0 := Aside0.mk hi277_0
       have HC277_0 := Aside0.mk hl277_0
       clear hi277_0 hl277_0; replace p277 := eq_true p277; replace q277 := eq_true q277
       go_wp2_with (first | ((with_reducible refine gate_callee (f := 105) rfl ?_); refine gl_ (some 22) Try.func105 #[.slice A277_0 (rd_L5 l0_1 x5_1).length c277_0, .int .i64 a1] ?_; (with_reducible refine (spec_l05In.calls k1 _ _ (rd_L5 l0_1 x5_1) a1 false _ ?side1 ?side2 A10.out).mono ?_); (case side1 => exact qC_ HR277_0 HB); (case side2 => exact HC277_0.out); rintro e w' ⟨rfl, ⟨nd, rfl⟩⟩; refine ⟨_, rfl, ?_⟩))
       go_roundg k1
       case measure => have := HK1.out; omega
       case rel => exact ⟨(wrap64 (x5_1 + 1)), qe_, H', ⟨by have := HK1.out; omega⟩, ⟨qk_ BK275⟩, ⟨qB_⟩⟩
     ·rw [if_neg c9] at H
      exact absurd H (by simp)
    ·rw [if_neg c8] at H
     have c8b0 : decide (x5_1 < (l0_1.length : Int)) = false := decide_eq_false c8
     clear c8
     obtain rfl := Option.some.inj H
     obtain ⟨hcz14_0, hcz14_1, hfz14_0, hfz14_1⟩ := bc2_ BK275
     go_wp2
     go_ret
     exact ⟨qr_, qB_⟩
 ·replace c4 := Bool.eq_false_iff.mpr c4
  subst c4
  rw [if_neg (show ¬ (false = true) by decide)] at H
  obtain rfl := Option.some.inj H
  go_enter Try.func60, Try.ntmps60
  go_wp2_with (first | ((with_reducible refine gate_dst (N := 2) rfl ?_); refine bx_ 2 (cs := #[.int .i64 a0_0, .slice A0_1 l0_1.length c0_1]) (t := 39) ?_; intro gb275 hg w15 hbox hb; have BK275 := Aside0.mk (hbox); have GW275 := Aside0.mk ((qs_ : w.heap.size ≤ gb275)); have GE275 := Aside0.mk ((qs_ : w.heap.size ≤ gb275)); replace HB := Aside0.mk (below_step qB_ hb); clear hb hbox hg; obtain ⟨hcz16_0, hcz16_1, hfz16_0, hfz16_1⟩ := bc2_ BK275) | ((with_reducible refine gate_callee (f := 51) rfl ?_); refine gl_ (some 7) Try.func51 #[.agg #[.int .i64 a0_0, .slice A0_1 l0_1.length c0_1]] ?_; (with_reducible refine (spec_ForestOk.calls k a0_0 _ _ l0_1 false _ ?side1 ?side2 A3.out).mono ?_); (case side1 => exact qC_ HR0_1 HB); (case side2 => exact HC0_1.out); rintro e w17 ⟨rfl, hb⟩; refine ⟨_, rfl, ?_⟩; replace BK275 := Aside0.mk (blk_below (qk_ BK275) hb); replace HB := Aside0.mk (below_step qB_ hb); (try clear hb); (try clear hb2); (try clear hk); (try clear hi)))
  go_ret
  exact ⟨qr_, qB_⟩

end Go.Proofs.Ytbkklafkoegdpaa.QFnExactWebLabels
